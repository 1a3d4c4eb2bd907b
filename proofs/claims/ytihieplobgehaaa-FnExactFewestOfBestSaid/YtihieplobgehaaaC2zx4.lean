import Derived.Test.YtihieplobgehaaaC2zx0
import Derived.Test.YtihieplobgehaaaC2zx3
import Derived.Test.YtihieplobgehaaaC2zAl
namespace Go.Proofs.Ytihieplobgehaaa.C2
open Go.RowKit Go.Proofs.YtihieplobgehaaaW.PrintWords Go.Proofs.YtihieplobgehaaaW.PrintLast Go.Proofs.YtihieplobgehaaaW.PrintMore Go.Proofs.Ytihieplobgehaaa.H
attribute [local go_sem] max2_int min2_int max_two min_two max_three min_three max_four min_four
set_option linter.unusedVariables false
set_option linter.unusedSimpArgs false
mutual
def spec_paGroups.j0:Nat→List Int→List Int→Int→Int→List (List Int)→Option ((List (List Int)))
 | 0,_,_,_,_,_=>none
 | k+1,x0,x1,x2,x3,x9=>if (x1.length:Int)=x3 then (some x9) else (spec_paGroups.l0 k x0 x1 x3 x9 x2)
def spec_paGroups.l0:Nat→List Int→List Int→Int→List (List Int)→Int→Option ((List (List Int)))
 | 0,_,_,_,_,_=>none
 | k+1,x0,x1,x3,x9,x10=>if x10 < (x0.length:Int) then ((spec_l1Own.f x1).bind fun t144=>(if 0≤x10 then ((some (([rd x0 x10]:List Int):List Int)).bind fun y148=>(if t144.length+y148.length < 17592186044416 then ((spec_paGroups.f k x0 (t144 ++ y148) (wrap64 (x10+1)) x3).bind fun t154=>(if x9.length+t154.length < 5864062014805 then (spec_paGroups.l0 k x0 x1 x3 (x9 ++ t154) (wrap64 (x10+1))) else (none))) else (none))) else (none))) else (some x9)
def spec_paGroups.f:Nat→List Int→List Int→Int→Int→Option ((List (List Int)))
 | 0,_,_,_,_=>none
 | k+1,l0,l1,a2,a3=>if (l1.length:Int) > 0 then ((spec_l1Own.f l1).bind fun t135=>((some (([t135]:List (List Int)):List (List Int))).bind fun y138=>(if ([]:List (List Int)).length+y138.length < 5864062014805 then (spec_paGroups.j0 k l0 l1 a2 a3 (([]:List (List Int)) ++ y138)) else (none)))) else (spec_paGroups.j0 k l0 l1 a2 a3 ([]:List (List Int)))
end
def spec_paGroups.T9:Bool × List (List Nat × List Nat):=(true,[([],[]),([],[]),([],[]),([2],[2]),([],[]),([],[]),([4,5],[4,5]),([6],[6]),([7],[7]),([3,8,3],[3,8]),([],[]),([10],[10]),([],[]),([1,9,11,12,9],[1,9,11,12]),([0,13,13],[0,13]),([14,14,0,1,2,3,4,5,6,7,8,9,10,11,12,13,14],[0,14])])
def spec_paGroups.B9:List Nat:=[0,0,0,4,0,0,48,112,240,508,0,1024,0,8190,16383,32767]
theorem spec_paGroups.tab9:rtab .any (opsOf Try.f67 9)=spec_paGroups.T9:=by kernel_rfl
theorem spec_paGroups.bits9:waitsOk spec_paGroups.T9.2 spec_paGroups.B9=true:=by kernel_rfl
set_option maxHeartbeats 8000000 in
set_option maxRecDepth 100000 in
theorem spec_paGroups.calls (k:Nat):∀ (A0:Option Addr) (c0:Nat) (l0:List Int) (A1:Option Addr) (c1:Nat) (l1:List Int) (a2:Int) (a3:Int) (r:List (List Int)) (w:World) (hr0:Kd.C (Kd.int .i64) w A0 l0.length l0) (hc0:l0.length≤c0) (hr1:Kd.C (Kd.int .i64) w A1 l1.length l1) (hc1:l1.length≤c1) (h:spec_paGroups.f k l0 l1 a2 a3=some r),
  Calls Try.prog 67 #[.slice A0 l0.length c0, .slice A1 l1.length c1, .int .i64 a2, .int .i64 a3] w fun e w'=>∃ v0_:Value,e = .returned (v0_)∧Kd.N (Kd.slice 3 (Kd.int .i64)) 22 w' w.heap.size (fun k_=>(w.heap.size≤k_)) v0_ r∧Below w.heap.size w w':=by
 induction k using Nat.strongRecOn with
 | _ k ih =>
 intro A0 c0 l0 A1 c1 l1 a2 a3 r w hr0 hc0 hr1 hc1 h;cases k with
 | zero=>exact absurd h (by simp[spec_paGroups.f])
 | succ k =>
 simp only[spec_paGroups.f] at h
 have HR0:=am' hr0
 have HC0:=am' hc0
 clear hr0 hc0;have HR1:=am' hr1
 have HC1:=am' hc1
 clear hr1 hc1;have HB:=am' (Below.refl w.heap.size w)
 have H:(if (l1.length:Int) > 0 then ((spec_l1Own.f l1).bind fun t135=>((some (([t135]:List (List Int)):List (List Int))).bind fun y138=>(if ([]:List (List Int)).length+y138.length < 5864062014805 then (spec_paGroups.j0 k l0 l1 a2 a3 (([]:List (List Int)) ++ y138)) else (none)))) else (spec_paGroups.j0 k l0 l1 a2 a3 ([]:List (List Int))))=some r:=h
 clear h;have HC5:=am' H
 clear H;go_enter Try.func67,Try.ntmps67
 go_upto_if 13 with (fail)
 go_cut [9] (fun v9 wc=>∃ (kq:Nat) (x9_4:List (List Int)),Aside0 (spec_paGroups.j0 kq l0 l1 a2 a3 x9_4=some r)∧Aside0 (kq≤k)∧Aside0 (Kd.N (Kd.slice 3 (Kd.int .i64)) 22 wc w.heap.size (fun k_=>(w.heap.size≤k_)) v9 x9_4)∧Aside0 (Below w.heap.size w wc))
 case first =>
  have H:=HC5.out;clear HC5;by_cases c6:(l1.length:Int) > 0
  ·
   rw[if_pos c6] at H;have c6b0:decide (0 < (l1.length:Int))=true:=dt' c6;have c6b1:decide (0 < l1.length)=true:=dt' (by omega);clear c6;(first|rw[c6b0]|(simp only[i64_w,i32_w];rw[c6b0])|rw[c6b1]|skip)
   replace H:=Option.bind_eq_some_iff.mp H;obtain ⟨t135,A70,H⟩:=H;replace H:((some (([t135]:List (List Int)):List (List Int))).bind fun y138=>(if ([]:List (List Int)).length+y138.length < 5864062014805 then (spec_paGroups.j0 k l0 l1 a2 a3 (([]:List (List Int)) ++ y138)) else (none)))=some r:=H;have A7:=am' A70;clear A70;obtain ⟨y138,hy138⟩:∃ y_:List (List Int),y_=(([t135]:List (List Int))):=⟨_,rfl⟩
   replace H:(if ([]:List (List Int)).length+y138.length < 5864062014805 then (spec_paGroups.j0 k l0 l1 a2 a3 (([]:List (List Int)) ++ y138)) else (none))=some r:=by first|(rw[hy138];with_reducible exact H)|(have H2_:=(Option.bind_some _ _).symm.trans H;rw[hy138];with_reducible exact H2_)|(have H2_:=(Option.bind_some _ _).symm.trans H;with_reducible exact H2_)|with_reducible exact H|(rw[hy138];exact H)|exact H
   have Ny138:=am' hy138;clear hy138;by_cases c8:([]:List (List Int)).length+y138.length < 5864062014805
   ·
    rw[if_pos c8] at H;have LMc8:=am' c8;clear c8;obtain ⟨y141,hy141⟩:∃ y_:List (List Int),y_=(([]:List (List Int)) ++ y138):=⟨_,rfl⟩
    replace H:(spec_paGroups.j0 k l0 l1 a2 a3 y141)=some r:=by first|(rw[hy141];with_reducible exact H)|(have H2_:=(Option.bind_some _ _).symm.trans H;rw[hy141];with_reducible exact H2_)|(have H2_:=(Option.bind_some _ _).symm.trans H;with_reducible exact H2_)|with_reducible exact H|(rw[hy141];exact H)|exact H
    have Ny141:=am' hy141;clear hy141;have H':=am' H;clear H;go_wp2_with (first|((with_reducible refine gate_callee (f:=63) rfl ?_);refine goesL_ (some 16) rfl rfl Try.func63 xk' rfl #[.slice A1 l1.length c1] rfl xl' ?_;(with_reducible refine (spec_l1Own.calls _ _ l1 t135 _ ?side1 ?side2 A7.out).mono ?_);(case side1=>exact kc' (cb' HR1.out HB.out));(case side2=>exact HC1.out);rintro e w9 ⟨v136,rfl,ho0,hb⟩;refine ⟨_,rfl,?_⟩;have n0_:=am' (Kd.R_lower (Kd.R_newM (M:=fun k_=>(w.heap.size≤k_)) ho0 (bz' xb') (fun k_ h_=>h_)) (bz' xb'));have n1_:=am' (bt' xb' hb);clear HB;have HO137:=n0_;have HB:=n1_;clear n0_ n1_;(try clear hb);(try clear hb2);(try clear hk);(try clear hi);(try clear ho0);obtain ⟨Ao10,co10,eo10⟩:=Kd.R_slice HO137.out;subst eo10)|((with_reducible refine gate_dst (N:=17) rfl ?_);refine Kd.N_lit (Kd.slice 3 (Kd.int .i64)) _ 22 ?hg (N':=17) ?hd (xs:=([t135]:List (List Int))) (inner:=[.slice Ao10 t135.length co10]) (ok:=(fun k_=>(w.heap.size≤k_))) (okp:=(fun k_=>(w.heap.size≤k_))) ?hr ?hp (fun _ hk=>hk) ((show ∀ k_,w9.heap.size≤k_→(fun k_=>(w.heap.size≤k_)) k_ from fun k_ hk=>(Nat.le_trans (bz' xb') hk)) _ (Nat.le_refl _)) (Below.refl _ _) (Nat.le_refl _) (by simp) ?_;(case hd=>rfl);(case hg=>rfl);(case hr=>first|(go_simp;done)|(go_simp;rfl));(case hp=>exact (Reps.one (show Kd.FK (Kd.slice 3 (Kd.int .i64)) _ _ t135 [.slice Ao10 t135.length co10] from (Kd.FK_slice_mk (Kd.R_reads' (Kd.R_mono (ok':=(fun k_=>(w.heap.size≤k_))) (HO137.out) (fun k_ hk=>hk.1))).2.1 (Kd.R_F (Kd.R_mono (ok':=(fun k_=>(w.heap.size≤k_))) (HO137.out) (fun k_ hk=>hk.1))))) (Reps.none _ _)));intro v139 w11 ho12 hb hg_ hnew_;clear hg_ hnew_;(first|rw[← Ny138.out] at ho12|(simp only[Int.reduceToNat] at ho12;rw[← Ny138.out] at ho12));have n0_:=am' (Kd.N_lower ho12 (bz' xb'));have n1_:=am' (bt' xb' hb);clear HB;clear HO137;have HO140:=n0_;have HB:=n1_;clear n0_ n1_;clear hb ho12;obtain ⟨Ao14,co14,eo14⟩:=Kd.N_slice HO140.out;subst eo14)|((with_reducible refine gate_builtin (b := .append) (xs:=#[.tmp 14, .tmp 17]) rfl ?_);at_builtin;refine Kd.N_append_rows (Kd.slice 3 (Kd.int .i64)) (w0:=w) w.heap.size rfl (.tmp 14) (.tmp 17) 68 22 (.slice none 0 0) 24 rfl Try.underlying68 info22 rfl (by decide) (by omega) (.slice none 0 0) ([]:List (List Int)) y138 _ _ _ (fun k_=>(w.heap.size≤k_)) (fun k_=>((fun k_=>(w.heap.size≤k_))) k_∧some k_≠(.slice none 0 0:Value).ownBlock) rfl rfl ?aO ?aR (fun _ hk=>hk) ?aF ?aB ?aS ?aL ?_;(case aR=>exact (by skip;exact Kd.N_F (Kd.N_mono (ok':=(fun k_=>((fun k_=>(w.heap.size≤k_))) k_∧some k_≠(.slice none 0 0:Value).ownBlock)) (HO140.out) (fun k_ hk=>⟨hk,(by simp[Value.ownBlock])⟩))));(case aB=>exact xb');(case aF=>exact (fun k_ hk=>(Nat.le_trans (bz' xb') hk)));(case aO=>exact ((Kd.N_nil _ _ _ _ (fun k_=>(w.heap.size≤k_)))));(case aS=>exact (bz' xb'));(case aL=>have:=LMc8.out;omega);intro v142 w13 ho hb hg hat;rw[← Ny141.out] at ho;have n0_:=am' (Kd.N_afterv (Kd.N_apart_nil (kN' HO140.out)) hg hat);have n1_:=am' (hb);have n2_:=am' (ho);clear HO140;clear HB;have HO140:=n0_;have HB:=n1_;have HO143:=n2_;clear n0_ n1_ n2_;clear ho hb hg hat))
    go_meet
    case rel=>exact ⟨_,(y141),H',⟨by first|omega|exact Nat.le_refl _⟩,⟨kN' HO143.out⟩,⟨xb'⟩⟩
   ·
    rw[if_neg c8] at H;exact absurd H (by simp)
  ·
   rw[if_neg c6] at H;have c6b0:decide (0 < (l1.length:Int))=false:=df' c6;have c6b1:decide (0 < l1.length)=false:=df' (by omega);clear c6;(first|rw[c6b0]|(simp only[i64_w,i32_w];rw[c6b0])|rw[c6b1]|skip)
   have H':=am' H;clear H;go_wp2;go_meet
   case rel=>exact ⟨_,(([]:List (List Int))),H',⟨by first|omega|exact Nat.le_refl _⟩,⟨by first|exact Kd.S_nil _ _ _ _ _|exact Kd.N_nil _ _ _ _ _|exact Kd.V_nil _ _ _ _ _|exact Kd.Q_nil _ _ _ _ _|exact Kd.R_nil _ _ _ _ _⟩,⟨xb'⟩⟩
 case rest =>
  clear HC5;try clear c1
  try clear p2
  try clear c6
  try clear c6b0
  try clear c6b1
  try clear c8
  obtain ⟨kq,x9_4,HA,HJ4,HO_9,HB⟩:=hcut;cases kq with
  | zero=>exact absurd HA.out (by simp[spec_paGroups.j0])
  | succ kj4 =>
   have H:=HA.out;clear HA;simp only[spec_paGroups.j0] at H;by_cases c15:(l1.length:Int)=a3
   ·
    rw[if_pos c15] at H;have c15b0:((l1.length:Int) == a3)=true:=beq_iff_eq.mpr c15;have c15b1:((l1.length:Int) != a3)=false:=bne_eq_false_iff_eq.mpr c15;clear c15;obtain rfl:=os' H;go_wp2;go_ret
    exact ⟨_,by first|rfl|(simp[errW_none,errW_some] <;> rfl)|(simp[*,errW_none,errW_some] <;> rfl),kN' HO_9.out,xb'⟩
   ·
    rw[if_neg c15] at H;have c15b0:((l1.length:Int) == a3)=false:=beq_eq_false_iff_ne.mpr c15;have c15b1:((l1.length:Int) != a3)=true:=bne_iff_ne.mpr c15;have H':=am' H;clear H;go_wp2;go_loopg [9,10] kj4 (fun kq v9 v10 w'=>∃ (x9_2:List (List Int)) (x10_2:Int),v10 = .int .i64 x10_2∧Aside0 (spec_paGroups.l0 kq l0 l1 a3 x9_2 x10_2=some r)∧Aside0 (kq≤kj4)∧Aside0 (Kd.N (Kd.slice 3 (Kd.int .i64)) 22 w' w.heap.size (fun k_=>(w.heap.size≤k_)) v9 x9_2)∧Aside0 (Below w.heap.size w w'))
    case atStart=>exact ⟨(x9_4),(a2),xs',H',⟨Nat.le_refl _⟩,⟨kN' HO_9.out⟩,⟨xb'⟩⟩
    case round =>
     clear H';try clear c1
     try clear p2
     try clear c6
     try clear c6b0
     try clear c6b1
     try clear c8
     try clear c15
     try clear c15b0
     try clear c15b1
     try clear p2
     obtain ⟨x9_2,x10_2,rfl,HA,HK2,HO_9,HB⟩:=hrel;cases gk with
     | zero=>exact absurd HA.out (by simp[spec_paGroups.l0])
     | succ k2 =>
      have H:=HA.out;clear HA;simp only[spec_paGroups.l0] at H;by_cases c16:x10_2 < (l0.length:Int)
      ·
       rw[if_pos c16] at H;have c16b0:decide (x10_2 < (l0.length:Int))=true:=dt' c16;clear c16;replace H:=Option.bind_eq_some_iff.mp H;obtain ⟨t144,A170,H⟩:=H;replace H:(if 0≤x10_2 then ((some (([rd l0 x10_2]:List Int):List Int)).bind fun y148=>(if t144.length+y148.length < 17592186044416 then ((spec_paGroups.f k2 l0 (t144 ++ y148) (wrap64 (x10_2+1)) a3).bind fun t154=>(if x9_2.length+t154.length < 5864062014805 then (spec_paGroups.l0 k2 l0 l1 a3 (x9_2 ++ t154) (wrap64 (x10_2+1))) else (none))) else (none))) else (none))=some r:=H;have A17:=am' A170;clear A170;by_cases c18:0≤x10_2
       ·
        rw[if_pos c18] at H;have c18b0:decide (0≤x10_2)=true:=dt' c18;clear c18;obtain ⟨y148,hy148⟩:∃ y_:List Int,y_=(([rd l0 x10_2]:List Int)):=⟨_,rfl⟩
        replace H:(if t144.length+y148.length < 17592186044416 then ((spec_paGroups.f k2 l0 (t144 ++ y148) (wrap64 (x10_2+1)) a3).bind fun t154=>(if x9_2.length+t154.length < 5864062014805 then (spec_paGroups.l0 k2 l0 l1 a3 (x9_2 ++ t154) (wrap64 (x10_2+1))) else (none))) else (none))=some r:=by first|(rw[hy148];with_reducible exact H)|(have H2_:=(Option.bind_some _ _).symm.trans H;rw[hy148];with_reducible exact H2_)|(have H2_:=(Option.bind_some _ _).symm.trans H;with_reducible exact H2_)|with_reducible exact H|(rw[hy148];exact H)|exact H
        have Ny148:=am' hy148;clear hy148;by_cases c19:t144.length+y148.length < 17592186044416
        ·
         rw[if_pos c19] at H;have LMc19:=am' c19;clear c19;obtain ⟨y151,hy151⟩:∃ y_:List Int,y_=(t144 ++ y148):=⟨_,rfl⟩
         replace H:((spec_paGroups.f k2 l0 y151 (wrap64 (x10_2+1)) a3).bind fun t154=>(if x9_2.length+t154.length < 5864062014805 then (spec_paGroups.l0 k2 l0 l1 a3 (x9_2 ++ t154) (wrap64 (x10_2+1))) else (none)))=some r:=by first|(rw[hy151];with_reducible exact H)|(have H2_:=(Option.bind_some _ _).symm.trans H;rw[hy151];with_reducible exact H2_)|(have H2_:=(Option.bind_some _ _).symm.trans H;with_reducible exact H2_)|with_reducible exact H|(rw[hy151];exact H)|exact H
         have Ny151:=am' hy151;clear hy151;replace H:=Option.bind_eq_some_iff.mp H;obtain ⟨t154,A200,H⟩:=H;replace H:(if x9_2.length+t154.length < 5864062014805 then (spec_paGroups.l0 k2 l0 l1 a3 (x9_2 ++ t154) (wrap64 (x10_2+1))) else (none))=some r:=H;have A20:=am' A200;clear A200;by_cases c21:x9_2.length+t154.length < 5864062014805
         ·
          rw[if_pos c21] at H;have LMc21:=am' c21;clear c21;obtain ⟨y157,hy157⟩:∃ y_:List (List Int),y_=(x9_2 ++ t154):=⟨_,rfl⟩
          replace H:(spec_paGroups.l0 k2 l0 l1 a3 y157 (wrap64 (x10_2+1)))=some r:=by first|(rw[hy157];with_reducible exact H)|(have H2_:=(Option.bind_some _ _).symm.trans H;rw[hy157];with_reducible exact H2_)|(have H2_:=(Option.bind_some _ _).symm.trans H;with_reducible exact H2_)|with_reducible exact H|(rw[hy157];exact H)|exact H
          have Ny157:=am' hy157;clear hy157;have H':=am' H;clear H;obtain ⟨Ao22,co22,eo22⟩:=Kd.N_slice HO_9.out;subst eo22;try go_wp2
          have n0_:=am' (Kd.N_drew HO_9.out);have n1_:=am' (be' HB.out);clear HO_9;clear HB;have HO_9:=n0_;have HB:=n1_;clear n0_ n1_;have p147:0≤(x10_2:Int):=od' xa';have q147:x10_2 < (l0.length:Int):=od' xa';obtain ⟨ad147,e147,hx147_0⟩:=Kd.at_int HR0.out x10_2 p147 q147;have hw147_0:=hx147_0;cases e147;replace hx147_0:=(HB.out.cell (bl' w _ hx147_0)).trans hx147_0;replace p147:=eq_true p147;replace q147:=eq_true q147;refine start_ (n:=16) (S:=fun w'=>w'.cell? (ad147.add (x10_2).toNat)=some (.int .i64 (rd l0 x10_2))) (ds:=[]) #[false,false,false,false,false,false,false,false,false,false,false,false,false,false,false,false] xk' rfl rfl (((HB.out.cell (bl' w _ hw147_0)).trans hw147_0)) (fun hHeld=>?_);refine with_tabW spec_paGroups.tab9 spec_paGroups.bits9 (fun HT_ HW_=>?_);generalize wr.drew=w23 at HO_9 HB hx147_0 hHeld ⊢
          refine pure_ (i:=0) (N:=some 31) (v:=?_) (a':=?_) #[true,false,false,false,false,false,false,false,false,false,false,false,false,false,false,false] rfl rfl (any_of HT_.out xk') (fun _ _ _ h=>h) (Or.inl ⟨by rfl,?_⟩) ?_ ?_
          rotate_left
          ·
           intro w';go_simp;with_reducible rfl
          rotate_left
          ·
           simp only[Act.put,sa',sb',sc',i64_w,i32_w];rfl
          refine pure_ (i:=1) (N:=some 32) (v:=?_) (a':=?_) #[true,true,false,false,false,false,false,false,false,false,false,false,false,false,false,false] rfl rfl (any_of HT_.out xk') (fun _ _ _ h=>h) (Or.inl ⟨by rfl,?_⟩) ?_ ?_
          rotate_left
          ·
           intro w';go_simp;with_reducible rfl
          rotate_left
          ·
           simp only[Act.put,sa',sb',sc',i64_w,i32_w];rfl
          refine pure_ (i:=2) (N:=some 33) (v:=?_) (a':=?_) #[true,true,true,false,false,false,false,false,false,false,false,false,false,false,false,false] rfl rfl (any_of HT_.out xk') (fun _ _ _ h=>h) (Or.inl ⟨by rfl,?_⟩) ?_ ?_
          rotate_left
          ·
           intro w';go_simp;with_reducible rfl
          rotate_left
          ·
           simp only[Act.put,sa',sb',sc',i64_w,i32_w];rfl
          refine pure_ (i:=4) (N:=some 35) (v:=?_) (a':=?_) #[true,true,true,false,true,false,false,false,false,false,false,false,false,false,false,false] rfl rfl (any_of HT_.out xk') (fun _ _ _ h=>h) (Or.inl ⟨by rfl,?_⟩) ?_ ?_
          rotate_left
          ·
           intro w';go_simp;with_reducible rfl
          rotate_left
          ·
           simp only[Act.put,sa',sb',sc',i64_w,i32_w];rfl
          refine pure_ (i:=5) (N:=some 36) (v:=?_) (a':=?_) #[true,true,true,false,true,true,false,false,false,false,false,false,false,false,false,false] rfl rfl (any_of HT_.out xk') (fun _ _ _ h=>h) (Or.inl ⟨by rfl,?_⟩) ?_ ?_
          rotate_left
          ·
           intro w';go_simp;with_reducible rfl
          rotate_left
          ·
           simp only[Act.put,sa',sb',sc',i64_w,i32_w];rfl
          refine pure_ (i:=6) (N:=some 37) (v:=?_) (a':=?_) #[true,true,true,false,true,true,true,false,false,false,false,false,false,false,false,false] rfl rfl (any_of HT_.out xk') (fun _ _ _ h=>h) (Or.inl ⟨by rfl,?_⟩) ?_ ?_
          rotate_left
          ·
           intro w';go_simp;with_reducible rfl
          rotate_left
          ·
           simp only[Act.put,sa',sb',sc',i64_w,i32_w];rfl
          refine pure_ (i:=10) (N:=some 41) (v:=?_) (a':=?_) #[true,true,true,false,true,true,true,false,false,false,true,false,false,false,false,false] rfl rfl (any_of HT_.out xk') (fun _ _ _ h=>h) (Or.inl ⟨by rfl,?_⟩) ?_ ?_
          rotate_left
          ·
           intro w';go_simp;with_reducible rfl
          rotate_left
          ·
           simp only[Act.put,sa',sb',sc',i64_w,i32_w];rfl
          refine pure_ (i:=11) (N:=some 42) (v:=?_) (a':=?_) #[true,true,true,false,true,true,true,false,false,false,true,true,false,false,false,false] rfl rfl (any_of HT_.out xk') (fun _ _ _ h=>h) (Or.inl ⟨by rfl,?_⟩) ?_ ?_
          rotate_left
          ·
           intro w';go_simp;with_reducible rfl
          rotate_left
          ·
           simp only[Act.put,sa',sb',sc',i64_w,i32_w];rfl
          refine pure_ (i:=12) (N:=some 43) (v:=?_) (a':=?_) #[true,true,true,false,true,true,true,false,false,false,true,true,true,false,false,false] rfl rfl (any_of HT_.out xk') (fun _ _ _ h=>h) (Or.inl ⟨by rfl,?_⟩) ?_ ?_
          rotate_left
          ·
           intro w';go_simp;with_reducible rfl
          rotate_left
          ·
           simp only[Act.put,sa',sb',sc',i64_w,i32_w];rfl
          refine take_ (i:=7) (N:=some 38) (v:=?_) (a':=?_) #[true,true,true,false,true,true,true,true,false,false,true,true,true,false,false,false] rfl rfl (take_ofW HT_.out HW_.out xk') (fun _ _ _ h=>h) (Or.inl ⟨by rfl,?_⟩) hHeld ?_ ?_
          rotate_left
          ·
           intro w' s0;go_simp;with_reducible rfl
          rotate_left
          ·
           simp only[Act.put,sa',sb',sc',i64_w,i32_w];rfl
          refine join_ (σ:=Value × Value) 4 #[true,true,true,true,true,true,true,true,true,false,true,true,true,false,false,false] (fun s_=>[(34,s_.1),(39,s_.2)]) (fun s_ w'=>(w'.cell? (ad147.add (x10_2).toNat)=some (.int .i64 (rd l0 x10_2)))∧(Kd.R (Kd.int .i64) 3 w' w.heap.size (fun k_=>(w.heap.size≤k_)∧some k_≠(s_.2:Value).ownBlock) s_.1 t144)∧(Kd.R (Kd.int .i64) 3 w' w.heap.size (fun k_=>(w.heap.size≤k_)∧some k_≠(s_.1:Value).ownBlock) s_.2 y148)∧(Kd.N (Kd.slice 3 (Kd.int .i64)) 22 w' w.heap.size (fun k_=>(w.heap.size≤k_)∧some k_≠(s_.1:Value).ownBlock∧some k_≠(s_.2:Value).ownBlock) (.slice Ao22 x9_2.length co22) x9_2)∧(Below w.heap.size w w')) ?_ ?_
          rotate_left
          ·
           intro hCont;refine two_ (i:=3) (j:=8) (Ni:=some 34) (Nj:=some 39) #[true,true,true,true,true,true,true,true,false,false,true,true,true,false,false,false] #[true,true,true,false,true,true,true,true,true,false,true,true,true,false,false,false] rfl rfl rfl rfl (two_of HT_.out xk') (by decide) (by decide) (fun K hK=>?_) (fun K hK=>?_)
           ·
            skip
            refine goes_ Try.func63 xk' rfl #[.slice A1 l1.length c1] (by rfl) rfl rfl xl' ?_
            with_reducible refine (spec_l1Own.calls _ _ l1 t144 _ ?side1 ?side2 A17.out).mono ?_
            (case side1=>exact kc' (cb' HR1.out HB.out))
            (case side2=>exact HC1.out)
            rintro e w24 ⟨v145,rfl,ho0,hb⟩
            refine ⟨_,rfl,?_⟩;have n0_:=am' (Kd.N_elder' (kN' HO_9.out) (Kd.R_base ho0) hb);have n1_:=am' (Kd.R_lower (Kd.R_newM (M:=fun k_=>(w.heap.size≤k_)) ho0 (bz' xb') (fun k_ h_=>h_)) (bz' xb'));have n2_:=am' (bt' xb' hb);clear HO_9;clear HB;have HO_9:=n0_;have HO146:=n1_;have HB:=n2_;clear n0_ n1_ n2_;(try clear hb)
            (try clear hb2)
            (try clear hk)
            (try clear hi)
            (try clear ho0)
            refine hK.out _ _ (((HB.out.cell (bl' w _ hw147_0)).trans hw147_0)) (fun hHeld=>?_);clear hK K;refine norm_ (a':=?_) ?_ ?_
            rotate_left
            ·
             show Act.put _ (some 34) _=_
             simp only[Act.put,sa',sb',sc',i64_w,i32_w];rfl
            refine one_ (i:=8) (N:=some 39) #[true,true,true,true,true,true,true,true,true,false,true,true,true,false,false,false] rfl rfl (one_of HT_.out xk') (by decide) (fun K hK=>?_);refine Kd.R_lit_step (Kd.int .i64) _ 3 ?hg (N:=39) ?hd (xs:=([rd l0 x10_2]:List Int)) (inner:=[.int .i64 (rd l0 x10_2)]) (ok:=fun _=>True) (okp:=fun _=>True) ?hr ?hp (fun _ hk=>hk) trivial (Below.refl _ _) (Nat.le_refl _) (by simp) ?_;(case hd=>rfl);(case hg=>rfl);(case hr=>first|(go_simp;done)|(go_simp;rfl));(case hp=>exact (Reps.one (show Kd.M (Kd.int .i64) _ _ _ (rd l0 x10_2) [.int .i64 (rd l0 x10_2)] from rfl) (Reps.none _ _)))
            intro v149 w25 ho26 hb hg_ hnew_;clear hg_ hnew_;(first|rw[← Ny148.out] at ho26|(simp only[Int.reduceToNat] at ho26;rw[← Ny148.out] at ho26))
            have n0_:=am' (Kd.N_elder' (kN' HO_9.out) (Kd.R_base ho26) hb);have n1_:=am' (Kd.R_elder' (kr' HO146.out) (Kd.R_base ho26) hb);have n2_:=am' (Kd.R_lower (Kd.R_new' (Kd.R_newM (M:=fun k_=>(w.heap.size≤k_)) ho26 (bz' xb') (fun k_ h_=>h_)) (Kd.R_lt (kr' HO146.out))) (bz' xb'));have n3_:=am' (bt' xb' hb);clear HO_9;clear HO146;clear HB;have HO_9:=n0_;have HO146:=n1_;have HO150:=n2_;have HB:=n3_;clear n0_ n1_ n2_ n3_;clear hb ho26;refine hK.out _ _ (((HB.out.cell (bl' w _ hw147_0)).trans hw147_0)) (fun hHeld=>?_);clear hK K;refine norm_ (a':=?_) ?_ ?_
            rotate_left
            ·
             show Act.put _ (some 39) _=_
             simp only[Act.put,sa',sb',sc',i64_w,i32_w];rfl
            exact norm_ (by simp only[putAll,Act.put,sa',sb',sc']) (hCont (v145,v149) _ ⟨hHeld,(by (with_reducible repeat (first|apply ra'|apply rn'|apply rw'));exact Kd.R_mono HO146.out (fun _ hk=>⟨hk.1.1,hk.2⟩)),(by (with_reducible repeat (first|apply ra'|apply rn'|apply rw'));exact Kd.R_mono HO150.out (fun _ hk=>⟨hk.1.1,hk.2⟩)),(by (with_reducible repeat (first|apply Kd.N_alloc|apply Kd.N_drewN|apply Kd.N_drew));exact Kd.N_mono HO_9.out (fun _ hk=>⟨hk.1.1,⟨hk.1.2,hk.2⟩⟩)),xb'⟩)
           ·
            skip
            refine Kd.R_lit_step (Kd.int .i64) _ 3 ?hg (N:=39) ?hd (xs:=([rd l0 x10_2]:List Int)) (inner:=[.int .i64 (rd l0 x10_2)]) (ok:=fun _=>True) (okp:=fun _=>True) ?hr ?hp (fun _ hk=>hk) trivial (Below.refl _ _) (Nat.le_refl _) (by simp) ?_;(case hd=>rfl);(case hg=>rfl);(case hr=>first|(go_simp;done)|(go_simp;rfl));(case hp=>exact (Reps.one (show Kd.M (Kd.int .i64) _ _ _ (rd l0 x10_2) [.int .i64 (rd l0 x10_2)] from rfl) (Reps.none _ _)))
            intro v149 w24 ho25 hb hg_ hnew_;clear hg_ hnew_;(first|rw[← Ny148.out] at ho25|(simp only[Int.reduceToNat] at ho25;rw[← Ny148.out] at ho25))
            have n0_:=am' (Kd.N_elder' (kN' HO_9.out) (Kd.R_base ho25) hb);have n1_:=am' (Kd.R_lower (Kd.R_newM (M:=fun k_=>(w.heap.size≤k_)) ho25 (bz' xb') (fun k_ h_=>h_)) (bz' xb'));have n2_:=am' (bt' xb' hb);clear HO_9;clear HB;have HO_9:=n0_;have HO150:=n1_;have HB:=n2_;clear n0_ n1_ n2_;clear hb ho25;refine hK.out _ _ (((HB.out.cell (bl' w _ hw147_0)).trans hw147_0)) (fun hHeld=>?_);clear hK K;refine norm_ (a':=?_) ?_ ?_
            rotate_left
            ·
             show Act.put _ (some 39) _=_
             simp only[Act.put,sa',sb',sc',i64_w,i32_w];rfl
            refine one_ (i:=3) (N:=some 34) #[true,true,true,true,true,true,true,true,true,false,true,true,true,false,false,false] rfl rfl (one_of HT_.out xk') (by decide) (fun K hK=>?_);refine goes_ Try.func63 xk' rfl #[.slice A1 l1.length c1] (by rfl) rfl rfl xl' ?_
            with_reducible refine (spec_l1Own.calls _ _ l1 t144 _ ?side1 ?side2 A17.out).mono ?_
            (case side1=>exact kc' (cb' HR1.out HB.out))
            (case side2=>exact HC1.out)
            rintro e w26 ⟨v145,rfl,ho0,hb⟩
            refine ⟨_,rfl,?_⟩;have n0_:=am' (Kd.N_elder' (kN' HO_9.out) (Kd.R_base ho0) hb);have n1_:=am' (Kd.R_elder' (kr' HO150.out) (Kd.R_base ho0) hb);have n2_:=am' (Kd.R_lower (Kd.R_new' (Kd.R_newM (M:=fun k_=>(w.heap.size≤k_)) ho0 (bz' xb') (fun k_ h_=>h_)) (Kd.R_lt (kr' HO150.out))) (bz' xb'));have n3_:=am' (bt' xb' hb);clear HO_9;clear HO150;clear HB;have HO_9:=n0_;have HO150:=n1_;have HO146:=n2_;have HB:=n3_;clear n0_ n1_ n2_ n3_;(try clear hb)
            (try clear hb2)
            (try clear hk)
            (try clear hi)
            (try clear ho0)
            refine hK.out _ _ (((HB.out.cell (bl' w _ hw147_0)).trans hw147_0)) (fun hHeld=>?_);clear hK K;refine norm_ (a':=?_) ?_ ?_
            rotate_left
            ·
             show Act.put _ (some 34) _=_
             simp only[Act.put,sa',sb',sc',i64_w,i32_w];rfl
            exact norm_ (by simp only[putAll,Act.put,sa',sb',sc']) (hCont (v145,v149) _ ⟨hHeld,(by (with_reducible repeat (first|apply ra'|apply rn'|apply rw'));exact Kd.R_mono HO146.out (fun _ hk=>⟨hk.1.1,hk.2⟩)),(by (with_reducible repeat (first|apply ra'|apply rn'|apply rw'));exact Kd.R_mono HO150.out (fun _ hk=>⟨hk.1.1,hk.2⟩)),(by (with_reducible repeat (first|apply Kd.N_alloc|apply Kd.N_drewN|apply Kd.N_drew));exact Kd.N_mono HO_9.out (fun _ hk=>⟨hk.1.1,⟨hk.2,hk.1.2⟩⟩)),xb'⟩)
          rintro ⟨v145,v149⟩ w27 ⟨hS_,h0_,h1_,h2_,h3_⟩
          have n0_:Aside0 (Kd.R (Kd.int .i64) 3 w27 w.heap.size (fun k_=>(w.heap.size≤k_)∧some k_≠(v149:Value).ownBlock) v145 t144):=⟨h0_⟩
          have n1_:Aside0 (Kd.R (Kd.int .i64) 3 w27 w.heap.size (fun k_=>(w.heap.size≤k_)∧some k_≠(v145:Value).ownBlock) v149 y148):=⟨h1_⟩
          have n2_:Aside0 (Kd.N (Kd.slice 3 (Kd.int .i64)) 22 w27 w.heap.size (fun k_=>(w.heap.size≤k_)∧some k_≠(v145:Value).ownBlock∧some k_≠(v149:Value).ownBlock) (.slice Ao22 x9_2.length co22) x9_2):=⟨h2_⟩
          have n3_:Aside0 (Below w.heap.size w w27):=⟨h3_⟩
          clear HO_9;clear HB;clear h0_ h1_ h2_ h3_;have HO146:=n0_;have HO150:=n1_;have HO_9:=n2_;have HB:=n3_;clear n0_ n1_ n2_ n3_;have hHeld:w27.cell? (ad147.add (x10_2).toNat)=some (.int .i64 (rd l0 x10_2)):=hS_;obtain ⟨Ao29,co29,eo29⟩:=Kd.R_slice HO150.out
          (first|subst eo29|(injection eo29 with f1_ f2_ f3_;have f4_:=f1_.symm;have f5_:=f3_.symm;clear f1_ f2_ f3_;subst f4_;subst f5_))
          refine norm_ (a':=?_) ?_ ?_
          rotate_left
          ·
           simp only[putAll,Act.put,sa',sb',sc'];rfl
          refine one_ (i:=9) (N:=some 40) #[true,true,true,true,true,true,true,true,true,true,true,true,true,false,false,false] rfl rfl (one_of HT_.out xk') (by decide) (fun K hK=>?_);refine Kd.R_append_rows_step (Kd.int .i64) (w0:=w) w.heap.size (by rfl) (.tmp 34) (.tmp 39) 22 3 (.int .i64 0) 8 rfl Try.underlying22 info3 rfl (by decide) (by omega) v145 t144 y148 _ _ _ (fun k_=>(w.heap.size≤k_)∧some k_≠(.slice Ao29 y148.length co29:Value).ownBlock) (fun _=>False) rfl rfl ?aO ?aR (fun _ _ h=>h) (fun _ h=>h.elim) ?aF ?aB ?aS ?aL ?_
          (case aR=>exact kc' ((Kd.R_reads' HO150.out).2.2))
          (case aB=>exact xb')
          (case aF=>exact (fun k_ hk=>⟨(Nat.le_trans (bz' xb') hk),Kd.fresh' (Kd.R_lt (kr' HO150.out)) k_ hk⟩))
          (case aO=>exact (kr' HO146.out))
          (case aS=>exact (bz' xb'))
          (case aL=>have:=LMc19.out;omega)
          intro v152 w28 ho hb hg hat;rw[← Ny151.out] at ho;have n0_:=am' (Kd.N_afterv (ok:=(fun k_=>(w.heap.size≤k_)∧some k_≠(.slice Ao29 y148.length co29:Value).ownBlock)) (by (with_reducible repeat (first|apply Kd.N_alloc|apply Kd.N_drewN|apply Kd.N_drew));exact Kd.N_mono HO_9.out (fun _ hk=>⟨⟨hk.1,hk.2.2⟩,hk.2.1⟩)) hg hat);have n1_:=am' (Kd.R_after (ok:=(fun k_=>(w.heap.size≤k_))) (kr' HO150.out) hg hat);have n2_:=am' (hb);have n3_:=am' (ho);clear HO_9;clear HO150;clear HB;clear HO146;have HO_9:=n0_;have HO150:=n1_;have HB:=n2_;have HO153:=n3_;clear n0_ n1_ n2_ n3_;clear ho hb hg hat;obtain ⟨Ao30,co30,eo30⟩:=Kd.R_slice HO153.out
          (first|subst eo30|(injection eo30 with f1_ f2_ f3_;have f4_:=f1_.symm;have f5_:=f3_.symm;clear f1_ f2_ f3_;subst f4_;subst f5_))
          refine hK.out _ _ (((HB.out.cell (bl' w _ hw147_0)).trans hw147_0)) (fun hHeld=>?_);clear hK K;refine norm_ (a':=?_) ?_ ?_
          rotate_left
          ·
           show Act.put _ (some 40) _=_
           simp only[Act.put,sa',sb',sc',i64_w,i32_w];rfl
          refine one_ (i:=13) (N:=some 44) #[true,true,true,true,true,true,true,true,true,true,true,true,true,true,false,false] rfl rfl (one_of HT_.out xk') (by decide) (fun K hK=>?_);refine goes_ Try.func67 xk' rfl #[.slice (some ad147) l0.length c0, .slice Ao30 y151.length co30, .int .i64 (wrap64 (x10_2+1)), .int .i64 a3] (by rfl) rfl rfl xl' ?_
          with_reducible refine (ih k2 (by have:=HJ4.out;have:=HK2.out;omega) _ _ l0 _ _ y151 (wrap64 (x10_2+1)) a3 t154 _ ?side1 ?side2 ?side3 ?side4 A20.out).mono ?_
          (case side1=>exact kc' (cb' HR0.out HB.out))
          (case side2=>exact HC0.out)
          (case side3=>exact kc' ((Kd.R_reads' HO153.out).2.2))
          (case side4=>exact (Kd.R_reads' HO153.out).2.1)
          rintro e w31 ⟨v155,rfl,ho0,hb⟩
          refine ⟨_,rfl,?_⟩;have n0_:=am' (Kd.N_elder' (kN' HO_9.out) (Kd.N_base ho0) hb);have n1_:=am' (rb' (kr' HO150.out) hb);have n2_:=am' (rb' (kr' HO153.out) hb);have n3_:=am' (Kd.N_lower (Kd.N_mono (ok':=fun k_=>(w.heap.size≤k_)∧some k_≠(.slice Ao22 x9_2.length co22:Value).ownBlock∧some k_≠(.slice Ao29 y148.length co29:Value).ownBlock∧some k_≠(.slice Ao30 y151.length co30:Value).ownBlock) ho0 (fun k_ hk_=>⟨(Nat.le_trans (bz' xb') hk_),(Kd.fresh' (Kd.N_lt (kN' HO_9.out)) k_ hk_),(Kd.fresh' (Kd.R_lt (kr' HO150.out)) k_ hk_),(Kd.fresh' (Kd.R_lt (kr' HO153.out)) k_ hk_)⟩)) (bz' xb'));have n4_:=am' (bt' xb' hb);clear HO_9;clear HO150;clear HO153;clear HB;have HO_9:=n0_;have HO150:=n1_;have HO153:=n2_;have HO156:=n3_;have HB:=n4_;clear n0_ n1_ n2_ n3_ n4_;(try clear hb)
          (try clear hb2)
          (try clear hk)
          (try clear hi)
          (try clear ho0)
          obtain ⟨Ao33,co33,eo33⟩:=Kd.N_slice HO156.out
          (first|subst eo33|(injection eo33 with f1_ f2_ f3_;have f4_:=f1_.symm;have f5_:=f3_.symm;clear f1_ f2_ f3_;subst f4_;subst f5_))
          refine hK.out _ _ (((HB.out.cell (bl' w _ hw147_0)).trans hw147_0)) (fun hHeld=>?_);clear hK K;refine norm_ (a':=?_) ?_ ?_
          rotate_left
          ·
           show Act.put _ (some 44) _=_
           simp only[Act.put,sa',sb',sc',i64_w,i32_w];rfl
          refine one_ (i:=14) (N:=some 45) #[true,true,true,true,true,true,true,true,true,true,true,true,true,true,true,false] rfl rfl (one_of HT_.out xk') (by decide) (fun K hK=>?_);refine Kd.N_append_rows_step (Kd.slice 3 (Kd.int .i64)) (w0:=w) w.heap.size (by rfl) (.tmp 31) (.tmp 44) 68 22 (.slice none 0 0) 24 rfl Try.underlying68 info22 rfl (by decide) (by omega) (.slice Ao22 x9_2.length co22) x9_2 t154 _ _ _ (fun k_=>(w.heap.size≤k_)∧some k_≠(.slice Ao29 y148.length co29:Value).ownBlock∧some k_≠(.slice Ao30 y151.length co30:Value).ownBlock) (fun k_=>((fun k_=>(w.heap.size≤k_)∧some k_≠(.slice Ao29 y148.length co29:Value).ownBlock∧some k_≠(.slice Ao30 y151.length co30:Value).ownBlock)) k_∧some k_≠(.slice Ao22 x9_2.length co22:Value).ownBlock) rfl rfl ?aO ?aR (fun _ hk=>hk) ?aF ?aB ?aS ?aL ?_
          (case aR=>exact (by skip;exact Kd.N_F (Kd.N_mono (ok':=(fun k_=>((fun k_=>(w.heap.size≤k_)∧some k_≠(.slice Ao29 y148.length co29:Value).ownBlock∧some k_≠(.slice Ao30 y151.length co30:Value).ownBlock)) k_∧some k_≠(.slice Ao22 x9_2.length co22:Value).ownBlock)) (HO156.out) (fun k_ hk=>⟨⟨hk.1,⟨hk.2.2.1,hk.2.2.2⟩⟩,hk.2.1⟩))))
          (case aB=>exact xb')
          (case aF=>exact (fun k_ hk=>⟨(Nat.le_trans (bz' xb') hk),Kd.fresh' (Kd.R_lt (kr' HO150.out)) k_ hk,Kd.fresh' (Kd.R_lt (kr' HO153.out)) k_ hk⟩))
          (case aO=>exact (by (with_reducible repeat (first|apply Kd.N_alloc|apply Kd.N_drewN|apply Kd.N_drew));exact Kd.N_mono HO_9.out (fun _ hk=>⟨hk.1.1.1,⟨hk.1.1.2,hk.1.2⟩⟩)))
          (case aS=>exact (bz' xb'))
          (case aL=>have:=LMc21.out;omega)
          intro v158 w32 ho hb hg hat;rw[← Ny157.out] at ho;have n0_:=am' (Kd.R_over' (kr' HO150.out) (Kd.N_typed (kN' HO_9.out)) (by decide) hg);have n1_:=am' (Kd.R_over' (kr' HO153.out) (Kd.N_typed (kN' HO_9.out)) (by decide) hg);have n2_:=am' (Kd.N_afterv (ok:=(fun k_=>(w.heap.size≤k_)∧some k_≠(.slice Ao29 y148.length co29:Value).ownBlock∧some k_≠(.slice Ao30 y151.length co30:Value).ownBlock)) (by (with_reducible repeat (first|apply Kd.N_alloc|apply Kd.N_drewN|apply Kd.N_drew));exact Kd.N_mono HO156.out (fun _ hk=>⟨⟨hk.1,⟨hk.2.2.1,hk.2.2.2⟩⟩,hk.2.1⟩)) hg hat);have n3_:=am' (hb);have n4_:=am' (ho);clear HO150;clear HO153;clear HO156;clear HB;clear HO_9;have HO150:=n0_;have HO153:=n1_;have HO156:=n2_;have HB:=n3_;have HO159:=n4_;clear n0_ n1_ n2_ n3_ n4_;clear ho hb hg hat;refine hK.out _ _ (((HB.out.cell (bl' w _ hw147_0)).trans hw147_0)) (fun hHeld=>?_);clear hK K;refine norm_ (a':=?_) ?_ ?_
          rotate_left
          ·
           show Act.put _ (some 45) _=_
           simp only[Act.put,sa',sb',sc',i64_w,i32_w];rfl
          refine pure_ (i:=15) (N:=some 9) (v:=?_) (a':=?_) #[true,true,true,true,true,true,true,true,true,true,true,true,true,true,true,true] rfl rfl (any_of HT_.out xk') (fun _ _ _ h=>h) (Or.inl ⟨by rfl,?_⟩) ?_ ?_
          rotate_left
          ·
           intro w';go_simp;with_reducible rfl
          rotate_left
          ·
           simp only[Act.put,sa',sb',sc',i64_w,i32_w];rfl
          refine done_ (done_of HT_.out xk') ?_
          try go_wp2
          go_roundg k2
          case measure=>have:=HJ4.out;have:=HK2.out;omega
          case rel=>exact ⟨(y157),(wrap64 (x10_2+1)),xs',H',⟨by have:=HJ4.out;have:=HK2.out;omega⟩,⟨by (with_reducible repeat (first|apply Kd.N_alloc|apply Kd.N_drewN|apply Kd.N_drew));exact Kd.N_mono HO159.out (fun _ hk=>hk.1)⟩,⟨xb'⟩⟩
         ·
          rw[if_neg c21] at H;exact absurd H (by simp)
        ·
         rw[if_neg c19] at H;exact absurd H (by simp)
       ·
        rw[if_neg c18] at H;exact absurd H (by simp)
      ·
       rw[if_neg c16] at H;have c16b0:decide (x10_2 < (l0.length:Int))=false:=df' c16;clear c16;obtain rfl:=os' H;go_wp2;go_ret
       exact ⟨_,by first|rfl|(simp[errW_none,errW_some] <;> rfl)|(simp[*,errW_none,errW_some] <;> rfl),kN' HO_9.out,xb'⟩
def spec_paTrips.l0:Nat→List Int→List Bool→Int→Int→List Int→Int→List Bool→Bool→Option ((List (List Int)))
 | 0,_,_,_,_,_,_,_,_=>none
 | k+1,x5,x9,x10,x11,x161000,x161001,x162000,x162001=>if x11 < x10 then (if 0≤x11 then (if x11 < (x9.length:Int) then (if ((rdOf false x9 x11) == x162001)=true then (if x5.length < 17592186044416 then (spec_paTrips.l0 k (x5 ++ [x11]) x9 x10 (wrap64 (x11+1)) x161000 x161001 x162000 x162001) else (none)) else (spec_paTrips.l0 k x5 x9 x10 (wrap64 (x11+1)) x161000 x161001 x162000 x162001)) else (none)) else (none)) else ((spec_paGroups.f k x5 ([]:List Int) 0 x161001).bind fun t166=>(some t166))
def spec_paTrips.f (k:Nat) (l0_0:List Int) (a0_1:Int) (l1_0:List Bool) (a1_1:Bool):Option ((List (List Int))):=spec_paTrips.l0 k ([]:List Int) l1_0 (l1_0.length:Int) 0 l0_0 a0_1 l1_0 a1_1
set_option maxHeartbeats 8000000 in
set_option maxRecDepth 100000 in
theorem spec_paTrips.calls (k:Nat) (A0_0:Option Addr) (c0_0:Nat) (l0_0:List Int) (a0_1:Int) (A1_0:Option Addr) (c1_0:Nat) (l1_0:List Bool) (a1_1:Bool) (r:List (List Int)) (w:World) (hr0_0:Kd.C (Kd.int .i64) w A0_0 l0_0.length l0_0) (hc0_0:l0_0.length≤c0_0) (hr1_0:Kd.C Kd.bool w A1_0 l1_0.length l1_0) (hc1_0:l1_0.length≤c1_0) (h:spec_paTrips.f k l0_0 a0_1 l1_0 a1_1=some r) :
  Calls Try.prog 50 #[.agg #[.slice A0_0 l0_0.length c0_0, .int .i64 a0_1], .agg #[.slice A1_0 l1_0.length c1_0, .bool a1_1]] w fun e w'=>∃ v0_:Value,e = .returned (v0_)∧Kd.N (Kd.slice 3 (Kd.int .i64)) 22 w' w.heap.size (fun k_=>(w.heap.size≤k_)) v0_ r∧Below w.heap.size w w':=by
 have hu28:=Try.underlying28
 have hu54:=Try.underlying54
 have HR0_0:=am' hr0_0
 have HC0_0:=am' hc0_0
 clear hr0_0 hc0_0;have HR1_0:=am' hr1_0
 have HC1_0:=am' hc1_0
 clear hr1_0 hc1_0;have HB:=am' (Below.refl w.heap.size w)
 have H:(spec_paTrips.l0 k ([]:List Int) l1_0 (l1_0.length:Int) 0 l0_0 a0_1 l1_0 a1_1)=some r:=h
 clear h;have H':=am' H
 clear H;go_enter Try.func50,Try.ntmps50
 go_wp2_with (first|((with_reducible refine gate_dst (N:=2) rfl ?_);refine box_event ?hg (N:=2) ?hd (cs:=#[.slice A0_0 l0_0.length c0_0, .int .i64 a0_1]) (t:=28) ?hr ?_;(case hd=>rfl);(case hg=>rfl);(case hr=>first|(go_simp;done)|(go_simp;rfl));intro gb160 hg w3 hbox hb;have n0_:=am' (bt' xb' hb);have n1_:=am' (hbox);have n2_:=am' ((by rw[hg];exact (bz' xb'):w.heap.size≤gb160));have n3_:=am' ((by rw[hg];exact (bz' xb'):w.heap.size≤gb160));clear HB;have HB:=n0_;have BK160:=n1_;have GW160:=n2_;have GE160:=n3_;clear n0_ n1_ n2_ n3_;clear hb hbox hg)|((with_reducible refine gate_dst (N:=3) rfl ?_);refine box_event ?hg (N:=3) ?hd (cs:=#[.slice A1_0 l1_0.length c1_0, .bool a1_1]) (t:=54) ?hr ?_;(case hd=>rfl);(case hg=>rfl);(case hr=>first|(go_simp;done)|(go_simp;rfl));intro gb161 hg w4 hbox hb;have n0_:=am' (bb' (g:=gb160) (o := .cells #[.slice A0_0 l0_0.length c0_0, .int .i64 a0_1] 28 (0,0)) (kk' BK160.out) hb);have n1_:=am' (bt' (yb' GE160.out) hb);have n2_:=am' (hbox);have n3_:=am' ((by rw[hg];exact (bz' (yb' GE160.out)):w.heap.size≤gb161));have n4_:=am' ((by rw[hg];exact (bz' (yb' GE160.out)):w.heap.size≤gb161));have n5_:=am' ((by rw[hg];exact Nat.ne_of_lt (blk_lt (g:=gb160) (o := .cells #[.slice A0_0 l0_0.length c0_0, .int .i64 a0_1] 28 (0,0)) (kk' BK160.out)):gb160≠gb161));have n6_:=am' ((by rw[hg];exact Nat.ne_of_gt (blk_lt (g:=gb160) (o := .cells #[.slice A0_0 l0_0.length c0_0, .int .i64 a0_1] 28 (0,0)) (kk' BK160.out)):gb161≠gb160));clear BK160;clear HB;have BK160:=n0_;have HB:=n1_;have BK161:=n2_;have GW161:=n3_;have GE161:=n4_;have NB160_161:=n5_;have NB161_160:=n6_;clear n0_ n1_ n2_ n3_ n4_ n5_ n6_;clear hb hbox hg;have hnb5:=NB161_160.out;have hnc5:=NB160_161.out;have hcz6_0:w4.cell? ⟨gb161,0,none⟩=some (.slice A1_0 l1_0.length c1_0):=(bc' BK161.out 0).trans rfl;have hcz6_1:w4.cell? ⟨gb161,1,none⟩=some (.bool a1_1):=(bc' BK161.out 1).trans rfl;have hfz6_0:=bf' BK161.out 0;have hfz6_1:=bf' BK161.out 1))
 go_loopg [5,11] k (fun kq v5 v11 w'=>∃ (x5_1:List Int) (x11_1:Int),v11 = .int .i64 x11_1∧Aside0 (spec_paTrips.l0 kq x5_1 l1_0 (l1_0.length:Int) x11_1 l0_0 a0_1 l1_0 a1_1=some r)∧Aside0 (kq≤k)∧Aside0 (Kd.R (Kd.int .i64) 3 w' w.heap.size (fun k_=>(w.heap.size≤k_)) v5 x5_1)∧Aside0 (w'.heap[gb160]? = some (.cells #[(.slice A0_0 l0_0.length c0_0), .int .i64 a0_1] 28 (0,0)))∧Aside0 (w'.heap[gb161]? = some (.cells #[(.slice A1_0 l1_0.length c1_0), .bool a1_1] 54 (0,0)))∧Aside0 (Below w.heap.size w w'))
 case atStart=>exact ⟨(([]:List Int)),(0),xs',H',⟨Nat.le_refl _⟩,⟨by first|exact Kd.R_nil _ _ _ _ _|exact Kd.N_nil _ _ _ _ _|exact Kd.V_nil _ _ _ _ _|exact Kd.Q_nil _ _ _ _ _|exact Kd.S_nil _ _ _ _ _⟩,⟨kk' BK160.out⟩,⟨kk' BK161.out⟩,⟨y2' GE160.out GE161.out⟩⟩
 case round =>
  clear H';try clear c1
  try clear p2
  try clear c5
  try clear hcz6_0
  try clear hcz6_1
  try clear hfz6_0
  try clear hfz6_1
  obtain ⟨x5_1,x11_1,rfl,HA,HK1,HO_5,BK160,BK161,HB⟩:=hrel;cases gk with
  | zero=>exact absurd HA.out (by simp[spec_paTrips.l0])
  | succ k1 =>
   have H:=HA.out;clear HA;simp only[spec_paTrips.l0] at H;by_cases c7:x11_1 < (l1_0.length:Int)
   ·
    rw[if_pos c7] at H;have c7b0:decide (x11_1 < (l1_0.length:Int))=true:=dt' c7;clear c7;by_cases c8:0≤x11_1
    ·
     rw[if_pos c8] at H;have c8b0:decide (0≤x11_1)=true:=dt' c8;clear c8;by_cases c9:x11_1 < (l1_0.length:Int)
     ·
      rw[if_pos c9] at H;have c9b0:decide (x11_1 < (l1_0.length:Int))=true:=dt' c9;clear c9;by_cases c10:((rdOf false l1_0 x11_1) == a1_1)=true
      ·
       rw[if_pos c10] at H;have c10b0:((rdOf false l1_0 x11_1) == a1_1)=true:=c10
       (try (have c10b1:decide ((rdOf false l1_0 x11_1)=a1_1)=true:=by simpa using c10))
       (try (have c10b2:((rdOf false l1_0 x11_1) == a1_1)=true:=by simpa using c10))
       clear c10;by_cases c11:x5_1.length < 17592186044416
       ·
        rw[if_pos c11] at H;have LMc11:=am' c11;clear c11;obtain ⟨y163,hy163⟩:∃ y_:List Int,y_=(x5_1 ++ [x11_1]):=⟨_,rfl⟩
        replace H:(spec_paTrips.l0 k1 y163 l1_0 (l1_0.length:Int) (wrap64 (x11_1+1)) l0_0 a0_1 l1_0 a1_1)=some r:=by first|(rw[hy163];with_reducible exact H)|(have H2_:=(Option.bind_some _ _).symm.trans H;rw[hy163];with_reducible exact H2_)|(have H2_:=(Option.bind_some _ _).symm.trans H;with_reducible exact H2_)|with_reducible exact H|(rw[hy163];exact H)|exact H
        have Ny163:=am' hy163;clear hy163;have H':=am' H;clear H;have p162:0≤(x11_1:Int):=od' xa';have q162:x11_1 < (l1_0.length:Int):=od' xa';obtain ⟨ad162,e162,hx162_0⟩:=Kd.at_bool HR1_0.out x11_1 p162 q162;cases e162;replace hx162_0:=(HB.out.cell (bl' w _ hx162_0)).trans hx162_0;replace p162:=eq_true p162;replace q162:=eq_true q162;have hnb12:=NB161_160.out;have hnc12:=NB160_161.out;have hcz13_0:wr.cell? ⟨gb161,0,none⟩=some (.slice (some ad162) l1_0.length c1_0):=(bc' BK161.out 0).trans rfl;have hcz13_1:wr.cell? ⟨gb161,1,none⟩=some (.bool a1_1):=(bc' BK161.out 1).trans rfl;have hfz13_0:=bf' BK161.out 0;have hfz13_1:=bf' BK161.out 1;go_wp2_with (first|((with_reducible refine gate_builtin (b := .append) (xs:=#[.tmp 20, .tmp 22]) rfl ?_);at_builtin;refine Kd.R_append (Kd.int .i64) (w0:=w) w.heap.size rfl (.tmp 20) (.tmp 22) 22 3 (.int .i64 0) 8 rfl Try.underlying22 info3 rfl (by decide) (by omega) u5 x5_1 x11_1 [.int .i64 x11_1] (fun k_=>(w.heap.size≤k_)) (fun _=>False) rfl rfl ?aP (fun _ hk=>hk.elim) ?aF ?aO ?aB ?aS ?aL ?_;(case aP=>exact rfl);(case aB=>exact (y2' GE160.out GE161.out));(case aF=>exact (fun k_ hk=>(Nat.le_trans (bz' (y2' GE160.out GE161.out)) hk)));(case aO=>exact (kr' HO_5.out));(case aS=>exact (bz' (y2' GE160.out GE161.out)));(case aL=>have:=LMc11.out;omega);intro v164 w14 ho hb hg hat;rw[← Ny163.out] at ho;have n0_:=am' (blk_grown (g:=gb160) (o := .cells #[.slice A0_0 l0_0.length c0_0, .int .i64 a0_1] 28 (0,0)) (kk' BK160.out) hg (Kd.R_ne HO_5.out BK160.out (by decide)));have n1_:=am' (blk_grown (g:=gb161) (o := .cells #[.slice (some ad162) l1_0.length c1_0, .bool a1_1] 54 (0,0)) (kk' BK161.out) hg (Kd.R_ne HO_5.out BK161.out (by decide)));have n2_:=am' (hb);have n3_:=am' (ho);clear BK160;clear BK161;clear HB;clear HO_5;have BK160:=n0_;have BK161:=n1_;have HB:=n2_;have HO165:=n3_;clear n0_ n1_ n2_ n3_;clear ho hb hg hat));go_roundg k1
        case measure=>have:=HK1.out;omega
        case rel=>exact ⟨(y163),(wrap64 (x11_1+1)),xs',H',⟨by have:=HK1.out;omega⟩,⟨kr' HO165.out⟩,⟨kk' BK160.out⟩,⟨kk' BK161.out⟩,⟨y2' GE160.out GE161.out⟩⟩
       ·
        rw[if_neg c11] at H;exact absurd H (by simp)
      ·
       rw[if_neg c10] at H;have c10b0:((rdOf false l1_0 x11_1) == a1_1)=false:=by simpa using c10
       (try (have c10b1:decide ((rdOf false l1_0 x11_1)=a1_1)=false:=by simpa using c10))
       (try (have c10b2:((rdOf false l1_0 x11_1) == a1_1)=false:=by simpa using c10))
       (try (have c10b3:¬ ((rdOf false l1_0 x11_1)=a1_1):=by simpa using c10))
       clear c10;have H':=am' H;clear H;have p162:0≤(x11_1:Int):=od' xa';have q162:x11_1 < (l1_0.length:Int):=od' xa';obtain ⟨ad162,e162,hx162_0⟩:=Kd.at_bool HR1_0.out x11_1 p162 q162;cases e162;replace hx162_0:=(HB.out.cell (bl' w _ hx162_0)).trans hx162_0;replace p162:=eq_true p162;replace q162:=eq_true q162;have hnb15:=NB161_160.out;have hnc15:=NB160_161.out;have hcz16_0:wr.cell? ⟨gb161,0,none⟩=some (.slice (some ad162) l1_0.length c1_0):=(bc' BK161.out 0).trans rfl;have hcz16_1:wr.cell? ⟨gb161,1,none⟩=some (.bool a1_1):=(bc' BK161.out 1).trans rfl;have hfz16_0:=bf' BK161.out 0;have hfz16_1:=bf' BK161.out 1;go_wp2;go_roundg k1
       case measure=>have:=HK1.out;omega
       case rel=>exact ⟨(x5_1),(wrap64 (x11_1+1)),xs',H',⟨by have:=HK1.out;omega⟩,⟨kr' HO_5.out⟩,⟨kk' BK160.out⟩,⟨kk' BK161.out⟩,⟨y2' GE160.out GE161.out⟩⟩
     ·
      rw[if_neg c9] at H;exact absurd H (by simp)
    ·
     rw[if_neg c8] at H;exact absurd H (by simp)
   ·
    rw[if_neg c7] at H;have c7b0:decide (x11_1 < (l1_0.length:Int))=false:=df' c7;clear c7;replace H:=Option.bind_eq_some_iff.mp H;obtain ⟨t166,A170,H⟩:=H;replace H:(some t166)=some r:=H;have A17:=am' A170;clear A170;obtain rfl:=os' H;have hnb18:=NB160_161.out;have hnc18:=NB161_160.out;have hcz19_0:wr.cell? ⟨gb160,0,none⟩=some (.slice A0_0 l0_0.length c0_0):=(bc' BK160.out 0).trans rfl;have hcz19_1:wr.cell? ⟨gb160,1,none⟩=some (.int .i64 a0_1):=(bc' BK160.out 1).trans rfl;have hfz19_0:=bf' BK160.out 0;have hfz19_1:=bf' BK160.out 1;obtain ⟨Ao20,co20,eo20⟩:=Kd.R_slice HO_5.out;subst eo20;go_wp2_with (first|((with_reducible refine gate_callee (f:=67) rfl ?_);refine goesL_ (some 28) rfl rfl Try.func67 xk' rfl #[.slice Ao20 x5_1.length co20, .slice none 0 0, .int .i64 0, .int .i64 a0_1] rfl xl' ?_;(refine (spec_paGroups.calls k1 _ _ x5_1 _ _ ([]:List Int) 0 a0_1 t166 _ ?side1 ?side2 ?side3 ?side4 A17.out).mono ?_);(case side1=>exact kc' ((Kd.R_reads' HO_5.out).2.2));(case side2=>exact (Kd.R_reads' HO_5.out).2.1);(case side3=>exact Kd.C_nil _ _);(case side4=>exact Nat.le_refl _);rintro e w21 ⟨v167,rfl,ho0,hb⟩;refine ⟨_,rfl,?_⟩;have n0_:=am' (rb' (kr' HO_5.out) hb);have n1_:=am' (Kd.N_lower (Kd.N_mono (ok':=fun k_=>(w.heap.size≤k_)∧some k_≠(.slice Ao20 x5_1.length co20:Value).ownBlock∧k_≠gb160∧k_≠gb161) ho0 (fun k_ hk_=>⟨(Nat.le_trans (bz' (y2' GE160.out GE161.out)) hk_),(Kd.fresh' (Kd.R_lt (kr' HO_5.out)) k_ hk_),(Kd.freshB (g:=gb160) (o := .cells #[.slice A0_0 l0_0.length c0_0, .int .i64 a0_1] 28 (0,0)) (kk' BK160.out) k_ hk_),(Kd.freshB (g:=gb161) (o := .cells #[.slice A1_0 l1_0.length c1_0, .bool a1_1] 54 (0,0)) (kk' BK161.out) k_ hk_)⟩)) (bz' (y2' GE160.out GE161.out)));have n2_:=am' (bb' (g:=gb160) (o := .cells #[.slice A0_0 l0_0.length c0_0, .int .i64 a0_1] 28 (0,0)) (kk' BK160.out) hb);have n3_:=am' (bb' (g:=gb161) (o := .cells #[.slice A1_0 l1_0.length c1_0, .bool a1_1] 54 (0,0)) (kk' BK161.out) hb);have n4_:=am' (bt' (y2' GE160.out GE161.out) hb);clear HO_5;clear BK160;clear BK161;clear HB;have HO_5:=n0_;have HO168:=n1_;have BK160:=n2_;have BK161:=n3_;have HB:=n4_;clear n0_ n1_ n2_ n3_ n4_;(try clear hb);(try clear hb2);(try clear hk);(try clear hi);(try clear ho0)))
    go_ret
    exact ⟨_,by first|rfl|(simp[errW_none,errW_some] <;> rfl)|(simp[*,errW_none,errW_some] <;> rfl),by (with_reducible repeat (first|apply Kd.N_alloc|apply Kd.N_drewN|apply Kd.N_drew));exact Kd.N_mono HO168.out (fun _ hk=>hk.1),y2' GE160.out GE161.out⟩
def spec_l1Most.f (a0:Int) (a1:Int):Option (Int):=if a0 > a1 then (some a0) else (some a1)
set_option maxHeartbeats 8000000 in
set_option maxRecDepth 100000 in
theorem spec_l1Most.calls (a0:Int) (a1:Int) (r:Int) (w:World) (h:spec_l1Most.f a0 a1=some r) :
  Calls Try.prog 29 #[.int .i64 a0, .int .i64 a1] w fun e w'=>e = .returned (.int .i64 r)∧Drawn0 w w':=by
 have H:(if a0 > a1 then (some a0) else (some a1))=some r:=h
 clear h;by_cases c3:a0 > a1
 ·
  rw[if_pos c3] at H;have c3b0:decide (a1 < a0)=true:=dt' c3;clear c3;obtain rfl:=os' H;go_enter Try.func29,Try.ntmps29;go_wp2;go_ret
  exact ⟨xs',by repeat (first|exact Drawn0.refl _|apply Drawn0.step)⟩
 ·
  rw[if_neg c3] at H;have c3b0:decide (a1 < a0)=false:=df' c3;clear c3;obtain rfl:=os' H;go_enter Try.func29,Try.ntmps29;go_wp2;go_ret
  exact ⟨xs',by repeat (first|exact Drawn0.refl _|apply Drawn0.step)⟩
end Go.Proofs.Ytihieplobgehaaa.C2
