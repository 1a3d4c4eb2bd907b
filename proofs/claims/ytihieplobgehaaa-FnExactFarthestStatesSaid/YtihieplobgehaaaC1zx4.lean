import Derived.Test.YtihieplobgehaaaC1zx0
import Derived.Test.YtihieplobgehaaaC1zx3
import Derived.Test.YtihieplobgehaaaC1zAl
namespace Go.Proofs.Ytihieplobgehaaa.C1
open Go.RowKit Go.Proofs.YtihieplobgehaaaW.PrintWords Go.Proofs.YtihieplobgehaaaW.PrintLast Go.Proofs.YtihieplobgehaaaW.PrintMore Go.Proofs.Ytihieplobgehaaa.H
attribute [local go_sem] max2_int min2_int max_two min_two max_three min_three max_four min_four
set_option linter.unusedVariables false
set_option linter.unusedSimpArgs false
mutual
def spec_paGroups.j0:Nat→List Int→List Int→Int→Int→List (List Int)→Option ((List (List Int)))
 | 0,_,_,_,_,_=>none
 | k+1,x0,x1,x2,x3,x9=>if (x1.length:Int)=x3 then (some x9) else (spec_paGroups.l0 k x0 x1 x3 x9 x2)
def spec_paGroups.l0:Nat→List Int→List Int→Int→List (List Int)→Int→Option ((List (List Int)))
 | 0,_,_,_,_,_=>none
 | k+1,x0,x1,x3,x9,x10=>if x10 < (x0.length:Int) then ((spec_l1Own.f x1).bind fun t160=>(if 0≤x10 then ((some (([rd x0 x10]:List Int):List Int)).bind fun y164=>(if t160.length+y164.length < 17592186044416 then ((spec_paGroups.f k x0 (t160 ++ y164) (wrap64 (x10+1)) x3).bind fun t170=>(if x9.length+t170.length < 5864062014805 then (spec_paGroups.l0 k x0 x1 x3 (x9 ++ t170) (wrap64 (x10+1))) else (none))) else (none))) else (none))) else (some x9)
def spec_paGroups.f:Nat→List Int→List Int→Int→Int→Option ((List (List Int)))
 | 0,_,_,_,_=>none
 | k+1,l0,l1,a2,a3=>if (l1.length:Int) > 0 then ((spec_l1Own.f l1).bind fun t151=>((some (([t151]:List (List Int)):List (List Int))).bind fun y154=>(if ([]:List (List Int)).length+y154.length < 5864062014805 then (spec_paGroups.j0 k l0 l1 a2 a3 (([]:List (List Int)) ++ y154)) else (none)))) else (spec_paGroups.j0 k l0 l1 a2 a3 ([]:List (List Int)))
end
def spec_paGroups.T9:Bool × List (List Nat × List Nat):=(true,[([],[]),([],[]),([],[]),([2],[2]),([],[]),([],[]),([4,5],[4,5]),([6],[6]),([7],[7]),([3,8,3],[3,8]),([],[]),([10],[10]),([],[]),([1,9,11,12,9],[1,9,11,12]),([0,13,13],[0,13]),([14,14,0,1,2,3,4,5,6,7,8,9,10,11,12,13,14],[0,14])])
def spec_paGroups.B9:List Nat:=[0,0,0,4,0,0,48,112,240,508,0,1024,0,8190,16383,32767]
theorem spec_paGroups.tab9:rtab .any (opsOf Try.f67 9)=spec_paGroups.T9:=by kernel_rfl
theorem spec_paGroups.bits9:waitsOk spec_paGroups.T9.2 spec_paGroups.B9=true:=by kernel_rfl
set_option maxHeartbeats 8000000 in
set_option maxRecDepth 100000 in
theorem spec_paGroups.calls (k:Nat):∀ (A0:Option Addr) (c0:Nat) (l0:List Int) (A1:Option Addr) (c1:Nat) (l1:List Int) (a2:Int) (a3:Int) (r:List (List Int)) (w:World) (hr0:Kd.C (Kd.int .i64) w A0 l0.length l0) (hc0:l0.length≤c0) (hr1:Kd.C (Kd.int .i64) w A1 l1.length l1) (hc1:l1.length≤c1) (h:spec_paGroups.f k l0 l1 a2 a3=some r),
  Calls Try.prog 67 #[.slice A0 l0.length c0, .slice A1 l1.length c1, .int .i64 a2, .int .i64 a3] w fun e w'=>∃ v0_:Value,e = .returned (v0_)∧Kd.N (Kd.slice 3 (Kd.int .i64)) 22 w' w.heap.size (fun k_=>(w.heap.size≤k_)) v0_ r∧Below w.heap.size w w':=by
 induction k using Nat.strongRecOn with
 | _ k ih =>
 intro A0 c0 l0 A1 c1 l1 a2 a3 r w hr0 hc0 hr1 hc1 h;cases k with
 | zero=>exact absurd h (by simp[spec_paGroups.f])
 | succ k =>
 simp only[spec_paGroups.f] at h
 have HR0:=am' hr0
 have HC0:=am' hc0
 clear hr0 hc0;have HR1:=am' hr1
 have HC1:=am' hc1
 clear hr1 hc1;have HB:=am' (Below.refl w.heap.size w)
 have H:(if (l1.length:Int) > 0 then ((spec_l1Own.f l1).bind fun t151=>((some (([t151]:List (List Int)):List (List Int))).bind fun y154=>(if ([]:List (List Int)).length+y154.length < 5864062014805 then (spec_paGroups.j0 k l0 l1 a2 a3 (([]:List (List Int)) ++ y154)) else (none)))) else (spec_paGroups.j0 k l0 l1 a2 a3 ([]:List (List Int))))=some r:=h
 clear h;have HC5:=am' H
 clear H;go_enter Try.func67,Try.ntmps67
 go_upto_if 13 with (fail)
 go_cut [9] (fun v9 wc=>∃ (kq:Nat) (x9_4:List (List Int)),Aside0 (spec_paGroups.j0 kq l0 l1 a2 a3 x9_4=some r)∧Aside0 (kq≤k)∧Aside0 (Kd.N (Kd.slice 3 (Kd.int .i64)) 22 wc w.heap.size (fun k_=>(w.heap.size≤k_)) v9 x9_4)∧Aside0 (Below w.heap.size w wc))
 case first =>
  have H:=HC5.out;clear HC5;by_cases c6:(l1.length:Int) > 0
  ·
   rw[if_pos c6] at H;have c6b0:decide (0 < (l1.length:Int))=true:=decide_eq_true c6;have c6b1:decide (0 < l1.length)=true:=decide_eq_true (by omega);clear c6;(first|rw[c6b0]|(simp only[i64_w,i32_w];rw[c6b0])|rw[c6b1]|skip)
   replace H:=Option.bind_eq_some_iff.mp H;obtain ⟨t151,A70,H⟩:=H;replace H:((some (([t151]:List (List Int)):List (List Int))).bind fun y154=>(if ([]:List (List Int)).length+y154.length < 5864062014805 then (spec_paGroups.j0 k l0 l1 a2 a3 (([]:List (List Int)) ++ y154)) else (none)))=some r:=H;have A7:=am' A70;clear A70;obtain ⟨y154,hy154⟩:∃ y_:List (List Int),y_=(([t151]:List (List Int))):=⟨_,rfl⟩
   replace H:(if ([]:List (List Int)).length+y154.length < 5864062014805 then (spec_paGroups.j0 k l0 l1 a2 a3 (([]:List (List Int)) ++ y154)) else (none))=some r:=by first|(rw[hy154];with_reducible exact H)|(have H2_:=(Option.bind_some _ _).symm.trans H;rw[hy154];with_reducible exact H2_)|(have H2_:=(Option.bind_some _ _).symm.trans H;with_reducible exact H2_)|with_reducible exact H|(rw[hy154];exact H)|exact H
   have Ny154:=am' hy154;clear hy154;by_cases c8:([]:List (List Int)).length+y154.length < 5864062014805
   ·
    rw[if_pos c8] at H;have LMc8:=am' c8;clear c8;obtain ⟨y157,hy157⟩:∃ y_:List (List Int),y_=(([]:List (List Int)) ++ y154):=⟨_,rfl⟩
    replace H:(spec_paGroups.j0 k l0 l1 a2 a3 y157)=some r:=by first|(rw[hy157];with_reducible exact H)|(have H2_:=(Option.bind_some _ _).symm.trans H;rw[hy157];with_reducible exact H2_)|(have H2_:=(Option.bind_some _ _).symm.trans H;with_reducible exact H2_)|with_reducible exact H|(rw[hy157];exact H)|exact H
    have Ny157:=am' hy157;clear hy157;have H':=am' H;clear H;go_wp2_with (first|((with_reducible refine gate_callee (f:=63) rfl ?_);refine goesL_ (some 16) rfl rfl Try.func63 (by kernel_rfl) rfl #[.slice A1 l1.length c1] rfl (by (try simp only[List.map_toArray,List.map_cons,List.map_nil]);first|done|rfl|(simp only[List.length_drop,List.length_take];rfl)) ?_;(with_reducible refine (spec_l1Own.calls _ _ l1 t151 _ ?side1 ?side2 A7.out).mono ?_);(case side1=>repeat (first|exact (Kd.C_below HR1.out HB.out)|(with_reducible refine ca' ?_ _)|(with_reducible refine cn' ?_ _)|(with_reducible refine cd' ?_)));(case side2=>exact HC1.out);rintro e w9 ⟨v152,rfl,ho0,hb⟩;refine ⟨_,rfl,?_⟩;have n0_:=am' (Kd.R_lower (Kd.R_newM (M:=fun k_=>(w.heap.size≤k_)) ho0 (below_size (by repeat (first|(with_reducible first|exact HB.out|apply ba'|apply bd'|apply be')|exact HB.out))) (fun k_ h_=>h_)) (below_size (by repeat (first|(with_reducible first|exact HB.out|apply ba'|apply bd'|apply be')|exact HB.out))));have n1_:=am' (below_step (by repeat (first|(with_reducible first|exact HB.out|apply ba'|apply bd'|apply be')|exact HB.out)) hb);clear HB;have HO153:=n0_;have HB:=n1_;clear n0_ n1_;(try clear hb);(try clear hb2);(try clear hk);(try clear hi);(try clear ho0);obtain ⟨Ao10,co10,eo10⟩:=Kd.R_slice HO153.out;subst eo10)|((with_reducible refine gate_dst (N:=17) rfl ?_);refine Kd.N_lit (Kd.slice 3 (Kd.int .i64)) _ 22 ?hg (N':=17) ?hd (xs:=([t151]:List (List Int))) (inner:=[.slice Ao10 t151.length co10]) (ok:=(fun k_=>(w.heap.size≤k_))) (okp:=(fun k_=>(w.heap.size≤k_))) ?hr ?hp (fun _ hk=>hk) ((show ∀ k_,w9.heap.size≤k_→(fun k_=>(w.heap.size≤k_)) k_ from fun k_ hk=>(Nat.le_trans (below_size (by repeat (first|(with_reducible first|exact HB.out|apply ba'|apply bd'|apply be')|exact HB.out))) hk)) _ (Nat.le_refl _)) (Below.refl _ _) (Nat.le_refl _) (by simp) ?_;(case hd=>rfl);(case hg=>rfl);(case hr=>first|(go_simp;done)|(go_simp;rfl));(case hp=>exact (Reps.one (show Kd.FK (Kd.slice 3 (Kd.int .i64)) _ _ t151 [.slice Ao10 t151.length co10] from (Kd.FK_slice_mk (Kd.R_reads' (Kd.R_mono (ok':=(fun k_=>(w.heap.size≤k_))) (HO153.out) (fun k_ hk=>hk.1))).2.1 (Kd.R_F (Kd.R_mono (ok':=(fun k_=>(w.heap.size≤k_))) (HO153.out) (fun k_ hk=>hk.1))))) (Reps.none _ _)));intro v155 w11 ho12 hb hg_ hnew_;clear hg_ hnew_;(first|rw[← Ny154.out] at ho12|(simp only[Int.reduceToNat] at ho12;rw[← Ny154.out] at ho12));have n0_:=am' (Kd.N_lower ho12 (below_size (by repeat (first|(with_reducible first|exact HB.out|apply ba'|apply bd'|apply be')|exact HB.out))));have n1_:=am' (below_step (by repeat (first|(with_reducible first|exact HB.out|apply ba'|apply bd'|apply be')|exact HB.out)) hb);clear HB;clear HO153;have HO156:=n0_;have HB:=n1_;clear n0_ n1_;clear hb ho12;obtain ⟨Ao14,co14,eo14⟩:=Kd.N_slice HO156.out;subst eo14)|((with_reducible refine gate_builtin (b := .append) (xs:=#[.tmp 14, .tmp 17]) rfl ?_);at_builtin;refine Kd.N_append_rows (Kd.slice 3 (Kd.int .i64)) (w0:=w) w.heap.size rfl (.tmp 14) (.tmp 17) 68 22 (.slice none 0 0) 24 rfl Try.underlying68 info22 rfl (by decide) (by omega) (.slice none 0 0) ([]:List (List Int)) y154 _ _ _ (fun k_=>(w.heap.size≤k_)) (fun k_=>((fun k_=>(w.heap.size≤k_))) k_∧some k_≠(.slice none 0 0:Value).ownBlock) rfl rfl ?aO ?aR (fun _ hk=>hk) ?aF ?aB ?aS ?aL ?_;(case aR=>exact (by skip;exact Kd.N_F (Kd.N_mono (ok':=(fun k_=>((fun k_=>(w.heap.size≤k_))) k_∧some k_≠(.slice none 0 0:Value).ownBlock)) (HO156.out) (fun k_ hk=>⟨hk,(by simp[Value.ownBlock])⟩))));(case aB=>exact (by repeat (first|(with_reducible first|exact HB.out|apply ba'|apply bd'|apply be')|exact HB.out)));(case aF=>exact (fun k_ hk=>(Nat.le_trans (below_size (by repeat (first|(with_reducible first|exact HB.out|apply ba'|apply bd'|apply be')|exact HB.out))) hk)));(case aO=>exact ((Kd.N_nil _ _ _ _ (fun k_=>(w.heap.size≤k_)))));(case aS=>exact (below_size (by repeat (first|(with_reducible first|exact HB.out|apply ba'|apply bd'|apply be')|exact HB.out))));(case aL=>have:=LMc8.out;omega);intro v158 w13 ho hb hg hat;rw[← Ny157.out] at ho;have n0_:=am' (Kd.N_afterv (Kd.N_apart_nil (by (with_reducible repeat (first|apply Kd.N_alloc|apply Kd.N_drewN|apply Kd.N_drew));exact HO156.out)) hg hat);have n1_:=am' (hb);have n2_:=am' (ho);clear HO156;clear HB;have HO156:=n0_;have HB:=n1_;have HO159:=n2_;clear n0_ n1_ n2_;clear ho hb hg hat))
    go_meet
    case rel=>exact ⟨_,(y157),H',⟨by first|omega|exact Nat.le_refl _⟩,⟨by (with_reducible repeat (first|apply Kd.N_alloc|apply Kd.N_drewN|apply Kd.N_drew));exact HO159.out⟩,⟨by repeat (first|(with_reducible first|exact HB.out|apply ba'|apply bd'|apply be')|exact HB.out)⟩⟩
   ·
    rw[if_neg c8] at H;exact absurd H (by simp)
  ·
   rw[if_neg c6] at H;have c6b0:decide (0 < (l1.length:Int))=false:=decide_eq_false c6;have c6b1:decide (0 < l1.length)=false:=decide_eq_false (by omega);clear c6;(first|rw[c6b0]|(simp only[i64_w,i32_w];rw[c6b0])|rw[c6b1]|skip)
   have H':=am' H;clear H;go_wp2;go_meet
   case rel=>exact ⟨_,(([]:List (List Int))),H',⟨by first|omega|exact Nat.le_refl _⟩,⟨by first|exact Kd.S_nil _ _ _ _ _|exact Kd.N_nil _ _ _ _ _|exact Kd.V_nil _ _ _ _ _|exact Kd.Q_nil _ _ _ _ _|exact Kd.R_nil _ _ _ _ _⟩,⟨by repeat (first|(with_reducible first|exact HB.out|apply ba'|apply bd'|apply be')|exact HB.out)⟩⟩
 case rest =>
  clear HC5;try clear c1
  try clear p2
  try clear c6
  try clear c6b0
  try clear c6b1
  try clear c8
  obtain ⟨kq,x9_4,HA,HJ4,HO_9,HB⟩:=hcut;cases kq with
  | zero=>exact absurd HA.out (by simp[spec_paGroups.j0])
  | succ kj4 =>
   have H:=HA.out;clear HA;simp only[spec_paGroups.j0] at H;by_cases c15:(l1.length:Int)=a3
   ·
    rw[if_pos c15] at H;have c15b0:((l1.length:Int) == a3)=true:=beq_iff_eq.mpr c15;have c15b1:((l1.length:Int) != a3)=false:=bne_eq_false_iff_eq.mpr c15;clear c15;obtain rfl:=Option.some.inj H;go_wp2;go_ret
    exact ⟨_,by first|rfl|(simp[errW_none,errW_some] <;> rfl)|(simp[*,errW_none,errW_some] <;> rfl),by (with_reducible repeat (first|apply Kd.N_alloc|apply Kd.N_drewN|apply Kd.N_drew));exact HO_9.out,by repeat (first|(with_reducible first|exact HB.out|apply ba'|apply bd'|apply be')|exact HB.out)⟩
   ·
    rw[if_neg c15] at H;have c15b0:((l1.length:Int) == a3)=false:=beq_eq_false_iff_ne.mpr c15;have c15b1:((l1.length:Int) != a3)=true:=bne_iff_ne.mpr c15;have H':=am' H;clear H;go_wp2;go_loopg [9,10] kj4 (fun kq v9 v10 w'=>∃ (x9_2:List (List Int)) (x10_2:Int),v10 = .int .i64 x10_2∧Aside0 (spec_paGroups.l0 kq l0 l1 a3 x9_2 x10_2=some r)∧Aside0 (kq≤kj4)∧Aside0 (Kd.N (Kd.slice 3 (Kd.int .i64)) 22 w' w.heap.size (fun k_=>(w.heap.size≤k_)) v9 x9_2)∧Aside0 (Below w.heap.size w w'))
    case atStart=>exact ⟨(x9_4),(a2),(by first|rfl|(simp;done)|(simp[*];done)),H',⟨Nat.le_refl _⟩,⟨by (with_reducible repeat (first|apply Kd.N_alloc|apply Kd.N_drewN|apply Kd.N_drew));exact HO_9.out⟩,⟨by repeat (first|(with_reducible first|exact HB.out|apply ba'|apply bd'|apply be')|exact HB.out)⟩⟩
    case round =>
     clear H';try clear c1
     try clear p2
     try clear c6
     try clear c6b0
     try clear c6b1
     try clear c8
     try clear c15
     try clear c15b0
     try clear c15b1
     try clear p2
     obtain ⟨x9_2,x10_2,rfl,HA,HK2,HO_9,HB⟩:=hrel;cases gk with
     | zero=>exact absurd HA.out (by simp[spec_paGroups.l0])
     | succ k2 =>
      have H:=HA.out;clear HA;simp only[spec_paGroups.l0] at H;by_cases c16:x10_2 < (l0.length:Int)
      ·
       rw[if_pos c16] at H;have c16b0:decide (x10_2 < (l0.length:Int))=true:=decide_eq_true c16;clear c16;replace H:=Option.bind_eq_some_iff.mp H;obtain ⟨t160,A170,H⟩:=H;replace H:(if 0≤x10_2 then ((some (([rd l0 x10_2]:List Int):List Int)).bind fun y164=>(if t160.length+y164.length < 17592186044416 then ((spec_paGroups.f k2 l0 (t160 ++ y164) (wrap64 (x10_2+1)) a3).bind fun t170=>(if x9_2.length+t170.length < 5864062014805 then (spec_paGroups.l0 k2 l0 l1 a3 (x9_2 ++ t170) (wrap64 (x10_2+1))) else (none))) else (none))) else (none))=some r:=H;have A17:=am' A170;clear A170;by_cases c18:0≤x10_2
       ·
        rw[if_pos c18] at H;have c18b0:decide (0≤x10_2)=true:=decide_eq_true c18;clear c18;obtain ⟨y164,hy164⟩:∃ y_:List Int,y_=(([rd l0 x10_2]:List Int)):=⟨_,rfl⟩
        replace H:(if t160.length+y164.length < 17592186044416 then ((spec_paGroups.f k2 l0 (t160 ++ y164) (wrap64 (x10_2+1)) a3).bind fun t170=>(if x9_2.length+t170.length < 5864062014805 then (spec_paGroups.l0 k2 l0 l1 a3 (x9_2 ++ t170) (wrap64 (x10_2+1))) else (none))) else (none))=some r:=by first|(rw[hy164];with_reducible exact H)|(have H2_:=(Option.bind_some _ _).symm.trans H;rw[hy164];with_reducible exact H2_)|(have H2_:=(Option.bind_some _ _).symm.trans H;with_reducible exact H2_)|with_reducible exact H|(rw[hy164];exact H)|exact H
        have Ny164:=am' hy164;clear hy164;by_cases c19:t160.length+y164.length < 17592186044416
        ·
         rw[if_pos c19] at H;have LMc19:=am' c19;clear c19;obtain ⟨y167,hy167⟩:∃ y_:List Int,y_=(t160 ++ y164):=⟨_,rfl⟩
         replace H:((spec_paGroups.f k2 l0 y167 (wrap64 (x10_2+1)) a3).bind fun t170=>(if x9_2.length+t170.length < 5864062014805 then (spec_paGroups.l0 k2 l0 l1 a3 (x9_2 ++ t170) (wrap64 (x10_2+1))) else (none)))=some r:=by first|(rw[hy167];with_reducible exact H)|(have H2_:=(Option.bind_some _ _).symm.trans H;rw[hy167];with_reducible exact H2_)|(have H2_:=(Option.bind_some _ _).symm.trans H;with_reducible exact H2_)|with_reducible exact H|(rw[hy167];exact H)|exact H
         have Ny167:=am' hy167;clear hy167;replace H:=Option.bind_eq_some_iff.mp H;obtain ⟨t170,A200,H⟩:=H;replace H:(if x9_2.length+t170.length < 5864062014805 then (spec_paGroups.l0 k2 l0 l1 a3 (x9_2 ++ t170) (wrap64 (x10_2+1))) else (none))=some r:=H;have A20:=am' A200;clear A200;by_cases c21:x9_2.length+t170.length < 5864062014805
         ·
          rw[if_pos c21] at H;have LMc21:=am' c21;clear c21;obtain ⟨y173,hy173⟩:∃ y_:List (List Int),y_=(x9_2 ++ t170):=⟨_,rfl⟩
          replace H:(spec_paGroups.l0 k2 l0 l1 a3 y173 (wrap64 (x10_2+1)))=some r:=by first|(rw[hy173];with_reducible exact H)|(have H2_:=(Option.bind_some _ _).symm.trans H;rw[hy173];with_reducible exact H2_)|(have H2_:=(Option.bind_some _ _).symm.trans H;with_reducible exact H2_)|with_reducible exact H|(rw[hy173];exact H)|exact H
          have Ny173:=am' hy173;clear hy173;have H':=am' H;clear H;obtain ⟨Ao22,co22,eo22⟩:=Kd.N_slice HO_9.out;subst eo22;try go_wp2
          have n0_:=am' (Kd.N_drew HO_9.out);have n1_:=am' (be' HB.out);clear HO_9;clear HB;have HO_9:=n0_;have HB:=n1_;clear n0_ n1_;have p163:0≤(x10_2:Int):=of_decide_eq_true (by first|(with_reducible assumption)|assumption);have q163:x10_2 < (l0.length:Int):=of_decide_eq_true (by first|(with_reducible assumption)|assumption);obtain ⟨ad163,e163,hx163_0⟩:=Kd.at_int HR0.out x10_2 p163 q163;have hw163_0:=hx163_0;cases e163;replace hx163_0:=(HB.out.cell (bl' w _ hx163_0)).trans hx163_0;replace p163:=eq_true p163;replace q163:=eq_true q163;refine start_ (n:=16) (S:=fun w'=>w'.cell? (ad163.add (x10_2).toNat)=some (.int .i64 (rd l0 x10_2))) (ds:=[]) #[false,false,false,false,false,false,false,false,false,false,false,false,false,false,false,false] (by kernel_rfl) rfl rfl (((HB.out.cell (bl' w _ hw163_0)).trans hw163_0)) (fun hHeld=>?_);refine with_tabW spec_paGroups.tab9 spec_paGroups.bits9 (fun HT_ HW_=>?_);generalize wr.drew=w23 at HO_9 HB hx163_0 hHeld ⊢
          refine pure_ (i:=0) (N:=some 31) (v:=?_) (a':=?_) #[true,false,false,false,false,false,false,false,false,false,false,false,false,false,false,false] rfl rfl (any_of HT_.out (by kernel_rfl)) (fun _ _ _ h=>h) (Or.inl ⟨by rfl,?_⟩) ?_ ?_
          rotate_left
          ·
           intro w';go_simp;with_reducible rfl
          rotate_left
          ·
           simp only[Act.put,sa',sb',sc',i64_w,i32_w];rfl
          refine pure_ (i:=1) (N:=some 32) (v:=?_) (a':=?_) #[true,true,false,false,false,false,false,false,false,false,false,false,false,false,false,false] rfl rfl (any_of HT_.out (by kernel_rfl)) (fun _ _ _ h=>h) (Or.inl ⟨by rfl,?_⟩) ?_ ?_
          rotate_left
          ·
           intro w';go_simp;with_reducible rfl
          rotate_left
          ·
           simp only[Act.put,sa',sb',sc',i64_w,i32_w];rfl
          refine pure_ (i:=2) (N:=some 33) (v:=?_) (a':=?_) #[true,true,true,false,false,false,false,false,false,false,false,false,false,false,false,false] rfl rfl (any_of HT_.out (by kernel_rfl)) (fun _ _ _ h=>h) (Or.inl ⟨by rfl,?_⟩) ?_ ?_
          rotate_left
          ·
           intro w';go_simp;with_reducible rfl
          rotate_left
          ·
           simp only[Act.put,sa',sb',sc',i64_w,i32_w];rfl
          refine pure_ (i:=4) (N:=some 35) (v:=?_) (a':=?_) #[true,true,true,false,true,false,false,false,false,false,false,false,false,false,false,false] rfl rfl (any_of HT_.out (by kernel_rfl)) (fun _ _ _ h=>h) (Or.inl ⟨by rfl,?_⟩) ?_ ?_
          rotate_left
          ·
           intro w';go_simp;with_reducible rfl
          rotate_left
          ·
           simp only[Act.put,sa',sb',sc',i64_w,i32_w];rfl
          refine pure_ (i:=5) (N:=some 36) (v:=?_) (a':=?_) #[true,true,true,false,true,true,false,false,false,false,false,false,false,false,false,false] rfl rfl (any_of HT_.out (by kernel_rfl)) (fun _ _ _ h=>h) (Or.inl ⟨by rfl,?_⟩) ?_ ?_
          rotate_left
          ·
           intro w';go_simp;with_reducible rfl
          rotate_left
          ·
           simp only[Act.put,sa',sb',sc',i64_w,i32_w];rfl
          refine pure_ (i:=6) (N:=some 37) (v:=?_) (a':=?_) #[true,true,true,false,true,true,true,false,false,false,false,false,false,false,false,false] rfl rfl (any_of HT_.out (by kernel_rfl)) (fun _ _ _ h=>h) (Or.inl ⟨by rfl,?_⟩) ?_ ?_
          rotate_left
          ·
           intro w';go_simp;with_reducible rfl
          rotate_left
          ·
           simp only[Act.put,sa',sb',sc',i64_w,i32_w];rfl
          refine pure_ (i:=10) (N:=some 41) (v:=?_) (a':=?_) #[true,true,true,false,true,true,true,false,false,false,true,false,false,false,false,false] rfl rfl (any_of HT_.out (by kernel_rfl)) (fun _ _ _ h=>h) (Or.inl ⟨by rfl,?_⟩) ?_ ?_
          rotate_left
          ·
           intro w';go_simp;with_reducible rfl
          rotate_left
          ·
           simp only[Act.put,sa',sb',sc',i64_w,i32_w];rfl
          refine pure_ (i:=11) (N:=some 42) (v:=?_) (a':=?_) #[true,true,true,false,true,true,true,false,false,false,true,true,false,false,false,false] rfl rfl (any_of HT_.out (by kernel_rfl)) (fun _ _ _ h=>h) (Or.inl ⟨by rfl,?_⟩) ?_ ?_
          rotate_left
          ·
           intro w';go_simp;with_reducible rfl
          rotate_left
          ·
           simp only[Act.put,sa',sb',sc',i64_w,i32_w];rfl
          refine pure_ (i:=12) (N:=some 43) (v:=?_) (a':=?_) #[true,true,true,false,true,true,true,false,false,false,true,true,true,false,false,false] rfl rfl (any_of HT_.out (by kernel_rfl)) (fun _ _ _ h=>h) (Or.inl ⟨by rfl,?_⟩) ?_ ?_
          rotate_left
          ·
           intro w';go_simp;with_reducible rfl
          rotate_left
          ·
           simp only[Act.put,sa',sb',sc',i64_w,i32_w];rfl
          refine take_ (i:=7) (N:=some 38) (v:=?_) (a':=?_) #[true,true,true,false,true,true,true,true,false,false,true,true,true,false,false,false] rfl rfl (take_ofW HT_.out HW_.out (by kernel_rfl)) (fun _ _ _ h=>h) (Or.inl ⟨by rfl,?_⟩) hHeld ?_ ?_
          rotate_left
          ·
           intro w' s0;go_simp;with_reducible rfl
          rotate_left
          ·
           simp only[Act.put,sa',sb',sc',i64_w,i32_w];rfl
          refine join_ (σ:=Value × Value) 4 #[true,true,true,true,true,true,true,true,true,false,true,true,true,false,false,false] (fun s_=>[(34,s_.1),(39,s_.2)]) (fun s_ w'=>(w'.cell? (ad163.add (x10_2).toNat)=some (.int .i64 (rd l0 x10_2)))∧(Kd.R (Kd.int .i64) 3 w' w.heap.size (fun k_=>(w.heap.size≤k_)∧some k_≠(s_.2:Value).ownBlock) s_.1 t160)∧(Kd.R (Kd.int .i64) 3 w' w.heap.size (fun k_=>(w.heap.size≤k_)∧some k_≠(s_.1:Value).ownBlock) s_.2 y164)∧(Kd.N (Kd.slice 3 (Kd.int .i64)) 22 w' w.heap.size (fun k_=>(w.heap.size≤k_)∧some k_≠(s_.1:Value).ownBlock∧some k_≠(s_.2:Value).ownBlock) (.slice Ao22 x9_2.length co22) x9_2)∧(Below w.heap.size w w')) ?_ ?_
          rotate_left
          ·
           intro hCont;refine two_ (i:=3) (j:=8) (Ni:=some 34) (Nj:=some 39) #[true,true,true,true,true,true,true,true,false,false,true,true,true,false,false,false] #[true,true,true,false,true,true,true,true,true,false,true,true,true,false,false,false] rfl rfl rfl rfl (two_of HT_.out (by kernel_rfl)) (by decide) (by decide) (fun K hK=>?_) (fun K hK=>?_)
           ·
            skip
            refine goes_ Try.func63 (by kernel_rfl) rfl #[.slice A1 l1.length c1] (by rfl) rfl rfl (by (try simp only[List.map_toArray,List.map_cons,List.map_nil]);first|done|rfl|(simp only[List.length_drop,List.length_take];rfl)) ?_
            with_reducible refine (spec_l1Own.calls _ _ l1 t160 _ ?side1 ?side2 A17.out).mono ?_
            (case side1=>repeat (first|exact (Kd.C_below HR1.out HB.out)|(with_reducible refine ca' ?_ _)|(with_reducible refine cn' ?_ _)|(with_reducible refine cd' ?_)))
            (case side2=>exact HC1.out)
            rintro e w24 ⟨v161,rfl,ho0,hb⟩
            refine ⟨_,rfl,?_⟩;have n0_:=am' (Kd.N_elder' (by (with_reducible repeat (first|apply Kd.N_alloc|apply Kd.N_drewN|apply Kd.N_drew));exact HO_9.out) (Kd.R_base ho0) hb);have n1_:=am' (Kd.R_lower (Kd.R_newM (M:=fun k_=>(w.heap.size≤k_)) ho0 (below_size (by repeat (first|(with_reducible first|exact HB.out|apply ba'|apply bd'|apply be')|exact HB.out))) (fun k_ h_=>h_)) (below_size (by repeat (first|(with_reducible first|exact HB.out|apply ba'|apply bd'|apply be')|exact HB.out))));have n2_:=am' (below_step (by repeat (first|(with_reducible first|exact HB.out|apply ba'|apply bd'|apply be')|exact HB.out)) hb);clear HO_9;clear HB;have HO_9:=n0_;have HO162:=n1_;have HB:=n2_;clear n0_ n1_ n2_;(try clear hb)
            (try clear hb2)
            (try clear hk)
            (try clear hi)
            (try clear ho0)
            refine hK.out _ _ (((HB.out.cell (bl' w _ hw163_0)).trans hw163_0)) (fun hHeld=>?_);clear hK K;refine norm_ (a':=?_) ?_ ?_
            rotate_left
            ·
             show Act.put _ (some 34) _=_
             simp only[Act.put,sa',sb',sc',i64_w,i32_w];rfl
            refine one_ (i:=8) (N:=some 39) #[true,true,true,true,true,true,true,true,true,false,true,true,true,false,false,false] rfl rfl (one_of HT_.out (by kernel_rfl)) (by decide) (fun K hK=>?_);refine Kd.R_lit_step (Kd.int .i64) _ 3 ?hg (N:=39) ?hd (xs:=([rd l0 x10_2]:List Int)) (inner:=[.int .i64 (rd l0 x10_2)]) (ok:=fun _=>True) (okp:=fun _=>True) ?hr ?hp (fun _ hk=>hk) trivial (Below.refl _ _) (Nat.le_refl _) (by simp) ?_;(case hd=>rfl);(case hg=>rfl);(case hr=>first|(go_simp;done)|(go_simp;rfl));(case hp=>exact (Reps.one (show Kd.M (Kd.int .i64) _ _ _ (rd l0 x10_2) [.int .i64 (rd l0 x10_2)] from rfl) (Reps.none _ _)))
            intro v165 w25 ho26 hb hg_ hnew_;clear hg_ hnew_;(first|rw[← Ny164.out] at ho26|(simp only[Int.reduceToNat] at ho26;rw[← Ny164.out] at ho26))
            have n0_:=am' (Kd.N_elder' (by (with_reducible repeat (first|apply Kd.N_alloc|apply Kd.N_drewN|apply Kd.N_drew));exact HO_9.out) (Kd.R_base ho26) hb);have n1_:=am' (Kd.R_elder' (by (with_reducible repeat (first|apply ra'|apply rn'|apply rw'));exact HO162.out) (Kd.R_base ho26) hb);have n2_:=am' (Kd.R_lower (Kd.R_new' (Kd.R_newM (M:=fun k_=>(w.heap.size≤k_)) ho26 (below_size (by repeat (first|(with_reducible first|exact HB.out|apply ba'|apply bd'|apply be')|exact HB.out))) (fun k_ h_=>h_)) (Kd.R_lt (by (with_reducible repeat (first|apply ra'|apply rn'|apply rw'));exact HO162.out))) (below_size (by repeat (first|(with_reducible first|exact HB.out|apply ba'|apply bd'|apply be')|exact HB.out))));have n3_:=am' (below_step (by repeat (first|(with_reducible first|exact HB.out|apply ba'|apply bd'|apply be')|exact HB.out)) hb);clear HO_9;clear HO162;clear HB;have HO_9:=n0_;have HO162:=n1_;have HO166:=n2_;have HB:=n3_;clear n0_ n1_ n2_ n3_;clear hb ho26;refine hK.out _ _ (((HB.out.cell (bl' w _ hw163_0)).trans hw163_0)) (fun hHeld=>?_);clear hK K;refine norm_ (a':=?_) ?_ ?_
            rotate_left
            ·
             show Act.put _ (some 39) _=_
             simp only[Act.put,sa',sb',sc',i64_w,i32_w];rfl
            exact norm_ (by simp only[putAll,Act.put,sa',sb',sc']) (hCont (v161,v165) _ ⟨hHeld,(by (with_reducible repeat (first|apply ra'|apply rn'|apply rw'));exact Kd.R_mono HO162.out (fun _ hk=>⟨hk.1.1,hk.2⟩)),(by (with_reducible repeat (first|apply ra'|apply rn'|apply rw'));exact Kd.R_mono HO166.out (fun _ hk=>⟨hk.1.1,hk.2⟩)),(by (with_reducible repeat (first|apply Kd.N_alloc|apply Kd.N_drewN|apply Kd.N_drew));exact Kd.N_mono HO_9.out (fun _ hk=>⟨hk.1.1,⟨hk.1.2,hk.2⟩⟩)),(by repeat (first|(with_reducible first|exact HB.out|apply ba'|apply bd'|apply be')|exact HB.out))⟩)
           ·
            skip
            refine Kd.R_lit_step (Kd.int .i64) _ 3 ?hg (N:=39) ?hd (xs:=([rd l0 x10_2]:List Int)) (inner:=[.int .i64 (rd l0 x10_2)]) (ok:=fun _=>True) (okp:=fun _=>True) ?hr ?hp (fun _ hk=>hk) trivial (Below.refl _ _) (Nat.le_refl _) (by simp) ?_;(case hd=>rfl);(case hg=>rfl);(case hr=>first|(go_simp;done)|(go_simp;rfl));(case hp=>exact (Reps.one (show Kd.M (Kd.int .i64) _ _ _ (rd l0 x10_2) [.int .i64 (rd l0 x10_2)] from rfl) (Reps.none _ _)))
            intro v165 w24 ho25 hb hg_ hnew_;clear hg_ hnew_;(first|rw[← Ny164.out] at ho25|(simp only[Int.reduceToNat] at ho25;rw[← Ny164.out] at ho25))
            have n0_:=am' (Kd.N_elder' (by (with_reducible repeat (first|apply Kd.N_alloc|apply Kd.N_drewN|apply Kd.N_drew));exact HO_9.out) (Kd.R_base ho25) hb);have n1_:=am' (Kd.R_lower (Kd.R_newM (M:=fun k_=>(w.heap.size≤k_)) ho25 (below_size (by repeat (first|(with_reducible first|exact HB.out|apply ba'|apply bd'|apply be')|exact HB.out))) (fun k_ h_=>h_)) (below_size (by repeat (first|(with_reducible first|exact HB.out|apply ba'|apply bd'|apply be')|exact HB.out))));have n2_:=am' (below_step (by repeat (first|(with_reducible first|exact HB.out|apply ba'|apply bd'|apply be')|exact HB.out)) hb);clear HO_9;clear HB;have HO_9:=n0_;have HO166:=n1_;have HB:=n2_;clear n0_ n1_ n2_;clear hb ho25;refine hK.out _ _ (((HB.out.cell (bl' w _ hw163_0)).trans hw163_0)) (fun hHeld=>?_);clear hK K;refine norm_ (a':=?_) ?_ ?_
            rotate_left
            ·
             show Act.put _ (some 39) _=_
             simp only[Act.put,sa',sb',sc',i64_w,i32_w];rfl
            refine one_ (i:=3) (N:=some 34) #[true,true,true,true,true,true,true,true,true,false,true,true,true,false,false,false] rfl rfl (one_of HT_.out (by kernel_rfl)) (by decide) (fun K hK=>?_);refine goes_ Try.func63 (by kernel_rfl) rfl #[.slice A1 l1.length c1] (by rfl) rfl rfl (by (try simp only[List.map_toArray,List.map_cons,List.map_nil]);first|done|rfl|(simp only[List.length_drop,List.length_take];rfl)) ?_
            with_reducible refine (spec_l1Own.calls _ _ l1 t160 _ ?side1 ?side2 A17.out).mono ?_
            (case side1=>repeat (first|exact (Kd.C_below HR1.out HB.out)|(with_reducible refine ca' ?_ _)|(with_reducible refine cn' ?_ _)|(with_reducible refine cd' ?_)))
            (case side2=>exact HC1.out)
            rintro e w26 ⟨v161,rfl,ho0,hb⟩
            refine ⟨_,rfl,?_⟩;have n0_:=am' (Kd.N_elder' (by (with_reducible repeat (first|apply Kd.N_alloc|apply Kd.N_drewN|apply Kd.N_drew));exact HO_9.out) (Kd.R_base ho0) hb);have n1_:=am' (Kd.R_elder' (by (with_reducible repeat (first|apply ra'|apply rn'|apply rw'));exact HO166.out) (Kd.R_base ho0) hb);have n2_:=am' (Kd.R_lower (Kd.R_new' (Kd.R_newM (M:=fun k_=>(w.heap.size≤k_)) ho0 (below_size (by repeat (first|(with_reducible first|exact HB.out|apply ba'|apply bd'|apply be')|exact HB.out))) (fun k_ h_=>h_)) (Kd.R_lt (by (with_reducible repeat (first|apply ra'|apply rn'|apply rw'));exact HO166.out))) (below_size (by repeat (first|(with_reducible first|exact HB.out|apply ba'|apply bd'|apply be')|exact HB.out))));have n3_:=am' (below_step (by repeat (first|(with_reducible first|exact HB.out|apply ba'|apply bd'|apply be')|exact HB.out)) hb);clear HO_9;clear HO166;clear HB;have HO_9:=n0_;have HO166:=n1_;have HO162:=n2_;have HB:=n3_;clear n0_ n1_ n2_ n3_;(try clear hb)
            (try clear hb2)
            (try clear hk)
            (try clear hi)
            (try clear ho0)
            refine hK.out _ _ (((HB.out.cell (bl' w _ hw163_0)).trans hw163_0)) (fun hHeld=>?_);clear hK K;refine norm_ (a':=?_) ?_ ?_
            rotate_left
            ·
             show Act.put _ (some 34) _=_
             simp only[Act.put,sa',sb',sc',i64_w,i32_w];rfl
            exact norm_ (by simp only[putAll,Act.put,sa',sb',sc']) (hCont (v161,v165) _ ⟨hHeld,(by (with_reducible repeat (first|apply ra'|apply rn'|apply rw'));exact Kd.R_mono HO162.out (fun _ hk=>⟨hk.1.1,hk.2⟩)),(by (with_reducible repeat (first|apply ra'|apply rn'|apply rw'));exact Kd.R_mono HO166.out (fun _ hk=>⟨hk.1.1,hk.2⟩)),(by (with_reducible repeat (first|apply Kd.N_alloc|apply Kd.N_drewN|apply Kd.N_drew));exact Kd.N_mono HO_9.out (fun _ hk=>⟨hk.1.1,⟨hk.2,hk.1.2⟩⟩)),(by repeat (first|(with_reducible first|exact HB.out|apply ba'|apply bd'|apply be')|exact HB.out))⟩)
          rintro ⟨v161,v165⟩ w27 ⟨hS_,h0_,h1_,h2_,h3_⟩
          have n0_:Aside0 (Kd.R (Kd.int .i64) 3 w27 w.heap.size (fun k_=>(w.heap.size≤k_)∧some k_≠(v165:Value).ownBlock) v161 t160):=⟨h0_⟩
          have n1_:Aside0 (Kd.R (Kd.int .i64) 3 w27 w.heap.size (fun k_=>(w.heap.size≤k_)∧some k_≠(v161:Value).ownBlock) v165 y164):=⟨h1_⟩
          have n2_:Aside0 (Kd.N (Kd.slice 3 (Kd.int .i64)) 22 w27 w.heap.size (fun k_=>(w.heap.size≤k_)∧some k_≠(v161:Value).ownBlock∧some k_≠(v165:Value).ownBlock) (.slice Ao22 x9_2.length co22) x9_2):=⟨h2_⟩
          have n3_:Aside0 (Below w.heap.size w w27):=⟨h3_⟩
          clear HO_9;clear HB;clear h0_ h1_ h2_ h3_;have HO162:=n0_;have HO166:=n1_;have HO_9:=n2_;have HB:=n3_;clear n0_ n1_ n2_ n3_;have hHeld:w27.cell? (ad163.add (x10_2).toNat)=some (.int .i64 (rd l0 x10_2)):=hS_;obtain ⟨Ao29,co29,eo29⟩:=Kd.R_slice HO166.out
          (first|subst eo29|(injection eo29 with f1_ f2_ f3_;have f4_:=f1_.symm;have f5_:=f3_.symm;clear f1_ f2_ f3_;subst f4_;subst f5_))
          refine norm_ (a':=?_) ?_ ?_
          rotate_left
          ·
           simp only[putAll,Act.put,sa',sb',sc'];rfl
          refine one_ (i:=9) (N:=some 40) #[true,true,true,true,true,true,true,true,true,true,true,true,true,false,false,false] rfl rfl (one_of HT_.out (by kernel_rfl)) (by decide) (fun K hK=>?_);refine Kd.R_append_rows_step (Kd.int .i64) (w0:=w) w.heap.size (by rfl) (.tmp 34) (.tmp 39) 22 3 (.int .i64 0) 8 rfl Try.underlying22 info3 rfl (by decide) (by omega) v161 t160 y164 _ _ _ (fun k_=>(w.heap.size≤k_)∧some k_≠(.slice Ao29 y164.length co29:Value).ownBlock) (fun _=>False) rfl rfl ?aO ?aR (fun _ _ h=>h) (fun _ h=>h.elim) ?aF ?aB ?aS ?aL ?_
          (case aR=>repeat (first|exact (Kd.R_reads' HO166.out).2.2|(with_reducible refine ca' ?_ _)|(with_reducible refine cn' ?_ _)|(with_reducible refine cd' ?_)))
          (case aB=>exact (by repeat (first|(with_reducible first|exact HB.out|apply ba'|apply bd'|apply be')|exact HB.out)))
          (case aF=>exact (fun k_ hk=>⟨(Nat.le_trans (below_size (by repeat (first|(with_reducible first|exact HB.out|apply ba'|apply bd'|apply be')|exact HB.out))) hk),Kd.fresh' (Kd.R_lt (by (with_reducible repeat (first|apply ra'|apply rn'|apply rw'));exact HO166.out)) k_ hk⟩))
          (case aO=>exact (by (with_reducible repeat (first|apply ra'|apply rn'|apply rw'));exact HO162.out))
          (case aS=>exact (below_size (by repeat (first|(with_reducible first|exact HB.out|apply ba'|apply bd'|apply be')|exact HB.out))))
          (case aL=>have:=LMc19.out;omega)
          intro v168 w28 ho hb hg hat;rw[← Ny167.out] at ho;have n0_:=am' (Kd.N_afterv (ok:=(fun k_=>(w.heap.size≤k_)∧some k_≠(.slice Ao29 y164.length co29:Value).ownBlock)) (by (with_reducible repeat (first|apply Kd.N_alloc|apply Kd.N_drewN|apply Kd.N_drew));exact Kd.N_mono HO_9.out (fun _ hk=>⟨⟨hk.1,hk.2.2⟩,hk.2.1⟩)) hg hat);have n1_:=am' (Kd.R_after (ok:=(fun k_=>(w.heap.size≤k_))) (by (with_reducible repeat (first|apply ra'|apply rn'|apply rw'));exact HO166.out) hg hat);have n2_:=am' (hb);have n3_:=am' (ho);clear HO_9;clear HO166;clear HB;clear HO162;have HO_9:=n0_;have HO166:=n1_;have HB:=n2_;have HO169:=n3_;clear n0_ n1_ n2_ n3_;clear ho hb hg hat;obtain ⟨Ao30,co30,eo30⟩:=Kd.R_slice HO169.out
          (first|subst eo30|(injection eo30 with f1_ f2_ f3_;have f4_:=f1_.symm;have f5_:=f3_.symm;clear f1_ f2_ f3_;subst f4_;subst f5_))
          refine hK.out _ _ (((HB.out.cell (bl' w _ hw163_0)).trans hw163_0)) (fun hHeld=>?_);clear hK K;refine norm_ (a':=?_) ?_ ?_
          rotate_left
          ·
           show Act.put _ (some 40) _=_
           simp only[Act.put,sa',sb',sc',i64_w,i32_w];rfl
          refine one_ (i:=13) (N:=some 44) #[true,true,true,true,true,true,true,true,true,true,true,true,true,true,false,false] rfl rfl (one_of HT_.out (by kernel_rfl)) (by decide) (fun K hK=>?_);refine goes_ Try.func67 (by kernel_rfl) rfl #[.slice (some ad163) l0.length c0, .slice Ao30 y167.length co30, .int .i64 (wrap64 (x10_2+1)), .int .i64 a3] (by rfl) rfl rfl (by (try simp only[List.map_toArray,List.map_cons,List.map_nil]);first|done|rfl|(simp only[List.length_drop,List.length_take];rfl)) ?_
          with_reducible refine (ih k2 (by have:=HJ4.out;have:=HK2.out;omega) _ _ l0 _ _ y167 (wrap64 (x10_2+1)) a3 t170 _ ?side1 ?side2 ?side3 ?side4 A20.out).mono ?_
          (case side1=>repeat (first|exact (Kd.C_below HR0.out HB.out)|(with_reducible refine ca' ?_ _)|(with_reducible refine cn' ?_ _)|(with_reducible refine cd' ?_)))
          (case side2=>exact HC0.out)
          (case side3=>repeat (first|exact (Kd.R_reads' HO169.out).2.2|(with_reducible refine ca' ?_ _)|(with_reducible refine cn' ?_ _)|(with_reducible refine cd' ?_)))
          (case side4=>exact (Kd.R_reads' HO169.out).2.1)
          rintro e w31 ⟨v171,rfl,ho0,hb⟩
          refine ⟨_,rfl,?_⟩;have n0_:=am' (Kd.N_elder' (by (with_reducible repeat (first|apply Kd.N_alloc|apply Kd.N_drewN|apply Kd.N_drew));exact HO_9.out) (Kd.N_base ho0) hb);have n1_:=am' (Kd.R_below (by (with_reducible repeat (first|apply ra'|apply rn'|apply rw'));exact HO166.out) hb);have n2_:=am' (Kd.R_below (by (with_reducible repeat (first|apply ra'|apply rn'|apply rw'));exact HO169.out) hb);have n3_:=am' (Kd.N_lower (Kd.N_mono (ok':=fun k_=>(w.heap.size≤k_)∧some k_≠(.slice Ao22 x9_2.length co22:Value).ownBlock∧some k_≠(.slice Ao29 y164.length co29:Value).ownBlock∧some k_≠(.slice Ao30 y167.length co30:Value).ownBlock) ho0 (fun k_ hk_=>⟨(Nat.le_trans (below_size (by repeat (first|(with_reducible first|exact HB.out|apply ba'|apply bd'|apply be')|exact HB.out))) hk_),(Kd.fresh' (Kd.N_lt (by (with_reducible repeat (first|apply Kd.N_alloc|apply Kd.N_drewN|apply Kd.N_drew));exact HO_9.out)) k_ hk_),(Kd.fresh' (Kd.R_lt (by (with_reducible repeat (first|apply ra'|apply rn'|apply rw'));exact HO166.out)) k_ hk_),(Kd.fresh' (Kd.R_lt (by (with_reducible repeat (first|apply ra'|apply rn'|apply rw'));exact HO169.out)) k_ hk_)⟩)) (below_size (by repeat (first|(with_reducible first|exact HB.out|apply ba'|apply bd'|apply be')|exact HB.out))));have n4_:=am' (below_step (by repeat (first|(with_reducible first|exact HB.out|apply ba'|apply bd'|apply be')|exact HB.out)) hb);clear HO_9;clear HO166;clear HO169;clear HB;have HO_9:=n0_;have HO166:=n1_;have HO169:=n2_;have HO172:=n3_;have HB:=n4_;clear n0_ n1_ n2_ n3_ n4_;(try clear hb)
          (try clear hb2)
          (try clear hk)
          (try clear hi)
          (try clear ho0)
          obtain ⟨Ao33,co33,eo33⟩:=Kd.N_slice HO172.out
          (first|subst eo33|(injection eo33 with f1_ f2_ f3_;have f4_:=f1_.symm;have f5_:=f3_.symm;clear f1_ f2_ f3_;subst f4_;subst f5_))
          refine hK.out _ _ (((HB.out.cell (bl' w _ hw163_0)).trans hw163_0)) (fun hHeld=>?_);clear hK K;refine norm_ (a':=?_) ?_ ?_
          rotate_left
          ·
           show Act.put _ (some 44) _=_
           simp only[Act.put,sa',sb',sc',i64_w,i32_w];rfl
          refine one_ (i:=14) (N:=some 45) #[true,true,true,true,true,true,true,true,true,true,true,true,true,true,true,false] rfl rfl (one_of HT_.out (by kernel_rfl)) (by decide) (fun K hK=>?_);refine Kd.N_append_rows_step (Kd.slice 3 (Kd.int .i64)) (w0:=w) w.heap.size (by rfl) (.tmp 31) (.tmp 44) 68 22 (.slice none 0 0) 24 rfl Try.underlying68 info22 rfl (by decide) (by omega) (.slice Ao22 x9_2.length co22) x9_2 t170 _ _ _ (fun k_=>(w.heap.size≤k_)∧some k_≠(.slice Ao29 y164.length co29:Value).ownBlock∧some k_≠(.slice Ao30 y167.length co30:Value).ownBlock) (fun k_=>((fun k_=>(w.heap.size≤k_)∧some k_≠(.slice Ao29 y164.length co29:Value).ownBlock∧some k_≠(.slice Ao30 y167.length co30:Value).ownBlock)) k_∧some k_≠(.slice Ao22 x9_2.length co22:Value).ownBlock) rfl rfl ?aO ?aR (fun _ hk=>hk) ?aF ?aB ?aS ?aL ?_
          (case aR=>exact (by skip;exact Kd.N_F (Kd.N_mono (ok':=(fun k_=>((fun k_=>(w.heap.size≤k_)∧some k_≠(.slice Ao29 y164.length co29:Value).ownBlock∧some k_≠(.slice Ao30 y167.length co30:Value).ownBlock)) k_∧some k_≠(.slice Ao22 x9_2.length co22:Value).ownBlock)) (HO172.out) (fun k_ hk=>⟨⟨hk.1,⟨hk.2.2.1,hk.2.2.2⟩⟩,hk.2.1⟩))))
          (case aB=>exact (by repeat (first|(with_reducible first|exact HB.out|apply ba'|apply bd'|apply be')|exact HB.out)))
          (case aF=>exact (fun k_ hk=>⟨(Nat.le_trans (below_size (by repeat (first|(with_reducible first|exact HB.out|apply ba'|apply bd'|apply be')|exact HB.out))) hk),Kd.fresh' (Kd.R_lt (by (with_reducible repeat (first|apply ra'|apply rn'|apply rw'));exact HO166.out)) k_ hk,Kd.fresh' (Kd.R_lt (by (with_reducible repeat (first|apply ra'|apply rn'|apply rw'));exact HO169.out)) k_ hk⟩))
          (case aO=>exact (by (with_reducible repeat (first|apply Kd.N_alloc|apply Kd.N_drewN|apply Kd.N_drew));exact Kd.N_mono HO_9.out (fun _ hk=>⟨hk.1.1.1,⟨hk.1.1.2,hk.1.2⟩⟩)))
          (case aS=>exact (below_size (by repeat (first|(with_reducible first|exact HB.out|apply ba'|apply bd'|apply be')|exact HB.out))))
          (case aL=>have:=LMc21.out;omega)
          intro v174 w32 ho hb hg hat;rw[← Ny173.out] at ho;have n0_:=am' (Kd.R_over' (by (with_reducible repeat (first|apply ra'|apply rn'|apply rw'));exact HO166.out) (Kd.N_typed (by (with_reducible repeat (first|apply Kd.N_alloc|apply Kd.N_drewN|apply Kd.N_drew));exact HO_9.out)) (by decide) hg);have n1_:=am' (Kd.R_over' (by (with_reducible repeat (first|apply ra'|apply rn'|apply rw'));exact HO169.out) (Kd.N_typed (by (with_reducible repeat (first|apply Kd.N_alloc|apply Kd.N_drewN|apply Kd.N_drew));exact HO_9.out)) (by decide) hg);have n2_:=am' (Kd.N_afterv (ok:=(fun k_=>(w.heap.size≤k_)∧some k_≠(.slice Ao29 y164.length co29:Value).ownBlock∧some k_≠(.slice Ao30 y167.length co30:Value).ownBlock)) (by (with_reducible repeat (first|apply Kd.N_alloc|apply Kd.N_drewN|apply Kd.N_drew));exact Kd.N_mono HO172.out (fun _ hk=>⟨⟨hk.1,⟨hk.2.2.1,hk.2.2.2⟩⟩,hk.2.1⟩)) hg hat);have n3_:=am' (hb);have n4_:=am' (ho);clear HO166;clear HO169;clear HO172;clear HB;clear HO_9;have HO166:=n0_;have HO169:=n1_;have HO172:=n2_;have HB:=n3_;have HO175:=n4_;clear n0_ n1_ n2_ n3_ n4_;clear ho hb hg hat;refine hK.out _ _ (((HB.out.cell (bl' w _ hw163_0)).trans hw163_0)) (fun hHeld=>?_);clear hK K;refine norm_ (a':=?_) ?_ ?_
          rotate_left
          ·
           show Act.put _ (some 45) _=_
           simp only[Act.put,sa',sb',sc',i64_w,i32_w];rfl
          refine pure_ (i:=15) (N:=some 9) (v:=?_) (a':=?_) #[true,true,true,true,true,true,true,true,true,true,true,true,true,true,true,true] rfl rfl (any_of HT_.out (by kernel_rfl)) (fun _ _ _ h=>h) (Or.inl ⟨by rfl,?_⟩) ?_ ?_
          rotate_left
          ·
           intro w';go_simp;with_reducible rfl
          rotate_left
          ·
           simp only[Act.put,sa',sb',sc',i64_w,i32_w];rfl
          refine done_ (done_of HT_.out (by kernel_rfl)) ?_
          try go_wp2
          go_roundg k2
          case measure=>have:=HJ4.out;have:=HK2.out;omega
          case rel=>exact ⟨(y173),(wrap64 (x10_2+1)),(by first|rfl|(simp;done)|(simp[*];done)),H',⟨by have:=HJ4.out;have:=HK2.out;omega⟩,⟨by (with_reducible repeat (first|apply Kd.N_alloc|apply Kd.N_drewN|apply Kd.N_drew));exact Kd.N_mono HO175.out (fun _ hk=>hk.1)⟩,⟨by repeat (first|(with_reducible first|exact HB.out|apply ba'|apply bd'|apply be')|exact HB.out)⟩⟩
         ·
          rw[if_neg c21] at H;exact absurd H (by simp)
        ·
         rw[if_neg c19] at H;exact absurd H (by simp)
       ·
        rw[if_neg c18] at H;exact absurd H (by simp)
      ·
       rw[if_neg c16] at H;have c16b0:decide (x10_2 < (l0.length:Int))=false:=decide_eq_false c16;clear c16;obtain rfl:=Option.some.inj H;go_wp2;go_ret
       exact ⟨_,by first|rfl|(simp[errW_none,errW_some] <;> rfl)|(simp[*,errW_none,errW_some] <;> rfl),by (with_reducible repeat (first|apply Kd.N_alloc|apply Kd.N_drewN|apply Kd.N_drew));exact HO_9.out,by repeat (first|(with_reducible first|exact HB.out|apply ba'|apply bd'|apply be')|exact HB.out)⟩
def spec_paTrips.l0:Nat→List Int→List Bool→Int→Int→List Int→Int→List Bool→Bool→Option ((List (List Int)))
 | 0,_,_,_,_,_,_,_,_=>none
 | k+1,x5,x9,x10,x11,x177000,x177001,x178000,x178001=>if x11 < x10 then (if 0≤x11 then (if x11 < (x9.length:Int) then (if ((rdOf false x9 x11) == x178001)=true then (if x5.length < 17592186044416 then (spec_paTrips.l0 k (x5 ++ [x11]) x9 x10 (wrap64 (x11+1)) x177000 x177001 x178000 x178001) else (none)) else (spec_paTrips.l0 k x5 x9 x10 (wrap64 (x11+1)) x177000 x177001 x178000 x178001)) else (none)) else (none)) else ((spec_paGroups.f k x5 ([]:List Int) 0 x177001).bind fun t182=>(some t182))
def spec_paTrips.f (k:Nat) (l0_0:List Int) (a0_1:Int) (l1_0:List Bool) (a1_1:Bool):Option ((List (List Int))):=spec_paTrips.l0 k ([]:List Int) l1_0 (l1_0.length:Int) 0 l0_0 a0_1 l1_0 a1_1
set_option maxHeartbeats 8000000 in
set_option maxRecDepth 100000 in
theorem spec_paTrips.calls (k:Nat) (A0_0:Option Addr) (c0_0:Nat) (l0_0:List Int) (a0_1:Int) (A1_0:Option Addr) (c1_0:Nat) (l1_0:List Bool) (a1_1:Bool) (r:List (List Int)) (w:World) (hr0_0:Kd.C (Kd.int .i64) w A0_0 l0_0.length l0_0) (hc0_0:l0_0.length≤c0_0) (hr1_0:Kd.C Kd.bool w A1_0 l1_0.length l1_0) (hc1_0:l1_0.length≤c1_0) (h:spec_paTrips.f k l0_0 a0_1 l1_0 a1_1=some r) :
  Calls Try.prog 50 #[.agg #[.slice A0_0 l0_0.length c0_0, .int .i64 a0_1], .agg #[.slice A1_0 l1_0.length c1_0, .bool a1_1]] w fun e w'=>∃ v0_:Value,e = .returned (v0_)∧Kd.N (Kd.slice 3 (Kd.int .i64)) 22 w' w.heap.size (fun k_=>(w.heap.size≤k_)) v0_ r∧Below w.heap.size w w':=by
 have hu28:=Try.underlying28
 have hu54:=Try.underlying54
 have HR0_0:=am' hr0_0
 have HC0_0:=am' hc0_0
 clear hr0_0 hc0_0;have HR1_0:=am' hr1_0
 have HC1_0:=am' hc1_0
 clear hr1_0 hc1_0;have HB:=am' (Below.refl w.heap.size w)
 have H:(spec_paTrips.l0 k ([]:List Int) l1_0 (l1_0.length:Int) 0 l0_0 a0_1 l1_0 a1_1)=some r:=h
 clear h;have H':=am' H
 clear H;go_enter Try.func50,Try.ntmps50
 go_wp2_with (first|((with_reducible refine gate_dst (N:=2) rfl ?_);refine box_event ?hg (N:=2) ?hd (cs:=#[.slice A0_0 l0_0.length c0_0, .int .i64 a0_1]) (t:=28) ?hr ?_;(case hd=>rfl);(case hg=>rfl);(case hr=>first|(go_simp;done)|(go_simp;rfl));intro gb176 hg w3 hbox hb;have n0_:=am' (below_step (by repeat (first|(with_reducible first|exact HB.out|apply ba'|apply bd'|apply be')|exact HB.out)) hb);have n1_:=am' (hbox);have n2_:=am' ((by rw[hg];exact (below_size (by repeat (first|(with_reducible first|exact HB.out|apply ba'|apply bd'|apply be')|exact HB.out))):w.heap.size≤gb176));have n3_:=am' ((by rw[hg];exact (below_size (by repeat (first|(with_reducible first|exact HB.out|apply ba'|apply bd'|apply be')|exact HB.out))):w.heap.size≤gb176));clear HB;have HB:=n0_;have BK176:=n1_;have GW176:=n2_;have GE176:=n3_;clear n0_ n1_ n2_ n3_;clear hb hbox hg)|((with_reducible refine gate_dst (N:=3) rfl ?_);refine box_event ?hg (N:=3) ?hd (cs:=#[.slice A1_0 l1_0.length c1_0, .bool a1_1]) (t:=54) ?hr ?_;(case hd=>rfl);(case hg=>rfl);(case hr=>first|(go_simp;done)|(go_simp;rfl));intro gb177 hg w4 hbox hb;have n0_:=am' (blk_below (g:=gb176) (o := .cells #[.slice A0_0 l0_0.length c0_0, .int .i64 a0_1] 28 (0,0)) (by (with_reducible repeat (first|refine kn' ?_ _|refine kd' ?_|refine ka' ?_ _));exact BK176.out) hb);have n1_:=am' (below_step (by repeat (first|(with_reducible first|exact HB.out|apply ba'|apply bd'|apply be'|refine bs' ?_ GE176.out)|exact HB.out)) hb);have n2_:=am' (hbox);have n3_:=am' ((by rw[hg];exact (below_size (by repeat (first|(with_reducible first|exact HB.out|apply ba'|apply bd'|apply be'|refine bs' ?_ GE176.out)|exact HB.out))):w.heap.size≤gb177));have n4_:=am' ((by rw[hg];exact (below_size (by repeat (first|(with_reducible first|exact HB.out|apply ba'|apply bd'|apply be'|refine bs' ?_ GE176.out)|exact HB.out))):w.heap.size≤gb177));have n5_:=am' ((by rw[hg];exact Nat.ne_of_lt (blk_lt (g:=gb176) (o := .cells #[.slice A0_0 l0_0.length c0_0, .int .i64 a0_1] 28 (0,0)) (by (with_reducible repeat (first|refine kn' ?_ _|refine kd' ?_|refine ka' ?_ _));exact BK176.out)):gb176≠gb177));have n6_:=am' ((by rw[hg];exact Nat.ne_of_gt (blk_lt (g:=gb176) (o := .cells #[.slice A0_0 l0_0.length c0_0, .int .i64 a0_1] 28 (0,0)) (by (with_reducible repeat (first|refine kn' ?_ _|refine kd' ?_|refine ka' ?_ _));exact BK176.out)):gb177≠gb176));clear BK176;clear HB;have BK176:=n0_;have HB:=n1_;have BK177:=n2_;have GW177:=n3_;have GE177:=n4_;have NB176_177:=n5_;have NB177_176:=n6_;clear n0_ n1_ n2_ n3_ n4_ n5_ n6_;clear hb hbox hg;have hnb5:=NB177_176.out;have hnc5:=NB176_177.out;have hcz6_0:w4.cell? ⟨gb177,0,none⟩=some (.slice A1_0 l1_0.length c1_0):=(blk_cell BK177.out 0).trans rfl;have hcz6_1:w4.cell? ⟨gb177,1,none⟩=some (.bool a1_1):=(blk_cell BK177.out 1).trans rfl;have hfz6_0:=blk_frozen BK177.out 0;have hfz6_1:=blk_frozen BK177.out 1))
 go_loopg [5,11] k (fun kq v5 v11 w'=>∃ (x5_1:List Int) (x11_1:Int),v11 = .int .i64 x11_1∧Aside0 (spec_paTrips.l0 kq x5_1 l1_0 (l1_0.length:Int) x11_1 l0_0 a0_1 l1_0 a1_1=some r)∧Aside0 (kq≤k)∧Aside0 (Kd.R (Kd.int .i64) 3 w' w.heap.size (fun k_=>(w.heap.size≤k_)) v5 x5_1)∧Aside0 (w'.heap[gb176]? = some (.cells #[(.slice A0_0 l0_0.length c0_0), .int .i64 a0_1] 28 (0,0)))∧Aside0 (w'.heap[gb177]? = some (.cells #[(.slice A1_0 l1_0.length c1_0), .bool a1_1] 54 (0,0)))∧Aside0 (Below w.heap.size w w'))
 case atStart=>exact ⟨(([]:List Int)),(0),(by first|rfl|(simp;done)|(simp[*];done)),H',⟨Nat.le_refl _⟩,⟨by first|exact Kd.R_nil _ _ _ _ _|exact Kd.N_nil _ _ _ _ _|exact Kd.V_nil _ _ _ _ _|exact Kd.Q_nil _ _ _ _ _|exact Kd.S_nil _ _ _ _ _⟩,⟨by (with_reducible repeat (first|refine kn' ?_ _|refine kd' ?_|refine ka' ?_ _));exact BK176.out⟩,⟨by (with_reducible repeat (first|refine kn' ?_ _|refine kd' ?_|refine ka' ?_ _));exact BK177.out⟩,⟨by repeat (first|(with_reducible first|exact HB.out|apply ba'|apply bd'|apply be'|refine bs' ?_ GE176.out|refine bs' ?_ GE177.out)|exact HB.out)⟩⟩
 case round =>
  clear H';try clear c1
  try clear p2
  try clear c5
  try clear hcz6_0
  try clear hcz6_1
  try clear hfz6_0
  try clear hfz6_1
  obtain ⟨x5_1,x11_1,rfl,HA,HK1,HO_5,BK176,BK177,HB⟩:=hrel;cases gk with
  | zero=>exact absurd HA.out (by simp[spec_paTrips.l0])
  | succ k1 =>
   have H:=HA.out;clear HA;simp only[spec_paTrips.l0] at H;by_cases c7:x11_1 < (l1_0.length:Int)
   ·
    rw[if_pos c7] at H;have c7b0:decide (x11_1 < (l1_0.length:Int))=true:=decide_eq_true c7;clear c7;by_cases c8:0≤x11_1
    ·
     rw[if_pos c8] at H;have c8b0:decide (0≤x11_1)=true:=decide_eq_true c8;clear c8;by_cases c9:x11_1 < (l1_0.length:Int)
     ·
      rw[if_pos c9] at H;have c9b0:decide (x11_1 < (l1_0.length:Int))=true:=decide_eq_true c9;clear c9;by_cases c10:((rdOf false l1_0 x11_1) == a1_1)=true
      ·
       rw[if_pos c10] at H;have c10b0:((rdOf false l1_0 x11_1) == a1_1)=true:=c10
       (try (have c10b1:decide ((rdOf false l1_0 x11_1)=a1_1)=true:=by simpa using c10))
       (try (have c10b2:((rdOf false l1_0 x11_1) == a1_1)=true:=by simpa using c10))
       clear c10;by_cases c11:x5_1.length < 17592186044416
       ·
        rw[if_pos c11] at H;have LMc11:=am' c11;clear c11;obtain ⟨y179,hy179⟩:∃ y_:List Int,y_=(x5_1 ++ [x11_1]):=⟨_,rfl⟩
        replace H:(spec_paTrips.l0 k1 y179 l1_0 (l1_0.length:Int) (wrap64 (x11_1+1)) l0_0 a0_1 l1_0 a1_1)=some r:=by first|(rw[hy179];with_reducible exact H)|(have H2_:=(Option.bind_some _ _).symm.trans H;rw[hy179];with_reducible exact H2_)|(have H2_:=(Option.bind_some _ _).symm.trans H;with_reducible exact H2_)|with_reducible exact H|(rw[hy179];exact H)|exact H
        have Ny179:=am' hy179;clear hy179;have H':=am' H;clear H;have p178:0≤(x11_1:Int):=of_decide_eq_true (by first|(with_reducible assumption)|assumption);have q178:x11_1 < (l1_0.length:Int):=of_decide_eq_true (by first|(with_reducible assumption)|assumption);obtain ⟨ad178,e178,hx178_0⟩:=Kd.at_bool HR1_0.out x11_1 p178 q178;cases e178;replace hx178_0:=(HB.out.cell (bl' w _ hx178_0)).trans hx178_0;replace p178:=eq_true p178;replace q178:=eq_true q178;have hnb12:=NB177_176.out;have hnc12:=NB176_177.out;have hcz13_0:wr.cell? ⟨gb177,0,none⟩=some (.slice (some ad178) l1_0.length c1_0):=(blk_cell BK177.out 0).trans rfl;have hcz13_1:wr.cell? ⟨gb177,1,none⟩=some (.bool a1_1):=(blk_cell BK177.out 1).trans rfl;have hfz13_0:=blk_frozen BK177.out 0;have hfz13_1:=blk_frozen BK177.out 1;go_wp2_with (first|((with_reducible refine gate_builtin (b := .append) (xs:=#[.tmp 20, .tmp 22]) rfl ?_);at_builtin;refine Kd.R_append (Kd.int .i64) (w0:=w) w.heap.size rfl (.tmp 20) (.tmp 22) 22 3 (.int .i64 0) 8 rfl Try.underlying22 info3 rfl (by decide) (by omega) u5 x5_1 x11_1 [.int .i64 x11_1] (fun k_=>(w.heap.size≤k_)) (fun _=>False) rfl rfl ?aP (fun _ hk=>hk.elim) ?aF ?aO ?aB ?aS ?aL ?_;(case aP=>exact rfl);(case aB=>exact (by repeat (first|(with_reducible first|exact HB.out|apply ba'|apply bd'|apply be'|refine bs' ?_ GE176.out|refine bs' ?_ GE177.out)|exact HB.out)));(case aF=>exact (fun k_ hk=>(Nat.le_trans (below_size (by repeat (first|(with_reducible first|exact HB.out|apply ba'|apply bd'|apply be'|refine bs' ?_ GE176.out|refine bs' ?_ GE177.out)|exact HB.out))) hk)));(case aO=>exact (by (with_reducible repeat (first|apply ra'|apply rn'|apply rw'));exact HO_5.out));(case aS=>exact (below_size (by repeat (first|(with_reducible first|exact HB.out|apply ba'|apply bd'|apply be'|refine bs' ?_ GE176.out|refine bs' ?_ GE177.out)|exact HB.out))));(case aL=>have:=LMc11.out;omega);intro v180 w14 ho hb hg hat;rw[← Ny179.out] at ho;have n0_:=am' (blk_grown (g:=gb176) (o := .cells #[.slice A0_0 l0_0.length c0_0, .int .i64 a0_1] 28 (0,0)) (by (with_reducible repeat (first|refine kn' ?_ _|refine kd' ?_|refine ka' ?_ _));exact BK176.out) hg (Kd.R_ne HO_5.out BK176.out (by decide)));have n1_:=am' (blk_grown (g:=gb177) (o := .cells #[.slice (some ad178) l1_0.length c1_0, .bool a1_1] 54 (0,0)) (by (with_reducible repeat (first|refine kn' ?_ _|refine kd' ?_|refine ka' ?_ _));exact BK177.out) hg (Kd.R_ne HO_5.out BK177.out (by decide)));have n2_:=am' (hb);have n3_:=am' (ho);clear BK176;clear BK177;clear HB;clear HO_5;have BK176:=n0_;have BK177:=n1_;have HB:=n2_;have HO181:=n3_;clear n0_ n1_ n2_ n3_;clear ho hb hg hat));go_roundg k1
        case measure=>have:=HK1.out;omega
        case rel=>exact ⟨(y179),(wrap64 (x11_1+1)),(by first|rfl|(simp;done)|(simp[*];done)),H',⟨by have:=HK1.out;omega⟩,⟨by (with_reducible repeat (first|apply ra'|apply rn'|apply rw'));exact HO181.out⟩,⟨by (with_reducible repeat (first|refine kn' ?_ _|refine kd' ?_|refine ka' ?_ _));exact BK176.out⟩,⟨by (with_reducible repeat (first|refine kn' ?_ _|refine kd' ?_|refine ka' ?_ _));exact BK177.out⟩,⟨by repeat (first|(with_reducible first|exact HB.out|apply ba'|apply bd'|apply be'|refine bs' ?_ GE176.out|refine bs' ?_ GE177.out)|exact HB.out)⟩⟩
       ·
        rw[if_neg c11] at H;exact absurd H (by simp)
      ·
       rw[if_neg c10] at H;have c10b0:((rdOf false l1_0 x11_1) == a1_1)=false:=by simpa using c10
       (try (have c10b1:decide ((rdOf false l1_0 x11_1)=a1_1)=false:=by simpa using c10))
       (try (have c10b2:((rdOf false l1_0 x11_1) == a1_1)=false:=by simpa using c10))
       (try (have c10b3:¬ ((rdOf false l1_0 x11_1)=a1_1):=by simpa using c10))
       clear c10;have H':=am' H;clear H;have p178:0≤(x11_1:Int):=of_decide_eq_true (by first|(with_reducible assumption)|assumption);have q178:x11_1 < (l1_0.length:Int):=of_decide_eq_true (by first|(with_reducible assumption)|assumption);obtain ⟨ad178,e178,hx178_0⟩:=Kd.at_bool HR1_0.out x11_1 p178 q178;cases e178;replace hx178_0:=(HB.out.cell (bl' w _ hx178_0)).trans hx178_0;replace p178:=eq_true p178;replace q178:=eq_true q178;have hnb15:=NB177_176.out;have hnc15:=NB176_177.out;have hcz16_0:wr.cell? ⟨gb177,0,none⟩=some (.slice (some ad178) l1_0.length c1_0):=(blk_cell BK177.out 0).trans rfl;have hcz16_1:wr.cell? ⟨gb177,1,none⟩=some (.bool a1_1):=(blk_cell BK177.out 1).trans rfl;have hfz16_0:=blk_frozen BK177.out 0;have hfz16_1:=blk_frozen BK177.out 1;go_wp2;go_roundg k1
       case measure=>have:=HK1.out;omega
       case rel=>exact ⟨(x5_1),(wrap64 (x11_1+1)),(by first|rfl|(simp;done)|(simp[*];done)),H',⟨by have:=HK1.out;omega⟩,⟨by (with_reducible repeat (first|apply ra'|apply rn'|apply rw'));exact HO_5.out⟩,⟨by (with_reducible repeat (first|refine kn' ?_ _|refine kd' ?_|refine ka' ?_ _));exact BK176.out⟩,⟨by (with_reducible repeat (first|refine kn' ?_ _|refine kd' ?_|refine ka' ?_ _));exact BK177.out⟩,⟨by repeat (first|(with_reducible first|exact HB.out|apply ba'|apply bd'|apply be'|refine bs' ?_ GE176.out|refine bs' ?_ GE177.out)|exact HB.out)⟩⟩
     ·
      rw[if_neg c9] at H;exact absurd H (by simp)
    ·
     rw[if_neg c8] at H;exact absurd H (by simp)
   ·
    rw[if_neg c7] at H;have c7b0:decide (x11_1 < (l1_0.length:Int))=false:=decide_eq_false c7;clear c7;replace H:=Option.bind_eq_some_iff.mp H;obtain ⟨t182,A170,H⟩:=H;replace H:(some t182)=some r:=H;have A17:=am' A170;clear A170;obtain rfl:=Option.some.inj H;have hnb18:=NB176_177.out;have hnc18:=NB177_176.out;have hcz19_0:wr.cell? ⟨gb176,0,none⟩=some (.slice A0_0 l0_0.length c0_0):=(blk_cell BK176.out 0).trans rfl;have hcz19_1:wr.cell? ⟨gb176,1,none⟩=some (.int .i64 a0_1):=(blk_cell BK176.out 1).trans rfl;have hfz19_0:=blk_frozen BK176.out 0;have hfz19_1:=blk_frozen BK176.out 1;obtain ⟨Ao20,co20,eo20⟩:=Kd.R_slice HO_5.out;subst eo20;go_wp2_with (first|((with_reducible refine gate_callee (f:=67) rfl ?_);refine goesL_ (some 28) rfl rfl Try.func67 (by kernel_rfl) rfl #[.slice Ao20 x5_1.length co20, .slice none 0 0, .int .i64 0, .int .i64 a0_1] rfl (by (try simp only[List.map_toArray,List.map_cons,List.map_nil]);first|done|rfl|(simp only[List.length_drop,List.length_take];rfl)) ?_;(refine (spec_paGroups.calls k1 _ _ x5_1 _ _ ([]:List Int) 0 a0_1 t182 _ ?side1 ?side2 ?side3 ?side4 A17.out).mono ?_);(case side1=>repeat (first|exact (Kd.R_reads' HO_5.out).2.2|(with_reducible refine ca' ?_ _)|(with_reducible refine cn' ?_ _)|(with_reducible refine cd' ?_)));(case side2=>exact (Kd.R_reads' HO_5.out).2.1);(case side3=>exact Kd.C_nil _ _);(case side4=>exact Nat.le_refl _);rintro e w21 ⟨v183,rfl,ho0,hb⟩;refine ⟨_,rfl,?_⟩;have n0_:=am' (Kd.R_below (by (with_reducible repeat (first|apply ra'|apply rn'|apply rw'));exact HO_5.out) hb);have n1_:=am' (Kd.N_lower (Kd.N_mono (ok':=fun k_=>(w.heap.size≤k_)∧some k_≠(.slice Ao20 x5_1.length co20:Value).ownBlock∧k_≠gb176∧k_≠gb177) ho0 (fun k_ hk_=>⟨(Nat.le_trans (below_size (by repeat (first|(with_reducible first|exact HB.out|apply ba'|apply bd'|apply be'|refine bs' ?_ GE176.out|refine bs' ?_ GE177.out)|exact HB.out))) hk_),(Kd.fresh' (Kd.R_lt (by (with_reducible repeat (first|apply ra'|apply rn'|apply rw'));exact HO_5.out)) k_ hk_),(Kd.freshB (g:=gb176) (o := .cells #[.slice A0_0 l0_0.length c0_0, .int .i64 a0_1] 28 (0,0)) (by (with_reducible repeat (first|refine kn' ?_ _|refine kd' ?_|refine ka' ?_ _));exact BK176.out) k_ hk_),(Kd.freshB (g:=gb177) (o := .cells #[.slice A1_0 l1_0.length c1_0, .bool a1_1] 54 (0,0)) (by (with_reducible repeat (first|refine kn' ?_ _|refine kd' ?_|refine ka' ?_ _));exact BK177.out) k_ hk_)⟩)) (below_size (by repeat (first|(with_reducible first|exact HB.out|apply ba'|apply bd'|apply be'|refine bs' ?_ GE176.out|refine bs' ?_ GE177.out)|exact HB.out))));have n2_:=am' (blk_below (g:=gb176) (o := .cells #[.slice A0_0 l0_0.length c0_0, .int .i64 a0_1] 28 (0,0)) (by (with_reducible repeat (first|refine kn' ?_ _|refine kd' ?_|refine ka' ?_ _));exact BK176.out) hb);have n3_:=am' (blk_below (g:=gb177) (o := .cells #[.slice A1_0 l1_0.length c1_0, .bool a1_1] 54 (0,0)) (by (with_reducible repeat (first|refine kn' ?_ _|refine kd' ?_|refine ka' ?_ _));exact BK177.out) hb);have n4_:=am' (below_step (by repeat (first|(with_reducible first|exact HB.out|apply ba'|apply bd'|apply be'|refine bs' ?_ GE176.out|refine bs' ?_ GE177.out)|exact HB.out)) hb);clear HO_5;clear BK176;clear BK177;clear HB;have HO_5:=n0_;have HO184:=n1_;have BK176:=n2_;have BK177:=n3_;have HB:=n4_;clear n0_ n1_ n2_ n3_ n4_;(try clear hb);(try clear hb2);(try clear hk);(try clear hi);(try clear ho0)))
    go_ret
    exact ⟨_,by first|rfl|(simp[errW_none,errW_some] <;> rfl)|(simp[*,errW_none,errW_some] <;> rfl),by (with_reducible repeat (first|apply Kd.N_alloc|apply Kd.N_drewN|apply Kd.N_drew));exact Kd.N_mono HO184.out (fun _ hk=>hk.1),by repeat (first|(with_reducible first|exact HB.out|apply ba'|apply bd'|apply be'|refine bs' ?_ GE176.out|refine bs' ?_ GE177.out)|exact HB.out)⟩
def spec_l1Most.f (a0:Int) (a1:Int):Option (Int):=if a0 > a1 then (some a0) else (some a1)
set_option maxHeartbeats 8000000 in
set_option maxRecDepth 100000 in
theorem spec_l1Most.calls (a0:Int) (a1:Int) (r:Int) (w:World) (h:spec_l1Most.f a0 a1=some r) :
  Calls Try.prog 29 #[.int .i64 a0, .int .i64 a1] w fun e w'=>e = .returned (.int .i64 r)∧Drawn0 w w':=by
 have H:(if a0 > a1 then (some a0) else (some a1))=some r:=h
 clear h;by_cases c3:a0 > a1
 ·
  rw[if_pos c3] at H;have c3b0:decide (a1 < a0)=true:=decide_eq_true c3;clear c3;obtain rfl:=Option.some.inj H;go_enter Try.func29,Try.ntmps29;go_wp2;go_ret
  exact ⟨by first|rfl|(simp;done)|(simp[*];done),by repeat (first|exact Drawn0.refl _|apply Drawn0.step)⟩
 ·
  rw[if_neg c3] at H;have c3b0:decide (a1 < a0)=false:=decide_eq_false c3;clear c3;obtain rfl:=Option.some.inj H;go_enter Try.func29,Try.ntmps29;go_wp2;go_ret
  exact ⟨by first|rfl|(simp;done)|(simp[*];done),by repeat (first|exact Drawn0.refl _|apply Drawn0.step)⟩
end Go.Proofs.Ytihieplobgehaaa.C1
