import Derived.Test.YtcjjhkapdlfaeaaC1zx0
import Derived.Test.YtcjjhkapdlfaeaaC1zx2
import Derived.Test.YtcjjhkapdlfaeaaC1zAl
namespace Go.Proofs.Ytcjjhkapdlfaeaa.C1
open Go.RowKit Go.Proofs.YtcjjhkapdlfaeaaW.PrintWords Go.Proofs.YtcjjhkapdlfaeaaW.PrintLast Go.Proofs.YtcjjhkapdlfaeaaW.PrintMore Go.Proofs.Ytcjjhkapdlfaeaa.H
attribute [local go_sem] max2_int min2_int max_two min_two max_three min_three max_four min_four
set_option linter.unusedVariables false
set_option linter.unusedSimpArgs false
mutual
def spec_paGroups.j0:Nat→List Int→List Int→Int→Int→List (List Int)→Option ((List (List Int)))
 | 0,_,_,_,_,_=>none
 | k+1,x0,x1,x2,x3,x9=>if (x1.length:Int)=x3 then (some x9) else (spec_paGroups.l0 k x0 x1 x3 x9 x2)
def spec_paGroups.l0:Nat→List Int→List Int→Int→List (List Int)→Int→Option ((List (List Int)))
 | 0,_,_,_,_,_=>none
 | k+1,x0,x1,x3,x9,x10=>if x10 < (x0.length:Int) then ((spec_l1Own.f x1).bind fun t136=>(if 0≤x10 then ((some (([rd x0 x10]:List Int):List Int)).bind fun y140=>(if t136.length+y140.length < 17592186044416 then ((spec_paGroups.f k x0 (t136 ++ y140) (wrap64 (x10+1)) x3).bind fun t146=>(if x9.length+t146.length < 5864062014805 then (spec_paGroups.l0 k x0 x1 x3 (x9 ++ t146) (wrap64 (x10+1))) else (none))) else (none))) else (none))) else (some x9)
def spec_paGroups.f:Nat→List Int→List Int→Int→Int→Option ((List (List Int)))
 | 0,_,_,_,_=>none
 | k+1,l0,l1,a2,a3=>if (l1.length:Int) > 0 then ((spec_l1Own.f l1).bind fun t127=>((some (([t127]:List (List Int)):List (List Int))).bind fun y130=>(if ([]:List (List Int)).length+y130.length < 5864062014805 then (spec_paGroups.j0 k l0 l1 a2 a3 (([]:List (List Int)) ++ y130)) else (none)))) else (spec_paGroups.j0 k l0 l1 a2 a3 ([]:List (List Int)))
end
def spec_paGroups.T9:Bool × List (List Nat × List Nat):=(true,[([],[]),([],[]),([],[]),([2],[2]),([],[]),([],[]),([4,5],[4,5]),([6],[6]),([7],[7]),([3,8,3],[3,8]),([],[]),([10],[10]),([],[]),([1,9,11,12,9],[1,9,11,12]),([0,13,13],[0,13]),([14,14,0,1,2,3,4,5,6,7,8,9,10,11,12,13,14],[0,14])])
def spec_paGroups.B9:List Nat:=[0,0,0,4,0,0,48,112,240,508,0,1024,0,8190,16383,32767]
theorem spec_paGroups.tab9:rtab .any (opsOf Try.f36 9)=spec_paGroups.T9:=by kernel_rfl
theorem spec_paGroups.bits9:waitsOk spec_paGroups.T9.2 spec_paGroups.B9=true:=by kernel_rfl
set_option maxHeartbeats 8000000 in
set_option maxRecDepth 100000 in
theorem spec_paGroups.calls (k:Nat):∀ (A0:Option Addr) (c0:Nat) (l0:List Int) (A1:Option Addr) (c1:Nat) (l1:List Int) (a2:Int) (a3:Int) (r:List (List Int)) (w:World) (hr0:Kd.C (Kd.int .i64) w A0 l0.length l0) (hc0:l0.length≤c0) (hr1:Kd.C (Kd.int .i64) w A1 l1.length l1) (hc1:l1.length≤c1) (h:spec_paGroups.f k l0 l1 a2 a3=some r),
  Calls Try.prog 36 #[.slice A0 l0.length c0, .slice A1 l1.length c1, .int .i64 a2, .int .i64 a3] w fun e w'=>∃ v0_:Value,e = .returned (v0_)∧Kd.N (Kd.slice 3 (Kd.int .i64)) 26 w' w.heap.size (fun k_=>(w.heap.size≤k_)) v0_ r∧Below w.heap.size w w':=by
 induction k using Nat.strongRecOn with
 | _ k ih =>
 intro A0 c0 l0 A1 c1 l1 a2 a3 r w hr0 hc0 hr1 hc1 h;cases k with
 | zero=>exact absurd h (by simp[spec_paGroups.f])
 | succ k =>
 simp only[spec_paGroups.f] at h
 have HR0:=am' hr0
 have HC0:=am' hc0
 clear hr0 hc0;have HR1:=am' hr1
 have HC1:=am' hc1
 clear hr1 hc1;have HB:=am' (Below.refl w.heap.size w)
 have H:(if (l1.length:Int) > 0 then ((spec_l1Own.f l1).bind fun t127=>((some (([t127]:List (List Int)):List (List Int))).bind fun y130=>(if ([]:List (List Int)).length+y130.length < 5864062014805 then (spec_paGroups.j0 k l0 l1 a2 a3 (([]:List (List Int)) ++ y130)) else (none)))) else (spec_paGroups.j0 k l0 l1 a2 a3 ([]:List (List Int))))=some r:=h
 clear h;have HC5:=am' H
 clear H;go_enter Try.func36,Try.ntmps36
 go_upto_if 13 with (fail)
 go_cut [9] (fun v9 wc=>∃ (kq:Nat) (x9_4:List (List Int)),Aside0 (spec_paGroups.j0 kq l0 l1 a2 a3 x9_4=some r)∧Aside0 (kq≤k)∧Aside0 (Kd.N (Kd.slice 3 (Kd.int .i64)) 26 wc w.heap.size (fun k_=>(w.heap.size≤k_)) v9 x9_4)∧Aside0 (Below w.heap.size w wc))
 case first =>
  have H:=HC5.out;clear HC5;by_cases c6:(l1.length:Int) > 0
  ·
   rw[if_pos c6] at H;have c6b0:decide (0 < (l1.length:Int))=true:=decide_eq_true c6;have c6b1:decide (0 < l1.length)=true:=decide_eq_true (by omega);clear c6;(first|rw[c6b0]|(simp only[i64_w,i32_w];rw[c6b0])|rw[c6b1]|skip)
   replace H:=Option.bind_eq_some_iff.mp H;obtain ⟨t127,A70,H⟩:=H;replace H:((some (([t127]:List (List Int)):List (List Int))).bind fun y130=>(if ([]:List (List Int)).length+y130.length < 5864062014805 then (spec_paGroups.j0 k l0 l1 a2 a3 (([]:List (List Int)) ++ y130)) else (none)))=some r:=H;have A7:=am' A70;clear A70;obtain ⟨y130,hy130⟩:∃ y_:List (List Int),y_=(([t127]:List (List Int))):=⟨_,rfl⟩
   replace H:(if ([]:List (List Int)).length+y130.length < 5864062014805 then (spec_paGroups.j0 k l0 l1 a2 a3 (([]:List (List Int)) ++ y130)) else (none))=some r:=by first|(rw[hy130];with_reducible exact H)|(have H2_:=(Option.bind_some _ _).symm.trans H;rw[hy130];with_reducible exact H2_)|(have H2_:=(Option.bind_some _ _).symm.trans H;with_reducible exact H2_)|with_reducible exact H|(rw[hy130];exact H)|exact H
   have Ny130:=am' hy130;clear hy130;by_cases c8:([]:List (List Int)).length+y130.length < 5864062014805
   ·
    rw[if_pos c8] at H;have LMc8:=am' c8;clear c8;obtain ⟨y133,hy133⟩:∃ y_:List (List Int),y_=(([]:List (List Int)) ++ y130):=⟨_,rfl⟩
    replace H:(spec_paGroups.j0 k l0 l1 a2 a3 y133)=some r:=by first|(rw[hy133];with_reducible exact H)|(have H2_:=(Option.bind_some _ _).symm.trans H;rw[hy133];with_reducible exact H2_)|(have H2_:=(Option.bind_some _ _).symm.trans H;with_reducible exact H2_)|with_reducible exact H|(rw[hy133];exact H)|exact H
    have Ny133:=am' hy133;clear hy133;have H':=am' H;clear H;go_wp2_with (first|((with_reducible refine gate_callee (f:=69) rfl ?_);refine goesL_ (some 16) rfl rfl Try.func69 (by kernel_rfl) rfl #[.slice A1 l1.length c1] rfl (by (try simp only[List.map_toArray,List.map_cons,List.map_nil]);first|done|rfl|(simp only[List.length_drop,List.length_take];rfl)) ?_;(with_reducible refine (spec_l1Own.calls _ _ l1 t127 _ ?side1 ?side2 A7.out).mono ?_);(case side1=>repeat (first|exact (Kd.C_below HR1.out HB.out)|(with_reducible refine ca' ?_ _)|(with_reducible refine cn' ?_ _)|(with_reducible refine cd' ?_)));(case side2=>exact HC1.out);rintro e w9 ⟨v128,rfl,ho0,hb⟩;refine ⟨_,rfl,?_⟩;have n0_:=am' (Kd.R_lower (Kd.R_newM (M:=fun k_=>(w.heap.size≤k_)) ho0 (below_size (by repeat (first|(with_reducible first|exact HB.out|apply ba'|apply bd'|apply be')|exact HB.out))) (fun k_ h_=>h_)) (below_size (by repeat (first|(with_reducible first|exact HB.out|apply ba'|apply bd'|apply be')|exact HB.out))));have n1_:=am' (below_step (by repeat (first|(with_reducible first|exact HB.out|apply ba'|apply bd'|apply be')|exact HB.out)) hb);clear HB;have HO129:=n0_;have HB:=n1_;clear n0_ n1_;(try clear hb);(try clear hb2);(try clear hk);(try clear hi);(try clear ho0);obtain ⟨Ao10,co10,eo10⟩:=Kd.R_slice HO129.out;subst eo10)|((with_reducible refine gate_dst (N:=17) rfl ?_);refine Kd.N_lit (Kd.slice 3 (Kd.int .i64)) _ 26 ?hg (N':=17) ?hd (xs:=([t127]:List (List Int))) (inner:=[.slice Ao10 t127.length co10]) (ok:=(fun k_=>(w.heap.size≤k_))) (okp:=(fun k_=>(w.heap.size≤k_))) ?hr ?hp (fun _ hk=>hk) ((show ∀ k_,w9.heap.size≤k_→(fun k_=>(w.heap.size≤k_)) k_ from fun k_ hk=>(Nat.le_trans (below_size (by repeat (first|(with_reducible first|exact HB.out|apply ba'|apply bd'|apply be')|exact HB.out))) hk)) _ (Nat.le_refl _)) (Below.refl _ _) (Nat.le_refl _) (by simp) ?_;(case hd=>rfl);(case hg=>rfl);(case hr=>first|(go_simp;done)|(go_simp;rfl));(case hp=>exact (Reps.one (show Kd.FK (Kd.slice 3 (Kd.int .i64)) _ _ t127 [.slice Ao10 t127.length co10] from (Kd.FK_slice_mk (Kd.R_reads' (Kd.R_mono (ok':=(fun k_=>(w.heap.size≤k_))) (HO129.out) (fun k_ hk=>hk.1))).2.1 (Kd.R_F (Kd.R_mono (ok':=(fun k_=>(w.heap.size≤k_))) (HO129.out) (fun k_ hk=>hk.1))))) (Reps.none _ _)));intro v131 w11 ho12 hb hg_ hnew_;clear hg_ hnew_;(first|rw[← Ny130.out] at ho12|(simp only[Int.reduceToNat] at ho12;rw[← Ny130.out] at ho12));have n0_:=am' (Kd.N_lower ho12 (below_size (by repeat (first|(with_reducible first|exact HB.out|apply ba'|apply bd'|apply be')|exact HB.out))));have n1_:=am' (below_step (by repeat (first|(with_reducible first|exact HB.out|apply ba'|apply bd'|apply be')|exact HB.out)) hb);clear HB;clear HO129;have HO132:=n0_;have HB:=n1_;clear n0_ n1_;clear hb ho12;obtain ⟨Ao14,co14,eo14⟩:=Kd.N_slice HO132.out;subst eo14)|((with_reducible refine gate_builtin (b := .append) (xs:=#[.tmp 14, .tmp 17]) rfl ?_);at_builtin;refine Kd.N_append_rows (Kd.slice 3 (Kd.int .i64)) (w0:=w) w.heap.size rfl (.tmp 14) (.tmp 17) 22 26 (.slice none 0 0) 24 rfl Try.underlying22 info26 rfl (by decide) (by omega) (.slice none 0 0) ([]:List (List Int)) y130 _ _ _ (fun k_=>(w.heap.size≤k_)) (fun k_=>((fun k_=>(w.heap.size≤k_))) k_∧some k_≠(.slice none 0 0:Value).ownBlock) rfl rfl ?aO ?aR (fun _ hk=>hk) ?aF ?aB ?aS ?aL ?_;(case aR=>exact (by skip;exact Kd.N_F (Kd.N_mono (ok':=(fun k_=>((fun k_=>(w.heap.size≤k_))) k_∧some k_≠(.slice none 0 0:Value).ownBlock)) (HO132.out) (fun k_ hk=>⟨hk,(by simp[Value.ownBlock])⟩))));(case aB=>exact (by repeat (first|(with_reducible first|exact HB.out|apply ba'|apply bd'|apply be')|exact HB.out)));(case aF=>exact (fun k_ hk=>(Nat.le_trans (below_size (by repeat (first|(with_reducible first|exact HB.out|apply ba'|apply bd'|apply be')|exact HB.out))) hk)));(case aO=>exact ((Kd.N_nil _ _ _ _ (fun k_=>(w.heap.size≤k_)))));(case aS=>exact (below_size (by repeat (first|(with_reducible first|exact HB.out|apply ba'|apply bd'|apply be')|exact HB.out))));(case aL=>have:=LMc8.out;omega);intro v134 w13 ho hb hg hat;rw[← Ny133.out] at ho;have n0_:=am' (Kd.N_afterv (Kd.N_apart_nil (by (with_reducible repeat (first|apply Kd.N_alloc|apply Kd.N_drewN|apply Kd.N_drew));exact HO132.out)) hg hat);have n1_:=am' (hb);have n2_:=am' (ho);clear HO132;clear HB;have HO132:=n0_;have HB:=n1_;have HO135:=n2_;clear n0_ n1_ n2_;clear ho hb hg hat))
    go_meet
    case rel=>exact ⟨_,(y133),H',⟨by first|omega|exact Nat.le_refl _⟩,⟨by (with_reducible repeat (first|apply Kd.N_alloc|apply Kd.N_drewN|apply Kd.N_drew));exact HO135.out⟩,⟨by repeat (first|(with_reducible first|exact HB.out|apply ba'|apply bd'|apply be')|exact HB.out)⟩⟩
   ·
    rw[if_neg c8] at H;exact absurd H (by simp)
  ·
   rw[if_neg c6] at H;have c6b0:decide (0 < (l1.length:Int))=false:=decide_eq_false c6;have c6b1:decide (0 < l1.length)=false:=decide_eq_false (by omega);clear c6;(first|rw[c6b0]|(simp only[i64_w,i32_w];rw[c6b0])|rw[c6b1]|skip)
   have H':=am' H;clear H;go_wp2;go_meet
   case rel=>exact ⟨_,(([]:List (List Int))),H',⟨by first|omega|exact Nat.le_refl _⟩,⟨by first|exact Kd.S_nil _ _ _ _ _|exact Kd.N_nil _ _ _ _ _|exact Kd.V_nil _ _ _ _ _|exact Kd.Q_nil _ _ _ _ _|exact Kd.R_nil _ _ _ _ _⟩,⟨by repeat (first|(with_reducible first|exact HB.out|apply ba'|apply bd'|apply be')|exact HB.out)⟩⟩
 case rest =>
  clear HC5;try clear c1
  try clear p2
  try clear c3
  try clear c6
  try clear c6b0
  try clear c6b1
  try clear c8
  obtain ⟨kq,x9_4,HA,HJ4,HO_9,HB⟩:=hcut;cases kq with
  | zero=>exact absurd HA.out (by simp[spec_paGroups.j0])
  | succ kj4 =>
   have H:=HA.out;clear HA;simp only[spec_paGroups.j0] at H;by_cases c15:(l1.length:Int)=a3
   ·
    rw[if_pos c15] at H;have c15b0:((l1.length:Int) == a3)=true:=beq_iff_eq.mpr c15;have c15b1:((l1.length:Int) != a3)=false:=bne_eq_false_iff_eq.mpr c15;clear c15;obtain rfl:=Option.some.inj H;go_wp2;go_ret
    exact ⟨_,by first|rfl|(simp[errW_none,errW_some] <;> rfl)|(simp[*,errW_none,errW_some] <;> rfl),by (with_reducible repeat (first|apply Kd.N_alloc|apply Kd.N_drewN|apply Kd.N_drew));exact HO_9.out,by repeat (first|(with_reducible first|exact HB.out|apply ba'|apply bd'|apply be')|exact HB.out)⟩
   ·
    rw[if_neg c15] at H;have c15b0:((l1.length:Int) == a3)=false:=beq_eq_false_iff_ne.mpr c15;have c15b1:((l1.length:Int) != a3)=true:=bne_iff_ne.mpr c15;have H':=am' H;clear H;go_wp2;go_loopg [9,10] kj4 (fun kq v9 v10 w'=>∃ (x9_2:List (List Int)) (x10_2:Int),v10 = .int .i64 x10_2∧Aside0 (spec_paGroups.l0 kq l0 l1 a3 x9_2 x10_2=some r)∧Aside0 (kq≤kj4)∧Aside0 (Kd.N (Kd.slice 3 (Kd.int .i64)) 26 w' w.heap.size (fun k_=>(w.heap.size≤k_)) v9 x9_2)∧Aside0 (Below w.heap.size w w'))
    case atStart=>exact ⟨(x9_4),(a2),(by first|rfl|(simp;done)|(simp[*];done)),H',⟨Nat.le_refl _⟩,⟨by (with_reducible repeat (first|apply Kd.N_alloc|apply Kd.N_drewN|apply Kd.N_drew));exact HO_9.out⟩,⟨by repeat (first|(with_reducible first|exact HB.out|apply ba'|apply bd'|apply be')|exact HB.out)⟩⟩
    case round =>
     clear H';try clear c1
     try clear p2
     try clear c3
     try clear c6
     try clear c6b0
     try clear c6b1
     try clear c8
     try clear c15
     try clear c15b0
     try clear c15b1
     try clear p2
     obtain ⟨x9_2,x10_2,rfl,HA,HK2,HO_9,HB⟩:=hrel;cases gk with
     | zero=>exact absurd HA.out (by simp[spec_paGroups.l0])
     | succ k2 =>
      have H:=HA.out;clear HA;simp only[spec_paGroups.l0] at H;by_cases c16:x10_2 < (l0.length:Int)
      ·
       rw[if_pos c16] at H;have c16b0:decide (x10_2 < (l0.length:Int))=true:=decide_eq_true c16;clear c16;replace H:=Option.bind_eq_some_iff.mp H;obtain ⟨t136,A170,H⟩:=H;replace H:(if 0≤x10_2 then ((some (([rd l0 x10_2]:List Int):List Int)).bind fun y140=>(if t136.length+y140.length < 17592186044416 then ((spec_paGroups.f k2 l0 (t136 ++ y140) (wrap64 (x10_2+1)) a3).bind fun t146=>(if x9_2.length+t146.length < 5864062014805 then (spec_paGroups.l0 k2 l0 l1 a3 (x9_2 ++ t146) (wrap64 (x10_2+1))) else (none))) else (none))) else (none))=some r:=H;have A17:=am' A170;clear A170;by_cases c18:0≤x10_2
       ·
        rw[if_pos c18] at H;have c18b0:decide (0≤x10_2)=true:=decide_eq_true c18;clear c18;obtain ⟨y140,hy140⟩:∃ y_:List Int,y_=(([rd l0 x10_2]:List Int)):=⟨_,rfl⟩
        replace H:(if t136.length+y140.length < 17592186044416 then ((spec_paGroups.f k2 l0 (t136 ++ y140) (wrap64 (x10_2+1)) a3).bind fun t146=>(if x9_2.length+t146.length < 5864062014805 then (spec_paGroups.l0 k2 l0 l1 a3 (x9_2 ++ t146) (wrap64 (x10_2+1))) else (none))) else (none))=some r:=by first|(rw[hy140];with_reducible exact H)|(have H2_:=(Option.bind_some _ _).symm.trans H;rw[hy140];with_reducible exact H2_)|(have H2_:=(Option.bind_some _ _).symm.trans H;with_reducible exact H2_)|with_reducible exact H|(rw[hy140];exact H)|exact H
        have Ny140:=am' hy140;clear hy140;by_cases c19:t136.length+y140.length < 17592186044416
        ·
         rw[if_pos c19] at H;have LMc19:=am' c19;clear c19;obtain ⟨y143,hy143⟩:∃ y_:List Int,y_=(t136 ++ y140):=⟨_,rfl⟩
         replace H:((spec_paGroups.f k2 l0 y143 (wrap64 (x10_2+1)) a3).bind fun t146=>(if x9_2.length+t146.length < 5864062014805 then (spec_paGroups.l0 k2 l0 l1 a3 (x9_2 ++ t146) (wrap64 (x10_2+1))) else (none)))=some r:=by first|(rw[hy143];with_reducible exact H)|(have H2_:=(Option.bind_some _ _).symm.trans H;rw[hy143];with_reducible exact H2_)|(have H2_:=(Option.bind_some _ _).symm.trans H;with_reducible exact H2_)|with_reducible exact H|(rw[hy143];exact H)|exact H
         have Ny143:=am' hy143;clear hy143;replace H:=Option.bind_eq_some_iff.mp H;obtain ⟨t146,A200,H⟩:=H;replace H:(if x9_2.length+t146.length < 5864062014805 then (spec_paGroups.l0 k2 l0 l1 a3 (x9_2 ++ t146) (wrap64 (x10_2+1))) else (none))=some r:=H;have A20:=am' A200;clear A200;by_cases c21:x9_2.length+t146.length < 5864062014805
         ·
          rw[if_pos c21] at H;have LMc21:=am' c21;clear c21;obtain ⟨y149,hy149⟩:∃ y_:List (List Int),y_=(x9_2 ++ t146):=⟨_,rfl⟩
          replace H:(spec_paGroups.l0 k2 l0 l1 a3 y149 (wrap64 (x10_2+1)))=some r:=by first|(rw[hy149];with_reducible exact H)|(have H2_:=(Option.bind_some _ _).symm.trans H;rw[hy149];with_reducible exact H2_)|(have H2_:=(Option.bind_some _ _).symm.trans H;with_reducible exact H2_)|with_reducible exact H|(rw[hy149];exact H)|exact H
          have Ny149:=am' hy149;clear hy149;have H':=am' H;clear H;obtain ⟨Ao22,co22,eo22⟩:=Kd.N_slice HO_9.out;subst eo22;try go_wp2
          have n0_:=am' (Kd.N_drew HO_9.out);have n1_:=am' (be' HB.out);clear HO_9;clear HB;have HO_9:=n0_;have HB:=n1_;clear n0_ n1_;have p139:0≤(x10_2:Int):=of_decide_eq_true (by first|(with_reducible assumption)|assumption);have q139:x10_2 < (l0.length:Int):=of_decide_eq_true (by first|(with_reducible assumption)|assumption);obtain ⟨ad139,e139,hx139_0⟩:=Kd.at_int HR0.out x10_2 p139 q139;have hw139_0:=hx139_0;cases e139;replace hx139_0:=(HB.out.cell (bl' w _ hx139_0)).trans hx139_0;replace p139:=eq_true p139;replace q139:=eq_true q139;refine start_ (n:=16) (S:=fun w'=>w'.cell? (ad139.add (x10_2).toNat)=some (.int .i64 (rd l0 x10_2))) (ds:=[]) #[false,false,false,false,false,false,false,false,false,false,false,false,false,false,false,false] (by kernel_rfl) rfl rfl (((HB.out.cell (bl' w _ hw139_0)).trans hw139_0)) (fun hHeld=>?_);refine with_tabW spec_paGroups.tab9 spec_paGroups.bits9 (fun HT_ HW_=>?_);generalize wr.drew=w23 at HO_9 HB hx139_0 hHeld ⊢
          refine pure_ (i:=0) (N:=some 31) (v:=?_) (a':=?_) #[true,false,false,false,false,false,false,false,false,false,false,false,false,false,false,false] rfl rfl (any_of HT_.out (by kernel_rfl)) (fun _ _ _ h=>h) (Or.inl ⟨by rfl,?_⟩) ?_ ?_
          rotate_left
          ·
           intro w';go_simp;with_reducible rfl
          rotate_left
          ·
           simp only[Act.put,sa',sb',sc',i64_w,i32_w];rfl
          refine pure_ (i:=1) (N:=some 32) (v:=?_) (a':=?_) #[true,true,false,false,false,false,false,false,false,false,false,false,false,false,false,false] rfl rfl (any_of HT_.out (by kernel_rfl)) (fun _ _ _ h=>h) (Or.inl ⟨by rfl,?_⟩) ?_ ?_
          rotate_left
          ·
           intro w';go_simp;with_reducible rfl
          rotate_left
          ·
           simp only[Act.put,sa',sb',sc',i64_w,i32_w];rfl
          refine pure_ (i:=2) (N:=some 33) (v:=?_) (a':=?_) #[true,true,true,false,false,false,false,false,false,false,false,false,false,false,false,false] rfl rfl (any_of HT_.out (by kernel_rfl)) (fun _ _ _ h=>h) (Or.inl ⟨by rfl,?_⟩) ?_ ?_
          rotate_left
          ·
           intro w';go_simp;with_reducible rfl
          rotate_left
          ·
           simp only[Act.put,sa',sb',sc',i64_w,i32_w];rfl
          refine pure_ (i:=4) (N:=some 35) (v:=?_) (a':=?_) #[true,true,true,false,true,false,false,false,false,false,false,false,false,false,false,false] rfl rfl (any_of HT_.out (by kernel_rfl)) (fun _ _ _ h=>h) (Or.inl ⟨by rfl,?_⟩) ?_ ?_
          rotate_left
          ·
           intro w';go_simp;with_reducible rfl
          rotate_left
          ·
           simp only[Act.put,sa',sb',sc',i64_w,i32_w];rfl
          refine pure_ (i:=5) (N:=some 36) (v:=?_) (a':=?_) #[true,true,true,false,true,true,false,false,false,false,false,false,false,false,false,false] rfl rfl (any_of HT_.out (by kernel_rfl)) (fun _ _ _ h=>h) (Or.inl ⟨by rfl,?_⟩) ?_ ?_
          rotate_left
          ·
           intro w';go_simp;with_reducible rfl
          rotate_left
          ·
           simp only[Act.put,sa',sb',sc',i64_w,i32_w];rfl
          refine pure_ (i:=6) (N:=some 37) (v:=?_) (a':=?_) #[true,true,true,false,true,true,true,false,false,false,false,false,false,false,false,false] rfl rfl (any_of HT_.out (by kernel_rfl)) (fun _ _ _ h=>h) (Or.inl ⟨by rfl,?_⟩) ?_ ?_
          rotate_left
          ·
           intro w';go_simp;with_reducible rfl
          rotate_left
          ·
           simp only[Act.put,sa',sb',sc',i64_w,i32_w];rfl
          refine pure_ (i:=10) (N:=some 41) (v:=?_) (a':=?_) #[true,true,true,false,true,true,true,false,false,false,true,false,false,false,false,false] rfl rfl (any_of HT_.out (by kernel_rfl)) (fun _ _ _ h=>h) (Or.inl ⟨by rfl,?_⟩) ?_ ?_
          rotate_left
          ·
           intro w';go_simp;with_reducible rfl
          rotate_left
          ·
           simp only[Act.put,sa',sb',sc',i64_w,i32_w];rfl
          refine pure_ (i:=11) (N:=some 42) (v:=?_) (a':=?_) #[true,true,true,false,true,true,true,false,false,false,true,true,false,false,false,false] rfl rfl (any_of HT_.out (by kernel_rfl)) (fun _ _ _ h=>h) (Or.inl ⟨by rfl,?_⟩) ?_ ?_
          rotate_left
          ·
           intro w';go_simp;with_reducible rfl
          rotate_left
          ·
           simp only[Act.put,sa',sb',sc',i64_w,i32_w];rfl
          refine pure_ (i:=12) (N:=some 43) (v:=?_) (a':=?_) #[true,true,true,false,true,true,true,false,false,false,true,true,true,false,false,false] rfl rfl (any_of HT_.out (by kernel_rfl)) (fun _ _ _ h=>h) (Or.inl ⟨by rfl,?_⟩) ?_ ?_
          rotate_left
          ·
           intro w';go_simp;with_reducible rfl
          rotate_left
          ·
           simp only[Act.put,sa',sb',sc',i64_w,i32_w];rfl
          refine take_ (i:=7) (N:=some 38) (v:=?_) (a':=?_) #[true,true,true,false,true,true,true,true,false,false,true,true,true,false,false,false] rfl rfl (take_ofW HT_.out HW_.out (by kernel_rfl)) (fun _ _ _ h=>h) (Or.inl ⟨by rfl,?_⟩) hHeld ?_ ?_
          rotate_left
          ·
           intro w' s0;go_simp;with_reducible rfl
          rotate_left
          ·
           simp only[Act.put,sa',sb',sc',i64_w,i32_w];rfl
          refine join_ (σ:=Value × Value) 4 #[true,true,true,true,true,true,true,true,true,false,true,true,true,false,false,false] (fun s_=>[(34,s_.1),(39,s_.2)]) (fun s_ w'=>(w'.cell? (ad139.add (x10_2).toNat)=some (.int .i64 (rd l0 x10_2)))∧(Kd.R (Kd.int .i64) 3 w' w.heap.size (fun k_=>(w.heap.size≤k_)∧some k_≠(s_.2:Value).ownBlock) s_.1 t136)∧(Kd.R (Kd.int .i64) 3 w' w.heap.size (fun k_=>(w.heap.size≤k_)∧some k_≠(s_.1:Value).ownBlock) s_.2 y140)∧(Kd.N (Kd.slice 3 (Kd.int .i64)) 26 w' w.heap.size (fun k_=>(w.heap.size≤k_)∧some k_≠(s_.1:Value).ownBlock∧some k_≠(s_.2:Value).ownBlock) (.slice Ao22 x9_2.length co22) x9_2)∧(Below w.heap.size w w')) ?_ ?_
          rotate_left
          ·
           intro hCont;refine two_ (i:=3) (j:=8) (Ni:=some 34) (Nj:=some 39) #[true,true,true,true,true,true,true,true,false,false,true,true,true,false,false,false] #[true,true,true,false,true,true,true,true,true,false,true,true,true,false,false,false] rfl rfl rfl rfl (two_of HT_.out (by kernel_rfl)) (by decide) (by decide) (fun K hK=>?_) (fun K hK=>?_)
           ·
            skip
            refine goes_ Try.func69 (by kernel_rfl) rfl #[.slice A1 l1.length c1] (by rfl) rfl rfl (by (try simp only[List.map_toArray,List.map_cons,List.map_nil]);first|done|rfl|(simp only[List.length_drop,List.length_take];rfl)) ?_
            with_reducible refine (spec_l1Own.calls _ _ l1 t136 _ ?side1 ?side2 A17.out).mono ?_
            (case side1=>repeat (first|exact (Kd.C_below HR1.out HB.out)|(with_reducible refine ca' ?_ _)|(with_reducible refine cn' ?_ _)|(with_reducible refine cd' ?_)))
            (case side2=>exact HC1.out)
            rintro e w24 ⟨v137,rfl,ho0,hb⟩
            refine ⟨_,rfl,?_⟩;have n0_:=am' (Kd.N_elder' (by (with_reducible repeat (first|apply Kd.N_alloc|apply Kd.N_drewN|apply Kd.N_drew));exact HO_9.out) (Kd.R_base ho0) hb);have n1_:=am' (Kd.R_lower (Kd.R_newM (M:=fun k_=>(w.heap.size≤k_)) ho0 (below_size (by repeat (first|(with_reducible first|exact HB.out|apply ba'|apply bd'|apply be')|exact HB.out))) (fun k_ h_=>h_)) (below_size (by repeat (first|(with_reducible first|exact HB.out|apply ba'|apply bd'|apply be')|exact HB.out))));have n2_:=am' (below_step (by repeat (first|(with_reducible first|exact HB.out|apply ba'|apply bd'|apply be')|exact HB.out)) hb);clear HO_9;clear HB;have HO_9:=n0_;have HO138:=n1_;have HB:=n2_;clear n0_ n1_ n2_;(try clear hb)
            (try clear hb2)
            (try clear hk)
            (try clear hi)
            (try clear ho0)
            refine hK.out _ _ (((HB.out.cell (bl' w _ hw139_0)).trans hw139_0)) (fun hHeld=>?_);clear hK K;refine norm_ (a':=?_) ?_ ?_
            rotate_left
            ·
             show Act.put _ (some 34) _=_
             simp only[Act.put,sa',sb',sc',i64_w,i32_w];rfl
            refine one_ (i:=8) (N:=some 39) #[true,true,true,true,true,true,true,true,true,false,true,true,true,false,false,false] rfl rfl (one_of HT_.out (by kernel_rfl)) (by decide) (fun K hK=>?_);refine Kd.R_lit_step (Kd.int .i64) _ 3 ?hg (N:=39) ?hd (xs:=([rd l0 x10_2]:List Int)) (inner:=[.int .i64 (rd l0 x10_2)]) (ok:=fun _=>True) (okp:=fun _=>True) ?hr ?hp (fun _ hk=>hk) trivial (Below.refl _ _) (Nat.le_refl _) (by simp) ?_;(case hd=>rfl);(case hg=>rfl);(case hr=>first|(go_simp;done)|(go_simp;rfl));(case hp=>exact (Reps.one (show Kd.M (Kd.int .i64) _ _ _ (rd l0 x10_2) [.int .i64 (rd l0 x10_2)] from rfl) (Reps.none _ _)))
            intro v141 w25 ho26 hb hg_ hnew_;clear hg_ hnew_;(first|rw[← Ny140.out] at ho26|(simp only[Int.reduceToNat] at ho26;rw[← Ny140.out] at ho26))
            have n0_:=am' (Kd.N_elder' (by (with_reducible repeat (first|apply Kd.N_alloc|apply Kd.N_drewN|apply Kd.N_drew));exact HO_9.out) (Kd.R_base ho26) hb);have n1_:=am' (Kd.R_elder' (by (with_reducible repeat (first|apply ra'|apply rn'|apply rw'));exact HO138.out) (Kd.R_base ho26) hb);have n2_:=am' (Kd.R_lower (Kd.R_new' (Kd.R_newM (M:=fun k_=>(w.heap.size≤k_)) ho26 (below_size (by repeat (first|(with_reducible first|exact HB.out|apply ba'|apply bd'|apply be')|exact HB.out))) (fun k_ h_=>h_)) (Kd.R_lt (by (with_reducible repeat (first|apply ra'|apply rn'|apply rw'));exact HO138.out))) (below_size (by repeat (first|(with_reducible first|exact HB.out|apply ba'|apply bd'|apply be')|exact HB.out))));have n3_:=am' (below_step (by repeat (first|(with_reducible first|exact HB.out|apply ba'|apply bd'|apply be')|exact HB.out)) hb);clear HO_9;clear HO138;clear HB;have HO_9:=n0_;have HO138:=n1_;have HO142:=n2_;have HB:=n3_;clear n0_ n1_ n2_ n3_;clear hb ho26;refine hK.out _ _ (((HB.out.cell (bl' w _ hw139_0)).trans hw139_0)) (fun hHeld=>?_);clear hK K;refine norm_ (a':=?_) ?_ ?_
            rotate_left
            ·
             show Act.put _ (some 39) _=_
             simp only[Act.put,sa',sb',sc',i64_w,i32_w];rfl
            exact norm_ (by simp only[putAll,Act.put,sa',sb',sc']) (hCont (v137,v141) _ ⟨hHeld,(by (with_reducible repeat (first|apply ra'|apply rn'|apply rw'));exact Kd.R_mono HO138.out (fun _ hk=>⟨hk.1.1,hk.2⟩)),(by (with_reducible repeat (first|apply ra'|apply rn'|apply rw'));exact Kd.R_mono HO142.out (fun _ hk=>⟨hk.1.1,hk.2⟩)),(by (with_reducible repeat (first|apply Kd.N_alloc|apply Kd.N_drewN|apply Kd.N_drew));exact Kd.N_mono HO_9.out (fun _ hk=>⟨hk.1.1,⟨hk.1.2,hk.2⟩⟩)),(by repeat (first|(with_reducible first|exact HB.out|apply ba'|apply bd'|apply be')|exact HB.out))⟩)
           ·
            skip
            refine Kd.R_lit_step (Kd.int .i64) _ 3 ?hg (N:=39) ?hd (xs:=([rd l0 x10_2]:List Int)) (inner:=[.int .i64 (rd l0 x10_2)]) (ok:=fun _=>True) (okp:=fun _=>True) ?hr ?hp (fun _ hk=>hk) trivial (Below.refl _ _) (Nat.le_refl _) (by simp) ?_;(case hd=>rfl);(case hg=>rfl);(case hr=>first|(go_simp;done)|(go_simp;rfl));(case hp=>exact (Reps.one (show Kd.M (Kd.int .i64) _ _ _ (rd l0 x10_2) [.int .i64 (rd l0 x10_2)] from rfl) (Reps.none _ _)))
            intro v141 w24 ho25 hb hg_ hnew_;clear hg_ hnew_;(first|rw[← Ny140.out] at ho25|(simp only[Int.reduceToNat] at ho25;rw[← Ny140.out] at ho25))
            have n0_:=am' (Kd.N_elder' (by (with_reducible repeat (first|apply Kd.N_alloc|apply Kd.N_drewN|apply Kd.N_drew));exact HO_9.out) (Kd.R_base ho25) hb);have n1_:=am' (Kd.R_lower (Kd.R_newM (M:=fun k_=>(w.heap.size≤k_)) ho25 (below_size (by repeat (first|(with_reducible first|exact HB.out|apply ba'|apply bd'|apply be')|exact HB.out))) (fun k_ h_=>h_)) (below_size (by repeat (first|(with_reducible first|exact HB.out|apply ba'|apply bd'|apply be')|exact HB.out))));have n2_:=am' (below_step (by repeat (first|(with_reducible first|exact HB.out|apply ba'|apply bd'|apply be')|exact HB.out)) hb);clear HO_9;clear HB;have HO_9:=n0_;have HO142:=n1_;have HB:=n2_;clear n0_ n1_ n2_;clear hb ho25;refine hK.out _ _ (((HB.out.cell (bl' w _ hw139_0)).trans hw139_0)) (fun hHeld=>?_);clear hK K;refine norm_ (a':=?_) ?_ ?_
            rotate_left
            ·
             show Act.put _ (some 39) _=_
             simp only[Act.put,sa',sb',sc',i64_w,i32_w];rfl
            refine one_ (i:=3) (N:=some 34) #[true,true,true,true,true,true,true,true,true,false,true,true,true,false,false,false] rfl rfl (one_of HT_.out (by kernel_rfl)) (by decide) (fun K hK=>?_);refine goes_ Try.func69 (by kernel_rfl) rfl #[.slice A1 l1.length c1] (by rfl) rfl rfl (by (try simp only[List.map_toArray,List.map_cons,List.map_nil]);first|done|rfl|(simp only[List.length_drop,List.length_take];rfl)) ?_
            with_reducible refine (spec_l1Own.calls _ _ l1 t136 _ ?side1 ?side2 A17.out).mono ?_
            (case side1=>repeat (first|exact (Kd.C_below HR1.out HB.out)|(with_reducible refine ca' ?_ _)|(with_reducible refine cn' ?_ _)|(with_reducible refine cd' ?_)))
            (case side2=>exact HC1.out)
            rintro e w26 ⟨v137,rfl,ho0,hb⟩
            refine ⟨_,rfl,?_⟩;have n0_:=am' (Kd.N_elder' (by (with_reducible repeat (first|apply Kd.N_alloc|apply Kd.N_drewN|apply Kd.N_drew));exact HO_9.out) (Kd.R_base ho0) hb);have n1_:=am' (Kd.R_elder' (by (with_reducible repeat (first|apply ra'|apply rn'|apply rw'));exact HO142.out) (Kd.R_base ho0) hb);have n2_:=am' (Kd.R_lower (Kd.R_new' (Kd.R_newM (M:=fun k_=>(w.heap.size≤k_)) ho0 (below_size (by repeat (first|(with_reducible first|exact HB.out|apply ba'|apply bd'|apply be')|exact HB.out))) (fun k_ h_=>h_)) (Kd.R_lt (by (with_reducible repeat (first|apply ra'|apply rn'|apply rw'));exact HO142.out))) (below_size (by repeat (first|(with_reducible first|exact HB.out|apply ba'|apply bd'|apply be')|exact HB.out))));have n3_:=am' (below_step (by repeat (first|(with_reducible first|exact HB.out|apply ba'|apply bd'|apply be')|exact HB.out)) hb);clear HO_9;clear HO142;clear HB;have HO_9:=n0_;have HO142:=n1_;have HO138:=n2_;have HB:=n3_;clear n0_ n1_ n2_ n3_;(try clear hb)
            (try clear hb2)
            (try clear hk)
            (try clear hi)
            (try clear ho0)
            refine hK.out _ _ (((HB.out.cell (bl' w _ hw139_0)).trans hw139_0)) (fun hHeld=>?_);clear hK K;refine norm_ (a':=?_) ?_ ?_
            rotate_left
            ·
             show Act.put _ (some 34) _=_
             simp only[Act.put,sa',sb',sc',i64_w,i32_w];rfl
            exact norm_ (by simp only[putAll,Act.put,sa',sb',sc']) (hCont (v137,v141) _ ⟨hHeld,(by (with_reducible repeat (first|apply ra'|apply rn'|apply rw'));exact Kd.R_mono HO138.out (fun _ hk=>⟨hk.1.1,hk.2⟩)),(by (with_reducible repeat (first|apply ra'|apply rn'|apply rw'));exact Kd.R_mono HO142.out (fun _ hk=>⟨hk.1.1,hk.2⟩)),(by (with_reducible repeat (first|apply Kd.N_alloc|apply Kd.N_drewN|apply Kd.N_drew));exact Kd.N_mono HO_9.out (fun _ hk=>⟨hk.1.1,⟨hk.2,hk.1.2⟩⟩)),(by repeat (first|(with_reducible first|exact HB.out|apply ba'|apply bd'|apply be')|exact HB.out))⟩)
          rintro ⟨v137,v141⟩ w27 ⟨hS_,h0_,h1_,h2_,h3_⟩
          have n0_:Aside0 (Kd.R (Kd.int .i64) 3 w27 w.heap.size (fun k_=>(w.heap.size≤k_)∧some k_≠(v141:Value).ownBlock) v137 t136):=⟨h0_⟩
          have n1_:Aside0 (Kd.R (Kd.int .i64) 3 w27 w.heap.size (fun k_=>(w.heap.size≤k_)∧some k_≠(v137:Value).ownBlock) v141 y140):=⟨h1_⟩
          have n2_:Aside0 (Kd.N (Kd.slice 3 (Kd.int .i64)) 26 w27 w.heap.size (fun k_=>(w.heap.size≤k_)∧some k_≠(v137:Value).ownBlock∧some k_≠(v141:Value).ownBlock) (.slice Ao22 x9_2.length co22) x9_2):=⟨h2_⟩
          have n3_:Aside0 (Below w.heap.size w w27):=⟨h3_⟩
          clear HO_9;clear HB;clear h0_ h1_ h2_ h3_;have HO138:=n0_;have HO142:=n1_;have HO_9:=n2_;have HB:=n3_;clear n0_ n1_ n2_ n3_;have hHeld:w27.cell? (ad139.add (x10_2).toNat)=some (.int .i64 (rd l0 x10_2)):=hS_;obtain ⟨Ao29,co29,eo29⟩:=Kd.R_slice HO142.out
          (first|subst eo29|(injection eo29 with f1_ f2_ f3_;have f4_:=f1_.symm;have f5_:=f3_.symm;clear f1_ f2_ f3_;subst f4_;subst f5_))
          refine norm_ (a':=?_) ?_ ?_
          rotate_left
          ·
           simp only[putAll,Act.put,sa',sb',sc'];rfl
          refine one_ (i:=9) (N:=some 40) #[true,true,true,true,true,true,true,true,true,true,true,true,true,false,false,false] rfl rfl (one_of HT_.out (by kernel_rfl)) (by decide) (fun K hK=>?_);refine Kd.R_append_rows_step (Kd.int .i64) (w0:=w) w.heap.size (by rfl) (.tmp 34) (.tmp 39) 26 3 (.int .i64 0) 8 rfl Try.underlying26 info3 rfl (by decide) (by omega) v137 t136 y140 _ _ _ (fun k_=>(w.heap.size≤k_)∧some k_≠(.slice Ao29 y140.length co29:Value).ownBlock) (fun _=>False) rfl rfl ?aO ?aR (fun _ _ h=>h) (fun _ h=>h.elim) ?aF ?aB ?aS ?aL ?_
          (case aR=>repeat (first|exact (Kd.R_reads' HO142.out).2.2|(with_reducible refine ca' ?_ _)|(with_reducible refine cn' ?_ _)|(with_reducible refine cd' ?_)))
          (case aB=>exact (by repeat (first|(with_reducible first|exact HB.out|apply ba'|apply bd'|apply be')|exact HB.out)))
          (case aF=>exact (fun k_ hk=>⟨(Nat.le_trans (below_size (by repeat (first|(with_reducible first|exact HB.out|apply ba'|apply bd'|apply be')|exact HB.out))) hk),Kd.fresh' (Kd.R_lt (by (with_reducible repeat (first|apply ra'|apply rn'|apply rw'));exact HO142.out)) k_ hk⟩))
          (case aO=>exact (by (with_reducible repeat (first|apply ra'|apply rn'|apply rw'));exact HO138.out))
          (case aS=>exact (below_size (by repeat (first|(with_reducible first|exact HB.out|apply ba'|apply bd'|apply be')|exact HB.out))))
          (case aL=>have:=LMc19.out;omega)
          intro v144 w28 ho hb hg hat;rw[← Ny143.out] at ho;have n0_:=am' (Kd.N_afterv (ok:=(fun k_=>(w.heap.size≤k_)∧some k_≠(.slice Ao29 y140.length co29:Value).ownBlock)) (by (with_reducible repeat (first|apply Kd.N_alloc|apply Kd.N_drewN|apply Kd.N_drew));exact Kd.N_mono HO_9.out (fun _ hk=>⟨⟨hk.1,hk.2.2⟩,hk.2.1⟩)) hg hat);have n1_:=am' (Kd.R_after (ok:=(fun k_=>(w.heap.size≤k_))) (by (with_reducible repeat (first|apply ra'|apply rn'|apply rw'));exact HO142.out) hg hat);have n2_:=am' (hb);have n3_:=am' (ho);clear HO_9;clear HO142;clear HB;clear HO138;have HO_9:=n0_;have HO142:=n1_;have HB:=n2_;have HO145:=n3_;clear n0_ n1_ n2_ n3_;clear ho hb hg hat;obtain ⟨Ao30,co30,eo30⟩:=Kd.R_slice HO145.out
          (first|subst eo30|(injection eo30 with f1_ f2_ f3_;have f4_:=f1_.symm;have f5_:=f3_.symm;clear f1_ f2_ f3_;subst f4_;subst f5_))
          refine hK.out _ _ (((HB.out.cell (bl' w _ hw139_0)).trans hw139_0)) (fun hHeld=>?_);clear hK K;refine norm_ (a':=?_) ?_ ?_
          rotate_left
          ·
           show Act.put _ (some 40) _=_
           simp only[Act.put,sa',sb',sc',i64_w,i32_w];rfl
          refine one_ (i:=13) (N:=some 44) #[true,true,true,true,true,true,true,true,true,true,true,true,true,true,false,false] rfl rfl (one_of HT_.out (by kernel_rfl)) (by decide) (fun K hK=>?_);refine goes_ Try.func36 (by kernel_rfl) rfl #[.slice (some ad139) l0.length c0, .slice Ao30 y143.length co30, .int .i64 (wrap64 (x10_2+1)), .int .i64 a3] (by rfl) rfl rfl (by (try simp only[List.map_toArray,List.map_cons,List.map_nil]);first|done|rfl|(simp only[List.length_drop,List.length_take];rfl)) ?_
          with_reducible refine (ih k2 (by have:=HJ4.out;have:=HK2.out;omega) _ _ l0 _ _ y143 (wrap64 (x10_2+1)) a3 t146 _ ?side1 ?side2 ?side3 ?side4 A20.out).mono ?_
          (case side1=>repeat (first|exact (Kd.C_below HR0.out HB.out)|(with_reducible refine ca' ?_ _)|(with_reducible refine cn' ?_ _)|(with_reducible refine cd' ?_)))
          (case side2=>exact HC0.out)
          (case side3=>repeat (first|exact (Kd.R_reads' HO145.out).2.2|(with_reducible refine ca' ?_ _)|(with_reducible refine cn' ?_ _)|(with_reducible refine cd' ?_)))
          (case side4=>exact (Kd.R_reads' HO145.out).2.1)
          rintro e w31 ⟨v147,rfl,ho0,hb⟩
          refine ⟨_,rfl,?_⟩;have n0_:=am' (Kd.N_elder' (by (with_reducible repeat (first|apply Kd.N_alloc|apply Kd.N_drewN|apply Kd.N_drew));exact HO_9.out) (Kd.N_base ho0) hb);have n1_:=am' (Kd.R_below (by (with_reducible repeat (first|apply ra'|apply rn'|apply rw'));exact HO142.out) hb);have n2_:=am' (Kd.R_below (by (with_reducible repeat (first|apply ra'|apply rn'|apply rw'));exact HO145.out) hb);have n3_:=am' (Kd.N_lower (Kd.N_mono (ok':=fun k_=>(w.heap.size≤k_)∧some k_≠(.slice Ao22 x9_2.length co22:Value).ownBlock∧some k_≠(.slice Ao29 y140.length co29:Value).ownBlock∧some k_≠(.slice Ao30 y143.length co30:Value).ownBlock) ho0 (fun k_ hk_=>⟨(Nat.le_trans (below_size (by repeat (first|(with_reducible first|exact HB.out|apply ba'|apply bd'|apply be')|exact HB.out))) hk_),(Kd.fresh' (Kd.N_lt (by (with_reducible repeat (first|apply Kd.N_alloc|apply Kd.N_drewN|apply Kd.N_drew));exact HO_9.out)) k_ hk_),(Kd.fresh' (Kd.R_lt (by (with_reducible repeat (first|apply ra'|apply rn'|apply rw'));exact HO142.out)) k_ hk_),(Kd.fresh' (Kd.R_lt (by (with_reducible repeat (first|apply ra'|apply rn'|apply rw'));exact HO145.out)) k_ hk_)⟩)) (below_size (by repeat (first|(with_reducible first|exact HB.out|apply ba'|apply bd'|apply be')|exact HB.out))));have n4_:=am' (below_step (by repeat (first|(with_reducible first|exact HB.out|apply ba'|apply bd'|apply be')|exact HB.out)) hb);clear HO_9;clear HO142;clear HO145;clear HB;have HO_9:=n0_;have HO142:=n1_;have HO145:=n2_;have HO148:=n3_;have HB:=n4_;clear n0_ n1_ n2_ n3_ n4_;(try clear hb)
          (try clear hb2)
          (try clear hk)
          (try clear hi)
          (try clear ho0)
          obtain ⟨Ao33,co33,eo33⟩:=Kd.N_slice HO148.out
          (first|subst eo33|(injection eo33 with f1_ f2_ f3_;have f4_:=f1_.symm;have f5_:=f3_.symm;clear f1_ f2_ f3_;subst f4_;subst f5_))
          refine hK.out _ _ (((HB.out.cell (bl' w _ hw139_0)).trans hw139_0)) (fun hHeld=>?_);clear hK K;refine norm_ (a':=?_) ?_ ?_
          rotate_left
          ·
           show Act.put _ (some 44) _=_
           simp only[Act.put,sa',sb',sc',i64_w,i32_w];rfl
          refine one_ (i:=14) (N:=some 45) #[true,true,true,true,true,true,true,true,true,true,true,true,true,true,true,false] rfl rfl (one_of HT_.out (by kernel_rfl)) (by decide) (fun K hK=>?_);refine Kd.N_append_rows_step (Kd.slice 3 (Kd.int .i64)) (w0:=w) w.heap.size (by rfl) (.tmp 31) (.tmp 44) 22 26 (.slice none 0 0) 24 rfl Try.underlying22 info26 rfl (by decide) (by omega) (.slice Ao22 x9_2.length co22) x9_2 t146 _ _ _ (fun k_=>(w.heap.size≤k_)∧some k_≠(.slice Ao29 y140.length co29:Value).ownBlock∧some k_≠(.slice Ao30 y143.length co30:Value).ownBlock) (fun k_=>((fun k_=>(w.heap.size≤k_)∧some k_≠(.slice Ao29 y140.length co29:Value).ownBlock∧some k_≠(.slice Ao30 y143.length co30:Value).ownBlock)) k_∧some k_≠(.slice Ao22 x9_2.length co22:Value).ownBlock) rfl rfl ?aO ?aR (fun _ hk=>hk) ?aF ?aB ?aS ?aL ?_
          (case aR=>exact (by skip;exact Kd.N_F (Kd.N_mono (ok':=(fun k_=>((fun k_=>(w.heap.size≤k_)∧some k_≠(.slice Ao29 y140.length co29:Value).ownBlock∧some k_≠(.slice Ao30 y143.length co30:Value).ownBlock)) k_∧some k_≠(.slice Ao22 x9_2.length co22:Value).ownBlock)) (HO148.out) (fun k_ hk=>⟨⟨hk.1,⟨hk.2.2.1,hk.2.2.2⟩⟩,hk.2.1⟩))))
          (case aB=>exact (by repeat (first|(with_reducible first|exact HB.out|apply ba'|apply bd'|apply be')|exact HB.out)))
          (case aF=>exact (fun k_ hk=>⟨(Nat.le_trans (below_size (by repeat (first|(with_reducible first|exact HB.out|apply ba'|apply bd'|apply be')|exact HB.out))) hk),Kd.fresh' (Kd.R_lt (by (with_reducible repeat (first|apply ra'|apply rn'|apply rw'));exact HO142.out)) k_ hk,Kd.fresh' (Kd.R_lt (by (with_reducible repeat (first|apply ra'|apply rn'|apply rw'));exact HO145.out)) k_ hk⟩))
          (case aO=>exact (by (with_reducible repeat (first|apply Kd.N_alloc|apply Kd.N_drewN|apply Kd.N_drew));exact Kd.N_mono HO_9.out (fun _ hk=>⟨hk.1.1.1,⟨hk.1.1.2,hk.1.2⟩⟩)))
          (case aS=>exact (below_size (by repeat (first|(with_reducible first|exact HB.out|apply ba'|apply bd'|apply be')|exact HB.out))))
          (case aL=>have:=LMc21.out;omega)
          intro v150 w32 ho hb hg hat;rw[← Ny149.out] at ho;have n0_:=am' (Kd.R_over' (by (with_reducible repeat (first|apply ra'|apply rn'|apply rw'));exact HO142.out) (Kd.N_typed (by (with_reducible repeat (first|apply Kd.N_alloc|apply Kd.N_drewN|apply Kd.N_drew));exact HO_9.out)) (by decide) hg);have n1_:=am' (Kd.R_over' (by (with_reducible repeat (first|apply ra'|apply rn'|apply rw'));exact HO145.out) (Kd.N_typed (by (with_reducible repeat (first|apply Kd.N_alloc|apply Kd.N_drewN|apply Kd.N_drew));exact HO_9.out)) (by decide) hg);have n2_:=am' (Kd.N_afterv (ok:=(fun k_=>(w.heap.size≤k_)∧some k_≠(.slice Ao29 y140.length co29:Value).ownBlock∧some k_≠(.slice Ao30 y143.length co30:Value).ownBlock)) (by (with_reducible repeat (first|apply Kd.N_alloc|apply Kd.N_drewN|apply Kd.N_drew));exact Kd.N_mono HO148.out (fun _ hk=>⟨⟨hk.1,⟨hk.2.2.1,hk.2.2.2⟩⟩,hk.2.1⟩)) hg hat);have n3_:=am' (hb);have n4_:=am' (ho);clear HO142;clear HO145;clear HO148;clear HB;clear HO_9;have HO142:=n0_;have HO145:=n1_;have HO148:=n2_;have HB:=n3_;have HO151:=n4_;clear n0_ n1_ n2_ n3_ n4_;clear ho hb hg hat;refine hK.out _ _ (((HB.out.cell (bl' w _ hw139_0)).trans hw139_0)) (fun hHeld=>?_);clear hK K;refine norm_ (a':=?_) ?_ ?_
          rotate_left
          ·
           show Act.put _ (some 45) _=_
           simp only[Act.put,sa',sb',sc',i64_w,i32_w];rfl
          refine pure_ (i:=15) (N:=some 9) (v:=?_) (a':=?_) #[true,true,true,true,true,true,true,true,true,true,true,true,true,true,true,true] rfl rfl (any_of HT_.out (by kernel_rfl)) (fun _ _ _ h=>h) (Or.inl ⟨by rfl,?_⟩) ?_ ?_
          rotate_left
          ·
           intro w';go_simp;with_reducible rfl
          rotate_left
          ·
           simp only[Act.put,sa',sb',sc',i64_w,i32_w];rfl
          refine done_ (done_of HT_.out (by kernel_rfl)) ?_
          try go_wp2
          go_roundg k2
          case measure=>have:=HJ4.out;have:=HK2.out;omega
          case rel=>exact ⟨(y149),(wrap64 (x10_2+1)),(by first|rfl|(simp;done)|(simp[*];done)),H',⟨by have:=HJ4.out;have:=HK2.out;omega⟩,⟨by (with_reducible repeat (first|apply Kd.N_alloc|apply Kd.N_drewN|apply Kd.N_drew));exact Kd.N_mono HO151.out (fun _ hk=>hk.1)⟩,⟨by repeat (first|(with_reducible first|exact HB.out|apply ba'|apply bd'|apply be')|exact HB.out)⟩⟩
         ·
          rw[if_neg c21] at H;exact absurd H (by simp)
        ·
         rw[if_neg c19] at H;exact absurd H (by simp)
       ·
        rw[if_neg c18] at H;exact absurd H (by simp)
      ·
       rw[if_neg c16] at H;have c16b0:decide (x10_2 < (l0.length:Int))=false:=decide_eq_false c16;clear c16;obtain rfl:=Option.some.inj H;go_wp2;go_ret
       exact ⟨_,by first|rfl|(simp[errW_none,errW_some] <;> rfl)|(simp[*,errW_none,errW_some] <;> rfl),by (with_reducible repeat (first|apply Kd.N_alloc|apply Kd.N_drewN|apply Kd.N_drew));exact HO_9.out,by repeat (first|(with_reducible first|exact HB.out|apply ba'|apply bd'|apply be')|exact HB.out)⟩
def spec_l1Has.l0:Nat→Int→List Int→Int→Int→Option (Bool)
 | 0,_,_,_,_=>none
 | k+1,x1,x7,x8,x9=>if x9 < x8 then (if 0≤x9 then (if x9 < (x7.length:Int) then (if (rd x7 x9)=x1 then (some true) else (spec_l1Has.l0 k x1 x7 x8 (wrap64 (x9+1)))) else (none)) else (none)) else (some false)
def spec_l1Has.f (k:Nat) (l0:List Int) (a1:Int):Option (Bool):=spec_l1Has.l0 k a1 l0 (l0.length:Int) 0
set_option maxHeartbeats 8000000 in
set_option maxRecDepth 100000 in
theorem spec_l1Has.calls (k:Nat) (A0:Option Addr) (c0:Nat) (l0:List Int) (a1:Int) (r:Bool) (w:World) (hr0:Kd.C (Kd.int .i64) w A0 l0.length l0) (hc0:l0.length≤c0) (h:spec_l1Has.f k l0 a1=some r) :
  Calls Try.prog 37 #[.slice A0 l0.length c0, .int .i64 a1] w fun e w'=>e = .returned (.bool r)∧Drawn0 w w':=by
 have HR0:=am' hr0
 have HC0:=am' hc0
 clear hr0 hc0;have H:(spec_l1Has.l0 k a1 l0 (l0.length:Int) 0)=some r:=h
 clear h;have H':=am' H
 clear H;go_enter Try.func37,Try.ntmps37
 go_wp2
 go_loopg [9] k (fun kq v9 w'=>∃ (x9_1:Int),v9 = .int .i64 x9_1∧Aside0 (spec_l1Has.l0 kq a1 l0 (l0.length:Int) x9_1=some r)∧Aside0 (kq≤k)∧Drawn0 w w')
 case atStart=>exact ⟨(0),(by first|rfl|(simp;done)|(simp[*];done)),H',⟨Nat.le_refl _⟩,by repeat (first|exact Drawn0.refl _|apply Drawn0.step)⟩
 case round =>
  clear H';try clear p2
  obtain ⟨x9_1,rfl,HA,HK1,⟨m1,rfl⟩⟩:=hrel;cases gk with
  | zero=>exact absurd HA.out (by simp[spec_l1Has.l0])
  | succ k1 =>
   have H:=HA.out;clear HA;simp only[spec_l1Has.l0] at H;by_cases c3:x9_1 < (l0.length:Int)
   ·
    rw[if_pos c3] at H;have c3b0:decide (x9_1 < (l0.length:Int))=true:=decide_eq_true c3;clear c3;by_cases c4:0≤x9_1
    ·
     rw[if_pos c4] at H;have c4b0:decide (0≤x9_1)=true:=decide_eq_true c4;clear c4;by_cases c5:x9_1 < (l0.length:Int)
     ·
      rw[if_pos c5] at H;have c5b0:decide (x9_1 < (l0.length:Int))=true:=decide_eq_true c5;clear c5;by_cases c6:(rd l0 x9_1)=a1
      ·
       rw[if_pos c6] at H;have c6b0:((rd l0 x9_1) == a1)=true:=beq_iff_eq.mpr c6;have c6b1:((rd l0 x9_1) != a1)=false:=bne_eq_false_iff_eq.mpr c6;clear c6;obtain rfl:=Option.some.inj H;have p152:0≤(x9_1:Int):=of_decide_eq_true (by first|(with_reducible assumption)|assumption);have q152:x9_1 < (l0.length:Int):=of_decide_eq_true (by first|(with_reducible assumption)|assumption);obtain ⟨ad152,e152,hx152_0⟩:=Kd.at_int HR0.out x9_1 p152 q152;cases e152;replace p152:=eq_true p152;replace q152:=eq_true q152;go_wp2;go_ret
       exact ⟨by first|rfl|(simp;done)|(simp[*];done),by repeat (first|exact Drawn0.refl _|apply Drawn0.step)⟩
      ·
       rw[if_neg c6] at H;have c6b0:((rd l0 x9_1) == a1)=false:=beq_eq_false_iff_ne.mpr c6;have c6b1:((rd l0 x9_1) != a1)=true:=bne_iff_ne.mpr c6;have H':=am' H;clear H;have p152:0≤(x9_1:Int):=of_decide_eq_true (by first|(with_reducible assumption)|assumption);have q152:x9_1 < (l0.length:Int):=of_decide_eq_true (by first|(with_reducible assumption)|assumption);obtain ⟨ad152,e152,hx152_0⟩:=Kd.at_int HR0.out x9_1 p152 q152;cases e152;replace p152:=eq_true p152;replace q152:=eq_true q152;go_wp2;go_roundg k1
       case measure=>have:=HK1.out;omega
       case rel=>exact ⟨(wrap64 (x9_1+1)),(by first|rfl|(simp;done)|(simp[*];done)),H',⟨by have:=HK1.out;omega⟩,by repeat (first|exact Drawn0.refl _|apply Drawn0.step)⟩
     ·
      rw[if_neg c5] at H;exact absurd H (by simp)
    ·
     rw[if_neg c4] at H;exact absurd H (by simp)
   ·
    rw[if_neg c3] at H;have c3b0:decide (x9_1 < (l0.length:Int))=false:=decide_eq_false c3;clear c3;obtain rfl:=Option.some.inj H;go_wp2;go_ret
    exact ⟨by first|rfl|(simp;done)|(simp[*];done),by repeat (first|exact Drawn0.refl _|apply Drawn0.step)⟩
end Go.Proofs.Ytcjjhkapdlfaeaa.C1
