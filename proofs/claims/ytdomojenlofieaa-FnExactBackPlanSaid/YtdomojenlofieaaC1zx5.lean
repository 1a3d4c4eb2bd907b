import Derived.Test.YtdomojenlofieaaC1zx0
import Derived.Test.YtdomojenlofieaaC1zx1
import Derived.Test.YtdomojenlofieaaC1zx4
import Derived.Test.YtdomojenlofieaaC1zAl
namespace Go.Proofs.Ytdomojenlofieaa.C1
open Go.RowKit Go.Proofs.YtdomojenlofieaaW.PrintWords Go.Proofs.YtdomojenlofieaaW.PrintLast Go.Proofs.YtdomojenlofieaaW.PrintMore Go.Proofs.Ytdomojenlofieaa.H
attribute [local go_sem] max2_int min2_int max_two min_two max_three min_three max_four min_four
set_option linter.unusedVariables false
set_option linter.unusedSimpArgs false
def spec_l1Own.f (l0:List Int):Option (List Int):=(some (([]:List Int):List Int)).bind fun y174=>(if y174.length+l0.length < 17592186044416 then (some (y174 ++ l0)) else (none))
set_option maxHeartbeats 8000000 in
set_option maxRecDepth 100000 in
theorem spec_l1Own.calls (A0:Option Addr) (c0:Nat) (l0:List Int) (r:List Int) (w:World) (hr0:Kd.C (Kd.int .i64) w A0 l0.length l0) (hc0:l0.length≤c0) (h:spec_l1Own.f l0=some r) :
  Calls Try.prog 46 #[.slice A0 l0.length c0] w fun e w'=>∃ v0_:Value,e = .returned (v0_)∧Kd.R (Kd.int .i64) 3 w' w.heap.size (fun _=>True) v0_ r∧Below w.heap.size w w':=by
 have HR0:=am' hr0
 have HC0:=am' hc0
 clear hr0 hc0;have HB:=am' (Below.refl w.heap.size w)
 have H:((some (([]:List Int):List Int)).bind fun y174=>(if y174.length+l0.length < 17592186044416 then (some (y174 ++ l0)) else (none)))=some r:=h
 clear h;obtain ⟨y174,hy174⟩:∃ y_:List Int,y_=(([]:List Int)):=⟨_,rfl⟩
 replace H:(if y174.length+l0.length < 17592186044416 then (some (y174 ++ l0)) else (none))=some r:=by first|(rw[hy174];with_reducible exact H)|(have H2_:=(Option.bind_some _ _).symm.trans H;rw[hy174];with_reducible exact H2_)|(have H2_:=(Option.bind_some _ _).symm.trans H;with_reducible exact H2_)|with_reducible exact H|(rw[hy174];exact H)|exact H
 have Ny174:=am' hy174
 clear hy174;by_cases c2:y174.length+l0.length < 17592186044416
 ·
  rw[if_pos c2] at H;have LMc2:=am' c2;clear c2;obtain ⟨y177,hy177⟩:∃ y_:List Int,y_=(y174 ++ l0):=⟨_,rfl⟩
  replace H:(some y177)=some r:=by first|(rw[hy177];with_reducible exact H)|(have H2_:=(Option.bind_some _ _).symm.trans H;rw[hy177];with_reducible exact H2_)|(have H2_:=(Option.bind_some _ _).symm.trans H;with_reducible exact H2_)|with_reducible exact H|(rw[hy177];exact H)|exact H
  have Ny177:=am' hy177;clear hy177;obtain rfl:=Option.some.inj H;go_enter Try.func46,Try.ntmps46;go_wp2_with (first|((with_reducible refine gate_dst (N:=3) rfl ?_);refine Kd.R_lit (Kd.int .i64) _ 3 ?hg (N:=3) ?hd (xs:=([]:List Int)) (inner:=[]) (ok:=fun _=>True) (okp:=fun _=>True) ?hr ?hp (fun _ hk=>hk) trivial (Below.refl _ _) (Nat.le_refl _) (by simp) ?_;(case hd=>rfl);(case hg=>rfl);(case hr=>first|(go_simp;done)|(go_simp;rfl));(case hp=>exact (Reps.none _ _));intro v175 w3 ho4 hb hg_ hnew_;clear hg_ hnew_;(first|rw[← Ny174.out] at ho4|(simp only[Int.reduceToNat] at ho4;rw[← Ny174.out] at ho4));have n0_:=am' (Kd.R_lower ho4 (below_size (by repeat (first|(with_reducible first|exact HB.out|apply ba'|apply bd'|apply be')|exact HB.out))));have n1_:=am' (below_step (by repeat (first|(with_reducible first|exact HB.out|apply ba'|apply bd'|apply be')|exact HB.out)) hb);clear HB;have HO176:=n0_;have HB:=n1_;clear n0_ n1_;clear hb ho4)|((with_reducible refine gate_builtin (b := .append) (xs:=#[.tmp 3, .tmp 4]) rfl ?_);at_builtin;refine Kd.R_append_rows (Kd.int .i64) (w0:=w) w.heap.size rfl (.tmp 3) (.tmp 4) 22 3 (.int .i64 0) 8 rfl Try.underlying22 info3 rfl (by decide) (by omega) v175 y174 l0 _ _ _ (fun _=>True) (fun _=>False) rfl rfl ?aO ?aR (fun _ _ h=>h) (fun _ h=>h.elim) ?aF ?aB ?aS ?aL ?_;(case aR=>repeat (first|exact (Kd.C_below HR0.out HB.out)|(with_reducible refine ca' ?_ _)|(with_reducible refine cn' ?_ _)|(with_reducible refine cd' ?_)));(case aB=>exact (by repeat (first|(with_reducible first|exact HB.out|apply ba'|apply bd'|apply be')|exact HB.out)));(case aF=>exact (fun _ _=>trivial));(case aO=>exact (by (with_reducible repeat (first|apply ra'|apply rn'|apply rw'));exact HO176.out));(case aS=>exact (below_size (by repeat (first|(with_reducible first|exact HB.out|apply ba'|apply bd'|apply be')|exact HB.out))));(case aL=>have:=LMc2.out;omega);intro v178 w5 ho hb hg hat;rw[← Ny177.out] at ho;have n0_:=am' (hb);have n1_:=am' (ho);clear HB;clear HO176;have HB:=n0_;have HO179:=n1_;clear n0_ n1_;clear ho hb hg hat));go_ret
  exact ⟨_,by first|rfl|(simp[errW_none,errW_some] <;> rfl)|(simp[*,errW_none,errW_some] <;> rfl),by (with_reducible repeat (first|apply ra'|apply rn'|apply rw'));exact HO179.out,by repeat (first|(with_reducible first|exact HB.out|apply ba'|apply bd'|apply be')|exact HB.out)⟩
 ·
  rw[if_neg c2] at H;exact absurd H (by simp)
mutual
def spec_BackPlan.j0:Nat→List (List Int)→Bool→Option ((List (List Int)) × Bool)
 | 0,_,_=>none
 | k+1,x1,x16=>if x16=true then (some (([]:List (List Int)),false)) else (spec_BackPlan.l0 k x1 ([]:List (List Int)) (wrap64 ((x1.length:Int) - 1)))
def spec_BackPlan.l0:Nat→List (List Int)→List (List Int)→Int→Option ((List (List Int)) × Bool)
 | 0,_,_,_=>none
 | k+1,x1,x6,x7=>if x7 ≥ 0 then (if 0≤x7 then (if x7 < (x1.length:Int) then ((spec_l1Own.f (rd_L1 x1 x7)).bind fun t184=>(if x6.length < 5864062014805 then (spec_BackPlan.l0 k x1 (x6 ++ [t184]) (wrap64 (x7 - 1))) else (none))) else (none)) else (none)) else (some (x6,true))
end
def spec_BackPlan.f (k:Nat) (l0_0:List Int) (a0_1:Int) (l1:List (List Int)):Option ((List (List Int)) × Bool):=(spec_paGood.f k l0_0 a0_1).bind fun t181=>(if t181=true then ((spec_paPlan.f k l0_0 a0_1 l1).bind fun t182=>(spec_BackPlan.j0 k l1 (!t182))) else (spec_BackPlan.j0 k l1 true))
set_option maxHeartbeats 8000000 in
set_option maxRecDepth 100000 in
theorem spec_BackPlan.calls (k:Nat) (A0_0:Option Addr) (c0_0:Nat) (l0_0:List Int) (a0_1:Int) (A1:Option Addr) (c1:Nat) (l1:List (List Int)) (r1:List (List Int)) (r2:Bool) (w:World) (hr0_0:Kd.C (Kd.int .i64) w A0_0 l0_0.length l0_0) (hc0_0:l0_0.length≤c0_0) (hr1:Kd.C (Kd.slice 3 (Kd.int .i64)) w A1 l1.length l1) (hc1:l1.length≤c1) (h:spec_BackPlan.f k l0_0 a0_1 l1=some (r1,r2)) :
  Calls Try.prog 22 #[.agg #[.slice A0_0 l0_0.length c0_0, .int .i64 a0_1], .slice A1 l1.length c1] w fun e w'=>∃ v0_:Value,e = .returned (.tuple #[v0_, .bool r2])∧Kd.S (Kd.slice 3 (Kd.int .i64)) 22 w' w.heap.size (fun _=>True) v0_ r1∧Below w.heap.size w w':=by
 have hu52:=Try.underlying52
 have HR0_0:=am' hr0_0
 have HC0_0:=am' hc0_0
 clear hr0_0 hc0_0;have HR1:=am' hr1
 have HC1:=am' hc1
 clear hr1 hc1;have HB:=am' (Below.refl w.heap.size w)
 have H:((spec_paGood.f k l0_0 a0_1).bind fun t181=>(if t181=true then ((spec_paPlan.f k l0_0 a0_1 l1).bind fun t182=>(spec_BackPlan.j0 k l1 (!t182))) else (spec_BackPlan.j0 k l1 true)))=some (r1,r2):=h
 clear h;have HC3:=am' H
 clear H;go_enter Try.func22,Try.ntmps22
 go_upto_region 1 with (first|((with_reducible refine gate_dst (N:=2) rfl ?_);refine box_event ?hg (N:=2) ?hd (cs:=#[.slice A0_0 l0_0.length c0_0, .int .i64 a0_1]) (t:=52) ?hr ?_;(case hd=>rfl);(case hg=>rfl);(case hr=>first|(go_simp;done)|(go_simp;rfl));intro gb180 hg w4 hbox hb;have n0_:=am' (below_step (by repeat (first|(with_reducible first|exact HB.out|apply ba'|apply bd'|apply be')|exact HB.out)) hb);have n1_:=am' (hbox);have n2_:=am' ((by rw[hg];exact (below_size (by repeat (first|(with_reducible first|exact HB.out|apply ba'|apply bd'|apply be')|exact HB.out))):w.heap.size≤gb180));have n3_:=am' ((by rw[hg];exact (below_size (by repeat (first|(with_reducible first|exact HB.out|apply ba'|apply bd'|apply be')|exact HB.out))):w.heap.size≤gb180));clear HB;have HB:=n0_;have BK180:=n1_;have GW180:=n2_;have GE180:=n3_;clear n0_ n1_ n2_ n3_;clear hb hbox hg))
 (try simp only[Act.put,sa',sb',sc'])
 go_cut [16] (fun v16 wc=>∃ (kq:Nat) (x16_2:Bool),v16 = .bool x16_2∧Aside0 (spec_BackPlan.j0 kq l1 x16_2=some (r1,r2))∧Aside0 (kq≤k)∧Aside0 (wc.heap[gb180]? = some (.cells #[(.slice A0_0 l0_0.length c0_0), .int .i64 a0_1] 52 (0,0)))∧Aside0 (Below w.heap.size w wc))
 case first =>
  have H:=HC3.out;clear HC3;replace H:=Option.bind_eq_some_iff.mp H;obtain ⟨t181,A50,H⟩:=H;replace H:(if t181=true then ((spec_paPlan.f k l0_0 a0_1 l1).bind fun t182=>(spec_BackPlan.j0 k l1 (!t182))) else (spec_BackPlan.j0 k l1 true))=some (r1,r2):=H;have A5:=am' A50;clear A50;by_cases c6:t181=true
  ·
   subst c6;have H1:((spec_paPlan.f k l0_0 a0_1 l1).bind fun t182=>(spec_BackPlan.j0 k l1 (!t182)))=some (r1,r2):=by rw[if_pos rfl] at H;exact H
   clear H;have H:=H1;clear H1;replace H:=Option.bind_eq_some_iff.mp H;obtain ⟨t182,A70,H⟩:=H;replace H:(spec_BackPlan.j0 k l1 (!t182))=some (r1,r2):=H;have A7:=am' A70;clear A70;have H':=am' H;clear H;have hcz8_0:w4.cell? ⟨gb180,0,none⟩=some (.slice A0_0 l0_0.length c0_0):=(blk_cell BK180.out 0).trans rfl;have hcz8_1:w4.cell? ⟨gb180,1,none⟩=some (.int .i64 a0_1):=(blk_cell BK180.out 1).trans rfl;have hfz8_0:=blk_frozen BK180.out 0;have hfz8_1:=blk_frozen BK180.out 1;go_wp2_with (first|((with_reducible refine gate_callee (f:=44) rfl ?_);refine goesL_ (some 9) rfl rfl Try.func44 (by kernel_rfl) rfl #[.agg #[.slice A0_0 l0_0.length c0_0, .int .i64 a0_1]] rfl (by (try simp only[List.map_toArray,List.map_cons,List.map_nil]);first|done|rfl|(simp only[List.length_drop,List.length_take];rfl)) ?_;(with_reducible refine (spec_paGood.calls k _ _ l0_0 a0_1 true _ ?side1 ?side2 A5.out).mono ?_);(case side1=>repeat (first|exact (Kd.C_below HR0_0.out HB.out)|(with_reducible refine ca' ?_ _)|(with_reducible refine cn' ?_ _)|(with_reducible refine cd' ?_)));(case side2=>exact HC0_0.out);rintro e w9 ⟨rfl,hb⟩;refine ⟨_,rfl,?_⟩;have n0_:=am' (blk_below (g:=gb180) (o := .cells #[.slice A0_0 l0_0.length c0_0, .int .i64 a0_1] 52 (0,0)) (by (with_reducible repeat (first|refine kn' ?_ _|refine kd' ?_|refine ka' ?_ _));exact BK180.out) hb);have n1_:=am' (below_step (by repeat (first|(with_reducible first|exact HB.out|apply ba'|apply bd'|apply be'|refine bs' ?_ GE180.out)|exact HB.out)) hb);clear BK180;clear HB;have BK180:=n0_;have HB:=n1_;clear n0_ n1_;(try clear hb);(try clear hb2);(try clear hk);(try clear hi);have hcz10_0:w9.cell? ⟨gb180,0,none⟩=some (.slice A0_0 l0_0.length c0_0):=(blk_cell BK180.out 0).trans rfl;have hcz10_1:w9.cell? ⟨gb180,1,none⟩=some (.int .i64 a0_1):=(blk_cell BK180.out 1).trans rfl;have hfz10_0:=blk_frozen BK180.out 0;have hfz10_1:=blk_frozen BK180.out 1)|(go_at_call 45;(with_reducible refine (spec_paPlan.calls k _ _ l0_0 a0_1 _ _ l1 t182 _ ?side1 ?side2 ?side3 ?side4 A7.out).mono ?_);(case side1=>repeat (first|exact (Kd.C_below HR0_0.out HB.out)|(with_reducible refine ca' ?_ _)|(with_reducible refine cn' ?_ _)|(with_reducible refine cd' ?_)));(case side2=>exact HC0_0.out);(case side3=>repeat (first|exact (Kd.C_below HR1.out HB.out)|(with_reducible refine ca' ?_ _)|(with_reducible refine cn' ?_ _)|(with_reducible refine cd' ?_)));(case side4=>exact HC1.out);rintro e w11 ⟨rfl,hb⟩;have n0_:=am' (blk_below (g:=gb180) (o := .cells #[.slice A0_0 l0_0.length c0_0, .int .i64 a0_1] 52 (0,0)) (by (with_reducible repeat (first|refine kn' ?_ _|refine kd' ?_|refine ka' ?_ _));exact BK180.out) hb);have n1_:=am' (below_step (by repeat (first|(with_reducible first|exact HB.out|apply ba'|apply bd'|apply be'|refine bs' ?_ GE180.out)|exact HB.out)) hb);clear BK180;clear HB;have BK180:=n0_;have HB:=n1_;clear n0_ n1_;(try clear hb);(try clear hb2);(try clear hk);(try clear hi)))
   go_meet
   case rel=>exact ⟨_,(!t182),(by first|rfl|(simp;done)|(simp[*];done)),H',⟨by first|omega|exact Nat.le_refl _⟩,⟨by (with_reducible repeat (first|refine kn' ?_ _|refine kd' ?_|refine ka' ?_ _));exact BK180.out⟩,⟨by repeat (first|(with_reducible first|exact HB.out|apply ba'|apply bd'|apply be'|refine bs' ?_ GE180.out)|exact HB.out)⟩⟩
  ·
   replace c6:=Bool.eq_false_iff.mpr c6;subst c6;have H1:(spec_BackPlan.j0 k l1 true)=some (r1,r2):=by rw[if_neg (show ¬ (false=true) by decide)] at H;exact H
   clear H;have H:=H1;clear H1;have H':=am' H;clear H;have hcz12_0:w4.cell? ⟨gb180,0,none⟩=some (.slice A0_0 l0_0.length c0_0):=(blk_cell BK180.out 0).trans rfl;have hcz12_1:w4.cell? ⟨gb180,1,none⟩=some (.int .i64 a0_1):=(blk_cell BK180.out 1).trans rfl;have hfz12_0:=blk_frozen BK180.out 0;have hfz12_1:=blk_frozen BK180.out 1;go_wp2_with (first|((with_reducible refine gate_callee (f:=44) rfl ?_);refine goesL_ (some 9) rfl rfl Try.func44 (by kernel_rfl) rfl #[.agg #[.slice A0_0 l0_0.length c0_0, .int .i64 a0_1]] rfl (by (try simp only[List.map_toArray,List.map_cons,List.map_nil]);first|done|rfl|(simp only[List.length_drop,List.length_take];rfl)) ?_;(with_reducible refine (spec_paGood.calls k _ _ l0_0 a0_1 false _ ?side1 ?side2 A5.out).mono ?_);(case side1=>repeat (first|exact (Kd.C_below HR0_0.out HB.out)|(with_reducible refine ca' ?_ _)|(with_reducible refine cn' ?_ _)|(with_reducible refine cd' ?_)));(case side2=>exact HC0_0.out);rintro e w13 ⟨rfl,hb⟩;refine ⟨_,rfl,?_⟩;have n0_:=am' (blk_below (g:=gb180) (o := .cells #[.slice A0_0 l0_0.length c0_0, .int .i64 a0_1] 52 (0,0)) (by (with_reducible repeat (first|refine kn' ?_ _|refine kd' ?_|refine ka' ?_ _));exact BK180.out) hb);have n1_:=am' (below_step (by repeat (first|(with_reducible first|exact HB.out|apply ba'|apply bd'|apply be'|refine bs' ?_ GE180.out)|exact HB.out)) hb);clear BK180;clear HB;have BK180:=n0_;have HB:=n1_;clear n0_ n1_;(try clear hb);(try clear hb2);(try clear hk);(try clear hi)));go_meet
   case rel=>exact ⟨_,(true),(by first|rfl|(simp;done)|(simp[*];done)),H',⟨by first|omega|exact Nat.le_refl _⟩,⟨by (with_reducible repeat (first|refine kn' ?_ _|refine kd' ?_|refine ka' ?_ _));exact BK180.out⟩,⟨by repeat (first|(with_reducible first|exact HB.out|apply ba'|apply bd'|apply be'|refine bs' ?_ GE180.out)|exact HB.out)⟩⟩
 case rest =>
  clear HC3;try clear c1
  try clear c2
  try clear p2
  try clear c4
  try clear c6
  try clear hcz10_0
  try clear hcz10_1
  try clear hcz12_0
  try clear hcz12_1
  try clear hcz8_0
  try clear hcz8_1
  try clear hfz10_0
  try clear hfz10_1
  try clear hfz12_0
  try clear hfz12_1
  try clear hfz8_0
  try clear hfz8_1
  obtain ⟨kq,x16_2,rfl,HA,HJ2,BK180,HB⟩:=hcut;cases kq with
  | zero=>exact absurd HA.out (by simp[spec_BackPlan.j0])
  | succ kj2 =>
   have H:=HA.out;clear HA;simp only[spec_BackPlan.j0] at H;by_cases c14:x16_2=true
   ·
    subst c14;have H1:(some (([]:List (List Int)),false))=some (r1,r2):=by rw[if_pos rfl] at H;exact H
    clear H;have H:=H1;clear H1;simp only[Option.some.injEq,Prod.mk.injEq] at H;obtain ⟨rfl,rfl⟩:=H;go_wp2;go_ret2
    exact ⟨_,by first|rfl|(simp[errW_none,errW_some] <;> rfl)|(simp[*,errW_none,errW_some] <;> rfl),by first|exact Kd.S_nil _ _ _ _ _|exact Kd.N_nil _ _ _ _ _|exact Kd.V_nil _ _ _ _ _|exact Kd.Q_nil _ _ _ _ _|exact Kd.R_nil _ _ _ _ _,by repeat (first|(with_reducible first|exact HB.out|apply ba'|apply bd'|apply be'|refine bs' ?_ GE180.out)|exact HB.out)⟩
   ·
    replace c14:=Bool.eq_false_iff.mpr c14;subst c14;have H1:(spec_BackPlan.l0 kj2 l1 ([]:List (List Int)) (wrap64 ((l1.length:Int) - 1)))=some (r1,r2):=by rw[if_neg (show ¬ (false=true) by decide)] at H;exact H
    clear H;have H:=H1;clear H1;have H':=am' H;clear H;go_wp2;go_loopg [6,7] kj2 (fun kq v6 v7 w'=>∃ (x6_2:List (List Int)) (x7_2:Int),v7 = .int .i64 x7_2∧Aside0 (spec_BackPlan.l0 kq l1 x6_2 x7_2=some (r1,r2))∧Aside0 (kq≤kj2)∧Aside0 (Kd.S (Kd.slice 3 (Kd.int .i64)) 22 w' w.heap.size (fun _=>True) v6 x6_2)∧Aside0 (w'.heap[gb180]? = some (.cells #[(.slice A0_0 l0_0.length c0_0), .int .i64 a0_1] 52 (0,0)))∧Aside0 (Below w.heap.size w w'))
    case atStart=>exact ⟨(([]:List (List Int))),(wrap64 ((l1.length:Int) - 1)),(by first|rfl|(simp;done)|(simp[*];done)),H',⟨Nat.le_refl _⟩,⟨by first|exact Kd.S_nil _ _ _ _ _|exact Kd.N_nil _ _ _ _ _|exact Kd.V_nil _ _ _ _ _|exact Kd.Q_nil _ _ _ _ _|exact Kd.R_nil _ _ _ _ _⟩,⟨by (with_reducible repeat (first|refine kn' ?_ _|refine kd' ?_|refine ka' ?_ _));exact BK180.out⟩,⟨by repeat (first|(with_reducible first|exact HB.out|apply ba'|apply bd'|apply be'|refine bs' ?_ GE180.out)|exact HB.out)⟩⟩
    case round =>
     clear H';try clear c1
     try clear c2
     try clear p2
     try clear c4
     try clear c6
     try clear p6
     try clear c14
     try clear hcz10_0
     try clear hcz10_1
     try clear hcz12_0
     try clear hcz12_1
     try clear hcz8_0
     try clear hcz8_1
     try clear hfz10_0
     try clear hfz10_1
     try clear hfz12_0
     try clear hfz12_1
     try clear hfz8_0
     try clear hfz8_1
     try clear p2
     obtain ⟨x6_2,x7_2,rfl,HA,HK2,HO_6,BK180,HB⟩:=hrel;cases gk with
     | zero=>exact absurd HA.out (by simp[spec_BackPlan.l0])
     | succ k2 =>
      have H:=HA.out;clear HA;simp only[spec_BackPlan.l0] at H;by_cases c15:x7_2 ≥ 0
      ·
       rw[if_pos c15] at H;have c15b0:decide (0≤x7_2)=true:=decide_eq_true c15;clear c15;by_cases c16:0≤x7_2
       ·
        rw[if_pos c16] at H;have c16b0:decide (0≤x7_2)=true:=decide_eq_true c16;clear c16;by_cases c17:x7_2 < (l1.length:Int)
        ·
         rw[if_pos c17] at H;have c17b0:decide (x7_2 < (l1.length:Int))=true:=decide_eq_true c17;clear c17;replace H:=Option.bind_eq_some_iff.mp H;obtain ⟨t184,A180,H⟩:=H;replace H:(if x6_2.length < 5864062014805 then (spec_BackPlan.l0 k2 l1 (x6_2 ++ [t184]) (wrap64 (x7_2 - 1))) else (none))=some (r1,r2):=H;have A18:=am' A180;clear A180;by_cases c19:x6_2.length < 5864062014805
         ·
          rw[if_pos c19] at H;have LMc19:=am' c19;clear c19;obtain ⟨y187,hy187⟩:∃ y_:List (List Int),y_=(x6_2 ++ [t184]):=⟨_,rfl⟩
          replace H:(spec_BackPlan.l0 k2 l1 y187 (wrap64 (x7_2 - 1)))=some (r1,r2):=by first|(rw[hy187];with_reducible exact H)|(have H2_:=(Option.bind_some _ _).symm.trans H;rw[hy187];with_reducible exact H2_)|(have H2_:=(Option.bind_some _ _).symm.trans H;with_reducible exact H2_)|with_reducible exact H|(rw[hy187];exact H)|exact H
          have Ny187:=am' hy187;clear hy187;have H':=am' H;clear H;have p183:0≤(x7_2:Int):=of_decide_eq_true (by first|(with_reducible assumption)|assumption);have q183:x7_2 < (l1.length:Int):=of_decide_eq_true (by first|(with_reducible assumption)|assumption);obtain ⟨ad183,A183_0,c183_0,e183,hx183_0,hl183_0,hi183_0⟩:=at_L1 HR1.out x7_2 p183 q183;cases e183;replace hx183_0:=(HB.out.cell (bl' w _ hx183_0)).trans hx183_0;have HR183_0:=am' hi183_0;have HC183_0:=am' hl183_0;clear hi183_0 hl183_0;replace p183:=eq_true p183;replace q183:=eq_true q183;go_wp2_with (first|((with_reducible refine gate_callee (f:=46) rfl ?_);refine goesL_ (some 29) rfl rfl Try.func46 (by kernel_rfl) rfl #[.slice A183_0 (rd_L1 l1 x7_2).length c183_0] rfl (by (try simp only[List.map_toArray,List.map_cons,List.map_nil]);first|done|rfl|(simp only[List.length_drop,List.length_take];rfl)) ?_;(with_reducible refine (spec_l1Own.calls _ _ (rd_L1 l1 x7_2) t184 _ ?side1 ?side2 A18.out).mono ?_);(case side1=>repeat (first|exact (Kd.C_below HR183_0.out HB.out)|(with_reducible refine ca' ?_ _)|(with_reducible refine cn' ?_ _)|(with_reducible refine cd' ?_)));(case side2=>exact HC183_0.out);rintro e w20 ⟨v185,rfl,ho0,hb⟩;refine ⟨_,rfl,?_⟩;have n0_:=am' (Kd.S_elder' (by (with_reducible repeat (first|apply Kd.S_alloc|apply Kd.S_drewN|apply Kd.S_drew));exact HO_6.out) (Kd.R_base ho0) hb);have n1_:=am' (Kd.R_lower ho0 (below_size (by repeat (first|(with_reducible first|exact HB.out|apply ba'|apply bd'|apply be'|refine bs' ?_ GE180.out)|exact HB.out))));have n2_:=am' (blk_below (g:=gb180) (o := .cells #[.slice A0_0 l0_0.length c0_0, .int .i64 a0_1] 52 (0,0)) (by (with_reducible repeat (first|refine kn' ?_ _|refine kd' ?_|refine ka' ?_ _));exact BK180.out) hb);have n3_:=am' (below_step (by repeat (first|(with_reducible first|exact HB.out|apply ba'|apply bd'|apply be'|refine bs' ?_ GE180.out)|exact HB.out)) hb);clear HO_6;clear BK180;clear HB;have HO_6:=n0_;have HO186:=n1_;have BK180:=n2_;have HB:=n3_;clear n0_ n1_ n2_ n3_;(try clear hb);(try clear hb2);(try clear hk);(try clear hi);(try clear ho0);obtain ⟨Ao22,co22,eo22⟩:=Kd.R_slice HO186.out;subst eo22)|((with_reducible refine gate_builtin (b := .append) (xs:=#[.tmp 24, .tmp 30]) rfl ?_);at_builtin;refine Kd.S_append (Kd.slice 3 (Kd.int .i64)) (w0:=w) w.heap.size rfl (.tmp 24) (.tmp 30) 47 22 (.slice none 0 0) 24 rfl Try.underlying47 info22 rfl (by decide) (by omega) u6 x6_2 t184 [.slice Ao22 t184.length co22] (fun _=>True) (fun k_=>some k_=(.slice Ao22 t184.length co22:Value).ownBlock) rfl rfl ?aP (fun k_ hk_=>((Kd.R_mono (ok':=fun k_=>((fun _=>True)) k_∧some k_≠(u6:Value).ownBlock) (Kd.R_apart' (HO186.out) (Kd.S_typed HO_6.out) (by decide)) (fun k_ hk=>⟨trivial,hk.2⟩))).1 k_ hk_.symm) ?aF ?aO ?aB ?aS ?aL ?_;(case aP=>exact Kd.M_row (Kd.R_mono (Kd.R_tight rfl (Kd.R_mono (ok':=fun k_=>((fun _=>True)) k_∧some k_≠(u6:Value).ownBlock) (Kd.R_apart' (HO186.out) (Kd.S_typed HO_6.out) (by decide)) (fun k_ hk=>⟨trivial,hk.2⟩))) (fun _ h_=>h_)));(case aB=>exact (by repeat (first|(with_reducible first|exact HB.out|apply ba'|apply bd'|apply be'|refine bs' ?_ GE180.out)|exact HB.out)));(case aF=>exact (fun _ _=>trivial));(case aO=>exact (by (with_reducible repeat (first|apply Kd.S_alloc|apply Kd.S_drewN|apply Kd.S_drew));exact Kd.S_mono HO_6.out (fun k_ hk=>⟨trivial,fun e_=>hk.2 e_⟩)));(case aS=>exact (below_size (by repeat (first|(with_reducible first|exact HB.out|apply ba'|apply bd'|apply be'|refine bs' ?_ GE180.out)|exact HB.out))));(case aL=>have:=LMc19.out;omega);intro v188 w21 ho hb hg hat;rw[← Ny187.out] at ho;have n0_:=am' (blk_grown (g:=gb180) (o := .cells #[.slice A0_0 l0_0.length c0_0, .int .i64 a0_1] 52 (0,0)) (by (with_reducible repeat (first|refine kn' ?_ _|refine kd' ?_|refine ka' ?_ _));exact BK180.out) hg (Kd.S_ne HO_6.out BK180.out (by decide)));have n1_:=am' (hb);have n2_:=am' (ho);clear BK180;clear HB;clear HO_6;clear HO186;have BK180:=n0_;have HB:=n1_;have HO189:=n2_;clear n0_ n1_ n2_;clear ho hb hg hat))
          go_roundg k2
          case measure=>have:=HJ2.out;have:=HK2.out;omega
          case rel=>exact ⟨(y187),(wrap64 (x7_2 - 1)),(by first|rfl|(simp;done)|(simp[*];done)),H',⟨by have:=HJ2.out;have:=HK2.out;omega⟩,⟨by (with_reducible repeat (first|apply Kd.S_alloc|apply Kd.S_drewN|apply Kd.S_drew));exact HO189.out⟩,⟨by (with_reducible repeat (first|refine kn' ?_ _|refine kd' ?_|refine ka' ?_ _));exact BK180.out⟩,⟨by repeat (first|(with_reducible first|exact HB.out|apply ba'|apply bd'|apply be'|refine bs' ?_ GE180.out)|exact HB.out)⟩⟩
         ·
          rw[if_neg c19] at H;exact absurd H (by simp)
        ·
         rw[if_neg c17] at H;exact absurd H (by simp)
       ·
        rw[if_neg c16] at H;exact absurd H (by simp)
      ·
       rw[if_neg c15] at H;have c15b0:decide (0≤x7_2)=false:=decide_eq_false c15;clear c15;simp only[Option.some.injEq,Prod.mk.injEq] at H;obtain ⟨rfl,rfl⟩:=H;go_wp2;go_ret2
       exact ⟨_,by first|rfl|(simp[errW_none,errW_some] <;> rfl)|(simp[*,errW_none,errW_some] <;> rfl),by (with_reducible repeat (first|apply Kd.S_alloc|apply Kd.S_drewN|apply Kd.S_drew));exact HO_6.out,by repeat (first|(with_reducible first|exact HB.out|apply ba'|apply bd'|apply be'|refine bs' ?_ GE180.out)|exact HB.out)⟩
def laws_toIntS.l0:Nat→List Int→List Int→Int→Option (List Int)
 | 0,_,_,_=>none
 | k+1,x0,x3,x4=>if x4 < (x0.length:Int) then (if 0≤x4 then (if x4 < (x3.length:Int) then (laws_toIntS.l0 k x0 (x3.set (x4:Int).toNat (rd x0 x4)) (wrap64 (x4+1))) else (none)) else (none)) else (some x3)
def laws_toIntS.f (k:Nat) (l0:List Int):Option (List Int):=if 0≤(l0.length:Int) then (if ((l0.length:Int):Int).toNat≤35184372088832 then (laws_toIntS.l0 k l0 (List.replicate ((l0.length:Int):Int).toNat 0) 0) else (none)) else (none)
set_option maxHeartbeats 8000000 in
set_option maxRecDepth 100000 in
theorem laws_toIntS.calls (k:Nat) (A0:Option Addr) (c0:Nat) (l0:List Int) (r:List Int) (w:World) (hr0:Kd.C (Kd.int .i64) w A0 l0.length l0) (hc0:l0.length≤c0) (h:laws_toIntS.f k l0=some r) :
  Calls Try.prog 35 #[.slice A0 l0.length c0] w fun e w'=>∃ v0_:Value,e = .returned (v0_)∧Kd.R (Kd.int .i64) 3 w' w.heap.size (fun _=>True) v0_ r∧Below w.heap.size w w':=by
 have HR0:=am' hr0
 have HC0:=am' hc0
 clear hr0 hc0;have HB:=am' (Below.refl w.heap.size w)
 have H:(if 0≤(l0.length:Int) then (if ((l0.length:Int):Int).toNat≤35184372088832 then (laws_toIntS.l0 k l0 (List.replicate ((l0.length:Int):Int).toNat 0) 0) else (none)) else (none))=some r:=h
 clear h;by_cases c2:0≤(l0.length:Int)
 ·
  rw[if_pos c2] at H;have c2b0:=eq_true c2;have c2b1:decide (0≤(l0.length:Int))=true:=decide_eq_true c2;clear c2;by_cases c3:((l0.length:Int):Int).toNat≤35184372088832
  ·
   rw[if_pos c3] at H;have c3b0:=eq_true c3;have c3b1:decide (((l0.length:Int):Int).toNat≤35184372088832)=true:=decide_eq_true c3;clear c3;obtain ⟨y190,hy190⟩:∃ y_:List Int,y_=(List.replicate ((l0.length:Int):Int).toNat 0):=⟨_,rfl⟩
   replace H:(laws_toIntS.l0 k l0 y190 0)=some r:=by first|(rw[hy190];with_reducible exact H)|(have H2_:=(Option.bind_some _ _).symm.trans H;rw[hy190];with_reducible exact H2_)|(have H2_:=(Option.bind_some _ _).symm.trans H;with_reducible exact H2_)|with_reducible exact H|(rw[hy190];exact H)|exact H
   have Ny190:=am' hy190;clear hy190;have H':=am' H;clear H;go_enter Try.func35,Try.ntmps35;go_wp2_with (first|((with_reducible refine gate_dst (N:=7) rfl ?_);refine Kd.R_make (Kd.int .i64) _ 3 rfl (N:=7) rfl 22 _ _ rfl (l0.length:Int) rfl rfl Try.underlying22 (.int .i64 0) 8 info3 rfl (by decide) (by omega) 0 (ok:=fun _=>True) (okp:=fun _=>True) rfl (fun _ hk=>hk) trivial (of_decide_eq_true (by first|(with_reducible assumption)|assumption)) (Nat.le_trans (Nat.mul_le_mul_right _ (of_decide_eq_true (by first|(with_reducible assumption)|assumption):(l0.length:Int).toNat≤35184372088832)) (by omega)) (Below.refl _ _) (Nat.le_refl _) ?_;intro v191 w4 ho5 hb hg_ hnew_;clear hg_ hnew_;(first|rw[← Ny190.out] at ho5|(simp only[Int.reduceToNat] at ho5;rw[← Ny190.out] at ho5));have n0_:=am' (Kd.R_lower ho5 (below_size (by repeat (first|(with_reducible first|exact HB.out|apply ba'|apply bd'|apply be')|exact HB.out))));have n1_:=am' (below_step (by repeat (first|(with_reducible first|exact HB.out|apply ba'|apply bd'|apply be')|exact HB.out)) hb);clear HB;have HO192:=n0_;have HB:=n1_;clear n0_ n1_;clear hb ho5));go_loopg [4] k (fun kq v4 w'=>∃ (x3_1:List Int) (x4_1:Int),v4 = .int .i64 x4_1∧Aside0 (laws_toIntS.l0 kq l0 x3_1 x4_1=some r)∧Aside0 (kq≤k)∧Aside0 (Kd.R (Kd.int .i64) 3 w' w.heap.size (fun _=>True) v191 x3_1)∧Aside0 (Below w.heap.size w w'))
   case atStart=>exact ⟨(y190),(0),(by first|rfl|(simp;done)|(simp[*];done)),H',⟨Nat.le_refl _⟩,⟨by (with_reducible repeat (first|apply ra'|apply rn'|apply rw'));exact HO192.out⟩,⟨by repeat (first|(with_reducible first|exact HB.out|apply ba'|apply bd'|apply be')|exact HB.out)⟩⟩
   case round =>
    clear H';try clear c2
    try clear c2b0
    try clear c2b1
    try clear p2
    try clear c3
    try clear c3b0
    try clear c3b1
    obtain ⟨x3_1,x4_1,rfl,HA,HK1,HO_3,HB⟩:=hrel;cases gk with
    | zero=>exact absurd HA.out (by simp[laws_toIntS.l0])
    | succ k1 =>
     have H:=HA.out;clear HA;simp only[laws_toIntS.l0] at H;by_cases c6:x4_1 < (l0.length:Int)
     ·
      rw[if_pos c6] at H;have c6b0:decide (x4_1 < (l0.length:Int))=true:=decide_eq_true c6;clear c6;by_cases c7:0≤x4_1
      ·
       rw[if_pos c7] at H;have c7b0:decide (0≤x4_1)=true:=decide_eq_true c7;clear c7;by_cases c8:x4_1 < (x3_1.length:Int)
       ·
        rw[if_pos c8] at H;have c8b0:decide (x4_1 < (x3_1.length:Int))=true:=decide_eq_true c8;clear c8;obtain ⟨y194,hy194⟩:∃ y_:List Int,y_=(x3_1.set (x4_1:Int).toNat (rd l0 x4_1)):=⟨_,rfl⟩
        replace H:(laws_toIntS.l0 k1 l0 y194 (wrap64 (x4_1+1)))=some r:=by first|(rw[hy194];with_reducible exact H)|(have H2_:=(Option.bind_some _ _).symm.trans H;rw[hy194];with_reducible exact H2_)|(have H2_:=(Option.bind_some _ _).symm.trans H;with_reducible exact H2_)|with_reducible exact H|(rw[hy194];exact H)|exact H
        have Ny194:=am' hy194;clear hy194;have H':=am' H;clear H;have p193:0≤(x4_1:Int):=of_decide_eq_true (by first|(with_reducible assumption)|assumption);have q193:x4_1 < (l0.length:Int):=of_decide_eq_true (by first|(with_reducible assumption)|assumption);obtain ⟨ad193,e193,hx193_0⟩:=Kd.at_int HR0.out x4_1 p193 q193;cases e193;replace hx193_0:=(HB.out.cell (bl' w _ hx193_0)).trans hx193_0;replace p193:=eq_true p193;replace q193:=eq_true q193;have p9:0≤(x4_1:Int):=of_decide_eq_true (by first|(with_reducible assumption)|assumption);have q9:(x4_1:Int) < ((x3_1.length:Int):Int):=of_decide_eq_true (by first|(with_reducible assumption)|assumption);obtain ⟨go9,co9,eo9,gb9,gl9,cl9,HG9⟩:=Kd.R_form HO_3.out (by omega)
        (first|cases eo9|(injection eo9 with ea_ en_ ec_;(first|subst ea_|(injection ea_ with ea_;subst ea_));subst ec_;clear en_))
        have GB9:=am' gb9;have GG9:=am' HG9;clear gb9 gl9 HG9;obtain ⟨hx9_0,hf9_0⟩:=Kd.R_celln 0 HO_3.out (x4_1:Int) p9 q9;replace p9:=eq_true p9;replace q9:=eq_true q9;have HP10:=Kd.R_putg HO_3.out (x4_1:Int) (rd l0 x4_1);go_wp2_with (first|((with_reducible refine gate_store (t:=3) (p:=20) rfl ?_);refine store_event (t:=3) (p:=20) (v:=?vo_w11) (w1:=(wr.setCell ⟨go9,(x4_1:Int).toNat,none⟩ (.int .i64 (rd l0 x4_1)))) ?hg ?ho ?hn ?hr ?_;(case ho=>rfl);(case hg=>rfl);(case hn=>rfl);(case hr=>first|(go_simp;done)|(go_simp;rfl));intro w11 hw;have hg:wr.grownBy w11 (some go9):=(by rw[hw];exact HP10.2);have hp_:Kd.R (Kd.int .i64) 3 w11 w.heap.size (fun _=>True) (.slice (some ⟨go9,0,none⟩) x3_1.length co9) y194:=(by rw[hw,Ny194.out];exact HP10.1);clear HP10;have n0_:=am' (hp_);have n1_:=am' ((by rw[hw];exact bs' (HB.out) GB9.out:Below w.heap.size w w11));clear HO_3;clear HB;have HO_3:=n0_;have HB:=n1_;clear n0_ n1_;clear hg hw hp_));go_roundg k1
        case measure=>have:=HK1.out;omega
        case rel=>exact ⟨(y194),(wrap64 (x4_1+1)),(by first|rfl|(simp;done)|(simp[*];done)),H',⟨by have:=HK1.out;omega⟩,⟨by (with_reducible repeat (first|apply ra'|apply rn'|apply rw'));exact HO_3.out⟩,⟨by repeat (first|(with_reducible first|exact HB.out|apply ba'|apply bd'|apply be')|exact HB.out)⟩⟩
       ·
        rw[if_neg c8] at H;exact absurd H (by simp)
      ·
       rw[if_neg c7] at H;exact absurd H (by simp)
     ·
      rw[if_neg c6] at H;have c6b0:decide (x4_1 < (l0.length:Int))=false:=decide_eq_false c6;clear c6;obtain rfl:=Option.some.inj H;go_wp2;go_ret
      exact ⟨_,by first|rfl|(simp[errW_none,errW_some] <;> rfl)|(simp[*,errW_none,errW_some] <;> rfl),by (with_reducible repeat (first|apply ra'|apply rn'|apply rw'));exact HO_3.out,by repeat (first|(with_reducible first|exact HB.out|apply ba'|apply bd'|apply be')|exact HB.out)⟩
  ·
   rw[if_neg c3] at H;exact absurd H (by simp)
 ·
  rw[if_neg c2] at H;exact absurd H (by simp)
def laws_toParty.f (k:Nat) (l0_0:List Int) (a0_1:Int):Option (List Int × Int):=(laws_toIntS.f k l0_0).bind fun t198=>(some (t198,a0_1))
set_option maxHeartbeats 8000000 in
set_option maxRecDepth 100000 in
theorem laws_toParty.calls (k:Nat) (A0_0:Option Addr) (c0_0:Nat) (l0_0:List Int) (a0_1:Int) (r1:List Int) (r2:Int) (w:World) (hr0_0:Kd.C (Kd.int .i64) w A0_0 l0_0.length l0_0) (hc0_0:l0_0.length≤c0_0) (h:laws_toParty.f k l0_0 a0_1=some (r1,r2)) :
  Calls Try.prog 23 #[.agg #[.slice A0_0 l0_0.length c0_0, .int .i64 a0_1]] w fun e w'=>∃ v0_:Value,e = .returned (.agg #[v0_, .int .i64 r2])∧Kd.R (Kd.int .i64) 3 w' w.heap.size (fun _=>True) v0_ r1∧Below w.heap.size w w':=by
 have hu46:=Try.underlying46
 have hu52:=Try.underlying52
 have HR0_0:=am' hr0_0
 have HC0_0:=am' hc0_0
 clear hr0_0 hc0_0;have HB:=am' (Below.refl w.heap.size w)
 have H:((laws_toIntS.f k l0_0).bind fun t198=>(some (t198,a0_1)))=some (r1,r2):=h
 clear h;replace H:=Option.bind_eq_some_iff.mp H
 obtain ⟨t198,A20,H⟩:=H
 replace H:(some (t198,a0_1))=some (r1,r2):=H
 have A2:=am' A20
 clear A20;simp only[Option.some.injEq,Prod.mk.injEq] at H
 obtain ⟨rfl,rfl⟩:=H
 go_enter Try.func23,Try.ntmps23
 go_wp2_with (first|((with_reducible refine gate_dst (N:=1) rfl ?_);refine box_event ?hg (N:=1) ?hd (cs:=#[.slice A0_0 l0_0.length c0_0, .int .i64 a0_1]) (t:=46) ?hr ?_;(case hd=>rfl);(case hg=>rfl);(case hr=>first|(go_simp;done)|(go_simp;rfl));intro gb195 hg w3 hbox hb;have n0_:=am' (below_step (by repeat (first|(with_reducible first|exact HB.out|apply ba'|apply bd'|apply be')|exact HB.out)) hb);have n1_:=am' (hbox);have n2_:=am' ((by rw[hg];exact (below_size (by repeat (first|(with_reducible first|exact HB.out|apply ba'|apply bd'|apply be')|exact HB.out))):w.heap.size≤gb195));have n3_:=am' ((by rw[hg];exact (below_size (by repeat (first|(with_reducible first|exact HB.out|apply ba'|apply bd'|apply be')|exact HB.out))):w.heap.size≤gb195));clear HB;have HB:=n0_;have BK195:=n1_;have GW195:=n2_;have GE195:=n3_;clear n0_ n1_ n2_ n3_;clear hb hbox hg)|((with_reducible refine gate_dst (N:=2) rfl ?_);refine box_event ?hg (N:=2) ?hd (cs:=#[.slice none 0 0, .int .i64 0]) (t:=52) ?hr ?_;(case hd=>rfl);(case hg=>rfl);(case hr=>first|(go_simp;done)|(go_simp;rfl));intro gb196 hg w4 hbox hb;have n0_:=am' (blk_below (g:=gb195) (o := .cells #[.slice A0_0 l0_0.length c0_0, .int .i64 a0_1] 46 (0,0)) (by (with_reducible repeat (first|refine kn' ?_ _|refine kd' ?_|refine ka' ?_ _));exact BK195.out) hb);have n1_:=am' (below_step (by repeat (first|(with_reducible first|exact HB.out|apply ba'|apply bd'|apply be'|refine bs' ?_ GE195.out)|exact HB.out)) hb);have n2_:=am' (hbox);have n3_:=am' ((by rw[hg];exact (below_size (by repeat (first|(with_reducible first|exact HB.out|apply ba'|apply bd'|apply be'|refine bs' ?_ GE195.out)|exact HB.out))):w.heap.size≤gb196));have n4_:=am' ((by rw[hg];exact (below_size (by repeat (first|(with_reducible first|exact HB.out|apply ba'|apply bd'|apply be'|refine bs' ?_ GE195.out)|exact HB.out))):w.heap.size≤gb196));have n5_:=am' ((by rw[hg];exact Nat.ne_of_lt (blk_lt (g:=gb195) (o := .cells #[.slice A0_0 l0_0.length c0_0, .int .i64 a0_1] 46 (0,0)) (by (with_reducible repeat (first|refine kn' ?_ _|refine kd' ?_|refine ka' ?_ _));exact BK195.out)):gb195≠gb196));have n6_:=am' ((by rw[hg];exact Nat.ne_of_gt (blk_lt (g:=gb195) (o := .cells #[.slice A0_0 l0_0.length c0_0, .int .i64 a0_1] 46 (0,0)) (by (with_reducible repeat (first|refine kn' ?_ _|refine kd' ?_|refine ka' ?_ _));exact BK195.out)):gb196≠gb195));clear BK195;clear HB;have BK195:=n0_;have HB:=n1_;have BK196:=n2_;have GW196:=n3_;have GE196:=n4_;have NB195_196:=n5_;have NB196_195:=n6_;clear n0_ n1_ n2_ n3_ n4_ n5_ n6_;clear hb hbox hg)|((with_reducible refine gate_dst (N:=3) rfl ?_);refine box_event ?hg (N:=3) ?hd (cs:=#[.slice none 0 0, .int .i64 0]) (t:=52) ?hr ?_;(case hd=>rfl);(case hg=>rfl);(case hr=>first|(go_simp;done)|(go_simp;rfl));intro gb197 hg w5 hbox hb;have n0_:=am' (blk_below (g:=gb195) (o := .cells #[.slice A0_0 l0_0.length c0_0, .int .i64 a0_1] 46 (0,0)) (by (with_reducible repeat (first|refine kn' ?_ _|refine kd' ?_|refine ka' ?_ _));exact BK195.out) hb);have n1_:=am' (blk_below (g:=gb196) (o := .cells #[.slice none 0 0, .int .i64 0] 52 (0,0)) (by (with_reducible repeat (first|refine kn' ?_ _|refine kd' ?_|refine ka' ?_ _));exact BK196.out) hb);have n2_:=am' (below_step (by repeat (first|(with_reducible first|exact HB.out|apply ba'|apply bd'|apply be'|refine bs' ?_ GE195.out|refine bs' ?_ GE196.out)|exact HB.out)) hb);have n3_:=am' (hbox);have n4_:=am' ((by rw[hg];exact (below_size (by repeat (first|(with_reducible first|exact HB.out|apply ba'|apply bd'|apply be'|refine bs' ?_ GE195.out|refine bs' ?_ GE196.out)|exact HB.out))):w.heap.size≤gb197));have n5_:=am' ((by rw[hg];exact (below_size (by repeat (first|(with_reducible first|exact HB.out|apply ba'|apply bd'|apply be'|refine bs' ?_ GE195.out|refine bs' ?_ GE196.out)|exact HB.out))):w.heap.size≤gb197));have n6_:=am' ((by rw[hg];exact Nat.ne_of_lt (blk_lt (g:=gb195) (o := .cells #[.slice A0_0 l0_0.length c0_0, .int .i64 a0_1] 46 (0,0)) (by (with_reducible repeat (first|refine kn' ?_ _|refine kd' ?_|refine ka' ?_ _));exact BK195.out)):gb195≠gb197));have n7_:=am' ((by rw[hg];exact Nat.ne_of_gt (blk_lt (g:=gb195) (o := .cells #[.slice A0_0 l0_0.length c0_0, .int .i64 a0_1] 46 (0,0)) (by (with_reducible repeat (first|refine kn' ?_ _|refine kd' ?_|refine ka' ?_ _));exact BK195.out)):gb197≠gb195));have n8_:=am' ((by rw[hg];exact Nat.ne_of_lt (blk_lt (g:=gb196) (o := .cells #[.slice none 0 0, .int .i64 0] 52 (0,0)) (by (with_reducible repeat (first|refine kn' ?_ _|refine kd' ?_|refine ka' ?_ _));exact BK196.out)):gb196≠gb197));have n9_:=am' ((by rw[hg];exact Nat.ne_of_gt (blk_lt (g:=gb196) (o := .cells #[.slice none 0 0, .int .i64 0] 52 (0,0)) (by (with_reducible repeat (first|refine kn' ?_ _|refine kd' ?_|refine ka' ?_ _));exact BK196.out)):gb197≠gb196));clear BK195;clear BK196;clear HB;have BK195:=n0_;have BK196:=n1_;have HB:=n2_;have BK197:=n3_;have GW197:=n4_;have GE197:=n5_;have NB195_197:=n6_;have NB197_195:=n7_;have NB196_197:=n8_;have NB197_196:=n9_;clear n0_ n1_ n2_ n3_ n4_ n5_ n6_ n7_ n8_ n9_;clear hb hbox hg;have hnb6:=NB195_196.out;have hnc6:=NB196_195.out;have hnb7:=NB195_197.out;have hnc7:=NB197_195.out;have hcz8_0:w5.cell? ⟨gb195,0,none⟩=some (.slice A0_0 l0_0.length c0_0):=(blk_cell BK195.out 0).trans rfl;have hcz8_1:w5.cell? ⟨gb195,1,none⟩=some (.int .i64 a0_1):=(blk_cell BK195.out 1).trans rfl;have hfz8_0:=blk_frozen BK195.out 0;have hfz8_1:=blk_frozen BK195.out 1)|((with_reducible refine gate_callee (f:=35) rfl ?_);refine goesL_ (some 6) rfl rfl Try.func35 (by kernel_rfl) rfl #[.slice A0_0 l0_0.length c0_0] rfl (by (try simp only[List.map_toArray,List.map_cons,List.map_nil]);first|done|rfl|(simp only[List.length_drop,List.length_take];rfl)) ?_;(with_reducible refine (laws_toIntS.calls k _ _ l0_0 t198 _ ?side1 ?side2 A2.out).mono ?_);(case side1=>repeat (first|exact (Kd.C_below HR0_0.out HB.out)|(with_reducible refine ca' ?_ _)|(with_reducible refine cn' ?_ _)|(with_reducible refine cd' ?_)));(case side2=>exact HC0_0.out);rintro e w9 ⟨v199,rfl,ho0,hb⟩;refine ⟨_,rfl,?_⟩;have n0_:=am' (Kd.R_lower ho0 (below_size (by repeat (first|(with_reducible first|exact HB.out|apply ba'|apply bd'|apply be'|refine bs' ?_ GE195.out|refine bs' ?_ GE196.out|refine bs' ?_ GE197.out)|exact HB.out))));have n1_:=am' (blk_below (g:=gb195) (o := .cells #[.slice A0_0 l0_0.length c0_0, .int .i64 a0_1] 46 (0,0)) (by (with_reducible repeat (first|refine kn' ?_ _|refine kd' ?_|refine ka' ?_ _));exact BK195.out) hb);have n2_:=am' (blk_below (g:=gb196) (o := .cells #[.slice none 0 0, .int .i64 0] 52 (0,0)) (by (with_reducible repeat (first|refine kn' ?_ _|refine kd' ?_|refine ka' ?_ _));exact BK196.out) hb);have n3_:=am' (blk_below (g:=gb197) (o := .cells #[.slice none 0 0, .int .i64 0] 52 (0,0)) (by (with_reducible repeat (first|refine kn' ?_ _|refine kd' ?_|refine ka' ?_ _));exact BK197.out) hb);have n4_:=am' (below_step (by repeat (first|(with_reducible first|exact HB.out|apply ba'|apply bd'|apply be'|refine bs' ?_ GE195.out|refine bs' ?_ GE196.out|refine bs' ?_ GE197.out)|exact HB.out)) hb);clear BK195;clear BK196;clear BK197;clear HB;have HO200:=n0_;have BK195:=n1_;have BK196:=n2_;have BK197:=n3_;have HB:=n4_;clear n0_ n1_ n2_ n3_ n4_;(try clear hb);(try clear hb2);(try clear hk);(try clear hi);(try clear ho0);obtain ⟨Ao10,co10,eo10⟩:=Kd.R_slice HO200.out;subst eo10;have hnb11:=NB197_196.out;have hnc11:=NB196_197.out;have hcz12_0:w9.cell? ⟨gb197,0,none⟩=some (.slice none 0 0):=(blk_cell BK197.out 0).trans rfl;have hcz12_1:w9.cell? ⟨gb197,1,none⟩=some (.int .i64 0):=(blk_cell BK197.out 1).trans rfl;have hfz12_0:=blk_frozen BK197.out 0;have hfz12_1:=blk_frozen BK197.out 1;have hcz13_0:w9.cell? ⟨gb195,0,none⟩=some (.slice A0_0 l0_0.length c0_0):=(blk_cell BK195.out 0).trans rfl;have hcz13_1:w9.cell? ⟨gb195,1,none⟩=some (.int .i64 a0_1):=(blk_cell BK195.out 1).trans rfl;have hfz13_0:=blk_frozen BK195.out 0;have hfz13_1:=blk_frozen BK195.out 1;have hcz14_0:w9.cell? ⟨gb196,0,none⟩=some (.slice none 0 0):=(blk_cell BK196.out 0).trans rfl;have hcz14_1:w9.cell? ⟨gb196,1,none⟩=some (.int .i64 0):=(blk_cell BK196.out 1).trans rfl;have hfz14_0:=blk_frozen BK196.out 0;have hfz14_1:=blk_frozen BK196.out 1))
 refine bodyPost_ret (results_cell_row rfl _ _ gb196 52 #[.slice Ao10 t198.length co10, .int .i64 a0_1] (0,0) _ rfl (by (with_reducible repeat (first|refine kn' ?_ _|refine kd' ?_|refine ka' ?_ _));refine blk_put (cs:=#[.slice Ao10 t198.length co10, .int .i64 0]) ?_ 1 _ rfl;(with_reducible repeat (first|refine kn' ?_ _|refine kd' ?_|refine ka' ?_ _));refine blk_put (cs:=#[.slice none 0 0, .int .i64 0]) ?_ 0 _ rfl;(with_reducible repeat (first|refine kn' ?_ _|refine kd' ?_|refine ka' ?_ _));refine blk_far ?_ NB196_197.out _;(with_reducible repeat (first|refine kn' ?_ _|refine kd' ?_|refine ka' ?_ _));refine blk_far ?_ NB196_197.out _;(with_reducible repeat (first|refine kn' ?_ _|refine kd' ?_|refine ka' ?_ _));exact BK196.out) Try.underlying52 rfl (by kernel_rfl)) rfl ?_
 exact ⟨_,by first|rfl|(simp[errW_none,errW_some] <;> rfl)|(simp[*,errW_none,errW_some] <;> rfl),by (with_reducible repeat (first|apply ra'|apply rn'|apply rw'));exact Kd.R_mono (Kd.R_far (p:=⟨gb196,1,none⟩) (Kd.R_far (p:=⟨gb196,0,none⟩) (Kd.R_far (p:=⟨gb197,1,none⟩) (Kd.R_far (p:=⟨gb197,0,none⟩) (Kd.R_types (Kd.R_types HO200.out BK197.out (by decide)) BK196.out (by decide)) (fun _ hk=>hk.1.2) (.slice Ao10 t198.length co10)) (fun _ hk=>hk.1.2) (.int .i64 a0_1)) (fun _ hk=>hk.2) (.slice Ao10 t198.length co10)) (fun _ hk=>hk.2) (.int .i64 a0_1)) (fun _ hk=>trivial),by repeat (first|(with_reducible first|exact HB.out|apply ba'|apply bd'|apply be'|refine bs' ?_ GE195.out|refine bs' ?_ GE196.out|refine bs' ?_ GE197.out)|exact HB.out)⟩
def laws_toIntSS.l0:Nat→List (List Int)→List (List Int)→Int→Option ((List (List Int)))
 | 0,_,_,_=>none
 | k+1,x0,x3,x4=>if x4 < (x0.length:Int) then (if 0≤x4 then ((laws_toIntS.f k (rd_L1 x0 x4)).bind fun t205=>(if x4 < (x3.length:Int) then (laws_toIntSS.l0 k x0 (x3.set (x4:Int).toNat t205) (wrap64 (x4+1))) else (none))) else (none)) else (some x3)
def laws_toIntSS.f (k:Nat) (l0:List (List Int)):Option ((List (List Int))):=if 0≤(l0.length:Int) then (if ((l0.length:Int):Int).toNat≤11728124029610 then (laws_toIntSS.l0 k l0 (List.replicate ((l0.length:Int):Int).toNat []) 0) else (none)) else (none)
set_option maxHeartbeats 8000000 in
set_option maxRecDepth 100000 in
theorem laws_toIntSS.calls (k:Nat) (A0:Option Addr) (c0:Nat) (l0:List (List Int)) (r:List (List Int)) (w:World) (hr0:Kd.C (Kd.slice 3 (Kd.int .i64)) w A0 l0.length l0) (hc0:l0.length≤c0) (h:laws_toIntSS.f k l0=some r) :
  Calls Try.prog 24 #[.slice A0 l0.length c0] w fun e w'=>∃ v0_:Value,e = .returned (v0_)∧Kd.S (Kd.slice 3 (Kd.int .i64)) 22 w' w.heap.size (fun _=>True) v0_ r∧Below w.heap.size w w':=by
 have HR0:=am' hr0
 have HC0:=am' hc0
 clear hr0 hc0;have HB:=am' (Below.refl w.heap.size w)
 have H:(if 0≤(l0.length:Int) then (if ((l0.length:Int):Int).toNat≤11728124029610 then (laws_toIntSS.l0 k l0 (List.replicate ((l0.length:Int):Int).toNat []) 0) else (none)) else (none))=some r:=h
 clear h;by_cases c2:0≤(l0.length:Int)
 ·
  rw[if_pos c2] at H;have c2b0:=eq_true c2;have c2b1:decide (0≤(l0.length:Int))=true:=decide_eq_true c2;clear c2;by_cases c3:((l0.length:Int):Int).toNat≤11728124029610
  ·
   rw[if_pos c3] at H;have c3b0:=eq_true c3;have c3b1:decide (((l0.length:Int):Int).toNat≤11728124029610)=true:=decide_eq_true c3;clear c3;obtain ⟨y201,hy201⟩:∃ y_:List (List Int),y_=(List.replicate ((l0.length:Int):Int).toNat []):=⟨_,rfl⟩
   replace H:(laws_toIntSS.l0 k l0 y201 0)=some r:=by first|(rw[hy201];with_reducible exact H)|(have H2_:=(Option.bind_some _ _).symm.trans H;rw[hy201];with_reducible exact H2_)|(have H2_:=(Option.bind_some _ _).symm.trans H;with_reducible exact H2_)|with_reducible exact H|(rw[hy201];exact H)|exact H
   have Ny201:=am' hy201;clear hy201;have H':=am' H;clear H;go_enter Try.func24,Try.ntmps24;go_wp2_with (first|((with_reducible refine gate_dst (N:=7) rfl ?_);refine Kd.S_make (Kd.slice 3 (Kd.int .i64)) _ 22 rfl (N:=7) rfl 47 _ _ rfl (l0.length:Int) rfl rfl Try.underlying47 (.slice none 0 0) 24 info22 rfl (by decide) (by omega) [] (ok:=fun _=>True) (okp:=fun _=>True) ⟨_,rfl,Kd.R_nil _ _ _ _ _⟩ (fun _ hk=>hk) trivial (of_decide_eq_true (by first|(with_reducible assumption)|assumption)) (Nat.le_trans (Nat.mul_le_mul_right _ (of_decide_eq_true (by first|(with_reducible assumption)|assumption):(l0.length:Int).toNat≤11728124029610)) (by omega)) (Below.refl _ _) (Nat.le_refl _) ?_;intro v202 w4 ho5 hb hg_ hnew_;clear hg_ hnew_;(first|rw[← Ny201.out] at ho5|(simp only[Int.reduceToNat] at ho5;rw[← Ny201.out] at ho5));have n0_:=am' (Kd.S_lower ho5 (below_size (by repeat (first|(with_reducible first|exact HB.out|apply ba'|apply bd'|apply be')|exact HB.out))));have n1_:=am' (below_step (by repeat (first|(with_reducible first|exact HB.out|apply ba'|apply bd'|apply be')|exact HB.out)) hb);clear HB;have HO203:=n0_;have HB:=n1_;clear n0_ n1_;clear hb ho5));go_loopg [4] k (fun kq v4 w'=>∃ (x3_1:List (List Int)) (x4_1:Int),v4 = .int .i64 x4_1∧Aside0 (laws_toIntSS.l0 kq l0 x3_1 x4_1=some r)∧Aside0 (kq≤k)∧Aside0 (Kd.S (Kd.slice 3 (Kd.int .i64)) 22 w' w.heap.size (fun _=>True) v202 x3_1)∧Aside0 (Below w.heap.size w w'))
   case atStart=>exact ⟨(y201),(0),(by first|rfl|(simp;done)|(simp[*];done)),H',⟨Nat.le_refl _⟩,⟨by (with_reducible repeat (first|apply Kd.S_alloc|apply Kd.S_drewN|apply Kd.S_drew));exact HO203.out⟩,⟨by repeat (first|(with_reducible first|exact HB.out|apply ba'|apply bd'|apply be')|exact HB.out)⟩⟩
   case round =>
    clear H';try clear c2
    try clear c2b0
    try clear c2b1
    try clear p2
    try clear c3
    try clear c3b0
    try clear c3b1
    obtain ⟨x3_1,x4_1,rfl,HA,HK1,HO_3,HB⟩:=hrel;cases gk with
    | zero=>exact absurd HA.out (by simp[laws_toIntSS.l0])
    | succ k1 =>
     have H:=HA.out;clear HA;simp only[laws_toIntSS.l0] at H;by_cases c6:x4_1 < (l0.length:Int)
     ·
      rw[if_pos c6] at H;have c6b0:decide (x4_1 < (l0.length:Int))=true:=decide_eq_true c6;clear c6;by_cases c7:0≤x4_1
      ·
       rw[if_pos c7] at H;have c7b0:decide (0≤x4_1)=true:=decide_eq_true c7;clear c7;replace H:=Option.bind_eq_some_iff.mp H;obtain ⟨t205,A80,H⟩:=H;replace H:(if x4_1 < (x3_1.length:Int) then (laws_toIntSS.l0 k1 l0 (x3_1.set (x4_1:Int).toNat t205) (wrap64 (x4_1+1))) else (none))=some r:=H;have A8:=am' A80;clear A80;by_cases c9:x4_1 < (x3_1.length:Int)
       ·
        rw[if_pos c9] at H;have c9b0:decide (x4_1 < (x3_1.length:Int))=true:=decide_eq_true c9;clear c9;obtain ⟨y208,hy208⟩:∃ y_:List (List Int),y_=(x3_1.set (x4_1:Int).toNat t205):=⟨_,rfl⟩
        replace H:(laws_toIntSS.l0 k1 l0 y208 (wrap64 (x4_1+1)))=some r:=by first|(rw[hy208];with_reducible exact H)|(have H2_:=(Option.bind_some _ _).symm.trans H;rw[hy208];with_reducible exact H2_)|(have H2_:=(Option.bind_some _ _).symm.trans H;with_reducible exact H2_)|with_reducible exact H|(rw[hy208];exact H)|exact H
        have Ny208:=am' hy208;clear hy208;have H':=am' H;clear H;have p204:0≤(x4_1:Int):=of_decide_eq_true (by first|(with_reducible assumption)|assumption);have q204:x4_1 < (l0.length:Int):=of_decide_eq_true (by first|(with_reducible assumption)|assumption);obtain ⟨ad204,A204_0,c204_0,e204,hx204_0,hl204_0,hi204_0⟩:=at_L1 HR0.out x4_1 p204 q204;cases e204;replace hx204_0:=(HB.out.cell (bl' w _ hx204_0)).trans hx204_0;have HR204_0:=am' hi204_0;have HC204_0:=am' hl204_0;clear hi204_0 hl204_0;replace p204:=eq_true p204;replace q204:=eq_true q204;go_wp2_with (first|((with_reducible refine gate_callee (f:=35) rfl ?_);refine goesL_ (some 20) rfl rfl Try.func35 (by kernel_rfl) rfl #[.slice A204_0 (rd_L1 l0 x4_1).length c204_0] rfl (by (try simp only[List.map_toArray,List.map_cons,List.map_nil]);first|done|rfl|(simp only[List.length_drop,List.length_take];rfl)) ?_;(with_reducible refine (laws_toIntS.calls k1 _ _ (rd_L1 l0 x4_1) t205 _ ?side1 ?side2 A8.out).mono ?_);(case side1=>repeat (first|exact (Kd.C_below HR204_0.out HB.out)|(with_reducible refine ca' ?_ _)|(with_reducible refine cn' ?_ _)|(with_reducible refine cd' ?_)));(case side2=>exact HC204_0.out);rintro e w11 ⟨v206,rfl,ho0,hb⟩;refine ⟨_,rfl,?_⟩;have n0_:=am' (Kd.S_elder' (by (with_reducible repeat (first|apply Kd.S_alloc|apply Kd.S_drewN|apply Kd.S_drew));exact HO_3.out) (Kd.R_base ho0) hb);have n1_:=am' (Kd.R_lower ho0 (below_size (by repeat (first|(with_reducible first|exact HB.out|apply ba'|apply bd'|apply be')|exact HB.out))));have n2_:=am' (below_step (by repeat (first|(with_reducible first|exact HB.out|apply ba'|apply bd'|apply be')|exact HB.out)) hb);clear HO_3;clear HB;have HO_3:=n0_;have HO207:=n1_;have HB:=n2_;clear n0_ n1_ n2_;(try clear hb);(try clear hb2);(try clear hk);(try clear hi);(try clear ho0);have p10:0≤(x4_1:Int):=of_decide_eq_true (by first|(with_reducible assumption)|assumption);have q10:(x4_1:Int) < ((x3_1.length:Int):Int):=of_decide_eq_true (by first|(with_reducible assumption)|assumption);obtain ⟨go10,co10,eo10,gb10,gl10,cl10,HG10⟩:=Kd.S_form HO_3.out (by omega);(first|cases eo10|(injection eo10 with ea_ en_ ec_;(first|subst ea_|(injection ea_ with ea_;subst ea_));subst ec_;clear en_));have GB10:=am' gb10;have GG10:=am' HG10;clear gb10 gl10 HG10;obtain ⟨_,ce10,hcl10,hM10,hcc10,hfr10,_,_⟩:=Kd.S_elem HO_3.out [] (x4_1:Int) p10 q10;obtain ⟨ve10_0,rfl,ge10_0⟩:=hM10;have hx10_0:=hcc10 0 _ rfl;have hf10_0:=hfr10 0;(try simp only[show ((Kd.slice 3 (Kd.int .i64))).sz=1 from rfl,Nat.mul_one,Nat.add_zero] at hx10_0);(try simp only[show ((Kd.slice 3 (Kd.int .i64))).sz=1 from rfl,Nat.mul_one,Nat.add_zero] at hf10_0);clear hcl10 hcc10 hfr10;(try clear hM10);replace p10:=eq_true p10;replace q10:=eq_true q10;have n_:=am' (Kd.S_mono (ok':=(fun k_=>some k_≠(v206:Value).ownBlock)) HO_3.out (fun k_ hk=>hk.2));clear HO_3;have HO_3:=n_;clear n_;obtain ⟨Ao14,co14,eo14⟩:=Kd.R_slice HO207.out;subst eo14;have HX12:=am' (show Kd.S (Kd.slice 3 (Kd.int .i64)) 22 w11 w.heap.size (fun k_=>((fun _=>True)) k_∧¬ ((fun k_=>some k_=(.slice Ao14 t205.length co14:Value).ownBlock)) k_) (.slice (some ⟨go10,0,none⟩) x3_1.length co10) x3_1 from (by (with_reducible repeat (first|apply Kd.S_alloc|apply Kd.S_drewN|apply Kd.S_drew));exact Kd.S_mono HO_3.out (fun k_ hk=>⟨trivial,fun e_=>hk e_⟩)));obtain ⟨oki12,ce12,hcl12,hM12,hcc12,hfr12,hoki12,hH12⟩:=Kd.S_elem HX12.out [] (x4_1:Int) (of_decide_eq_true (by first|(with_reducible assumption)|assumption)) (by have h_:(x4_1:Int) < ((x3_1.length:Int):Int):=of_decide_eq_true (by first|(with_reducible assumption)|assumption);first|exact h_|(have e_:=(Kd.S_reads' HO_3.out).1;omega)|simpa using h_);obtain ⟨ve12_0,rfl,ge12_0⟩:=hM12;have HP12:=Kd.S_seg hH12 (of_decide_eq_true (by first|(with_reducible assumption)|assumption)) (by have h_:(x4_1:Int) < ((x3_1.length:Int):Int):=of_decide_eq_true (by first|(with_reducible assumption)|assumption);first|exact h_|(have e_:=(Kd.S_reads' HO_3.out).1;omega)|simpa using h_) (seg:=[.slice Ao14 t205.length co14]) (j:=0) (show 1≤1 from by decide) (x':=t205) (Kd.M_row (Kd.R_mono (Kd.R_tight rfl (Kd.R_mono (ok':=fun k_=>((fun _=>True)) k_∧k_≠go10) (Kd.R_apart' (HO207.out) (Kd.S_typed HO_3.out) (by decide)) (fun k_ hk=>⟨trivial,fun e_=>(hk.2) (by rw[e_];rfl)⟩))) (fun _ h_=>Or.inr (h_)))) (fun _ hk=>hk) (fun k_ hk_=>((Kd.R_mono (ok':=fun k_=>((fun _=>True)) k_∧k_≠go10) (Kd.R_apart' (HO207.out) (Kd.S_typed HO_3.out) (by decide)) (fun k_ hk=>⟨trivial,fun e_=>(hk.2) (by rw[e_];rfl)⟩))).1 k_ hk_.symm);have hx12_0:=hcc12 0 _ rfl;(try simp only[show ((Kd.slice 3 (Kd.int .i64))).sz=1 from rfl,Nat.mul_one,Nat.add_zero] at hx12_0);have hf12_0:=hfr12 0;(try simp only[show ((Kd.slice 3 (Kd.int .i64))).sz=1 from rfl,Nat.mul_one,Nat.add_zero] at hf12_0);clear hcl12 hcc12 hfr12;(try clear hM12);clear hoki12 hH12;(try simp only[show ((Kd.slice 3 (Kd.int .i64))).sz=1 from rfl,Nat.mul_one,Nat.add_zero] at HP12))|((with_reducible refine gate_store (t:=22) (p:=21) rfl ?_);refine store_event (t:=22) (p:=21) (v:=?vo_w13) (w1:=(w11.setCell ⟨go10,(x4_1:Int).toNat,none⟩ (.slice Ao14 t205.length co14))) ?hg ?ho ?hn ?hr ?_;(case ho=>rfl);(case hg=>rfl);(case hn=>rfl);(case hr=>first|(go_simp;done)|(go_simp;rfl));intro w13 hw;have hg:w11.grownBy w13 (some go10):=(by rw[hw];exact HP12.2);have hp_:Kd.S (Kd.slice 3 (Kd.int .i64)) 22 w13 w.heap.size (fun _=>True) (.slice (some ⟨go10,0,none⟩) x3_1.length co10) y208:=(by rw[hw,Ny208.out];exact HP12.1);clear HP12;have n0_:=am' (hp_);have n1_:=am' ((by rw[hw];exact bs' (HB.out) GB10.out:Below w.heap.size w w13));clear HO_3;clear HB;clear HO207;have HO_3:=n0_;have HB:=n1_;clear n0_ n1_;clear hg hw hp_))
        go_roundg k1
        case measure=>have:=HK1.out;omega
        case rel=>exact ⟨(y208),(wrap64 (x4_1+1)),(by first|rfl|(simp;done)|(simp[*];done)),H',⟨by have:=HK1.out;omega⟩,⟨by (with_reducible repeat (first|apply Kd.S_alloc|apply Kd.S_drewN|apply Kd.S_drew));exact HO_3.out⟩,⟨by repeat (first|(with_reducible first|exact HB.out|apply ba'|apply bd'|apply be')|exact HB.out)⟩⟩
       ·
        rw[if_neg c9] at H;exact absurd H (by simp)
      ·
       rw[if_neg c7] at H;exact absurd H (by simp)
     ·
      rw[if_neg c6] at H;have c6b0:decide (x4_1 < (l0.length:Int))=false:=decide_eq_false c6;clear c6;obtain rfl:=Option.some.inj H;go_wp2;go_ret
      exact ⟨_,by first|rfl|(simp[errW_none,errW_some] <;> rfl)|(simp[*,errW_none,errW_some] <;> rfl),by (with_reducible repeat (first|apply Kd.S_alloc|apply Kd.S_drewN|apply Kd.S_drew));exact HO_3.out,by repeat (first|(with_reducible first|exact HB.out|apply ba'|apply bd'|apply be')|exact HB.out)⟩
  ·
   rw[if_neg c3] at H;exact absurd H (by simp)
 ·
  rw[if_neg c2] at H;exact absurd H (by simp)
def impl_in.f (a0:Int) (a1:Int) (a2:Int):Option (Bool):=if a1≤a0 then (some (decide (a0≤a2))) else (some false)
set_option maxHeartbeats 8000000 in
set_option maxRecDepth 100000 in
theorem impl_in.calls (a0:Int) (a1:Int) (a2:Int) (r:Bool) (w:World) (h:impl_in.f a0 a1 a2=some r) :
  Calls Try.prog 66 #[.int .i64 a0, .int .i64 a1, .int .i64 a2] w fun e w'=>e = .returned (.bool r)∧Drawn0 w w':=by
 have H:(if a1≤a0 then (some (decide (a0≤a2))) else (some false))=some r:=h
 clear h;by_cases c4:a1≤a0
 ·
  rw[if_pos c4] at H;have c4b0:decide (a1≤a0)=true:=decide_eq_true c4;clear c4;obtain rfl:=Option.some.inj H;go_enter Try.func66,Try.ntmps66;go_wp2;go_ret
  exact ⟨by first|rfl|(simp;done)|(simp[*];done),by repeat (first|exact Drawn0.refl _|apply Drawn0.step)⟩
 ·
  rw[if_neg c4] at H;have c4b0:decide (a1≤a0)=false:=decide_eq_false c4;clear c4;obtain rfl:=Option.some.inj H;go_enter Try.func66,Try.ntmps66;go_wp2;go_ret
  exact ⟨by first|rfl|(simp;done)|(simp[*];done),by repeat (first|exact Drawn0.refl _|apply Drawn0.step)⟩
def PredOn (g:Nat) (lb:Array Value) (p:Int→Bool) (xs:List Int) (w:World):Prop :=
 ∀ x,x ∈ xs→∀ W:World,Below w.heap.size w W→Calls Try.prog g (#[.int .i64 x] ++ lb) W fun e w'=>e = .returned (.bool (p x))∧Below W.heap.size W w'
set_option maxHeartbeats 2000000 in
set_option maxRecDepth 100000 in
theorem IndexFunc_any (g:Nat) (lb:Array Value) (p:Int→Bool) (eg:∀ args w,(callFunc g args).run Try.prog w = .ok (.enter g args) w) (A0:Option Addr) (c0:Nat) (xs:List Int) (w:World) (hr:Kd.C (Kd.int .i64) w A0 xs.length xs) (hl:xs.length≤c0) (hbig:xs.length≤9223372036854775807)
  (hp:PredOn g lb p xs w) :
  Calls Try.prog 95 #[.slice A0 xs.length c0, .func (.func g) #[] lb] w fun e w'=>e = .returned (.int .i64 (idxF p xs))∧Below w.heap.size w w':=by
 have HP:=am' hp
 have HR:=am' hr
 clear hp hr;go_enter Try.func95,Try.ntmps95
 go_wp2
 go_loopg [5,8] xs.length (fun gg _ s8 wr=>∃ kk:Nat,kk≤xs.length∧xs.length - kk≤gg∧s8 = .int .i64 kk∧Aside0 (Below w.heap.size w wr)∧Aside0 (∀ j,j < kk→p (rd xs (j:Nat))=false))
 case atStart=>exact ⟨0,Nat.zero_le _,by omega,rfl,⟨Below.refl _ w⟩,⟨fun j hj=>absurd hj (Nat.not_lt_zero _)⟩⟩
 case round =>
  obtain ⟨kk,hkk,hg,rfl,BW,AA⟩:=hrel;by_cases hlt:kk < xs.length
  ·
   have hltz:(kk:Int) < (xs.length:Int):=by omega
   obtain ⟨ad,e0,hx0⟩:=Kd.at_int HR.out (kk:Int) (by omega) hltz;cases e0;have hx:=(BW.out.cell (bl' w _ hx0)).trans hx0;clear hx0;rw[Int.toNat_natCast] at hx;have hcall:=HP.out (rd xs kk) (rd_mem xs kk hlt) wr BW.out;generalize hy:rd xs kk=y at hx hcall
   have B:Aside0 (rd xs kk=y):=⟨hy⟩
   clear hy;cases hq:p y with
   | true =>
    rw[hq] at hcall;go_wp2_with fail;refine hcall.mono ?_
    rintro e w' ⟨rfl,hb'⟩
    clear hcall hx;go_wp2;go_ret
    refine ⟨?_,below_step BW.out hb'⟩;rw[idxF_hit p xs kk hlt (by rw[B.out];exact hq) AA.out];rfl
   | false =>
    rw[hq] at hcall;go_wp2_with fail;refine hcall.mono ?_
    rintro e w' ⟨rfl,hb'⟩
    clear hcall hx;go_wp2;go_roundg (xs.length - (kk+1))
    case measure=>omega
    case rel =>
     refine ⟨kk+1,by omega,by omega,by go_num,⟨below_step BW.out hb'⟩,⟨fun j hj=>?_⟩⟩;by_cases e:j=kk
     ·
      subst e;rw[B.out];exact hq
     ·
      exact AA.out j (by omega)
  ·
   have hltz:¬ (kk:Int) < (xs.length:Int):=by omega
   have:kk=xs.length:=by omega
   subst this;go_wp2;go_ret
   refine ⟨?_,BW.out⟩;rw[idxF_miss p xs AA.out];rfl
set_option maxHeartbeats 2000000 in
set_option maxRecDepth 100000 in
theorem ContainsFunc_any (g:Nat) (lb:Array Value) (p:Int→Bool) (eg:∀ args w,(callFunc g args).run Try.prog w = .ok (.enter g args) w) (A0:Option Addr) (c0:Nat) (xs:List Int) (w:World) (hr:Kd.C (Kd.int .i64) w A0 xs.length xs) (hl:xs.length≤c0) (hbig:xs.length≤9223372036854775807)
  (hp:PredOn g lb p xs w) :
  Calls Try.prog 82 #[.slice A0 xs.length c0, .func (.func g) #[] lb] w fun e w'=>e = .returned (.bool (xs.any p))∧Below w.heap.size w w':=by
 have HH:=am' (IndexFunc_any g lb p eg A0 c0 xs w hr hl hbig hp)
 clear hr hl hp;go_enter Try.func82,Try.ntmps82
 go_wp2_with (go_at_call 95;refine HH.out.mono ?_;rintro e w' ⟨rfl,hb⟩)
 go_ret
 refine ⟨?_,hb⟩
 rw[← idxF_any]
 rfl
theorem in_calls (x lo hi:Int) (w:World):Calls Try.prog 66 #[.int .i64 x, .int .i64 lo, .int .i64 hi] w fun e w'=>e = .returned (.bool (inB lo hi x))∧Below w.heap.size w w' :=
 (impl_in.calls x lo hi (inB lo hi x) w (by unfold impl_in.f inB;by_cases h:lo≤x <;> simp [h])).mono fun e w' ⟨he,hd⟩=>⟨he,hd.below⟩
theorem areIn1_calls (x lo hi:Int) (b1 b2:Nat) (w:World) (h1:w.cell? ⟨b1,0,none⟩=some (.int .i64 lo)) (h2:w.cell? ⟨b2,0,none⟩=some (.int .i64 hi)) :
  Calls Try.prog 83 #[.int .i64 x, .pointer (some ⟨b1,0,none⟩), .pointer (some ⟨b2,0,none⟩)] w fun e w'=>e = .returned (.bool (!inB lo hi x))∧Below w.heap.size w w':=by
 go_enter Try.func83,Try.ntmps83
 go_wp2_with (go_at_call 66;refine (in_calls _ _ _ _).mono ?_;rintro e w' ⟨rfl,hb⟩)
 go_ret
 exact ⟨rfl,hb⟩
theorem areIn_pred (lo hi:Int) (b1 b2:Nat) (xs:List Int) (w:World) (h1:w.cell? ⟨b1,0,none⟩=some (.int .i64 lo)) (h2:w.cell? ⟨b2,0,none⟩=some (.int .i64 hi)) :
  PredOn 83 #[.pointer (some ⟨b1,0,none⟩), .pointer (some ⟨b2,0,none⟩)] (fun x => !inB lo hi x) xs w:=fun x _ W hb =>
 areIn1_calls x lo hi b1 b2 W ((hb.cell (bl' w _ h1)).trans h1) ((hb.cell (bl' w _ h2)).trans h2)
def impl_areIn.f (l0:List Int) (a1 a2 a3 a4:Int):Option Bool:=some (inB a3 a4 (l0.length:Int) && l0.all (inB a1 a2))
set_option maxHeartbeats 2000000 in
set_option maxRecDepth 100000 in
theorem impl_areIn.calls (A0:Option Addr) (c0:Nat) (l0:List Int) (a1 a2 a3 a4:Int) (r:Bool) (w:World) (hr0:Kd.C (Kd.int .i64) w A0 l0.length l0) (hc0:l0.length≤c0) (h:impl_areIn.f l0 a1 a2 a3 a4=some r) :
  Calls Try.prog 65 #[.slice A0 l0.length c0, .int .i64 a1, .int .i64 a2, .int .i64 a3, .int .i64 a4] w fun e w'=>e = .returned (.bool r)∧Below w.heap.size w w':=by
 have hbig:l0.length≤9223372036854775807:=hr0.2.1
 have HC:=am' (fun (w1:World) (h1:Below w.heap.size w w1) (b1 b2:Nat) (e1:w1.cell? ⟨b1,0,none⟩=some (.int .i64 a1)) (e2:w1.cell? ⟨b2,0,none⟩=some (.int .i64 a2)) =>
  ContainsFunc_any 83 #[.pointer (some ⟨b1,0,none⟩), .pointer (some ⟨b2,0,none⟩)] (fun x => !inB a1 a2 x) (enters_of Try.func83 (by kernel_rfl) rfl) A0 c0 l0 w1 (Kd.C_below hr0 h1) hc0 hbig (areIn_pred a1 a2 b1 b2 l0 w1 e1 e2))
 clear hr0;cases hi:inB a3 a4 (l0.length:Int) with
 | false =>
  obtain rfl:false=r:=by unfold impl_areIn.f at h;simpa [hi] using h
  clear h;go_enter Try.func65,Try.ntmps65;go_wp2_with (go_at_call 66;refine (in_calls _ _ _ _).mono ?_;rintro e w' ⟨rfl,hb⟩);go_ret
  exact ⟨rfl,(after_alloc (after_alloc hb).1).1⟩
 | true =>
  obtain rfl:l0.all (inB a1 a2)=r:=by unfold impl_areIn.f at h;simpa [hi] using h
  clear h;go_enter Try.func65,Try.ntmps65;go_wp2_with (go_at_call 66;refine (in_calls _ _ _ _).mono ?_;rintro e w' ⟨rfl,hb⟩);have h2:=after_alloc hb;have h1:=after_alloc h2.1;rw[World.size_alloc] at h2;refine (HC.out w' h1.1 _ _ ((blk_cell h1.2 0).trans rfl) ((blk_cell h2.2 0).trans rfl)).mono ?_
  rintro e w2 ⟨rfl,hb2⟩
  clear hb h2;have HB2:=am' (below_step h1.1 hb2);clear h1 hb2;go_wp2;go_ret
  refine ⟨?_,HB2.out⟩;rw[← any_not_all];rfl
def impl_IsParty.f (l0_0:List Int) (a0_1:Int):Option (Bool):=(impl_areIn.f l0_0 1 1000 1 8).bind fun t210=>(if t210=true then ((impl_in.f a0_1 1 3).bind fun t211=>(some t211)) else (some false))
set_option maxHeartbeats 8000000 in
set_option maxRecDepth 100000 in
theorem impl_IsParty.calls (A0_0:Option Addr) (c0_0:Nat) (l0_0:List Int) (a0_1:Int) (r:Bool) (w:World) (hr0_0:Kd.C (Kd.int .i64) w A0_0 l0_0.length l0_0) (hc0_0:l0_0.length≤c0_0) (h:impl_IsParty.f l0_0 a0_1=some r) :
  Calls Try.prog 47 #[.agg #[.slice A0_0 l0_0.length c0_0, .int .i64 a0_1]] w fun e w'=>e = .returned (.bool r)∧Below w.heap.size w w':=by
 have hu52:=Try.underlying52
 have HR0_0:=am' hr0_0
 have HC0_0:=am' hc0_0
 clear hr0_0 hc0_0;have HB:=am' (Below.refl w.heap.size w)
 have H:((impl_areIn.f l0_0 1 1000 1 8).bind fun t210=>(if t210=true then ((impl_in.f a0_1 1 3).bind fun t211=>(some t211)) else (some false)))=some r:=h
 clear h;replace H:=Option.bind_eq_some_iff.mp H
 obtain ⟨t210,A20,H⟩:=H
 replace H:(if t210=true then ((impl_in.f a0_1 1 3).bind fun t211=>(some t211)) else (some false))=some r:=H
 have A2:=am' A20
 clear A20;by_cases c3:t210=true
 ·
  subst c3;have H1:((impl_in.f a0_1 1 3).bind fun t211=>(some t211))=some r:=by rw[if_pos rfl] at H;exact H
  clear H;have H:=H1;clear H1;replace H:=Option.bind_eq_some_iff.mp H;obtain ⟨t211,A40,H⟩:=H;replace H:(some t211)=some r:=H;have A4:=am' A40;clear A40;obtain rfl:=Option.some.inj H;go_enter Try.func47,Try.ntmps47;go_wp2_with (first|((with_reducible refine gate_dst (N:=1) rfl ?_);refine box_event ?hg (N:=1) ?hd (cs:=#[.slice A0_0 l0_0.length c0_0, .int .i64 a0_1]) (t:=52) ?hr ?_;(case hd=>rfl);(case hg=>rfl);(case hr=>first|(go_simp;done)|(go_simp;rfl));intro gb209 hg w5 hbox hb;have n0_:=am' (below_step (by repeat (first|(with_reducible first|exact HB.out|apply ba'|apply bd'|apply be')|exact HB.out)) hb);have n1_:=am' (hbox);have n2_:=am' ((by rw[hg];exact (below_size (by repeat (first|(with_reducible first|exact HB.out|apply ba'|apply bd'|apply be')|exact HB.out))):w.heap.size≤gb209));have n3_:=am' ((by rw[hg];exact (below_size (by repeat (first|(with_reducible first|exact HB.out|apply ba'|apply bd'|apply be')|exact HB.out))):w.heap.size≤gb209));clear HB;have HB:=n0_;have BK209:=n1_;have GW209:=n2_;have GE209:=n3_;clear n0_ n1_ n2_ n3_;clear hb hbox hg;have hcz6_0:w5.cell? ⟨gb209,0,none⟩=some (.slice A0_0 l0_0.length c0_0):=(blk_cell BK209.out 0).trans rfl;have hcz6_1:w5.cell? ⟨gb209,1,none⟩=some (.int .i64 a0_1):=(blk_cell BK209.out 1).trans rfl;have hfz6_0:=blk_frozen BK209.out 0;have hfz6_1:=blk_frozen BK209.out 1)|((with_reducible refine gate_callee (f:=65) rfl ?_);refine goesL_ (some 5) rfl rfl Try.func65 (by kernel_rfl) rfl #[.slice A0_0 l0_0.length c0_0, .int .i64 1, .int .i64 1000, .int .i64 1, .int .i64 8] rfl (by (try simp only[List.map_toArray,List.map_cons,List.map_nil]);first|done|rfl|(simp only[List.length_drop,List.length_take];rfl)) ?_;(with_reducible refine (impl_areIn.calls _ _ l0_0 1 1000 1 8 true _ ?side1 ?side2 A2.out).mono ?_);(case side1=>repeat (first|exact (Kd.C_below HR0_0.out HB.out)|(with_reducible refine ca' ?_ _)|(with_reducible refine cn' ?_ _)|(with_reducible refine cd' ?_)));(case side2=>exact HC0_0.out);rintro e w7 ⟨rfl,hb⟩;refine ⟨_,rfl,?_⟩;have n0_:=am' (blk_below (g:=gb209) (o := .cells #[.slice A0_0 l0_0.length c0_0, .int .i64 a0_1] 52 (0,0)) (by (with_reducible repeat (first|refine kn' ?_ _|refine kd' ?_|refine ka' ?_ _));exact BK209.out) hb);have n1_:=am' (below_step (by repeat (first|(with_reducible first|exact HB.out|apply ba'|apply bd'|apply be'|refine bs' ?_ GE209.out)|exact HB.out)) hb);clear BK209;clear HB;have BK209:=n0_;have HB:=n1_;clear n0_ n1_;(try clear hb);(try clear hb2);(try clear hk);(try clear hi);have hcz8_0:w7.cell? ⟨gb209,0,none⟩=some (.slice A0_0 l0_0.length c0_0):=(blk_cell BK209.out 0).trans rfl;have hcz8_1:w7.cell? ⟨gb209,1,none⟩=some (.int .i64 a0_1):=(blk_cell BK209.out 1).trans rfl;have hfz8_0:=blk_frozen BK209.out 0;have hfz8_1:=blk_frozen BK209.out 1)|(go_at_call 66;(with_reducible refine (impl_in.calls a0_1 1 3 t211 _ A4.out).mono ?_);rintro e w' ⟨rfl,⟨nd,rfl⟩⟩))
  go_ret
  exact ⟨by first|rfl|(simp[errW_none,errW_some] <;> rfl)|(simp[*,errW_none,errW_some] <;> rfl),by repeat (first|(with_reducible first|exact HB.out|apply ba'|apply bd'|apply be'|refine bs' ?_ GE209.out)|exact HB.out)⟩
 ·
  replace c3:=Bool.eq_false_iff.mpr c3;subst c3;have H1:(some false)=some r:=by rw[if_neg (show ¬ (false=true) by decide)] at H;exact H
  clear H;have H:=H1;clear H1;obtain rfl:=Option.some.inj H;go_enter Try.func47,Try.ntmps47;go_wp2_with (first|((with_reducible refine gate_dst (N:=1) rfl ?_);refine box_event ?hg (N:=1) ?hd (cs:=#[.slice A0_0 l0_0.length c0_0, .int .i64 a0_1]) (t:=52) ?hr ?_;(case hd=>rfl);(case hg=>rfl);(case hr=>first|(go_simp;done)|(go_simp;rfl));intro gb209 hg w9 hbox hb;have n0_:=am' (below_step (by repeat (first|(with_reducible first|exact HB.out|apply ba'|apply bd'|apply be')|exact HB.out)) hb);have n1_:=am' (hbox);have n2_:=am' ((by rw[hg];exact (below_size (by repeat (first|(with_reducible first|exact HB.out|apply ba'|apply bd'|apply be')|exact HB.out))):w.heap.size≤gb209));have n3_:=am' ((by rw[hg];exact (below_size (by repeat (first|(with_reducible first|exact HB.out|apply ba'|apply bd'|apply be')|exact HB.out))):w.heap.size≤gb209));clear HB;have HB:=n0_;have BK209:=n1_;have GW209:=n2_;have GE209:=n3_;clear n0_ n1_ n2_ n3_;clear hb hbox hg;have hcz10_0:w9.cell? ⟨gb209,0,none⟩=some (.slice A0_0 l0_0.length c0_0):=(blk_cell BK209.out 0).trans rfl;have hcz10_1:w9.cell? ⟨gb209,1,none⟩=some (.int .i64 a0_1):=(blk_cell BK209.out 1).trans rfl;have hfz10_0:=blk_frozen BK209.out 0;have hfz10_1:=blk_frozen BK209.out 1)|((with_reducible refine gate_callee (f:=65) rfl ?_);refine goesL_ (some 5) rfl rfl Try.func65 (by kernel_rfl) rfl #[.slice A0_0 l0_0.length c0_0, .int .i64 1, .int .i64 1000, .int .i64 1, .int .i64 8] rfl (by (try simp only[List.map_toArray,List.map_cons,List.map_nil]);first|done|rfl|(simp only[List.length_drop,List.length_take];rfl)) ?_;(with_reducible refine (impl_areIn.calls _ _ l0_0 1 1000 1 8 false _ ?side1 ?side2 A2.out).mono ?_);(case side1=>repeat (first|exact (Kd.C_below HR0_0.out HB.out)|(with_reducible refine ca' ?_ _)|(with_reducible refine cn' ?_ _)|(with_reducible refine cd' ?_)));(case side2=>exact HC0_0.out);rintro e w11 ⟨rfl,hb⟩;refine ⟨_,rfl,?_⟩;have n0_:=am' (blk_below (g:=gb209) (o := .cells #[.slice A0_0 l0_0.length c0_0, .int .i64 a0_1] 52 (0,0)) (by (with_reducible repeat (first|refine kn' ?_ _|refine kd' ?_|refine ka' ?_ _));exact BK209.out) hb);have n1_:=am' (below_step (by repeat (first|(with_reducible first|exact HB.out|apply ba'|apply bd'|apply be'|refine bs' ?_ GE209.out)|exact HB.out)) hb);clear BK209;clear HB;have BK209:=n0_;have HB:=n1_;clear n0_ n1_;(try clear hb);(try clear hb2);(try clear hk);(try clear hi)));go_ret
  exact ⟨by first|rfl|(simp[errW_none,errW_some] <;> rfl)|(simp[*,errW_none,errW_some] <;> rfl),by repeat (first|(with_reducible first|exact HB.out|apply ba'|apply bd'|apply be'|refine bs' ?_ GE209.out)|exact HB.out)⟩
set_option maxHeartbeats 2000000 in
set_option maxRecDepth 100000 in
theorem are1_calls (x:Int) (b1 b2:Nat) (A:Option Addr) (c:Nat) (l0:List Bool) (t over:Bool) (w:World) (h1:w.heap[b1]? = some (.cells #[.slice A l0.length c, .bool t] 80 (0,0))) (h2:w.cell? ⟨b2,0,none⟩=some (.bool over)) (hr:Kd.C Kd.bool w A l0.length l0) (hx0:0≤x) (hx1:x < (l0.length:Int)) :
  Calls Try.prog 91 #[.int .i64 x, .pointer (some ⟨b1,0,none⟩), .pointer (some ⟨b2,0,none⟩)] w fun e w'=>e = .returned (.bool (rdOf false l0 x != over))∧Below w.heap.size w w':=by
 obtain ⟨ad,e0,hx⟩:=Kd.at_bool hr x hx0 hx1
 cases e0
 have hs:w.cell? ⟨b1,0,none⟩=some (.slice (some ad) l0.length c):=(blk_cell h1 0).trans rfl
 have hbig:=hr.2.1
 have p0:=eq_true hx0
 have p1:=eq_true hx1
 clear hr h1 hx0 hx1;go_enter Try.func91,Try.ntmps91
 go_wp2
 go_quiet (fail)
 go_wp2
 go_ret
 exact ⟨rfl,bd' (Below.refl _ _) _⟩
theorem are_pred (b1 b2:Nat) (A:Option Addr) (c:Nat) (l0:List Bool) (t over:Bool) (xs:List Int) (w:World) (h1:w.heap[b1]? = some (.cells #[.slice A l0.length c, .bool t] 80 (0,0))) (h2:w.cell? ⟨b2,0,none⟩=some (.bool over)) (hr:Kd.C Kd.bool w A l0.length l0) (hx:∀ x ∈ xs,0≤x∧x < (l0.length:Int)) :
  PredOn 91 #[.pointer (some ⟨b1,0,none⟩), .pointer (some ⟨b2,0,none⟩)] (fun x=>rdOf false l0 x != over) xs w:=fun x hm W hb =>
 are1_calls x b1 b2 A c l0 t over W ((hb.block _ (blk_lt h1)).trans h1) ((hb.cell (bl' w _ h2)).trans h2) (Kd.C_below hr hb) (hx x hm).1 (hx x hm).2
def impl_State_are.f (l0_0:List Bool) (a0_1:Bool) (l1:List Int) (a2:Bool):Option Bool:=if l1.all (fun x=>decide (0≤x) && decide (x < (l0_0.length:Int))) then some (l1.all fun x=>rdOf false l0_0 x == a2) else none
set_option maxHeartbeats 2000000 in
set_option maxRecDepth 100000 in
theorem impl_State_are.calls (A0_0:Option Addr) (c0_0:Nat) (l0_0:List Bool) (a0_1:Bool) (A1:Option Addr) (c1:Nat) (l1:List Int) (a2:Bool) (r:Bool) (w:World) (hr0_0:Kd.C Kd.bool w A0_0 l0_0.length l0_0) (hc0_0:l0_0.length≤c0_0) (hr1:Kd.C (Kd.int .i64) w A1 l1.length l1) (hc1:l1.length≤c1) (h:impl_State_are.f l0_0 a0_1 l1 a2=some r) :
  Calls Try.prog 77 #[.agg #[.slice A0_0 l0_0.length c0_0, .bool a0_1], .slice A1 l1.length c1, .bool a2] w fun e w'=>e = .returned (.bool r)∧Below w.heap.size w w':=by
 obtain ⟨hin,rfl⟩:(∀ x ∈ l1,0≤x∧x < (l0_0.length:Int))∧(l1.all fun x=>rdOf false l0_0 x == a2)=r:=by
  unfold impl_State_are.f at h
  by_cases hc:l1.all (fun x=>decide (0≤x) && decide (x < (l0_0.length:Int)))=true
  ·
   rw[if_pos hc] at h;refine ⟨fun x hx=>?_,Option.some.inj h⟩;have:=List.all_eq_true.1 hc x hx;simpa using this
  ·
   rw[if_neg hc] at h;cases h
 have HC:=am' (fun (w1:World) (h1:Below w.heap.size w w1) (b1 b2:Nat) (e1:w1.heap[b1]? = some (.cells #[.slice A0_0 l0_0.length c0_0, .bool a0_1] 80 (0,0))) (e2:w1.cell? ⟨b2,0,none⟩=some (.bool a2)) =>
  ContainsFunc_any 91 #[.pointer (some ⟨b1,0,none⟩), .pointer (some ⟨b2,0,none⟩)] (fun x=>rdOf false l0_0 x != a2) (enters_of Try.func91 (by kernel_rfl) rfl) A1 c1 l1 w1 (Kd.C_below hr1 h1) hc1 hr1.2.1 (are_pred b1 b2 A0_0 c0_0 l0_0 a0_1 a2 l1 w1 e1 e2 (Kd.C_below hr0_0 h1) hin))
 clear hr0_0 hr1 h hin;have hu:=Try.underlying80
 go_enter Try.func77,Try.ntmps77
 go_wp2_with (fail)
 have hb1:Below w.heap.size w (w.alloc (.cells #[.slice A0_0 l0_0.length c0_0, .bool a0_1] 80)):=(Below.refl _ _).alloc (Nat.le_refl _) _
 refine (HC.out _ ?_ _ _ ?_ ?_).mono ?_
 ·
  exact ((Below.refl _ _).alloc (Nat.le_refl _) _).alloc (by rw[World.size_alloc];omega) _
 ·
  exact ((ba' (Below.refl _ _) _).block _ (by rw[World.size_alloc];omega)).trans (heap_alloc_new w _)
 ·
  exact cell_two _ _ _ _
 rintro e w2 ⟨rfl,hb2⟩
 have h2:=after_alloc hb2
 have HB2:=am' (after_alloc h2.1).1
 clear hb2 h2 hb1;go_wp2
 go_ret
 refine ⟨?_,HB2.out⟩
 have e:(fun x=>rdOf false l0_0 x != a2)=fun x => !(rdOf false l0_0 x == a2):=by funext x;rfl
 rw[e,← any_not_all]
 rfl
end Go.Proofs.Ytdomojenlofieaa.C1
