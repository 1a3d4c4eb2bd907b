import Derived.Test.YtmfofjloklafoaaC3zx0
import Derived.Test.YtmfofjloklafoaaC3zx1
import Derived.Test.YtmfofjloklafoaaC3zAl
namespace Go.Proofs.Ytmfofjloklafoaa.C3
open Go.RowKit Go.Proofs.YtmfofjloklafoaaW.PrintWords Go.Proofs.YtmfofjloklafoaaW.PrintLast Go.Proofs.YtmfofjloklafoaaW.PrintMore Go.Proofs.Ytmfofjloklafoaa.H
attribute [local go_sem] max2_int min2_int max_two min_two max_three min_three max_four min_four
set_option linter.unusedVariables false
set_option linter.unusedSimpArgs false
def laws_eqKeep.f (k:Nat) (a0_0:Int) (l0_1:List (List Int)) (a0_2:Int) (a1_0:Int) (l1_1:List (List Int)) (a1_2:Int):Option (Bool):=if a0_0=a1_0 then ((laws_eqIntSS.f k l0_1 l1_1).bind fun t131=>(if t131=true then (if a0_2=a1_2 then (some true) else (some false)) else (some false))) else (some false)
set_option maxHeartbeats 8000000 in
set_option maxRecDepth 100000 in
theorem laws_eqKeep.calls (k:Nat) (a0_0:Int) (A0_1:Option Addr) (c0_1:Nat) (l0_1:List (List Int)) (a0_2:Int) (a1_0:Int) (A1_1:Option Addr) (c1_1:Nat) (l1_1:List (List Int)) (a1_2:Int) (r:Bool) (w:World) (hr0_1:Kd.C (Kd.slice 3 (Kd.int .i64)) w A0_1 l0_1.length l0_1) (hc0_1:l0_1.length≤c0_1) (hr1_1:Kd.C (Kd.slice 3 (Kd.int .i64)) w A1_1 l1_1.length l1_1) (hc1_1:l1_1.length≤c1_1) (h:laws_eqKeep.f k a0_0 l0_1 a0_2 a1_0 l1_1 a1_2=some r) :
  Calls Try.prog 16 #[.agg #[.int .i64 a0_0, .slice A0_1 l0_1.length c0_1, .int .i64 a0_2], .agg #[.int .i64 a1_0, .slice A1_1 l1_1.length c1_1, .int .i64 a1_2]] w fun e w'=>e = .returned (.bool r)∧Below w.heap.size w w':=by
 have hu32:=Try.underlying32
 have HR0_1:=am' hr0_1
 have HC0_1:=am' hc0_1
 clear hr0_1 hc0_1;have HR1_1:=am' hr1_1
 have HC1_1:=am' hc1_1
 clear hr1_1 hc1_1;have HB:=am' (Below.refl w.heap.size w)
 have H:(if a0_0=a1_0 then ((laws_eqIntSS.f k l0_1 l1_1).bind fun t131=>(if t131=true then (if a0_2=a1_2 then (some true) else (some false)) else (some false))) else (some false))=some r:=h
 clear h;by_cases c3:a0_0=a1_0
 ·
  rw[if_pos c3] at H;have c3b0:(a0_0 == a1_0)=true:=beq_iff_eq.mpr c3;have c3b1:(a0_0 != a1_0)=false:=bne_eq_false_iff_eq.mpr c3;clear c3;replace H:=Option.bind_eq_some_iff.mp H;obtain ⟨t131,A40,H⟩:=H;replace H:(if t131=true then (if a0_2=a1_2 then (some true) else (some false)) else (some false))=some r:=H;have A4:=am' A40;clear A40;by_cases c5:t131=true
  ·
   subst c5;have H1:(if a0_2=a1_2 then (some true) else (some false))=some r:=by rw[if_pos rfl] at H;exact H
   clear H;have H:=H1;clear H1;by_cases c6:a0_2=a1_2
   ·
    rw[if_pos c6] at H;have c6b0:(a0_2 == a1_2)=true:=beq_iff_eq.mpr c6;have c6b1:(a0_2 != a1_2)=false:=bne_eq_false_iff_eq.mpr c6;clear c6;obtain rfl:=Option.some.inj H;go_enter Try.func16,Try.ntmps16;go_wp2_with (first|((with_reducible refine gate_dst (N:=2) rfl ?_);refine box_event ?hg (N:=2) ?hd (cs:=#[.int .i64 a0_0, .slice A0_1 l0_1.length c0_1, .int .i64 a0_2]) (t:=32) ?hr ?_;(case hd=>rfl);(case hg=>rfl);(case hr=>first|(go_simp;done)|(go_simp;rfl));intro gb129 hg w7 hbox hb;have n0_:=am' (below_step (by repeat (first|(with_reducible first|exact HB.out|apply ba'|apply bd'|apply be')|exact HB.out)) hb);have n1_:=am' (hbox);have n2_:=am' ((by rw[hg];exact (below_size (by repeat (first|(with_reducible first|exact HB.out|apply ba'|apply bd'|apply be')|exact HB.out))):w.heap.size≤gb129));have n3_:=am' ((by rw[hg];exact (below_size (by repeat (first|(with_reducible first|exact HB.out|apply ba'|apply bd'|apply be')|exact HB.out))):w.heap.size≤gb129));clear HB;have HB:=n0_;have BK129:=n1_;have GW129:=n2_;have GE129:=n3_;clear n0_ n1_ n2_ n3_;clear hb hbox hg)|((with_reducible refine gate_dst (N:=3) rfl ?_);refine box_event ?hg (N:=3) ?hd (cs:=#[.int .i64 a1_0, .slice A1_1 l1_1.length c1_1, .int .i64 a1_2]) (t:=32) ?hr ?_;(case hd=>rfl);(case hg=>rfl);(case hr=>first|(go_simp;done)|(go_simp;rfl));intro gb130 hg w8 hbox hb;have n0_:=am' (blk_below (g:=gb129) (o := .cells #[.int .i64 a0_0, .slice A0_1 l0_1.length c0_1, .int .i64 a0_2] 32 (0,0)) (by (with_reducible repeat (first|refine kn' ?_ _|refine kd' ?_|refine ka' ?_ _));exact BK129.out) hb);have n1_:=am' (below_step (by repeat (first|(with_reducible first|exact HB.out|apply ba'|apply bd'|apply be'|refine bs' ?_ GE129.out)|exact HB.out)) hb);have n2_:=am' (hbox);have n3_:=am' ((by rw[hg];exact (below_size (by repeat (first|(with_reducible first|exact HB.out|apply ba'|apply bd'|apply be'|refine bs' ?_ GE129.out)|exact HB.out))):w.heap.size≤gb130));have n4_:=am' ((by rw[hg];exact (below_size (by repeat (first|(with_reducible first|exact HB.out|apply ba'|apply bd'|apply be'|refine bs' ?_ GE129.out)|exact HB.out))):w.heap.size≤gb130));have n5_:=am' ((by rw[hg];exact Nat.ne_of_lt (blk_lt (g:=gb129) (o := .cells #[.int .i64 a0_0, .slice A0_1 l0_1.length c0_1, .int .i64 a0_2] 32 (0,0)) (by (with_reducible repeat (first|refine kn' ?_ _|refine kd' ?_|refine ka' ?_ _));exact BK129.out)):gb129≠gb130));have n6_:=am' ((by rw[hg];exact Nat.ne_of_gt (blk_lt (g:=gb129) (o := .cells #[.int .i64 a0_0, .slice A0_1 l0_1.length c0_1, .int .i64 a0_2] 32 (0,0)) (by (with_reducible repeat (first|refine kn' ?_ _|refine kd' ?_|refine ka' ?_ _));exact BK129.out)):gb130≠gb129));clear BK129;clear HB;have BK129:=n0_;have HB:=n1_;have BK130:=n2_;have GW130:=n3_;have GE130:=n4_;have NB129_130:=n5_;have NB130_129:=n6_;clear n0_ n1_ n2_ n3_ n4_ n5_ n6_;clear hb hbox hg;have hnb9:=NB129_130.out;have hnc9:=NB130_129.out;have hcz10_0:w8.cell? ⟨gb129,0,none⟩=some (.int .i64 a0_0):=(blk_cell BK129.out 0).trans rfl;have hcz10_1:w8.cell? ⟨gb129,1,none⟩=some (.slice A0_1 l0_1.length c0_1):=(blk_cell BK129.out 1).trans rfl;have hcz10_2:w8.cell? ⟨gb129,2,none⟩=some (.int .i64 a0_2):=(blk_cell BK129.out 2).trans rfl;have hfz10_0:=blk_frozen BK129.out 0;have hfz10_1:=blk_frozen BK129.out 1;have hfz10_2:=blk_frozen BK129.out 2;have hcz11_0:w8.cell? ⟨gb130,0,none⟩=some (.int .i64 a1_0):=(blk_cell BK130.out 0).trans rfl;have hcz11_1:w8.cell? ⟨gb130,1,none⟩=some (.slice A1_1 l1_1.length c1_1):=(blk_cell BK130.out 1).trans rfl;have hcz11_2:w8.cell? ⟨gb130,2,none⟩=some (.int .i64 a1_2):=(blk_cell BK130.out 2).trans rfl;have hfz11_0:=blk_frozen BK130.out 0;have hfz11_1:=blk_frozen BK130.out 1;have hfz11_2:=blk_frozen BK130.out 2)|((with_reducible refine gate_callee (f:=15) rfl ?_);refine goesL_ (some 14) rfl rfl Try.func15 (by kernel_rfl) rfl #[.slice A0_1 l0_1.length c0_1, .slice A1_1 l1_1.length c1_1] rfl (by (try simp only[List.map_toArray,List.map_cons,List.map_nil]);first|done|rfl|(simp only[List.length_drop,List.length_take];rfl)) ?_;(with_reducible refine (laws_eqIntSS.calls k _ _ l0_1 _ _ l1_1 true _ ?side1 ?side2 ?side3 ?side4 A4.out).mono ?_);(case side1=>repeat (first|exact (Kd.C_below HR0_1.out HB.out)|(with_reducible refine ca' ?_ _)|(with_reducible refine cn' ?_ _)|(with_reducible refine cd' ?_)));(case side2=>exact HC0_1.out);(case side3=>repeat (first|exact (Kd.C_below HR1_1.out HB.out)|(with_reducible refine ca' ?_ _)|(with_reducible refine cn' ?_ _)|(with_reducible refine cd' ?_)));(case side4=>exact HC1_1.out);rintro e w' ⟨rfl,⟨nd,rfl⟩⟩;refine ⟨_,rfl,?_⟩))
    go_ret
    exact ⟨by first|rfl|(simp[errW_none,errW_some] <;> rfl)|(simp[*,errW_none,errW_some] <;> rfl),by repeat (first|(with_reducible first|exact HB.out|apply ba'|apply bd'|apply be'|refine bs' ?_ GE129.out|refine bs' ?_ GE130.out)|exact HB.out)⟩
   ·
    rw[if_neg c6] at H;have c6b0:(a0_2 == a1_2)=false:=beq_eq_false_iff_ne.mpr c6;have c6b1:(a0_2 != a1_2)=true:=bne_iff_ne.mpr c6;obtain rfl:=Option.some.inj H;go_enter Try.func16,Try.ntmps16;go_wp2_with (first|((with_reducible refine gate_dst (N:=2) rfl ?_);refine box_event ?hg (N:=2) ?hd (cs:=#[.int .i64 a0_0, .slice A0_1 l0_1.length c0_1, .int .i64 a0_2]) (t:=32) ?hr ?_;(case hd=>rfl);(case hg=>rfl);(case hr=>first|(go_simp;done)|(go_simp;rfl));intro gb129 hg w12 hbox hb;have n0_:=am' (below_step (by repeat (first|(with_reducible first|exact HB.out|apply ba'|apply bd'|apply be')|exact HB.out)) hb);have n1_:=am' (hbox);have n2_:=am' ((by rw[hg];exact (below_size (by repeat (first|(with_reducible first|exact HB.out|apply ba'|apply bd'|apply be')|exact HB.out))):w.heap.size≤gb129));have n3_:=am' ((by rw[hg];exact (below_size (by repeat (first|(with_reducible first|exact HB.out|apply ba'|apply bd'|apply be')|exact HB.out))):w.heap.size≤gb129));clear HB;have HB:=n0_;have BK129:=n1_;have GW129:=n2_;have GE129:=n3_;clear n0_ n1_ n2_ n3_;clear hb hbox hg)|((with_reducible refine gate_dst (N:=3) rfl ?_);refine box_event ?hg (N:=3) ?hd (cs:=#[.int .i64 a1_0, .slice A1_1 l1_1.length c1_1, .int .i64 a1_2]) (t:=32) ?hr ?_;(case hd=>rfl);(case hg=>rfl);(case hr=>first|(go_simp;done)|(go_simp;rfl));intro gb130 hg w13 hbox hb;have n0_:=am' (blk_below (g:=gb129) (o := .cells #[.int .i64 a0_0, .slice A0_1 l0_1.length c0_1, .int .i64 a0_2] 32 (0,0)) (by (with_reducible repeat (first|refine kn' ?_ _|refine kd' ?_|refine ka' ?_ _));exact BK129.out) hb);have n1_:=am' (below_step (by repeat (first|(with_reducible first|exact HB.out|apply ba'|apply bd'|apply be'|refine bs' ?_ GE129.out)|exact HB.out)) hb);have n2_:=am' (hbox);have n3_:=am' ((by rw[hg];exact (below_size (by repeat (first|(with_reducible first|exact HB.out|apply ba'|apply bd'|apply be'|refine bs' ?_ GE129.out)|exact HB.out))):w.heap.size≤gb130));have n4_:=am' ((by rw[hg];exact (below_size (by repeat (first|(with_reducible first|exact HB.out|apply ba'|apply bd'|apply be'|refine bs' ?_ GE129.out)|exact HB.out))):w.heap.size≤gb130));have n5_:=am' ((by rw[hg];exact Nat.ne_of_lt (blk_lt (g:=gb129) (o := .cells #[.int .i64 a0_0, .slice A0_1 l0_1.length c0_1, .int .i64 a0_2] 32 (0,0)) (by (with_reducible repeat (first|refine kn' ?_ _|refine kd' ?_|refine ka' ?_ _));exact BK129.out)):gb129≠gb130));have n6_:=am' ((by rw[hg];exact Nat.ne_of_gt (blk_lt (g:=gb129) (o := .cells #[.int .i64 a0_0, .slice A0_1 l0_1.length c0_1, .int .i64 a0_2] 32 (0,0)) (by (with_reducible repeat (first|refine kn' ?_ _|refine kd' ?_|refine ka' ?_ _));exact BK129.out)):gb130≠gb129));clear BK129;clear HB;have BK129:=n0_;have HB:=n1_;have BK130:=n2_;have GW130:=n3_;have GE130:=n4_;have NB129_130:=n5_;have NB130_129:=n6_;clear n0_ n1_ n2_ n3_ n4_ n5_ n6_;clear hb hbox hg;have hnb14:=NB129_130.out;have hnc14:=NB130_129.out;have hcz15_0:w13.cell? ⟨gb129,0,none⟩=some (.int .i64 a0_0):=(blk_cell BK129.out 0).trans rfl;have hcz15_1:w13.cell? ⟨gb129,1,none⟩=some (.slice A0_1 l0_1.length c0_1):=(blk_cell BK129.out 1).trans rfl;have hcz15_2:w13.cell? ⟨gb129,2,none⟩=some (.int .i64 a0_2):=(blk_cell BK129.out 2).trans rfl;have hfz15_0:=blk_frozen BK129.out 0;have hfz15_1:=blk_frozen BK129.out 1;have hfz15_2:=blk_frozen BK129.out 2;have hcz16_0:w13.cell? ⟨gb130,0,none⟩=some (.int .i64 a1_0):=(blk_cell BK130.out 0).trans rfl;have hcz16_1:w13.cell? ⟨gb130,1,none⟩=some (.slice A1_1 l1_1.length c1_1):=(blk_cell BK130.out 1).trans rfl;have hcz16_2:w13.cell? ⟨gb130,2,none⟩=some (.int .i64 a1_2):=(blk_cell BK130.out 2).trans rfl;have hfz16_0:=blk_frozen BK130.out 0;have hfz16_1:=blk_frozen BK130.out 1;have hfz16_2:=blk_frozen BK130.out 2)|((with_reducible refine gate_callee (f:=15) rfl ?_);refine goesL_ (some 14) rfl rfl Try.func15 (by kernel_rfl) rfl #[.slice A0_1 l0_1.length c0_1, .slice A1_1 l1_1.length c1_1] rfl (by (try simp only[List.map_toArray,List.map_cons,List.map_nil]);first|done|rfl|(simp only[List.length_drop,List.length_take];rfl)) ?_;(with_reducible refine (laws_eqIntSS.calls k _ _ l0_1 _ _ l1_1 true _ ?side1 ?side2 ?side3 ?side4 A4.out).mono ?_);(case side1=>repeat (first|exact (Kd.C_below HR0_1.out HB.out)|(with_reducible refine ca' ?_ _)|(with_reducible refine cn' ?_ _)|(with_reducible refine cd' ?_)));(case side2=>exact HC0_1.out);(case side3=>repeat (first|exact (Kd.C_below HR1_1.out HB.out)|(with_reducible refine ca' ?_ _)|(with_reducible refine cn' ?_ _)|(with_reducible refine cd' ?_)));(case side4=>exact HC1_1.out);rintro e w' ⟨rfl,⟨nd,rfl⟩⟩;refine ⟨_,rfl,?_⟩))
    go_ret
    exact ⟨by first|rfl|(simp[errW_none,errW_some] <;> rfl)|(simp[*,errW_none,errW_some] <;> rfl),by repeat (first|(with_reducible first|exact HB.out|apply ba'|apply bd'|apply be'|refine bs' ?_ GE129.out|refine bs' ?_ GE130.out)|exact HB.out)⟩
  ·
   replace c5:=Bool.eq_false_iff.mpr c5;subst c5;have H1:(some false)=some r:=by rw[if_neg (show ¬ (false=true) by decide)] at H;exact H
   clear H;have H:=H1;clear H1;obtain rfl:=Option.some.inj H;go_enter Try.func16,Try.ntmps16;go_wp2_with (first|((with_reducible refine gate_dst (N:=2) rfl ?_);refine box_event ?hg (N:=2) ?hd (cs:=#[.int .i64 a0_0, .slice A0_1 l0_1.length c0_1, .int .i64 a0_2]) (t:=32) ?hr ?_;(case hd=>rfl);(case hg=>rfl);(case hr=>first|(go_simp;done)|(go_simp;rfl));intro gb129 hg w17 hbox hb;have n0_:=am' (below_step (by repeat (first|(with_reducible first|exact HB.out|apply ba'|apply bd'|apply be')|exact HB.out)) hb);have n1_:=am' (hbox);have n2_:=am' ((by rw[hg];exact (below_size (by repeat (first|(with_reducible first|exact HB.out|apply ba'|apply bd'|apply be')|exact HB.out))):w.heap.size≤gb129));have n3_:=am' ((by rw[hg];exact (below_size (by repeat (first|(with_reducible first|exact HB.out|apply ba'|apply bd'|apply be')|exact HB.out))):w.heap.size≤gb129));clear HB;have HB:=n0_;have BK129:=n1_;have GW129:=n2_;have GE129:=n3_;clear n0_ n1_ n2_ n3_;clear hb hbox hg)|((with_reducible refine gate_dst (N:=3) rfl ?_);refine box_event ?hg (N:=3) ?hd (cs:=#[.int .i64 a1_0, .slice A1_1 l1_1.length c1_1, .int .i64 a1_2]) (t:=32) ?hr ?_;(case hd=>rfl);(case hg=>rfl);(case hr=>first|(go_simp;done)|(go_simp;rfl));intro gb130 hg w18 hbox hb;have n0_:=am' (blk_below (g:=gb129) (o := .cells #[.int .i64 a0_0, .slice A0_1 l0_1.length c0_1, .int .i64 a0_2] 32 (0,0)) (by (with_reducible repeat (first|refine kn' ?_ _|refine kd' ?_|refine ka' ?_ _));exact BK129.out) hb);have n1_:=am' (below_step (by repeat (first|(with_reducible first|exact HB.out|apply ba'|apply bd'|apply be'|refine bs' ?_ GE129.out)|exact HB.out)) hb);have n2_:=am' (hbox);have n3_:=am' ((by rw[hg];exact (below_size (by repeat (first|(with_reducible first|exact HB.out|apply ba'|apply bd'|apply be'|refine bs' ?_ GE129.out)|exact HB.out))):w.heap.size≤gb130));have n4_:=am' ((by rw[hg];exact (below_size (by repeat (first|(with_reducible first|exact HB.out|apply ba'|apply bd'|apply be'|refine bs' ?_ GE129.out)|exact HB.out))):w.heap.size≤gb130));have n5_:=am' ((by rw[hg];exact Nat.ne_of_lt (blk_lt (g:=gb129) (o := .cells #[.int .i64 a0_0, .slice A0_1 l0_1.length c0_1, .int .i64 a0_2] 32 (0,0)) (by (with_reducible repeat (first|refine kn' ?_ _|refine kd' ?_|refine ka' ?_ _));exact BK129.out)):gb129≠gb130));have n6_:=am' ((by rw[hg];exact Nat.ne_of_gt (blk_lt (g:=gb129) (o := .cells #[.int .i64 a0_0, .slice A0_1 l0_1.length c0_1, .int .i64 a0_2] 32 (0,0)) (by (with_reducible repeat (first|refine kn' ?_ _|refine kd' ?_|refine ka' ?_ _));exact BK129.out)):gb130≠gb129));clear BK129;clear HB;have BK129:=n0_;have HB:=n1_;have BK130:=n2_;have GW130:=n3_;have GE130:=n4_;have NB129_130:=n5_;have NB130_129:=n6_;clear n0_ n1_ n2_ n3_ n4_ n5_ n6_;clear hb hbox hg;have hnb19:=NB129_130.out;have hnc19:=NB130_129.out;have hcz20_0:w18.cell? ⟨gb129,0,none⟩=some (.int .i64 a0_0):=(blk_cell BK129.out 0).trans rfl;have hcz20_1:w18.cell? ⟨gb129,1,none⟩=some (.slice A0_1 l0_1.length c0_1):=(blk_cell BK129.out 1).trans rfl;have hcz20_2:w18.cell? ⟨gb129,2,none⟩=some (.int .i64 a0_2):=(blk_cell BK129.out 2).trans rfl;have hfz20_0:=blk_frozen BK129.out 0;have hfz20_1:=blk_frozen BK129.out 1;have hfz20_2:=blk_frozen BK129.out 2;have hcz21_0:w18.cell? ⟨gb130,0,none⟩=some (.int .i64 a1_0):=(blk_cell BK130.out 0).trans rfl;have hcz21_1:w18.cell? ⟨gb130,1,none⟩=some (.slice A1_1 l1_1.length c1_1):=(blk_cell BK130.out 1).trans rfl;have hcz21_2:w18.cell? ⟨gb130,2,none⟩=some (.int .i64 a1_2):=(blk_cell BK130.out 2).trans rfl;have hfz21_0:=blk_frozen BK130.out 0;have hfz21_1:=blk_frozen BK130.out 1;have hfz21_2:=blk_frozen BK130.out 2)|((with_reducible refine gate_callee (f:=15) rfl ?_);refine goesL_ (some 14) rfl rfl Try.func15 (by kernel_rfl) rfl #[.slice A0_1 l0_1.length c0_1, .slice A1_1 l1_1.length c1_1] rfl (by (try simp only[List.map_toArray,List.map_cons,List.map_nil]);first|done|rfl|(simp only[List.length_drop,List.length_take];rfl)) ?_;(with_reducible refine (laws_eqIntSS.calls k _ _ l0_1 _ _ l1_1 false _ ?side1 ?side2 ?side3 ?side4 A4.out).mono ?_);(case side1=>repeat (first|exact (Kd.C_below HR0_1.out HB.out)|(with_reducible refine ca' ?_ _)|(with_reducible refine cn' ?_ _)|(with_reducible refine cd' ?_)));(case side2=>exact HC0_1.out);(case side3=>repeat (first|exact (Kd.C_below HR1_1.out HB.out)|(with_reducible refine ca' ?_ _)|(with_reducible refine cn' ?_ _)|(with_reducible refine cd' ?_)));(case side4=>exact HC1_1.out);rintro e w' ⟨rfl,⟨nd,rfl⟩⟩;refine ⟨_,rfl,?_⟩))
   go_ret
   exact ⟨by first|rfl|(simp[errW_none,errW_some] <;> rfl)|(simp[*,errW_none,errW_some] <;> rfl),by repeat (first|(with_reducible first|exact HB.out|apply ba'|apply bd'|apply be'|refine bs' ?_ GE129.out|refine bs' ?_ GE130.out)|exact HB.out)⟩
 ·
  rw[if_neg c3] at H;have c3b0:(a0_0 == a1_0)=false:=beq_eq_false_iff_ne.mpr c3;have c3b1:(a0_0 != a1_0)=true:=bne_iff_ne.mpr c3;obtain rfl:=Option.some.inj H;go_enter Try.func16,Try.ntmps16;go_wp2_with (first|((with_reducible refine gate_dst (N:=2) rfl ?_);refine box_event ?hg (N:=2) ?hd (cs:=#[.int .i64 a0_0, .slice A0_1 l0_1.length c0_1, .int .i64 a0_2]) (t:=32) ?hr ?_;(case hd=>rfl);(case hg=>rfl);(case hr=>first|(go_simp;done)|(go_simp;rfl));intro gb129 hg w22 hbox hb;have n0_:=am' (below_step (by repeat (first|(with_reducible first|exact HB.out|apply ba'|apply bd'|apply be')|exact HB.out)) hb);have n1_:=am' (hbox);have n2_:=am' ((by rw[hg];exact (below_size (by repeat (first|(with_reducible first|exact HB.out|apply ba'|apply bd'|apply be')|exact HB.out))):w.heap.size≤gb129));have n3_:=am' ((by rw[hg];exact (below_size (by repeat (first|(with_reducible first|exact HB.out|apply ba'|apply bd'|apply be')|exact HB.out))):w.heap.size≤gb129));clear HB;have HB:=n0_;have BK129:=n1_;have GW129:=n2_;have GE129:=n3_;clear n0_ n1_ n2_ n3_;clear hb hbox hg)|((with_reducible refine gate_dst (N:=3) rfl ?_);refine box_event ?hg (N:=3) ?hd (cs:=#[.int .i64 a1_0, .slice A1_1 l1_1.length c1_1, .int .i64 a1_2]) (t:=32) ?hr ?_;(case hd=>rfl);(case hg=>rfl);(case hr=>first|(go_simp;done)|(go_simp;rfl));intro gb130 hg w23 hbox hb;have n0_:=am' (blk_below (g:=gb129) (o := .cells #[.int .i64 a0_0, .slice A0_1 l0_1.length c0_1, .int .i64 a0_2] 32 (0,0)) (by (with_reducible repeat (first|refine kn' ?_ _|refine kd' ?_|refine ka' ?_ _));exact BK129.out) hb);have n1_:=am' (below_step (by repeat (first|(with_reducible first|exact HB.out|apply ba'|apply bd'|apply be'|refine bs' ?_ GE129.out)|exact HB.out)) hb);have n2_:=am' (hbox);have n3_:=am' ((by rw[hg];exact (below_size (by repeat (first|(with_reducible first|exact HB.out|apply ba'|apply bd'|apply be'|refine bs' ?_ GE129.out)|exact HB.out))):w.heap.size≤gb130));have n4_:=am' ((by rw[hg];exact (below_size (by repeat (first|(with_reducible first|exact HB.out|apply ba'|apply bd'|apply be'|refine bs' ?_ GE129.out)|exact HB.out))):w.heap.size≤gb130));have n5_:=am' ((by rw[hg];exact Nat.ne_of_lt (blk_lt (g:=gb129) (o := .cells #[.int .i64 a0_0, .slice A0_1 l0_1.length c0_1, .int .i64 a0_2] 32 (0,0)) (by (with_reducible repeat (first|refine kn' ?_ _|refine kd' ?_|refine ka' ?_ _));exact BK129.out)):gb129≠gb130));have n6_:=am' ((by rw[hg];exact Nat.ne_of_gt (blk_lt (g:=gb129) (o := .cells #[.int .i64 a0_0, .slice A0_1 l0_1.length c0_1, .int .i64 a0_2] 32 (0,0)) (by (with_reducible repeat (first|refine kn' ?_ _|refine kd' ?_|refine ka' ?_ _));exact BK129.out)):gb130≠gb129));clear BK129;clear HB;have BK129:=n0_;have HB:=n1_;have BK130:=n2_;have GW130:=n3_;have GE130:=n4_;have NB129_130:=n5_;have NB130_129:=n6_;clear n0_ n1_ n2_ n3_ n4_ n5_ n6_;clear hb hbox hg;have hnb24:=NB129_130.out;have hnc24:=NB130_129.out;have hcz25_0:w23.cell? ⟨gb129,0,none⟩=some (.int .i64 a0_0):=(blk_cell BK129.out 0).trans rfl;have hcz25_1:w23.cell? ⟨gb129,1,none⟩=some (.slice A0_1 l0_1.length c0_1):=(blk_cell BK129.out 1).trans rfl;have hcz25_2:w23.cell? ⟨gb129,2,none⟩=some (.int .i64 a0_2):=(blk_cell BK129.out 2).trans rfl;have hfz25_0:=blk_frozen BK129.out 0;have hfz25_1:=blk_frozen BK129.out 1;have hfz25_2:=blk_frozen BK129.out 2;have hcz26_0:w23.cell? ⟨gb130,0,none⟩=some (.int .i64 a1_0):=(blk_cell BK130.out 0).trans rfl;have hcz26_1:w23.cell? ⟨gb130,1,none⟩=some (.slice A1_1 l1_1.length c1_1):=(blk_cell BK130.out 1).trans rfl;have hcz26_2:w23.cell? ⟨gb130,2,none⟩=some (.int .i64 a1_2):=(blk_cell BK130.out 2).trans rfl;have hfz26_0:=blk_frozen BK130.out 0;have hfz26_1:=blk_frozen BK130.out 1;have hfz26_2:=blk_frozen BK130.out 2))
  go_ret
  exact ⟨by first|rfl|(simp[errW_none,errW_some] <;> rfl)|(simp[*,errW_none,errW_some] <;> rfl),by repeat (first|(with_reducible first|exact HB.out|apply ba'|apply bd'|apply be'|refine bs' ?_ GE129.out|refine bs' ?_ GE130.out)|exact HB.out)⟩
def spec_l1Own.f (l0:List Int):Option (List Int):=(some (([]:List Int):List Int)).bind fun y132=>(if y132.length+l0.length < 17592186044416 then (some (y132 ++ l0)) else (none))
set_option maxHeartbeats 8000000 in
set_option maxRecDepth 100000 in
theorem spec_l1Own.calls (A0:Option Addr) (c0:Nat) (l0:List Int) (r:List Int) (w:World) (hr0:Kd.C (Kd.int .i64) w A0 l0.length l0) (hc0:l0.length≤c0) (h:spec_l1Own.f l0=some r) :
  Calls Try.prog 97 #[.slice A0 l0.length c0] w fun e w'=>∃ v0_:Value,e = .returned (v0_)∧Kd.R (Kd.int .i64) 3 w' w.heap.size (fun _=>True) v0_ r∧Below w.heap.size w w':=by
 have HR0:=am' hr0
 have HC0:=am' hc0
 clear hr0 hc0;have HB:=am' (Below.refl w.heap.size w)
 have H:((some (([]:List Int):List Int)).bind fun y132=>(if y132.length+l0.length < 17592186044416 then (some (y132 ++ l0)) else (none)))=some r:=h
 clear h;obtain ⟨y132,hy132⟩:∃ y_:List Int,y_=(([]:List Int)):=⟨_,rfl⟩
 replace H:(if y132.length+l0.length < 17592186044416 then (some (y132 ++ l0)) else (none))=some r:=by first|(rw[hy132];with_reducible exact H)|(have H2_:=(Option.bind_some _ _).symm.trans H;rw[hy132];with_reducible exact H2_)|(have H2_:=(Option.bind_some _ _).symm.trans H;with_reducible exact H2_)|with_reducible exact H|(rw[hy132];exact H)|exact H
 have Ny132:=am' hy132
 clear hy132;by_cases c2:y132.length+l0.length < 17592186044416
 ·
  rw[if_pos c2] at H;have LMc2:=am' c2;clear c2;obtain ⟨y135,hy135⟩:∃ y_:List Int,y_=(y132 ++ l0):=⟨_,rfl⟩
  replace H:(some y135)=some r:=by first|(rw[hy135];with_reducible exact H)|(have H2_:=(Option.bind_some _ _).symm.trans H;rw[hy135];with_reducible exact H2_)|(have H2_:=(Option.bind_some _ _).symm.trans H;with_reducible exact H2_)|with_reducible exact H|(rw[hy135];exact H)|exact H
  have Ny135:=am' hy135;clear hy135;obtain rfl:=Option.some.inj H;go_enter Try.func97,Try.ntmps97;go_wp2_with (first|((with_reducible refine gate_dst (N:=3) rfl ?_);refine Kd.R_lit (Kd.int .i64) _ 3 ?hg (N:=3) ?hd (xs:=([]:List Int)) (inner:=[]) (ok:=fun _=>True) (okp:=fun _=>True) ?hr ?hp (fun _ hk=>hk) trivial (Below.refl _ _) (Nat.le_refl _) (by simp) ?_;(case hd=>rfl);(case hg=>rfl);(case hr=>first|(go_simp;done)|(go_simp;rfl));(case hp=>exact (Reps.none _ _));intro v133 w3 ho4 hb hg_ hnew_;clear hg_ hnew_;(first|rw[← Ny132.out] at ho4|(simp only[Int.reduceToNat] at ho4;rw[← Ny132.out] at ho4));have n0_:=am' (Kd.R_lower ho4 (below_size (by repeat (first|(with_reducible first|exact HB.out|apply ba'|apply bd'|apply be')|exact HB.out))));have n1_:=am' (below_step (by repeat (first|(with_reducible first|exact HB.out|apply ba'|apply bd'|apply be')|exact HB.out)) hb);clear HB;have HO134:=n0_;have HB:=n1_;clear n0_ n1_;clear hb ho4)|((with_reducible refine gate_builtin (b := .append) (xs:=#[.tmp 3, .tmp 4]) rfl ?_);at_builtin;refine Kd.R_append_rows (Kd.int .i64) (w0:=w) w.heap.size rfl (.tmp 3) (.tmp 4) 43 3 (.int .i64 0) 8 rfl Try.underlying43 info3 rfl (by decide) (by omega) v133 y132 l0 _ _ _ (fun _=>True) (fun _=>False) rfl rfl ?aO ?aR (fun _ _ h=>h) (fun _ h=>h.elim) ?aF ?aB ?aS ?aL ?_;(case aR=>repeat (first|exact (Kd.C_below HR0.out HB.out)|(with_reducible refine ca' ?_ _)|(with_reducible refine cn' ?_ _)|(with_reducible refine cd' ?_)));(case aB=>exact (by repeat (first|(with_reducible first|exact HB.out|apply ba'|apply bd'|apply be')|exact HB.out)));(case aF=>exact (fun _ _=>trivial));(case aO=>exact (by (with_reducible repeat (first|apply ra'|apply rn'|apply rw'));exact HO134.out));(case aS=>exact (below_size (by repeat (first|(with_reducible first|exact HB.out|apply ba'|apply bd'|apply be')|exact HB.out))));(case aL=>have:=LMc2.out;omega);intro v136 w5 ho hb hg hat;rw[← Ny135.out] at ho;have n0_:=am' (hb);have n1_:=am' (ho);clear HB;clear HO134;have HB:=n0_;have HO137:=n1_;clear n0_ n1_;clear ho hb hg hat));go_ret
  exact ⟨_,by first|rfl|(simp[errW_none,errW_some] <;> rfl)|(simp[*,errW_none,errW_some] <;> rfl),by (with_reducible repeat (first|apply ra'|apply rn'|apply rw'));exact HO137.out,by repeat (first|(with_reducible first|exact HB.out|apply ba'|apply bd'|apply be')|exact HB.out)⟩
 ·
  rw[if_neg c2] at H;exact absurd H (by simp)
mutual
def spec_paGroups.j0:Nat→List Int→List Int→Int→Int→List (List Int)→Option ((List (List Int)))
 | 0,_,_,_,_,_=>none
 | k+1,x0,x1,x2,x3,x9=>if (x1.length:Int)=x3 then (some x9) else (spec_paGroups.l0 k x0 x1 x3 x9 x2)
def spec_paGroups.l0:Nat→List Int→List Int→Int→List (List Int)→Int→Option ((List (List Int)))
 | 0,_,_,_,_,_=>none
 | k+1,x0,x1,x3,x9,x10=>if x10 < (x0.length:Int) then ((spec_l1Own.f x1).bind fun t147=>(if 0≤x10 then ((some (([rd x0 x10]:List Int):List Int)).bind fun y151=>(if t147.length+y151.length < 17592186044416 then ((spec_paGroups.f k x0 (t147 ++ y151) (wrap64 (x10+1)) x3).bind fun t157=>(if x9.length+t157.length < 5864062014805 then (spec_paGroups.l0 k x0 x1 x3 (x9 ++ t157) (wrap64 (x10+1))) else (none))) else (none))) else (none))) else (some x9)
def spec_paGroups.f:Nat→List Int→List Int→Int→Int→Option ((List (List Int)))
 | 0,_,_,_,_=>none
 | k+1,l0,l1,a2,a3=>if (l1.length:Int) > 0 then ((spec_l1Own.f l1).bind fun t138=>((some (([t138]:List (List Int)):List (List Int))).bind fun y141=>(if ([]:List (List Int)).length+y141.length < 5864062014805 then (spec_paGroups.j0 k l0 l1 a2 a3 (([]:List (List Int)) ++ y141)) else (none)))) else (spec_paGroups.j0 k l0 l1 a2 a3 ([]:List (List Int)))
end
def spec_paGroups.T9:Bool × List (List Nat × List Nat):=(true,[([],[]),([],[]),([],[]),([2],[2]),([],[]),([],[]),([4,5],[4,5]),([6],[6]),([7],[7]),([3,8,3],[3,8]),([],[]),([10],[10]),([],[]),([1,9,11,12,9],[1,9,11,12]),([0,13,13],[0,13]),([14,14,0,1,2,3,4,5,6,7,8,9,10,11,12,13,14],[0,14])])
def spec_paGroups.B9:List Nat:=[0,0,0,4,0,0,48,112,240,508,0,1024,0,8190,16383,32767]
theorem spec_paGroups.tab9:rtab .any (opsOf Try.f62 9)=spec_paGroups.T9:=by kernel_rfl
theorem spec_paGroups.bits9:waitsOk spec_paGroups.T9.2 spec_paGroups.B9=true:=by kernel_rfl
set_option maxHeartbeats 8000000 in
set_option maxRecDepth 100000 in
theorem spec_paGroups.calls (k:Nat):∀ (A0:Option Addr) (c0:Nat) (l0:List Int) (A1:Option Addr) (c1:Nat) (l1:List Int) (a2:Int) (a3:Int) (r:List (List Int)) (w:World) (hr0:Kd.C (Kd.int .i64) w A0 l0.length l0) (hc0:l0.length≤c0) (hr1:Kd.C (Kd.int .i64) w A1 l1.length l1) (hc1:l1.length≤c1) (h:spec_paGroups.f k l0 l1 a2 a3=some r),
  Calls Try.prog 62 #[.slice A0 l0.length c0, .slice A1 l1.length c1, .int .i64 a2, .int .i64 a3] w fun e w'=>∃ v0_:Value,e = .returned (v0_)∧Kd.N (Kd.slice 3 (Kd.int .i64)) 43 w' w.heap.size (fun k_=>(w.heap.size≤k_)) v0_ r∧Below w.heap.size w w':=by
 induction k using Nat.strongRecOn with
 | _ k ih =>
 intro A0 c0 l0 A1 c1 l1 a2 a3 r w hr0 hc0 hr1 hc1 h;cases k with
 | zero=>exact absurd h (by simp[spec_paGroups.f])
 | succ k =>
 simp only[spec_paGroups.f] at h
 have HR0:=am' hr0
 have HC0:=am' hc0
 clear hr0 hc0;have HR1:=am' hr1
 have HC1:=am' hc1
 clear hr1 hc1;have HB:=am' (Below.refl w.heap.size w)
 have H:(if (l1.length:Int) > 0 then ((spec_l1Own.f l1).bind fun t138=>((some (([t138]:List (List Int)):List (List Int))).bind fun y141=>(if ([]:List (List Int)).length+y141.length < 5864062014805 then (spec_paGroups.j0 k l0 l1 a2 a3 (([]:List (List Int)) ++ y141)) else (none)))) else (spec_paGroups.j0 k l0 l1 a2 a3 ([]:List (List Int))))=some r:=h
 clear h;have HC5:=am' H
 clear H;go_enter Try.func62,Try.ntmps62
 go_upto_if 13 with (fail)
 go_cut [9] (fun v9 wc=>∃ (kq:Nat) (x9_4:List (List Int)),Aside0 (spec_paGroups.j0 kq l0 l1 a2 a3 x9_4=some r)∧Aside0 (kq≤k)∧Aside0 (Kd.N (Kd.slice 3 (Kd.int .i64)) 43 wc w.heap.size (fun k_=>(w.heap.size≤k_)) v9 x9_4)∧Aside0 (Below w.heap.size w wc))
 case first =>
  have H:=HC5.out;clear HC5;by_cases c6:(l1.length:Int) > 0
  ·
   rw[if_pos c6] at H;have c6b0:decide (0 < (l1.length:Int))=true:=decide_eq_true c6;have c6b1:decide (0 < l1.length)=true:=decide_eq_true (by omega);clear c6;(first|rw[c6b0]|(simp only[i64_w,i32_w];rw[c6b0])|rw[c6b1]|skip)
   replace H:=Option.bind_eq_some_iff.mp H;obtain ⟨t138,A70,H⟩:=H;replace H:((some (([t138]:List (List Int)):List (List Int))).bind fun y141=>(if ([]:List (List Int)).length+y141.length < 5864062014805 then (spec_paGroups.j0 k l0 l1 a2 a3 (([]:List (List Int)) ++ y141)) else (none)))=some r:=H;have A7:=am' A70;clear A70;obtain ⟨y141,hy141⟩:∃ y_:List (List Int),y_=(([t138]:List (List Int))):=⟨_,rfl⟩
   replace H:(if ([]:List (List Int)).length+y141.length < 5864062014805 then (spec_paGroups.j0 k l0 l1 a2 a3 (([]:List (List Int)) ++ y141)) else (none))=some r:=by first|(rw[hy141];with_reducible exact H)|(have H2_:=(Option.bind_some _ _).symm.trans H;rw[hy141];with_reducible exact H2_)|(have H2_:=(Option.bind_some _ _).symm.trans H;with_reducible exact H2_)|with_reducible exact H|(rw[hy141];exact H)|exact H
   have Ny141:=am' hy141;clear hy141;by_cases c8:([]:List (List Int)).length+y141.length < 5864062014805
   ·
    rw[if_pos c8] at H;have LMc8:=am' c8;clear c8;obtain ⟨y144,hy144⟩:∃ y_:List (List Int),y_=(([]:List (List Int)) ++ y141):=⟨_,rfl⟩
    replace H:(spec_paGroups.j0 k l0 l1 a2 a3 y144)=some r:=by first|(rw[hy144];with_reducible exact H)|(have H2_:=(Option.bind_some _ _).symm.trans H;rw[hy144];with_reducible exact H2_)|(have H2_:=(Option.bind_some _ _).symm.trans H;with_reducible exact H2_)|with_reducible exact H|(rw[hy144];exact H)|exact H
    have Ny144:=am' hy144;clear hy144;have H':=am' H;clear H;go_wp2_with (first|((with_reducible refine gate_callee (f:=97) rfl ?_);refine goesL_ (some 16) rfl rfl Try.func97 (by kernel_rfl) rfl #[.slice A1 l1.length c1] rfl (by (try simp only[List.map_toArray,List.map_cons,List.map_nil]);first|done|rfl|(simp only[List.length_drop,List.length_take];rfl)) ?_;(with_reducible refine (spec_l1Own.calls _ _ l1 t138 _ ?side1 ?side2 A7.out).mono ?_);(case side1=>repeat (first|exact (Kd.C_below HR1.out HB.out)|(with_reducible refine ca' ?_ _)|(with_reducible refine cn' ?_ _)|(with_reducible refine cd' ?_)));(case side2=>exact HC1.out);rintro e w9 ⟨v139,rfl,ho0,hb⟩;refine ⟨_,rfl,?_⟩;have n0_:=am' (Kd.R_lower (Kd.R_newM (M:=fun k_=>(w.heap.size≤k_)) ho0 (below_size (by repeat (first|(with_reducible first|exact HB.out|apply ba'|apply bd'|apply be')|exact HB.out))) (fun k_ h_=>h_)) (below_size (by repeat (first|(with_reducible first|exact HB.out|apply ba'|apply bd'|apply be')|exact HB.out))));have n1_:=am' (below_step (by repeat (first|(with_reducible first|exact HB.out|apply ba'|apply bd'|apply be')|exact HB.out)) hb);clear HB;have HO140:=n0_;have HB:=n1_;clear n0_ n1_;(try clear hb);(try clear hb2);(try clear hk);(try clear hi);(try clear ho0);obtain ⟨Ao10,co10,eo10⟩:=Kd.R_slice HO140.out;subst eo10)|((with_reducible refine gate_dst (N:=17) rfl ?_);refine Kd.N_lit (Kd.slice 3 (Kd.int .i64)) _ 43 ?hg (N':=17) ?hd (xs:=([t138]:List (List Int))) (inner:=[.slice Ao10 t138.length co10]) (ok:=(fun k_=>(w.heap.size≤k_))) (okp:=(fun k_=>(w.heap.size≤k_))) ?hr ?hp (fun _ hk=>hk) ((show ∀ k_,w9.heap.size≤k_→(fun k_=>(w.heap.size≤k_)) k_ from fun k_ hk=>(Nat.le_trans (below_size (by repeat (first|(with_reducible first|exact HB.out|apply ba'|apply bd'|apply be')|exact HB.out))) hk)) _ (Nat.le_refl _)) (Below.refl _ _) (Nat.le_refl _) (by simp) ?_;(case hd=>rfl);(case hg=>rfl);(case hr=>first|(go_simp;done)|(go_simp;rfl));(case hp=>exact (Reps.one (show Kd.FK (Kd.slice 3 (Kd.int .i64)) _ _ t138 [.slice Ao10 t138.length co10] from (Kd.FK_slice_mk (Kd.R_reads' (Kd.R_mono (ok':=(fun k_=>(w.heap.size≤k_))) (HO140.out) (fun k_ hk=>hk.1))).2.1 (Kd.R_F (Kd.R_mono (ok':=(fun k_=>(w.heap.size≤k_))) (HO140.out) (fun k_ hk=>hk.1))))) (Reps.none _ _)));intro v142 w11 ho12 hb hg_ hnew_;clear hg_ hnew_;(first|rw[← Ny141.out] at ho12|(simp only[Int.reduceToNat] at ho12;rw[← Ny141.out] at ho12));have n0_:=am' (Kd.N_lower ho12 (below_size (by repeat (first|(with_reducible first|exact HB.out|apply ba'|apply bd'|apply be')|exact HB.out))));have n1_:=am' (below_step (by repeat (first|(with_reducible first|exact HB.out|apply ba'|apply bd'|apply be')|exact HB.out)) hb);clear HB;clear HO140;have HO143:=n0_;have HB:=n1_;clear n0_ n1_;clear hb ho12;obtain ⟨Ao14,co14,eo14⟩:=Kd.N_slice HO143.out;subst eo14)|((with_reducible refine gate_builtin (b := .append) (xs:=#[.tmp 14, .tmp 17]) rfl ?_);at_builtin;refine Kd.N_append_rows (Kd.slice 3 (Kd.int .i64)) (w0:=w) w.heap.size rfl (.tmp 14) (.tmp 17) 22 43 (.slice none 0 0) 24 rfl Try.underlying22 info43 rfl (by decide) (by omega) (.slice none 0 0) ([]:List (List Int)) y141 _ _ _ (fun k_=>(w.heap.size≤k_)) (fun k_=>((fun k_=>(w.heap.size≤k_))) k_∧some k_≠(.slice none 0 0:Value).ownBlock) rfl rfl ?aO ?aR (fun _ hk=>hk) ?aF ?aB ?aS ?aL ?_;(case aR=>exact (by skip;exact Kd.N_F (Kd.N_mono (ok':=(fun k_=>((fun k_=>(w.heap.size≤k_))) k_∧some k_≠(.slice none 0 0:Value).ownBlock)) (HO143.out) (fun k_ hk=>⟨hk,(by simp[Value.ownBlock])⟩))));(case aB=>exact (by repeat (first|(with_reducible first|exact HB.out|apply ba'|apply bd'|apply be')|exact HB.out)));(case aF=>exact (fun k_ hk=>(Nat.le_trans (below_size (by repeat (first|(with_reducible first|exact HB.out|apply ba'|apply bd'|apply be')|exact HB.out))) hk)));(case aO=>exact ((Kd.N_nil _ _ _ _ (fun k_=>(w.heap.size≤k_)))));(case aS=>exact (below_size (by repeat (first|(with_reducible first|exact HB.out|apply ba'|apply bd'|apply be')|exact HB.out))));(case aL=>have:=LMc8.out;omega);intro v145 w13 ho hb hg hat;rw[← Ny144.out] at ho;have n0_:=am' (Kd.N_afterv (Kd.N_apart_nil (by (with_reducible repeat (first|apply Kd.N_alloc|apply Kd.N_drewN|apply Kd.N_drew));exact HO143.out)) hg hat);have n1_:=am' (hb);have n2_:=am' (ho);clear HO143;clear HB;have HO143:=n0_;have HB:=n1_;have HO146:=n2_;clear n0_ n1_ n2_;clear ho hb hg hat))
    go_meet
    case rel=>exact ⟨_,(y144),H',⟨by first|omega|exact Nat.le_refl _⟩,⟨by (with_reducible repeat (first|apply Kd.N_alloc|apply Kd.N_drewN|apply Kd.N_drew));exact HO146.out⟩,⟨by repeat (first|(with_reducible first|exact HB.out|apply ba'|apply bd'|apply be')|exact HB.out)⟩⟩
   ·
    rw[if_neg c8] at H;exact absurd H (by simp)
  ·
   rw[if_neg c6] at H;have c6b0:decide (0 < (l1.length:Int))=false:=decide_eq_false c6;have c6b1:decide (0 < l1.length)=false:=decide_eq_false (by omega);clear c6;(first|rw[c6b0]|(simp only[i64_w,i32_w];rw[c6b0])|rw[c6b1]|skip)
   have H':=am' H;clear H;go_wp2;go_meet
   case rel=>exact ⟨_,(([]:List (List Int))),H',⟨by first|omega|exact Nat.le_refl _⟩,⟨by first|exact Kd.S_nil _ _ _ _ _|exact Kd.N_nil _ _ _ _ _|exact Kd.V_nil _ _ _ _ _|exact Kd.Q_nil _ _ _ _ _|exact Kd.R_nil _ _ _ _ _⟩,⟨by repeat (first|(with_reducible first|exact HB.out|apply ba'|apply bd'|apply be')|exact HB.out)⟩⟩
 case rest =>
  clear HC5;try clear c1
  try clear p2
  try clear c6
  try clear c6b0
  try clear c6b1
  try clear c8
  try clear c9
  obtain ⟨kq,x9_4,HA,HJ4,HO_9,HB⟩:=hcut;cases kq with
  | zero=>exact absurd HA.out (by simp[spec_paGroups.j0])
  | succ kj4 =>
   have H:=HA.out;clear HA;simp only[spec_paGroups.j0] at H;by_cases c15:(l1.length:Int)=a3
   ·
    rw[if_pos c15] at H;have c15b0:((l1.length:Int) == a3)=true:=beq_iff_eq.mpr c15;have c15b1:((l1.length:Int) != a3)=false:=bne_eq_false_iff_eq.mpr c15;clear c15;obtain rfl:=Option.some.inj H;go_wp2;go_ret
    exact ⟨_,by first|rfl|(simp[errW_none,errW_some] <;> rfl)|(simp[*,errW_none,errW_some] <;> rfl),by (with_reducible repeat (first|apply Kd.N_alloc|apply Kd.N_drewN|apply Kd.N_drew));exact HO_9.out,by repeat (first|(with_reducible first|exact HB.out|apply ba'|apply bd'|apply be')|exact HB.out)⟩
   ·
    rw[if_neg c15] at H;have c15b0:((l1.length:Int) == a3)=false:=beq_eq_false_iff_ne.mpr c15;have c15b1:((l1.length:Int) != a3)=true:=bne_iff_ne.mpr c15;have H':=am' H;clear H;go_wp2;go_loopg [9,10] kj4 (fun kq v9 v10 w'=>∃ (x9_2:List (List Int)) (x10_2:Int),v10 = .int .i64 x10_2∧Aside0 (spec_paGroups.l0 kq l0 l1 a3 x9_2 x10_2=some r)∧Aside0 (kq≤kj4)∧Aside0 (Kd.N (Kd.slice 3 (Kd.int .i64)) 43 w' w.heap.size (fun k_=>(w.heap.size≤k_)) v9 x9_2)∧Aside0 (Below w.heap.size w w'))
    case atStart=>exact ⟨(x9_4),(a2),(by first|rfl|(simp;done)|(simp[*];done)),H',⟨Nat.le_refl _⟩,⟨by (with_reducible repeat (first|apply Kd.N_alloc|apply Kd.N_drewN|apply Kd.N_drew));exact HO_9.out⟩,⟨by repeat (first|(with_reducible first|exact HB.out|apply ba'|apply bd'|apply be')|exact HB.out)⟩⟩
    case round =>
     clear H';try clear c1
     try clear p2
     try clear c6
     try clear c6b0
     try clear c6b1
     try clear c8
     try clear c9
     try clear c15
     try clear c15b0
     try clear c15b1
     try clear p2
     obtain ⟨x9_2,x10_2,rfl,HA,HK2,HO_9,HB⟩:=hrel;cases gk with
     | zero=>exact absurd HA.out (by simp[spec_paGroups.l0])
     | succ k2 =>
      have H:=HA.out;clear HA;simp only[spec_paGroups.l0] at H;by_cases c16:x10_2 < (l0.length:Int)
      ·
       rw[if_pos c16] at H;have c16b0:decide (x10_2 < (l0.length:Int))=true:=decide_eq_true c16;clear c16;replace H:=Option.bind_eq_some_iff.mp H;obtain ⟨t147,A170,H⟩:=H;replace H:(if 0≤x10_2 then ((some (([rd l0 x10_2]:List Int):List Int)).bind fun y151=>(if t147.length+y151.length < 17592186044416 then ((spec_paGroups.f k2 l0 (t147 ++ y151) (wrap64 (x10_2+1)) a3).bind fun t157=>(if x9_2.length+t157.length < 5864062014805 then (spec_paGroups.l0 k2 l0 l1 a3 (x9_2 ++ t157) (wrap64 (x10_2+1))) else (none))) else (none))) else (none))=some r:=H;have A17:=am' A170;clear A170;by_cases c18:0≤x10_2
       ·
        rw[if_pos c18] at H;have c18b0:decide (0≤x10_2)=true:=decide_eq_true c18;clear c18;obtain ⟨y151,hy151⟩:∃ y_:List Int,y_=(([rd l0 x10_2]:List Int)):=⟨_,rfl⟩
        replace H:(if t147.length+y151.length < 17592186044416 then ((spec_paGroups.f k2 l0 (t147 ++ y151) (wrap64 (x10_2+1)) a3).bind fun t157=>(if x9_2.length+t157.length < 5864062014805 then (spec_paGroups.l0 k2 l0 l1 a3 (x9_2 ++ t157) (wrap64 (x10_2+1))) else (none))) else (none))=some r:=by first|(rw[hy151];with_reducible exact H)|(have H2_:=(Option.bind_some _ _).symm.trans H;rw[hy151];with_reducible exact H2_)|(have H2_:=(Option.bind_some _ _).symm.trans H;with_reducible exact H2_)|with_reducible exact H|(rw[hy151];exact H)|exact H
        have Ny151:=am' hy151;clear hy151;by_cases c19:t147.length+y151.length < 17592186044416
        ·
         rw[if_pos c19] at H;have LMc19:=am' c19;clear c19;obtain ⟨y154,hy154⟩:∃ y_:List Int,y_=(t147 ++ y151):=⟨_,rfl⟩
         replace H:((spec_paGroups.f k2 l0 y154 (wrap64 (x10_2+1)) a3).bind fun t157=>(if x9_2.length+t157.length < 5864062014805 then (spec_paGroups.l0 k2 l0 l1 a3 (x9_2 ++ t157) (wrap64 (x10_2+1))) else (none)))=some r:=by first|(rw[hy154];with_reducible exact H)|(have H2_:=(Option.bind_some _ _).symm.trans H;rw[hy154];with_reducible exact H2_)|(have H2_:=(Option.bind_some _ _).symm.trans H;with_reducible exact H2_)|with_reducible exact H|(rw[hy154];exact H)|exact H
         have Ny154:=am' hy154;clear hy154;replace H:=Option.bind_eq_some_iff.mp H;obtain ⟨t157,A200,H⟩:=H;replace H:(if x9_2.length+t157.length < 5864062014805 then (spec_paGroups.l0 k2 l0 l1 a3 (x9_2 ++ t157) (wrap64 (x10_2+1))) else (none))=some r:=H;have A20:=am' A200;clear A200;by_cases c21:x9_2.length+t157.length < 5864062014805
         ·
          rw[if_pos c21] at H;have LMc21:=am' c21;clear c21;obtain ⟨y160,hy160⟩:∃ y_:List (List Int),y_=(x9_2 ++ t157):=⟨_,rfl⟩
          replace H:(spec_paGroups.l0 k2 l0 l1 a3 y160 (wrap64 (x10_2+1)))=some r:=by first|(rw[hy160];with_reducible exact H)|(have H2_:=(Option.bind_some _ _).symm.trans H;rw[hy160];with_reducible exact H2_)|(have H2_:=(Option.bind_some _ _).symm.trans H;with_reducible exact H2_)|with_reducible exact H|(rw[hy160];exact H)|exact H
          have Ny160:=am' hy160;clear hy160;have H':=am' H;clear H;obtain ⟨Ao22,co22,eo22⟩:=Kd.N_slice HO_9.out;subst eo22;try go_wp2
          have n0_:=am' (Kd.N_drew HO_9.out);have n1_:=am' (be' HB.out);clear HO_9;clear HB;have HO_9:=n0_;have HB:=n1_;clear n0_ n1_;have p150:0≤(x10_2:Int):=of_decide_eq_true (by first|(with_reducible assumption)|assumption);have q150:x10_2 < (l0.length:Int):=of_decide_eq_true (by first|(with_reducible assumption)|assumption);obtain ⟨ad150,e150,hx150_0⟩:=Kd.at_int HR0.out x10_2 p150 q150;have hw150_0:=hx150_0;cases e150;replace hx150_0:=(HB.out.cell (bl' w _ hx150_0)).trans hx150_0;replace p150:=eq_true p150;replace q150:=eq_true q150;refine start_ (n:=16) (S:=fun w'=>w'.cell? (ad150.add (x10_2).toNat)=some (.int .i64 (rd l0 x10_2))) (ds:=[]) #[false,false,false,false,false,false,false,false,false,false,false,false,false,false,false,false] (by kernel_rfl) rfl rfl (((HB.out.cell (bl' w _ hw150_0)).trans hw150_0)) (fun hHeld=>?_);refine with_tabW spec_paGroups.tab9 spec_paGroups.bits9 (fun HT_ HW_=>?_);generalize wr.drew=w23 at HO_9 HB hx150_0 hHeld ⊢
          refine pure_ (i:=0) (N:=some 31) (v:=?_) (a':=?_) #[true,false,false,false,false,false,false,false,false,false,false,false,false,false,false,false] rfl rfl (any_of HT_.out (by kernel_rfl)) (fun _ _ _ h=>h) (Or.inl ⟨by rfl,?_⟩) ?_ ?_
          rotate_left
          ·
           intro w';go_simp;with_reducible rfl
          rotate_left
          ·
           simp only[Act.put,sa',sb',sc',i64_w,i32_w];rfl
          refine pure_ (i:=1) (N:=some 32) (v:=?_) (a':=?_) #[true,true,false,false,false,false,false,false,false,false,false,false,false,false,false,false] rfl rfl (any_of HT_.out (by kernel_rfl)) (fun _ _ _ h=>h) (Or.inl ⟨by rfl,?_⟩) ?_ ?_
          rotate_left
          ·
           intro w';go_simp;with_reducible rfl
          rotate_left
          ·
           simp only[Act.put,sa',sb',sc',i64_w,i32_w];rfl
          refine pure_ (i:=2) (N:=some 33) (v:=?_) (a':=?_) #[true,true,true,false,false,false,false,false,false,false,false,false,false,false,false,false] rfl rfl (any_of HT_.out (by kernel_rfl)) (fun _ _ _ h=>h) (Or.inl ⟨by rfl,?_⟩) ?_ ?_
          rotate_left
          ·
           intro w';go_simp;with_reducible rfl
          rotate_left
          ·
           simp only[Act.put,sa',sb',sc',i64_w,i32_w];rfl
          refine pure_ (i:=4) (N:=some 35) (v:=?_) (a':=?_) #[true,true,true,false,true,false,false,false,false,false,false,false,false,false,false,false] rfl rfl (any_of HT_.out (by kernel_rfl)) (fun _ _ _ h=>h) (Or.inl ⟨by rfl,?_⟩) ?_ ?_
          rotate_left
          ·
           intro w';go_simp;with_reducible rfl
          rotate_left
          ·
           simp only[Act.put,sa',sb',sc',i64_w,i32_w];rfl
          refine pure_ (i:=5) (N:=some 36) (v:=?_) (a':=?_) #[true,true,true,false,true,true,false,false,false,false,false,false,false,false,false,false] rfl rfl (any_of HT_.out (by kernel_rfl)) (fun _ _ _ h=>h) (Or.inl ⟨by rfl,?_⟩) ?_ ?_
          rotate_left
          ·
           intro w';go_simp;with_reducible rfl
          rotate_left
          ·
           simp only[Act.put,sa',sb',sc',i64_w,i32_w];rfl
          refine pure_ (i:=6) (N:=some 37) (v:=?_) (a':=?_) #[true,true,true,false,true,true,true,false,false,false,false,false,false,false,false,false] rfl rfl (any_of HT_.out (by kernel_rfl)) (fun _ _ _ h=>h) (Or.inl ⟨by rfl,?_⟩) ?_ ?_
          rotate_left
          ·
           intro w';go_simp;with_reducible rfl
          rotate_left
          ·
           simp only[Act.put,sa',sb',sc',i64_w,i32_w];rfl
          refine pure_ (i:=10) (N:=some 41) (v:=?_) (a':=?_) #[true,true,true,false,true,true,true,false,false,false,true,false,false,false,false,false] rfl rfl (any_of HT_.out (by kernel_rfl)) (fun _ _ _ h=>h) (Or.inl ⟨by rfl,?_⟩) ?_ ?_
          rotate_left
          ·
           intro w';go_simp;with_reducible rfl
          rotate_left
          ·
           simp only[Act.put,sa',sb',sc',i64_w,i32_w];rfl
          refine pure_ (i:=11) (N:=some 42) (v:=?_) (a':=?_) #[true,true,true,false,true,true,true,false,false,false,true,true,false,false,false,false] rfl rfl (any_of HT_.out (by kernel_rfl)) (fun _ _ _ h=>h) (Or.inl ⟨by rfl,?_⟩) ?_ ?_
          rotate_left
          ·
           intro w';go_simp;with_reducible rfl
          rotate_left
          ·
           simp only[Act.put,sa',sb',sc',i64_w,i32_w];rfl
          refine pure_ (i:=12) (N:=some 43) (v:=?_) (a':=?_) #[true,true,true,false,true,true,true,false,false,false,true,true,true,false,false,false] rfl rfl (any_of HT_.out (by kernel_rfl)) (fun _ _ _ h=>h) (Or.inl ⟨by rfl,?_⟩) ?_ ?_
          rotate_left
          ·
           intro w';go_simp;with_reducible rfl
          rotate_left
          ·
           simp only[Act.put,sa',sb',sc',i64_w,i32_w];rfl
          refine take_ (i:=7) (N:=some 38) (v:=?_) (a':=?_) #[true,true,true,false,true,true,true,true,false,false,true,true,true,false,false,false] rfl rfl (take_ofW HT_.out HW_.out (by kernel_rfl)) (fun _ _ _ h=>h) (Or.inl ⟨by rfl,?_⟩) hHeld ?_ ?_
          rotate_left
          ·
           intro w' s0;go_simp;with_reducible rfl
          rotate_left
          ·
           simp only[Act.put,sa',sb',sc',i64_w,i32_w];rfl
          refine join_ (σ:=Value × Value) 4 #[true,true,true,true,true,true,true,true,true,false,true,true,true,false,false,false] (fun s_=>[(34,s_.1),(39,s_.2)]) (fun s_ w'=>(w'.cell? (ad150.add (x10_2).toNat)=some (.int .i64 (rd l0 x10_2)))∧(Kd.R (Kd.int .i64) 3 w' w.heap.size (fun k_=>(w.heap.size≤k_)∧some k_≠(s_.2:Value).ownBlock) s_.1 t147)∧(Kd.R (Kd.int .i64) 3 w' w.heap.size (fun k_=>(w.heap.size≤k_)∧some k_≠(s_.1:Value).ownBlock) s_.2 y151)∧(Kd.N (Kd.slice 3 (Kd.int .i64)) 43 w' w.heap.size (fun k_=>(w.heap.size≤k_)∧some k_≠(s_.1:Value).ownBlock∧some k_≠(s_.2:Value).ownBlock) (.slice Ao22 x9_2.length co22) x9_2)∧(Below w.heap.size w w')) ?_ ?_
          rotate_left
          ·
           intro hCont;refine two_ (i:=3) (j:=8) (Ni:=some 34) (Nj:=some 39) #[true,true,true,true,true,true,true,true,false,false,true,true,true,false,false,false] #[true,true,true,false,true,true,true,true,true,false,true,true,true,false,false,false] rfl rfl rfl rfl (two_of HT_.out (by kernel_rfl)) (by decide) (by decide) (fun K hK=>?_) (fun K hK=>?_)
           ·
            skip
            refine goes_ Try.func97 (by kernel_rfl) rfl #[.slice A1 l1.length c1] (by rfl) rfl rfl (by (try simp only[List.map_toArray,List.map_cons,List.map_nil]);first|done|rfl|(simp only[List.length_drop,List.length_take];rfl)) ?_
            with_reducible refine (spec_l1Own.calls _ _ l1 t147 _ ?side1 ?side2 A17.out).mono ?_
            (case side1=>repeat (first|exact (Kd.C_below HR1.out HB.out)|(with_reducible refine ca' ?_ _)|(with_reducible refine cn' ?_ _)|(with_reducible refine cd' ?_)))
            (case side2=>exact HC1.out)
            rintro e w24 ⟨v148,rfl,ho0,hb⟩
            refine ⟨_,rfl,?_⟩;have n0_:=am' (Kd.N_elder' (by (with_reducible repeat (first|apply Kd.N_alloc|apply Kd.N_drewN|apply Kd.N_drew));exact HO_9.out) (Kd.R_base ho0) hb);have n1_:=am' (Kd.R_lower (Kd.R_newM (M:=fun k_=>(w.heap.size≤k_)) ho0 (below_size (by repeat (first|(with_reducible first|exact HB.out|apply ba'|apply bd'|apply be')|exact HB.out))) (fun k_ h_=>h_)) (below_size (by repeat (first|(with_reducible first|exact HB.out|apply ba'|apply bd'|apply be')|exact HB.out))));have n2_:=am' (below_step (by repeat (first|(with_reducible first|exact HB.out|apply ba'|apply bd'|apply be')|exact HB.out)) hb);clear HO_9;clear HB;have HO_9:=n0_;have HO149:=n1_;have HB:=n2_;clear n0_ n1_ n2_;(try clear hb)
            (try clear hb2)
            (try clear hk)
            (try clear hi)
            (try clear ho0)
            refine hK.out _ _ (((HB.out.cell (bl' w _ hw150_0)).trans hw150_0)) (fun hHeld=>?_);clear hK K;refine norm_ (a':=?_) ?_ ?_
            rotate_left
            ·
             show Act.put _ (some 34) _=_
             simp only[Act.put,sa',sb',sc',i64_w,i32_w];rfl
            refine one_ (i:=8) (N:=some 39) #[true,true,true,true,true,true,true,true,true,false,true,true,true,false,false,false] rfl rfl (one_of HT_.out (by kernel_rfl)) (by decide) (fun K hK=>?_);refine Kd.R_lit_step (Kd.int .i64) _ 3 ?hg (N:=39) ?hd (xs:=([rd l0 x10_2]:List Int)) (inner:=[.int .i64 (rd l0 x10_2)]) (ok:=fun _=>True) (okp:=fun _=>True) ?hr ?hp (fun _ hk=>hk) trivial (Below.refl _ _) (Nat.le_refl _) (by simp) ?_;(case hd=>rfl);(case hg=>rfl);(case hr=>first|(go_simp;done)|(go_simp;rfl));(case hp=>exact (Reps.one (show Kd.M (Kd.int .i64) _ _ _ (rd l0 x10_2) [.int .i64 (rd l0 x10_2)] from rfl) (Reps.none _ _)))
            intro v152 w25 ho26 hb hg_ hnew_;clear hg_ hnew_;(first|rw[← Ny151.out] at ho26|(simp only[Int.reduceToNat] at ho26;rw[← Ny151.out] at ho26))
            have n0_:=am' (Kd.N_elder' (by (with_reducible repeat (first|apply Kd.N_alloc|apply Kd.N_drewN|apply Kd.N_drew));exact HO_9.out) (Kd.R_base ho26) hb);have n1_:=am' (Kd.R_elder' (by (with_reducible repeat (first|apply ra'|apply rn'|apply rw'));exact HO149.out) (Kd.R_base ho26) hb);have n2_:=am' (Kd.R_lower (Kd.R_new' (Kd.R_newM (M:=fun k_=>(w.heap.size≤k_)) ho26 (below_size (by repeat (first|(with_reducible first|exact HB.out|apply ba'|apply bd'|apply be')|exact HB.out))) (fun k_ h_=>h_)) (Kd.R_lt (by (with_reducible repeat (first|apply ra'|apply rn'|apply rw'));exact HO149.out))) (below_size (by repeat (first|(with_reducible first|exact HB.out|apply ba'|apply bd'|apply be')|exact HB.out))));have n3_:=am' (below_step (by repeat (first|(with_reducible first|exact HB.out|apply ba'|apply bd'|apply be')|exact HB.out)) hb);clear HO_9;clear HO149;clear HB;have HO_9:=n0_;have HO149:=n1_;have HO153:=n2_;have HB:=n3_;clear n0_ n1_ n2_ n3_;clear hb ho26;refine hK.out _ _ (((HB.out.cell (bl' w _ hw150_0)).trans hw150_0)) (fun hHeld=>?_);clear hK K;refine norm_ (a':=?_) ?_ ?_
            rotate_left
            ·
             show Act.put _ (some 39) _=_
             simp only[Act.put,sa',sb',sc',i64_w,i32_w];rfl
            exact norm_ (by simp only[putAll,Act.put,sa',sb',sc']) (hCont (v148,v152) _ ⟨hHeld,(by (with_reducible repeat (first|apply ra'|apply rn'|apply rw'));exact Kd.R_mono HO149.out (fun _ hk=>⟨hk.1.1,hk.2⟩)),(by (with_reducible repeat (first|apply ra'|apply rn'|apply rw'));exact Kd.R_mono HO153.out (fun _ hk=>⟨hk.1.1,hk.2⟩)),(by (with_reducible repeat (first|apply Kd.N_alloc|apply Kd.N_drewN|apply Kd.N_drew));exact Kd.N_mono HO_9.out (fun _ hk=>⟨hk.1.1,⟨hk.1.2,hk.2⟩⟩)),(by repeat (first|(with_reducible first|exact HB.out|apply ba'|apply bd'|apply be')|exact HB.out))⟩)
           ·
            skip
            refine Kd.R_lit_step (Kd.int .i64) _ 3 ?hg (N:=39) ?hd (xs:=([rd l0 x10_2]:List Int)) (inner:=[.int .i64 (rd l0 x10_2)]) (ok:=fun _=>True) (okp:=fun _=>True) ?hr ?hp (fun _ hk=>hk) trivial (Below.refl _ _) (Nat.le_refl _) (by simp) ?_;(case hd=>rfl);(case hg=>rfl);(case hr=>first|(go_simp;done)|(go_simp;rfl));(case hp=>exact (Reps.one (show Kd.M (Kd.int .i64) _ _ _ (rd l0 x10_2) [.int .i64 (rd l0 x10_2)] from rfl) (Reps.none _ _)))
            intro v152 w24 ho25 hb hg_ hnew_;clear hg_ hnew_;(first|rw[← Ny151.out] at ho25|(simp only[Int.reduceToNat] at ho25;rw[← Ny151.out] at ho25))
            have n0_:=am' (Kd.N_elder' (by (with_reducible repeat (first|apply Kd.N_alloc|apply Kd.N_drewN|apply Kd.N_drew));exact HO_9.out) (Kd.R_base ho25) hb);have n1_:=am' (Kd.R_lower (Kd.R_newM (M:=fun k_=>(w.heap.size≤k_)) ho25 (below_size (by repeat (first|(with_reducible first|exact HB.out|apply ba'|apply bd'|apply be')|exact HB.out))) (fun k_ h_=>h_)) (below_size (by repeat (first|(with_reducible first|exact HB.out|apply ba'|apply bd'|apply be')|exact HB.out))));have n2_:=am' (below_step (by repeat (first|(with_reducible first|exact HB.out|apply ba'|apply bd'|apply be')|exact HB.out)) hb);clear HO_9;clear HB;have HO_9:=n0_;have HO153:=n1_;have HB:=n2_;clear n0_ n1_ n2_;clear hb ho25;refine hK.out _ _ (((HB.out.cell (bl' w _ hw150_0)).trans hw150_0)) (fun hHeld=>?_);clear hK K;refine norm_ (a':=?_) ?_ ?_
            rotate_left
            ·
             show Act.put _ (some 39) _=_
             simp only[Act.put,sa',sb',sc',i64_w,i32_w];rfl
            refine one_ (i:=3) (N:=some 34) #[true,true,true,true,true,true,true,true,true,false,true,true,true,false,false,false] rfl rfl (one_of HT_.out (by kernel_rfl)) (by decide) (fun K hK=>?_);refine goes_ Try.func97 (by kernel_rfl) rfl #[.slice A1 l1.length c1] (by rfl) rfl rfl (by (try simp only[List.map_toArray,List.map_cons,List.map_nil]);first|done|rfl|(simp only[List.length_drop,List.length_take];rfl)) ?_
            with_reducible refine (spec_l1Own.calls _ _ l1 t147 _ ?side1 ?side2 A17.out).mono ?_
            (case side1=>repeat (first|exact (Kd.C_below HR1.out HB.out)|(with_reducible refine ca' ?_ _)|(with_reducible refine cn' ?_ _)|(with_reducible refine cd' ?_)))
            (case side2=>exact HC1.out)
            rintro e w26 ⟨v148,rfl,ho0,hb⟩
            refine ⟨_,rfl,?_⟩;have n0_:=am' (Kd.N_elder' (by (with_reducible repeat (first|apply Kd.N_alloc|apply Kd.N_drewN|apply Kd.N_drew));exact HO_9.out) (Kd.R_base ho0) hb);have n1_:=am' (Kd.R_elder' (by (with_reducible repeat (first|apply ra'|apply rn'|apply rw'));exact HO153.out) (Kd.R_base ho0) hb);have n2_:=am' (Kd.R_lower (Kd.R_new' (Kd.R_newM (M:=fun k_=>(w.heap.size≤k_)) ho0 (below_size (by repeat (first|(with_reducible first|exact HB.out|apply ba'|apply bd'|apply be')|exact HB.out))) (fun k_ h_=>h_)) (Kd.R_lt (by (with_reducible repeat (first|apply ra'|apply rn'|apply rw'));exact HO153.out))) (below_size (by repeat (first|(with_reducible first|exact HB.out|apply ba'|apply bd'|apply be')|exact HB.out))));have n3_:=am' (below_step (by repeat (first|(with_reducible first|exact HB.out|apply ba'|apply bd'|apply be')|exact HB.out)) hb);clear HO_9;clear HO153;clear HB;have HO_9:=n0_;have HO153:=n1_;have HO149:=n2_;have HB:=n3_;clear n0_ n1_ n2_ n3_;(try clear hb)
            (try clear hb2)
            (try clear hk)
            (try clear hi)
            (try clear ho0)
            refine hK.out _ _ (((HB.out.cell (bl' w _ hw150_0)).trans hw150_0)) (fun hHeld=>?_);clear hK K;refine norm_ (a':=?_) ?_ ?_
            rotate_left
            ·
             show Act.put _ (some 34) _=_
             simp only[Act.put,sa',sb',sc',i64_w,i32_w];rfl
            exact norm_ (by simp only[putAll,Act.put,sa',sb',sc']) (hCont (v148,v152) _ ⟨hHeld,(by (with_reducible repeat (first|apply ra'|apply rn'|apply rw'));exact Kd.R_mono HO149.out (fun _ hk=>⟨hk.1.1,hk.2⟩)),(by (with_reducible repeat (first|apply ra'|apply rn'|apply rw'));exact Kd.R_mono HO153.out (fun _ hk=>⟨hk.1.1,hk.2⟩)),(by (with_reducible repeat (first|apply Kd.N_alloc|apply Kd.N_drewN|apply Kd.N_drew));exact Kd.N_mono HO_9.out (fun _ hk=>⟨hk.1.1,⟨hk.2,hk.1.2⟩⟩)),(by repeat (first|(with_reducible first|exact HB.out|apply ba'|apply bd'|apply be')|exact HB.out))⟩)
          rintro ⟨v148,v152⟩ w27 ⟨hS_,h0_,h1_,h2_,h3_⟩
          have n0_:Aside0 (Kd.R (Kd.int .i64) 3 w27 w.heap.size (fun k_=>(w.heap.size≤k_)∧some k_≠(v152:Value).ownBlock) v148 t147):=⟨h0_⟩
          have n1_:Aside0 (Kd.R (Kd.int .i64) 3 w27 w.heap.size (fun k_=>(w.heap.size≤k_)∧some k_≠(v148:Value).ownBlock) v152 y151):=⟨h1_⟩
          have n2_:Aside0 (Kd.N (Kd.slice 3 (Kd.int .i64)) 43 w27 w.heap.size (fun k_=>(w.heap.size≤k_)∧some k_≠(v148:Value).ownBlock∧some k_≠(v152:Value).ownBlock) (.slice Ao22 x9_2.length co22) x9_2):=⟨h2_⟩
          have n3_:Aside0 (Below w.heap.size w w27):=⟨h3_⟩
          clear HO_9;clear HB;clear h0_ h1_ h2_ h3_;have HO149:=n0_;have HO153:=n1_;have HO_9:=n2_;have HB:=n3_;clear n0_ n1_ n2_ n3_;have hHeld:w27.cell? (ad150.add (x10_2).toNat)=some (.int .i64 (rd l0 x10_2)):=hS_;obtain ⟨Ao29,co29,eo29⟩:=Kd.R_slice HO153.out
          (first|subst eo29|(injection eo29 with f1_ f2_ f3_;have f4_:=f1_.symm;have f5_:=f3_.symm;clear f1_ f2_ f3_;subst f4_;subst f5_))
          refine norm_ (a':=?_) ?_ ?_
          rotate_left
          ·
           simp only[putAll,Act.put,sa',sb',sc'];rfl
          refine one_ (i:=9) (N:=some 40) #[true,true,true,true,true,true,true,true,true,true,true,true,true,false,false,false] rfl rfl (one_of HT_.out (by kernel_rfl)) (by decide) (fun K hK=>?_);refine Kd.R_append_rows_step (Kd.int .i64) (w0:=w) w.heap.size (by rfl) (.tmp 34) (.tmp 39) 43 3 (.int .i64 0) 8 rfl Try.underlying43 info3 rfl (by decide) (by omega) v148 t147 y151 _ _ _ (fun k_=>(w.heap.size≤k_)∧some k_≠(.slice Ao29 y151.length co29:Value).ownBlock) (fun _=>False) rfl rfl ?aO ?aR (fun _ _ h=>h) (fun _ h=>h.elim) ?aF ?aB ?aS ?aL ?_
          (case aR=>repeat (first|exact (Kd.R_reads' HO153.out).2.2|(with_reducible refine ca' ?_ _)|(with_reducible refine cn' ?_ _)|(with_reducible refine cd' ?_)))
          (case aB=>exact (by repeat (first|(with_reducible first|exact HB.out|apply ba'|apply bd'|apply be')|exact HB.out)))
          (case aF=>exact (fun k_ hk=>⟨(Nat.le_trans (below_size (by repeat (first|(with_reducible first|exact HB.out|apply ba'|apply bd'|apply be')|exact HB.out))) hk),Kd.fresh' (Kd.R_lt (by (with_reducible repeat (first|apply ra'|apply rn'|apply rw'));exact HO153.out)) k_ hk⟩))
          (case aO=>exact (by (with_reducible repeat (first|apply ra'|apply rn'|apply rw'));exact HO149.out))
          (case aS=>exact (below_size (by repeat (first|(with_reducible first|exact HB.out|apply ba'|apply bd'|apply be')|exact HB.out))))
          (case aL=>have:=LMc19.out;omega)
          intro v155 w28 ho hb hg hat;rw[← Ny154.out] at ho;have n0_:=am' (Kd.N_afterv (ok:=(fun k_=>(w.heap.size≤k_)∧some k_≠(.slice Ao29 y151.length co29:Value).ownBlock)) (by (with_reducible repeat (first|apply Kd.N_alloc|apply Kd.N_drewN|apply Kd.N_drew));exact Kd.N_mono HO_9.out (fun _ hk=>⟨⟨hk.1,hk.2.2⟩,hk.2.1⟩)) hg hat);have n1_:=am' (Kd.R_after (ok:=(fun k_=>(w.heap.size≤k_))) (by (with_reducible repeat (first|apply ra'|apply rn'|apply rw'));exact HO153.out) hg hat);have n2_:=am' (hb);have n3_:=am' (ho);clear HO_9;clear HO153;clear HB;clear HO149;have HO_9:=n0_;have HO153:=n1_;have HB:=n2_;have HO156:=n3_;clear n0_ n1_ n2_ n3_;clear ho hb hg hat;obtain ⟨Ao30,co30,eo30⟩:=Kd.R_slice HO156.out
          (first|subst eo30|(injection eo30 with f1_ f2_ f3_;have f4_:=f1_.symm;have f5_:=f3_.symm;clear f1_ f2_ f3_;subst f4_;subst f5_))
          refine hK.out _ _ (((HB.out.cell (bl' w _ hw150_0)).trans hw150_0)) (fun hHeld=>?_);clear hK K;refine norm_ (a':=?_) ?_ ?_
          rotate_left
          ·
           show Act.put _ (some 40) _=_
           simp only[Act.put,sa',sb',sc',i64_w,i32_w];rfl
          refine one_ (i:=13) (N:=some 44) #[true,true,true,true,true,true,true,true,true,true,true,true,true,true,false,false] rfl rfl (one_of HT_.out (by kernel_rfl)) (by decide) (fun K hK=>?_);refine goes_ Try.func62 (by kernel_rfl) rfl #[.slice (some ad150) l0.length c0, .slice Ao30 y154.length co30, .int .i64 (wrap64 (x10_2+1)), .int .i64 a3] (by rfl) rfl rfl (by (try simp only[List.map_toArray,List.map_cons,List.map_nil]);first|done|rfl|(simp only[List.length_drop,List.length_take];rfl)) ?_
          with_reducible refine (ih k2 (by have:=HJ4.out;have:=HK2.out;omega) _ _ l0 _ _ y154 (wrap64 (x10_2+1)) a3 t157 _ ?side1 ?side2 ?side3 ?side4 A20.out).mono ?_
          (case side1=>repeat (first|exact (Kd.C_below HR0.out HB.out)|(with_reducible refine ca' ?_ _)|(with_reducible refine cn' ?_ _)|(with_reducible refine cd' ?_)))
          (case side2=>exact HC0.out)
          (case side3=>repeat (first|exact (Kd.R_reads' HO156.out).2.2|(with_reducible refine ca' ?_ _)|(with_reducible refine cn' ?_ _)|(with_reducible refine cd' ?_)))
          (case side4=>exact (Kd.R_reads' HO156.out).2.1)
          rintro e w31 ⟨v158,rfl,ho0,hb⟩
          refine ⟨_,rfl,?_⟩;have n0_:=am' (Kd.N_elder' (by (with_reducible repeat (first|apply Kd.N_alloc|apply Kd.N_drewN|apply Kd.N_drew));exact HO_9.out) (Kd.N_base ho0) hb);have n1_:=am' (Kd.R_below (by (with_reducible repeat (first|apply ra'|apply rn'|apply rw'));exact HO153.out) hb);have n2_:=am' (Kd.R_below (by (with_reducible repeat (first|apply ra'|apply rn'|apply rw'));exact HO156.out) hb);have n3_:=am' (Kd.N_lower (Kd.N_mono (ok':=fun k_=>(w.heap.size≤k_)∧some k_≠(.slice Ao22 x9_2.length co22:Value).ownBlock∧some k_≠(.slice Ao29 y151.length co29:Value).ownBlock∧some k_≠(.slice Ao30 y154.length co30:Value).ownBlock) ho0 (fun k_ hk_=>⟨(Nat.le_trans (below_size (by repeat (first|(with_reducible first|exact HB.out|apply ba'|apply bd'|apply be')|exact HB.out))) hk_),(Kd.fresh' (Kd.N_lt (by (with_reducible repeat (first|apply Kd.N_alloc|apply Kd.N_drewN|apply Kd.N_drew));exact HO_9.out)) k_ hk_),(Kd.fresh' (Kd.R_lt (by (with_reducible repeat (first|apply ra'|apply rn'|apply rw'));exact HO153.out)) k_ hk_),(Kd.fresh' (Kd.R_lt (by (with_reducible repeat (first|apply ra'|apply rn'|apply rw'));exact HO156.out)) k_ hk_)⟩)) (below_size (by repeat (first|(with_reducible first|exact HB.out|apply ba'|apply bd'|apply be')|exact HB.out))));have n4_:=am' (below_step (by repeat (first|(with_reducible first|exact HB.out|apply ba'|apply bd'|apply be')|exact HB.out)) hb);clear HO_9;clear HO153;clear HO156;clear HB;have HO_9:=n0_;have HO153:=n1_;have HO156:=n2_;have HO159:=n3_;have HB:=n4_;clear n0_ n1_ n2_ n3_ n4_;(try clear hb)
          (try clear hb2)
          (try clear hk)
          (try clear hi)
          (try clear ho0)
          obtain ⟨Ao33,co33,eo33⟩:=Kd.N_slice HO159.out
          (first|subst eo33|(injection eo33 with f1_ f2_ f3_;have f4_:=f1_.symm;have f5_:=f3_.symm;clear f1_ f2_ f3_;subst f4_;subst f5_))
          refine hK.out _ _ (((HB.out.cell (bl' w _ hw150_0)).trans hw150_0)) (fun hHeld=>?_);clear hK K;refine norm_ (a':=?_) ?_ ?_
          rotate_left
          ·
           show Act.put _ (some 44) _=_
           simp only[Act.put,sa',sb',sc',i64_w,i32_w];rfl
          refine one_ (i:=14) (N:=some 45) #[true,true,true,true,true,true,true,true,true,true,true,true,true,true,true,false] rfl rfl (one_of HT_.out (by kernel_rfl)) (by decide) (fun K hK=>?_);refine Kd.N_append_rows_step (Kd.slice 3 (Kd.int .i64)) (w0:=w) w.heap.size (by rfl) (.tmp 31) (.tmp 44) 22 43 (.slice none 0 0) 24 rfl Try.underlying22 info43 rfl (by decide) (by omega) (.slice Ao22 x9_2.length co22) x9_2 t157 _ _ _ (fun k_=>(w.heap.size≤k_)∧some k_≠(.slice Ao29 y151.length co29:Value).ownBlock∧some k_≠(.slice Ao30 y154.length co30:Value).ownBlock) (fun k_=>((fun k_=>(w.heap.size≤k_)∧some k_≠(.slice Ao29 y151.length co29:Value).ownBlock∧some k_≠(.slice Ao30 y154.length co30:Value).ownBlock)) k_∧some k_≠(.slice Ao22 x9_2.length co22:Value).ownBlock) rfl rfl ?aO ?aR (fun _ hk=>hk) ?aF ?aB ?aS ?aL ?_
          (case aR=>exact (by skip;exact Kd.N_F (Kd.N_mono (ok':=(fun k_=>((fun k_=>(w.heap.size≤k_)∧some k_≠(.slice Ao29 y151.length co29:Value).ownBlock∧some k_≠(.slice Ao30 y154.length co30:Value).ownBlock)) k_∧some k_≠(.slice Ao22 x9_2.length co22:Value).ownBlock)) (HO159.out) (fun k_ hk=>⟨⟨hk.1,⟨hk.2.2.1,hk.2.2.2⟩⟩,hk.2.1⟩))))
          (case aB=>exact (by repeat (first|(with_reducible first|exact HB.out|apply ba'|apply bd'|apply be')|exact HB.out)))
          (case aF=>exact (fun k_ hk=>⟨(Nat.le_trans (below_size (by repeat (first|(with_reducible first|exact HB.out|apply ba'|apply bd'|apply be')|exact HB.out))) hk),Kd.fresh' (Kd.R_lt (by (with_reducible repeat (first|apply ra'|apply rn'|apply rw'));exact HO153.out)) k_ hk,Kd.fresh' (Kd.R_lt (by (with_reducible repeat (first|apply ra'|apply rn'|apply rw'));exact HO156.out)) k_ hk⟩))
          (case aO=>exact (by (with_reducible repeat (first|apply Kd.N_alloc|apply Kd.N_drewN|apply Kd.N_drew));exact Kd.N_mono HO_9.out (fun _ hk=>⟨hk.1.1.1,⟨hk.1.1.2,hk.1.2⟩⟩)))
          (case aS=>exact (below_size (by repeat (first|(with_reducible first|exact HB.out|apply ba'|apply bd'|apply be')|exact HB.out))))
          (case aL=>have:=LMc21.out;omega)
          intro v161 w32 ho hb hg hat;rw[← Ny160.out] at ho;have n0_:=am' (Kd.R_over' (by (with_reducible repeat (first|apply ra'|apply rn'|apply rw'));exact HO153.out) (Kd.N_typed (by (with_reducible repeat (first|apply Kd.N_alloc|apply Kd.N_drewN|apply Kd.N_drew));exact HO_9.out)) (by decide) hg);have n1_:=am' (Kd.R_over' (by (with_reducible repeat (first|apply ra'|apply rn'|apply rw'));exact HO156.out) (Kd.N_typed (by (with_reducible repeat (first|apply Kd.N_alloc|apply Kd.N_drewN|apply Kd.N_drew));exact HO_9.out)) (by decide) hg);have n2_:=am' (Kd.N_afterv (ok:=(fun k_=>(w.heap.size≤k_)∧some k_≠(.slice Ao29 y151.length co29:Value).ownBlock∧some k_≠(.slice Ao30 y154.length co30:Value).ownBlock)) (by (with_reducible repeat (first|apply Kd.N_alloc|apply Kd.N_drewN|apply Kd.N_drew));exact Kd.N_mono HO159.out (fun _ hk=>⟨⟨hk.1,⟨hk.2.2.1,hk.2.2.2⟩⟩,hk.2.1⟩)) hg hat);have n3_:=am' (hb);have n4_:=am' (ho);clear HO153;clear HO156;clear HO159;clear HB;clear HO_9;have HO153:=n0_;have HO156:=n1_;have HO159:=n2_;have HB:=n3_;have HO162:=n4_;clear n0_ n1_ n2_ n3_ n4_;clear ho hb hg hat;refine hK.out _ _ (((HB.out.cell (bl' w _ hw150_0)).trans hw150_0)) (fun hHeld=>?_);clear hK K;refine norm_ (a':=?_) ?_ ?_
          rotate_left
          ·
           show Act.put _ (some 45) _=_
           simp only[Act.put,sa',sb',sc',i64_w,i32_w];rfl
          refine pure_ (i:=15) (N:=some 9) (v:=?_) (a':=?_) #[true,true,true,true,true,true,true,true,true,true,true,true,true,true,true,true] rfl rfl (any_of HT_.out (by kernel_rfl)) (fun _ _ _ h=>h) (Or.inl ⟨by rfl,?_⟩) ?_ ?_
          rotate_left
          ·
           intro w';go_simp;with_reducible rfl
          rotate_left
          ·
           simp only[Act.put,sa',sb',sc',i64_w,i32_w];rfl
          refine done_ (done_of HT_.out (by kernel_rfl)) ?_
          try go_wp2
          go_roundg k2
          case measure=>have:=HJ4.out;have:=HK2.out;omega
          case rel=>exact ⟨(y160),(wrap64 (x10_2+1)),(by first|rfl|(simp;done)|(simp[*];done)),H',⟨by have:=HJ4.out;have:=HK2.out;omega⟩,⟨by (with_reducible repeat (first|apply Kd.N_alloc|apply Kd.N_drewN|apply Kd.N_drew));exact Kd.N_mono HO162.out (fun _ hk=>hk.1)⟩,⟨by repeat (first|(with_reducible first|exact HB.out|apply ba'|apply bd'|apply be')|exact HB.out)⟩⟩
         ·
          rw[if_neg c21] at H;exact absurd H (by simp)
        ·
         rw[if_neg c19] at H;exact absurd H (by simp)
       ·
        rw[if_neg c18] at H;exact absurd H (by simp)
      ·
       rw[if_neg c16] at H;have c16b0:decide (x10_2 < (l0.length:Int))=false:=decide_eq_false c16;clear c16;obtain rfl:=Option.some.inj H;go_wp2;go_ret
       exact ⟨_,by first|rfl|(simp[errW_none,errW_some] <;> rfl)|(simp[*,errW_none,errW_some] <;> rfl),by (with_reducible repeat (first|apply Kd.N_alloc|apply Kd.N_drewN|apply Kd.N_drew));exact HO_9.out,by repeat (first|(with_reducible first|exact HB.out|apply ba'|apply bd'|apply be')|exact HB.out)⟩
end Go.Proofs.Ytmfofjloklafoaa.C3
