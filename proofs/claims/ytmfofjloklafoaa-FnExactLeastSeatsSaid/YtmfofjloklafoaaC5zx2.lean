import Derived.Test.YtmfofjloklafoaaC5zx0
import Derived.Test.YtmfofjloklafoaaC5zx1
import Derived.Test.YtmfofjloklafoaaC5zAl
namespace Go.Proofs.Ytmfofjloklafoaa.C5
open Go.RowKit Go.Proofs.YtmfofjloklafoaaW.PrintWords Go.Proofs.YtmfofjloklafoaaW.PrintLast Go.Proofs.YtmfofjloklafoaaW.PrintMore Go.Proofs.Ytmfofjloklafoaa.H
attribute [local go_sem] max2_int min2_int max_two min_two max_three min_three max_four min_four
set_option linter.unusedVariables false
set_option linter.unusedSimpArgs false
def laws_eqKeep.f (k:Nat) (a0_0:Int) (l0_1:List (List Int)) (a0_2:Int) (a1_0:Int) (l1_1:List (List Int)) (a1_2:Int):Option (Bool):=if a0_0=a1_0 then ((laws_eqIntSS.f k l0_1 l1_1).bind fun t131=>(if t131=true then (if a0_2=a1_2 then (some true) else (some false)) else (some false))) else (some false)
set_option maxHeartbeats 8000000 in
set_option maxRecDepth 100000 in
theorem laws_eqKeep.calls (k:Nat) (a0_0:Int) (A0_1:Option Addr) (c0_1:Nat) (l0_1:List (List Int)) (a0_2:Int) (a1_0:Int) (A1_1:Option Addr) (c1_1:Nat) (l1_1:List (List Int)) (a1_2:Int) (r:Bool) (w:World) (hr0_1:Kd.C (Kd.slice 3 (Kd.int .i64)) w A0_1 l0_1.length l0_1) (hc0_1:l0_1.length≤c0_1) (hr1_1:Kd.C (Kd.slice 3 (Kd.int .i64)) w A1_1 l1_1.length l1_1) (hc1_1:l1_1.length≤c1_1) (h:laws_eqKeep.f k a0_0 l0_1 a0_2 a1_0 l1_1 a1_2=some r) :
  Calls Try.prog 16 #[.agg #[.int .i64 a0_0, .slice A0_1 l0_1.length c0_1, .int .i64 a0_2], .agg #[.int .i64 a1_0, .slice A1_1 l1_1.length c1_1, .int .i64 a1_2]] w fun e w'=>e = .returned (.bool r)∧Below w.heap.size w w':=by
 have hu32:=Try.underlying32
 have HR0_1:=am' hr0_1
 have HC0_1:=am' hc0_1
 clear hr0_1 hc0_1;have HR1_1:=am' hr1_1
 have HC1_1:=am' hc1_1
 clear hr1_1 hc1_1;have HB:=am' (Below.refl w.heap.size w)
 have H:(if a0_0=a1_0 then ((laws_eqIntSS.f k l0_1 l1_1).bind fun t131=>(if t131=true then (if a0_2=a1_2 then (some true) else (some false)) else (some false))) else (some false))=some r:=h
 clear h;by_cases c3:a0_0=a1_0
 ·
  rw[if_pos c3] at H;have c3b0:(a0_0 == a1_0)=true:=beq_iff_eq.mpr c3;have c3b1:(a0_0 != a1_0)=false:=bne_eq_false_iff_eq.mpr c3;clear c3;replace H:=Option.bind_eq_some_iff.mp H;obtain ⟨t131,A40,H⟩:=H;replace H:(if t131=true then (if a0_2=a1_2 then (some true) else (some false)) else (some false))=some r:=H;have A4:=am' A40;clear A40;by_cases c5:t131=true
  ·
   subst c5;have H1:(if a0_2=a1_2 then (some true) else (some false))=some r:=by rw[if_pos rfl] at H;exact H
   clear H;have H:=H1;clear H1;by_cases c6:a0_2=a1_2
   ·
    rw[if_pos c6] at H;have c6b0:(a0_2 == a1_2)=true:=beq_iff_eq.mpr c6;have c6b1:(a0_2 != a1_2)=false:=bne_eq_false_iff_eq.mpr c6;clear c6;obtain rfl:=os' H;go_enter Try.func16,Try.ntmps16;go_wp2_with (first|((with_reducible refine gate_dst (N:=2) rfl ?_);refine box_event ?hg (N:=2) ?hd (cs:=#[.int .i64 a0_0, .slice A0_1 l0_1.length c0_1, .int .i64 a0_2]) (t:=32) ?hr ?_;(case hd=>rfl);(case hg=>rfl);(case hr=>first|(go_simp;done)|(go_simp;rfl));intro gb129 hg w7 hbox hb;have n0_:=am' (bt' xb' hb);have n1_:=am' (hbox);have n2_:=am' ((by rw[hg];exact (bz' xb'):w.heap.size≤gb129));have n3_:=am' ((by rw[hg];exact (bz' xb'):w.heap.size≤gb129));clear HB;have HB:=n0_;have BK129:=n1_;have GW129:=n2_;have GE129:=n3_;clear n0_ n1_ n2_ n3_;clear hb hbox hg)|((with_reducible refine gate_dst (N:=3) rfl ?_);refine box_event ?hg (N:=3) ?hd (cs:=#[.int .i64 a1_0, .slice A1_1 l1_1.length c1_1, .int .i64 a1_2]) (t:=32) ?hr ?_;(case hd=>rfl);(case hg=>rfl);(case hr=>first|(go_simp;done)|(go_simp;rfl));intro gb130 hg w8 hbox hb;have n0_:=am' (bb' (g:=gb129) (o := .cells #[.int .i64 a0_0, .slice A0_1 l0_1.length c0_1, .int .i64 a0_2] 32 (0,0)) (kk' BK129.out) hb);have n1_:=am' (bt' (yb' GE129.out) hb);have n2_:=am' (hbox);have n3_:=am' ((by rw[hg];exact (bz' (yb' GE129.out)):w.heap.size≤gb130));have n4_:=am' ((by rw[hg];exact (bz' (yb' GE129.out)):w.heap.size≤gb130));have n5_:=am' ((by rw[hg];exact Nat.ne_of_lt (blk_lt (g:=gb129) (o := .cells #[.int .i64 a0_0, .slice A0_1 l0_1.length c0_1, .int .i64 a0_2] 32 (0,0)) (kk' BK129.out)):gb129≠gb130));have n6_:=am' ((by rw[hg];exact Nat.ne_of_gt (blk_lt (g:=gb129) (o := .cells #[.int .i64 a0_0, .slice A0_1 l0_1.length c0_1, .int .i64 a0_2] 32 (0,0)) (kk' BK129.out)):gb130≠gb129));clear BK129;clear HB;have BK129:=n0_;have HB:=n1_;have BK130:=n2_;have GW130:=n3_;have GE130:=n4_;have NB129_130:=n5_;have NB130_129:=n6_;clear n0_ n1_ n2_ n3_ n4_ n5_ n6_;clear hb hbox hg;have hnb9:=NB129_130.out;have hnc9:=NB130_129.out;have hcz10_0:w8.cell? ⟨gb129,0,none⟩=some (.int .i64 a0_0):=(bc' BK129.out 0).trans rfl;have hcz10_1:w8.cell? ⟨gb129,1,none⟩=some (.slice A0_1 l0_1.length c0_1):=(bc' BK129.out 1).trans rfl;have hcz10_2:w8.cell? ⟨gb129,2,none⟩=some (.int .i64 a0_2):=(bc' BK129.out 2).trans rfl;have hfz10_0:=bf' BK129.out 0;have hfz10_1:=bf' BK129.out 1;have hfz10_2:=bf' BK129.out 2;have hcz11_0:w8.cell? ⟨gb130,0,none⟩=some (.int .i64 a1_0):=(bc' BK130.out 0).trans rfl;have hcz11_1:w8.cell? ⟨gb130,1,none⟩=some (.slice A1_1 l1_1.length c1_1):=(bc' BK130.out 1).trans rfl;have hcz11_2:w8.cell? ⟨gb130,2,none⟩=some (.int .i64 a1_2):=(bc' BK130.out 2).trans rfl;have hfz11_0:=bf' BK130.out 0;have hfz11_1:=bf' BK130.out 1;have hfz11_2:=bf' BK130.out 2)|((with_reducible refine gate_callee (f:=15) rfl ?_);refine goesL_ (some 14) rfl rfl Try.func15 xk' rfl #[.slice A0_1 l0_1.length c0_1, .slice A1_1 l1_1.length c1_1] rfl xl' ?_;(with_reducible refine (laws_eqIntSS.calls k _ _ l0_1 _ _ l1_1 true _ ?side1 ?side2 ?side3 ?side4 A4.out).mono ?_);(case side1=>exact kc' (cb' HR0_1.out HB.out));(case side2=>exact HC0_1.out);(case side3=>exact kc' (cb' HR1_1.out HB.out));(case side4=>exact HC1_1.out);rintro e w' ⟨rfl,⟨nd,rfl⟩⟩;refine ⟨_,rfl,?_⟩))
    go_ret
    exact ⟨by first|rfl|(simp[errW_none,errW_some] <;> rfl)|(simp[*,errW_none,errW_some] <;> rfl),y2' GE129.out GE130.out⟩
   ·
    rw[if_neg c6] at H;have c6b0:(a0_2 == a1_2)=false:=beq_eq_false_iff_ne.mpr c6;have c6b1:(a0_2 != a1_2)=true:=bne_iff_ne.mpr c6;obtain rfl:=os' H;go_enter Try.func16,Try.ntmps16;go_wp2_with (first|((with_reducible refine gate_dst (N:=2) rfl ?_);refine box_event ?hg (N:=2) ?hd (cs:=#[.int .i64 a0_0, .slice A0_1 l0_1.length c0_1, .int .i64 a0_2]) (t:=32) ?hr ?_;(case hd=>rfl);(case hg=>rfl);(case hr=>first|(go_simp;done)|(go_simp;rfl));intro gb129 hg w12 hbox hb;have n0_:=am' (bt' xb' hb);have n1_:=am' (hbox);have n2_:=am' ((by rw[hg];exact (bz' xb'):w.heap.size≤gb129));have n3_:=am' ((by rw[hg];exact (bz' xb'):w.heap.size≤gb129));clear HB;have HB:=n0_;have BK129:=n1_;have GW129:=n2_;have GE129:=n3_;clear n0_ n1_ n2_ n3_;clear hb hbox hg)|((with_reducible refine gate_dst (N:=3) rfl ?_);refine box_event ?hg (N:=3) ?hd (cs:=#[.int .i64 a1_0, .slice A1_1 l1_1.length c1_1, .int .i64 a1_2]) (t:=32) ?hr ?_;(case hd=>rfl);(case hg=>rfl);(case hr=>first|(go_simp;done)|(go_simp;rfl));intro gb130 hg w13 hbox hb;have n0_:=am' (bb' (g:=gb129) (o := .cells #[.int .i64 a0_0, .slice A0_1 l0_1.length c0_1, .int .i64 a0_2] 32 (0,0)) (kk' BK129.out) hb);have n1_:=am' (bt' (yb' GE129.out) hb);have n2_:=am' (hbox);have n3_:=am' ((by rw[hg];exact (bz' (yb' GE129.out)):w.heap.size≤gb130));have n4_:=am' ((by rw[hg];exact (bz' (yb' GE129.out)):w.heap.size≤gb130));have n5_:=am' ((by rw[hg];exact Nat.ne_of_lt (blk_lt (g:=gb129) (o := .cells #[.int .i64 a0_0, .slice A0_1 l0_1.length c0_1, .int .i64 a0_2] 32 (0,0)) (kk' BK129.out)):gb129≠gb130));have n6_:=am' ((by rw[hg];exact Nat.ne_of_gt (blk_lt (g:=gb129) (o := .cells #[.int .i64 a0_0, .slice A0_1 l0_1.length c0_1, .int .i64 a0_2] 32 (0,0)) (kk' BK129.out)):gb130≠gb129));clear BK129;clear HB;have BK129:=n0_;have HB:=n1_;have BK130:=n2_;have GW130:=n3_;have GE130:=n4_;have NB129_130:=n5_;have NB130_129:=n6_;clear n0_ n1_ n2_ n3_ n4_ n5_ n6_;clear hb hbox hg;have hnb14:=NB129_130.out;have hnc14:=NB130_129.out;have hcz15_0:w13.cell? ⟨gb129,0,none⟩=some (.int .i64 a0_0):=(bc' BK129.out 0).trans rfl;have hcz15_1:w13.cell? ⟨gb129,1,none⟩=some (.slice A0_1 l0_1.length c0_1):=(bc' BK129.out 1).trans rfl;have hcz15_2:w13.cell? ⟨gb129,2,none⟩=some (.int .i64 a0_2):=(bc' BK129.out 2).trans rfl;have hfz15_0:=bf' BK129.out 0;have hfz15_1:=bf' BK129.out 1;have hfz15_2:=bf' BK129.out 2;have hcz16_0:w13.cell? ⟨gb130,0,none⟩=some (.int .i64 a1_0):=(bc' BK130.out 0).trans rfl;have hcz16_1:w13.cell? ⟨gb130,1,none⟩=some (.slice A1_1 l1_1.length c1_1):=(bc' BK130.out 1).trans rfl;have hcz16_2:w13.cell? ⟨gb130,2,none⟩=some (.int .i64 a1_2):=(bc' BK130.out 2).trans rfl;have hfz16_0:=bf' BK130.out 0;have hfz16_1:=bf' BK130.out 1;have hfz16_2:=bf' BK130.out 2)|((with_reducible refine gate_callee (f:=15) rfl ?_);refine goesL_ (some 14) rfl rfl Try.func15 xk' rfl #[.slice A0_1 l0_1.length c0_1, .slice A1_1 l1_1.length c1_1] rfl xl' ?_;(with_reducible refine (laws_eqIntSS.calls k _ _ l0_1 _ _ l1_1 true _ ?side1 ?side2 ?side3 ?side4 A4.out).mono ?_);(case side1=>exact kc' (cb' HR0_1.out HB.out));(case side2=>exact HC0_1.out);(case side3=>exact kc' (cb' HR1_1.out HB.out));(case side4=>exact HC1_1.out);rintro e w' ⟨rfl,⟨nd,rfl⟩⟩;refine ⟨_,rfl,?_⟩))
    go_ret
    exact ⟨by first|rfl|(simp[errW_none,errW_some] <;> rfl)|(simp[*,errW_none,errW_some] <;> rfl),y2' GE129.out GE130.out⟩
  ·
   replace c5:=Bool.eq_false_iff.mpr c5;subst c5;have H1:(some false)=some r:=by rw[if_neg (show ¬ (false=true) by decide)] at H;exact H
   clear H;have H:=H1;clear H1;obtain rfl:=os' H;go_enter Try.func16,Try.ntmps16;go_wp2_with (first|((with_reducible refine gate_dst (N:=2) rfl ?_);refine box_event ?hg (N:=2) ?hd (cs:=#[.int .i64 a0_0, .slice A0_1 l0_1.length c0_1, .int .i64 a0_2]) (t:=32) ?hr ?_;(case hd=>rfl);(case hg=>rfl);(case hr=>first|(go_simp;done)|(go_simp;rfl));intro gb129 hg w17 hbox hb;have n0_:=am' (bt' xb' hb);have n1_:=am' (hbox);have n2_:=am' ((by rw[hg];exact (bz' xb'):w.heap.size≤gb129));have n3_:=am' ((by rw[hg];exact (bz' xb'):w.heap.size≤gb129));clear HB;have HB:=n0_;have BK129:=n1_;have GW129:=n2_;have GE129:=n3_;clear n0_ n1_ n2_ n3_;clear hb hbox hg)|((with_reducible refine gate_dst (N:=3) rfl ?_);refine box_event ?hg (N:=3) ?hd (cs:=#[.int .i64 a1_0, .slice A1_1 l1_1.length c1_1, .int .i64 a1_2]) (t:=32) ?hr ?_;(case hd=>rfl);(case hg=>rfl);(case hr=>first|(go_simp;done)|(go_simp;rfl));intro gb130 hg w18 hbox hb;have n0_:=am' (bb' (g:=gb129) (o := .cells #[.int .i64 a0_0, .slice A0_1 l0_1.length c0_1, .int .i64 a0_2] 32 (0,0)) (kk' BK129.out) hb);have n1_:=am' (bt' (yb' GE129.out) hb);have n2_:=am' (hbox);have n3_:=am' ((by rw[hg];exact (bz' (yb' GE129.out)):w.heap.size≤gb130));have n4_:=am' ((by rw[hg];exact (bz' (yb' GE129.out)):w.heap.size≤gb130));have n5_:=am' ((by rw[hg];exact Nat.ne_of_lt (blk_lt (g:=gb129) (o := .cells #[.int .i64 a0_0, .slice A0_1 l0_1.length c0_1, .int .i64 a0_2] 32 (0,0)) (kk' BK129.out)):gb129≠gb130));have n6_:=am' ((by rw[hg];exact Nat.ne_of_gt (blk_lt (g:=gb129) (o := .cells #[.int .i64 a0_0, .slice A0_1 l0_1.length c0_1, .int .i64 a0_2] 32 (0,0)) (kk' BK129.out)):gb130≠gb129));clear BK129;clear HB;have BK129:=n0_;have HB:=n1_;have BK130:=n2_;have GW130:=n3_;have GE130:=n4_;have NB129_130:=n5_;have NB130_129:=n6_;clear n0_ n1_ n2_ n3_ n4_ n5_ n6_;clear hb hbox hg;have hnb19:=NB129_130.out;have hnc19:=NB130_129.out;have hcz20_0:w18.cell? ⟨gb129,0,none⟩=some (.int .i64 a0_0):=(bc' BK129.out 0).trans rfl;have hcz20_1:w18.cell? ⟨gb129,1,none⟩=some (.slice A0_1 l0_1.length c0_1):=(bc' BK129.out 1).trans rfl;have hcz20_2:w18.cell? ⟨gb129,2,none⟩=some (.int .i64 a0_2):=(bc' BK129.out 2).trans rfl;have hfz20_0:=bf' BK129.out 0;have hfz20_1:=bf' BK129.out 1;have hfz20_2:=bf' BK129.out 2;have hcz21_0:w18.cell? ⟨gb130,0,none⟩=some (.int .i64 a1_0):=(bc' BK130.out 0).trans rfl;have hcz21_1:w18.cell? ⟨gb130,1,none⟩=some (.slice A1_1 l1_1.length c1_1):=(bc' BK130.out 1).trans rfl;have hcz21_2:w18.cell? ⟨gb130,2,none⟩=some (.int .i64 a1_2):=(bc' BK130.out 2).trans rfl;have hfz21_0:=bf' BK130.out 0;have hfz21_1:=bf' BK130.out 1;have hfz21_2:=bf' BK130.out 2)|((with_reducible refine gate_callee (f:=15) rfl ?_);refine goesL_ (some 14) rfl rfl Try.func15 xk' rfl #[.slice A0_1 l0_1.length c0_1, .slice A1_1 l1_1.length c1_1] rfl xl' ?_;(with_reducible refine (laws_eqIntSS.calls k _ _ l0_1 _ _ l1_1 false _ ?side1 ?side2 ?side3 ?side4 A4.out).mono ?_);(case side1=>exact kc' (cb' HR0_1.out HB.out));(case side2=>exact HC0_1.out);(case side3=>exact kc' (cb' HR1_1.out HB.out));(case side4=>exact HC1_1.out);rintro e w' ⟨rfl,⟨nd,rfl⟩⟩;refine ⟨_,rfl,?_⟩))
   go_ret
   exact ⟨by first|rfl|(simp[errW_none,errW_some] <;> rfl)|(simp[*,errW_none,errW_some] <;> rfl),y2' GE129.out GE130.out⟩
 ·
  rw[if_neg c3] at H;have c3b0:(a0_0 == a1_0)=false:=beq_eq_false_iff_ne.mpr c3;have c3b1:(a0_0 != a1_0)=true:=bne_iff_ne.mpr c3;obtain rfl:=os' H;go_enter Try.func16,Try.ntmps16;go_wp2_with (first|((with_reducible refine gate_dst (N:=2) rfl ?_);refine box_event ?hg (N:=2) ?hd (cs:=#[.int .i64 a0_0, .slice A0_1 l0_1.length c0_1, .int .i64 a0_2]) (t:=32) ?hr ?_;(case hd=>rfl);(case hg=>rfl);(case hr=>first|(go_simp;done)|(go_simp;rfl));intro gb129 hg w22 hbox hb;have n0_:=am' (bt' xb' hb);have n1_:=am' (hbox);have n2_:=am' ((by rw[hg];exact (bz' xb'):w.heap.size≤gb129));have n3_:=am' ((by rw[hg];exact (bz' xb'):w.heap.size≤gb129));clear HB;have HB:=n0_;have BK129:=n1_;have GW129:=n2_;have GE129:=n3_;clear n0_ n1_ n2_ n3_;clear hb hbox hg)|((with_reducible refine gate_dst (N:=3) rfl ?_);refine box_event ?hg (N:=3) ?hd (cs:=#[.int .i64 a1_0, .slice A1_1 l1_1.length c1_1, .int .i64 a1_2]) (t:=32) ?hr ?_;(case hd=>rfl);(case hg=>rfl);(case hr=>first|(go_simp;done)|(go_simp;rfl));intro gb130 hg w23 hbox hb;have n0_:=am' (bb' (g:=gb129) (o := .cells #[.int .i64 a0_0, .slice A0_1 l0_1.length c0_1, .int .i64 a0_2] 32 (0,0)) (kk' BK129.out) hb);have n1_:=am' (bt' (yb' GE129.out) hb);have n2_:=am' (hbox);have n3_:=am' ((by rw[hg];exact (bz' (yb' GE129.out)):w.heap.size≤gb130));have n4_:=am' ((by rw[hg];exact (bz' (yb' GE129.out)):w.heap.size≤gb130));have n5_:=am' ((by rw[hg];exact Nat.ne_of_lt (blk_lt (g:=gb129) (o := .cells #[.int .i64 a0_0, .slice A0_1 l0_1.length c0_1, .int .i64 a0_2] 32 (0,0)) (kk' BK129.out)):gb129≠gb130));have n6_:=am' ((by rw[hg];exact Nat.ne_of_gt (blk_lt (g:=gb129) (o := .cells #[.int .i64 a0_0, .slice A0_1 l0_1.length c0_1, .int .i64 a0_2] 32 (0,0)) (kk' BK129.out)):gb130≠gb129));clear BK129;clear HB;have BK129:=n0_;have HB:=n1_;have BK130:=n2_;have GW130:=n3_;have GE130:=n4_;have NB129_130:=n5_;have NB130_129:=n6_;clear n0_ n1_ n2_ n3_ n4_ n5_ n6_;clear hb hbox hg;have hnb24:=NB129_130.out;have hnc24:=NB130_129.out;have hcz25_0:w23.cell? ⟨gb129,0,none⟩=some (.int .i64 a0_0):=(bc' BK129.out 0).trans rfl;have hcz25_1:w23.cell? ⟨gb129,1,none⟩=some (.slice A0_1 l0_1.length c0_1):=(bc' BK129.out 1).trans rfl;have hcz25_2:w23.cell? ⟨gb129,2,none⟩=some (.int .i64 a0_2):=(bc' BK129.out 2).trans rfl;have hfz25_0:=bf' BK129.out 0;have hfz25_1:=bf' BK129.out 1;have hfz25_2:=bf' BK129.out 2;have hcz26_0:w23.cell? ⟨gb130,0,none⟩=some (.int .i64 a1_0):=(bc' BK130.out 0).trans rfl;have hcz26_1:w23.cell? ⟨gb130,1,none⟩=some (.slice A1_1 l1_1.length c1_1):=(bc' BK130.out 1).trans rfl;have hcz26_2:w23.cell? ⟨gb130,2,none⟩=some (.int .i64 a1_2):=(bc' BK130.out 2).trans rfl;have hfz26_0:=bf' BK130.out 0;have hfz26_1:=bf' BK130.out 1;have hfz26_2:=bf' BK130.out 2))
  go_ret
  exact ⟨by first|rfl|(simp[errW_none,errW_some] <;> rfl)|(simp[*,errW_none,errW_some] <;> rfl),y2' GE129.out GE130.out⟩
def spec_l1In.f (a0:Int) (a1:Int) (a2:Int):Option (Bool):=if a0 ≥ a1 then (some (decide (a0≤a2))) else (some false)
set_option maxHeartbeats 8000000 in
set_option maxRecDepth 100000 in
theorem spec_l1In.calls (a0:Int) (a1:Int) (a2:Int) (r:Bool) (w:World) (h:spec_l1In.f a0 a1 a2=some r) :
  Calls Try.prog 94 #[.int .i64 a0, .int .i64 a1, .int .i64 a2] w fun e w'=>e = .returned (.bool r)∧Drawn0 w w':=by
 have H:(if a0 ≥ a1 then (some (decide (a0≤a2))) else (some false))=some r:=h
 clear h;by_cases c4:a0 ≥ a1
 ·
  rw[if_pos c4] at H;have c4b0:decide (a1≤a0)=true:=dt' c4;clear c4;obtain rfl:=os' H;go_enter Try.func94,Try.ntmps94;go_wp2;go_ret
  exact ⟨xs',by repeat (first|exact Drawn0.refl _|apply Drawn0.step)⟩
 ·
  rw[if_neg c4] at H;have c4b0:decide (a1≤a0)=false:=df' c4;clear c4;obtain rfl:=os' H;go_enter Try.func94,Try.ntmps94;go_wp2;go_ret
  exact ⟨xs',by repeat (first|exact Drawn0.refl _|apply Drawn0.step)⟩
def spec_l1Rising.l0:Nat→List Int→Int→Int→List Int→Int→Int→Option (Bool)
 | 0,_,_,_,_,_,_=>none
 | k+1,x0,x1,x2,x9,x10,x11=>if x11 < x10 then (if 0≤x11 then (if x11 < (x9.length:Int) then ((spec_l1In.f (rd x9 x11) x1 x2).bind fun t133=>(if t133=true then (if x11 > 0 then (if 0≤(wrap64 (x11 - 1)) then (if (wrap64 (x11 - 1)) < (x0.length:Int) then (if (rd x0 (wrap64 (x11 - 1))) ≥ (rd x9 x11) then (some false) else (spec_l1Rising.l0 k x0 x1 x2 x9 x10 (wrap64 (x11+1)))) else (none)) else (none)) else (spec_l1Rising.l0 k x0 x1 x2 x9 x10 (wrap64 (x11+1)))) else (some false))) else (none)) else (none)) else (some true)
def spec_l1Rising.f (k:Nat) (l0:List Int) (a1:Int) (a2:Int):Option (Bool):=spec_l1Rising.l0 k l0 a1 a2 l0 (l0.length:Int) 0
set_option maxHeartbeats 8000000 in
set_option maxRecDepth 100000 in
theorem spec_l1Rising.calls (k:Nat) (A0:Option Addr) (c0:Nat) (l0:List Int) (a1:Int) (a2:Int) (r:Bool) (w:World) (hr0:Kd.C (Kd.int .i64) w A0 l0.length l0) (hc0:l0.length≤c0) (h:spec_l1Rising.f k l0 a1 a2=some r) :
  Calls Try.prog 95 #[.slice A0 l0.length c0, .int .i64 a1, .int .i64 a2] w fun e w'=>e = .returned (.bool r)∧Drawn0 w w':=by
 have HR0:=am' hr0
 have HC0:=am' hc0
 clear hr0 hc0;have H:(spec_l1Rising.l0 k l0 a1 a2 l0 (l0.length:Int) 0)=some r:=h
 clear h;have H':=am' H
 clear H;go_enter Try.func95,Try.ntmps95
 go_wp2
 go_loopg [11] k (fun kq v11 w'=>∃ (x11_1:Int),v11 = .int .i64 x11_1∧Aside0 (spec_l1Rising.l0 kq l0 a1 a2 l0 (l0.length:Int) x11_1=some r)∧Aside0 (kq≤k)∧Drawn0 w w')
 case atStart=>exact ⟨(0),xs',H',⟨Nat.le_refl _⟩,by repeat (first|exact Drawn0.refl _|apply Drawn0.step)⟩
 case round =>
  clear H';try clear p2
  obtain ⟨x11_1,rfl,HA,HK1,⟨m1,rfl⟩⟩:=hrel;cases gk with
  | zero=>exact absurd HA.out (by simp[spec_l1Rising.l0])
  | succ k1 =>
   have H:=HA.out;clear HA;simp only[spec_l1Rising.l0] at H;by_cases c4:x11_1 < (l0.length:Int)
   ·
    rw[if_pos c4] at H;have c4b0:decide (x11_1 < (l0.length:Int))=true:=dt' c4;clear c4;by_cases c5:0≤x11_1
    ·
     rw[if_pos c5] at H;have c5b0:decide (0≤x11_1)=true:=dt' c5;clear c5;by_cases c6:x11_1 < (l0.length:Int)
     ·
      rw[if_pos c6] at H;have c6b0:decide (x11_1 < (l0.length:Int))=true:=dt' c6;clear c6;replace H:=Option.bind_eq_some_iff.mp H;obtain ⟨t133,A70,H⟩:=H;replace H:(if t133=true then (if x11_1 > 0 then (if 0≤(wrap64 (x11_1 - 1)) then (if (wrap64 (x11_1 - 1)) < (l0.length:Int) then (if (rd l0 (wrap64 (x11_1 - 1))) ≥ (rd l0 x11_1) then (some false) else (spec_l1Rising.l0 k1 l0 a1 a2 l0 (l0.length:Int) (wrap64 (x11_1+1)))) else (none)) else (none)) else (spec_l1Rising.l0 k1 l0 a1 a2 l0 (l0.length:Int) (wrap64 (x11_1+1)))) else (some false))=some r:=H;have A7:=am' A70;clear A70;by_cases c8:t133=true
      ·
       subst c8;have H1:(if x11_1 > 0 then (if 0≤(wrap64 (x11_1 - 1)) then (if (wrap64 (x11_1 - 1)) < (l0.length:Int) then (if (rd l0 (wrap64 (x11_1 - 1))) ≥ (rd l0 x11_1) then (some false) else (spec_l1Rising.l0 k1 l0 a1 a2 l0 (l0.length:Int) (wrap64 (x11_1+1)))) else (none)) else (none)) else (spec_l1Rising.l0 k1 l0 a1 a2 l0 (l0.length:Int) (wrap64 (x11_1+1))))=some r:=by rw[if_pos rfl] at H;exact H
       clear H;have H:=H1;clear H1;by_cases c9:x11_1 > 0
       ·
        rw[if_pos c9] at H;have c9b0:decide (0 < x11_1)=true:=dt' c9;clear c9;obtain ⟨ji10,hji10⟩:∃ j_:Int,(wrap64 (x11_1 - 1))=j_:=⟨_,rfl⟩
        replace H:(if 0≤(ji10) then (if (ji10) < (l0.length:Int) then (if (rd l0 (ji10)) ≥ (rd l0 x11_1) then (some false) else (spec_l1Rising.l0 k1 l0 a1 a2 l0 (l0.length:Int) (wrap64 (x11_1+1)))) else (none)) else (none))=some r:=by first|(rw[hji10] at H;exact H)|(simp only[hji10] at H ⊢;exact H)
        (try rw [hji10] at A7)
        have hji10w:(IntKind.i64.wrap (x11_1 - 1))=ji10:=(i64_w _).trans hji10;by_cases c11:0≤(ji10)
        ·
         rw[if_pos c11] at H;have c11b0:decide (0≤(ji10))=true:=dt' c11;clear c11;by_cases c12:(ji10) < (l0.length:Int)
         ·
          rw[if_pos c12] at H;have c12b0:decide ((ji10) < (l0.length:Int))=true:=dt' c12;clear c12;by_cases c13:(rd l0 (ji10)) ≥ (rd l0 x11_1)
          ·
           rw[if_pos c13] at H;have c13b0:decide ((rd l0 x11_1)≤(rd l0 (ji10)))=true:=dt' c13;clear c13;obtain rfl:=os' H;have p132:0≤(x11_1:Int):=od' xa';have q132:x11_1 < (l0.length:Int):=od' xa';obtain ⟨ad132,e132,hx132_0⟩:=Kd.at_int HR0.out x11_1 p132 q132;cases e132;replace p132:=eq_true p132;replace q132:=eq_true q132;go_wp2_with (first|((with_reducible refine gate_callee (f:=94) rfl ?_);refine goesL_ (some 19) rfl rfl Try.func94 xk' rfl #[.int .i64 (rd l0 x11_1), .int .i64 a1, .int .i64 a2] rfl xl' ?_;(with_reducible refine (spec_l1In.calls (rd l0 x11_1) a1 a2 true _ A7.out).mono ?_);rintro e w' ⟨rfl,⟨nd,rfl⟩⟩;refine ⟨_,rfl,?_⟩;have p134:0≤((ji10):Int):=od' xa';have q134:(ji10) < (l0.length:Int):=od' xa';obtain ⟨ad134,e134,hx134_0⟩:=Kd.at_int HR0.out (ji10) p134 q134;obtain rfl:ad132=ad134:=(by injection e134);replace p134:=eq_true p134;replace q134:=eq_true q134));go_ret
           exact ⟨by first|rfl|(simp;done)|(simp only[← hji10] <;> (first|rfl|simp))|(simp[*];done),by repeat (first|exact Drawn0.refl _|apply Drawn0.step)⟩
          ·
           rw[if_neg c13] at H;have c13b0:decide ((rd l0 x11_1)≤(rd l0 (ji10)))=false:=df' c13;clear c13;have H':=am' H;clear H;have p132:0≤(x11_1:Int):=od' xa';have q132:x11_1 < (l0.length:Int):=od' xa';obtain ⟨ad132,e132,hx132_0⟩:=Kd.at_int HR0.out x11_1 p132 q132;cases e132;replace p132:=eq_true p132;replace q132:=eq_true q132;go_wp2_with (first|((with_reducible refine gate_callee (f:=94) rfl ?_);refine goesL_ (some 19) rfl rfl Try.func94 xk' rfl #[.int .i64 (rd l0 x11_1), .int .i64 a1, .int .i64 a2] rfl xl' ?_;(with_reducible refine (spec_l1In.calls (rd l0 x11_1) a1 a2 true _ A7.out).mono ?_);rintro e w' ⟨rfl,⟨nd,rfl⟩⟩;refine ⟨_,rfl,?_⟩;have p134:0≤((ji10):Int):=od' xa';have q134:(ji10) < (l0.length:Int):=od' xa';obtain ⟨ad134,e134,hx134_0⟩:=Kd.at_int HR0.out (ji10) p134 q134;obtain rfl:ad132=ad134:=(by injection e134);replace p134:=eq_true p134;replace q134:=eq_true q134));go_roundg k1
           case measure=>have:=HK1.out;omega
           case rel=>exact ⟨(wrap64 (x11_1+1)),xs',H',⟨by have:=HK1.out;omega⟩,by repeat (first|exact Drawn0.refl _|apply Drawn0.step)⟩
         ·
          rw[if_neg c12] at H;exact absurd H (by simp)
        ·
         rw[if_neg c11] at H;exact absurd H (by simp)
       ·
        rw[if_neg c9] at H;have c9b0:decide (0 < x11_1)=false:=df' c9;clear c9;have H':=am' H;clear H;have p132:0≤(x11_1:Int):=od' xa';have q132:x11_1 < (l0.length:Int):=od' xa';obtain ⟨ad132,e132,hx132_0⟩:=Kd.at_int HR0.out x11_1 p132 q132;cases e132;replace p132:=eq_true p132;replace q132:=eq_true q132;go_wp2_with (first|((with_reducible refine gate_callee (f:=94) rfl ?_);refine goesL_ (some 19) rfl rfl Try.func94 xk' rfl #[.int .i64 (rd l0 x11_1), .int .i64 a1, .int .i64 a2] rfl xl' ?_;(with_reducible refine (spec_l1In.calls (rd l0 x11_1) a1 a2 true _ A7.out).mono ?_);rintro e w' ⟨rfl,⟨nd,rfl⟩⟩;refine ⟨_,rfl,?_⟩));go_roundg k1
        case measure=>have:=HK1.out;omega
        case rel=>exact ⟨(wrap64 (x11_1+1)),xs',H',⟨by have:=HK1.out;omega⟩,by repeat (first|exact Drawn0.refl _|apply Drawn0.step)⟩
      ·
       replace c8:=Bool.eq_false_iff.mpr c8;subst c8;have H1:(some false)=some r:=by rw[if_neg (show ¬ (false=true) by decide)] at H;exact H
       clear H;have H:=H1;clear H1;obtain rfl:=os' H;have p132:0≤(x11_1:Int):=od' xa';have q132:x11_1 < (l0.length:Int):=od' xa';obtain ⟨ad132,e132,hx132_0⟩:=Kd.at_int HR0.out x11_1 p132 q132;cases e132;replace p132:=eq_true p132;replace q132:=eq_true q132;go_wp2_with (first|((with_reducible refine gate_callee (f:=94) rfl ?_);refine goesL_ (some 19) rfl rfl Try.func94 xk' rfl #[.int .i64 (rd l0 x11_1), .int .i64 a1, .int .i64 a2] rfl xl' ?_;(with_reducible refine (spec_l1In.calls (rd l0 x11_1) a1 a2 false _ A7.out).mono ?_);rintro e w' ⟨rfl,⟨nd,rfl⟩⟩;refine ⟨_,rfl,?_⟩));go_ret
       exact ⟨xs',by repeat (first|exact Drawn0.refl _|apply Drawn0.step)⟩
     ·
      rw[if_neg c6] at H;exact absurd H (by simp)
    ·
     rw[if_neg c5] at H;exact absurd H (by simp)
   ·
    rw[if_neg c4] at H;have c4b0:decide (x11_1 < (l0.length:Int))=false:=df' c4;clear c4;obtain rfl:=os' H;go_wp2;go_ret
    exact ⟨xs',by repeat (first|exact Drawn0.refl _|apply Drawn0.step)⟩
def spec_keBefore.f (l0:List Int) (l1:List Int):Option (Bool):=if 0 < (l0.length:Int) then (if 0 < (l1.length:Int) then (if (rd l0 0) < (rd l1 0) then (some true) else (if (rd l0 0)=(rd l1 0) then (if 1 < (l0.length:Int) then (if 1 < (l1.length:Int) then (some (decide ((rd l0 1) < (rd l1 1)))) else (none)) else (none)) else (some false))) else (none)) else (none)
set_option maxHeartbeats 8000000 in
set_option maxRecDepth 100000 in
theorem spec_keBefore.calls (A0:Option Addr) (c0:Nat) (l0:List Int) (A1:Option Addr) (c1:Nat) (l1:List Int) (r:Bool) (w:World) (hr0:Kd.C (Kd.int .i64) w A0 l0.length l0) (hc0:l0.length≤c0) (hr1:Kd.C (Kd.int .i64) w A1 l1.length l1) (hc1:l1.length≤c1) (h:spec_keBefore.f l0 l1=some r) :
  Calls Try.prog 96 #[.slice A0 l0.length c0, .slice A1 l1.length c1] w fun e w'=>e = .returned (.bool r)∧Drawn0 w w':=by
 have HR0:=am' hr0
 have HC0:=am' hc0
 clear hr0 hc0;have HR1:=am' hr1
 have HC1:=am' hc1
 clear hr1 hc1;have H:(if 0 < (l0.length:Int) then (if 0 < (l1.length:Int) then (if (rd l0 0) < (rd l1 0) then (some true) else (if (rd l0 0)=(rd l1 0) then (if 1 < (l0.length:Int) then (if 1 < (l1.length:Int) then (some (decide ((rd l0 1) < (rd l1 1)))) else (none)) else (none)) else (some false))) else (none)) else (none))=some r:=h
 clear h;by_cases c3:0 < (l0.length:Int)
 ·
  rw[if_pos c3] at H;have c3b0:decide (0 < (l0.length:Int))=true:=dt' c3;have c3b1:decide (0 < l0.length)=true:=dt' (by omega);clear c3;by_cases c4:0 < (l1.length:Int)
  ·
   rw[if_pos c4] at H;have c4b0:decide (0 < (l1.length:Int))=true:=dt' c4;have c4b1:decide (0 < l1.length)=true:=dt' (by omega);clear c4;by_cases c5:(rd l0 0) < (rd l1 0)
   ·
    rw[if_pos c5] at H;have c5b0:decide ((rd l0 0) < (rd l1 0))=true:=dt' c5;clear c5;obtain rfl:=os' H;have p135:0≤(0:Int):=(by omega)
    have q135:0 < (l0.length:Int):=od' xa';obtain ⟨ad135,e135,hx135_0⟩:=Kd.at_int HR0.out 0 p135 q135;cases e135;have qi135:(0 < l0.length)=True:=eq_true (by omega)
    (try rw [show ((0:Int)).toNat=0 from rfl] at hx135_0)
    (try rw [Addr.add_zero'] at hx135_0)
    replace p135:=eq_true p135;replace q135:=eq_true q135;have p136:0≤(0:Int):=(by omega)
    have q136:0 < (l1.length:Int):=od' xa';obtain ⟨ad136,e136,hx136_0⟩:=Kd.at_int HR1.out 0 p136 q136;cases e136;have qi136:(0 < l1.length)=True:=eq_true (by omega)
    (try rw [show ((0:Int)).toNat=0 from rfl] at hx136_0)
    (try rw [Addr.add_zero'] at hx136_0)
    replace p136:=eq_true p136;replace q136:=eq_true q136;go_enter Try.func96,Try.ntmps96;go_wp2
    repeat (go_quiet (fail);try go_wp2)
    go_ret
    exact ⟨xs',by repeat (first|exact Drawn0.refl _|apply Drawn0.step)⟩
   ·
    rw[if_neg c5] at H;have c5b0:decide ((rd l0 0) < (rd l1 0))=false:=df' c5;clear c5;by_cases c6:(rd l0 0)=(rd l1 0)
    ·
     rw[if_pos c6] at H;have c6b0:((rd l0 0) == (rd l1 0))=true:=beq_iff_eq.mpr c6;have c6b1:((rd l0 0) != (rd l1 0))=false:=bne_eq_false_iff_eq.mpr c6;clear c6;by_cases c7:1 < (l0.length:Int)
     ·
      rw[if_pos c7] at H;have c7b0:decide (1 < (l0.length:Int))=true:=dt' c7;have c7b1:decide (1 < l0.length)=true:=dt' (by omega);clear c7;by_cases c8:1 < (l1.length:Int)
      ·
       rw[if_pos c8] at H;have c8b0:decide (1 < (l1.length:Int))=true:=dt' c8;have c8b1:decide (1 < l1.length)=true:=dt' (by omega);clear c8;obtain rfl:=os' H;have p135:0≤(0:Int):=(by omega)
       have q135:0 < (l0.length:Int):=od' xa';obtain ⟨ad135,e135,hx135_0⟩:=Kd.at_int HR0.out 0 p135 q135;cases e135;have qi135:(0 < l0.length)=True:=eq_true (by omega)
       (try rw [show ((0:Int)).toNat=0 from rfl] at hx135_0)
       (try rw [Addr.add_zero'] at hx135_0)
       replace p135:=eq_true p135;replace q135:=eq_true q135;have p136:0≤(0:Int):=(by omega)
       have q136:0 < (l1.length:Int):=od' xa';obtain ⟨ad136,e136,hx136_0⟩:=Kd.at_int HR1.out 0 p136 q136;cases e136;have qi136:(0 < l1.length)=True:=eq_true (by omega)
       (try rw [show ((0:Int)).toNat=0 from rfl] at hx136_0)
       (try rw [Addr.add_zero'] at hx136_0)
       replace p136:=eq_true p136;replace q136:=eq_true q136;have p137:0≤(0:Int):=(by omega)
       have q137:0 < (l0.length:Int):=od' xa';obtain ⟨ad137,e137,hx137_0⟩:=Kd.at_int HR0.out 0 p137 q137;obtain rfl:ad135=ad137:=(by injection e137)
       have qi137:(0 < l0.length)=True:=eq_true (by omega)
       (try rw [show ((0:Int)).toNat=0 from rfl] at hx137_0)
       (try rw [Addr.add_zero'] at hx137_0)
       replace p137:=eq_true p137;replace q137:=eq_true q137;have p138:0≤(0:Int):=(by omega)
       have q138:0 < (l1.length:Int):=od' xa';obtain ⟨ad138,e138,hx138_0⟩:=Kd.at_int HR1.out 0 p138 q138;obtain rfl:ad136=ad138:=(by injection e138)
       have qi138:(0 < l1.length)=True:=eq_true (by omega)
       (try rw [show ((0:Int)).toNat=0 from rfl] at hx138_0)
       (try rw [Addr.add_zero'] at hx138_0)
       replace p138:=eq_true p138;replace q138:=eq_true q138;have p139:0≤(1:Int):=(by omega)
       have q139:1 < (l0.length:Int):=od' xa';obtain ⟨ad139,e139,hx139_0⟩:=Kd.at_int HR0.out 1 p139 q139;obtain rfl:ad135=ad139:=(by injection e139)
       (try simp only[show (1:Int).toNat=1 from rfl,Nat.reduceMul,Nat.reduceEqDiff,Go.Addr.add,↓reduceIte] at hx139_0)
       have qi139:(1 < l0.length)=True:=eq_true (by omega)
       (try rw [show ((1:Int)).toNat=1 from rfl] at hx139_0)
       replace p139:=eq_true p139;replace q139:=eq_true q139;have p140:0≤(1:Int):=(by omega)
       have q140:1 < (l1.length:Int):=od' xa';obtain ⟨ad140,e140,hx140_0⟩:=Kd.at_int HR1.out 1 p140 q140;obtain rfl:ad136=ad140:=(by injection e140)
       (try simp only[show (1:Int).toNat=1 from rfl,Nat.reduceMul,Nat.reduceEqDiff,Go.Addr.add,↓reduceIte] at hx140_0)
       have qi140:(1 < l1.length)=True:=eq_true (by omega)
       (try rw [show ((1:Int)).toNat=1 from rfl] at hx140_0)
       replace p140:=eq_true p140;replace q140:=eq_true q140;go_enter Try.func96,Try.ntmps96;go_wp2
       repeat (go_quiet (fail);try go_wp2)
       go_ret
       exact ⟨xs',by repeat (first|exact Drawn0.refl _|apply Drawn0.step)⟩
      ·
       rw[if_neg c8] at H;exact absurd H (by simp)
     ·
      rw[if_neg c7] at H;exact absurd H (by simp)
    ·
     rw[if_neg c6] at H;have c6b0:((rd l0 0) == (rd l1 0))=false:=beq_eq_false_iff_ne.mpr c6;have c6b1:((rd l0 0) != (rd l1 0))=true:=bne_iff_ne.mpr c6;obtain rfl:=os' H;have p135:0≤(0:Int):=(by omega)
     have q135:0 < (l0.length:Int):=od' xa';obtain ⟨ad135,e135,hx135_0⟩:=Kd.at_int HR0.out 0 p135 q135;cases e135;have qi135:(0 < l0.length)=True:=eq_true (by omega)
     (try rw [show ((0:Int)).toNat=0 from rfl] at hx135_0)
     (try rw [Addr.add_zero'] at hx135_0)
     replace p135:=eq_true p135;replace q135:=eq_true q135;have p136:0≤(0:Int):=(by omega)
     have q136:0 < (l1.length:Int):=od' xa';obtain ⟨ad136,e136,hx136_0⟩:=Kd.at_int HR1.out 0 p136 q136;cases e136;have qi136:(0 < l1.length)=True:=eq_true (by omega)
     (try rw [show ((0:Int)).toNat=0 from rfl] at hx136_0)
     (try rw [Addr.add_zero'] at hx136_0)
     replace p136:=eq_true p136;replace q136:=eq_true q136;have p137:0≤(0:Int):=(by omega)
     have q137:0 < (l0.length:Int):=od' xa';obtain ⟨ad137,e137,hx137_0⟩:=Kd.at_int HR0.out 0 p137 q137;obtain rfl:ad135=ad137:=(by injection e137)
     have qi137:(0 < l0.length)=True:=eq_true (by omega)
     (try rw [show ((0:Int)).toNat=0 from rfl] at hx137_0)
     (try rw [Addr.add_zero'] at hx137_0)
     replace p137:=eq_true p137;replace q137:=eq_true q137;have p138:0≤(0:Int):=(by omega)
     have q138:0 < (l1.length:Int):=od' xa';obtain ⟨ad138,e138,hx138_0⟩:=Kd.at_int HR1.out 0 p138 q138;obtain rfl:ad136=ad138:=(by injection e138)
     have qi138:(0 < l1.length)=True:=eq_true (by omega)
     (try rw [show ((0:Int)).toNat=0 from rfl] at hx138_0)
     (try rw [Addr.add_zero'] at hx138_0)
     replace p138:=eq_true p138;replace q138:=eq_true q138;go_enter Try.func96,Try.ntmps96;go_wp2
     repeat (go_quiet (fail);try go_wp2)
     go_ret
     exact ⟨xs',by repeat (first|exact Drawn0.refl _|apply Drawn0.step)⟩
  ·
   rw[if_neg c4] at H;exact absurd H (by simp)
 ·
  rw[if_neg c3] at H;exact absurd H (by simp)
end Go.Proofs.Ytmfofjloklafoaa.C5
