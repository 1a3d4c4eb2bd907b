import Derived.Test.YtabhhkiipilghaaC2zx0
import Derived.Test.YtabhhkiipilghaaC2zx1
import Derived.Test.YtabhhkiipilghaaC2zx2
import Derived.Test.YtabhhkiipilghaaC2zx3
import Derived.Test.YtabhhkiipilghaaC2zx10
import Derived.Test.YtabhhkiipilghaaC2zAl
namespace Go.Proofs.Ytabhhkiipilghaa.C2
open Go.RowKit Go.Proofs.YtabhhkiipilghaaW.PrintWords Go.Proofs.YtabhhkiipilghaaW.PrintLast Go.Proofs.YtabhhkiipilghaaW.PrintMore Go.Proofs.Ytabhhkiipilghaa.H
attribute [local go_sem] max2_int min2_int max_two min_two max_three min_three max_four min_four
set_option linter.unusedVariables false
set_option linter.unusedSimpArgs false
set_option maxHeartbeats 8000000 in
set_option maxRecDepth 100000 in
theorem laws_hState.calls (k:Nat) (A0_0:Option Addr) (c0_0:Nat) (l0_0:List Bool) (a0_1:Bool) (A1_0:Option Addr) (c1_0:Nat) (l1_0:List Bool) (a1_1:Bool) (r:Bool) (w:World) (hr0_0:Kd.C Kd.bool w A0_0 l0_0.length l0_0) (hc0_0:l0_0.length≤c0_0) (hr1_0:Kd.C Kd.bool w A1_0 l1_0.length l1_0) (hc1_0:l1_0.length≤c1_0) (h:laws_hState.f k l0_0 a0_1 l1_0 a1_1=some r) :
  Calls Try.prog 22 #[.agg #[.slice A0_0 l0_0.length c0_0, .bool a0_1], .agg #[.slice A1_0 l1_0.length c1_0, .bool a1_1]] w fun e w'=>e = .returned (.bool r)∧Below w.heap.size w w':=by
 have hu35:=Try.underlying35
 have HR0_0:=am' hr0_0
 have HC0_0:=am' hc0_0
 clear hr0_0 hc0_0;have HR1_0:=am' hr1_0
 have HC1_0:=am' hc1_0
 clear hr1_0 hc1_0;have HB:=am' (Below.refl w.heap.size w)
 have H:(if (a0_1 == a1_1)=true then ((laws_hBools.f k l0_0 l1_0).bind fun t292=>(some t292)) else (some false))=some r:=h
 clear h;by_cases c3:(a0_1 == a1_1)=true
 ·
  rw[if_pos c3] at H;have c3b0:(a0_1 == a1_1)=true:=c3
  (try (have c3b1:decide (a0_1=a1_1)=true:=by simpa using c3))
  (try (have c3b2:(a0_1 == a1_1)=true:=by simpa using c3))
  clear c3;replace H:=Option.bind_eq_some_iff.mp H;obtain ⟨t292,A40,H⟩:=H;replace H:(some t292)=some r:=H;have A4:=am' A40;clear A40;obtain rfl:=os' H;go_enter Try.func22,Try.ntmps22;go_wp2_with (first|((with_reducible refine gate_dst (N:=2) rfl ?_);refine box_event ?hg (N:=2) ?hd (cs:=#[.slice A0_0 l0_0.length c0_0, .bool a0_1]) (t:=35) ?hr ?_;(case hd=>rfl);(case hg=>rfl);(case hr=>first|(go_simp;done)|(go_simp;rfl));intro gb290 hg w5 hbox hb;have n0_:=am' (bt' xb' hb);have n1_:=am' (hbox);have n2_:=am' ((by rw[hg];exact (bz' xb'):w.heap.size≤gb290));have n3_:=am' ((by rw[hg];exact (bz' xb'):w.heap.size≤gb290));clear HB;have HB:=n0_;have BK290:=n1_;have GW290:=n2_;have GE290:=n3_;clear n0_ n1_ n2_ n3_;clear hb hbox hg)|((with_reducible refine gate_dst (N:=3) rfl ?_);refine box_event ?hg (N:=3) ?hd (cs:=#[.slice A1_0 l1_0.length c1_0, .bool a1_1]) (t:=35) ?hr ?_;(case hd=>rfl);(case hg=>rfl);(case hr=>first|(go_simp;done)|(go_simp;rfl));intro gb291 hg w6 hbox hb;have n0_:=am' (bb' (g:=gb290) (o := .cells #[.slice A0_0 l0_0.length c0_0, .bool a0_1] 35 (0,0)) (kk' BK290.out) hb);have n1_:=am' (bt' (yb' GE290.out) hb);have n2_:=am' (hbox);have n3_:=am' ((by rw[hg];exact (bz' (yb' GE290.out)):w.heap.size≤gb291));have n4_:=am' ((by rw[hg];exact (bz' (yb' GE290.out)):w.heap.size≤gb291));have n5_:=am' ((by rw[hg];exact Nat.ne_of_lt (blk_lt (g:=gb290) (o := .cells #[.slice A0_0 l0_0.length c0_0, .bool a0_1] 35 (0,0)) (kk' BK290.out)):gb290≠gb291));have n6_:=am' ((by rw[hg];exact Nat.ne_of_gt (blk_lt (g:=gb290) (o := .cells #[.slice A0_0 l0_0.length c0_0, .bool a0_1] 35 (0,0)) (kk' BK290.out)):gb291≠gb290));clear BK290;clear HB;have BK290:=n0_;have HB:=n1_;have BK291:=n2_;have GW291:=n3_;have GE291:=n4_;have NB290_291:=n5_;have NB291_290:=n6_;clear n0_ n1_ n2_ n3_ n4_ n5_ n6_;clear hb hbox hg;have hnb7:=NB290_291.out;have hnc7:=NB291_290.out;have hcz8_0:w6.cell? ⟨gb290,0,none⟩=some (.slice A0_0 l0_0.length c0_0):=(bc' BK290.out 0).trans rfl;have hcz8_1:w6.cell? ⟨gb290,1,none⟩=some (.bool a0_1):=(bc' BK290.out 1).trans rfl;have hfz8_0:=bf' BK290.out 0;have hfz8_1:=bf' BK290.out 1;have hcz9_0:w6.cell? ⟨gb291,0,none⟩=some (.slice A1_0 l1_0.length c1_0):=(bc' BK291.out 0).trans rfl;have hcz9_1:w6.cell? ⟨gb291,1,none⟩=some (.bool a1_1):=(bc' BK291.out 1).trans rfl;have hfz9_0:=bf' BK291.out 0;have hfz9_1:=bf' BK291.out 1)|(go_at_call 54;(with_reducible refine (laws_hBools.calls k _ _ l0_0 _ _ l1_0 t292 _ ?side1 ?side2 ?side3 ?side4 A4.out).mono ?_);(case side1=>exact kc' (cb' HR0_0.out HB.out));(case side2=>exact HC0_0.out);(case side3=>exact kc' (cb' HR1_0.out HB.out));(case side4=>exact HC1_0.out);rintro e w' ⟨rfl,⟨nd,rfl⟩⟩))
  go_ret
  exact ⟨by first|rfl|(simp[errW_none,errW_some] <;> rfl)|(simp[*,errW_none,errW_some] <;> rfl),y2' GE290.out GE291.out⟩
 ·
  rw[if_neg c3] at H;have c3b0:(a0_1 == a1_1)=false:=by simpa using c3
  (try (have c3b1:decide (a0_1=a1_1)=false:=by simpa using c3))
  (try (have c3b2:(a0_1 == a1_1)=false:=by simpa using c3))
  (try (have c3b3:¬ (a0_1=a1_1):=by simpa using c3))
  clear c3;obtain rfl:=os' H;go_enter Try.func22,Try.ntmps22;go_wp2_with (first|((with_reducible refine gate_dst (N:=2) rfl ?_);refine box_event ?hg (N:=2) ?hd (cs:=#[.slice A0_0 l0_0.length c0_0, .bool a0_1]) (t:=35) ?hr ?_;(case hd=>rfl);(case hg=>rfl);(case hr=>first|(go_simp;done)|(go_simp;rfl));intro gb290 hg w10 hbox hb;have n0_:=am' (bt' xb' hb);have n1_:=am' (hbox);have n2_:=am' ((by rw[hg];exact (bz' xb'):w.heap.size≤gb290));have n3_:=am' ((by rw[hg];exact (bz' xb'):w.heap.size≤gb290));clear HB;have HB:=n0_;have BK290:=n1_;have GW290:=n2_;have GE290:=n3_;clear n0_ n1_ n2_ n3_;clear hb hbox hg)|((with_reducible refine gate_dst (N:=3) rfl ?_);refine box_event ?hg (N:=3) ?hd (cs:=#[.slice A1_0 l1_0.length c1_0, .bool a1_1]) (t:=35) ?hr ?_;(case hd=>rfl);(case hg=>rfl);(case hr=>first|(go_simp;done)|(go_simp;rfl));intro gb291 hg w11 hbox hb;have n0_:=am' (bb' (g:=gb290) (o := .cells #[.slice A0_0 l0_0.length c0_0, .bool a0_1] 35 (0,0)) (kk' BK290.out) hb);have n1_:=am' (bt' (yb' GE290.out) hb);have n2_:=am' (hbox);have n3_:=am' ((by rw[hg];exact (bz' (yb' GE290.out)):w.heap.size≤gb291));have n4_:=am' ((by rw[hg];exact (bz' (yb' GE290.out)):w.heap.size≤gb291));have n5_:=am' ((by rw[hg];exact Nat.ne_of_lt (blk_lt (g:=gb290) (o := .cells #[.slice A0_0 l0_0.length c0_0, .bool a0_1] 35 (0,0)) (kk' BK290.out)):gb290≠gb291));have n6_:=am' ((by rw[hg];exact Nat.ne_of_gt (blk_lt (g:=gb290) (o := .cells #[.slice A0_0 l0_0.length c0_0, .bool a0_1] 35 (0,0)) (kk' BK290.out)):gb291≠gb290));clear BK290;clear HB;have BK290:=n0_;have HB:=n1_;have BK291:=n2_;have GW291:=n3_;have GE291:=n4_;have NB290_291:=n5_;have NB291_290:=n6_;clear n0_ n1_ n2_ n3_ n4_ n5_ n6_;clear hb hbox hg;have hnb12:=NB290_291.out;have hnc12:=NB291_290.out;have hcz13_0:w11.cell? ⟨gb290,0,none⟩=some (.slice A0_0 l0_0.length c0_0):=(bc' BK290.out 0).trans rfl;have hcz13_1:w11.cell? ⟨gb290,1,none⟩=some (.bool a0_1):=(bc' BK290.out 1).trans rfl;have hfz13_0:=bf' BK290.out 0;have hfz13_1:=bf' BK290.out 1;have hcz14_0:w11.cell? ⟨gb291,0,none⟩=some (.slice A1_0 l1_0.length c1_0):=(bc' BK291.out 0).trans rfl;have hcz14_1:w11.cell? ⟨gb291,1,none⟩=some (.bool a1_1):=(bc' BK291.out 1).trans rfl;have hfz14_0:=bf' BK291.out 0;have hfz14_1:=bf' BK291.out 1))
  go_ret
  exact ⟨by first|rfl|(simp[errW_none,errW_some] <;> rfl)|(simp[*,errW_none,errW_some] <;> rfl),y2' GE290.out GE291.out⟩
end Go.Proofs.Ytabhhkiipilghaa.C2
