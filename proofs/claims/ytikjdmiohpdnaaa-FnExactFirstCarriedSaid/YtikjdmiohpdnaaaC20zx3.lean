import Derived.Test.YtikjdmiohpdnaaaC20zx0
import Derived.Test.YtikjdmiohpdnaaaC20zx2
import Derived.Test.YtikjdmiohpdnaaaC20zAl
namespace Go.Proofs.Ytikjdmiohpdnaaa.C20
open Go.RowKit Go.Proofs.YtikjdmiohpdnaaaW.PrintWords Go.Proofs.YtikjdmiohpdnaaaW.PrintLast Go.Proofs.YtikjdmiohpdnaaaW.PrintMore Go.Proofs.Ytikjdmiohpdnaaa.H
attribute [local go_sem] max2_int min2_int max_two min_two max_three min_three max_four min_four
set_option linter.unusedVariables false
set_option linter.unusedSimpArgs false
def spec_loGood.f (k:Nat) (l0_0:List Int) (l0_1:List Bool) (a0_2:Int):Option (Bool):=(spec_l1In.f (l0_0.length:Int) 1 7).bind fun t147=>(if t147=true then (if (l0_1.length:Int)=(l0_0.length:Int) then ((spec_l1All.f k l0_0 1 500).bind fun t148=>(if t148=true then ((spec_l1In.f a0_2 0 2000).bind fun t149=>(some t149)) else (some false))) else (some false)) else (some false))
set_option maxHeartbeats 8000000 in
set_option maxRecDepth 100000 in
theorem spec_loGood.calls (k:Nat) (A0_0:Option Addr) (c0_0:Nat) (l0_0:List Int) (A0_1:Option Addr) (c0_1:Nat) (l0_1:List Bool) (a0_2:Int) (r:Bool) (w:World) (hr0_0:Kd.C (Kd.int .i64) w A0_0 l0_0.length l0_0) (hc0_0:l0_0.length≤c0_0) (hr0_1:Kd.C Kd.bool w A0_1 l0_1.length l0_1) (hc0_1:l0_1.length≤c0_1) (h:spec_loGood.f k l0_0 l0_1 a0_2=some r) :
  Calls Try.prog 50 #[.agg #[.slice A0_0 l0_0.length c0_0, .slice A0_1 l0_1.length c0_1, .int .i64 a0_2]] w fun e w'=>e = .returned (.bool r)∧Below w.heap.size w w':=by
 have hu29:=Try.underlying29
 have HR0_0:=am' hr0_0
 have HC0_0:=am' hc0_0
 clear hr0_0 hc0_0;have HR0_1:=am' hr0_1
 have HC0_1:=am' hc0_1
 clear hr0_1 hc0_1;have HB:=am' (Below.refl w.heap.size w)
 have H:((spec_l1In.f (l0_0.length:Int) 1 7).bind fun t147=>(if t147=true then (if (l0_1.length:Int)=(l0_0.length:Int) then ((spec_l1All.f k l0_0 1 500).bind fun t148=>(if t148=true then ((spec_l1In.f a0_2 0 2000).bind fun t149=>(some t149)) else (some false))) else (some false)) else (some false)))=some r:=h
 clear h;replace H:=Option.bind_eq_some_iff.mp H
 obtain ⟨t147,A20,H⟩:=H
 replace H:(if t147=true then (if (l0_1.length:Int)=(l0_0.length:Int) then ((spec_l1All.f k l0_0 1 500).bind fun t148=>(if t148=true then ((spec_l1In.f a0_2 0 2000).bind fun t149=>(some t149)) else (some false))) else (some false)) else (some false))=some r:=H
 have A2:=am' A20
 clear A20;by_cases c3:t147=true
 ·
  subst c3;have H1:(if (l0_1.length:Int)=(l0_0.length:Int) then ((spec_l1All.f k l0_0 1 500).bind fun t148=>(if t148=true then ((spec_l1In.f a0_2 0 2000).bind fun t149=>(some t149)) else (some false))) else (some false))=some r:=by rw[if_pos rfl] at H;exact H
  clear H;have H:=H1;clear H1;by_cases c4:(l0_1.length:Int)=(l0_0.length:Int)
  ·
   rw[if_pos c4] at H;have c4b0:((l0_1.length:Int) == (l0_0.length:Int))=true:=beq_iff_eq.mpr c4;have c4b1:((l0_1.length:Int) != (l0_0.length:Int))=false:=bne_eq_false_iff_eq.mpr c4;have c4b2:(l0_1.length == l0_0.length)=true:=by first|simpa using c4|(simp at c4 ⊢;omega)
   clear c4;replace H:=Option.bind_eq_some_iff.mp H;obtain ⟨t148,A50,H⟩:=H;replace H:(if t148=true then ((spec_l1In.f a0_2 0 2000).bind fun t149=>(some t149)) else (some false))=some r:=H;have A5:=am' A50;clear A50;by_cases c6:t148=true
   ·
    subst c6;have H1:((spec_l1In.f a0_2 0 2000).bind fun t149=>(some t149))=some r:=by rw[if_pos rfl] at H;exact H
    clear H;have H:=H1;clear H1;replace H:=Option.bind_eq_some_iff.mp H;obtain ⟨t149,A70,H⟩:=H;replace H:(some t149)=some r:=H;have A7:=am' A70;clear A70;obtain rfl:=os' H;go_enter Try.func50,Try.ntmps50;go_wp2_with (first|((with_reducible refine gate_dst (N:=1) rfl ?_);(try (refine gate_guard (by rfl) ?_;dsimp only));refine box_event ?hg (N:=1) ?hd (cs:=#[.slice A0_0 l0_0.length c0_0, .slice A0_1 l0_1.length c0_1, .int .i64 a0_2]) (t:=29) ?hr ?_;(case hd=>rfl);(case hg=>rfl);(case hr=>first|(go_simp;done)|(go_simp;rfl));intro gb146 hg w8 hbox hb;have n0_:=am' (bt' xb' hb);have n1_:=am' (hbox);have n2_:=am' ((by rw[hg];exact (bz' xb'):w.heap.size≤gb146));have n3_:=am' ((by rw[hg];exact (bz' xb'):w.heap.size≤gb146));clear HB;have HB:=n0_;have BK146:=n1_;have GW146:=n2_;have GE146:=n3_;clear n0_ n1_ n2_ n3_;clear hb hbox hg;have hcz9_0:w8.cell? ⟨gb146,0,none⟩=some (.slice A0_0 l0_0.length c0_0):=(bc' BK146.out 0).trans rfl;have hcz9_1:w8.cell? ⟨gb146,1,none⟩=some (.slice A0_1 l0_1.length c0_1):=(bc' BK146.out 1).trans rfl;have hcz9_2:w8.cell? ⟨gb146,2,none⟩=some (.int .i64 a0_2):=(bc' BK146.out 2).trans rfl;have hfz9_0:=bf' BK146.out 0;have hfz9_1:=bf' BK146.out 1;have hfz9_2:=bf' BK146.out 2)|((with_reducible refine gate_callee (f:=87) rfl ?_);refine goesL_ (some 6) rfl rfl Try.func87 xk' rfl #[.int .i64 (l0_0.length:Int), .int .i64 1, .int .i64 7] rfl xl' ?_;(with_reducible refine (spec_l1In.calls (l0_0.length:Int) 1 7 true _ A2.out).mono ?_);rintro e w' ⟨rfl,⟨nd,rfl⟩⟩;refine ⟨_,rfl,?_⟩)|(go_at_call 88;(with_reducible refine (spec_l1All.calls k _ _ l0_0 1 500 true _ ?side1 ?side2 A5.out).mono ?_);(case side1=>exact kc' (cb' HR0_0.out (yb' GE146.out)));(case side2=>exact HC0_0.out);rintro e w' ⟨rfl,⟨nd,rfl⟩⟩)|(go_at_call 87;(with_reducible refine (spec_l1In.calls a0_2 0 2000 t149 _ A7.out).mono ?_);rintro e w' ⟨rfl,⟨nd,rfl⟩⟩));go_ret
    exact ⟨by first|rfl|(simp[errW_none,errW_some] <;> rfl)|(simp[*,errW_none,errW_some] <;> rfl),yb' GE146.out⟩
   ·
    replace c6:=Bool.eq_false_iff.mpr c6;subst c6;have H1:(some false)=some r:=by rw[if_neg (show ¬ (false=true) by decide)] at H;exact H
    clear H;have H:=H1;clear H1;obtain rfl:=os' H;go_enter Try.func50,Try.ntmps50;go_wp2_with (first|((with_reducible refine gate_dst (N:=1) rfl ?_);(try (refine gate_guard (by rfl) ?_;dsimp only));refine box_event ?hg (N:=1) ?hd (cs:=#[.slice A0_0 l0_0.length c0_0, .slice A0_1 l0_1.length c0_1, .int .i64 a0_2]) (t:=29) ?hr ?_;(case hd=>rfl);(case hg=>rfl);(case hr=>first|(go_simp;done)|(go_simp;rfl));intro gb146 hg w10 hbox hb;have n0_:=am' (bt' xb' hb);have n1_:=am' (hbox);have n2_:=am' ((by rw[hg];exact (bz' xb'):w.heap.size≤gb146));have n3_:=am' ((by rw[hg];exact (bz' xb'):w.heap.size≤gb146));clear HB;have HB:=n0_;have BK146:=n1_;have GW146:=n2_;have GE146:=n3_;clear n0_ n1_ n2_ n3_;clear hb hbox hg;have hcz11_0:w10.cell? ⟨gb146,0,none⟩=some (.slice A0_0 l0_0.length c0_0):=(bc' BK146.out 0).trans rfl;have hcz11_1:w10.cell? ⟨gb146,1,none⟩=some (.slice A0_1 l0_1.length c0_1):=(bc' BK146.out 1).trans rfl;have hcz11_2:w10.cell? ⟨gb146,2,none⟩=some (.int .i64 a0_2):=(bc' BK146.out 2).trans rfl;have hfz11_0:=bf' BK146.out 0;have hfz11_1:=bf' BK146.out 1;have hfz11_2:=bf' BK146.out 2)|((with_reducible refine gate_callee (f:=87) rfl ?_);refine goesL_ (some 6) rfl rfl Try.func87 xk' rfl #[.int .i64 (l0_0.length:Int), .int .i64 1, .int .i64 7] rfl xl' ?_;(with_reducible refine (spec_l1In.calls (l0_0.length:Int) 1 7 true _ A2.out).mono ?_);rintro e w' ⟨rfl,⟨nd,rfl⟩⟩;refine ⟨_,rfl,?_⟩)|(go_at_call 88;(with_reducible refine (spec_l1All.calls k _ _ l0_0 1 500 false _ ?side1 ?side2 A5.out).mono ?_);(case side1=>exact kc' (cb' HR0_0.out (yb' GE146.out)));(case side2=>exact HC0_0.out);rintro e w' ⟨rfl,⟨nd,rfl⟩⟩));go_ret
    exact ⟨by first|rfl|(simp[errW_none,errW_some] <;> rfl)|(simp[*,errW_none,errW_some] <;> rfl),yb' GE146.out⟩
  ·
   rw[if_neg c4] at H;have c4b0:((l0_1.length:Int) == (l0_0.length:Int))=false:=beq_eq_false_iff_ne.mpr c4;have c4b1:((l0_1.length:Int) != (l0_0.length:Int))=true:=bne_iff_ne.mpr c4;have c4b2:(l0_1.length == l0_0.length)=false:=by first|simpa using c4|(simp at c4 ⊢;omega)
   obtain rfl:=os' H;go_enter Try.func50,Try.ntmps50;go_wp2_with (first|((with_reducible refine gate_dst (N:=1) rfl ?_);(try (refine gate_guard (by rfl) ?_;dsimp only));refine box_event ?hg (N:=1) ?hd (cs:=#[.slice A0_0 l0_0.length c0_0, .slice A0_1 l0_1.length c0_1, .int .i64 a0_2]) (t:=29) ?hr ?_;(case hd=>rfl);(case hg=>rfl);(case hr=>first|(go_simp;done)|(go_simp;rfl));intro gb146 hg w12 hbox hb;have n0_:=am' (bt' xb' hb);have n1_:=am' (hbox);have n2_:=am' ((by rw[hg];exact (bz' xb'):w.heap.size≤gb146));have n3_:=am' ((by rw[hg];exact (bz' xb'):w.heap.size≤gb146));clear HB;have HB:=n0_;have BK146:=n1_;have GW146:=n2_;have GE146:=n3_;clear n0_ n1_ n2_ n3_;clear hb hbox hg;have hcz13_0:w12.cell? ⟨gb146,0,none⟩=some (.slice A0_0 l0_0.length c0_0):=(bc' BK146.out 0).trans rfl;have hcz13_1:w12.cell? ⟨gb146,1,none⟩=some (.slice A0_1 l0_1.length c0_1):=(bc' BK146.out 1).trans rfl;have hcz13_2:w12.cell? ⟨gb146,2,none⟩=some (.int .i64 a0_2):=(bc' BK146.out 2).trans rfl;have hfz13_0:=bf' BK146.out 0;have hfz13_1:=bf' BK146.out 1;have hfz13_2:=bf' BK146.out 2)|((with_reducible refine gate_callee (f:=87) rfl ?_);refine goesL_ (some 6) rfl rfl Try.func87 xk' rfl #[.int .i64 (l0_0.length:Int), .int .i64 1, .int .i64 7] rfl xl' ?_;(with_reducible refine (spec_l1In.calls (l0_0.length:Int) 1 7 true _ A2.out).mono ?_);rintro e w' ⟨rfl,⟨nd,rfl⟩⟩;refine ⟨_,rfl,?_⟩));go_ret
   exact ⟨by first|rfl|(simp[errW_none,errW_some] <;> rfl)|(simp[*,errW_none,errW_some] <;> rfl),yb' GE146.out⟩
 ·
  replace c3:=Bool.eq_false_iff.mpr c3;subst c3;have H1:(some false)=some r:=by rw[if_neg (show ¬ (false=true) by decide)] at H;exact H
  clear H;have H:=H1;clear H1;obtain rfl:=os' H;go_enter Try.func50,Try.ntmps50;go_wp2_with (first|((with_reducible refine gate_dst (N:=1) rfl ?_);(try (refine gate_guard (by rfl) ?_;dsimp only));refine box_event ?hg (N:=1) ?hd (cs:=#[.slice A0_0 l0_0.length c0_0, .slice A0_1 l0_1.length c0_1, .int .i64 a0_2]) (t:=29) ?hr ?_;(case hd=>rfl);(case hg=>rfl);(case hr=>first|(go_simp;done)|(go_simp;rfl));intro gb146 hg w14 hbox hb;have n0_:=am' (bt' xb' hb);have n1_:=am' (hbox);have n2_:=am' ((by rw[hg];exact (bz' xb'):w.heap.size≤gb146));have n3_:=am' ((by rw[hg];exact (bz' xb'):w.heap.size≤gb146));clear HB;have HB:=n0_;have BK146:=n1_;have GW146:=n2_;have GE146:=n3_;clear n0_ n1_ n2_ n3_;clear hb hbox hg;have hcz15_0:w14.cell? ⟨gb146,0,none⟩=some (.slice A0_0 l0_0.length c0_0):=(bc' BK146.out 0).trans rfl;have hcz15_1:w14.cell? ⟨gb146,1,none⟩=some (.slice A0_1 l0_1.length c0_1):=(bc' BK146.out 1).trans rfl;have hcz15_2:w14.cell? ⟨gb146,2,none⟩=some (.int .i64 a0_2):=(bc' BK146.out 2).trans rfl;have hfz15_0:=bf' BK146.out 0;have hfz15_1:=bf' BK146.out 1;have hfz15_2:=bf' BK146.out 2)|((with_reducible refine gate_callee (f:=87) rfl ?_);refine goesL_ (some 6) rfl rfl Try.func87 xk' rfl #[.int .i64 (l0_0.length:Int), .int .i64 1, .int .i64 7] rfl xl' ?_;(with_reducible refine (spec_l1In.calls (l0_0.length:Int) 1 7 false _ A2.out).mono ?_);rintro e w' ⟨rfl,⟨nd,rfl⟩⟩;refine ⟨_,rfl,?_⟩));go_ret
  exact ⟨by first|rfl|(simp[errW_none,errW_some] <;> rfl)|(simp[*,errW_none,errW_some] <;> rfl),yb' GE146.out⟩
def spec_paFirst.f (l0_0:List Int) (a0_1:Int):Option (List Bool × Bool):=if 0≤(l0_0.length:Int) then (if ((l0_0.length:Int):Int).toNat≤281474976710656 then (some ((List.replicate ((l0_0.length:Int):Int).toNat false),false)) else (none)) else (none)
set_option maxHeartbeats 8000000 in
set_option maxRecDepth 100000 in
theorem spec_paFirst.calls (A0_0:Option Addr) (c0_0:Nat) (l0_0:List Int) (a0_1:Int) (r1:List Bool) (r2:Bool) (w:World) (hr0_0:Kd.C (Kd.int .i64) w A0_0 l0_0.length l0_0) (hc0_0:l0_0.length≤c0_0) (h:spec_paFirst.f l0_0 a0_1=some (r1,r2)) :
  Calls Try.prog 66 #[.agg #[.slice A0_0 l0_0.length c0_0, .int .i64 a0_1]] w fun e w'=>∃ v0_:Value,e = .returned (.agg #[v0_, .bool r2])∧Kd.R Kd.bool 4 w' w.heap.size (fun _=>True) v0_ r1∧Below w.heap.size w w':=by
 have hu78:=Try.underlying78
 have hu38:=Try.underlying38
 have HR0_0:=am' hr0_0
 have HC0_0:=am' hc0_0
 clear hr0_0 hc0_0;have HB:=am' (Below.refl w.heap.size w)
 have H:(if 0≤(l0_0.length:Int) then (if ((l0_0.length:Int):Int).toNat≤281474976710656 then (some ((List.replicate ((l0_0.length:Int):Int).toNat false),false)) else (none)) else (none))=some (r1,r2):=h
 clear h;by_cases c2:0≤(l0_0.length:Int)
 ·
  rw[if_pos c2] at H;have c2b0:=eq_true c2;have c2b1:decide (0≤(l0_0.length:Int))=true:=dt' c2;clear c2;by_cases c3:((l0_0.length:Int):Int).toNat≤281474976710656
  ·
   rw[if_pos c3] at H;have c3b0:=eq_true c3;have c3b1:decide (((l0_0.length:Int):Int).toNat≤281474976710656)=true:=dt' c3;clear c3;obtain ⟨y152,hy152⟩:∃ y_:List Bool,y_=(List.replicate ((l0_0.length:Int):Int).toNat false):=⟨_,rfl⟩
   replace H:(some (y152,false))=some (r1,r2):=by first|(rw[hy152];with_reducible exact H)|(have H2_:=(Option.bind_some _ _).symm.trans H;rw[hy152];with_reducible exact H2_)|(have H2_:=(Option.bind_some _ _).symm.trans H;with_reducible exact H2_)|with_reducible exact H|(rw[hy152];exact H)|exact H
   have Ny152:=am' hy152;clear hy152;simp only[Option.some.injEq,Prod.mk.injEq] at H;obtain ⟨rfl,rfl⟩:=H;go_enter Try.func66,Try.ntmps66;go_wp2_with (first|((with_reducible refine gate_dst (N:=1) rfl ?_);refine box_event ?hg (N:=1) ?hd (cs:=#[.slice A0_0 l0_0.length c0_0, .int .i64 a0_1]) (t:=78) ?hr ?_;(case hd=>rfl);(case hg=>rfl);(case hr=>first|(go_simp;done)|(go_simp;rfl));intro gb150 hg w4 hbox hb;have n0_:=am' (bt' xb' hb);have n1_:=am' (hbox);have n2_:=am' ((by rw[hg];exact (bz' xb'):w.heap.size≤gb150));have n3_:=am' ((by rw[hg];exact (bz' xb'):w.heap.size≤gb150));clear HB;have HB:=n0_;have BK150:=n1_;have GW150:=n2_;have GE150:=n3_;clear n0_ n1_ n2_ n3_;clear hb hbox hg)|((with_reducible refine gate_dst (N:=2) rfl ?_);refine box_event ?hg (N:=2) ?hd (cs:=#[.slice none 0 0, .bool false]) (t:=38) ?hr ?_;(case hd=>rfl);(case hg=>rfl);(case hr=>first|(go_simp;done)|(go_simp;rfl));intro gb151 hg w5 hbox hb;have n0_:=am' (bb' (g:=gb150) (o := .cells #[.slice A0_0 l0_0.length c0_0, .int .i64 a0_1] 78 (0,0)) (kk' BK150.out) hb);have n1_:=am' (bt' (yb' GE150.out) hb);have n2_:=am' (hbox);have n3_:=am' ((by rw[hg];exact (bz' (yb' GE150.out)):w.heap.size≤gb151));have n4_:=am' ((by rw[hg];exact (bz' (yb' GE150.out)):w.heap.size≤gb151));have n5_:=am' ((by rw[hg];exact Nat.ne_of_lt (blk_lt (g:=gb150) (o := .cells #[.slice A0_0 l0_0.length c0_0, .int .i64 a0_1] 78 (0,0)) (kk' BK150.out)):gb150≠gb151));have n6_:=am' ((by rw[hg];exact Nat.ne_of_gt (blk_lt (g:=gb150) (o := .cells #[.slice A0_0 l0_0.length c0_0, .int .i64 a0_1] 78 (0,0)) (kk' BK150.out)):gb151≠gb150));clear BK150;clear HB;have BK150:=n0_;have HB:=n1_;have BK151:=n2_;have GW151:=n3_;have GE151:=n4_;have NB150_151:=n5_;have NB151_150:=n6_;clear n0_ n1_ n2_ n3_ n4_ n5_ n6_;clear hb hbox hg;have hnb6:=NB150_151.out;have hnc6:=NB151_150.out;have hcz7_0:w5.cell? ⟨gb150,0,none⟩=some (.slice A0_0 l0_0.length c0_0):=(bc' BK150.out 0).trans rfl;have hcz7_1:w5.cell? ⟨gb150,1,none⟩=some (.int .i64 a0_1):=(bc' BK150.out 1).trans rfl;have hfz7_0:=bf' BK150.out 0;have hfz7_1:=bf' BK150.out 1)|((with_reducible refine gate_dst (N:=6) rfl ?_);refine Kd.R_make Kd.bool _ 4 rfl (N:=6) rfl 23 _ _ rfl (l0_0.length:Int) rfl rfl Try.underlying23 (.bool false) 1 info4 rfl (by decide) (by omega) false (ok:=fun _=>True) (okp:=fun _=>True) rfl (fun _ hk=>hk) trivial (od' xa') (Nat.le_trans (Nat.mul_le_mul_right _ (od' xa':(l0_0.length:Int).toNat≤281474976710656)) (by omega)) (Below.refl _ _) (Nat.le_refl _) ?_;intro v153 w8 ho9 hb hg_ hnew_;clear hg_ hnew_;(first|rw[← Ny152.out] at ho9|(simp only[Int.reduceToNat] at ho9;rw[← Ny152.out] at ho9));have n0_:=am' (Kd.R_lower ho9 (bz' (y2' GE150.out GE151.out)));have n1_:=am' (bb' (g:=gb150) (o := .cells #[.slice A0_0 l0_0.length c0_0, .int .i64 a0_1] 78 (0,0)) (kk' BK150.out) hb);have n2_:=am' (bb' (g:=gb151) (o := .cells #[.slice none 0 0, .bool false] 38 (0,0)) (kk' BK151.out) hb);have n3_:=am' (bt' (y2' GE150.out GE151.out) hb);clear BK150;clear BK151;clear HB;have HO154:=n0_;have BK150:=n1_;have BK151:=n2_;have HB:=n3_;clear n0_ n1_ n2_ n3_;clear hb ho9;obtain ⟨Ao10,co10,eo10⟩:=Kd.R_slice HO154.out;subst eo10;have hcz11_0:w8.cell? ⟨gb151,0,none⟩=some (.slice none 0 0):=(bc' BK151.out 0).trans rfl;have hcz11_1:w8.cell? ⟨gb151,1,none⟩=some (.bool false):=(bc' BK151.out 1).trans rfl;have hfz11_0:=bf' BK151.out 0;have hfz11_1:=bf' BK151.out 1))
   refine bodyPost_ret (results_cell_row rfl _ _ gb151 38 #[.slice Ao10 y152.length co10, .bool false] (0,0) _ rfl (by (with_reducible repeat (first|refine kn' ?_ _|refine kd' ?_|refine ka' ?_ _));refine blk_put (cs:=#[.slice Ao10 y152.length co10, .bool false]) ?_ 1 _ rfl;(with_reducible repeat (first|refine kn' ?_ _|refine kd' ?_|refine ka' ?_ _));refine blk_put (cs:=#[.slice none 0 0, .bool false]) ?_ 0 _ rfl;(with_reducible repeat (first|refine kn' ?_ _|refine kd' ?_|refine ka' ?_ _));exact BK151.out) Try.underlying38 rfl xk') rfl ?_
   exact ⟨_,by first|rfl|(simp[errW_none,errW_some] <;> rfl)|(simp[*,errW_none,errW_some] <;> rfl),by (with_reducible repeat (first|apply ra'|apply rn'|apply rw'));exact Kd.R_mono (Kd.R_far (p:=⟨gb151,1,none⟩) (Kd.R_far (p:=⟨gb151,0,none⟩) (Kd.R_types HO154.out BK151.out (by decide)) (fun _ hk=>hk.2) (.slice Ao10 y152.length co10)) (fun _ hk=>hk.2) (.bool false)) (fun _ hk=>trivial),y2' GE150.out GE151.out⟩
  ·
   rw[if_neg c3] at H;exact absurd H (by simp)
 ·
  rw[if_neg c2] at H;exact absurd H (by simp)
def spec_loParty.f (l0_0:List Int) (l0_1:List Bool) (a0_2:Int):Option (List Int × Int):=some (l0_0,0)
set_option maxHeartbeats 8000000 in
set_option maxRecDepth 100000 in
theorem spec_loParty.calls (P0_0_:Nat→Prop) (A0_0:Option Addr) (c0_0:Nat) (l0_0:List Int) (A0_1:Option Addr) (c0_1:Nat) (l0_1:List Bool) (a0_2:Int) (r1:List Int) (r2:Int) (w:World) (hs0_0:Kd.V (Kd.int .i64) 3 w w.heap.size (fun k_=>P0_0_ k_) (.slice A0_0 l0_0.length c0_0) l0_0) (hr0_1:Kd.C Kd.bool w A0_1 l0_1.length l0_1) (hc0_1:l0_1.length≤c0_1) (h:spec_loParty.f l0_0 l0_1 a0_2=some (r1,r2)) :
  Calls Try.prog 67 #[.agg #[.slice A0_0 l0_0.length c0_0, .slice A0_1 l0_1.length c0_1, .int .i64 a0_2]] w fun e w'=>∃ v0_:Value,e = .returned (.agg #[v0_, .int .i64 r2])∧Kd.V (Kd.int .i64) 3 w' w.heap.size (fun k_=>(P0_0_ k_∨w.heap.size≤k_)) v0_ r1∧Below w.heap.size w w':=by
 have hu29:=Try.underlying29
 have hu78:=Try.underlying78
 have HO0_0:=am' (show Kd.V (Kd.int .i64) 3 w w.heap.size (fun k_=>(P0_0_ k_∨w.heap.size≤k_)) (.slice A0_0 l0_0.length c0_0) l0_0 from Kd.V_mono hs0_0 (fun k_ hk => .inl hk))
 have HR0_1:=am' hr0_1
 have HC0_1:=am' hc0_1
 clear hr0_1 hc0_1;have HB:=am' (Below.refl w.heap.size w)
 have H:(some (l0_0,0))=some (r1,r2):=h
 clear h;simp only[Option.some.injEq,Prod.mk.injEq] at H
 obtain ⟨rfl,rfl⟩:=H
 go_enter Try.func67,Try.ntmps67
 go_wp2_with (first|((with_reducible refine gate_dst (N:=1) rfl ?_);refine box_event ?hg (N:=1) ?hd (cs:=#[.slice A0_0 l0_0.length c0_0, .slice A0_1 l0_1.length c0_1, .int .i64 a0_2]) (t:=29) ?hr ?_;(case hd=>rfl);(case hg=>rfl);(case hr=>first|(go_simp;done)|(go_simp;rfl));intro gb155 hg w2 hbox hb;have n0_:=am' (Kd.V_below (Kd.V_elderB (kV' HO0_0.out) gb155 (Nat.le_of_eq hg.symm)) hb);have n1_:=am' (bt' xb' hb);have n2_:=am' (hbox);have n3_:=am' ((by rw[hg];exact (bz' xb'):w.heap.size≤gb155));have n4_:=am' ((by rw[hg];exact (bz' xb'):w.heap.size≤gb155));clear HO0_0;clear HB;have HO0_0:=n0_;have HB:=n1_;have BK155:=n2_;have GW155:=n3_;have GE155:=n4_;clear n0_ n1_ n2_ n3_ n4_;clear hb hbox hg)|((with_reducible refine gate_dst (N:=2) rfl ?_);refine box_event ?hg (N:=2) ?hd (cs:=#[.slice none 0 0, .int .i64 0]) (t:=78) ?hr ?_;(case hd=>rfl);(case hg=>rfl);(case hr=>first|(go_simp;done)|(go_simp;rfl));intro gb156 hg w3 hbox hb;have n0_:=am' (Kd.V_below (Kd.V_elderB (kV' HO0_0.out) gb156 (Nat.le_of_eq hg.symm)) hb);have n1_:=am' (bb' (g:=gb155) (o := .cells #[.slice A0_0 l0_0.length c0_0, .slice A0_1 l0_1.length c0_1, .int .i64 a0_2] 29 (0,0)) (kk' BK155.out) hb);have n2_:=am' (bt' (yb' GE155.out) hb);have n3_:=am' (hbox);have n4_:=am' ((by rw[hg];exact (bz' (yb' GE155.out)):w.heap.size≤gb156));have n5_:=am' ((by rw[hg];exact (bz' (yb' GE155.out)):w.heap.size≤gb156));have n6_:=am' ((by rw[hg];exact Nat.ne_of_lt (blk_lt (g:=gb155) (o := .cells #[.slice A0_0 l0_0.length c0_0, .slice A0_1 l0_1.length c0_1, .int .i64 a0_2] 29 (0,0)) (kk' BK155.out)):gb155≠gb156));have n7_:=am' ((by rw[hg];exact Nat.ne_of_gt (blk_lt (g:=gb155) (o := .cells #[.slice A0_0 l0_0.length c0_0, .slice A0_1 l0_1.length c0_1, .int .i64 a0_2] 29 (0,0)) (kk' BK155.out)):gb156≠gb155));clear HO0_0;clear BK155;clear HB;have HO0_0:=n0_;have BK155:=n1_;have HB:=n2_;have BK156:=n3_;have GW156:=n4_;have GE156:=n5_;have NB155_156:=n6_;have NB156_155:=n7_;clear n0_ n1_ n2_ n3_ n4_ n5_ n6_ n7_;clear hb hbox hg;have hnb4:=NB155_156.out;have hnc4:=NB156_155.out;have hcz5_0:w3.cell? ⟨gb155,0,none⟩=some (.slice A0_0 l0_0.length c0_0):=(bc' BK155.out 0).trans rfl;have hcz5_1:w3.cell? ⟨gb155,1,none⟩=some (.slice A0_1 l0_1.length c0_1):=(bc' BK155.out 1).trans rfl;have hcz5_2:w3.cell? ⟨gb155,2,none⟩=some (.int .i64 a0_2):=(bc' BK155.out 2).trans rfl;have hfz5_0:=bf' BK155.out 0;have hfz5_1:=bf' BK155.out 1;have hfz5_2:=bf' BK155.out 2;have hcz6_0:w3.cell? ⟨gb156,0,none⟩=some (.slice none 0 0):=(bc' BK156.out 0).trans rfl;have hcz6_1:w3.cell? ⟨gb156,1,none⟩=some (.int .i64 0):=(bc' BK156.out 1).trans rfl;have hfz6_0:=bf' BK156.out 0;have hfz6_1:=bf' BK156.out 1))
 refine bodyPost_ret (results_cell_row rfl _ _ gb156 78 #[.slice A0_0 l0_0.length c0_0, .int .i64 0] (0,0) _ rfl (by (with_reducible repeat (first|refine kn' ?_ _|refine kd' ?_|refine ka' ?_ _));refine blk_put (cs:=#[.slice A0_0 l0_0.length c0_0, .int .i64 0]) ?_ 1 _ rfl;(with_reducible repeat (first|refine kn' ?_ _|refine kd' ?_|refine ka' ?_ _));refine blk_put (cs:=#[.slice none 0 0, .int .i64 0]) ?_ 0 _ rfl;(with_reducible repeat (first|refine kn' ?_ _|refine kd' ?_|refine ka' ?_ _));exact BK156.out) Try.underlying78 rfl xk') rfl ?_
 exact ⟨_,by first|rfl|(simp[errW_none,errW_some] <;> rfl)|(simp[*,errW_none,errW_some] <;> rfl),by (with_reducible repeat (first|apply Kd.V_alloc|apply Kd.V_drewN|apply Kd.V_drew));exact Kd.V_mono (Kd.V_far (p:=⟨gb156,1,none⟩) (Kd.V_far (p:=⟨gb156,0,none⟩) (Kd.V_mono HO0_0.out (fun k_ hk=>(⟨hk,hk.2⟩:_∧k_≠gb156))) (fun _ hk=>hk.2) (.slice A0_0 l0_0.length c0_0)) (fun _ hk=>hk.2) (.int .i64 0)) (fun _ hk=>hk.1.1.1),y2' GE155.out GE156.out⟩
mutual
def spec_seIndex.j0:Nat→Int→List Bool→Bool→Option (Int)
 | 0,_,_,_=>none
 | k+1,x3,x158000,x158001=>spec_seIndex.l0 k x3 x158000 (x158000.length:Int) 0
def spec_seIndex.l0:Nat→Int→List Bool→Int→Int→Option (Int)
 | 0,_,_,_,_=>none
 | k+1,x3,x9,x10,x11=>if x11 < x10 then (if 0≤x11 then (if x11 < (x9.length:Int) then (if rdOf false x9 x11=true then (spec_seIndex.l0 k (wrap64 ((wrap64 (x3 * 2))+1)) x9 x10 (wrap64 (x11+1))) else (spec_seIndex.l0 k (wrap64 (x3 * 2)) x9 x10 (wrap64 (x11+1)))) else (none)) else (none)) else (some x3)
end
def spec_seIndex.f (k:Nat) (l0_0:List Bool) (a0_1:Bool):Option (Int):=if a0_1=true then (spec_seIndex.j0 k 1 l0_0 a0_1) else (spec_seIndex.j0 k 0 l0_0 a0_1)
theorem spec_seIndex.mono_l:∀ k,(∀ y0 y1 y2,LeO (spec_seIndex.j0 k y0 y1 y2) (spec_seIndex.j0 (k+1) y0 y1 y2))∧(∀ y0 y1 y2 y3,LeO (spec_seIndex.l0 k y0 y1 y2 y3) (spec_seIndex.l0 (k+1) y0 y1 y2 y3))
 | 0=>⟨fun _ _ _ r h=>by simp[spec_seIndex.j0] at h,fun _ _ _ _ r h=>by simp[spec_seIndex.l0] at h⟩
 | k+1=>by
  obtain ⟨ih0,ih1⟩:=spec_seIndex.mono_l k;refine ⟨?_,?_⟩
  ·
   intro y0 y1 y2;unfold spec_seIndex.j0
   repeat' first
   | (with_reducible exact ih0 _ _ _)
   | (with_reducible exact ih1 _ _ _ _)
   | (with_reducible exact LeO.refl _)
   | (with_reducible exact LeO.none _)
   | (with_reducible refine LeO.ite ?_ ?_)
   | (with_reducible refine LeO.bind ?_ (fun _=>?_))
   | exact ih0 _ _ _
   | exact ih1 _ _ _ _
   | exact LeO.none _
   | refine LeO.ite ?_ ?_
   | refine LeO.bind ?_ (fun _=>?_)
  ·
   intro y0 y1 y2 y3;unfold spec_seIndex.l0
   repeat' first
   | (with_reducible exact ih0 _ _ _)
   | (with_reducible exact ih1 _ _ _ _)
   | (with_reducible exact LeO.refl _)
   | (with_reducible exact LeO.none _)
   | (with_reducible refine LeO.ite ?_ ?_)
   | (with_reducible refine LeO.bind ?_ (fun _=>?_))
   | exact ih0 _ _ _
   | exact ih1 _ _ _ _
   | exact LeO.none _
   | refine LeO.ite ?_ ?_
   | refine LeO.bind ?_ (fun _=>?_)
theorem spec_seIndex.mono:∀ a0 a1 k,LeO (spec_seIndex.f k a0 a1) (spec_seIndex.f (k+1) a0 a1):=by
 intro a0 a1 k;obtain ⟨ih0,ih1⟩:=spec_seIndex.mono_l k
 unfold spec_seIndex.f
 repeat' first
   | (with_reducible exact ih0 _ _ _)
   | (with_reducible exact ih1 _ _ _ _)
   | (with_reducible exact LeO.refl _)
   | (with_reducible exact LeO.none _)
   | (with_reducible refine LeO.ite ?_ ?_)
   | (with_reducible refine LeO.bind ?_ (fun _=>?_))
   | exact ih0 _ _ _
   | exact ih1 _ _ _ _
   | exact LeO.none _
   | refine LeO.ite ?_ ?_
   | refine LeO.bind ?_ (fun _=>?_)
set_option maxHeartbeats 8000000 in
set_option maxRecDepth 100000 in
theorem spec_seIndex.calls (k:Nat) (A0_0:Option Addr) (c0_0:Nat) (l0_0:List Bool) (a0_1:Bool) (r:Int) (w:World) (hr0_0:Kd.C Kd.bool w A0_0 l0_0.length l0_0) (hc0_0:l0_0.length≤c0_0) (h:spec_seIndex.f k l0_0 a0_1=some r) :
  Calls Try.prog 82 #[.agg #[.slice A0_0 l0_0.length c0_0, .bool a0_1]] w fun e w'=>e = .returned (.int .i64 r)∧Below w.heap.size w w':=by
 have hu38:=Try.underlying38
 have HR0_0:=am' hr0_0
 have HC0_0:=am' hc0_0
 clear hr0_0 hc0_0;have HB:=am' (Below.refl w.heap.size w)
 have H:(if a0_1=true then (spec_seIndex.j0 k 1 l0_0 a0_1) else (spec_seIndex.j0 k 0 l0_0 a0_1))=some r:=h
 clear h;have HC2:=am' H
 clear H;go_enter Try.func82,Try.ntmps82
 go_upto_if 7 with (first|((with_reducible refine gate_dst (N:=1) rfl ?_);refine box_event ?hg (N:=1) ?hd (cs:=#[.slice A0_0 l0_0.length c0_0, .bool a0_1]) (t:=38) ?hr ?_;(case hd=>rfl);(case hg=>rfl);(case hr=>first|(go_simp;done)|(go_simp;rfl));intro gb157 hg w3 hbox hb;have n0_:=am' (bt' xb' hb);have n1_:=am' (hbox);have n2_:=am' ((by rw[hg];exact (bz' xb'):w.heap.size≤gb157));have n3_:=am' ((by rw[hg];exact (bz' xb'):w.heap.size≤gb157));clear HB;have HB:=n0_;have BK157:=n1_;have GW157:=n2_;have GE157:=n3_;clear n0_ n1_ n2_ n3_;clear hb hbox hg;have hcz4_0:w3.cell? ⟨gb157,0,none⟩=some (.slice A0_0 l0_0.length c0_0):=(bc' BK157.out 0).trans rfl;have hcz4_1:w3.cell? ⟨gb157,1,none⟩=some (.bool a0_1):=(bc' BK157.out 1).trans rfl;have hfz4_0:=bf' BK157.out 0;have hfz4_1:=bf' BK157.out 1))
 (try simp only[Act.put,sa',sb',sc'])
 go_cut [3] (fun v3 wc=>∃ (kq:Nat) (x3_1:Int),v3 = .int .i64 x3_1∧Aside0 (spec_seIndex.j0 kq x3_1 l0_0 a0_1=some r)∧Aside0 (kq≤k)∧Aside0 (wc.heap[gb157]? = some (.cells #[(.slice A0_0 l0_0.length c0_0), .bool a0_1] 38 (0,0)))∧Aside0 (Below w.heap.size w wc))
 case first =>
  have H:=HC2.out;clear HC2;by_cases c5:a0_1=true
  ·
   subst c5;have H1:(spec_seIndex.j0 k 1 l0_0 true)=some r:=by rw[if_pos rfl] at H;exact H
   clear H;have H:=H1;clear H1;have H':=am' H;clear H;go_wp2;go_meet
   case rel=>exact ⟨_,(1),xs',H',⟨by first|omega|exact Nat.le_refl _⟩,⟨kk' BK157.out⟩,⟨yb' GE157.out⟩⟩
  ·
   replace c5:=Bool.eq_false_iff.mpr c5;subst c5;have H1:(spec_seIndex.j0 k 0 l0_0 false)=some r:=by rw[if_neg (show ¬ (false=true) by decide)] at H;exact H
   clear H;have H:=H1;clear H1;have H':=am' H;clear H;go_wp2;go_meet
   case rel=>exact ⟨_,(0),xs',H',⟨by first|omega|exact Nat.le_refl _⟩,⟨kk' BK157.out⟩,⟨yb' GE157.out⟩⟩
 case rest =>
  clear HC2;try clear p2
  try clear c5
  try clear hcz4_0
  try clear hcz4_1
  try clear hfz4_0
  try clear hfz4_1
  obtain ⟨kq,x3_1,rfl,HA,HJ1,BK157,HB⟩:=hcut;cases kq with
  | zero=>exact absurd HA.out (by simp[spec_seIndex.j0])
  | succ kj1 =>
   have H:=HA.out;clear HA;simp only[spec_seIndex.j0] at H;have H':=am' H;clear H;have hcz6_0:wc.cell? ⟨gb157,0,none⟩=some (.slice A0_0 l0_0.length c0_0):=(bc' BK157.out 0).trans rfl;have hcz6_1:wc.cell? ⟨gb157,1,none⟩=some (.bool a0_1):=(bc' BK157.out 1).trans rfl;have hfz6_0:=bf' BK157.out 0;have hfz6_1:=bf' BK157.out 1;go_wp2;go_loopg [3,11] kj1 (fun kq v3 v11 w'=>∃ (x3_2:Int) (x11_2:Int),v3 = .int .i64 x3_2∧v11 = .int .i64 x11_2∧Aside0 (spec_seIndex.l0 kq x3_2 l0_0 (l0_0.length:Int) x11_2=some r)∧Aside0 (kq≤kj1)∧Aside0 (w'.heap[gb157]? = some (.cells #[(.slice A0_0 l0_0.length c0_0), .bool a0_1] 38 (0,0)))∧Aside0 (Below w.heap.size w w'))
   case atStart=>exact ⟨(x3_1),(0),xs',xs',H',⟨Nat.le_refl _⟩,⟨kk' BK157.out⟩,⟨yb' GE157.out⟩⟩
   case round =>
    clear H';try clear p2
    try clear c5
    try clear hcz4_0
    try clear hcz4_1
    try clear hcz6_0
    try clear hcz6_1
    try clear hfz4_0
    try clear hfz4_1
    try clear hfz6_0
    try clear hfz6_1
    try clear p2
    obtain ⟨x3_2,x11_2,rfl,rfl,HA,HK2,BK157,HB⟩:=hrel;cases gk with
    | zero=>exact absurd HA.out (by simp[spec_seIndex.l0])
    | succ k2 =>
     have H:=HA.out;clear HA;simp only[spec_seIndex.l0] at H;by_cases c7:x11_2 < (l0_0.length:Int)
     ·
      rw[if_pos c7] at H;have c7b0:decide (x11_2 < (l0_0.length:Int))=true:=dt' c7;clear c7;by_cases c8:0≤x11_2
      ·
       rw[if_pos c8] at H;have c8b0:decide (0≤x11_2)=true:=dt' c8;clear c8;by_cases c9:x11_2 < (l0_0.length:Int)
       ·
        rw[if_pos c9] at H;have c9b0:decide (x11_2 < (l0_0.length:Int))=true:=dt' c9;clear c9;obtain ⟨bq10,hbq10⟩:∃ b_:Bool,b_=(rdOf false l0_0 x11_2):=⟨_,rfl⟩
        replace H:(if bq10=true then (spec_seIndex.l0 k2 (wrap64 ((wrap64 (x3_2 * 2))+1)) l0_0 (l0_0.length:Int) (wrap64 (x11_2+1))) else (spec_seIndex.l0 k2 (wrap64 (x3_2 * 2)) l0_0 (l0_0.length:Int) (wrap64 (x11_2+1))))=some r:=by rw[← hbq10] at H;exact H
        have Nbq10:=am' hbq10;clear hbq10;by_cases c11:bq10=true
        ·
         subst c11;have H1:(spec_seIndex.l0 k2 (wrap64 ((wrap64 (x3_2 * 2))+1)) l0_0 (l0_0.length:Int) (wrap64 (x11_2+1)))=some r:=by rw[if_pos rfl] at H;exact H
         clear H;have H:=H1;clear H1;have H':=am' H;clear H;have p158:0≤(x11_2:Int):=od' xa';have q158:x11_2 < (l0_0.length:Int):=od' xa';obtain ⟨ad158,e158,hx158_0⟩:=Kd.at_bool HR0_0.out x11_2 p158 q158
         (try rw [← Nbq10.out] at hx158_0)
         cases e158
         replace hx158_0:=(HB.out.cell (bl' w _ hx158_0)).trans hx158_0;replace p158:=eq_true p158;replace q158:=eq_true q158;go_wp2;go_roundg k2
         case measure=>have:=HJ1.out;have:=HK2.out;omega
         case rel=>exact ⟨(wrap64 ((wrap64 (x3_2 * 2))+1)),(wrap64 (x11_2+1)),xs',xs',H',⟨by have:=HJ1.out;have:=HK2.out;omega⟩,⟨kk' BK157.out⟩,⟨yb' GE157.out⟩⟩
        ·
         replace c11:=Bool.eq_false_iff.mpr c11;subst c11;have H1:(spec_seIndex.l0 k2 (wrap64 (x3_2 * 2)) l0_0 (l0_0.length:Int) (wrap64 (x11_2+1)))=some r:=by rw[if_neg (show ¬ (false=true) by decide)] at H;exact H
         clear H;have H:=H1;clear H1;have H':=am' H;clear H;have p158:0≤(x11_2:Int):=od' xa';have q158:x11_2 < (l0_0.length:Int):=od' xa';obtain ⟨ad158,e158,hx158_0⟩:=Kd.at_bool HR0_0.out x11_2 p158 q158
         (try rw [← Nbq10.out] at hx158_0)
         cases e158
         replace hx158_0:=(HB.out.cell (bl' w _ hx158_0)).trans hx158_0;replace p158:=eq_true p158;replace q158:=eq_true q158;go_wp2;go_roundg k2
         case measure=>have:=HJ1.out;have:=HK2.out;omega
         case rel=>exact ⟨(wrap64 (x3_2 * 2)),(wrap64 (x11_2+1)),xs',xs',H',⟨by have:=HJ1.out;have:=HK2.out;omega⟩,⟨kk' BK157.out⟩,⟨yb' GE157.out⟩⟩
       ·
        rw[if_neg c9] at H;exact absurd H (by simp)
      ·
       rw[if_neg c8] at H;exact absurd H (by simp)
     ·
      rw[if_neg c7] at H;have c7b0:decide (x11_2 < (l0_0.length:Int))=false:=df' c7;clear c7;obtain rfl:=os' H;go_wp2;go_ret
      exact ⟨by first|rfl|(simp[errW_none,errW_some] <;> rfl)|(simp[*,errW_none,errW_some] <;> rfl),yb' GE157.out⟩
def spec_loStart.f (k:Nat) (l0_0:List Int) (l0_1:List Bool) (a0_2:Int):Option (Int):=(spec_loParty.f l0_0 l0_1 a0_2).bind fun bt160=>((spec_paFirst.f bt160.1 bt160.2).bind fun bt164=>((spec_seIndex.f k bt164.1 bt164.2).bind fun t168=>(some t168)))
set_option maxHeartbeats 8000000 in
set_option maxRecDepth 100000 in
theorem spec_loStart.calls (k:Nat) (A0_0:Option Addr) (c0_0:Nat) (l0_0:List Int) (A0_1:Option Addr) (c0_1:Nat) (l0_1:List Bool) (a0_2:Int) (r:Int) (w:World) (hr0_0:Kd.C (Kd.int .i64) w A0_0 l0_0.length l0_0) (hc0_0:l0_0.length≤c0_0) (hr0_1:Kd.C Kd.bool w A0_1 l0_1.length l0_1) (hc0_1:l0_1.length≤c0_1) (h:spec_loStart.f k l0_0 l0_1 a0_2=some r) :
  Calls Try.prog 80 #[.agg #[.slice A0_0 l0_0.length c0_0, .slice A0_1 l0_1.length c0_1, .int .i64 a0_2]] w fun e w'=>e = .returned (.int .i64 r)∧Below w.heap.size w w':=by
 have hu29:=Try.underlying29
 have HR0_0:=am' hr0_0
 have HC0_0:=am' hc0_0
 clear hr0_0 hc0_0;have HR0_1:=am' hr0_1
 have HC0_1:=am' hc0_1
 clear hr0_1 hc0_1;have HB:=am' (Below.refl w.heap.size w)
 have H:((spec_loParty.f l0_0 l0_1 a0_2).bind fun bt160=>((spec_paFirst.f bt160.1 bt160.2).bind fun bt164=>((spec_seIndex.f k bt164.1 bt164.2).bind fun t168=>(some t168))))=some r:=h
 clear h;replace H:=Option.bind_eq_some_iff.mp H
 obtain ⟨⟨t160,t163⟩,A20,H⟩:=H
 replace H:((spec_paFirst.f t160 t163).bind fun bt164=>((spec_seIndex.f k bt164.1 bt164.2).bind fun t168=>(some t168)))=some r:=H
 have A2:=am' A20
 clear A20;replace H:=Option.bind_eq_some_iff.mp H
 obtain ⟨⟨t164,t167⟩,A30,H⟩:=H
 replace H:((spec_seIndex.f k t164 t167).bind fun t168=>(some t168))=some r:=H
 have A3:=am' A30
 clear A30;replace H:=Option.bind_eq_some_iff.mp H
 obtain ⟨t168,A40,H⟩:=H
 replace H:(some t168)=some r:=H
 have A4:=am' A40
 clear A40;obtain rfl:=os' H
 go_enter Try.func80,Try.ntmps80
 go_wp2_with (first|((with_reducible refine gate_dst (N:=1) rfl ?_);refine box_event ?hg (N:=1) ?hd (cs:=#[.slice A0_0 l0_0.length c0_0, .slice A0_1 l0_1.length c0_1, .int .i64 a0_2]) (t:=29) ?hr ?_;(case hd=>rfl);(case hg=>rfl);(case hr=>first|(go_simp;done)|(go_simp;rfl));intro gb159 hg w5 hbox hb;have n0_:=am' (bt' xb' hb);have n1_:=am' (hbox);have n2_:=am' ((by rw[hg];exact (bz' xb'):w.heap.size≤gb159));have n3_:=am' ((by rw[hg];exact (bz' xb'):w.heap.size≤gb159));clear HB;have HB:=n0_;have BK159:=n1_;have GW159:=n2_;have GE159:=n3_;clear n0_ n1_ n2_ n3_;clear hb hbox hg;have hcz6_0:w5.cell? ⟨gb159,0,none⟩=some (.slice A0_0 l0_0.length c0_0):=(bc' BK159.out 0).trans rfl;have hcz6_1:w5.cell? ⟨gb159,1,none⟩=some (.slice A0_1 l0_1.length c0_1):=(bc' BK159.out 1).trans rfl;have hcz6_2:w5.cell? ⟨gb159,2,none⟩=some (.int .i64 a0_2):=(bc' BK159.out 2).trans rfl;have hfz6_0:=bf' BK159.out 0;have hfz6_1:=bf' BK159.out 1;have hfz6_2:=bf' BK159.out 2)|((with_reducible refine gate_callee (f:=67) rfl ?_);refine goesL_ (some 4) rfl rfl Try.func67 xk' rfl #[.agg #[.slice A0_0 l0_0.length c0_0, .slice A0_1 l0_1.length c0_1, .int .i64 a0_2]] rfl xl' ?_;(with_reducible refine (spec_loParty.calls (fun k_=>k_ < w.heap.size) _ _ l0_0 _ _ l0_1 a0_2 t160 t163 _ ?side1 ?side2 ?side3 A2.out).mono ?_);(case side1=>exact Kd.V_mk HC0_0.out (Kd.F_below (Kd.C_F (Kd.heap_int .i64) HR0_0.out) (yb' GE159.out)));(case side2=>exact kc' (cb' HR0_1.out HB.out));(case side3=>exact HC0_1.out);rintro e w7 ⟨v161,rfl,ho0,hb⟩;refine ⟨_,rfl,?_⟩;have n0_:=am' (Kd.V_lower (Kd.V_mono (ok':=fun k_=>k_≠gb159) ho0 (fun k_ hk_=>Or.elim hk_ (fun hs_=>fun e_=>Nat.not_le.2 hs_ (by rw[e_];exact GW159.out)) (fun hn_=>(Kd.freshB (g:=gb159) (o := .cells #[.slice A0_0 l0_0.length c0_0, .slice A0_1 l0_1.length c0_1, .int .i64 a0_2] 29 (0,0)) (kk' BK159.out) k_ hn_)))) (bz' (yb' GE159.out)));have n1_:=am' (bb' (g:=gb159) (o := .cells #[.slice A0_0 l0_0.length c0_0, .slice A0_1 l0_1.length c0_1, .int .i64 a0_2] 29 (0,0)) (kk' BK159.out) hb);have n2_:=am' (bt' (yb' GE159.out) hb);clear BK159;clear HB;have HO162:=n0_;have BK159:=n1_;have HB:=n2_;clear n0_ n1_ n2_;(try clear hb);(try clear hb2);(try clear hk);(try clear hi);(try clear ho0);obtain ⟨Ao8,co8,eo8⟩:=Kd.V_slice HO162.out;subst eo8)|((with_reducible refine gate_callee (f:=66) rfl ?_);refine goesL_ (some 5) rfl rfl Try.func66 xk' rfl #[.agg #[.slice Ao8 t160.length co8, .int .i64 t163]] rfl xl' ?_;(with_reducible refine (spec_paFirst.calls _ _ t160 t163 t164 t167 _ ?side1 ?side2 A3.out).mono ?_);(case side1=>exact kc' ((Kd.V_reads' HO162.out).2.2));(case side2=>exact (Kd.V_reads' HO162.out).2.1);rintro e w9 ⟨v165,rfl,ho0,hb⟩;refine ⟨_,rfl,?_⟩;have n0_:=am' (Kd.V_elder' (kV' HO162.out) (Kd.R_base ho0) hb);have n1_:=am' (Kd.R_lower ho0 (bz' (yb' GE159.out)));have n2_:=am' (bb' (g:=gb159) (o := .cells #[.slice A0_0 l0_0.length c0_0, .slice A0_1 l0_1.length c0_1, .int .i64 a0_2] 29 (0,0)) (kk' BK159.out) hb);have n3_:=am' (bt' (yb' GE159.out) hb);clear HO162;clear BK159;clear HB;have HO162:=n0_;have HO166:=n1_;have BK159:=n2_;have HB:=n3_;clear n0_ n1_ n2_ n3_;(try clear hb);(try clear hb2);(try clear hk);(try clear hi);(try clear ho0);obtain ⟨Ao10,co10,eo10⟩:=Kd.R_slice HO166.out;subst eo10)|((with_reducible refine gate_callee (f:=82) rfl ?_);refine goesL_ (some 6) rfl rfl Try.func82 xk' rfl #[.agg #[.slice Ao10 t164.length co10, .bool t167]] rfl xl' ?_;(with_reducible refine (spec_seIndex.calls k _ _ t164 t167 t168 _ ?side1 ?side2 A4.out).mono ?_);(case side1=>exact kc' ((Kd.R_reads' HO166.out).2.2));(case side2=>exact (Kd.R_reads' HO166.out).2.1);rintro e w11 ⟨rfl,hb⟩;refine ⟨_,rfl,?_⟩;have n0_:=am' (Kd.V_below (kV' HO162.out) hb);have n1_:=am' (rb' (kr' HO166.out) hb);have n2_:=am' (bb' (g:=gb159) (o := .cells #[.slice A0_0 l0_0.length c0_0, .slice A0_1 l0_1.length c0_1, .int .i64 a0_2] 29 (0,0)) (kk' BK159.out) hb);have n3_:=am' (bt' (yb' GE159.out) hb);clear HO162;clear HO166;clear BK159;clear HB;have HO162:=n0_;have HO166:=n1_;have BK159:=n2_;have HB:=n3_;clear n0_ n1_ n2_ n3_;(try clear hb);(try clear hb2);(try clear hk);(try clear hi)))
 go_ret
 exact ⟨by first|rfl|(simp[errW_none,errW_some] <;> rfl)|(simp[*,errW_none,errW_some] <;> rfl),yb' GE159.out⟩
end Go.Proofs.Ytikjdmiohpdnaaa.C20
