import Derived.Test.YtikjdmiohpdnaaaC20zx0
import Derived.Test.YtikjdmiohpdnaaaC20zx3
import Derived.Test.YtikjdmiohpdnaaaC20zx11
import Derived.Test.YtikjdmiohpdnaaaC20zx12
import Derived.Test.YtikjdmiohpdnaaaC20zAl
namespace Go.Proofs.Ytikjdmiohpdnaaa.C20
open Go.RowKit Go.Proofs.YtikjdmiohpdnaaaW.PrintWords Go.Proofs.YtikjdmiohpdnaaaW.PrintLast Go.Proofs.YtikjdmiohpdnaaaW.PrintMore Go.Proofs.Ytikjdmiohpdnaaa.H
attribute [local go_sem] max2_int min2_int max_two min_two max_three min_three max_four min_four
set_option linter.unusedVariables false
set_option linter.unusedSimpArgs false
def spec_FirstCarried.f (k:Nat) (l0_0:List Int) (l0_1:List Bool) (a0_2:Int):Option ((List (List Int)) × Bool):=(spec_loGood.f k l0_0 l0_1 a0_2).bind fun t352=>(if t352=true then ((spec_loLeast.f k l0_0 l0_1 a0_2 true).bind fun t353=>(if t353 < 0 then (some (([]:List (List Int)),false)) else ((spec_loFirst.f k l0_0 l0_1 a0_2 true).bind fun t354=>(some (t354,true))))) else (some (([]:List (List Int)),false)))
set_option maxHeartbeats 8000000 in
set_option maxRecDepth 100000 in
theorem spec_FirstCarried.calls (k:Nat) (P0_0_:Nat→Prop) (A0_0:Option Addr) (c0_0:Nat) (l0_0:List Int) (A0_1:Option Addr) (c0_1:Nat) (l0_1:List Bool) (a0_2:Int) (r1:List (List Int)) (r2:Bool) (w:World) (hs0_0:Kd.V (Kd.int .i64) 3 w w.heap.size (fun k_=>P0_0_ k_) (.slice A0_0 l0_0.length c0_0) l0_0) (hr0_1:Kd.C Kd.bool w A0_1 l0_1.length l0_1) (hc0_1:l0_1.length≤c0_1) (h:spec_FirstCarried.f k l0_0 l0_1 a0_2=some (r1,r2)) :
  Calls Try.prog 40 #[.agg #[.slice A0_0 l0_0.length c0_0, .slice A0_1 l0_1.length c0_1, .int .i64 a0_2]] w fun e w'=>∃ v0_:Value,e = .returned (.tuple #[v0_, .bool r2])∧Kd.N (Kd.slice 3 (Kd.int .i64)) 22 w' w.heap.size (fun k_=>(P0_0_ k_∨w.heap.size≤k_)) v0_ r1∧Below w.heap.size w w':=by
 have hu29:=Try.underlying29
 have HO0_0:=am' (show Kd.V (Kd.int .i64) 3 w w.heap.size (fun k_=>(P0_0_ k_∨w.heap.size≤k_)) (.slice A0_0 l0_0.length c0_0) l0_0 from Kd.V_mono hs0_0 (fun k_ hk => .inl hk))
 have HR0_1:=am' hr0_1
 have HC0_1:=am' hc0_1
 clear hr0_1 hc0_1;have HB:=am' (Below.refl w.heap.size w)
 have H:((spec_loGood.f k l0_0 l0_1 a0_2).bind fun t352=>(if t352=true then ((spec_loLeast.f k l0_0 l0_1 a0_2 true).bind fun t353=>(if t353 < 0 then (some (([]:List (List Int)),false)) else ((spec_loFirst.f k l0_0 l0_1 a0_2 true).bind fun t354=>(some (t354,true))))) else (some (([]:List (List Int)),false))))=some (r1,r2):=h
 clear h;replace H:=Option.bind_eq_some_iff.mp H
 obtain ⟨t352,A20,H⟩:=H
 replace H:(if t352=true then ((spec_loLeast.f k l0_0 l0_1 a0_2 true).bind fun t353=>(if t353 < 0 then (some (([]:List (List Int)),false)) else ((spec_loFirst.f k l0_0 l0_1 a0_2 true).bind fun t354=>(some (t354,true))))) else (some (([]:List (List Int)),false)))=some (r1,r2):=H
 have A2:=am' A20
 clear A20;by_cases c3:t352=true
 ·
  subst c3;have H1:((spec_loLeast.f k l0_0 l0_1 a0_2 true).bind fun t353=>(if t353 < 0 then (some (([]:List (List Int)),false)) else ((spec_loFirst.f k l0_0 l0_1 a0_2 true).bind fun t354=>(some (t354,true)))))=some (r1,r2):=by rw[if_pos rfl] at H;exact H
  clear H;have H:=H1;clear H1;replace H:=Option.bind_eq_some_iff.mp H;obtain ⟨t353,A40,H⟩:=H;replace H:(if t353 < 0 then (some (([]:List (List Int)),false)) else ((spec_loFirst.f k l0_0 l0_1 a0_2 true).bind fun t354=>(some (t354,true))))=some (r1,r2):=H;have A4:=am' A40;clear A40;by_cases c5:t353 < 0
  ·
   rw[if_pos c5] at H;have c5b0:decide (t353 < 0)=true:=dt' c5;clear c5;simp only[Option.some.injEq,Prod.mk.injEq] at H;obtain ⟨rfl,rfl⟩:=H;go_enter Try.func40,Try.ntmps40;go_wp2_with (first|((with_reducible refine gate_dst (N:=1) rfl ?_);refine box_event ?hg (N:=1) ?hd (cs:=#[.slice A0_0 l0_0.length c0_0, .slice A0_1 l0_1.length c0_1, .int .i64 a0_2]) (t:=29) ?hr ?_;(case hd=>rfl);(case hg=>rfl);(case hr=>first|(go_simp;done)|(go_simp;rfl));intro gb351 hg w6 hbox hb;have n0_:=am' (Kd.V_below (Kd.V_elderB (kV' HO0_0.out) gb351 (Nat.le_of_eq hg.symm)) hb);have n1_:=am' (bt' xb' hb);have n2_:=am' (hbox);have n3_:=am' ((by rw[hg];exact (bz' xb'):w.heap.size≤gb351));have n4_:=am' ((by rw[hg];exact (bz' xb'):w.heap.size≤gb351));clear HO0_0;clear HB;have HO0_0:=n0_;have HB:=n1_;have BK351:=n2_;have GW351:=n3_;have GE351:=n4_;clear n0_ n1_ n2_ n3_ n4_;clear hb hbox hg;have hcz7_0:w6.cell? ⟨gb351,0,none⟩=some (.slice A0_0 l0_0.length c0_0):=(bc' BK351.out 0).trans rfl;have hcz7_1:w6.cell? ⟨gb351,1,none⟩=some (.slice A0_1 l0_1.length c0_1):=(bc' BK351.out 1).trans rfl;have hcz7_2:w6.cell? ⟨gb351,2,none⟩=some (.int .i64 a0_2):=(bc' BK351.out 2).trans rfl;have hfz7_0:=bf' BK351.out 0;have hfz7_1:=bf' BK351.out 1;have hfz7_2:=bf' BK351.out 2)|((with_reducible refine gate_callee (f:=50) rfl ?_);refine goesL_ (some 5) rfl rfl Try.func50 xk' rfl #[.agg #[.slice A0_0 l0_0.length c0_0, .slice A0_1 l0_1.length c0_1, .int .i64 a0_2]] rfl xl' ?_;(with_reducible refine (spec_loGood.calls k _ _ l0_0 _ _ l0_1 a0_2 true _ ?side1 ?side2 ?side3 ?side4 A2.out).mono ?_);(case side1=>exact kc' ((Kd.V_reads' HO0_0.out).2.2));(case side2=>exact (Kd.V_reads' HO0_0.out).2.1);(case side3=>exact kc' (cb' HR0_1.out HB.out));(case side4=>exact HC0_1.out);rintro e w8 ⟨rfl,hb⟩;refine ⟨_,rfl,?_⟩;have n0_:=am' (Kd.V_below (kV' HO0_0.out) hb);have n1_:=am' (bb' (g:=gb351) (o := .cells #[.slice A0_0 l0_0.length c0_0, .slice A0_1 l0_1.length c0_1, .int .i64 a0_2] 29 (0,0)) (kk' BK351.out) hb);have n2_:=am' (bt' (yb' GE351.out) hb);clear HO0_0;clear BK351;clear HB;have HO0_0:=n0_;have BK351:=n1_;have HB:=n2_;clear n0_ n1_ n2_;(try clear hb);(try clear hb2);(try clear hk);(try clear hi);have hcz9_0:w8.cell? ⟨gb351,0,none⟩=some (.slice A0_0 l0_0.length c0_0):=(bc' BK351.out 0).trans rfl;have hcz9_1:w8.cell? ⟨gb351,1,none⟩=some (.slice A0_1 l0_1.length c0_1):=(bc' BK351.out 1).trans rfl;have hcz9_2:w8.cell? ⟨gb351,2,none⟩=some (.int .i64 a0_2):=(bc' BK351.out 2).trans rfl;have hfz9_0:=bf' BK351.out 0;have hfz9_1:=bf' BK351.out 1;have hfz9_2:=bf' BK351.out 2)|(go_at_call 75;(with_reducible refine (spec_loLeast.calls k _ _ l0_0 _ _ l0_1 a0_2 true t353 _ ?side1 ?side2 ?side3 ?side4 A4.out).mono ?_);(case side1=>exact kc' ((Kd.V_reads' HO0_0.out).2.2));(case side2=>exact (Kd.V_reads' HO0_0.out).2.1);(case side3=>exact kc' (cb' HR0_1.out HB.out));(case side4=>exact HC0_1.out);rintro e w10 ⟨rfl,hb⟩;have n0_:=am' (Kd.V_below (kV' HO0_0.out) hb);have n1_:=am' (bb' (g:=gb351) (o := .cells #[.slice A0_0 l0_0.length c0_0, .slice A0_1 l0_1.length c0_1, .int .i64 a0_2] 29 (0,0)) (kk' BK351.out) hb);have n2_:=am' (bt' (yb' GE351.out) hb);clear HO0_0;clear BK351;clear HB;have HO0_0:=n0_;have BK351:=n1_;have HB:=n2_;clear n0_ n1_ n2_;(try clear hb);(try clear hb2);(try clear hk);(try clear hi)))
   go_ret2
   exact ⟨_,by first|rfl|(simp[errW_none,errW_some] <;> rfl)|(simp[*,errW_none,errW_some] <;> rfl),by first|exact Kd.S_nil _ _ _ _ _|exact Kd.N_nil _ _ _ _ _|exact Kd.V_nil _ _ _ _ _|exact Kd.Q_nil _ _ _ _ _|exact Kd.R_nil _ _ _ _ _,yb' GE351.out⟩
  ·
   rw[if_neg c5] at H;have c5b0:decide (t353 < 0)=false:=df' c5;clear c5;replace H:=Option.bind_eq_some_iff.mp H;obtain ⟨t354,A110,H⟩:=H;replace H:(some (t354,true))=some (r1,r2):=H;have A11:=am' A110;clear A110;simp only[Option.some.injEq,Prod.mk.injEq] at H;obtain ⟨rfl,rfl⟩:=H;go_enter Try.func40,Try.ntmps40;go_wp2_with (first|((with_reducible refine gate_dst (N:=1) rfl ?_);refine box_event ?hg (N:=1) ?hd (cs:=#[.slice A0_0 l0_0.length c0_0, .slice A0_1 l0_1.length c0_1, .int .i64 a0_2]) (t:=29) ?hr ?_;(case hd=>rfl);(case hg=>rfl);(case hr=>first|(go_simp;done)|(go_simp;rfl));intro gb351 hg w12 hbox hb;have n0_:=am' (Kd.V_below (Kd.V_elderB (kV' HO0_0.out) gb351 (Nat.le_of_eq hg.symm)) hb);have n1_:=am' (bt' xb' hb);have n2_:=am' (hbox);have n3_:=am' ((by rw[hg];exact (bz' xb'):w.heap.size≤gb351));have n4_:=am' ((by rw[hg];exact (bz' xb'):w.heap.size≤gb351));clear HO0_0;clear HB;have HO0_0:=n0_;have HB:=n1_;have BK351:=n2_;have GW351:=n3_;have GE351:=n4_;clear n0_ n1_ n2_ n3_ n4_;clear hb hbox hg;have hcz13_0:w12.cell? ⟨gb351,0,none⟩=some (.slice A0_0 l0_0.length c0_0):=(bc' BK351.out 0).trans rfl;have hcz13_1:w12.cell? ⟨gb351,1,none⟩=some (.slice A0_1 l0_1.length c0_1):=(bc' BK351.out 1).trans rfl;have hcz13_2:w12.cell? ⟨gb351,2,none⟩=some (.int .i64 a0_2):=(bc' BK351.out 2).trans rfl;have hfz13_0:=bf' BK351.out 0;have hfz13_1:=bf' BK351.out 1;have hfz13_2:=bf' BK351.out 2)|((with_reducible refine gate_callee (f:=50) rfl ?_);refine goesL_ (some 5) rfl rfl Try.func50 xk' rfl #[.agg #[.slice A0_0 l0_0.length c0_0, .slice A0_1 l0_1.length c0_1, .int .i64 a0_2]] rfl xl' ?_;(with_reducible refine (spec_loGood.calls k _ _ l0_0 _ _ l0_1 a0_2 true _ ?side1 ?side2 ?side3 ?side4 A2.out).mono ?_);(case side1=>exact kc' ((Kd.V_reads' HO0_0.out).2.2));(case side2=>exact (Kd.V_reads' HO0_0.out).2.1);(case side3=>exact kc' (cb' HR0_1.out HB.out));(case side4=>exact HC0_1.out);rintro e w14 ⟨rfl,hb⟩;refine ⟨_,rfl,?_⟩;have n0_:=am' (Kd.V_below (kV' HO0_0.out) hb);have n1_:=am' (bb' (g:=gb351) (o := .cells #[.slice A0_0 l0_0.length c0_0, .slice A0_1 l0_1.length c0_1, .int .i64 a0_2] 29 (0,0)) (kk' BK351.out) hb);have n2_:=am' (bt' (yb' GE351.out) hb);clear HO0_0;clear BK351;clear HB;have HO0_0:=n0_;have BK351:=n1_;have HB:=n2_;clear n0_ n1_ n2_;(try clear hb);(try clear hb2);(try clear hk);(try clear hi);have hcz15_0:w14.cell? ⟨gb351,0,none⟩=some (.slice A0_0 l0_0.length c0_0):=(bc' BK351.out 0).trans rfl;have hcz15_1:w14.cell? ⟨gb351,1,none⟩=some (.slice A0_1 l0_1.length c0_1):=(bc' BK351.out 1).trans rfl;have hcz15_2:w14.cell? ⟨gb351,2,none⟩=some (.int .i64 a0_2):=(bc' BK351.out 2).trans rfl;have hfz15_0:=bf' BK351.out 0;have hfz15_1:=bf' BK351.out 1;have hfz15_2:=bf' BK351.out 2)|(go_at_call 75;(with_reducible refine (spec_loLeast.calls k _ _ l0_0 _ _ l0_1 a0_2 true t353 _ ?side1 ?side2 ?side3 ?side4 A4.out).mono ?_);(case side1=>exact kc' ((Kd.V_reads' HO0_0.out).2.2));(case side2=>exact (Kd.V_reads' HO0_0.out).2.1);(case side3=>exact kc' (cb' HR0_1.out HB.out));(case side4=>exact HC0_1.out);rintro e w16 ⟨rfl,hb⟩;have n0_:=am' (Kd.V_below (kV' HO0_0.out) hb);have n1_:=am' (bb' (g:=gb351) (o := .cells #[.slice A0_0 l0_0.length c0_0, .slice A0_1 l0_1.length c0_1, .int .i64 a0_2] 29 (0,0)) (kk' BK351.out) hb);have n2_:=am' (bt' (yb' GE351.out) hb);clear HO0_0;clear BK351;clear HB;have HO0_0:=n0_;have BK351:=n1_;have HB:=n2_;clear n0_ n1_ n2_;(try clear hb);(try clear hb2);(try clear hk);(try clear hi);have hcz17_0:w16.cell? ⟨gb351,0,none⟩=some (.slice A0_0 l0_0.length c0_0):=(bc' BK351.out 0).trans rfl;have hcz17_1:w16.cell? ⟨gb351,1,none⟩=some (.slice A0_1 l0_1.length c0_1):=(bc' BK351.out 1).trans rfl;have hcz17_2:w16.cell? ⟨gb351,2,none⟩=some (.int .i64 a0_2):=(bc' BK351.out 2).trans rfl;have hfz17_0:=bf' BK351.out 0;have hfz17_1:=bf' BK351.out 1;have hfz17_2:=bf' BK351.out 2)|((with_reducible refine gate_callee (f:=78) rfl ?_);refine goesL_ (some 13) rfl rfl Try.func78 xk' rfl #[.agg #[.slice A0_0 l0_0.length c0_0, .slice A0_1 l0_1.length c0_1, .int .i64 a0_2], .bool true] rfl xl' ?_;(with_reducible refine (spec_loFirst.calls k (fun k_=>((P0_0_ k_∨w.heap.size≤k_)∧k_≠gb351)) _ _ l0_0 _ _ l0_1 a0_2 true t354 _ ?side1 ?side2 ?side3 A11.out).mono ?_);(case side1=>exact HO0_0.out);(case side2=>exact kc' (cb' HR0_1.out HB.out));(case side3=>exact HC0_1.out);rintro e w18 ⟨v355,rfl,ho0,hb⟩;refine ⟨_,rfl,?_⟩;have n0_:=am' (Kd.V_elder' (kV' HO0_0.out) (Kd.N_base ho0) hb);have n1_:=am' (Kd.N_lower (Kd.N_mono (ok':=fun k_=>(P0_0_ k_∨w.heap.size≤k_)∧k_≠gb351) ho0 (fun k_ hk_=>⟨Or.elim hk_ (fun hs_=>hs_.1) (fun hn_=>(.inr (Nat.le_trans (bz' (yb' GE351.out)) hn_))),Or.elim hk_ (fun hs_=>hs_.2) (fun hn_=>(Kd.freshB (g:=gb351) (o := .cells #[.slice A0_0 l0_0.length c0_0, .slice A0_1 l0_1.length c0_1, .int .i64 a0_2] 29 (0,0)) (kk' BK351.out) k_ hn_))⟩)) (bz' (yb' GE351.out)));have n2_:=am' (bb' (g:=gb351) (o := .cells #[.slice A0_0 l0_0.length c0_0, .slice A0_1 l0_1.length c0_1, .int .i64 a0_2] 29 (0,0)) (kk' BK351.out) hb);have n3_:=am' (bt' (yb' GE351.out) hb);clear HO0_0;clear BK351;clear HB;have HO0_0:=n0_;have HO356:=n1_;have BK351:=n2_;have HB:=n3_;clear n0_ n1_ n2_ n3_;(try clear hb);(try clear hb2);(try clear hk);(try clear hi);(try clear ho0)))
   go_ret2
   exact ⟨_,by first|rfl|(simp[errW_none,errW_some] <;> rfl)|(simp[*,errW_none,errW_some] <;> rfl),by (with_reducible repeat (first|apply Kd.N_alloc|apply Kd.N_drewN|apply Kd.N_drew));exact Kd.N_mono HO356.out (fun _ hk=>hk.1),yb' GE351.out⟩
 ·
  replace c3:=Bool.eq_false_iff.mpr c3;subst c3;have H1:(some (([]:List (List Int)),false))=some (r1,r2):=by rw[if_neg (show ¬ (false=true) by decide)] at H;exact H
  clear H;have H:=H1;clear H1;simp only[Option.some.injEq,Prod.mk.injEq] at H;obtain ⟨rfl,rfl⟩:=H;go_enter Try.func40,Try.ntmps40;go_wp2_with (first|((with_reducible refine gate_dst (N:=1) rfl ?_);refine box_event ?hg (N:=1) ?hd (cs:=#[.slice A0_0 l0_0.length c0_0, .slice A0_1 l0_1.length c0_1, .int .i64 a0_2]) (t:=29) ?hr ?_;(case hd=>rfl);(case hg=>rfl);(case hr=>first|(go_simp;done)|(go_simp;rfl));intro gb351 hg w19 hbox hb;have n0_:=am' (Kd.V_below (Kd.V_elderB (kV' HO0_0.out) gb351 (Nat.le_of_eq hg.symm)) hb);have n1_:=am' (bt' xb' hb);have n2_:=am' (hbox);have n3_:=am' ((by rw[hg];exact (bz' xb'):w.heap.size≤gb351));have n4_:=am' ((by rw[hg];exact (bz' xb'):w.heap.size≤gb351));clear HO0_0;clear HB;have HO0_0:=n0_;have HB:=n1_;have BK351:=n2_;have GW351:=n3_;have GE351:=n4_;clear n0_ n1_ n2_ n3_ n4_;clear hb hbox hg;have hcz20_0:w19.cell? ⟨gb351,0,none⟩=some (.slice A0_0 l0_0.length c0_0):=(bc' BK351.out 0).trans rfl;have hcz20_1:w19.cell? ⟨gb351,1,none⟩=some (.slice A0_1 l0_1.length c0_1):=(bc' BK351.out 1).trans rfl;have hcz20_2:w19.cell? ⟨gb351,2,none⟩=some (.int .i64 a0_2):=(bc' BK351.out 2).trans rfl;have hfz20_0:=bf' BK351.out 0;have hfz20_1:=bf' BK351.out 1;have hfz20_2:=bf' BK351.out 2)|((with_reducible refine gate_callee (f:=50) rfl ?_);refine goesL_ (some 5) rfl rfl Try.func50 xk' rfl #[.agg #[.slice A0_0 l0_0.length c0_0, .slice A0_1 l0_1.length c0_1, .int .i64 a0_2]] rfl xl' ?_;(with_reducible refine (spec_loGood.calls k _ _ l0_0 _ _ l0_1 a0_2 false _ ?side1 ?side2 ?side3 ?side4 A2.out).mono ?_);(case side1=>exact kc' ((Kd.V_reads' HO0_0.out).2.2));(case side2=>exact (Kd.V_reads' HO0_0.out).2.1);(case side3=>exact kc' (cb' HR0_1.out HB.out));(case side4=>exact HC0_1.out);rintro e w21 ⟨rfl,hb⟩;refine ⟨_,rfl,?_⟩;have n0_:=am' (Kd.V_below (kV' HO0_0.out) hb);have n1_:=am' (bb' (g:=gb351) (o := .cells #[.slice A0_0 l0_0.length c0_0, .slice A0_1 l0_1.length c0_1, .int .i64 a0_2] 29 (0,0)) (kk' BK351.out) hb);have n2_:=am' (bt' (yb' GE351.out) hb);clear HO0_0;clear BK351;clear HB;have HO0_0:=n0_;have BK351:=n1_;have HB:=n2_;clear n0_ n1_ n2_;(try clear hb);(try clear hb2);(try clear hk);(try clear hi)))
  go_ret2
  exact ⟨_,by first|rfl|(simp[errW_none,errW_some] <;> rfl)|(simp[*,errW_none,errW_some] <;> rfl),by first|exact Kd.S_nil _ _ _ _ _|exact Kd.N_nil _ _ _ _ _|exact Kd.V_nil _ _ _ _ _|exact Kd.Q_nil _ _ _ _ _|exact Kd.R_nil _ _ _ _ _,yb' GE351.out⟩
def impl_in.f (a0:Int) (a1:Int) (a2:Int):Option (Bool):=if a1≤a0 then (some (decide (a0≤a2))) else (some false)
set_option maxHeartbeats 8000000 in
set_option maxRecDepth 100000 in
theorem impl_in.calls (a0:Int) (a1:Int) (a2:Int) (r:Bool) (w:World) (h:impl_in.f a0 a1 a2=some r) :
  Calls Try.prog 90 #[.int .i64 a0, .int .i64 a1, .int .i64 a2] w fun e w'=>e = .returned (.bool r)∧Drawn0 w w':=by
 have H:(if a1≤a0 then (some (decide (a0≤a2))) else (some false))=some r:=h
 clear h;by_cases c4:a1≤a0
 ·
  rw[if_pos c4] at H;have c4b0:decide (a1≤a0)=true:=dt' c4;clear c4;obtain rfl:=os' H;go_enter Try.func90,Try.ntmps90;go_wp2;go_ret
  exact ⟨xs',by repeat (first|exact Drawn0.refl _|apply Drawn0.step)⟩
 ·
  rw[if_neg c4] at H;have c4b0:decide (a1≤a0)=false:=df' c4;clear c4;obtain rfl:=os' H;go_enter Try.func90,Try.ntmps90;go_wp2;go_ret
  exact ⟨xs',by repeat (first|exact Drawn0.refl _|apply Drawn0.step)⟩
def PredOn (g:Nat) (lb:Array Value) (p:Int→Bool) (xs:List Int) (w:World):Prop :=
 ∀ x,x ∈ xs→∀ W:World,Below w.heap.size w W→Calls Try.prog g (#[.int .i64 x] ++ lb) W fun e w'=>e = .returned (.bool (p x))∧Below W.heap.size W w'
set_option maxHeartbeats 2000000 in
set_option maxRecDepth 100000 in
theorem IndexFunc_any (g:Nat) (lb:Array Value) (p:Int→Bool) (eg:∀ args w,(callFunc g args).run Try.prog w = .ok (.enter g args) w) (A0:Option Addr) (c0:Nat) (xs:List Int) (w:World) (hr:Kd.C (Kd.int .i64) w A0 xs.length xs) (hl:xs.length≤c0) (hbig:xs.length≤9223372036854775807)
  (hp:PredOn g lb p xs w) :
  Calls Try.prog 121 #[.slice A0 xs.length c0, .func (.func g) #[] lb] w fun e w'=>e = .returned (.int .i64 (idxF p xs))∧Below w.heap.size w w':=by
 have HP:=am' hp
 have HR:=am' hr
 clear hp hr;go_enter Try.func121,Try.ntmps121
 go_wp2
 go_loopg [5,8] xs.length (fun gg _ s8 wr=>∃ kk:Nat,kk≤xs.length∧xs.length - kk≤gg∧s8 = .int .i64 kk∧Aside0 (Below w.heap.size w wr)∧Aside0 (∀ j,j < kk→p (rd xs (j:Nat))=false))
 case atStart=>exact ⟨0,Nat.zero_le _,by omega,rfl,⟨Below.refl _ w⟩,⟨fun j hj=>absurd hj (Nat.not_lt_zero _)⟩⟩
 case round =>
  obtain ⟨kk,hkk,hg,rfl,BW,AA⟩:=hrel;by_cases hlt:kk < xs.length
  ·
   have hltz:(kk:Int) < (xs.length:Int):=by omega
   obtain ⟨ad,e0,hx0⟩:=Kd.at_int HR.out (kk:Int) (by omega) hltz;cases e0;have hx:=(BW.out.cell (bl' w _ hx0)).trans hx0;clear hx0;rw[Int.toNat_natCast] at hx;have hcall:=HP.out (rd xs kk) (rd_mem xs kk hlt) wr BW.out;generalize hy:rd xs kk=y at hx hcall
   have B:Aside0 (rd xs kk=y):=⟨hy⟩
   clear hy;cases hq:p y with
   | true =>
    rw[hq] at hcall;go_wp2_with fail;refine hcall.mono ?_
    rintro e w' ⟨rfl,hb'⟩
    clear hcall hx;go_wp2;go_ret
    refine ⟨?_,bt' BW.out hb'⟩;rw[idxF_hit p xs kk hlt (by rw[B.out];exact hq) AA.out];rfl
   | false =>
    rw[hq] at hcall;go_wp2_with fail;refine hcall.mono ?_
    rintro e w' ⟨rfl,hb'⟩
    clear hcall hx;go_wp2;go_roundg (xs.length - (kk+1))
    case measure=>omega
    case rel =>
     refine ⟨kk+1,by omega,by omega,by go_num,⟨bt' BW.out hb'⟩,⟨fun j hj=>?_⟩⟩;by_cases e:j=kk
     ·
      subst e;rw[B.out];exact hq
     ·
      exact AA.out j (by omega)
  ·
   have hltz:¬ (kk:Int) < (xs.length:Int):=by omega
   have:kk=xs.length:=by omega
   subst this;go_wp2;go_ret
   refine ⟨?_,BW.out⟩;rw[idxF_miss p xs AA.out];rfl
set_option maxHeartbeats 2000000 in
set_option maxRecDepth 100000 in
theorem ContainsFunc_any (g:Nat) (lb:Array Value) (p:Int→Bool) (eg:∀ args w,(callFunc g args).run Try.prog w = .ok (.enter g args) w) (A0:Option Addr) (c0:Nat) (xs:List Int) (w:World) (hr:Kd.C (Kd.int .i64) w A0 xs.length xs) (hl:xs.length≤c0) (hbig:xs.length≤9223372036854775807)
  (hp:PredOn g lb p xs w) :
  Calls Try.prog 111 #[.slice A0 xs.length c0, .func (.func g) #[] lb] w fun e w'=>e = .returned (.bool (xs.any p))∧Below w.heap.size w w':=by
 have HH:=am' (IndexFunc_any g lb p eg A0 c0 xs w hr hl hbig hp)
 clear hr hl hp;go_enter Try.func111,Try.ntmps111
 go_wp2_with (go_at_call 121;refine HH.out.mono ?_;rintro e w' ⟨rfl,hb⟩)
 go_ret
 refine ⟨?_,hb⟩
 rw[← idxF_any]
 rfl
theorem in_calls (x lo hi:Int) (w:World):Calls Try.prog 90 #[.int .i64 x, .int .i64 lo, .int .i64 hi] w fun e w'=>e = .returned (.bool (inB lo hi x))∧Below w.heap.size w w' :=
 (impl_in.calls x lo hi (inB lo hi x) w (by unfold impl_in.f inB;by_cases h:lo≤x <;> simp [h])).mono fun e w' ⟨he,hd⟩=>⟨he,hd.below⟩
theorem areIn1_calls (x lo hi:Int) (b1 b2:Nat) (w:World) (h1:w.cell? ⟨b1,0,none⟩=some (.int .i64 lo)) (h2:w.cell? ⟨b2,0,none⟩=some (.int .i64 hi)) :
  Calls Try.prog 112 #[.int .i64 x, .pointer (some ⟨b1,0,none⟩), .pointer (some ⟨b2,0,none⟩)] w fun e w'=>e = .returned (.bool (!inB lo hi x))∧Below w.heap.size w w':=by
 go_enter Try.func112,Try.ntmps112
 go_wp2_with (go_at_call 90;refine (in_calls _ _ _ _).mono ?_;rintro e w' ⟨rfl,hb⟩)
 go_ret
 exact ⟨rfl,hb⟩
theorem areIn_pred (lo hi:Int) (b1 b2:Nat) (xs:List Int) (w:World) (h1:w.cell? ⟨b1,0,none⟩=some (.int .i64 lo)) (h2:w.cell? ⟨b2,0,none⟩=some (.int .i64 hi)) :
  PredOn 112 #[.pointer (some ⟨b1,0,none⟩), .pointer (some ⟨b2,0,none⟩)] (fun x => !inB lo hi x) xs w:=fun x _ W hb =>
 areIn1_calls x lo hi b1 b2 W ((hb.cell (bl' w _ h1)).trans h1) ((hb.cell (bl' w _ h2)).trans h2)
def impl_areIn.f (l0:List Int) (a1 a2 a3 a4:Int):Option Bool:=some (inB a3 a4 (l0.length:Int) && l0.all (inB a1 a2))
set_option maxHeartbeats 2000000 in
set_option maxRecDepth 100000 in
theorem impl_areIn.calls (A0:Option Addr) (c0:Nat) (l0:List Int) (a1 a2 a3 a4:Int) (r:Bool) (w:World) (hr0:Kd.C (Kd.int .i64) w A0 l0.length l0) (hc0:l0.length≤c0) (h:impl_areIn.f l0 a1 a2 a3 a4=some r) :
  Calls Try.prog 89 #[.slice A0 l0.length c0, .int .i64 a1, .int .i64 a2, .int .i64 a3, .int .i64 a4] w fun e w'=>e = .returned (.bool r)∧Below w.heap.size w w':=by
 have hbig:l0.length≤9223372036854775807:=hr0.2.1
 have HC:=am' (fun (w1:World) (h1:Below w.heap.size w w1) (b1 b2:Nat) (e1:w1.cell? ⟨b1,0,none⟩=some (.int .i64 a1)) (e2:w1.cell? ⟨b2,0,none⟩=some (.int .i64 a2)) =>
  ContainsFunc_any 112 #[.pointer (some ⟨b1,0,none⟩), .pointer (some ⟨b2,0,none⟩)] (fun x => !inB a1 a2 x) (enters_of Try.func112 xk' rfl) A0 c0 l0 w1 (cb' hr0 h1) hc0 hbig (areIn_pred a1 a2 b1 b2 l0 w1 e1 e2))
 clear hr0;cases hi:inB a3 a4 (l0.length:Int) with
 | false =>
  obtain rfl:false=r:=by unfold impl_areIn.f at h;simpa [hi] using h
  clear h;go_enter Try.func89,Try.ntmps89;go_wp2_with (go_at_call 90;refine (in_calls _ _ _ _).mono ?_;rintro e w' ⟨rfl,hb⟩);go_ret
  exact ⟨rfl,(after_alloc (after_alloc hb).1).1⟩
 | true =>
  obtain rfl:l0.all (inB a1 a2)=r:=by unfold impl_areIn.f at h;simpa [hi] using h
  clear h;go_enter Try.func89,Try.ntmps89;go_wp2_with (go_at_call 90;refine (in_calls _ _ _ _).mono ?_;rintro e w' ⟨rfl,hb⟩);have h2:=after_alloc hb;have h1:=after_alloc h2.1;rw[World.size_alloc] at h2;refine (HC.out w' h1.1 _ _ ((bc' h1.2 0).trans rfl) ((bc' h2.2 0).trans rfl)).mono ?_
  rintro e w2 ⟨rfl,hb2⟩
  clear hb h2;have HB2:=am' (bt' h1.1 hb2);clear h1 hb2;go_wp2;go_ret
  refine ⟨?_,HB2.out⟩;rw[← any_not_all];rfl
def impl_IsCrew.f (l0_0:List Int) (l0_1:List Bool) (a0_2:Int):Option (Bool):=(impl_areIn.f l0_0 1 500 1 7).bind fun t358=>(if t358=true then (if (l0_1.length:Int)=(l0_0.length:Int) then ((impl_in.f a0_2 0 2000).bind fun t359=>(some t359)) else (some false)) else (some false))
set_option maxHeartbeats 8000000 in
set_option maxRecDepth 100000 in
theorem impl_IsCrew.calls (A0_0:Option Addr) (c0_0:Nat) (l0_0:List Int) (A0_1:Option Addr) (c0_1:Nat) (l0_1:List Bool) (a0_2:Int) (r:Bool) (w:World) (hr0_0:Kd.C (Kd.int .i64) w A0_0 l0_0.length l0_0) (hc0_0:l0_0.length≤c0_0) (hr0_1:Kd.C Kd.bool w A0_1 l0_1.length l0_1) (hc0_1:l0_1.length≤c0_1) (h:impl_IsCrew.f l0_0 l0_1 a0_2=some r) :
  Calls Try.prog 54 #[.agg #[.slice A0_0 l0_0.length c0_0, .slice A0_1 l0_1.length c0_1, .int .i64 a0_2]] w fun e w'=>e = .returned (.bool r)∧Below w.heap.size w w':=by
 have hu29:=Try.underlying29
 have HR0_0:=am' hr0_0
 have HC0_0:=am' hc0_0
 clear hr0_0 hc0_0;have HR0_1:=am' hr0_1
 have HC0_1:=am' hc0_1
 clear hr0_1 hc0_1;have HB:=am' (Below.refl w.heap.size w)
 have H:((impl_areIn.f l0_0 1 500 1 7).bind fun t358=>(if t358=true then (if (l0_1.length:Int)=(l0_0.length:Int) then ((impl_in.f a0_2 0 2000).bind fun t359=>(some t359)) else (some false)) else (some false)))=some r:=h
 clear h;replace H:=Option.bind_eq_some_iff.mp H
 obtain ⟨t358,A20,H⟩:=H
 replace H:(if t358=true then (if (l0_1.length:Int)=(l0_0.length:Int) then ((impl_in.f a0_2 0 2000).bind fun t359=>(some t359)) else (some false)) else (some false))=some r:=H
 have A2:=am' A20
 clear A20;by_cases c3:t358=true
 ·
  subst c3;have H1:(if (l0_1.length:Int)=(l0_0.length:Int) then ((impl_in.f a0_2 0 2000).bind fun t359=>(some t359)) else (some false))=some r:=by rw[if_pos rfl] at H;exact H
  clear H;have H:=H1;clear H1;by_cases c4:(l0_1.length:Int)=(l0_0.length:Int)
  ·
   rw[if_pos c4] at H;have c4b0:((l0_1.length:Int) == (l0_0.length:Int))=true:=beq_iff_eq.mpr c4;have c4b1:((l0_1.length:Int) != (l0_0.length:Int))=false:=bne_eq_false_iff_eq.mpr c4;have c4b2:(l0_1.length == l0_0.length)=true:=by first|simpa using c4|(simp at c4 ⊢;omega)
   clear c4;replace H:=Option.bind_eq_some_iff.mp H;obtain ⟨t359,A50,H⟩:=H;replace H:(some t359)=some r:=H;have A5:=am' A50;clear A50;obtain rfl:=os' H;go_enter Try.func54,Try.ntmps54;go_wp2_with (first|((with_reducible refine gate_dst (N:=1) rfl ?_);(try (refine gate_guard (by rfl) ?_;dsimp only));refine box_event ?hg (N:=1) ?hd (cs:=#[.slice A0_0 l0_0.length c0_0, .slice A0_1 l0_1.length c0_1, .int .i64 a0_2]) (t:=29) ?hr ?_;(case hd=>rfl);(case hg=>rfl);(case hr=>first|(go_simp;done)|(go_simp;rfl));intro gb357 hg w6 hbox hb;have n0_:=am' (bt' xb' hb);have n1_:=am' (hbox);have n2_:=am' ((by rw[hg];exact (bz' xb'):w.heap.size≤gb357));have n3_:=am' ((by rw[hg];exact (bz' xb'):w.heap.size≤gb357));clear HB;have HB:=n0_;have BK357:=n1_;have GW357:=n2_;have GE357:=n3_;clear n0_ n1_ n2_ n3_;clear hb hbox hg;have hcz7_0:w6.cell? ⟨gb357,0,none⟩=some (.slice A0_0 l0_0.length c0_0):=(bc' BK357.out 0).trans rfl;have hcz7_1:w6.cell? ⟨gb357,1,none⟩=some (.slice A0_1 l0_1.length c0_1):=(bc' BK357.out 1).trans rfl;have hcz7_2:w6.cell? ⟨gb357,2,none⟩=some (.int .i64 a0_2):=(bc' BK357.out 2).trans rfl;have hfz7_0:=bf' BK357.out 0;have hfz7_1:=bf' BK357.out 1;have hfz7_2:=bf' BK357.out 2)|((with_reducible refine gate_callee (f:=89) rfl ?_);refine goesL_ (some 5) rfl rfl Try.func89 xk' rfl #[.slice A0_0 l0_0.length c0_0, .int .i64 1, .int .i64 500, .int .i64 1, .int .i64 7] rfl xl' ?_;(with_reducible refine (impl_areIn.calls _ _ l0_0 1 500 1 7 true _ ?side1 ?side2 A2.out).mono ?_);(case side1=>exact kc' (cb' HR0_0.out HB.out));(case side2=>exact HC0_0.out);rintro e w8 ⟨rfl,hb⟩;refine ⟨_,rfl,?_⟩;have n0_:=am' (bb' (g:=gb357) (o := .cells #[.slice A0_0 l0_0.length c0_0, .slice A0_1 l0_1.length c0_1, .int .i64 a0_2] 29 (0,0)) (kk' BK357.out) hb);have n1_:=am' (bt' (yb' GE357.out) hb);clear BK357;clear HB;have BK357:=n0_;have HB:=n1_;clear n0_ n1_;(try clear hb);(try clear hb2);(try clear hk);(try clear hi);have hcz9_0:w8.cell? ⟨gb357,0,none⟩=some (.slice A0_0 l0_0.length c0_0):=(bc' BK357.out 0).trans rfl;have hcz9_1:w8.cell? ⟨gb357,1,none⟩=some (.slice A0_1 l0_1.length c0_1):=(bc' BK357.out 1).trans rfl;have hcz9_2:w8.cell? ⟨gb357,2,none⟩=some (.int .i64 a0_2):=(bc' BK357.out 2).trans rfl;have hfz9_0:=bf' BK357.out 0;have hfz9_1:=bf' BK357.out 1;have hfz9_2:=bf' BK357.out 2)|(go_at_call 90;(with_reducible refine (impl_in.calls a0_2 0 2000 t359 _ A5.out).mono ?_);rintro e w' ⟨rfl,⟨nd,rfl⟩⟩))
   go_ret
   exact ⟨by first|rfl|(simp[errW_none,errW_some] <;> rfl)|(simp[*,errW_none,errW_some] <;> rfl),yb' GE357.out⟩
  ·
   rw[if_neg c4] at H;have c4b0:((l0_1.length:Int) == (l0_0.length:Int))=false:=beq_eq_false_iff_ne.mpr c4;have c4b1:((l0_1.length:Int) != (l0_0.length:Int))=true:=bne_iff_ne.mpr c4;have c4b2:(l0_1.length == l0_0.length)=false:=by first|simpa using c4|(simp at c4 ⊢;omega)
   obtain rfl:=os' H;go_enter Try.func54,Try.ntmps54;go_wp2_with (first|((with_reducible refine gate_dst (N:=1) rfl ?_);(try (refine gate_guard (by rfl) ?_;dsimp only));refine box_event ?hg (N:=1) ?hd (cs:=#[.slice A0_0 l0_0.length c0_0, .slice A0_1 l0_1.length c0_1, .int .i64 a0_2]) (t:=29) ?hr ?_;(case hd=>rfl);(case hg=>rfl);(case hr=>first|(go_simp;done)|(go_simp;rfl));intro gb357 hg w10 hbox hb;have n0_:=am' (bt' xb' hb);have n1_:=am' (hbox);have n2_:=am' ((by rw[hg];exact (bz' xb'):w.heap.size≤gb357));have n3_:=am' ((by rw[hg];exact (bz' xb'):w.heap.size≤gb357));clear HB;have HB:=n0_;have BK357:=n1_;have GW357:=n2_;have GE357:=n3_;clear n0_ n1_ n2_ n3_;clear hb hbox hg;have hcz11_0:w10.cell? ⟨gb357,0,none⟩=some (.slice A0_0 l0_0.length c0_0):=(bc' BK357.out 0).trans rfl;have hcz11_1:w10.cell? ⟨gb357,1,none⟩=some (.slice A0_1 l0_1.length c0_1):=(bc' BK357.out 1).trans rfl;have hcz11_2:w10.cell? ⟨gb357,2,none⟩=some (.int .i64 a0_2):=(bc' BK357.out 2).trans rfl;have hfz11_0:=bf' BK357.out 0;have hfz11_1:=bf' BK357.out 1;have hfz11_2:=bf' BK357.out 2)|((with_reducible refine gate_callee (f:=89) rfl ?_);refine goesL_ (some 5) rfl rfl Try.func89 xk' rfl #[.slice A0_0 l0_0.length c0_0, .int .i64 1, .int .i64 500, .int .i64 1, .int .i64 7] rfl xl' ?_;(with_reducible refine (impl_areIn.calls _ _ l0_0 1 500 1 7 true _ ?side1 ?side2 A2.out).mono ?_);(case side1=>exact kc' (cb' HR0_0.out HB.out));(case side2=>exact HC0_0.out);rintro e w12 ⟨rfl,hb⟩;refine ⟨_,rfl,?_⟩;have n0_:=am' (bb' (g:=gb357) (o := .cells #[.slice A0_0 l0_0.length c0_0, .slice A0_1 l0_1.length c0_1, .int .i64 a0_2] 29 (0,0)) (kk' BK357.out) hb);have n1_:=am' (bt' (yb' GE357.out) hb);clear BK357;clear HB;have BK357:=n0_;have HB:=n1_;clear n0_ n1_;(try clear hb);(try clear hb2);(try clear hk);(try clear hi);have hcz13_0:w12.cell? ⟨gb357,0,none⟩=some (.slice A0_0 l0_0.length c0_0):=(bc' BK357.out 0).trans rfl;have hcz13_1:w12.cell? ⟨gb357,1,none⟩=some (.slice A0_1 l0_1.length c0_1):=(bc' BK357.out 1).trans rfl;have hcz13_2:w12.cell? ⟨gb357,2,none⟩=some (.int .i64 a0_2):=(bc' BK357.out 2).trans rfl;have hfz13_0:=bf' BK357.out 0;have hfz13_1:=bf' BK357.out 1;have hfz13_2:=bf' BK357.out 2))
   go_ret
   exact ⟨by first|rfl|(simp[errW_none,errW_some] <;> rfl)|(simp[*,errW_none,errW_some] <;> rfl),yb' GE357.out⟩
 ·
  replace c3:=Bool.eq_false_iff.mpr c3;subst c3;have H1:(some false)=some r:=by rw[if_neg (show ¬ (false=true) by decide)] at H;exact H
  clear H;have H:=H1;clear H1;obtain rfl:=os' H;go_enter Try.func54,Try.ntmps54;go_wp2_with (first|((with_reducible refine gate_dst (N:=1) rfl ?_);(try (refine gate_guard (by rfl) ?_;dsimp only));refine box_event ?hg (N:=1) ?hd (cs:=#[.slice A0_0 l0_0.length c0_0, .slice A0_1 l0_1.length c0_1, .int .i64 a0_2]) (t:=29) ?hr ?_;(case hd=>rfl);(case hg=>rfl);(case hr=>first|(go_simp;done)|(go_simp;rfl));intro gb357 hg w14 hbox hb;have n0_:=am' (bt' xb' hb);have n1_:=am' (hbox);have n2_:=am' ((by rw[hg];exact (bz' xb'):w.heap.size≤gb357));have n3_:=am' ((by rw[hg];exact (bz' xb'):w.heap.size≤gb357));clear HB;have HB:=n0_;have BK357:=n1_;have GW357:=n2_;have GE357:=n3_;clear n0_ n1_ n2_ n3_;clear hb hbox hg;have hcz15_0:w14.cell? ⟨gb357,0,none⟩=some (.slice A0_0 l0_0.length c0_0):=(bc' BK357.out 0).trans rfl;have hcz15_1:w14.cell? ⟨gb357,1,none⟩=some (.slice A0_1 l0_1.length c0_1):=(bc' BK357.out 1).trans rfl;have hcz15_2:w14.cell? ⟨gb357,2,none⟩=some (.int .i64 a0_2):=(bc' BK357.out 2).trans rfl;have hfz15_0:=bf' BK357.out 0;have hfz15_1:=bf' BK357.out 1;have hfz15_2:=bf' BK357.out 2)|((with_reducible refine gate_callee (f:=89) rfl ?_);refine goesL_ (some 5) rfl rfl Try.func89 xk' rfl #[.slice A0_0 l0_0.length c0_0, .int .i64 1, .int .i64 500, .int .i64 1, .int .i64 7] rfl xl' ?_;(with_reducible refine (impl_areIn.calls _ _ l0_0 1 500 1 7 false _ ?side1 ?side2 A2.out).mono ?_);(case side1=>exact kc' (cb' HR0_0.out HB.out));(case side2=>exact HC0_0.out);rintro e w16 ⟨rfl,hb⟩;refine ⟨_,rfl,?_⟩;have n0_:=am' (bb' (g:=gb357) (o := .cells #[.slice A0_0 l0_0.length c0_0, .slice A0_1 l0_1.length c0_1, .int .i64 a0_2] 29 (0,0)) (kk' BK357.out) hb);have n1_:=am' (bt' (yb' GE357.out) hb);clear BK357;clear HB;have BK357:=n0_;have HB:=n1_;clear n0_ n1_;(try clear hb);(try clear hb2);(try clear hk);(try clear hi)));go_ret
  exact ⟨by first|rfl|(simp[errW_none,errW_some] <;> rfl)|(simp[*,errW_none,errW_some] <;> rfl),yb' GE357.out⟩
def impl_last.f (a0:Int):Option (Int):=if 0≤(wrap64 (a0+1)) then (some (wrap64 ((shl .i64 1 (wrap64 (a0+1))) - 1))) else (none)
set_option maxHeartbeats 8000000 in
set_option maxRecDepth 100000 in
theorem impl_last.calls (a0:Int) (r:Int) (w:World) (h:impl_last.f a0=some r) :
  Calls Try.prog 72 #[.int .i64 a0] w fun e w'=>e = .returned (.int .i64 r)∧Drawn0 w w':=by
 have H:(if 0≤(wrap64 (a0+1)) then (some (wrap64 ((shl .i64 1 (wrap64 (a0+1))) - 1))) else (none))=some r:=h
 clear h;obtain ⟨ji2,hji2⟩:∃ j_:Int,(wrap64 (a0+1))=j_:=⟨_,rfl⟩
 replace H:(if 0≤(ji2) then (some (wrap64 ((shl .i64 1 (ji2)) - 1))) else (none))=some r:=by first|(rw[hji2] at H;exact H)|(simp only[hji2] at H ⊢;exact H)
 have hji2w:(IntKind.i64.wrap (a0+1))=ji2:=(i64_w _).trans hji2
 by_cases c3:0≤(ji2)
 ·
  rw[if_pos c3] at H;have c3b0:=eq_true c3;have c3b1:decide (0≤(ji2))=true:=dt' c3;clear c3;obtain ⟨ji4,hji4⟩:∃ j_:Int,(shl .i64 1 (ji2))=j_:=⟨_,rfl⟩
  replace H:(some (wrap64 ((ji4) - 1)))=some r:=by first|(rw[hji4] at H;exact H)|(simp only[hji4] at H ⊢;exact H)
  have hji4_:(IntKind.i64.wrap (1 * 2 ^ min (ji2).toNat 64))=ji4:=hji4;have hji4z:(ji2)≤64→(IntKind.i64.wrap (1 * 2 ^ (ji2).toNat))=ji4:=shl_small hji4;have hji4u:(IntKind.i64.wrap (2 ^ min (ji2).toNat 64))=ji4:=by have h_:=hji4_;rw[Int.one_mul] at h_;exact h_
  have hji4v:(ji2)≤64→(IntKind.i64.wrap (2 ^ (ji2).toNat))=ji4:=fun hle_=>by have h_:=hji4z hle_;rw[Int.one_mul] at h_;exact h_
  have hji4y:(wrap64 (1 * 2 ^ min (ji2).toNat 64))=ji4:=(i64_w _).symm.trans hji4_;have hji4x:(ji2)≤64→(wrap64 (1 * 2 ^ (ji2).toNat))=ji4:=fun h_=>(i64_w _).symm.trans (hji4z h_)
  obtain rfl:=os' H;go_enter Try.func72,Try.ntmps72;go_wp2;go_ret
  exact ⟨by first|rfl|(simp;done)|(simp only[← hji2,← hji4] <;> (first|rfl|simp))|(simp[*];done),by repeat (first|exact Drawn0.refl _|apply Drawn0.step)⟩
 ·
  rw[if_neg c3] at H;exact absurd H (by simp)
def impl_Crew_load.l0:Nat→Int→List Int→Int→Int→List Int→List Bool→Int→Option (Int)
 | 0,_,_,_,_,_,_,_=>none
 | k+1,x5,x8,x9,x10,x361000,x361001,x361002=>if x10 < x9 then (if 0≤x10 then (if x10 < (x8.length:Int) then (if 0≤(rd x8 x10) then (if (rd x8 x10) < (x361000.length:Int) then (impl_Crew_load.l0 k (wrap64 (x5+(rd x361000 (rd x8 x10)))) x8 x9 (wrap64 (x10+1)) x361000 x361001 x361002) else (none)) else (none)) else (none)) else (none)) else (some x5)
def impl_Crew_load.f (k:Nat) (l0_0:List Int) (l0_1:List Bool) (a0_2:Int) (l1:List Int):Option (Int):=impl_Crew_load.l0 k 0 l1 (l1.length:Int) 0 l0_0 l0_1 a0_2
set_option maxHeartbeats 8000000 in
set_option maxRecDepth 100000 in
theorem impl_Crew_load.calls (k:Nat) (A0_0:Option Addr) (c0_0:Nat) (l0_0:List Int) (A0_1:Option Addr) (c0_1:Nat) (l0_1:List Bool) (a0_2:Int) (A1:Option Addr) (c1:Nat) (l1:List Int) (r:Int) (w:World) (hr0_0:Kd.C (Kd.int .i64) w A0_0 l0_0.length l0_0) (hc0_0:l0_0.length≤c0_0) (hr0_1:Kd.C Kd.bool w A0_1 l0_1.length l0_1) (hc0_1:l0_1.length≤c0_1) (hr1:Kd.C (Kd.int .i64) w A1 l1.length l1) (hc1:l1.length≤c1) (h:impl_Crew_load.f k l0_0 l0_1 a0_2 l1=some r) :
  Calls Try.prog 56 #[.agg #[.slice A0_0 l0_0.length c0_0, .slice A0_1 l0_1.length c0_1, .int .i64 a0_2], .slice A1 l1.length c1] w fun e w'=>e = .returned (.int .i64 r)∧Below w.heap.size w w':=by
 have hu29:=Try.underlying29
 have HR0_0:=am' hr0_0
 have HC0_0:=am' hc0_0
 clear hr0_0 hc0_0;have HR0_1:=am' hr0_1
 have HC0_1:=am' hc0_1
 clear hr0_1 hc0_1;have HR1:=am' hr1
 have HC1:=am' hc1
 clear hr1 hc1;have HB:=am' (Below.refl w.heap.size w)
 have H:(impl_Crew_load.l0 k 0 l1 (l1.length:Int) 0 l0_0 l0_1 a0_2)=some r:=h
 clear h;have H':=am' H
 clear H;go_enter Try.func56,Try.ntmps56
 go_wp2_with (first|((with_reducible refine gate_dst (N:=2) rfl ?_);refine box_event ?hg (N:=2) ?hd (cs:=#[.slice A0_0 l0_0.length c0_0, .slice A0_1 l0_1.length c0_1, .int .i64 a0_2]) (t:=29) ?hr ?_;(case hd=>rfl);(case hg=>rfl);(case hr=>first|(go_simp;done)|(go_simp;rfl));intro gb360 hg w3 hbox hb;have n0_:=am' (bt' xb' hb);have n1_:=am' (hbox);have n2_:=am' ((by rw[hg];exact (bz' xb'):w.heap.size≤gb360));have n3_:=am' ((by rw[hg];exact (bz' xb'):w.heap.size≤gb360));clear HB;have HB:=n0_;have BK360:=n1_;have GW360:=n2_;have GE360:=n3_;clear n0_ n1_ n2_ n3_;clear hb hbox hg))
 go_loopg [5,10] k (fun kq v5 v10 w'=>∃ (x5_1:Int) (x10_1:Int),v5 = .int .i64 x5_1∧v10 = .int .i64 x10_1∧Aside0 (impl_Crew_load.l0 kq x5_1 l1 (l1.length:Int) x10_1 l0_0 l0_1 a0_2=some r)∧Aside0 (kq≤k)∧Aside0 (w'.heap[gb360]? = some (.cells #[(.slice A0_0 l0_0.length c0_0),(.slice A0_1 l0_1.length c0_1), .int .i64 a0_2] 29 (0,0)))∧Aside0 (Below w.heap.size w w'))
 case atStart=>exact ⟨(0),(0),xs',xs',H',⟨Nat.le_refl _⟩,⟨kk' BK360.out⟩,⟨yb' GE360.out⟩⟩
 case round =>
  clear H';try clear c1
  try clear p2
  obtain ⟨x5_1,x10_1,rfl,rfl,HA,HK1,BK360,HB⟩:=hrel;cases gk with
  | zero=>exact absurd HA.out (by simp[impl_Crew_load.l0])
  | succ k1 =>
   have H:=HA.out;clear HA;simp only[impl_Crew_load.l0] at H;by_cases c4:x10_1 < (l1.length:Int)
   ·
    rw[if_pos c4] at H;have c4b0:decide (x10_1 < (l1.length:Int))=true:=dt' c4;clear c4;by_cases c5:0≤x10_1
    ·
     rw[if_pos c5] at H;have c5b0:decide (0≤x10_1)=true:=dt' c5;clear c5;by_cases c6:x10_1 < (l1.length:Int)
     ·
      rw[if_pos c6] at H;have c6b0:decide (x10_1 < (l1.length:Int))=true:=dt' c6;clear c6;by_cases c7:0≤(rd l1 x10_1)
      ·
       rw[if_pos c7] at H;have c7b0:decide (0≤(rd l1 x10_1))=true:=dt' c7;clear c7;by_cases c8:(rd l1 x10_1) < (l0_0.length:Int)
       ·
        rw[if_pos c8] at H;have c8b0:decide ((rd l1 x10_1) < (l0_0.length:Int))=true:=dt' c8;clear c8;have H':=am' H;clear H;have p361:0≤(x10_1:Int):=od' xa';have q361:x10_1 < (l1.length:Int):=od' xa';obtain ⟨ad361,e361,hx361_0⟩:=Kd.at_int HR1.out x10_1 p361 q361;cases e361;replace hx361_0:=(HB.out.cell (bl' w _ hx361_0)).trans hx361_0;replace p361:=eq_true p361;replace q361:=eq_true q361;have hcz9_0:wr.cell? ⟨gb360,0,none⟩=some (.slice A0_0 l0_0.length c0_0):=(bc' BK360.out 0).trans rfl;have hcz9_1:wr.cell? ⟨gb360,1,none⟩=some (.slice A0_1 l0_1.length c0_1):=(bc' BK360.out 1).trans rfl;have hcz9_2:wr.cell? ⟨gb360,2,none⟩=some (.int .i64 a0_2):=(bc' BK360.out 2).trans rfl;have hfz9_0:=bf' BK360.out 0;have hfz9_1:=bf' BK360.out 1;have hfz9_2:=bf' BK360.out 2;have p362:0≤((rd l1 x10_1):Int):=od' xa';have q362:(rd l1 x10_1) < (l0_0.length:Int):=od' xa';obtain ⟨ad362,e362,hx362_0⟩:=Kd.at_int HR0_0.out (rd l1 x10_1) p362 q362;cases e362;replace hx362_0:=(HB.out.cell (bl' w _ hx362_0)).trans hx362_0;replace p362:=eq_true p362;replace q362:=eq_true q362;go_wp2;go_roundg k1
        case measure=>have:=HK1.out;omega
        case rel=>exact ⟨(wrap64 (x5_1+(rd l0_0 (rd l1 x10_1)))),(wrap64 (x10_1+1)),xs',xs',H',⟨by have:=HK1.out;omega⟩,⟨kk' BK360.out⟩,⟨yb' GE360.out⟩⟩
       ·
        rw[if_neg c8] at H;exact absurd H (by simp)
      ·
       rw[if_neg c7] at H;exact absurd H (by simp)
     ·
      rw[if_neg c6] at H;exact absurd H (by simp)
    ·
     rw[if_neg c5] at H;exact absurd H (by simp)
   ·
    rw[if_neg c4] at H;have c4b0:decide (x10_1 < (l1.length:Int))=false:=df' c4;clear c4;obtain rfl:=os' H;go_wp2;go_ret
    exact ⟨by first|rfl|(simp[errW_none,errW_some] <;> rfl)|(simp[*,errW_none,errW_some] <;> rfl),yb' GE360.out⟩
def slices_Clone_bool_bool.f (l0:List Bool):Option (List Bool):=if l0.length < 140737488355328 then some l0 else none
set_option maxHeartbeats 2000000 in
set_option maxRecDepth 100000 in
theorem slices_Clone_bool_bool.calls (A0:Option Addr) (c0:Nat) (l0:List Bool) (r:List Bool) (w:World) (hr0:Kd.C Kd.bool w A0 l0.length l0) (hc0:l0.length≤c0) (h:slices_Clone_bool_bool.f l0=some r) :
  Calls Try.prog 96 #[.slice A0 l0.length c0] w fun e w'=>∃ v0_:Value,e = .returned (v0_)∧Kd.R Kd.bool 4 w' w.heap.size (fun _=>True) v0_ r∧Below w.heap.size w w':=by
 have hinfo:(Try.prog.info? 4).map (fun i=>(i.zero,i.size,i.bytes))=some (some (.bool false),1,1):=by kernel_rfl
 obtain ⟨hlim,rfl⟩:l0.length < 140737488355328∧l0=r:=by
  unfold slices_Clone_bool_bool.f at h
  by_cases hl:l0.length < 140737488355328
  ·
   rw[if_pos hl] at h;exact ⟨hl,os' h⟩
  ·
   rw[if_neg hl] at h;cases h
 clear h;cases A0 with
 | none =>
  obtain rfl:l0=[]:=by
   cases l0 with
   | nil=>rfl
   | cons x l=>obtain ⟨_,e,_⟩:=hr0.2.2 (by simp);cases e
  clear hr0 hc0 hlim hinfo;have heq:=fun (w:World) (n c:Nat)=>Lib.run_eql_slice_nil (P:=Try.prog) w 23 4 none n c 0 0 Try.underlying23
  go_enter Try.func96,Try.ntmps96;go_wp2;go_ret
  exact ⟨_,rfl,Kd.R_nil _ _ _ _ _,Below.refl _ _⟩
 | some a =>
  have HR0:=am' hr0;have HL:=am' hlim;have hie:=am' hinfo;clear hr0 hc0 hlim hinfo;have HB:=am' (Below.refl w.heap.size w);have heq:=fun (w:World) (n c:Nat)=>Lib.run_eql_slice_nil (P:=Try.prog) w 23 4 (some a) n c 0 0 Try.underlying23
  go_enter Try.func96,Try.ntmps96;go_wp2_with (first|((with_reducible refine gate_dst (N:=5) rfl ?_);refine Kd.R_lit Kd.bool _ 4 ?hg (N:=5) ?hd (xs:=([]:List Bool)) (inner:=[]) (ok:=fun _=>True) (okp:=fun _=>True) ?hr ?hp (fun _ hk=>hk) trivial (Below.refl _ _) (Nat.le_refl _) (by simp) ?_;(case hd=>rfl);(case hg=>rfl);(case hr=>first|(go_simp;done)|(go_simp;rfl));(case hp=>exact (Reps.none _ _));intro v210 w3 ho4 hb hg_ hnew_;clear hg_ hnew_;have n0_:=am' (Kd.R_lower ho4 (bz' HB.out));have n1_:=am' (bt' HB.out hb);clear HB;have HO211:=n0_;have HB:=n1_;clear n0_ n1_;clear hb ho4)|((with_reducible refine gate_builtin (b := .append) (xs:=#[.tmp 5, .tmp 6]) rfl ?_);at_builtin;refine Kd.R_append_rows Kd.bool (w0:=w) w.heap.size rfl (.tmp 5) (.tmp 6) 23 4 (.bool false) 1 rfl Try.underlying23 hie.out rfl (by decide) (by omega) v210 [] l0 _ _ _ (fun _=>True) (fun _=>False) rfl rfl ?aO ?aR (fun _ _ h=>h) (fun _ h=>h.elim) ?aF ?aB ?aS ?aL ?_;(case aR=>exact (cb' HR0.out HB.out));(case aB=>exact HB.out);(case aF=>exact (fun _ _=>trivial));(case aO=>exact HO211.out);(case aS=>exact (bz' HB.out));(case aL=>have:=HL.out;simp;omega);intro v213 w5 ho hb hg hat;have n0_:=am' (hb);have n1_:=am' (ho);clear HB;clear HO211;have HB:=n0_;have HO214:=n1_;clear n0_ n1_;clear ho hb hg hat));go_ret
  exact ⟨_,rfl,by simpa using HO214.out,HB.out⟩
end Go.Proofs.Ytikjdmiohpdnaaa.C20
