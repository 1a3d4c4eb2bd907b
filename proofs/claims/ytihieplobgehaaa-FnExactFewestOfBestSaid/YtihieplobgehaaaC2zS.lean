import Derived.Test.YtihieplobgehaaaC2zx0
import Derived.Test.YtihieplobgehaaaC2zx1
import Derived.Test.YtihieplobgehaaaC2zx10
import Derived.Test.YtihieplobgehaaaC2zx18
import Derived.Test.YtihieplobgehaaaC2zH0
import Derived.Test.YtihieplobgehaaaC2zH2
namespace Go.Proofs.Ytihieplobgehaaa.Walk
open Go.RowKit Go.Proofs.YtihieplobgehaaaW.PrintWords Go.Proofs.YtihieplobgehaaaW.PrintLast Go.Proofs.YtihieplobgehaaaW.PrintMore Go.Proofs.Ytihieplobgehaaa.C2 Go.Proofs.Ytihieplobgehaaa.H
attribute [local go_sem] max2_int min2_int max_two min_two max_three min_three max_four min_four
set_option linter.unusedVariables false
set_option linter.unusedSimpArgs false
set_option maxHeartbeats 8000000 in
set_option maxRecDepth 100000 in
theorem FnExactFewestOfBest_walk (A0_0:Option Addr) (c0_0:Nat) (l0_0:List Int) (a0_1:Int) (r0:Int) (r1:Bool) (u0:Int)  (k1:Nat) (k2:Nat) (k3:Nat) (k4:Nat) (w:World) (hr0_0:Kd.C (Kd.int .i64) w A0_0 l0_0.length l0_0) (hc0_0:l0_0.length≤c0_0)  (hU0:laws_szParty.f l0_0 a0_1 1048576=some u0) (nU0:¬ u0 < 0) (hT0:laws_toParty.f k1 l0_0 a0_1=some (l0_0,a0_1)) (hS:spec_FewestOfBest.f k2 l0_0 a0_1=some (r0,r1)) (hI:impl_FewestOfBest.f k3 l0_0 a0_1=some (r0,r1)) (hEA0:laws_eqParty.f k4 l0_0 a0_1 l0_0 a0_1=some true) :
  Calls Try.prog 3 #[.agg #[.slice A0_0 l0_0.length c0_0, .int .i64 a0_1]] w fun e w'=>e = .returned (.bool true)∧Below w.heap.size w w':=by
 have hu24_:=Try.underlying24
 have hu28_:=Try.underlying28
 have W0_0:=Aside0.mk hr0_0
 clear hr0_0
 have XhU0:=Aside0.mk hU0
 clear hU0
 have dnU0:=decide_eq_false nU0
 clear nU0
 have XhT0:=Aside0.mk hT0
 clear hT0
 have XhS:=Aside0.mk hS
 clear hS
 have XhI:=Aside0.mk hI
 clear hI
 have XhEA0:=Aside0.mk hEA0
 clear hEA0
 go_enter Try.func3,Try.ntmps3
 go_wp2_with fail
 have NB:=Aside0.mk (lay1 w (.cells #[.slice A0_0 l0_0.length c0_0, .int .i64 a0_1] 24))
 generalize (w.alloc (.cells #[.slice A0_0 l0_0.length c0_0, .int .i64 a0_1] 24))=wA at *
 have PA0:=Aside0.mk NB.out.1
 have HA:=Aside0.mk NB.out.2
 clear NB
 have RA0_0:=Aside0.mk (Kd.C_below W0_0.out HA.out)
 clear W0_0
 have HB:=Aside0.mk (Below.refl wA.heap.size wA)
 go_wp2_with fail
 go_at_call 5
 refine (laws_szParty.calls _ _ l0_0 a0_1 1048576 u0 _ ?s1_hr0_0 ?s1_hc0_0 XhU0.out).mono ?_
 (case s1_hr0_0=>exact Kd.C_below RA0_0.out (by repeat (first|(with_reducible exact HB.out)|(with_reducible apply below_alloc)|(with_reducible apply pw_below_drewN)|(with_reducible apply below_drew1))))
 (case s1_hc0_0=>exact hc0_0)
 rintro e w1 ⟨rfl,hb⟩
 have nb_:=Aside0.mk (below_step (by repeat (first|(with_reducible exact HB.out)|(with_reducible apply below_alloc)|(with_reducible apply pw_below_drewN)|(with_reducible apply below_drew1))) hb)
 have zw_:=hb.size
 (try simp only[World.size_alloc,size_drew_,size_drewN_] at zw_)
 have ZW1:=Aside0.mk zw_
 clear zw_
 clear HB
 have HB:=nb_
 clear nb_
 clear hb
 have xa0_0:w1.cell? ⟨w.heap.size,0,none⟩=some (.slice A0_0 l0_0.length c0_0):=(blk_cell (blk_below PA0.out HB.out) 0).trans rfl
 have xa0_1:w1.cell? ⟨w.heap.size,1,none⟩=some (.int .i64 a0_1):=(blk_cell (blk_below PA0.out HB.out) 1).trans rfl
 have hzA:w.heap.size < w1.heap.size:=Nat.lt_of_lt_of_le (blk_lt PA0.out) HB.out.size
 go_wp2_with fail
 go_at_call 7
 refine (laws_toParty.calls k1 _ _ l0_0 a0_1 l0_0 a0_1 _ ?s2_hr0_0 ?s2_hc0_0 XhT0.out).mono ?_
 (case s2_hr0_0=>exact Kd.C_below RA0_0.out (by repeat (first|(with_reducible exact HB.out)|(with_reducible apply below_alloc)|(with_reducible apply pw_below_drewN)|(with_reducible apply below_drew1))))
 (case s2_hc0_0=>exact hc0_0)
 rintro e w2 ⟨vt0_0,rfl,ht0_0,hb⟩
 obtain ⟨Bt0_0,dt0_0,et0_0⟩:=Kd.R_slice ht0_0
 subst et0_0
 have nb_:=Aside0.mk (below_step (by repeat (first|(with_reducible exact HB.out)|(with_reducible apply below_alloc)|(with_reducible apply pw_below_drewN)|(with_reducible apply below_drew1))) hb)
 have zw_:=hb.size
 (try simp only[World.size_alloc,size_drew_,size_drewN_] at zw_)
 have ZW2:=Aside0.mk zw_
 clear zw_
 clear HB
 have HB:=nb_
 clear nb_
 have Ht0_0:=Aside0.mk ht0_0
 clear ht0_0
 clear hb
 clear xa0_0 xa0_1 hzA
 have xa0_0:w2.cell? ⟨w.heap.size,0,none⟩=some (.slice A0_0 l0_0.length c0_0):=(blk_cell (blk_below PA0.out HB.out) 0).trans rfl
 have xa0_1:w2.cell? ⟨w.heap.size,1,none⟩=some (.int .i64 a0_1):=(blk_cell (blk_below PA0.out HB.out) 1).trans rfl
 have hzA:w.heap.size < w2.heap.size:=Nat.lt_of_lt_of_le (blk_lt PA0.out) HB.out.size
 go_wp2_with fail
 go_at_call 6
 refine (spec_FewestOfBest.calls k2 _ _ l0_0 a0_1 r0 r1 _ ?s3_hr0_0 ?s3_hc0_0 XhS.out).mono ?_
 (case s3_hr0_0=>exact (Kd.R_reads' (by repeat (first|(with_reducible exact Ht0_0.out)|(with_reducible apply Kd.R_alloc)|(with_reducible apply Kd.R_drewN)|(with_reducible apply Kd.R_drew)))).2.2)
 (case s3_hc0_0=>exact (Kd.R_reads' Ht0_0.out).2.1)
 rintro e w3 ⟨rfl,hb⟩
 have n0_:=Aside0.mk (Kd.R_below (by repeat (first|(with_reducible exact Ht0_0.out)|(with_reducible apply Kd.R_alloc)|(with_reducible apply Kd.R_drewN)|(with_reducible apply Kd.R_drew))) hb)
 have nb_:=Aside0.mk (below_step (by repeat (first|(with_reducible exact HB.out)|(with_reducible apply below_alloc)|(with_reducible apply pw_below_drewN)|(with_reducible apply below_drew1))) hb)
 have zw_:=hb.size
 (try simp only[World.size_alloc,size_drew_,size_drewN_] at zw_)
 have ZW3:=Aside0.mk zw_
 clear zw_
 clear HB Ht0_0
 have HB:=nb_
 have Ht0_0:=n0_
 clear nb_ n0_
 clear hb
 clear xa0_0 xa0_1 hzA
 have xa0_0:w3.cell? ⟨w.heap.size,0,none⟩=some (.slice A0_0 l0_0.length c0_0):=(blk_cell (blk_below PA0.out HB.out) 0).trans rfl
 have xa0_1:w3.cell? ⟨w.heap.size,1,none⟩=some (.int .i64 a0_1):=(blk_cell (blk_below PA0.out HB.out) 1).trans rfl
 have hzA:w.heap.size < w3.heap.size:=Nat.lt_of_lt_of_le (blk_lt PA0.out) HB.out.size
 clear Ht0_0
 go_wp2_with fail
 go_at_call 7
 refine (laws_toParty.calls k1 _ _ l0_0 a0_1 l0_0 a0_1 _ ?s4_hr0_0 ?s4_hc0_0 XhT0.out).mono ?_
 (case s4_hr0_0=>exact Kd.C_below RA0_0.out (by repeat (first|(with_reducible exact HB.out)|(with_reducible apply below_alloc)|(with_reducible apply pw_below_drewN)|(with_reducible apply below_drew1))))
 (case s4_hc0_0=>exact hc0_0)
 rintro e w4 ⟨vx0_0,rfl,hx0_0,hb⟩
 obtain ⟨lox0_0,hix0_0,elx0_0,ehx0_0,zlx0_0,zhx0_0,hx_⟩:=R_span hx0_0 hb (by repeat (first|(with_reducible exact HB.out)|(with_reducible apply below_alloc)|(with_reducible apply pw_below_drewN)|(with_reducible apply below_drew1)))
 clear hx0_0
 have hx0_0:=hx_
 clear hx_
 (try simp only[World.size_alloc,size_drew_,size_drewN_] at elx0_0)
 have Zx0_0:=Aside0.mk (And.intro elx0_0 (And.intro ehx0_0 (And.intro zlx0_0 zhx0_0)))
 clear elx0_0 ehx0_0 zlx0_0 zhx0_0
 obtain ⟨Bx0_0,dx0_0,ex0_0⟩:=Kd.R_slice hx0_0
 subst ex0_0
 have nb_:=Aside0.mk (below_step (by repeat (first|(with_reducible exact HB.out)|(with_reducible apply below_alloc)|(with_reducible apply pw_below_drewN)|(with_reducible apply below_drew1))) hb)
 have zw_:=hb.size
 (try simp only[World.size_alloc,size_drew_,size_drewN_] at zw_)
 have ZW4:=Aside0.mk zw_
 clear zw_
 clear HB
 have HB:=nb_
 clear nb_
 have Hx0_0:=Aside0.mk hx0_0
 clear hx0_0
 clear hb
 clear xa0_0 xa0_1 hzA
 have xa0_0:w4.cell? ⟨w.heap.size,0,none⟩=some (.slice A0_0 l0_0.length c0_0):=(blk_cell (blk_below PA0.out HB.out) 0).trans rfl
 have xa0_1:w4.cell? ⟨w.heap.size,1,none⟩=some (.int .i64 a0_1):=(blk_cell (blk_below PA0.out HB.out) 1).trans rfl
 have hzA:w.heap.size < w4.heap.size:=Nat.lt_of_lt_of_le (blk_lt PA0.out) HB.out.size
 have BXx0:=Aside0.mk (heap_alloc_new w4 (.cells #[.slice Bx0_0 l0_0.length dx0_0, .int .i64 a0_1] 28))
 go_wp2_with fail
 go_at_call 8
 refine (impl_FewestOfBest.calls k3 _ _ l0_0 a0_1 r0 r1 _ ?s5_hr0_0 ?s5_hc0_0 XhI.out).mono ?_
 (case s5_hr0_0=>exact (Kd.R_reads' (by repeat (first|(with_reducible exact Hx0_0.out)|(with_reducible apply Kd.R_alloc)|(with_reducible apply Kd.R_drewN)|(with_reducible apply Kd.R_drew)))).2.2)
 (case s5_hc0_0=>exact (Kd.R_reads' Hx0_0.out).2.1)
 rintro e w5 ⟨rfl,hb⟩
 have n0_:=Aside0.mk (Kd.R_below (by repeat (first|(with_reducible exact Hx0_0.out)|(with_reducible apply Kd.R_alloc)|(with_reducible apply Kd.R_drewN)|(with_reducible apply Kd.R_drew))) hb)
 have n1_:=Aside0.mk (blk_below (g:=w4.heap.size) (o := .cells #[.slice Bx0_0 l0_0.length dx0_0, .int .i64 a0_1] 28) (by repeat (first|(with_reducible exact BXx0.out)|(with_reducible refine blk_drewN ?_ _)|(with_reducible refine blk_drew ?_)|(with_reducible refine blk_alloc ?_ _))) hb)
 have nb_:=Aside0.mk (below_step (by repeat (first|(with_reducible exact HB.out)|(with_reducible apply below_alloc)|(with_reducible apply pw_below_drewN)|(with_reducible apply below_drew1))) hb)
 have zw_:=hb.size
 (try simp only[World.size_alloc,size_drew_,size_drewN_] at zw_)
 have ZW5:=Aside0.mk zw_
 clear zw_
 clear HB Hx0_0 BXx0
 have HB:=nb_
 have Hx0_0:=n0_
 have BXx0:=n1_
 clear nb_ n0_ n1_
 clear hb
 clear xa0_0 xa0_1 hzA
 have xa0_0:w5.cell? ⟨w.heap.size,0,none⟩=some (.slice A0_0 l0_0.length c0_0):=(blk_cell (blk_below PA0.out HB.out) 0).trans rfl
 have xa0_1:w5.cell? ⟨w.heap.size,1,none⟩=some (.int .i64 a0_1):=(blk_cell (blk_below PA0.out HB.out) 1).trans rfl
 have BXx0c0:w5.cell? ⟨w4.heap.size,0,none⟩=some (.slice Bx0_0 l0_0.length dx0_0):=(blk_cell BXx0.out 0).trans rfl
 have BXx0c1:w5.cell? ⟨w4.heap.size,1,none⟩=some (.int .i64 a0_1):=(blk_cell BXx0.out 1).trans rfl
 have hzA:w.heap.size < w5.heap.size:=Nat.lt_of_lt_of_le (blk_lt PA0.out) HB.out.size
 have hzBXx0:w4.heap.size < w5.heap.size:=blk_lt BXx0.out
 go_wp2_with fail
 go_region_held3 (fun w'=>w'.cell? ⟨w.heap.size,0,none⟩=some (.slice A0_0 l0_0.length c0_0)∧w'.cell? ⟨w.heap.size,1,none⟩=some (.int .i64 a0_1)∧w'.cell? ⟨w4.heap.size,0,none⟩=some (.slice Bx0_0 l0_0.length dx0_0)∧w'.cell? ⟨w4.heap.size,1,none⟩=some (.int .i64 a0_1)) (first|(exact ⟨(blk_cell (blk_below PA0.out (by repeat (first|(with_reducible exact HB.out)|(with_reducible apply below_alloc)|(with_reducible apply pw_below_drewN)|(with_reducible apply below_drew1)))) 0).trans rfl,(blk_cell (blk_below PA0.out (by repeat (first|(with_reducible exact HB.out)|(with_reducible apply below_alloc)|(with_reducible apply pw_below_drewN)|(with_reducible apply below_drew1)))) 1).trans rfl,(blk_cell (by repeat (first|(with_reducible exact BXx0.out)|(with_reducible refine blk_drewN ?_ _)|(with_reducible refine blk_drew ?_)|(with_reducible refine blk_alloc ?_ _))) 0).trans rfl,(blk_cell (by repeat (first|(with_reducible exact BXx0.out)|(with_reducible refine blk_drewN ?_ _)|(with_reducible refine blk_drew ?_)|(with_reducible refine blk_alloc ?_ _))) 1).trans rfl⟩)|go_keep)
  (first|((go_at_call 7;refine (laws_toParty.calls k1 _ _ l0_0 a0_1 l0_0 a0_1 _ ?s6_hr0_0 ?s6_hc0_0 XhT0.out).mono ?_;(case s6_hr0_0=>exact Kd.C_below RA0_0.out (by repeat (first|(with_reducible exact HB.out)|(with_reducible apply below_alloc)|(with_reducible apply pw_below_drewN)|(with_reducible apply below_drew1))));(case s6_hc0_0=>exact hc0_0);rintro e w6 ⟨vt0_0,rfl,ht0_0,hb⟩;obtain ⟨Bt0_0,dt0_0,et0_0⟩:=Kd.R_slice ht0_0;subst et0_0;have n0_:=Aside0.mk (Kd.R_below (by repeat (first|(with_reducible exact Hx0_0.out)|(with_reducible apply Kd.R_alloc)|(with_reducible apply Kd.R_drewN)|(with_reducible apply Kd.R_drew))) hb);have n1_:=Aside0.mk (blk_below (g:=w4.heap.size) (o := .cells #[.slice Bx0_0 l0_0.length dx0_0, .int .i64 a0_1] 28) (by repeat (first|(with_reducible exact BXx0.out)|(with_reducible refine blk_drewN ?_ _)|(with_reducible refine blk_drew ?_)|(with_reducible refine blk_alloc ?_ _))) hb);have nb_:=Aside0.mk (below_step (by repeat (first|(with_reducible exact HB.out)|(with_reducible apply below_alloc)|(with_reducible apply pw_below_drewN)|(with_reducible apply below_drew1))) hb);have zw_:=hb.size;(try simp only[World.size_alloc,size_drew_,size_drewN_] at zw_);have ZW6:=Aside0.mk zw_;clear zw_;clear HB Hx0_0 BXx0;have HB:=nb_;have Hx0_0:=n0_;have BXx0:=n1_;clear nb_ n0_ n1_;have Ht0_0:=Aside0.mk ht0_0;clear ht0_0;clear hb;clear xa0_0 xa0_1 BXx0c0 BXx0c1 hzA hzBXx0;have xa0_0:w6.cell? ⟨w.heap.size,0,none⟩=some (.slice A0_0 l0_0.length c0_0):=(blk_cell (blk_below PA0.out HB.out) 0).trans rfl;have xa0_1:w6.cell? ⟨w.heap.size,1,none⟩=some (.int .i64 a0_1):=(blk_cell (blk_below PA0.out HB.out) 1).trans rfl;have BXx0c0:w6.cell? ⟨w4.heap.size,0,none⟩=some (.slice Bx0_0 l0_0.length dx0_0):=(blk_cell BXx0.out 0).trans rfl;have BXx0c1:w6.cell? ⟨w4.heap.size,1,none⟩=some (.int .i64 a0_1):=(blk_cell BXx0.out 1).trans rfl;have hzA:w.heap.size < w6.heap.size:=Nat.lt_of_lt_of_le (blk_lt PA0.out) HB.out.size;have hzBXx0:w4.heap.size < w6.heap.size:=blk_lt BXx0.out))|((go_at_call 9;refine (laws_eqParty.calls k4 _ _ l0_0 a0_1 _ _ l0_0 a0_1 true _ ?s7_hr0_0 ?s7_hc0_0 ?s7_hr1_0 ?s7_hc1_0 XhEA0.out).mono ?_;(case s7_hr0_0=>exact (Kd.R_reads' (by repeat (first|(with_reducible exact Hx0_0.out)|(with_reducible apply Kd.R_alloc)|(with_reducible apply Kd.R_drewN)|(with_reducible apply Kd.R_drew)))).2.2);(case s7_hc0_0=>exact (Kd.R_reads' Hx0_0.out).2.1);(case s7_hr1_0=>exact (Kd.R_reads' (by repeat (first|(with_reducible exact Ht0_0.out)|(with_reducible apply Kd.R_alloc)|(with_reducible apply Kd.R_drewN)|(with_reducible apply Kd.R_drew)))).2.2);(case s7_hc1_0=>exact (Kd.R_reads' Ht0_0.out).2.1);rintro e w7 ⟨rfl,hb⟩;have n0_:=Aside0.mk (Kd.R_below (by repeat (first|(with_reducible exact Hx0_0.out)|(with_reducible apply Kd.R_alloc)|(with_reducible apply Kd.R_drewN)|(with_reducible apply Kd.R_drew))) hb);have n1_:=Aside0.mk (blk_below (g:=w4.heap.size) (o := .cells #[.slice Bx0_0 l0_0.length dx0_0, .int .i64 a0_1] 28) (by repeat (first|(with_reducible exact BXx0.out)|(with_reducible refine blk_drewN ?_ _)|(with_reducible refine blk_drew ?_)|(with_reducible refine blk_alloc ?_ _))) hb);have n2_:=Aside0.mk (Kd.R_below (by repeat (first|(with_reducible exact Ht0_0.out)|(with_reducible apply Kd.R_alloc)|(with_reducible apply Kd.R_drewN)|(with_reducible apply Kd.R_drew))) hb);have nb_:=Aside0.mk (below_step (by repeat (first|(with_reducible exact HB.out)|(with_reducible apply below_alloc)|(with_reducible apply pw_below_drewN)|(with_reducible apply below_drew1))) hb);have zw_:=hb.size;(try simp only[World.size_alloc,size_drew_,size_drewN_] at zw_);have ZW7:=Aside0.mk zw_;clear zw_;clear HB Hx0_0 BXx0 Ht0_0;have HB:=nb_;have Hx0_0:=n0_;have BXx0:=n1_;have Ht0_0:=n2_;clear nb_ n0_ n1_ n2_;clear hb;clear xa0_0 xa0_1 BXx0c0 BXx0c1 hzA hzBXx0;have xa0_0:w7.cell? ⟨w.heap.size,0,none⟩=some (.slice A0_0 l0_0.length c0_0):=(blk_cell (blk_below PA0.out HB.out) 0).trans rfl;have xa0_1:w7.cell? ⟨w.heap.size,1,none⟩=some (.int .i64 a0_1):=(blk_cell (blk_below PA0.out HB.out) 1).trans rfl;have BXx0c0:w7.cell? ⟨w4.heap.size,0,none⟩=some (.slice Bx0_0 l0_0.length dx0_0):=(blk_cell BXx0.out 0).trans rfl;have BXx0c1:w7.cell? ⟨w4.heap.size,1,none⟩=some (.int .i64 a0_1):=(blk_cell BXx0.out 1).trans rfl;have hzA:w.heap.size < w7.heap.size:=Nat.lt_of_lt_of_le (blk_lt PA0.out) HB.out.size;have hzBXx0:w4.heap.size < w7.heap.size:=blk_lt BXx0.out)))
 clear Ht0_0
 go_wp2
 go_ret
 exact ⟨rfl,HA.out.trans (HB.out.mono HA.out.size)⟩
set_option maxHeartbeats 2000000 in
set_option maxRecDepth 100000 in
theorem FnExactFewestOfBest_short0 (A0_0:Option Addr) (c0_0:Nat) (l0_0:List Int) (a0_1:Int) (w:World) (hr0_0:Kd.C (Kd.int .i64) w A0_0 l0_0.length l0_0) (hc0_0:l0_0.length≤c0_0)  (u0:Int) (hU0:laws_szParty.f l0_0 a0_1 1048576=some u0) (oU0:u0 < 0) :
  Calls Try.prog 3 #[.agg #[.slice A0_0 l0_0.length c0_0, .int .i64 a0_1]] w fun e w'=>e = .returned (.bool true)∧Below w.heap.size w w':=by
 have hu24_:=Try.underlying24
 have W0_0:=Aside0.mk hr0_0
 clear hr0_0
 have XhU0:=Aside0.mk hU0
 clear hU0
 have doU0:=decide_eq_true oU0
 clear oU0
 go_enter Try.func3,Try.ntmps3
 go_wp2_with fail
 have NB:=Aside0.mk (lay1 w (.cells #[.slice A0_0 l0_0.length c0_0, .int .i64 a0_1] 24))
 generalize (w.alloc (.cells #[.slice A0_0 l0_0.length c0_0, .int .i64 a0_1] 24))=wA at *
 have PA0:=Aside0.mk NB.out.1
 have HA:=Aside0.mk NB.out.2
 clear NB
 have RA0_0:=Aside0.mk (Kd.C_below W0_0.out HA.out)
 clear W0_0
 have HB:=Aside0.mk (Below.refl wA.heap.size wA)
 go_wp2_with fail
 go_at_call 5
 refine (laws_szParty.calls _ _ l0_0 a0_1 1048576 u0 _ ?s901_hr0_0 ?s901_hc0_0 XhU0.out).mono ?_
 (case s901_hr0_0=>exact Kd.C_below RA0_0.out (by repeat (first|(with_reducible exact HB.out)|(with_reducible apply below_alloc)|(with_reducible apply pw_below_drewN)|(with_reducible apply below_drew1))))
 (case s901_hc0_0=>exact hc0_0)
 rintro e w1 ⟨rfl,hb⟩
 have nb_:=Aside0.mk (below_step (by repeat (first|(with_reducible exact HB.out)|(with_reducible apply below_alloc)|(with_reducible apply pw_below_drewN)|(with_reducible apply below_drew1))) hb)
 have zw_:=hb.size
 (try simp only[World.size_alloc,size_drew_,size_drewN_] at zw_)
 have ZW1:=Aside0.mk zw_
 clear zw_
 clear HB
 have HB:=nb_
 clear nb_
 clear hb
 have xa0_0:w1.cell? ⟨w.heap.size,0,none⟩=some (.slice A0_0 l0_0.length c0_0):=(blk_cell (blk_below PA0.out HB.out) 0).trans rfl
 have xa0_1:w1.cell? ⟨w.heap.size,1,none⟩=some (.int .i64 a0_1):=(blk_cell (blk_below PA0.out HB.out) 1).trans rfl
 have hzA:w.heap.size < w1.heap.size:=Nat.lt_of_lt_of_le (blk_lt PA0.out) HB.out.size
 go_wp2
 go_ret
 exact ⟨rfl,HA.out.trans (HB.out.mono HA.out.size)⟩
end Go.Proofs.Ytihieplobgehaaa.Walk
