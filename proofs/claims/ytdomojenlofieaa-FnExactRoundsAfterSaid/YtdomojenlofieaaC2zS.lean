import Derived.Test.YtdomojenlofieaaC2zx0
import Derived.Test.YtdomojenlofieaaC2zx1
import Derived.Test.YtdomojenlofieaaC2zx11
import Derived.Test.YtdomojenlofieaaC2zx12
import Derived.Test.YtdomojenlofieaaC2zx13
import Derived.Test.YtdomojenlofieaaC2zx5
import Derived.Test.YtdomojenlofieaaC2zx6
import Derived.Test.YtdomojenlofieaaC2zH0
import Derived.Test.YtdomojenlofieaaC2zH2
namespace Go.Proofs.Ytdomojenlofieaa.Walk
open Go.RowKit Go.Proofs.YtdomojenlofieaaW.PrintWords Go.Proofs.YtdomojenlofieaaW.PrintLast Go.Proofs.YtdomojenlofieaaW.PrintMore Go.Proofs.Ytdomojenlofieaa.C2 Go.Proofs.Ytdomojenlofieaa.H
attribute [local go_sem] max2_int min2_int max_two min_two max_three min_three max_four min_four
set_option linter.unusedVariables false
set_option linter.unusedSimpArgs false
theorem laws_heldCamp_n (k:Nat) (A0_0:Option Addr) (c0_0:Nat) (l0_0:List Bool) (a0_1:Int) (a1:Int) (r:Int) (w:World) (hr0_0:Kd.C Kd.bool w A0_0 l0_0.length l0_0) (hc0_0:l0_0.length≤c0_0) (h:laws_heldCamp.f k l0_0 a0_1 a1=some r)  (n0_0:Nat) (en0_0:n0_0=l0_0.length) :
  Calls Try.prog 19 #[.agg #[.slice A0_0 n0_0 c0_0, .int .i64 a0_1], .int .i64 a1] w fun e w'=>e = .returned (.int .i64 r)∧Below w.heap.size w w':=by
 subst en0_0
 exact laws_heldCamp.calls k A0_0 c0_0 l0_0 a0_1 a1 r w hr0_0 hc0_0 h
set_option maxHeartbeats 8000000 in
set_option maxRecDepth 100000 in
theorem FnExactRoundsAfter_walk (A0_0:Option Addr) (c0_0:Nat) (l0_0:List Int) (a0_1:Int) (a0_2:Int) (A1_0:Option Addr) (c1_0:Nat) (l1_0:List Bool) (a1_1:Int) (A2:Option Addr) (c2:Nat) (l2:List (List (List Int))) (r0_0:List Bool) (r0_1:Int) (r1:Bool) (m0:Int) (m1:Int) (m2:Int) (q1:Int) (u0:Int) (u1:Int) (u2:Int) (yg0_0:List Bool) (yx0_0:List Int) (yx1_0:List Bool) (yx2:List (List (List Int))) (k1:Nat) (k2:Nat) (k3:Nat) (k4:Nat) (k5:Nat) (k6:Nat) (k7:Nat) (k8:Nat) (k9:Nat) (k10:Nat) (k11:Nat) (k12:Nat) (k13:Nat) (k14:Nat) (w:World) (hr0_0:Kd.C (Kd.int .i64) w A0_0 l0_0.length l0_0) (hc0_0:l0_0.length≤c0_0) (hr1_0:Kd.C Kd.bool w A1_0 l1_0.length l1_0) (hc1_0:l1_0.length≤c1_0) (hr2:Kd.C (Kd.slice 22 (Kd.slice 3 (Kd.int .i64))) w A2 l2.length l2) (hc2:l2.length≤c2)  (hU0:laws_szNight.f l0_0 a0_1 a0_2 1048576=some u0) (nU0:¬ u0 < 0) (hU1:laws_szCamp.f l1_0 a1_1 u0=some u1) (nU1:¬ u1 < 0) (hU2:laws_szIntSSS.f k1 l2 u1=some u2) (nU2:¬ u2 < 0) (hT0:laws_toNight.f k2 l0_0 a0_1 a0_2=some (l0_0,a0_1,a0_2)) (hT1:laws_toCamp.f k3 l1_0 a1_1=some (l1_0,a1_1)) (hT2:laws_toIntSSS.f k4 l2=some l2) (hS:spec_RoundsAfter.f k5 l0_0 a0_1 a0_2 l1_0 a1_1 l2=some (r0_0,r0_1,r1)) (hI:impl_RoundsAfter.f k6 l0_0 a0_1 a0_2 l1_0 a1_1 l2=some (r0_0,r0_1,r1)) (hE:laws_eqCamp.f k7 r0_0 r0_1 r0_0 r0_1=some true) (hEA0:laws_eqNight.f k8 l0_0 a0_1 a0_2 l0_0 a0_1 a0_2=some true) (hEA1:laws_eqCamp.f k9 l1_0 a1_1 l1_0 a1_1=some true) (hEA2:laws_eqIntSSS.f k10 l2 l2=some true) (hM0:laws_markNight.f k11 l0_0 a0_1 a0_2 1=some (m0,yx0_0)) (hM1:laws_markCamp.f k12 l1_0 a1_1 m0=some (m1,yx1_0)) (hM2:laws_markIntSSS.f l2 m1=some (m2,yx2)) (nM:¬ m2 < 0) (hMR:laws_markCamp.f k13 r0_0 r0_1 1=some (q1,yg0_0)) (hH:laws_heldCamp.f k14 yg0_0 r0_1 1=some q1) (nQ:¬ q1 < 0) :
  Calls Try.prog 3 #[.agg #[.slice A0_0 l0_0.length c0_0, .int .i64 a0_1, .int .i64 a0_2], .agg #[.slice A1_0 l1_0.length c1_0, .int .i64 a1_1], .slice A2 l2.length c2] w fun e w'=>e = .returned (.bool true)∧Below w.heap.size w w':=by
 have hu24_:=Try.underlying24
 have hu27_:=Try.underlying27
 have hu32_:=Try.underlying32
 have hu35_:=Try.underlying35
 have W0_0:=Aside0.mk hr0_0
 have W1_0:=Aside0.mk hr1_0
 have W2:=Aside0.mk hr2
 clear hr0_0 hr1_0 hr2
 have XhU0:=Aside0.mk hU0
 clear hU0
 have dnU0:=decide_eq_false nU0
 clear nU0
 have XhU1:=Aside0.mk hU1
 clear hU1
 have dnU1:=decide_eq_false nU1
 clear nU1
 have XhU2:=Aside0.mk hU2
 clear hU2
 have dnU2:=decide_eq_false nU2
 clear nU2
 have XhT0:=Aside0.mk hT0
 clear hT0
 have XhT1:=Aside0.mk hT1
 clear hT1
 have XhT2:=Aside0.mk hT2
 clear hT2
 have XhS:=Aside0.mk hS
 clear hS
 have XhI:=Aside0.mk hI
 clear hI
 have XhE:=Aside0.mk hE
 clear hE
 have XhEA0:=Aside0.mk hEA0
 clear hEA0
 have XhEA1:=Aside0.mk hEA1
 clear hEA1
 have XhEA2:=Aside0.mk hEA2
 clear hEA2
 have XhM0:=Aside0.mk hM0
 clear hM0
 have XhM1:=Aside0.mk hM1
 clear hM1
 have XhM2:=Aside0.mk hM2
 clear hM2
 have dnM:=decide_eq_false nM
 clear nM
 have XhMR:=Aside0.mk hMR
 clear hMR
 have XhH:=Aside0.mk hH
 clear hH
 have dnQ:=decide_eq_false nQ
 clear nQ
 go_enter Try.func3,Try.ntmps3
 go_wp2_with fail
 have NB:=Aside0.mk (lay2 w (.cells #[.slice A0_0 l0_0.length c0_0, .int .i64 a0_1, .int .i64 a0_2] 24) (.cells #[.slice A1_0 l1_0.length c1_0, .int .i64 a1_1] 27))
 generalize ((w.alloc (.cells #[.slice A0_0 l0_0.length c0_0, .int .i64 a0_1, .int .i64 a0_2] 24)).alloc (.cells #[.slice A1_0 l1_0.length c1_0, .int .i64 a1_1] 27))=wA at *
 have PA0:=Aside0.mk NB.out.1
 have PA1:=Aside0.mk NB.out.2.1
 have HA:=Aside0.mk NB.out.2.2
 clear NB
 have RA0_0:=Aside0.mk (Kd.C_below W0_0.out HA.out)
 have RA1_0:=Aside0.mk (Kd.C_below W1_0.out HA.out)
 have RA2:=Aside0.mk (Kd.C_below W2.out HA.out)
 clear W0_0 W1_0 W2
 have HB:=Aside0.mk (Below.refl wA.heap.size wA)
 go_wp2_with fail
 go_at_call 5
 refine (laws_szNight.calls _ _ l0_0 a0_1 a0_2 1048576 u0 _ ?s1_hr0_0 ?s1_hc0_0 XhU0.out).mono ?_
 (case s1_hr0_0=>exact Kd.C_below RA0_0.out (by repeat (first|(with_reducible exact HB.out)|(with_reducible apply below_alloc)|(with_reducible apply pw_below_drewN)|(with_reducible apply below_drew1))))
 (case s1_hc0_0=>exact hc0_0)
 rintro e w1 ⟨rfl,hb⟩
 have nb_:=Aside0.mk (below_step (by repeat (first|(with_reducible exact HB.out)|(with_reducible apply below_alloc)|(with_reducible apply pw_below_drewN)|(with_reducible apply below_drew1))) hb)
 have zw_:=hb.size
 (try simp only[World.size_alloc,size_drew_,size_drewN_] at zw_)
 have ZW1:=Aside0.mk zw_
 clear zw_
 clear HB
 have HB:=nb_
 clear nb_
 clear hb
 have xa0_0:w1.cell? ⟨w.heap.size,0,none⟩=some (.slice A0_0 l0_0.length c0_0):=(blk_cell (blk_below PA0.out HB.out) 0).trans rfl
 have xa0_1:w1.cell? ⟨w.heap.size,1,none⟩=some (.int .i64 a0_1):=(blk_cell (blk_below PA0.out HB.out) 1).trans rfl
 have xa0_2:w1.cell? ⟨w.heap.size,2,none⟩=some (.int .i64 a0_2):=(blk_cell (blk_below PA0.out HB.out) 2).trans rfl
 have xa1_0:w1.cell? ⟨w.heap.size+1,0,none⟩=some (.slice A1_0 l1_0.length c1_0):=(blk_cell (blk_below PA1.out HB.out) 0).trans rfl
 have xa1_1:w1.cell? ⟨w.heap.size+1,1,none⟩=some (.int .i64 a1_1):=(blk_cell (blk_below PA1.out HB.out) 1).trans rfl
 have hzA:w.heap.size+1 < w1.heap.size:=Nat.lt_of_lt_of_le (blk_lt PA1.out) HB.out.size
 go_wp2_with fail
 go_at_call 6
 refine (laws_szCamp.calls _ _ l1_0 a1_1 u0 u1 _ ?s2_hr0_0 ?s2_hc0_0 XhU1.out).mono ?_
 (case s2_hr0_0=>exact Kd.C_below RA1_0.out (by repeat (first|(with_reducible exact HB.out)|(with_reducible apply below_alloc)|(with_reducible apply pw_below_drewN)|(with_reducible apply below_drew1))))
 (case s2_hc0_0=>exact hc1_0)
 rintro e w2 ⟨rfl,hb⟩
 have nb_:=Aside0.mk (below_step (by repeat (first|(with_reducible exact HB.out)|(with_reducible apply below_alloc)|(with_reducible apply pw_below_drewN)|(with_reducible apply below_drew1))) hb)
 have zw_:=hb.size
 (try simp only[World.size_alloc,size_drew_,size_drewN_] at zw_)
 have ZW2:=Aside0.mk zw_
 clear zw_
 clear HB
 have HB:=nb_
 clear nb_
 clear hb
 clear xa0_0 xa0_1 xa0_2 xa1_0 xa1_1 hzA
 have xa0_0:w2.cell? ⟨w.heap.size,0,none⟩=some (.slice A0_0 l0_0.length c0_0):=(blk_cell (blk_below PA0.out HB.out) 0).trans rfl
 have xa0_1:w2.cell? ⟨w.heap.size,1,none⟩=some (.int .i64 a0_1):=(blk_cell (blk_below PA0.out HB.out) 1).trans rfl
 have xa0_2:w2.cell? ⟨w.heap.size,2,none⟩=some (.int .i64 a0_2):=(blk_cell (blk_below PA0.out HB.out) 2).trans rfl
 have xa1_0:w2.cell? ⟨w.heap.size+1,0,none⟩=some (.slice A1_0 l1_0.length c1_0):=(blk_cell (blk_below PA1.out HB.out) 0).trans rfl
 have xa1_1:w2.cell? ⟨w.heap.size+1,1,none⟩=some (.int .i64 a1_1):=(blk_cell (blk_below PA1.out HB.out) 1).trans rfl
 have hzA:w.heap.size+1 < w2.heap.size:=Nat.lt_of_lt_of_le (blk_lt PA1.out) HB.out.size
 go_wp2_with fail
 go_at_call 7
 refine (laws_szIntSSS.calls k1 _ _ l2 u1 u2 _ ?s3_hr0 ?s3_hc0 XhU2.out).mono ?_
 (case s3_hr0=>exact Kd.C_below RA2.out (by repeat (first|(with_reducible exact HB.out)|(with_reducible apply below_alloc)|(with_reducible apply pw_below_drewN)|(with_reducible apply below_drew1))))
 (case s3_hc0=>exact hc2)
 rintro e w3 ⟨rfl,hb0⟩
 have hb:=Drawn0.below hb0
 clear hb0
 have nb_:=Aside0.mk (below_step (by repeat (first|(with_reducible exact HB.out)|(with_reducible apply below_alloc)|(with_reducible apply pw_below_drewN)|(with_reducible apply below_drew1))) hb)
 have zw_:=hb.size
 (try simp only[World.size_alloc,size_drew_,size_drewN_] at zw_)
 have ZW3:=Aside0.mk zw_
 clear zw_
 clear HB
 have HB:=nb_
 clear nb_
 clear hb
 clear xa0_0 xa0_1 xa0_2 xa1_0 xa1_1 hzA
 have xa0_0:w3.cell? ⟨w.heap.size,0,none⟩=some (.slice A0_0 l0_0.length c0_0):=(blk_cell (blk_below PA0.out HB.out) 0).trans rfl
 have xa0_1:w3.cell? ⟨w.heap.size,1,none⟩=some (.int .i64 a0_1):=(blk_cell (blk_below PA0.out HB.out) 1).trans rfl
 have xa0_2:w3.cell? ⟨w.heap.size,2,none⟩=some (.int .i64 a0_2):=(blk_cell (blk_below PA0.out HB.out) 2).trans rfl
 have xa1_0:w3.cell? ⟨w.heap.size+1,0,none⟩=some (.slice A1_0 l1_0.length c1_0):=(blk_cell (blk_below PA1.out HB.out) 0).trans rfl
 have xa1_1:w3.cell? ⟨w.heap.size+1,1,none⟩=some (.int .i64 a1_1):=(blk_cell (blk_below PA1.out HB.out) 1).trans rfl
 have hzA:w.heap.size+1 < w3.heap.size:=Nat.lt_of_lt_of_le (blk_lt PA1.out) HB.out.size
 go_upto_region 11 with (fail)
 go_cut [8,9] (fun v8 v9 wc=>∃ (Bw0_0:Option Addr) (dw0_0 sw0_0:Nat) (bw:Nat),v8 = .pointer (some ⟨bw,0,none⟩)∧v9 = .bool r1∧Aside0 (r0_0.length≤dw0_0)∧Aside0 (Kd.F Kd.bool wc (fun k_=>k_ < sw0_0) Bw0_0 r0_0.length r0_0)∧Aside0 (sw0_0≤wc.heap.size)∧Aside0 (wc.heap[bw]? = some (.cells #[.slice Bw0_0 r0_0.length dw0_0, .int .i64 r0_1] 32))∧Aside0 (Below wA.heap.size wA wc))
 case first =>
  have HS:=Aside0.mk (Below.refl w3.heap.size w3)
  go_wp2_with fail
  go_region_held3 (fun w'=>w'.cell? ⟨w.heap.size,0,none⟩=some (.slice A0_0 l0_0.length c0_0)∧w'.cell? ⟨w.heap.size,1,none⟩=some (.int .i64 a0_1)∧w'.cell? ⟨w.heap.size,2,none⟩=some (.int .i64 a0_2)∧w'.cell? ⟨w.heap.size+1,0,none⟩=some (.slice A1_0 l1_0.length c1_0)∧w'.cell? ⟨w.heap.size+1,1,none⟩=some (.int .i64 a1_1)) (first|(exact ⟨(blk_cell (blk_below PA0.out (by repeat (first|(with_reducible exact HB.out)|(with_reducible apply below_alloc)|(with_reducible apply pw_below_drewN)|(with_reducible apply below_drew1)|(with_reducible refine below_set ?_ GB.out)|(with_reducible refine below_set ?_ HB.out.size)))) 0).trans rfl,(blk_cell (blk_below PA0.out (by repeat (first|(with_reducible exact HB.out)|(with_reducible apply below_alloc)|(with_reducible apply pw_below_drewN)|(with_reducible apply below_drew1)|(with_reducible refine below_set ?_ GB.out)|(with_reducible refine below_set ?_ HB.out.size)))) 1).trans rfl,(blk_cell (blk_below PA0.out (by repeat (first|(with_reducible exact HB.out)|(with_reducible apply below_alloc)|(with_reducible apply pw_below_drewN)|(with_reducible apply below_drew1)|(with_reducible refine below_set ?_ GB.out)|(with_reducible refine below_set ?_ HB.out.size)))) 2).trans rfl,(blk_cell (blk_below PA1.out (by repeat (first|(with_reducible exact HB.out)|(with_reducible apply below_alloc)|(with_reducible apply pw_below_drewN)|(with_reducible apply below_drew1)|(with_reducible refine below_set ?_ GB.out)|(with_reducible refine below_set ?_ HB.out.size)))) 0).trans rfl,(blk_cell (blk_below PA1.out (by repeat (first|(with_reducible exact HB.out)|(with_reducible apply below_alloc)|(with_reducible apply pw_below_drewN)|(with_reducible apply below_drew1)|(with_reducible refine below_set ?_ GB.out)|(with_reducible refine below_set ?_ HB.out.size)))) 1).trans rfl⟩)|go_keep)
   (first|((go_at_call 9;refine (laws_toNight.calls k2 _ _ l0_0 a0_1 a0_2 l0_0 a0_1 a0_2 _ ?s4_hr0_0 ?s4_hc0_0 XhT0.out).mono ?_;(case s4_hr0_0=>exact Kd.C_below RA0_0.out (by repeat (first|(with_reducible exact HB.out)|(with_reducible apply below_alloc)|(with_reducible apply pw_below_drewN)|(with_reducible apply below_drew1))));(case s4_hc0_0=>exact hc0_0);rintro e w4 ⟨vt0_0,rfl,ht0_0,hb⟩;obtain ⟨Bt0_0,dt0_0,et0_0⟩:=Kd.R_slice ht0_0;subst et0_0;have nb_:=Aside0.mk (below_step (by repeat (first|(with_reducible exact HB.out)|(with_reducible apply below_alloc)|(with_reducible apply pw_below_drewN)|(with_reducible apply below_drew1))) hb);have zw_:=hb.size;(try simp only[World.size_alloc,size_drew_,size_drewN_] at zw_);have ZW4:=Aside0.mk zw_;clear zw_;have ns_:=Aside0.mk (below_step (by repeat (first|(with_reducible exact HS.out)|(with_reducible apply below_alloc)|(with_reducible apply pw_below_drewN)|(with_reducible apply below_drew1))) hb);have gs_:=Aside0.mk HS.out.size;clear HS;have HS:=ns_;clear ns_;(first|(have bz_:=Aside0.mk (blk_below BZ.out hb);clear BZ;have BZ:=bz_;clear bz_)|(have gb_:=Aside0.mk HB.out.size;with_reducible (first|(have BZ:=Aside0.mk (blk_below (blk_new _ _) hb))|(have BZ:=Aside0.mk (blk_below (blk_drewN (blk_new _ _) _) hb))|(have BZ:=Aside0.mk (blk_below (blk_drew (blk_new _ _)) hb))|(have BZ:=Aside0.mk (blk_below (blk_drew (blk_drew (blk_new _ _))) hb)));have GB:=gb_;have GS:=gs_;clear gb_)|skip);clear gs_;clear HB;have HB:=nb_;clear nb_;have Ht0_0:=Aside0.mk ht0_0;clear ht0_0;clear hb;have xa0_0:w4.cell? ⟨w.heap.size,0,none⟩=some (.slice A0_0 l0_0.length c0_0):=(blk_cell (blk_below PA0.out HB.out) 0).trans rfl;have xa0_1:w4.cell? ⟨w.heap.size,1,none⟩=some (.int .i64 a0_1):=(blk_cell (blk_below PA0.out HB.out) 1).trans rfl;have xa0_2:w4.cell? ⟨w.heap.size,2,none⟩=some (.int .i64 a0_2):=(blk_cell (blk_below PA0.out HB.out) 2).trans rfl;have xa1_0:w4.cell? ⟨w.heap.size+1,0,none⟩=some (.slice A1_0 l1_0.length c1_0):=(blk_cell (blk_below PA1.out HB.out) 0).trans rfl;have xa1_1:w4.cell? ⟨w.heap.size+1,1,none⟩=some (.int .i64 a1_1):=(blk_cell (blk_below PA1.out HB.out) 1).trans rfl;have hzA:w.heap.size+1 < w4.heap.size:=Nat.lt_of_lt_of_le (blk_lt PA1.out) HB.out.size))|((go_at_call 10;refine (laws_toCamp.calls k3 _ _ l1_0 a1_1 l1_0 a1_1 _ ?s5_hr0_0 ?s5_hc0_0 XhT1.out).mono ?_;(case s5_hr0_0=>exact Kd.C_below RA1_0.out (by repeat (first|(with_reducible exact HB.out)|(with_reducible apply below_alloc)|(with_reducible apply pw_below_drewN)|(with_reducible apply below_drew1))));(case s5_hc0_0=>exact hc1_0);rintro e w5 ⟨vt1_0,rfl,ht1_0,hb⟩;obtain ⟨Bt1_0,dt1_0,et1_0⟩:=Kd.R_slice ht1_0;subst et1_0;have n0_:=Aside0.mk (Kd.R_below (by repeat (first|(with_reducible exact Ht0_0.out)|(with_reducible apply Kd.R_alloc)|(with_reducible apply Kd.R_drewN)|(with_reducible apply Kd.R_drew))) hb);have nb_:=Aside0.mk (below_step (by repeat (first|(with_reducible exact HB.out)|(with_reducible apply below_alloc)|(with_reducible apply pw_below_drewN)|(with_reducible apply below_drew1))) hb);have zw_:=hb.size;(try simp only[World.size_alloc,size_drew_,size_drewN_] at zw_);have ZW5:=Aside0.mk zw_;clear zw_;have ns_:=Aside0.mk (below_step (by repeat (first|(with_reducible exact HS.out)|(with_reducible apply below_alloc)|(with_reducible apply pw_below_drewN)|(with_reducible apply below_drew1))) hb);have gs_:=Aside0.mk HS.out.size;clear HS;have HS:=ns_;clear ns_;(first|(have bz_:=Aside0.mk (blk_below BZ.out hb);clear BZ;have BZ:=bz_;clear bz_)|(have gb_:=Aside0.mk HB.out.size;with_reducible (first|(have BZ:=Aside0.mk (blk_below (blk_new _ _) hb))|(have BZ:=Aside0.mk (blk_below (blk_drewN (blk_new _ _) _) hb))|(have BZ:=Aside0.mk (blk_below (blk_drew (blk_new _ _)) hb))|(have BZ:=Aside0.mk (blk_below (blk_drew (blk_drew (blk_new _ _))) hb)));have GB:=gb_;have GS:=gs_;clear gb_)|skip);clear gs_;clear HB Ht0_0;have HB:=nb_;have Ht0_0:=n0_;clear nb_ n0_;have Ht1_0:=Aside0.mk ht1_0;clear ht1_0;clear hb;have xa0_0:w5.cell? ⟨w.heap.size,0,none⟩=some (.slice A0_0 l0_0.length c0_0):=(blk_cell (blk_below PA0.out HB.out) 0).trans rfl;have xa0_1:w5.cell? ⟨w.heap.size,1,none⟩=some (.int .i64 a0_1):=(blk_cell (blk_below PA0.out HB.out) 1).trans rfl;have xa0_2:w5.cell? ⟨w.heap.size,2,none⟩=some (.int .i64 a0_2):=(blk_cell (blk_below PA0.out HB.out) 2).trans rfl;have xa1_0:w5.cell? ⟨w.heap.size+1,0,none⟩=some (.slice A1_0 l1_0.length c1_0):=(blk_cell (blk_below PA1.out HB.out) 0).trans rfl;have xa1_1:w5.cell? ⟨w.heap.size+1,1,none⟩=some (.int .i64 a1_1):=(blk_cell (blk_below PA1.out HB.out) 1).trans rfl;have hzA:w.heap.size+1 < w5.heap.size:=Nat.lt_of_lt_of_le (blk_lt PA1.out) HB.out.size))|((go_at_call 11;refine (laws_toIntSSS.calls k4 _ _ l2 l2 _ ?s6_hr0 ?s6_hc0 XhT2.out).mono ?_;(case s6_hr0=>exact Kd.C_below RA2.out (by repeat (first|(with_reducible exact HB.out)|(with_reducible apply below_alloc)|(with_reducible apply pw_below_drewN)|(with_reducible apply below_drew1))));(case s6_hc0=>exact hc2);rintro e w6 ⟨vt2,rfl,ht2,hb⟩;obtain ⟨Bt2,dt2,et2⟩:=Kd.S_slice ht2;subst et2;have n0_:=Aside0.mk (Kd.R_below (by repeat (first|(with_reducible exact Ht0_0.out)|(with_reducible apply Kd.R_alloc)|(with_reducible apply Kd.R_drewN)|(with_reducible apply Kd.R_drew))) hb);have n1_:=Aside0.mk (Kd.R_below (by repeat (first|(with_reducible exact Ht1_0.out)|(with_reducible apply Kd.R_alloc)|(with_reducible apply Kd.R_drewN)|(with_reducible apply Kd.R_drew))) hb);have nb_:=Aside0.mk (below_step (by repeat (first|(with_reducible exact HB.out)|(with_reducible apply below_alloc)|(with_reducible apply pw_below_drewN)|(with_reducible apply below_drew1))) hb);have zw_:=hb.size;(try simp only[World.size_alloc,size_drew_,size_drewN_] at zw_);have ZW6:=Aside0.mk zw_;clear zw_;have ns_:=Aside0.mk (below_step (by repeat (first|(with_reducible exact HS.out)|(with_reducible apply below_alloc)|(with_reducible apply pw_below_drewN)|(with_reducible apply below_drew1))) hb);have gs_:=Aside0.mk HS.out.size;clear HS;have HS:=ns_;clear ns_;(first|(have bz_:=Aside0.mk (blk_below BZ.out hb);clear BZ;have BZ:=bz_;clear bz_)|(have gb_:=Aside0.mk HB.out.size;with_reducible (first|(have BZ:=Aside0.mk (blk_below (blk_new _ _) hb))|(have BZ:=Aside0.mk (blk_below (blk_drewN (blk_new _ _) _) hb))|(have BZ:=Aside0.mk (blk_below (blk_drew (blk_new _ _)) hb))|(have BZ:=Aside0.mk (blk_below (blk_drew (blk_drew (blk_new _ _))) hb)));have GB:=gb_;have GS:=gs_;clear gb_)|skip);clear gs_;clear HB Ht0_0 Ht1_0;have HB:=nb_;have Ht0_0:=n0_;have Ht1_0:=n1_;clear nb_ n0_ n1_;have Ht2:=Aside0.mk ht2;clear ht2;clear hb;have xa0_0:w6.cell? ⟨w.heap.size,0,none⟩=some (.slice A0_0 l0_0.length c0_0):=(blk_cell (blk_below PA0.out HB.out) 0).trans rfl;have xa0_1:w6.cell? ⟨w.heap.size,1,none⟩=some (.int .i64 a0_1):=(blk_cell (blk_below PA0.out HB.out) 1).trans rfl;have xa0_2:w6.cell? ⟨w.heap.size,2,none⟩=some (.int .i64 a0_2):=(blk_cell (blk_below PA0.out HB.out) 2).trans rfl;have xa1_0:w6.cell? ⟨w.heap.size+1,0,none⟩=some (.slice A1_0 l1_0.length c1_0):=(blk_cell (blk_below PA1.out HB.out) 0).trans rfl;have xa1_1:w6.cell? ⟨w.heap.size+1,1,none⟩=some (.int .i64 a1_1):=(blk_cell (blk_below PA1.out HB.out) 1).trans rfl;have hzA:w.heap.size+1 < w6.heap.size:=Nat.lt_of_lt_of_le (blk_lt PA1.out) HB.out.size))|((go_at_call 8;refine (spec_RoundsAfter.calls k5 _ _ l0_0 a0_1 a0_2 _ _ l1_0 a1_1 _ _ l2 r0_0 r0_1 r1 _ ?s7_hr0_0 ?s7_hc0_0 ?s7_hr1_0 ?s7_hc1_0 ?s7_hr2 ?s7_hc2 XhS.out).mono ?_;(case s7_hr0_0=>exact (Kd.R_reads' (by repeat (first|(with_reducible exact Ht0_0.out)|(with_reducible apply Kd.R_alloc)|(with_reducible apply Kd.R_drewN)|(with_reducible apply Kd.R_drew)))).2.2);(case s7_hc0_0=>exact (Kd.R_reads' Ht0_0.out).2.1);(case s7_hr1_0=>exact (Kd.R_reads' (by repeat (first|(with_reducible exact Ht1_0.out)|(with_reducible apply Kd.R_alloc)|(with_reducible apply Kd.R_drewN)|(with_reducible apply Kd.R_drew)))).2.2);(case s7_hc1_0=>exact (Kd.R_reads' Ht1_0.out).2.1);(case s7_hr2=>exact (Kd.S_reads' (d:=(Kd.sliceS 22 (Kd.slice 3 (Kd.int .i64)))) (by repeat (first|(with_reducible exact Ht2.out)|(with_reducible apply Kd.S_alloc)|(with_reducible apply Kd.S_drewN)|(with_reducible apply Kd.S_drew)))).2.2);(case s7_hc2=>exact (Kd.S_reads' Ht2.out).2.1);rintro e w7 ⟨vw0_0,rfl,hw0_0,hb⟩;obtain ⟨Bw0_0,dw0_0,ew0_0⟩:=Kd.R_slice hw0_0;subst ew0_0;have n0_:=Aside0.mk (Kd.R_below (by repeat (first|(with_reducible exact Ht0_0.out)|(with_reducible apply Kd.R_alloc)|(with_reducible apply Kd.R_drewN)|(with_reducible apply Kd.R_drew))) hb);have n1_:=Aside0.mk (Kd.R_below (by repeat (first|(with_reducible exact Ht1_0.out)|(with_reducible apply Kd.R_alloc)|(with_reducible apply Kd.R_drewN)|(with_reducible apply Kd.R_drew))) hb);have n2_:=Aside0.mk (Kd.S_below (by repeat (first|(with_reducible exact Ht2.out)|(with_reducible apply Kd.S_alloc)|(with_reducible apply Kd.S_drewN)|(with_reducible apply Kd.S_drew))) hb);have nb_:=Aside0.mk (below_step (by repeat (first|(with_reducible exact HB.out)|(with_reducible apply below_alloc)|(with_reducible apply pw_below_drewN)|(with_reducible apply below_drew1))) hb);have zw_:=hb.size;(try simp only[World.size_alloc,size_drew_,size_drewN_] at zw_);have ZW7:=Aside0.mk zw_;clear zw_;have ns_:=Aside0.mk (below_step (by repeat (first|(with_reducible exact HS.out)|(with_reducible apply below_alloc)|(with_reducible apply pw_below_drewN)|(with_reducible apply below_drew1))) hb);have gs_:=Aside0.mk HS.out.size;clear HS;have HS:=ns_;clear ns_;(first|(have bz_:=Aside0.mk (blk_below BZ.out hb);clear BZ;have BZ:=bz_;clear bz_)|(have gb_:=Aside0.mk HB.out.size;with_reducible (first|(have BZ:=Aside0.mk (blk_below (blk_new _ _) hb))|(have BZ:=Aside0.mk (blk_below (blk_drewN (blk_new _ _) _) hb))|(have BZ:=Aside0.mk (blk_below (blk_drew (blk_new _ _)) hb))|(have BZ:=Aside0.mk (blk_below (blk_drew (blk_drew (blk_new _ _))) hb)));have GB:=gb_;have GS:=gs_;clear gb_)|skip);clear gs_;clear HB Ht0_0 Ht1_0 Ht2;have HB:=nb_;have Ht0_0:=n0_;have Ht1_0:=n1_;have Ht2:=n2_;clear nb_ n0_ n1_ n2_;have Hw0_0:=Aside0.mk hw0_0;clear hw0_0;clear hb;have xa0_0:w7.cell? ⟨w.heap.size,0,none⟩=some (.slice A0_0 l0_0.length c0_0):=(blk_cell (blk_below PA0.out HB.out) 0).trans rfl;have xa0_1:w7.cell? ⟨w.heap.size,1,none⟩=some (.int .i64 a0_1):=(blk_cell (blk_below PA0.out HB.out) 1).trans rfl;have xa0_2:w7.cell? ⟨w.heap.size,2,none⟩=some (.int .i64 a0_2):=(blk_cell (blk_below PA0.out HB.out) 2).trans rfl;have xa1_0:w7.cell? ⟨w.heap.size+1,0,none⟩=some (.slice A1_0 l1_0.length c1_0):=(blk_cell (blk_below PA1.out HB.out) 0).trans rfl;have xa1_1:w7.cell? ⟨w.heap.size+1,1,none⟩=some (.int .i64 a1_1):=(blk_cell (blk_below PA1.out HB.out) 1).trans rfl;have hzA:w.heap.size+1 < w7.heap.size:=Nat.lt_of_lt_of_le (blk_lt PA1.out) HB.out.size))|((revert BZ;intro BZ;obtain ⟨c0_,f0_,c1_,f1_⟩:=put2 BZ.out ((.slice Bw0_0 r0_0.length dw0_0)) ((.int .i64 r0_1));simp only[c0_,f0_,c1_,f1_,Bool.false_eq_true,if_false,Result.andThen];clear c0_ f0_ c1_ f1_))|((obtain ⟨c0_,f0_,c1_,f1_⟩:=put2 (blk_new w7 (.cells #[.slice none 0 0, .int .i64 0] 32 (0,0))) ((.slice Bw0_0 r0_0.length dw0_0)) ((.int .i64 r0_1));simp only[c0_,f0_,c1_,f1_,Bool.false_eq_true,if_false,Result.andThen];clear c0_ f0_ c1_ f1_)))
  all_goals (go_wp2_with fail;go_meet)
  all_goals (have hws_:=trivial;have HWS_:=hws_;clear hws_;exact ⟨_,_,_,_,rfl,rfl,⟨(Kd.R_reads' Hw0_0.out).2.1⟩,⟨Kd.F_mono (Kd.F_bound (Kd.R_F (by (first|exact Kd.R_set (Kd.R_set Hw0_0.out BZ.out (by decide) _ _) (blk_put BZ.out 0 _ rfl) (by decide) _ _|exact Kd.R_set (Kd.R_set (Kd.R_alloc Hw0_0.out _) (blk_new _ _) (by decide) _ _) (blk_put (blk_new _ _) 0 _ rfl) (by decide) _ _|exact Kd.R_alloc Hw0_0.out _)))) (fun k hk=>hk.2)⟩,⟨Nat.le_refl _⟩,⟨by first|exact put2_blk BZ.out _ _|exact put2_blk (blk_new _ _) _ _|exact blk_new _ _⟩,⟨(by repeat (first|(with_reducible exact HB.out)|(with_reducible apply below_alloc)|(with_reducible apply pw_below_drewN)|(with_reducible apply below_drew1)|(with_reducible refine below_set ?_ GB.out)|(with_reducible refine below_set ?_ HB.out.size)))⟩⟩)
 case rest =>
  clear HB
  obtain ⟨Bw0_0,dw0_0,sw0_0,bw,rfl,rfl,LEw0_0,Hw0_0,ZSw0_0,BXw,HB⟩:=hcut
  have ZBw:=Aside0.mk (blk_lt BXw.out)
  clear xa0_0 xa0_1 xa0_2 xa1_0 xa1_1 hzA
  have xa0_0:wc.cell? ⟨w.heap.size,0,none⟩=some (.slice A0_0 l0_0.length c0_0):=(blk_cell (blk_below PA0.out HB.out) 0).trans rfl
  have xa0_1:wc.cell? ⟨w.heap.size,1,none⟩=some (.int .i64 a0_1):=(blk_cell (blk_below PA0.out HB.out) 1).trans rfl
  have xa0_2:wc.cell? ⟨w.heap.size,2,none⟩=some (.int .i64 a0_2):=(blk_cell (blk_below PA0.out HB.out) 2).trans rfl
  have xa1_0:wc.cell? ⟨w.heap.size+1,0,none⟩=some (.slice A1_0 l1_0.length c1_0):=(blk_cell (blk_below PA1.out HB.out) 0).trans rfl
  have xa1_1:wc.cell? ⟨w.heap.size+1,1,none⟩=some (.int .i64 a1_1):=(blk_cell (blk_below PA1.out HB.out) 1).trans rfl
  have BXwc0:wc.cell? ⟨bw,0,none⟩=some (.slice Bw0_0 r0_0.length dw0_0):=(blk_cell BXw.out 0).trans rfl
  have BXwc1:wc.cell? ⟨bw,1,none⟩=some (.int .i64 r0_1):=(blk_cell BXw.out 1).trans rfl
  have hzA:w.heap.size+1 < wc.heap.size:=Nat.lt_of_lt_of_le (blk_lt PA1.out) HB.out.size
  have hzBXw:bw < wc.heap.size:=blk_lt BXw.out
  go_wp2_with fail
  go_at_call 9
  refine (laws_toNight.calls k2 _ _ l0_0 a0_1 a0_2 l0_0 a0_1 a0_2 _ ?s8_hr0_0 ?s8_hc0_0 XhT0.out).mono ?_
  (case s8_hr0_0=>exact Kd.C_below RA0_0.out (by repeat (first|(with_reducible exact HB.out)|(with_reducible apply below_alloc)|(with_reducible apply pw_below_drewN)|(with_reducible apply below_drew1))))
  (case s8_hc0_0=>exact hc0_0)
  rintro e w8 ⟨vx0_0,rfl,hx0_0,hb⟩
  obtain ⟨lox0_0,hix0_0,elx0_0,ehx0_0,zlx0_0,zhx0_0,hx_⟩:=R_span hx0_0 hb (by repeat (first|(with_reducible exact HB.out)|(with_reducible apply below_alloc)|(with_reducible apply pw_below_drewN)|(with_reducible apply below_drew1)))
  clear hx0_0
  have hx0_0:=hx_
  clear hx_
  (try simp only[World.size_alloc,size_drew_,size_drewN_] at elx0_0)
  have Zx0_0:=Aside0.mk (And.intro elx0_0 (And.intro ehx0_0 (And.intro zlx0_0 zhx0_0)))
  clear elx0_0 ehx0_0 zlx0_0 zhx0_0
  obtain ⟨Bx0_0,dx0_0,ex0_0⟩:=Kd.R_slice hx0_0
  subst ex0_0
  have n0_:=Aside0.mk (Kd.F_below (by repeat (first|(with_reducible exact Hw0_0.out)|(with_reducible apply Kd.F_alloc)|(with_reducible apply Kd.F_drewN)|(with_reducible apply Kd.F_drew))) hb)
  have n1_:=Aside0.mk (blk_below (g:=bw) (o := .cells #[.slice Bw0_0 r0_0.length dw0_0, .int .i64 r0_1] 32) (by repeat (first|(with_reducible exact BXw.out)|(with_reducible refine blk_drewN ?_ _)|(with_reducible refine blk_drew ?_)|(with_reducible refine blk_alloc ?_ _))) hb)
  have nb_:=Aside0.mk (below_step (by repeat (first|(with_reducible exact HB.out)|(with_reducible apply below_alloc)|(with_reducible apply pw_below_drewN)|(with_reducible apply below_drew1))) hb)
  have zw_:=hb.size
  (try simp only[World.size_alloc,size_drew_,size_drewN_] at zw_)
  have ZW8:=Aside0.mk zw_
  clear zw_
  clear HB Hw0_0 BXw
  have HB:=nb_
  have Hw0_0:=n0_
  have BXw:=n1_
  clear nb_ n0_ n1_
  have Hx0_0:=Aside0.mk hx0_0
  clear hx0_0
  clear hb
  clear xa0_0 xa0_1 xa0_2 xa1_0 xa1_1 BXwc0 BXwc1 hzA hzBXw
  have xa0_0:w8.cell? ⟨w.heap.size,0,none⟩=some (.slice A0_0 l0_0.length c0_0):=(blk_cell (blk_below PA0.out HB.out) 0).trans rfl
  have xa0_1:w8.cell? ⟨w.heap.size,1,none⟩=some (.int .i64 a0_1):=(blk_cell (blk_below PA0.out HB.out) 1).trans rfl
  have xa0_2:w8.cell? ⟨w.heap.size,2,none⟩=some (.int .i64 a0_2):=(blk_cell (blk_below PA0.out HB.out) 2).trans rfl
  have xa1_0:w8.cell? ⟨w.heap.size+1,0,none⟩=some (.slice A1_0 l1_0.length c1_0):=(blk_cell (blk_below PA1.out HB.out) 0).trans rfl
  have xa1_1:w8.cell? ⟨w.heap.size+1,1,none⟩=some (.int .i64 a1_1):=(blk_cell (blk_below PA1.out HB.out) 1).trans rfl
  have BXwc0:w8.cell? ⟨bw,0,none⟩=some (.slice Bw0_0 r0_0.length dw0_0):=(blk_cell BXw.out 0).trans rfl
  have BXwc1:w8.cell? ⟨bw,1,none⟩=some (.int .i64 r0_1):=(blk_cell BXw.out 1).trans rfl
  have hzA:w.heap.size+1 < w8.heap.size:=Nat.lt_of_lt_of_le (blk_lt PA1.out) HB.out.size
  have hzBXw:bw < w8.heap.size:=blk_lt BXw.out
  have BXx0:=Aside0.mk (heap_alloc_new w8 (.cells #[.slice Bx0_0 l0_0.length dx0_0, .int .i64 a0_1, .int .i64 a0_2] 35))
  go_wp2_with fail
  go_at_call 10
  refine (laws_toCamp.calls k3 _ _ l1_0 a1_1 l1_0 a1_1 _ ?s9_hr0_0 ?s9_hc0_0 XhT1.out).mono ?_
  (case s9_hr0_0=>exact Kd.C_below RA1_0.out (by repeat (first|(with_reducible exact HB.out)|(with_reducible apply below_alloc)|(with_reducible apply pw_below_drewN)|(with_reducible apply below_drew1))))
  (case s9_hc0_0=>exact hc1_0)
  rintro e w9 ⟨vx1_0,rfl,hx1_0,hb⟩
  obtain ⟨lox1_0,hix1_0,elx1_0,ehx1_0,zlx1_0,zhx1_0,hx_⟩:=R_span hx1_0 hb (by repeat (first|(with_reducible exact HB.out)|(with_reducible apply below_alloc)|(with_reducible apply pw_below_drewN)|(with_reducible apply below_drew1)))
  clear hx1_0
  have hx1_0:=hx_
  clear hx_
  (try simp only[World.size_alloc,size_drew_,size_drewN_] at elx1_0)
  have Zx1_0:=Aside0.mk (And.intro elx1_0 (And.intro ehx1_0 (And.intro zlx1_0 zhx1_0)))
  clear elx1_0 ehx1_0 zlx1_0 zhx1_0
  obtain ⟨Bx1_0,dx1_0,ex1_0⟩:=Kd.R_slice hx1_0
  subst ex1_0
  have n0_:=Aside0.mk (Kd.F_below (by repeat (first|(with_reducible exact Hw0_0.out)|(with_reducible apply Kd.F_alloc)|(with_reducible apply Kd.F_drewN)|(with_reducible apply Kd.F_drew))) hb)
  have n1_:=Aside0.mk (blk_below (g:=bw) (o := .cells #[.slice Bw0_0 r0_0.length dw0_0, .int .i64 r0_1] 32) (by repeat (first|(with_reducible exact BXw.out)|(with_reducible refine blk_drewN ?_ _)|(with_reducible refine blk_drew ?_)|(with_reducible refine blk_alloc ?_ _))) hb)
  have n2_:=Aside0.mk (Kd.R_below (by repeat (first|(with_reducible exact Hx0_0.out)|(with_reducible apply Kd.R_alloc)|(with_reducible apply Kd.R_drewN)|(with_reducible apply Kd.R_drew))) hb)
  have n3_:=Aside0.mk (blk_below (g:=w8.heap.size) (o := .cells #[.slice Bx0_0 l0_0.length dx0_0, .int .i64 a0_1, .int .i64 a0_2] 35) (by repeat (first|(with_reducible exact BXx0.out)|(with_reducible refine blk_drewN ?_ _)|(with_reducible refine blk_drew ?_)|(with_reducible refine blk_alloc ?_ _))) hb)
  have nb_:=Aside0.mk (below_step (by repeat (first|(with_reducible exact HB.out)|(with_reducible apply below_alloc)|(with_reducible apply pw_below_drewN)|(with_reducible apply below_drew1))) hb)
  have zw_:=hb.size
  (try simp only[World.size_alloc,size_drew_,size_drewN_] at zw_)
  have ZW9:=Aside0.mk zw_
  clear zw_
  clear HB Hw0_0 BXw Hx0_0 BXx0
  have HB:=nb_
  have Hw0_0:=n0_
  have BXw:=n1_
  have Hx0_0:=n2_
  have BXx0:=n3_
  clear nb_ n0_ n1_ n2_ n3_
  have Hx1_0:=Aside0.mk hx1_0
  clear hx1_0
  clear hb
  clear xa0_0 xa0_1 xa0_2 xa1_0 xa1_1 BXwc0 BXwc1 hzA hzBXw
  have xa0_0:w9.cell? ⟨w.heap.size,0,none⟩=some (.slice A0_0 l0_0.length c0_0):=(blk_cell (blk_below PA0.out HB.out) 0).trans rfl
  have xa0_1:w9.cell? ⟨w.heap.size,1,none⟩=some (.int .i64 a0_1):=(blk_cell (blk_below PA0.out HB.out) 1).trans rfl
  have xa0_2:w9.cell? ⟨w.heap.size,2,none⟩=some (.int .i64 a0_2):=(blk_cell (blk_below PA0.out HB.out) 2).trans rfl
  have xa1_0:w9.cell? ⟨w.heap.size+1,0,none⟩=some (.slice A1_0 l1_0.length c1_0):=(blk_cell (blk_below PA1.out HB.out) 0).trans rfl
  have xa1_1:w9.cell? ⟨w.heap.size+1,1,none⟩=some (.int .i64 a1_1):=(blk_cell (blk_below PA1.out HB.out) 1).trans rfl
  have BXwc0:w9.cell? ⟨bw,0,none⟩=some (.slice Bw0_0 r0_0.length dw0_0):=(blk_cell BXw.out 0).trans rfl
  have BXwc1:w9.cell? ⟨bw,1,none⟩=some (.int .i64 r0_1):=(blk_cell BXw.out 1).trans rfl
  have BXx0c0:w9.cell? ⟨w8.heap.size,0,none⟩=some (.slice Bx0_0 l0_0.length dx0_0):=(blk_cell BXx0.out 0).trans rfl
  have BXx0c1:w9.cell? ⟨w8.heap.size,1,none⟩=some (.int .i64 a0_1):=(blk_cell BXx0.out 1).trans rfl
  have BXx0c2:w9.cell? ⟨w8.heap.size,2,none⟩=some (.int .i64 a0_2):=(blk_cell BXx0.out 2).trans rfl
  have hzA:w.heap.size+1 < w9.heap.size:=Nat.lt_of_lt_of_le (blk_lt PA1.out) HB.out.size
  have hzBXw:bw < w9.heap.size:=blk_lt BXw.out
  have hzBXx0:w8.heap.size < w9.heap.size:=blk_lt BXx0.out
  have BXx1:=Aside0.mk (heap_alloc_new w9 (.cells #[.slice Bx1_0 l1_0.length dx1_0, .int .i64 a1_1] 32))
  go_wp2_with fail
  go_at_call 11
  refine (laws_toIntSSS.calls k4 _ _ l2 l2 _ ?s10_hr0 ?s10_hc0 XhT2.out).mono ?_
  (case s10_hr0=>exact Kd.C_below RA2.out (by repeat (first|(with_reducible exact HB.out)|(with_reducible apply below_alloc)|(with_reducible apply pw_below_drewN)|(with_reducible apply below_drew1))))
  (case s10_hc0=>exact hc2)
  rintro e w10 ⟨vx2,rfl,hx2,hb⟩
  obtain ⟨lox2,hix2,elx2,ehx2,zlx2,zhx2,hx_⟩:=S_span hx2 hb (by repeat (first|(with_reducible exact HB.out)|(with_reducible apply below_alloc)|(with_reducible apply pw_below_drewN)|(with_reducible apply below_drew1)))
  clear hx2
  have hx2:=hx_
  clear hx_
  (try simp only[World.size_alloc,size_drew_,size_drewN_] at elx2)
  have Zx2:=Aside0.mk (And.intro elx2 (And.intro ehx2 (And.intro zlx2 zhx2)))
  clear elx2 ehx2 zlx2 zhx2
  obtain ⟨Bx2,dx2,ex2⟩:=Kd.S_slice hx2
  subst ex2
  have n0_:=Aside0.mk (Kd.F_below (by repeat (first|(with_reducible exact Hw0_0.out)|(with_reducible apply Kd.F_alloc)|(with_reducible apply Kd.F_drewN)|(with_reducible apply Kd.F_drew))) hb)
  have n1_:=Aside0.mk (blk_below (g:=bw) (o := .cells #[.slice Bw0_0 r0_0.length dw0_0, .int .i64 r0_1] 32) (by repeat (first|(with_reducible exact BXw.out)|(with_reducible refine blk_drewN ?_ _)|(with_reducible refine blk_drew ?_)|(with_reducible refine blk_alloc ?_ _))) hb)
  have n2_:=Aside0.mk (Kd.R_below (by repeat (first|(with_reducible exact Hx0_0.out)|(with_reducible apply Kd.R_alloc)|(with_reducible apply Kd.R_drewN)|(with_reducible apply Kd.R_drew))) hb)
  have n3_:=Aside0.mk (blk_below (g:=w8.heap.size) (o := .cells #[.slice Bx0_0 l0_0.length dx0_0, .int .i64 a0_1, .int .i64 a0_2] 35) (by repeat (first|(with_reducible exact BXx0.out)|(with_reducible refine blk_drewN ?_ _)|(with_reducible refine blk_drew ?_)|(with_reducible refine blk_alloc ?_ _))) hb)
  have n4_:=Aside0.mk (Kd.R_below (by repeat (first|(with_reducible exact Hx1_0.out)|(with_reducible apply Kd.R_alloc)|(with_reducible apply Kd.R_drewN)|(with_reducible apply Kd.R_drew))) hb)
  have n5_:=Aside0.mk (blk_below (g:=w9.heap.size) (o := .cells #[.slice Bx1_0 l1_0.length dx1_0, .int .i64 a1_1] 32) (by repeat (first|(with_reducible exact BXx1.out)|(with_reducible refine blk_drewN ?_ _)|(with_reducible refine blk_drew ?_)|(with_reducible refine blk_alloc ?_ _))) hb)
  have nb_:=Aside0.mk (below_step (by repeat (first|(with_reducible exact HB.out)|(with_reducible apply below_alloc)|(with_reducible apply pw_below_drewN)|(with_reducible apply below_drew1))) hb)
  have zw_:=hb.size
  (try simp only[World.size_alloc,size_drew_,size_drewN_] at zw_)
  have ZW10:=Aside0.mk zw_
  clear zw_
  clear HB Hw0_0 BXw Hx0_0 BXx0 Hx1_0 BXx1
  have HB:=nb_
  have Hw0_0:=n0_
  have BXw:=n1_
  have Hx0_0:=n2_
  have BXx0:=n3_
  have Hx1_0:=n4_
  have BXx1:=n5_
  clear nb_ n0_ n1_ n2_ n3_ n4_ n5_
  have Hx2:=Aside0.mk hx2
  clear hx2
  clear hb
  clear xa0_0 xa0_1 xa0_2 xa1_0 xa1_1 BXwc0 BXwc1 BXx0c0 BXx0c1 BXx0c2 hzA hzBXw hzBXx0
  have xa0_0:w10.cell? ⟨w.heap.size,0,none⟩=some (.slice A0_0 l0_0.length c0_0):=(blk_cell (blk_below PA0.out HB.out) 0).trans rfl
  have xa0_1:w10.cell? ⟨w.heap.size,1,none⟩=some (.int .i64 a0_1):=(blk_cell (blk_below PA0.out HB.out) 1).trans rfl
  have xa0_2:w10.cell? ⟨w.heap.size,2,none⟩=some (.int .i64 a0_2):=(blk_cell (blk_below PA0.out HB.out) 2).trans rfl
  have xa1_0:w10.cell? ⟨w.heap.size+1,0,none⟩=some (.slice A1_0 l1_0.length c1_0):=(blk_cell (blk_below PA1.out HB.out) 0).trans rfl
  have xa1_1:w10.cell? ⟨w.heap.size+1,1,none⟩=some (.int .i64 a1_1):=(blk_cell (blk_below PA1.out HB.out) 1).trans rfl
  have BXwc0:w10.cell? ⟨bw,0,none⟩=some (.slice Bw0_0 r0_0.length dw0_0):=(blk_cell BXw.out 0).trans rfl
  have BXwc1:w10.cell? ⟨bw,1,none⟩=some (.int .i64 r0_1):=(blk_cell BXw.out 1).trans rfl
  have BXx0c0:w10.cell? ⟨w8.heap.size,0,none⟩=some (.slice Bx0_0 l0_0.length dx0_0):=(blk_cell BXx0.out 0).trans rfl
  have BXx0c1:w10.cell? ⟨w8.heap.size,1,none⟩=some (.int .i64 a0_1):=(blk_cell BXx0.out 1).trans rfl
  have BXx0c2:w10.cell? ⟨w8.heap.size,2,none⟩=some (.int .i64 a0_2):=(blk_cell BXx0.out 2).trans rfl
  have BXx1c0:w10.cell? ⟨w9.heap.size,0,none⟩=some (.slice Bx1_0 l1_0.length dx1_0):=(blk_cell BXx1.out 0).trans rfl
  have BXx1c1:w10.cell? ⟨w9.heap.size,1,none⟩=some (.int .i64 a1_1):=(blk_cell BXx1.out 1).trans rfl
  have hzA:w.heap.size+1 < w10.heap.size:=Nat.lt_of_lt_of_le (blk_lt PA1.out) HB.out.size
  have hzBXw:bw < w10.heap.size:=blk_lt BXw.out
  have hzBXx0:w8.heap.size < w10.heap.size:=blk_lt BXx0.out
  have hzBXx1:w9.heap.size < w10.heap.size:=blk_lt BXx1.out
  go_wp2_with fail
  go_at_call 12
  refine (impl_RoundsAfter.calls k6 _ _ l0_0 a0_1 a0_2 _ _ l1_0 a1_1 _ _ l2 r0_0 r0_1 r1 _ ?s11_hr0_0 ?s11_hc0_0 ?s11_hr1_0 ?s11_hc1_0 ?s11_hr2 ?s11_hc2 XhI.out).mono ?_
  (case s11_hr0_0=>exact (Kd.R_reads' (by repeat (first|(with_reducible exact Hx0_0.out)|(with_reducible apply Kd.R_alloc)|(with_reducible apply Kd.R_drewN)|(with_reducible apply Kd.R_drew)))).2.2)
  (case s11_hc0_0=>exact (Kd.R_reads' Hx0_0.out).2.1)
  (case s11_hr1_0=>exact (Kd.R_reads' (by repeat (first|(with_reducible exact Hx1_0.out)|(with_reducible apply Kd.R_alloc)|(with_reducible apply Kd.R_drewN)|(with_reducible apply Kd.R_drew)))).2.2)
  (case s11_hc1_0=>exact (Kd.R_reads' Hx1_0.out).2.1)
  (case s11_hr2=>exact (Kd.S_reads' (d:=(Kd.sliceS 22 (Kd.slice 3 (Kd.int .i64)))) (by repeat (first|(with_reducible exact Hx2.out)|(with_reducible apply Kd.S_alloc)|(with_reducible apply Kd.S_drewN)|(with_reducible apply Kd.S_drew)))).2.2)
  (case s11_hc2=>exact (Kd.S_reads' Hx2.out).2.1)
  rintro e w11 ⟨vg0_0,rfl,hg0_0,hb⟩
  obtain ⟨log0_0,hig0_0,elg0_0,ehg0_0,zlg0_0,zhg0_0,hx_⟩:=R_span hg0_0 hb (by repeat (first|(with_reducible exact HB.out)|(with_reducible apply below_alloc)|(with_reducible apply pw_below_drewN)|(with_reducible apply below_drew1)))
  clear hg0_0
  have hg0_0:=hx_
  clear hx_
  (try simp only[World.size_alloc,size_drew_,size_drewN_] at elg0_0)
  have Zg0_0:=Aside0.mk (And.intro elg0_0 (And.intro ehg0_0 (And.intro zlg0_0 zhg0_0)))
  clear elg0_0 ehg0_0 zlg0_0 zhg0_0
  obtain ⟨Bg0_0,dg0_0,eg0_0⟩:=Kd.R_slice hg0_0
  subst eg0_0
  have n0_:=Aside0.mk (Kd.F_below (by repeat (first|(with_reducible exact Hw0_0.out)|(with_reducible apply Kd.F_alloc)|(with_reducible apply Kd.F_drewN)|(with_reducible apply Kd.F_drew))) hb)
  have n1_:=Aside0.mk (blk_below (g:=bw) (o := .cells #[.slice Bw0_0 r0_0.length dw0_0, .int .i64 r0_1] 32) (by repeat (first|(with_reducible exact BXw.out)|(with_reducible refine blk_drewN ?_ _)|(with_reducible refine blk_drew ?_)|(with_reducible refine blk_alloc ?_ _))) hb)
  have n2_:=Aside0.mk (Kd.R_below (by repeat (first|(with_reducible exact Hx0_0.out)|(with_reducible apply Kd.R_alloc)|(with_reducible apply Kd.R_drewN)|(with_reducible apply Kd.R_drew))) hb)
  have n3_:=Aside0.mk (blk_below (g:=w8.heap.size) (o := .cells #[.slice Bx0_0 l0_0.length dx0_0, .int .i64 a0_1, .int .i64 a0_2] 35) (by repeat (first|(with_reducible exact BXx0.out)|(with_reducible refine blk_drewN ?_ _)|(with_reducible refine blk_drew ?_)|(with_reducible refine blk_alloc ?_ _))) hb)
  have n4_:=Aside0.mk (Kd.R_below (by repeat (first|(with_reducible exact Hx1_0.out)|(with_reducible apply Kd.R_alloc)|(with_reducible apply Kd.R_drewN)|(with_reducible apply Kd.R_drew))) hb)
  have n5_:=Aside0.mk (blk_below (g:=w9.heap.size) (o := .cells #[.slice Bx1_0 l1_0.length dx1_0, .int .i64 a1_1] 32) (by repeat (first|(with_reducible exact BXx1.out)|(with_reducible refine blk_drewN ?_ _)|(with_reducible refine blk_drew ?_)|(with_reducible refine blk_alloc ?_ _))) hb)
  have n6_:=Aside0.mk (Kd.S_below (by repeat (first|(with_reducible exact Hx2.out)|(with_reducible apply Kd.S_alloc)|(with_reducible apply Kd.S_drewN)|(with_reducible apply Kd.S_drew))) hb)
  have nb_:=Aside0.mk (below_step (by repeat (first|(with_reducible exact HB.out)|(with_reducible apply below_alloc)|(with_reducible apply pw_below_drewN)|(with_reducible apply below_drew1))) hb)
  have zw_:=hb.size
  (try simp only[World.size_alloc,size_drew_,size_drewN_] at zw_)
  have ZW11:=Aside0.mk zw_
  clear zw_
  clear HB Hw0_0 BXw Hx0_0 BXx0 Hx1_0 BXx1 Hx2
  have HB:=nb_
  have Hw0_0:=n0_
  have BXw:=n1_
  have Hx0_0:=n2_
  have BXx0:=n3_
  have Hx1_0:=n4_
  have BXx1:=n5_
  have Hx2:=n6_
  clear nb_ n0_ n1_ n2_ n3_ n4_ n5_ n6_
  have Hg0_0:=Aside0.mk hg0_0
  clear hg0_0
  clear hb
  clear xa0_0 xa0_1 xa0_2 xa1_0 xa1_1 BXwc0 BXwc1 BXx0c0 BXx0c1 BXx0c2 BXx1c0 BXx1c1 hzA hzBXw hzBXx0 hzBXx1
  have xa0_0:w11.cell? ⟨w.heap.size,0,none⟩=some (.slice A0_0 l0_0.length c0_0):=(blk_cell (blk_below PA0.out HB.out) 0).trans rfl
  have xa0_1:w11.cell? ⟨w.heap.size,1,none⟩=some (.int .i64 a0_1):=(blk_cell (blk_below PA0.out HB.out) 1).trans rfl
  have xa0_2:w11.cell? ⟨w.heap.size,2,none⟩=some (.int .i64 a0_2):=(blk_cell (blk_below PA0.out HB.out) 2).trans rfl
  have xa1_0:w11.cell? ⟨w.heap.size+1,0,none⟩=some (.slice A1_0 l1_0.length c1_0):=(blk_cell (blk_below PA1.out HB.out) 0).trans rfl
  have xa1_1:w11.cell? ⟨w.heap.size+1,1,none⟩=some (.int .i64 a1_1):=(blk_cell (blk_below PA1.out HB.out) 1).trans rfl
  have BXwc0:w11.cell? ⟨bw,0,none⟩=some (.slice Bw0_0 r0_0.length dw0_0):=(blk_cell BXw.out 0).trans rfl
  have BXwc1:w11.cell? ⟨bw,1,none⟩=some (.int .i64 r0_1):=(blk_cell BXw.out 1).trans rfl
  have BXx0c0:w11.cell? ⟨w8.heap.size,0,none⟩=some (.slice Bx0_0 l0_0.length dx0_0):=(blk_cell BXx0.out 0).trans rfl
  have BXx0c1:w11.cell? ⟨w8.heap.size,1,none⟩=some (.int .i64 a0_1):=(blk_cell BXx0.out 1).trans rfl
  have BXx0c2:w11.cell? ⟨w8.heap.size,2,none⟩=some (.int .i64 a0_2):=(blk_cell BXx0.out 2).trans rfl
  have BXx1c0:w11.cell? ⟨w9.heap.size,0,none⟩=some (.slice Bx1_0 l1_0.length dx1_0):=(blk_cell BXx1.out 0).trans rfl
  have BXx1c1:w11.cell? ⟨w9.heap.size,1,none⟩=some (.int .i64 a1_1):=(blk_cell BXx1.out 1).trans rfl
  have hzA:w.heap.size+1 < w11.heap.size:=Nat.lt_of_lt_of_le (blk_lt PA1.out) HB.out.size
  have hzBXw:bw < w11.heap.size:=blk_lt BXw.out
  have hzBXx0:w8.heap.size < w11.heap.size:=blk_lt BXx0.out
  have hzBXx1:w9.heap.size < w11.heap.size:=blk_lt BXx1.out
  have BXg:=Aside0.mk (heap_alloc_new w11 (.cells #[.slice Bg0_0 r0_0.length dg0_0, .int .i64 r0_1] 32))
  go_wp2_with fail
  go_at_call 13
  refine (laws_eqCamp.calls k7 _ _ r0_0 r0_1 _ _ r0_0 r0_1 true _ ?s12_hr0_0 ?s12_hc0_0 ?s12_hr1_0 ?s12_hc1_0 XhE.out).mono ?_
  (case s12_hr0_0=>exact (Kd.R_reads' (by repeat (first|(with_reducible exact Hg0_0.out)|(with_reducible apply Kd.R_alloc)|(with_reducible apply Kd.R_drewN)|(with_reducible apply Kd.R_drew)))).2.2)
  (case s12_hc0_0=>exact (Kd.R_reads' Hg0_0.out).2.1)
  (case s12_hr1_0=>exact Kd.F_now (by repeat (first|(with_reducible exact Hw0_0.out)|(with_reducible apply Kd.F_alloc)|(with_reducible apply Kd.F_drewN)|(with_reducible apply Kd.F_drew))))
  (case s12_hc1_0=>exact LEw0_0.out)
  rintro e w12 ⟨rfl,hb⟩
  have n0_:=Aside0.mk (Kd.F_below (by repeat (first|(with_reducible exact Hw0_0.out)|(with_reducible apply Kd.F_alloc)|(with_reducible apply Kd.F_drewN)|(with_reducible apply Kd.F_drew))) hb)
  have n1_:=Aside0.mk (blk_below (g:=bw) (o := .cells #[.slice Bw0_0 r0_0.length dw0_0, .int .i64 r0_1] 32) (by repeat (first|(with_reducible exact BXw.out)|(with_reducible refine blk_drewN ?_ _)|(with_reducible refine blk_drew ?_)|(with_reducible refine blk_alloc ?_ _))) hb)
  have n2_:=Aside0.mk (Kd.R_below (by repeat (first|(with_reducible exact Hx0_0.out)|(with_reducible apply Kd.R_alloc)|(with_reducible apply Kd.R_drewN)|(with_reducible apply Kd.R_drew))) hb)
  have n3_:=Aside0.mk (blk_below (g:=w8.heap.size) (o := .cells #[.slice Bx0_0 l0_0.length dx0_0, .int .i64 a0_1, .int .i64 a0_2] 35) (by repeat (first|(with_reducible exact BXx0.out)|(with_reducible refine blk_drewN ?_ _)|(with_reducible refine blk_drew ?_)|(with_reducible refine blk_alloc ?_ _))) hb)
  have n4_:=Aside0.mk (Kd.R_below (by repeat (first|(with_reducible exact Hx1_0.out)|(with_reducible apply Kd.R_alloc)|(with_reducible apply Kd.R_drewN)|(with_reducible apply Kd.R_drew))) hb)
  have n5_:=Aside0.mk (blk_below (g:=w9.heap.size) (o := .cells #[.slice Bx1_0 l1_0.length dx1_0, .int .i64 a1_1] 32) (by repeat (first|(with_reducible exact BXx1.out)|(with_reducible refine blk_drewN ?_ _)|(with_reducible refine blk_drew ?_)|(with_reducible refine blk_alloc ?_ _))) hb)
  have n6_:=Aside0.mk (Kd.S_below (by repeat (first|(with_reducible exact Hx2.out)|(with_reducible apply Kd.S_alloc)|(with_reducible apply Kd.S_drewN)|(with_reducible apply Kd.S_drew))) hb)
  have n7_:=Aside0.mk (Kd.R_below (by repeat (first|(with_reducible exact Hg0_0.out)|(with_reducible apply Kd.R_alloc)|(with_reducible apply Kd.R_drewN)|(with_reducible apply Kd.R_drew))) hb)
  have n8_:=Aside0.mk (blk_below (g:=w11.heap.size) (o := .cells #[.slice Bg0_0 r0_0.length dg0_0, .int .i64 r0_1] 32) (by repeat (first|(with_reducible exact BXg.out)|(with_reducible refine blk_drewN ?_ _)|(with_reducible refine blk_drew ?_)|(with_reducible refine blk_alloc ?_ _))) hb)
  have nb_:=Aside0.mk (below_step (by repeat (first|(with_reducible exact HB.out)|(with_reducible apply below_alloc)|(with_reducible apply pw_below_drewN)|(with_reducible apply below_drew1))) hb)
  have zw_:=hb.size
  (try simp only[World.size_alloc,size_drew_,size_drewN_] at zw_)
  have ZW12:=Aside0.mk zw_
  clear zw_
  clear HB Hw0_0 BXw Hx0_0 BXx0 Hx1_0 BXx1 Hx2 Hg0_0 BXg
  have HB:=nb_
  have Hw0_0:=n0_
  have BXw:=n1_
  have Hx0_0:=n2_
  have BXx0:=n3_
  have Hx1_0:=n4_
  have BXx1:=n5_
  have Hx2:=n6_
  have Hg0_0:=n7_
  have BXg:=n8_
  clear nb_ n0_ n1_ n2_ n3_ n4_ n5_ n6_ n7_ n8_
  clear hb
  clear xa0_0 xa0_1 xa0_2 xa1_0 xa1_1 BXwc0 BXwc1 BXx0c0 BXx0c1 BXx0c2 BXx1c0 BXx1c1 hzA hzBXw hzBXx0 hzBXx1
  have xa0_0:w12.cell? ⟨w.heap.size,0,none⟩=some (.slice A0_0 l0_0.length c0_0):=(blk_cell (blk_below PA0.out HB.out) 0).trans rfl
  have xa0_1:w12.cell? ⟨w.heap.size,1,none⟩=some (.int .i64 a0_1):=(blk_cell (blk_below PA0.out HB.out) 1).trans rfl
  have xa0_2:w12.cell? ⟨w.heap.size,2,none⟩=some (.int .i64 a0_2):=(blk_cell (blk_below PA0.out HB.out) 2).trans rfl
  have xa1_0:w12.cell? ⟨w.heap.size+1,0,none⟩=some (.slice A1_0 l1_0.length c1_0):=(blk_cell (blk_below PA1.out HB.out) 0).trans rfl
  have xa1_1:w12.cell? ⟨w.heap.size+1,1,none⟩=some (.int .i64 a1_1):=(blk_cell (blk_below PA1.out HB.out) 1).trans rfl
  have BXwc0:w12.cell? ⟨bw,0,none⟩=some (.slice Bw0_0 r0_0.length dw0_0):=(blk_cell BXw.out 0).trans rfl
  have BXwc1:w12.cell? ⟨bw,1,none⟩=some (.int .i64 r0_1):=(blk_cell BXw.out 1).trans rfl
  have BXx0c0:w12.cell? ⟨w8.heap.size,0,none⟩=some (.slice Bx0_0 l0_0.length dx0_0):=(blk_cell BXx0.out 0).trans rfl
  have BXx0c1:w12.cell? ⟨w8.heap.size,1,none⟩=some (.int .i64 a0_1):=(blk_cell BXx0.out 1).trans rfl
  have BXx0c2:w12.cell? ⟨w8.heap.size,2,none⟩=some (.int .i64 a0_2):=(blk_cell BXx0.out 2).trans rfl
  have BXx1c0:w12.cell? ⟨w9.heap.size,0,none⟩=some (.slice Bx1_0 l1_0.length dx1_0):=(blk_cell BXx1.out 0).trans rfl
  have BXx1c1:w12.cell? ⟨w9.heap.size,1,none⟩=some (.int .i64 a1_1):=(blk_cell BXx1.out 1).trans rfl
  have BXgc0:w12.cell? ⟨w11.heap.size,0,none⟩=some (.slice Bg0_0 r0_0.length dg0_0):=(blk_cell BXg.out 0).trans rfl
  have BXgc1:w12.cell? ⟨w11.heap.size,1,none⟩=some (.int .i64 r0_1):=(blk_cell BXg.out 1).trans rfl
  have hzA:w.heap.size+1 < w12.heap.size:=Nat.lt_of_lt_of_le (blk_lt PA1.out) HB.out.size
  have hzBXw:bw < w12.heap.size:=blk_lt BXw.out
  have hzBXx0:w8.heap.size < w12.heap.size:=blk_lt BXx0.out
  have hzBXx1:w9.heap.size < w12.heap.size:=blk_lt BXx1.out
  have hzBXg:w11.heap.size < w12.heap.size:=blk_lt BXg.out
  go_wp2_with fail
  go_region_held3 (fun w'=>w'.cell? ⟨w.heap.size,0,none⟩=some (.slice A0_0 l0_0.length c0_0)∧w'.cell? ⟨w.heap.size,1,none⟩=some (.int .i64 a0_1)∧w'.cell? ⟨w.heap.size,2,none⟩=some (.int .i64 a0_2)∧w'.cell? ⟨w.heap.size+1,0,none⟩=some (.slice A1_0 l1_0.length c1_0)∧w'.cell? ⟨w.heap.size+1,1,none⟩=some (.int .i64 a1_1)∧w'.cell? ⟨bw,0,none⟩=some (.slice Bw0_0 r0_0.length dw0_0)∧w'.cell? ⟨bw,1,none⟩=some (.int .i64 r0_1)∧w'.cell? ⟨w8.heap.size,0,none⟩=some (.slice Bx0_0 l0_0.length dx0_0)∧w'.cell? ⟨w8.heap.size,1,none⟩=some (.int .i64 a0_1)∧w'.cell? ⟨w8.heap.size,2,none⟩=some (.int .i64 a0_2)∧w'.cell? ⟨w9.heap.size,0,none⟩=some (.slice Bx1_0 l1_0.length dx1_0)∧w'.cell? ⟨w9.heap.size,1,none⟩=some (.int .i64 a1_1)∧w'.cell? ⟨w11.heap.size,0,none⟩=some (.slice Bg0_0 r0_0.length dg0_0)∧w'.cell? ⟨w11.heap.size,1,none⟩=some (.int .i64 r0_1)) (first|(exact ⟨(blk_cell (blk_below PA0.out (by repeat (first|(with_reducible exact HB.out)|(with_reducible apply below_alloc)|(with_reducible apply pw_below_drewN)|(with_reducible apply below_drew1)))) 0).trans rfl,(blk_cell (blk_below PA0.out (by repeat (first|(with_reducible exact HB.out)|(with_reducible apply below_alloc)|(with_reducible apply pw_below_drewN)|(with_reducible apply below_drew1)))) 1).trans rfl,(blk_cell (blk_below PA0.out (by repeat (first|(with_reducible exact HB.out)|(with_reducible apply below_alloc)|(with_reducible apply pw_below_drewN)|(with_reducible apply below_drew1)))) 2).trans rfl,(blk_cell (blk_below PA1.out (by repeat (first|(with_reducible exact HB.out)|(with_reducible apply below_alloc)|(with_reducible apply pw_below_drewN)|(with_reducible apply below_drew1)))) 0).trans rfl,(blk_cell (blk_below PA1.out (by repeat (first|(with_reducible exact HB.out)|(with_reducible apply below_alloc)|(with_reducible apply pw_below_drewN)|(with_reducible apply below_drew1)))) 1).trans rfl,(blk_cell (by repeat (first|(with_reducible exact BXw.out)|(with_reducible refine blk_drewN ?_ _)|(with_reducible refine blk_drew ?_)|(with_reducible refine blk_alloc ?_ _))) 0).trans rfl,(blk_cell (by repeat (first|(with_reducible exact BXw.out)|(with_reducible refine blk_drewN ?_ _)|(with_reducible refine blk_drew ?_)|(with_reducible refine blk_alloc ?_ _))) 1).trans rfl,(blk_cell (by repeat (first|(with_reducible exact BXx0.out)|(with_reducible refine blk_drewN ?_ _)|(with_reducible refine blk_drew ?_)|(with_reducible refine blk_alloc ?_ _))) 0).trans rfl,(blk_cell (by repeat (first|(with_reducible exact BXx0.out)|(with_reducible refine blk_drewN ?_ _)|(with_reducible refine blk_drew ?_)|(with_reducible refine blk_alloc ?_ _))) 1).trans rfl,(blk_cell (by repeat (first|(with_reducible exact BXx0.out)|(with_reducible refine blk_drewN ?_ _)|(with_reducible refine blk_drew ?_)|(with_reducible refine blk_alloc ?_ _))) 2).trans rfl,(blk_cell (by repeat (first|(with_reducible exact BXx1.out)|(with_reducible refine blk_drewN ?_ _)|(with_reducible refine blk_drew ?_)|(with_reducible refine blk_alloc ?_ _))) 0).trans rfl,(blk_cell (by repeat (first|(with_reducible exact BXx1.out)|(with_reducible refine blk_drewN ?_ _)|(with_reducible refine blk_drew ?_)|(with_reducible refine blk_alloc ?_ _))) 1).trans rfl,(blk_cell (by repeat (first|(with_reducible exact BXg.out)|(with_reducible refine blk_drewN ?_ _)|(with_reducible refine blk_drew ?_)|(with_reducible refine blk_alloc ?_ _))) 0).trans rfl,(blk_cell (by repeat (first|(with_reducible exact BXg.out)|(with_reducible refine blk_drewN ?_ _)|(with_reducible refine blk_drew ?_)|(with_reducible refine blk_alloc ?_ _))) 1).trans rfl⟩)|go_keep)
   (first|((go_at_call 9;refine (laws_toNight.calls k2 _ _ l0_0 a0_1 a0_2 l0_0 a0_1 a0_2 _ ?s13_hr0_0 ?s13_hc0_0 XhT0.out).mono ?_;(case s13_hr0_0=>exact Kd.C_below RA0_0.out (by repeat (first|(with_reducible exact HB.out)|(with_reducible apply below_alloc)|(with_reducible apply pw_below_drewN)|(with_reducible apply below_drew1))));(case s13_hc0_0=>exact hc0_0);rintro e w13 ⟨vt0_0,rfl,ht0_0,hb⟩;obtain ⟨Bt0_0,dt0_0,et0_0⟩:=Kd.R_slice ht0_0;subst et0_0;have n0_:=Aside0.mk (Kd.F_below (by repeat (first|(with_reducible exact Hw0_0.out)|(with_reducible apply Kd.F_alloc)|(with_reducible apply Kd.F_drewN)|(with_reducible apply Kd.F_drew))) hb);have n1_:=Aside0.mk (blk_below (g:=bw) (o := .cells #[.slice Bw0_0 r0_0.length dw0_0, .int .i64 r0_1] 32) (by repeat (first|(with_reducible exact BXw.out)|(with_reducible refine blk_drewN ?_ _)|(with_reducible refine blk_drew ?_)|(with_reducible refine blk_alloc ?_ _))) hb);have n2_:=Aside0.mk (Kd.R_below (by repeat (first|(with_reducible exact Hx0_0.out)|(with_reducible apply Kd.R_alloc)|(with_reducible apply Kd.R_drewN)|(with_reducible apply Kd.R_drew))) hb);have n3_:=Aside0.mk (blk_below (g:=w8.heap.size) (o := .cells #[.slice Bx0_0 l0_0.length dx0_0, .int .i64 a0_1, .int .i64 a0_2] 35) (by repeat (first|(with_reducible exact BXx0.out)|(with_reducible refine blk_drewN ?_ _)|(with_reducible refine blk_drew ?_)|(with_reducible refine blk_alloc ?_ _))) hb);have n4_:=Aside0.mk (Kd.R_below (by repeat (first|(with_reducible exact Hx1_0.out)|(with_reducible apply Kd.R_alloc)|(with_reducible apply Kd.R_drewN)|(with_reducible apply Kd.R_drew))) hb);have n5_:=Aside0.mk (blk_below (g:=w9.heap.size) (o := .cells #[.slice Bx1_0 l1_0.length dx1_0, .int .i64 a1_1] 32) (by repeat (first|(with_reducible exact BXx1.out)|(with_reducible refine blk_drewN ?_ _)|(with_reducible refine blk_drew ?_)|(with_reducible refine blk_alloc ?_ _))) hb);have n6_:=Aside0.mk (Kd.S_below (by repeat (first|(with_reducible exact Hx2.out)|(with_reducible apply Kd.S_alloc)|(with_reducible apply Kd.S_drewN)|(with_reducible apply Kd.S_drew))) hb);have n7_:=Aside0.mk (Kd.R_below (by repeat (first|(with_reducible exact Hg0_0.out)|(with_reducible apply Kd.R_alloc)|(with_reducible apply Kd.R_drewN)|(with_reducible apply Kd.R_drew))) hb);have n8_:=Aside0.mk (blk_below (g:=w11.heap.size) (o := .cells #[.slice Bg0_0 r0_0.length dg0_0, .int .i64 r0_1] 32) (by repeat (first|(with_reducible exact BXg.out)|(with_reducible refine blk_drewN ?_ _)|(with_reducible refine blk_drew ?_)|(with_reducible refine blk_alloc ?_ _))) hb);have nb_:=Aside0.mk (below_step (by repeat (first|(with_reducible exact HB.out)|(with_reducible apply below_alloc)|(with_reducible apply pw_below_drewN)|(with_reducible apply below_drew1))) hb);have zw_:=hb.size;(try simp only[World.size_alloc,size_drew_,size_drewN_] at zw_);have ZW13:=Aside0.mk zw_;clear zw_;clear HB Hw0_0 BXw Hx0_0 BXx0 Hx1_0 BXx1 Hx2 Hg0_0 BXg;have HB:=nb_;have Hw0_0:=n0_;have BXw:=n1_;have Hx0_0:=n2_;have BXx0:=n3_;have Hx1_0:=n4_;have BXx1:=n5_;have Hx2:=n6_;have Hg0_0:=n7_;have BXg:=n8_;clear nb_ n0_ n1_ n2_ n3_ n4_ n5_ n6_ n7_ n8_;have Ht0_0:=Aside0.mk ht0_0;clear ht0_0;clear hb;clear xa0_0 xa0_1 xa0_2 xa1_0 xa1_1 BXwc0 BXwc1 BXx0c0 BXx0c1 BXx0c2 BXx1c0 BXx1c1 BXgc0 BXgc1 hzA hzBXw hzBXx0 hzBXx1 hzBXg;have xa0_0:w13.cell? ⟨w.heap.size,0,none⟩=some (.slice A0_0 l0_0.length c0_0):=(blk_cell (blk_below PA0.out HB.out) 0).trans rfl;have xa0_1:w13.cell? ⟨w.heap.size,1,none⟩=some (.int .i64 a0_1):=(blk_cell (blk_below PA0.out HB.out) 1).trans rfl;have xa0_2:w13.cell? ⟨w.heap.size,2,none⟩=some (.int .i64 a0_2):=(blk_cell (blk_below PA0.out HB.out) 2).trans rfl;have xa1_0:w13.cell? ⟨w.heap.size+1,0,none⟩=some (.slice A1_0 l1_0.length c1_0):=(blk_cell (blk_below PA1.out HB.out) 0).trans rfl;have xa1_1:w13.cell? ⟨w.heap.size+1,1,none⟩=some (.int .i64 a1_1):=(blk_cell (blk_below PA1.out HB.out) 1).trans rfl;have BXwc0:w13.cell? ⟨bw,0,none⟩=some (.slice Bw0_0 r0_0.length dw0_0):=(blk_cell BXw.out 0).trans rfl;have BXwc1:w13.cell? ⟨bw,1,none⟩=some (.int .i64 r0_1):=(blk_cell BXw.out 1).trans rfl;have BXx0c0:w13.cell? ⟨w8.heap.size,0,none⟩=some (.slice Bx0_0 l0_0.length dx0_0):=(blk_cell BXx0.out 0).trans rfl;have BXx0c1:w13.cell? ⟨w8.heap.size,1,none⟩=some (.int .i64 a0_1):=(blk_cell BXx0.out 1).trans rfl;have BXx0c2:w13.cell? ⟨w8.heap.size,2,none⟩=some (.int .i64 a0_2):=(blk_cell BXx0.out 2).trans rfl;have BXx1c0:w13.cell? ⟨w9.heap.size,0,none⟩=some (.slice Bx1_0 l1_0.length dx1_0):=(blk_cell BXx1.out 0).trans rfl;have BXx1c1:w13.cell? ⟨w9.heap.size,1,none⟩=some (.int .i64 a1_1):=(blk_cell BXx1.out 1).trans rfl;have BXgc0:w13.cell? ⟨w11.heap.size,0,none⟩=some (.slice Bg0_0 r0_0.length dg0_0):=(blk_cell BXg.out 0).trans rfl;have BXgc1:w13.cell? ⟨w11.heap.size,1,none⟩=some (.int .i64 r0_1):=(blk_cell BXg.out 1).trans rfl;have hzA:w.heap.size+1 < w13.heap.size:=Nat.lt_of_lt_of_le (blk_lt PA1.out) HB.out.size;have hzBXw:bw < w13.heap.size:=blk_lt BXw.out;have hzBXx0:w8.heap.size < w13.heap.size:=blk_lt BXx0.out;have hzBXx1:w9.heap.size < w13.heap.size:=blk_lt BXx1.out;have hzBXg:w11.heap.size < w13.heap.size:=blk_lt BXg.out))|((go_at_call 14;refine (laws_eqNight.calls k8 _ _ l0_0 a0_1 a0_2 _ _ l0_0 a0_1 a0_2 true _ ?s14_hr0_0 ?s14_hc0_0 ?s14_hr1_0 ?s14_hc1_0 XhEA0.out).mono ?_;(case s14_hr0_0=>exact (Kd.R_reads' (by repeat (first|(with_reducible exact Hx0_0.out)|(with_reducible apply Kd.R_alloc)|(with_reducible apply Kd.R_drewN)|(with_reducible apply Kd.R_drew)))).2.2);(case s14_hc0_0=>exact (Kd.R_reads' Hx0_0.out).2.1);(case s14_hr1_0=>exact (Kd.R_reads' (by repeat (first|(with_reducible exact Ht0_0.out)|(with_reducible apply Kd.R_alloc)|(with_reducible apply Kd.R_drewN)|(with_reducible apply Kd.R_drew)))).2.2);(case s14_hc1_0=>exact (Kd.R_reads' Ht0_0.out).2.1);rintro e w14 ⟨rfl,hb⟩;have n0_:=Aside0.mk (Kd.F_below (by repeat (first|(with_reducible exact Hw0_0.out)|(with_reducible apply Kd.F_alloc)|(with_reducible apply Kd.F_drewN)|(with_reducible apply Kd.F_drew))) hb);have n1_:=Aside0.mk (blk_below (g:=bw) (o := .cells #[.slice Bw0_0 r0_0.length dw0_0, .int .i64 r0_1] 32) (by repeat (first|(with_reducible exact BXw.out)|(with_reducible refine blk_drewN ?_ _)|(with_reducible refine blk_drew ?_)|(with_reducible refine blk_alloc ?_ _))) hb);have n2_:=Aside0.mk (Kd.R_below (by repeat (first|(with_reducible exact Hx0_0.out)|(with_reducible apply Kd.R_alloc)|(with_reducible apply Kd.R_drewN)|(with_reducible apply Kd.R_drew))) hb);have n3_:=Aside0.mk (blk_below (g:=w8.heap.size) (o := .cells #[.slice Bx0_0 l0_0.length dx0_0, .int .i64 a0_1, .int .i64 a0_2] 35) (by repeat (first|(with_reducible exact BXx0.out)|(with_reducible refine blk_drewN ?_ _)|(with_reducible refine blk_drew ?_)|(with_reducible refine blk_alloc ?_ _))) hb);have n4_:=Aside0.mk (Kd.R_below (by repeat (first|(with_reducible exact Hx1_0.out)|(with_reducible apply Kd.R_alloc)|(with_reducible apply Kd.R_drewN)|(with_reducible apply Kd.R_drew))) hb);have n5_:=Aside0.mk (blk_below (g:=w9.heap.size) (o := .cells #[.slice Bx1_0 l1_0.length dx1_0, .int .i64 a1_1] 32) (by repeat (first|(with_reducible exact BXx1.out)|(with_reducible refine blk_drewN ?_ _)|(with_reducible refine blk_drew ?_)|(with_reducible refine blk_alloc ?_ _))) hb);have n6_:=Aside0.mk (Kd.S_below (by repeat (first|(with_reducible exact Hx2.out)|(with_reducible apply Kd.S_alloc)|(with_reducible apply Kd.S_drewN)|(with_reducible apply Kd.S_drew))) hb);have n7_:=Aside0.mk (Kd.R_below (by repeat (first|(with_reducible exact Hg0_0.out)|(with_reducible apply Kd.R_alloc)|(with_reducible apply Kd.R_drewN)|(with_reducible apply Kd.R_drew))) hb);have n8_:=Aside0.mk (blk_below (g:=w11.heap.size) (o := .cells #[.slice Bg0_0 r0_0.length dg0_0, .int .i64 r0_1] 32) (by repeat (first|(with_reducible exact BXg.out)|(with_reducible refine blk_drewN ?_ _)|(with_reducible refine blk_drew ?_)|(with_reducible refine blk_alloc ?_ _))) hb);have n9_:=Aside0.mk (Kd.R_below (by repeat (first|(with_reducible exact Ht0_0.out)|(with_reducible apply Kd.R_alloc)|(with_reducible apply Kd.R_drewN)|(with_reducible apply Kd.R_drew))) hb);have nb_:=Aside0.mk (below_step (by repeat (first|(with_reducible exact HB.out)|(with_reducible apply below_alloc)|(with_reducible apply pw_below_drewN)|(with_reducible apply below_drew1))) hb);have zw_:=hb.size;(try simp only[World.size_alloc,size_drew_,size_drewN_] at zw_);have ZW14:=Aside0.mk zw_;clear zw_;clear HB Hw0_0 BXw Hx0_0 BXx0 Hx1_0 BXx1 Hx2 Hg0_0 BXg Ht0_0;have HB:=nb_;have Hw0_0:=n0_;have BXw:=n1_;have Hx0_0:=n2_;have BXx0:=n3_;have Hx1_0:=n4_;have BXx1:=n5_;have Hx2:=n6_;have Hg0_0:=n7_;have BXg:=n8_;have Ht0_0:=n9_;clear nb_ n0_ n1_ n2_ n3_ n4_ n5_ n6_ n7_ n8_ n9_;clear hb;clear xa0_0 xa0_1 xa0_2 xa1_0 xa1_1 BXwc0 BXwc1 BXx0c0 BXx0c1 BXx0c2 BXx1c0 BXx1c1 BXgc0 BXgc1 hzA hzBXw hzBXx0 hzBXx1 hzBXg;have xa0_0:w14.cell? ⟨w.heap.size,0,none⟩=some (.slice A0_0 l0_0.length c0_0):=(blk_cell (blk_below PA0.out HB.out) 0).trans rfl;have xa0_1:w14.cell? ⟨w.heap.size,1,none⟩=some (.int .i64 a0_1):=(blk_cell (blk_below PA0.out HB.out) 1).trans rfl;have xa0_2:w14.cell? ⟨w.heap.size,2,none⟩=some (.int .i64 a0_2):=(blk_cell (blk_below PA0.out HB.out) 2).trans rfl;have xa1_0:w14.cell? ⟨w.heap.size+1,0,none⟩=some (.slice A1_0 l1_0.length c1_0):=(blk_cell (blk_below PA1.out HB.out) 0).trans rfl;have xa1_1:w14.cell? ⟨w.heap.size+1,1,none⟩=some (.int .i64 a1_1):=(blk_cell (blk_below PA1.out HB.out) 1).trans rfl;have BXwc0:w14.cell? ⟨bw,0,none⟩=some (.slice Bw0_0 r0_0.length dw0_0):=(blk_cell BXw.out 0).trans rfl;have BXwc1:w14.cell? ⟨bw,1,none⟩=some (.int .i64 r0_1):=(blk_cell BXw.out 1).trans rfl;have BXx0c0:w14.cell? ⟨w8.heap.size,0,none⟩=some (.slice Bx0_0 l0_0.length dx0_0):=(blk_cell BXx0.out 0).trans rfl;have BXx0c1:w14.cell? ⟨w8.heap.size,1,none⟩=some (.int .i64 a0_1):=(blk_cell BXx0.out 1).trans rfl;have BXx0c2:w14.cell? ⟨w8.heap.size,2,none⟩=some (.int .i64 a0_2):=(blk_cell BXx0.out 2).trans rfl;have BXx1c0:w14.cell? ⟨w9.heap.size,0,none⟩=some (.slice Bx1_0 l1_0.length dx1_0):=(blk_cell BXx1.out 0).trans rfl;have BXx1c1:w14.cell? ⟨w9.heap.size,1,none⟩=some (.int .i64 a1_1):=(blk_cell BXx1.out 1).trans rfl;have BXgc0:w14.cell? ⟨w11.heap.size,0,none⟩=some (.slice Bg0_0 r0_0.length dg0_0):=(blk_cell BXg.out 0).trans rfl;have BXgc1:w14.cell? ⟨w11.heap.size,1,none⟩=some (.int .i64 r0_1):=(blk_cell BXg.out 1).trans rfl;have hzA:w.heap.size+1 < w14.heap.size:=Nat.lt_of_lt_of_le (blk_lt PA1.out) HB.out.size;have hzBXw:bw < w14.heap.size:=blk_lt BXw.out;have hzBXx0:w8.heap.size < w14.heap.size:=blk_lt BXx0.out;have hzBXx1:w9.heap.size < w14.heap.size:=blk_lt BXx1.out;have hzBXg:w11.heap.size < w14.heap.size:=blk_lt BXg.out)))
  clear Ht0_0
  go_wp2_with fail
  go_region_held3 (fun w'=>w'.cell? ⟨w.heap.size,0,none⟩=some (.slice A0_0 l0_0.length c0_0)∧w'.cell? ⟨w.heap.size,1,none⟩=some (.int .i64 a0_1)∧w'.cell? ⟨w.heap.size,2,none⟩=some (.int .i64 a0_2)∧w'.cell? ⟨w.heap.size+1,0,none⟩=some (.slice A1_0 l1_0.length c1_0)∧w'.cell? ⟨w.heap.size+1,1,none⟩=some (.int .i64 a1_1)∧w'.cell? ⟨bw,0,none⟩=some (.slice Bw0_0 r0_0.length dw0_0)∧w'.cell? ⟨bw,1,none⟩=some (.int .i64 r0_1)∧w'.cell? ⟨w8.heap.size,0,none⟩=some (.slice Bx0_0 l0_0.length dx0_0)∧w'.cell? ⟨w8.heap.size,1,none⟩=some (.int .i64 a0_1)∧w'.cell? ⟨w8.heap.size,2,none⟩=some (.int .i64 a0_2)∧w'.cell? ⟨w9.heap.size,0,none⟩=some (.slice Bx1_0 l1_0.length dx1_0)∧w'.cell? ⟨w9.heap.size,1,none⟩=some (.int .i64 a1_1)∧w'.cell? ⟨w11.heap.size,0,none⟩=some (.slice Bg0_0 r0_0.length dg0_0)∧w'.cell? ⟨w11.heap.size,1,none⟩=some (.int .i64 r0_1)) (first|(exact ⟨(blk_cell (blk_below PA0.out (by repeat (first|(with_reducible exact HB.out)|(with_reducible apply below_alloc)|(with_reducible apply pw_below_drewN)|(with_reducible apply below_drew1)))) 0).trans rfl,(blk_cell (blk_below PA0.out (by repeat (first|(with_reducible exact HB.out)|(with_reducible apply below_alloc)|(with_reducible apply pw_below_drewN)|(with_reducible apply below_drew1)))) 1).trans rfl,(blk_cell (blk_below PA0.out (by repeat (first|(with_reducible exact HB.out)|(with_reducible apply below_alloc)|(with_reducible apply pw_below_drewN)|(with_reducible apply below_drew1)))) 2).trans rfl,(blk_cell (blk_below PA1.out (by repeat (first|(with_reducible exact HB.out)|(with_reducible apply below_alloc)|(with_reducible apply pw_below_drewN)|(with_reducible apply below_drew1)))) 0).trans rfl,(blk_cell (blk_below PA1.out (by repeat (first|(with_reducible exact HB.out)|(with_reducible apply below_alloc)|(with_reducible apply pw_below_drewN)|(with_reducible apply below_drew1)))) 1).trans rfl,(blk_cell (by repeat (first|(with_reducible exact BXw.out)|(with_reducible refine blk_drewN ?_ _)|(with_reducible refine blk_drew ?_)|(with_reducible refine blk_alloc ?_ _))) 0).trans rfl,(blk_cell (by repeat (first|(with_reducible exact BXw.out)|(with_reducible refine blk_drewN ?_ _)|(with_reducible refine blk_drew ?_)|(with_reducible refine blk_alloc ?_ _))) 1).trans rfl,(blk_cell (by repeat (first|(with_reducible exact BXx0.out)|(with_reducible refine blk_drewN ?_ _)|(with_reducible refine blk_drew ?_)|(with_reducible refine blk_alloc ?_ _))) 0).trans rfl,(blk_cell (by repeat (first|(with_reducible exact BXx0.out)|(with_reducible refine blk_drewN ?_ _)|(with_reducible refine blk_drew ?_)|(with_reducible refine blk_alloc ?_ _))) 1).trans rfl,(blk_cell (by repeat (first|(with_reducible exact BXx0.out)|(with_reducible refine blk_drewN ?_ _)|(with_reducible refine blk_drew ?_)|(with_reducible refine blk_alloc ?_ _))) 2).trans rfl,(blk_cell (by repeat (first|(with_reducible exact BXx1.out)|(with_reducible refine blk_drewN ?_ _)|(with_reducible refine blk_drew ?_)|(with_reducible refine blk_alloc ?_ _))) 0).trans rfl,(blk_cell (by repeat (first|(with_reducible exact BXx1.out)|(with_reducible refine blk_drewN ?_ _)|(with_reducible refine blk_drew ?_)|(with_reducible refine blk_alloc ?_ _))) 1).trans rfl,(blk_cell (by repeat (first|(with_reducible exact BXg.out)|(with_reducible refine blk_drewN ?_ _)|(with_reducible refine blk_drew ?_)|(with_reducible refine blk_alloc ?_ _))) 0).trans rfl,(blk_cell (by repeat (first|(with_reducible exact BXg.out)|(with_reducible refine blk_drewN ?_ _)|(with_reducible refine blk_drew ?_)|(with_reducible refine blk_alloc ?_ _))) 1).trans rfl⟩)|go_keep)
   (first|((go_at_call 10;refine (laws_toCamp.calls k3 _ _ l1_0 a1_1 l1_0 a1_1 _ ?s15_hr0_0 ?s15_hc0_0 XhT1.out).mono ?_;(case s15_hr0_0=>exact Kd.C_below RA1_0.out (by repeat (first|(with_reducible exact HB.out)|(with_reducible apply below_alloc)|(with_reducible apply pw_below_drewN)|(with_reducible apply below_drew1))));(case s15_hc0_0=>exact hc1_0);rintro e w15 ⟨vt1_0,rfl,ht1_0,hb⟩;obtain ⟨Bt1_0,dt1_0,et1_0⟩:=Kd.R_slice ht1_0;subst et1_0;have n0_:=Aside0.mk (Kd.F_below (by repeat (first|(with_reducible exact Hw0_0.out)|(with_reducible apply Kd.F_alloc)|(with_reducible apply Kd.F_drewN)|(with_reducible apply Kd.F_drew))) hb);have n1_:=Aside0.mk (blk_below (g:=bw) (o := .cells #[.slice Bw0_0 r0_0.length dw0_0, .int .i64 r0_1] 32) (by repeat (first|(with_reducible exact BXw.out)|(with_reducible refine blk_drewN ?_ _)|(with_reducible refine blk_drew ?_)|(with_reducible refine blk_alloc ?_ _))) hb);have n2_:=Aside0.mk (Kd.R_below (by repeat (first|(with_reducible exact Hx0_0.out)|(with_reducible apply Kd.R_alloc)|(with_reducible apply Kd.R_drewN)|(with_reducible apply Kd.R_drew))) hb);have n3_:=Aside0.mk (blk_below (g:=w8.heap.size) (o := .cells #[.slice Bx0_0 l0_0.length dx0_0, .int .i64 a0_1, .int .i64 a0_2] 35) (by repeat (first|(with_reducible exact BXx0.out)|(with_reducible refine blk_drewN ?_ _)|(with_reducible refine blk_drew ?_)|(with_reducible refine blk_alloc ?_ _))) hb);have n4_:=Aside0.mk (Kd.R_below (by repeat (first|(with_reducible exact Hx1_0.out)|(with_reducible apply Kd.R_alloc)|(with_reducible apply Kd.R_drewN)|(with_reducible apply Kd.R_drew))) hb);have n5_:=Aside0.mk (blk_below (g:=w9.heap.size) (o := .cells #[.slice Bx1_0 l1_0.length dx1_0, .int .i64 a1_1] 32) (by repeat (first|(with_reducible exact BXx1.out)|(with_reducible refine blk_drewN ?_ _)|(with_reducible refine blk_drew ?_)|(with_reducible refine blk_alloc ?_ _))) hb);have n6_:=Aside0.mk (Kd.S_below (by repeat (first|(with_reducible exact Hx2.out)|(with_reducible apply Kd.S_alloc)|(with_reducible apply Kd.S_drewN)|(with_reducible apply Kd.S_drew))) hb);have n7_:=Aside0.mk (Kd.R_below (by repeat (first|(with_reducible exact Hg0_0.out)|(with_reducible apply Kd.R_alloc)|(with_reducible apply Kd.R_drewN)|(with_reducible apply Kd.R_drew))) hb);have n8_:=Aside0.mk (blk_below (g:=w11.heap.size) (o := .cells #[.slice Bg0_0 r0_0.length dg0_0, .int .i64 r0_1] 32) (by repeat (first|(with_reducible exact BXg.out)|(with_reducible refine blk_drewN ?_ _)|(with_reducible refine blk_drew ?_)|(with_reducible refine blk_alloc ?_ _))) hb);have nb_:=Aside0.mk (below_step (by repeat (first|(with_reducible exact HB.out)|(with_reducible apply below_alloc)|(with_reducible apply pw_below_drewN)|(with_reducible apply below_drew1))) hb);have zw_:=hb.size;(try simp only[World.size_alloc,size_drew_,size_drewN_] at zw_);have ZW15:=Aside0.mk zw_;clear zw_;clear HB Hw0_0 BXw Hx0_0 BXx0 Hx1_0 BXx1 Hx2 Hg0_0 BXg;have HB:=nb_;have Hw0_0:=n0_;have BXw:=n1_;have Hx0_0:=n2_;have BXx0:=n3_;have Hx1_0:=n4_;have BXx1:=n5_;have Hx2:=n6_;have Hg0_0:=n7_;have BXg:=n8_;clear nb_ n0_ n1_ n2_ n3_ n4_ n5_ n6_ n7_ n8_;have Ht1_0:=Aside0.mk ht1_0;clear ht1_0;clear hb;clear xa0_0 xa0_1 xa0_2 xa1_0 xa1_1 BXwc0 BXwc1 BXx0c0 BXx0c1 BXx0c2 BXx1c0 BXx1c1 BXgc0 BXgc1 hzA hzBXw hzBXx0 hzBXx1 hzBXg;have xa0_0:w15.cell? ⟨w.heap.size,0,none⟩=some (.slice A0_0 l0_0.length c0_0):=(blk_cell (blk_below PA0.out HB.out) 0).trans rfl;have xa0_1:w15.cell? ⟨w.heap.size,1,none⟩=some (.int .i64 a0_1):=(blk_cell (blk_below PA0.out HB.out) 1).trans rfl;have xa0_2:w15.cell? ⟨w.heap.size,2,none⟩=some (.int .i64 a0_2):=(blk_cell (blk_below PA0.out HB.out) 2).trans rfl;have xa1_0:w15.cell? ⟨w.heap.size+1,0,none⟩=some (.slice A1_0 l1_0.length c1_0):=(blk_cell (blk_below PA1.out HB.out) 0).trans rfl;have xa1_1:w15.cell? ⟨w.heap.size+1,1,none⟩=some (.int .i64 a1_1):=(blk_cell (blk_below PA1.out HB.out) 1).trans rfl;have BXwc0:w15.cell? ⟨bw,0,none⟩=some (.slice Bw0_0 r0_0.length dw0_0):=(blk_cell BXw.out 0).trans rfl;have BXwc1:w15.cell? ⟨bw,1,none⟩=some (.int .i64 r0_1):=(blk_cell BXw.out 1).trans rfl;have BXx0c0:w15.cell? ⟨w8.heap.size,0,none⟩=some (.slice Bx0_0 l0_0.length dx0_0):=(blk_cell BXx0.out 0).trans rfl;have BXx0c1:w15.cell? ⟨w8.heap.size,1,none⟩=some (.int .i64 a0_1):=(blk_cell BXx0.out 1).trans rfl;have BXx0c2:w15.cell? ⟨w8.heap.size,2,none⟩=some (.int .i64 a0_2):=(blk_cell BXx0.out 2).trans rfl;have BXx1c0:w15.cell? ⟨w9.heap.size,0,none⟩=some (.slice Bx1_0 l1_0.length dx1_0):=(blk_cell BXx1.out 0).trans rfl;have BXx1c1:w15.cell? ⟨w9.heap.size,1,none⟩=some (.int .i64 a1_1):=(blk_cell BXx1.out 1).trans rfl;have BXgc0:w15.cell? ⟨w11.heap.size,0,none⟩=some (.slice Bg0_0 r0_0.length dg0_0):=(blk_cell BXg.out 0).trans rfl;have BXgc1:w15.cell? ⟨w11.heap.size,1,none⟩=some (.int .i64 r0_1):=(blk_cell BXg.out 1).trans rfl;have hzA:w.heap.size+1 < w15.heap.size:=Nat.lt_of_lt_of_le (blk_lt PA1.out) HB.out.size;have hzBXw:bw < w15.heap.size:=blk_lt BXw.out;have hzBXx0:w8.heap.size < w15.heap.size:=blk_lt BXx0.out;have hzBXx1:w9.heap.size < w15.heap.size:=blk_lt BXx1.out;have hzBXg:w11.heap.size < w15.heap.size:=blk_lt BXg.out))|((go_at_call 13;refine (laws_eqCamp.calls k9 _ _ l1_0 a1_1 _ _ l1_0 a1_1 true _ ?s16_hr0_0 ?s16_hc0_0 ?s16_hr1_0 ?s16_hc1_0 XhEA1.out).mono ?_;(case s16_hr0_0=>exact (Kd.R_reads' (by repeat (first|(with_reducible exact Hx1_0.out)|(with_reducible apply Kd.R_alloc)|(with_reducible apply Kd.R_drewN)|(with_reducible apply Kd.R_drew)))).2.2);(case s16_hc0_0=>exact (Kd.R_reads' Hx1_0.out).2.1);(case s16_hr1_0=>exact (Kd.R_reads' (by repeat (first|(with_reducible exact Ht1_0.out)|(with_reducible apply Kd.R_alloc)|(with_reducible apply Kd.R_drewN)|(with_reducible apply Kd.R_drew)))).2.2);(case s16_hc1_0=>exact (Kd.R_reads' Ht1_0.out).2.1);rintro e w16 ⟨rfl,hb⟩;have n0_:=Aside0.mk (Kd.F_below (by repeat (first|(with_reducible exact Hw0_0.out)|(with_reducible apply Kd.F_alloc)|(with_reducible apply Kd.F_drewN)|(with_reducible apply Kd.F_drew))) hb);have n1_:=Aside0.mk (blk_below (g:=bw) (o := .cells #[.slice Bw0_0 r0_0.length dw0_0, .int .i64 r0_1] 32) (by repeat (first|(with_reducible exact BXw.out)|(with_reducible refine blk_drewN ?_ _)|(with_reducible refine blk_drew ?_)|(with_reducible refine blk_alloc ?_ _))) hb);have n2_:=Aside0.mk (Kd.R_below (by repeat (first|(with_reducible exact Hx0_0.out)|(with_reducible apply Kd.R_alloc)|(with_reducible apply Kd.R_drewN)|(with_reducible apply Kd.R_drew))) hb);have n3_:=Aside0.mk (blk_below (g:=w8.heap.size) (o := .cells #[.slice Bx0_0 l0_0.length dx0_0, .int .i64 a0_1, .int .i64 a0_2] 35) (by repeat (first|(with_reducible exact BXx0.out)|(with_reducible refine blk_drewN ?_ _)|(with_reducible refine blk_drew ?_)|(with_reducible refine blk_alloc ?_ _))) hb);have n4_:=Aside0.mk (Kd.R_below (by repeat (first|(with_reducible exact Hx1_0.out)|(with_reducible apply Kd.R_alloc)|(with_reducible apply Kd.R_drewN)|(with_reducible apply Kd.R_drew))) hb);have n5_:=Aside0.mk (blk_below (g:=w9.heap.size) (o := .cells #[.slice Bx1_0 l1_0.length dx1_0, .int .i64 a1_1] 32) (by repeat (first|(with_reducible exact BXx1.out)|(with_reducible refine blk_drewN ?_ _)|(with_reducible refine blk_drew ?_)|(with_reducible refine blk_alloc ?_ _))) hb);have n6_:=Aside0.mk (Kd.S_below (by repeat (first|(with_reducible exact Hx2.out)|(with_reducible apply Kd.S_alloc)|(with_reducible apply Kd.S_drewN)|(with_reducible apply Kd.S_drew))) hb);have n7_:=Aside0.mk (Kd.R_below (by repeat (first|(with_reducible exact Hg0_0.out)|(with_reducible apply Kd.R_alloc)|(with_reducible apply Kd.R_drewN)|(with_reducible apply Kd.R_drew))) hb);have n8_:=Aside0.mk (blk_below (g:=w11.heap.size) (o := .cells #[.slice Bg0_0 r0_0.length dg0_0, .int .i64 r0_1] 32) (by repeat (first|(with_reducible exact BXg.out)|(with_reducible refine blk_drewN ?_ _)|(with_reducible refine blk_drew ?_)|(with_reducible refine blk_alloc ?_ _))) hb);have n9_:=Aside0.mk (Kd.R_below (by repeat (first|(with_reducible exact Ht1_0.out)|(with_reducible apply Kd.R_alloc)|(with_reducible apply Kd.R_drewN)|(with_reducible apply Kd.R_drew))) hb);have nb_:=Aside0.mk (below_step (by repeat (first|(with_reducible exact HB.out)|(with_reducible apply below_alloc)|(with_reducible apply pw_below_drewN)|(with_reducible apply below_drew1))) hb);have zw_:=hb.size;(try simp only[World.size_alloc,size_drew_,size_drewN_] at zw_);have ZW16:=Aside0.mk zw_;clear zw_;clear HB Hw0_0 BXw Hx0_0 BXx0 Hx1_0 BXx1 Hx2 Hg0_0 BXg Ht1_0;have HB:=nb_;have Hw0_0:=n0_;have BXw:=n1_;have Hx0_0:=n2_;have BXx0:=n3_;have Hx1_0:=n4_;have BXx1:=n5_;have Hx2:=n6_;have Hg0_0:=n7_;have BXg:=n8_;have Ht1_0:=n9_;clear nb_ n0_ n1_ n2_ n3_ n4_ n5_ n6_ n7_ n8_ n9_;clear hb;clear xa0_0 xa0_1 xa0_2 xa1_0 xa1_1 BXwc0 BXwc1 BXx0c0 BXx0c1 BXx0c2 BXx1c0 BXx1c1 BXgc0 BXgc1 hzA hzBXw hzBXx0 hzBXx1 hzBXg;have xa0_0:w16.cell? ⟨w.heap.size,0,none⟩=some (.slice A0_0 l0_0.length c0_0):=(blk_cell (blk_below PA0.out HB.out) 0).trans rfl;have xa0_1:w16.cell? ⟨w.heap.size,1,none⟩=some (.int .i64 a0_1):=(blk_cell (blk_below PA0.out HB.out) 1).trans rfl;have xa0_2:w16.cell? ⟨w.heap.size,2,none⟩=some (.int .i64 a0_2):=(blk_cell (blk_below PA0.out HB.out) 2).trans rfl;have xa1_0:w16.cell? ⟨w.heap.size+1,0,none⟩=some (.slice A1_0 l1_0.length c1_0):=(blk_cell (blk_below PA1.out HB.out) 0).trans rfl;have xa1_1:w16.cell? ⟨w.heap.size+1,1,none⟩=some (.int .i64 a1_1):=(blk_cell (blk_below PA1.out HB.out) 1).trans rfl;have BXwc0:w16.cell? ⟨bw,0,none⟩=some (.slice Bw0_0 r0_0.length dw0_0):=(blk_cell BXw.out 0).trans rfl;have BXwc1:w16.cell? ⟨bw,1,none⟩=some (.int .i64 r0_1):=(blk_cell BXw.out 1).trans rfl;have BXx0c0:w16.cell? ⟨w8.heap.size,0,none⟩=some (.slice Bx0_0 l0_0.length dx0_0):=(blk_cell BXx0.out 0).trans rfl;have BXx0c1:w16.cell? ⟨w8.heap.size,1,none⟩=some (.int .i64 a0_1):=(blk_cell BXx0.out 1).trans rfl;have BXx0c2:w16.cell? ⟨w8.heap.size,2,none⟩=some (.int .i64 a0_2):=(blk_cell BXx0.out 2).trans rfl;have BXx1c0:w16.cell? ⟨w9.heap.size,0,none⟩=some (.slice Bx1_0 l1_0.length dx1_0):=(blk_cell BXx1.out 0).trans rfl;have BXx1c1:w16.cell? ⟨w9.heap.size,1,none⟩=some (.int .i64 a1_1):=(blk_cell BXx1.out 1).trans rfl;have BXgc0:w16.cell? ⟨w11.heap.size,0,none⟩=some (.slice Bg0_0 r0_0.length dg0_0):=(blk_cell BXg.out 0).trans rfl;have BXgc1:w16.cell? ⟨w11.heap.size,1,none⟩=some (.int .i64 r0_1):=(blk_cell BXg.out 1).trans rfl;have hzA:w.heap.size+1 < w16.heap.size:=Nat.lt_of_lt_of_le (blk_lt PA1.out) HB.out.size;have hzBXw:bw < w16.heap.size:=blk_lt BXw.out;have hzBXx0:w8.heap.size < w16.heap.size:=blk_lt BXx0.out;have hzBXx1:w9.heap.size < w16.heap.size:=blk_lt BXx1.out;have hzBXg:w11.heap.size < w16.heap.size:=blk_lt BXg.out)))
  clear Ht1_0
  go_wp2_with fail
  go_at_call 11
  refine (laws_toIntSSS.calls k4 _ _ l2 l2 _ ?s17_hr0 ?s17_hc0 XhT2.out).mono ?_
  (case s17_hr0=>exact Kd.C_below RA2.out (by repeat (first|(with_reducible exact HB.out)|(with_reducible apply below_alloc)|(with_reducible apply pw_below_drewN)|(with_reducible apply below_drew1))))
  (case s17_hc0=>exact hc2)
  rintro e w17 ⟨vt2,rfl,ht2,hb⟩
  obtain ⟨Bt2,dt2,et2⟩:=Kd.S_slice ht2
  subst et2
  have n0_:=Aside0.mk (Kd.F_below (by repeat (first|(with_reducible exact Hw0_0.out)|(with_reducible apply Kd.F_alloc)|(with_reducible apply Kd.F_drewN)|(with_reducible apply Kd.F_drew))) hb)
  have n1_:=Aside0.mk (blk_below (g:=bw) (o := .cells #[.slice Bw0_0 r0_0.length dw0_0, .int .i64 r0_1] 32) (by repeat (first|(with_reducible exact BXw.out)|(with_reducible refine blk_drewN ?_ _)|(with_reducible refine blk_drew ?_)|(with_reducible refine blk_alloc ?_ _))) hb)
  have n2_:=Aside0.mk (Kd.R_below (by repeat (first|(with_reducible exact Hx0_0.out)|(with_reducible apply Kd.R_alloc)|(with_reducible apply Kd.R_drewN)|(with_reducible apply Kd.R_drew))) hb)
  have n3_:=Aside0.mk (blk_below (g:=w8.heap.size) (o := .cells #[.slice Bx0_0 l0_0.length dx0_0, .int .i64 a0_1, .int .i64 a0_2] 35) (by repeat (first|(with_reducible exact BXx0.out)|(with_reducible refine blk_drewN ?_ _)|(with_reducible refine blk_drew ?_)|(with_reducible refine blk_alloc ?_ _))) hb)
  have n4_:=Aside0.mk (Kd.R_below (by repeat (first|(with_reducible exact Hx1_0.out)|(with_reducible apply Kd.R_alloc)|(with_reducible apply Kd.R_drewN)|(with_reducible apply Kd.R_drew))) hb)
  have n5_:=Aside0.mk (blk_below (g:=w9.heap.size) (o := .cells #[.slice Bx1_0 l1_0.length dx1_0, .int .i64 a1_1] 32) (by repeat (first|(with_reducible exact BXx1.out)|(with_reducible refine blk_drewN ?_ _)|(with_reducible refine blk_drew ?_)|(with_reducible refine blk_alloc ?_ _))) hb)
  have n6_:=Aside0.mk (Kd.S_below (by repeat (first|(with_reducible exact Hx2.out)|(with_reducible apply Kd.S_alloc)|(with_reducible apply Kd.S_drewN)|(with_reducible apply Kd.S_drew))) hb)
  have n7_:=Aside0.mk (Kd.R_below (by repeat (first|(with_reducible exact Hg0_0.out)|(with_reducible apply Kd.R_alloc)|(with_reducible apply Kd.R_drewN)|(with_reducible apply Kd.R_drew))) hb)
  have n8_:=Aside0.mk (blk_below (g:=w11.heap.size) (o := .cells #[.slice Bg0_0 r0_0.length dg0_0, .int .i64 r0_1] 32) (by repeat (first|(with_reducible exact BXg.out)|(with_reducible refine blk_drewN ?_ _)|(with_reducible refine blk_drew ?_)|(with_reducible refine blk_alloc ?_ _))) hb)
  have nb_:=Aside0.mk (below_step (by repeat (first|(with_reducible exact HB.out)|(with_reducible apply below_alloc)|(with_reducible apply pw_below_drewN)|(with_reducible apply below_drew1))) hb)
  have zw_:=hb.size
  (try simp only[World.size_alloc,size_drew_,size_drewN_] at zw_)
  have ZW17:=Aside0.mk zw_
  clear zw_
  clear HB Hw0_0 BXw Hx0_0 BXx0 Hx1_0 BXx1 Hx2 Hg0_0 BXg
  have HB:=nb_
  have Hw0_0:=n0_
  have BXw:=n1_
  have Hx0_0:=n2_
  have BXx0:=n3_
  have Hx1_0:=n4_
  have BXx1:=n5_
  have Hx2:=n6_
  have Hg0_0:=n7_
  have BXg:=n8_
  clear nb_ n0_ n1_ n2_ n3_ n4_ n5_ n6_ n7_ n8_
  have Ht2:=Aside0.mk ht2
  clear ht2
  clear hb
  clear xa0_0 xa0_1 xa0_2 xa1_0 xa1_1 BXwc0 BXwc1 BXx0c0 BXx0c1 BXx0c2 BXx1c0 BXx1c1 BXgc0 BXgc1 hzA hzBXw hzBXx0 hzBXx1 hzBXg
  have xa0_0:w17.cell? ⟨w.heap.size,0,none⟩=some (.slice A0_0 l0_0.length c0_0):=(blk_cell (blk_below PA0.out HB.out) 0).trans rfl
  have xa0_1:w17.cell? ⟨w.heap.size,1,none⟩=some (.int .i64 a0_1):=(blk_cell (blk_below PA0.out HB.out) 1).trans rfl
  have xa0_2:w17.cell? ⟨w.heap.size,2,none⟩=some (.int .i64 a0_2):=(blk_cell (blk_below PA0.out HB.out) 2).trans rfl
  have xa1_0:w17.cell? ⟨w.heap.size+1,0,none⟩=some (.slice A1_0 l1_0.length c1_0):=(blk_cell (blk_below PA1.out HB.out) 0).trans rfl
  have xa1_1:w17.cell? ⟨w.heap.size+1,1,none⟩=some (.int .i64 a1_1):=(blk_cell (blk_below PA1.out HB.out) 1).trans rfl
  have BXwc0:w17.cell? ⟨bw,0,none⟩=some (.slice Bw0_0 r0_0.length dw0_0):=(blk_cell BXw.out 0).trans rfl
  have BXwc1:w17.cell? ⟨bw,1,none⟩=some (.int .i64 r0_1):=(blk_cell BXw.out 1).trans rfl
  have BXx0c0:w17.cell? ⟨w8.heap.size,0,none⟩=some (.slice Bx0_0 l0_0.length dx0_0):=(blk_cell BXx0.out 0).trans rfl
  have BXx0c1:w17.cell? ⟨w8.heap.size,1,none⟩=some (.int .i64 a0_1):=(blk_cell BXx0.out 1).trans rfl
  have BXx0c2:w17.cell? ⟨w8.heap.size,2,none⟩=some (.int .i64 a0_2):=(blk_cell BXx0.out 2).trans rfl
  have BXx1c0:w17.cell? ⟨w9.heap.size,0,none⟩=some (.slice Bx1_0 l1_0.length dx1_0):=(blk_cell BXx1.out 0).trans rfl
  have BXx1c1:w17.cell? ⟨w9.heap.size,1,none⟩=some (.int .i64 a1_1):=(blk_cell BXx1.out 1).trans rfl
  have BXgc0:w17.cell? ⟨w11.heap.size,0,none⟩=some (.slice Bg0_0 r0_0.length dg0_0):=(blk_cell BXg.out 0).trans rfl
  have BXgc1:w17.cell? ⟨w11.heap.size,1,none⟩=some (.int .i64 r0_1):=(blk_cell BXg.out 1).trans rfl
  have hzA:w.heap.size+1 < w17.heap.size:=Nat.lt_of_lt_of_le (blk_lt PA1.out) HB.out.size
  have hzBXw:bw < w17.heap.size:=blk_lt BXw.out
  have hzBXx0:w8.heap.size < w17.heap.size:=blk_lt BXx0.out
  have hzBXx1:w9.heap.size < w17.heap.size:=blk_lt BXx1.out
  have hzBXg:w11.heap.size < w17.heap.size:=blk_lt BXg.out
  go_wp2_with fail
  go_at_call 15
  refine (laws_eqIntSSS.calls k10 _ _ l2 _ _ l2 true _ ?s18_hr0 ?s18_hc0 ?s18_hr1 ?s18_hc1 XhEA2.out).mono ?_
  (case s18_hr0=>exact (Kd.S_reads' (d:=(Kd.sliceS 22 (Kd.slice 3 (Kd.int .i64)))) (by repeat (first|(with_reducible exact Hx2.out)|(with_reducible apply Kd.S_alloc)|(with_reducible apply Kd.S_drewN)|(with_reducible apply Kd.S_drew)))).2.2)
  (case s18_hc0=>exact (Kd.S_reads' Hx2.out).2.1)
  (case s18_hr1=>exact (Kd.S_reads' (d:=(Kd.sliceS 22 (Kd.slice 3 (Kd.int .i64)))) (by repeat (first|(with_reducible exact Ht2.out)|(with_reducible apply Kd.S_alloc)|(with_reducible apply Kd.S_drewN)|(with_reducible apply Kd.S_drew)))).2.2)
  (case s18_hc1=>exact (Kd.S_reads' Ht2.out).2.1)
  rintro e w18 ⟨rfl,hb0⟩
  have hb:=Drawn0.below hb0
  clear hb0
  have n0_:=Aside0.mk (Kd.F_below (by repeat (first|(with_reducible exact Hw0_0.out)|(with_reducible apply Kd.F_alloc)|(with_reducible apply Kd.F_drewN)|(with_reducible apply Kd.F_drew))) hb)
  have n1_:=Aside0.mk (blk_below (g:=bw) (o := .cells #[.slice Bw0_0 r0_0.length dw0_0, .int .i64 r0_1] 32) (by repeat (first|(with_reducible exact BXw.out)|(with_reducible refine blk_drewN ?_ _)|(with_reducible refine blk_drew ?_)|(with_reducible refine blk_alloc ?_ _))) hb)
  have n2_:=Aside0.mk (Kd.R_below (by repeat (first|(with_reducible exact Hx0_0.out)|(with_reducible apply Kd.R_alloc)|(with_reducible apply Kd.R_drewN)|(with_reducible apply Kd.R_drew))) hb)
  have n3_:=Aside0.mk (blk_below (g:=w8.heap.size) (o := .cells #[.slice Bx0_0 l0_0.length dx0_0, .int .i64 a0_1, .int .i64 a0_2] 35) (by repeat (first|(with_reducible exact BXx0.out)|(with_reducible refine blk_drewN ?_ _)|(with_reducible refine blk_drew ?_)|(with_reducible refine blk_alloc ?_ _))) hb)
  have n4_:=Aside0.mk (Kd.R_below (by repeat (first|(with_reducible exact Hx1_0.out)|(with_reducible apply Kd.R_alloc)|(with_reducible apply Kd.R_drewN)|(with_reducible apply Kd.R_drew))) hb)
  have n5_:=Aside0.mk (blk_below (g:=w9.heap.size) (o := .cells #[.slice Bx1_0 l1_0.length dx1_0, .int .i64 a1_1] 32) (by repeat (first|(with_reducible exact BXx1.out)|(with_reducible refine blk_drewN ?_ _)|(with_reducible refine blk_drew ?_)|(with_reducible refine blk_alloc ?_ _))) hb)
  have n6_:=Aside0.mk (Kd.S_below (by repeat (first|(with_reducible exact Hx2.out)|(with_reducible apply Kd.S_alloc)|(with_reducible apply Kd.S_drewN)|(with_reducible apply Kd.S_drew))) hb)
  have n7_:=Aside0.mk (Kd.R_below (by repeat (first|(with_reducible exact Hg0_0.out)|(with_reducible apply Kd.R_alloc)|(with_reducible apply Kd.R_drewN)|(with_reducible apply Kd.R_drew))) hb)
  have n8_:=Aside0.mk (blk_below (g:=w11.heap.size) (o := .cells #[.slice Bg0_0 r0_0.length dg0_0, .int .i64 r0_1] 32) (by repeat (first|(with_reducible exact BXg.out)|(with_reducible refine blk_drewN ?_ _)|(with_reducible refine blk_drew ?_)|(with_reducible refine blk_alloc ?_ _))) hb)
  have n9_:=Aside0.mk (Kd.S_below (by repeat (first|(with_reducible exact Ht2.out)|(with_reducible apply Kd.S_alloc)|(with_reducible apply Kd.S_drewN)|(with_reducible apply Kd.S_drew))) hb)
  have nb_:=Aside0.mk (below_step (by repeat (first|(with_reducible exact HB.out)|(with_reducible apply below_alloc)|(with_reducible apply pw_below_drewN)|(with_reducible apply below_drew1))) hb)
  have zw_:=hb.size
  (try simp only[World.size_alloc,size_drew_,size_drewN_] at zw_)
  have ZW18:=Aside0.mk zw_
  clear zw_
  clear HB Hw0_0 BXw Hx0_0 BXx0 Hx1_0 BXx1 Hx2 Hg0_0 BXg Ht2
  have HB:=nb_
  have Hw0_0:=n0_
  have BXw:=n1_
  have Hx0_0:=n2_
  have BXx0:=n3_
  have Hx1_0:=n4_
  have BXx1:=n5_
  have Hx2:=n6_
  have Hg0_0:=n7_
  have BXg:=n8_
  have Ht2:=n9_
  clear nb_ n0_ n1_ n2_ n3_ n4_ n5_ n6_ n7_ n8_ n9_
  clear hb
  clear xa0_0 xa0_1 xa0_2 xa1_0 xa1_1 BXwc0 BXwc1 BXx0c0 BXx0c1 BXx0c2 BXx1c0 BXx1c1 BXgc0 BXgc1 hzA hzBXw hzBXx0 hzBXx1 hzBXg
  have xa0_0:w18.cell? ⟨w.heap.size,0,none⟩=some (.slice A0_0 l0_0.length c0_0):=(blk_cell (blk_below PA0.out HB.out) 0).trans rfl
  have xa0_1:w18.cell? ⟨w.heap.size,1,none⟩=some (.int .i64 a0_1):=(blk_cell (blk_below PA0.out HB.out) 1).trans rfl
  have xa0_2:w18.cell? ⟨w.heap.size,2,none⟩=some (.int .i64 a0_2):=(blk_cell (blk_below PA0.out HB.out) 2).trans rfl
  have xa1_0:w18.cell? ⟨w.heap.size+1,0,none⟩=some (.slice A1_0 l1_0.length c1_0):=(blk_cell (blk_below PA1.out HB.out) 0).trans rfl
  have xa1_1:w18.cell? ⟨w.heap.size+1,1,none⟩=some (.int .i64 a1_1):=(blk_cell (blk_below PA1.out HB.out) 1).trans rfl
  have BXwc0:w18.cell? ⟨bw,0,none⟩=some (.slice Bw0_0 r0_0.length dw0_0):=(blk_cell BXw.out 0).trans rfl
  have BXwc1:w18.cell? ⟨bw,1,none⟩=some (.int .i64 r0_1):=(blk_cell BXw.out 1).trans rfl
  have BXx0c0:w18.cell? ⟨w8.heap.size,0,none⟩=some (.slice Bx0_0 l0_0.length dx0_0):=(blk_cell BXx0.out 0).trans rfl
  have BXx0c1:w18.cell? ⟨w8.heap.size,1,none⟩=some (.int .i64 a0_1):=(blk_cell BXx0.out 1).trans rfl
  have BXx0c2:w18.cell? ⟨w8.heap.size,2,none⟩=some (.int .i64 a0_2):=(blk_cell BXx0.out 2).trans rfl
  have BXx1c0:w18.cell? ⟨w9.heap.size,0,none⟩=some (.slice Bx1_0 l1_0.length dx1_0):=(blk_cell BXx1.out 0).trans rfl
  have BXx1c1:w18.cell? ⟨w9.heap.size,1,none⟩=some (.int .i64 a1_1):=(blk_cell BXx1.out 1).trans rfl
  have BXgc0:w18.cell? ⟨w11.heap.size,0,none⟩=some (.slice Bg0_0 r0_0.length dg0_0):=(blk_cell BXg.out 0).trans rfl
  have BXgc1:w18.cell? ⟨w11.heap.size,1,none⟩=some (.int .i64 r0_1):=(blk_cell BXg.out 1).trans rfl
  have hzA:w.heap.size+1 < w18.heap.size:=Nat.lt_of_lt_of_le (blk_lt PA1.out) HB.out.size
  have hzBXw:bw < w18.heap.size:=blk_lt BXw.out
  have hzBXx0:w8.heap.size < w18.heap.size:=blk_lt BXx0.out
  have hzBXx1:w9.heap.size < w18.heap.size:=blk_lt BXx1.out
  have hzBXg:w11.heap.size < w18.heap.size:=blk_lt BXg.out
  clear Ht2
  go_wp2_with fail
  go_at_call 16
  refine (laws_markNight.calls k11 (fun k_=>lox0_0≤k_∧k_ < hix0_0) _ l0_0 a0_1 a0_2 1 m0 yx0_0 wA _ ?s19_hB ?s19_ho0_0 XhM0.out).mono ?_
  (case s19_hB=>exact (by repeat (first|(with_reducible exact HB.out)|(with_reducible apply below_alloc)|(with_reducible apply pw_below_drewN)|(with_reducible apply below_drew1))))
  (case s19_ho0_0=>exact (by repeat (first|(with_reducible exact Hx0_0.out)|(with_reducible apply Kd.R_alloc)|(with_reducible apply Kd.R_drewN)|(with_reducible apply Kd.R_drew))))
  rintro e w19 ⟨rfl,hx0_0,hb,hk⟩
  have n0_:=Aside0.mk (Kd.F_kept (by repeat (first|(with_reducible exact Hw0_0.out)|(with_reducible apply Kd.F_alloc)|(with_reducible apply Kd.F_drewN)|(with_reducible apply Kd.F_drew))) hk (fun k_ h_ p_=>by have qZW1:=ZW1.out;have qZW2:=ZW2.out;have qZW3:=ZW3.out;have qZSw0_0:=ZSw0_0.out;have qZBw:=ZBw.out;have qZx0_0:=Zx0_0.out;have qZW8:=ZW8.out;have qZx1_0:=Zx1_0.out;have qZW9:=ZW9.out;have qZx2:=Zx2.out;have qZW10:=ZW10.out;have qZg0_0:=Zg0_0.out;have qZW11:=ZW11.out;have qZW12:=ZW12.out;have qZW13:=ZW13.out;have qZW14:=ZW14.out;have qZW15:=ZW15.out;have qZW16:=ZW16.out;have qZW17:=ZW17.out;have qZW18:=ZW18.out;(try dsimp only at h_ p_);omega))
  have n1_:=Aside0.mk (blk_kept (g:=bw) (o := .cells #[.slice Bw0_0 r0_0.length dw0_0, .int .i64 r0_1] 32) (by repeat (first|(with_reducible exact BXw.out)|(with_reducible refine blk_drewN ?_ _)|(with_reducible refine blk_drew ?_)|(with_reducible refine blk_alloc ?_ _))) hk (fun p_=>by have qZW1:=ZW1.out;have qZW2:=ZW2.out;have qZW3:=ZW3.out;have qZSw0_0:=ZSw0_0.out;have qZBw:=ZBw.out;have qZx0_0:=Zx0_0.out;have qZW8:=ZW8.out;have qZx1_0:=Zx1_0.out;have qZW9:=ZW9.out;have qZx2:=Zx2.out;have qZW10:=ZW10.out;have qZg0_0:=Zg0_0.out;have qZW11:=ZW11.out;have qZW12:=ZW12.out;have qZW13:=ZW13.out;have qZW14:=ZW14.out;have qZW15:=ZW15.out;have qZW16:=ZW16.out;have qZW17:=ZW17.out;have qZW18:=ZW18.out;(try dsimp only at p_);omega))
  have n3_:=Aside0.mk (blk_kept (g:=w8.heap.size) (o := .cells #[.slice Bx0_0 l0_0.length dx0_0, .int .i64 a0_1, .int .i64 a0_2] 35) (by repeat (first|(with_reducible exact BXx0.out)|(with_reducible refine blk_drewN ?_ _)|(with_reducible refine blk_drew ?_)|(with_reducible refine blk_alloc ?_ _))) hk (fun p_=>by have qZW1:=ZW1.out;have qZW2:=ZW2.out;have qZW3:=ZW3.out;have qZSw0_0:=ZSw0_0.out;have qZBw:=ZBw.out;have qZx0_0:=Zx0_0.out;have qZW8:=ZW8.out;have qZx1_0:=Zx1_0.out;have qZW9:=ZW9.out;have qZx2:=Zx2.out;have qZW10:=ZW10.out;have qZg0_0:=Zg0_0.out;have qZW11:=ZW11.out;have qZW12:=ZW12.out;have qZW13:=ZW13.out;have qZW14:=ZW14.out;have qZW15:=ZW15.out;have qZW16:=ZW16.out;have qZW17:=ZW17.out;have qZW18:=ZW18.out;(try dsimp only at p_);omega))
  have n4_:=Aside0.mk (Kd.R_kept (by repeat (first|(with_reducible exact Hx1_0.out)|(with_reducible apply Kd.R_alloc)|(with_reducible apply Kd.R_drewN)|(with_reducible apply Kd.R_drew))) hk (fun k_ h_ p_=>by have qZW1:=ZW1.out;have qZW2:=ZW2.out;have qZW3:=ZW3.out;have qZSw0_0:=ZSw0_0.out;have qZBw:=ZBw.out;have qZx0_0:=Zx0_0.out;have qZW8:=ZW8.out;have qZx1_0:=Zx1_0.out;have qZW9:=ZW9.out;have qZx2:=Zx2.out;have qZW10:=ZW10.out;have qZg0_0:=Zg0_0.out;have qZW11:=ZW11.out;have qZW12:=ZW12.out;have qZW13:=ZW13.out;have qZW14:=ZW14.out;have qZW15:=ZW15.out;have qZW16:=ZW16.out;have qZW17:=ZW17.out;have qZW18:=ZW18.out;(try dsimp only at h_ p_);omega))
  have n5_:=Aside0.mk (blk_kept (g:=w9.heap.size) (o := .cells #[.slice Bx1_0 l1_0.length dx1_0, .int .i64 a1_1] 32) (by repeat (first|(with_reducible exact BXx1.out)|(with_reducible refine blk_drewN ?_ _)|(with_reducible refine blk_drew ?_)|(with_reducible refine blk_alloc ?_ _))) hk (fun p_=>by have qZW1:=ZW1.out;have qZW2:=ZW2.out;have qZW3:=ZW3.out;have qZSw0_0:=ZSw0_0.out;have qZBw:=ZBw.out;have qZx0_0:=Zx0_0.out;have qZW8:=ZW8.out;have qZx1_0:=Zx1_0.out;have qZW9:=ZW9.out;have qZx2:=Zx2.out;have qZW10:=ZW10.out;have qZg0_0:=Zg0_0.out;have qZW11:=ZW11.out;have qZW12:=ZW12.out;have qZW13:=ZW13.out;have qZW14:=ZW14.out;have qZW15:=ZW15.out;have qZW16:=ZW16.out;have qZW17:=ZW17.out;have qZW18:=ZW18.out;(try dsimp only at p_);omega))
  have n6_:=Aside0.mk (Kd.S_kept (by repeat (first|(with_reducible exact Hx2.out)|(with_reducible apply Kd.S_alloc)|(with_reducible apply Kd.S_drewN)|(with_reducible apply Kd.S_drew))) hk (fun k_ h_ p_=>by have qZW1:=ZW1.out;have qZW2:=ZW2.out;have qZW3:=ZW3.out;have qZSw0_0:=ZSw0_0.out;have qZBw:=ZBw.out;have qZx0_0:=Zx0_0.out;have qZW8:=ZW8.out;have qZx1_0:=Zx1_0.out;have qZW9:=ZW9.out;have qZx2:=Zx2.out;have qZW10:=ZW10.out;have qZg0_0:=Zg0_0.out;have qZW11:=ZW11.out;have qZW12:=ZW12.out;have qZW13:=ZW13.out;have qZW14:=ZW14.out;have qZW15:=ZW15.out;have qZW16:=ZW16.out;have qZW17:=ZW17.out;have qZW18:=ZW18.out;(try dsimp only at h_ p_);omega))
  have n7_:=Aside0.mk (Kd.R_kept (by repeat (first|(with_reducible exact Hg0_0.out)|(with_reducible apply Kd.R_alloc)|(with_reducible apply Kd.R_drewN)|(with_reducible apply Kd.R_drew))) hk (fun k_ h_ p_=>by have qZW1:=ZW1.out;have qZW2:=ZW2.out;have qZW3:=ZW3.out;have qZSw0_0:=ZSw0_0.out;have qZBw:=ZBw.out;have qZx0_0:=Zx0_0.out;have qZW8:=ZW8.out;have qZx1_0:=Zx1_0.out;have qZW9:=ZW9.out;have qZx2:=Zx2.out;have qZW10:=ZW10.out;have qZg0_0:=Zg0_0.out;have qZW11:=ZW11.out;have qZW12:=ZW12.out;have qZW13:=ZW13.out;have qZW14:=ZW14.out;have qZW15:=ZW15.out;have qZW16:=ZW16.out;have qZW17:=ZW17.out;have qZW18:=ZW18.out;(try dsimp only at h_ p_);omega))
  have n8_:=Aside0.mk (blk_kept (g:=w11.heap.size) (o := .cells #[.slice Bg0_0 r0_0.length dg0_0, .int .i64 r0_1] 32) (by repeat (first|(with_reducible exact BXg.out)|(with_reducible refine blk_drewN ?_ _)|(with_reducible refine blk_drew ?_)|(with_reducible refine blk_alloc ?_ _))) hk (fun p_=>by have qZW1:=ZW1.out;have qZW2:=ZW2.out;have qZW3:=ZW3.out;have qZSw0_0:=ZSw0_0.out;have qZBw:=ZBw.out;have qZx0_0:=Zx0_0.out;have qZW8:=ZW8.out;have qZx1_0:=Zx1_0.out;have qZW9:=ZW9.out;have qZx2:=Zx2.out;have qZW10:=ZW10.out;have qZg0_0:=Zg0_0.out;have qZW11:=ZW11.out;have qZW12:=ZW12.out;have qZW13:=ZW13.out;have qZW14:=ZW14.out;have qZW15:=ZW15.out;have qZW16:=ZW16.out;have qZW17:=ZW17.out;have qZW18:=ZW18.out;(try dsimp only at p_);omega))
  have zw_:=hk.1
  (try simp only[World.size_alloc,size_drew_,size_drewN_] at zw_)
  have ZW19:=Aside0.mk zw_
  clear zw_
  have HB_:=Aside0.mk hb
  clear HB
  have HB:=HB_
  clear HB_
  clear Hw0_0
  have Hw0_0:=n0_
  clear n0_
  clear BXw
  have BXw:=n1_
  clear n1_
  clear Hx0_0
  have Hx0_0:=Aside0.mk hx0_0
  clear hx0_0
  clear BXx0
  have BXx0:=n3_
  clear n3_
  clear Hx1_0
  have Hx1_0:=n4_
  clear n4_
  clear BXx1
  have BXx1:=n5_
  clear n5_
  clear Hx2
  have Hx2:=n6_
  clear n6_
  clear Hg0_0
  have Hg0_0:=n7_
  clear n7_
  clear BXg
  have BXg:=n8_
  clear n8_
  clear hb hk
  clear Hx0_0
  clear xa0_0 xa0_1 xa0_2 xa1_0 xa1_1 BXwc0 BXwc1 BXx0c0 BXx0c1 BXx0c2 BXx1c0 BXx1c1 BXgc0 BXgc1 hzA hzBXw hzBXx0 hzBXx1 hzBXg
  have xa0_0:w19.cell? ⟨w.heap.size,0,none⟩=some (.slice A0_0 l0_0.length c0_0):=(blk_cell (blk_below PA0.out HB.out) 0).trans rfl
  have xa0_1:w19.cell? ⟨w.heap.size,1,none⟩=some (.int .i64 a0_1):=(blk_cell (blk_below PA0.out HB.out) 1).trans rfl
  have xa0_2:w19.cell? ⟨w.heap.size,2,none⟩=some (.int .i64 a0_2):=(blk_cell (blk_below PA0.out HB.out) 2).trans rfl
  have xa1_0:w19.cell? ⟨w.heap.size+1,0,none⟩=some (.slice A1_0 l1_0.length c1_0):=(blk_cell (blk_below PA1.out HB.out) 0).trans rfl
  have xa1_1:w19.cell? ⟨w.heap.size+1,1,none⟩=some (.int .i64 a1_1):=(blk_cell (blk_below PA1.out HB.out) 1).trans rfl
  have BXwc0:w19.cell? ⟨bw,0,none⟩=some (.slice Bw0_0 r0_0.length dw0_0):=(blk_cell BXw.out 0).trans rfl
  have BXwc1:w19.cell? ⟨bw,1,none⟩=some (.int .i64 r0_1):=(blk_cell BXw.out 1).trans rfl
  have BXx0c0:w19.cell? ⟨w8.heap.size,0,none⟩=some (.slice Bx0_0 l0_0.length dx0_0):=(blk_cell BXx0.out 0).trans rfl
  have BXx0c1:w19.cell? ⟨w8.heap.size,1,none⟩=some (.int .i64 a0_1):=(blk_cell BXx0.out 1).trans rfl
  have BXx0c2:w19.cell? ⟨w8.heap.size,2,none⟩=some (.int .i64 a0_2):=(blk_cell BXx0.out 2).trans rfl
  have BXx1c0:w19.cell? ⟨w9.heap.size,0,none⟩=some (.slice Bx1_0 l1_0.length dx1_0):=(blk_cell BXx1.out 0).trans rfl
  have BXx1c1:w19.cell? ⟨w9.heap.size,1,none⟩=some (.int .i64 a1_1):=(blk_cell BXx1.out 1).trans rfl
  have BXgc0:w19.cell? ⟨w11.heap.size,0,none⟩=some (.slice Bg0_0 r0_0.length dg0_0):=(blk_cell BXg.out 0).trans rfl
  have BXgc1:w19.cell? ⟨w11.heap.size,1,none⟩=some (.int .i64 r0_1):=(blk_cell BXg.out 1).trans rfl
  have hzA:w.heap.size+1 < w19.heap.size:=Nat.lt_of_lt_of_le (blk_lt PA1.out) HB.out.size
  have hzBXw:bw < w19.heap.size:=blk_lt BXw.out
  have hzBXx0:w8.heap.size < w19.heap.size:=blk_lt BXx0.out
  have hzBXx1:w9.heap.size < w19.heap.size:=blk_lt BXx1.out
  have hzBXg:w11.heap.size < w19.heap.size:=blk_lt BXg.out
  go_wp2_with fail
  go_at_call 17
  refine (laws_markCamp.calls k12 (fun k_=>lox1_0≤k_∧k_ < hix1_0) _ l1_0 a1_1 m0 m1 yx1_0 wA _ ?s20_hB ?s20_ho0_0 XhM1.out).mono ?_
  (case s20_hB=>exact (by repeat (first|(with_reducible exact HB.out)|(with_reducible apply below_alloc)|(with_reducible apply pw_below_drewN)|(with_reducible apply below_drew1))))
  (case s20_ho0_0=>exact (by repeat (first|(with_reducible exact Hx1_0.out)|(with_reducible apply Kd.R_alloc)|(with_reducible apply Kd.R_drewN)|(with_reducible apply Kd.R_drew))))
  rintro e w20 ⟨rfl,hx1_0,hb,hk⟩
  have n0_:=Aside0.mk (Kd.F_kept (by repeat (first|(with_reducible exact Hw0_0.out)|(with_reducible apply Kd.F_alloc)|(with_reducible apply Kd.F_drewN)|(with_reducible apply Kd.F_drew))) hk (fun k_ h_ p_=>by have qZW1:=ZW1.out;have qZW2:=ZW2.out;have qZW3:=ZW3.out;have qZSw0_0:=ZSw0_0.out;have qZBw:=ZBw.out;have qZx0_0:=Zx0_0.out;have qZW8:=ZW8.out;have qZx1_0:=Zx1_0.out;have qZW9:=ZW9.out;have qZx2:=Zx2.out;have qZW10:=ZW10.out;have qZg0_0:=Zg0_0.out;have qZW11:=ZW11.out;have qZW12:=ZW12.out;have qZW13:=ZW13.out;have qZW14:=ZW14.out;have qZW15:=ZW15.out;have qZW16:=ZW16.out;have qZW17:=ZW17.out;have qZW18:=ZW18.out;have qZW19:=ZW19.out;(try dsimp only at h_ p_);omega))
  have n1_:=Aside0.mk (blk_kept (g:=bw) (o := .cells #[.slice Bw0_0 r0_0.length dw0_0, .int .i64 r0_1] 32) (by repeat (first|(with_reducible exact BXw.out)|(with_reducible refine blk_drewN ?_ _)|(with_reducible refine blk_drew ?_)|(with_reducible refine blk_alloc ?_ _))) hk (fun p_=>by have qZW1:=ZW1.out;have qZW2:=ZW2.out;have qZW3:=ZW3.out;have qZSw0_0:=ZSw0_0.out;have qZBw:=ZBw.out;have qZx0_0:=Zx0_0.out;have qZW8:=ZW8.out;have qZx1_0:=Zx1_0.out;have qZW9:=ZW9.out;have qZx2:=Zx2.out;have qZW10:=ZW10.out;have qZg0_0:=Zg0_0.out;have qZW11:=ZW11.out;have qZW12:=ZW12.out;have qZW13:=ZW13.out;have qZW14:=ZW14.out;have qZW15:=ZW15.out;have qZW16:=ZW16.out;have qZW17:=ZW17.out;have qZW18:=ZW18.out;have qZW19:=ZW19.out;(try dsimp only at p_);omega))
  have n2_:=Aside0.mk (blk_kept (g:=w8.heap.size) (o := .cells #[.slice Bx0_0 l0_0.length dx0_0, .int .i64 a0_1, .int .i64 a0_2] 35) (by repeat (first|(with_reducible exact BXx0.out)|(with_reducible refine blk_drewN ?_ _)|(with_reducible refine blk_drew ?_)|(with_reducible refine blk_alloc ?_ _))) hk (fun p_=>by have qZW1:=ZW1.out;have qZW2:=ZW2.out;have qZW3:=ZW3.out;have qZSw0_0:=ZSw0_0.out;have qZBw:=ZBw.out;have qZx0_0:=Zx0_0.out;have qZW8:=ZW8.out;have qZx1_0:=Zx1_0.out;have qZW9:=ZW9.out;have qZx2:=Zx2.out;have qZW10:=ZW10.out;have qZg0_0:=Zg0_0.out;have qZW11:=ZW11.out;have qZW12:=ZW12.out;have qZW13:=ZW13.out;have qZW14:=ZW14.out;have qZW15:=ZW15.out;have qZW16:=ZW16.out;have qZW17:=ZW17.out;have qZW18:=ZW18.out;have qZW19:=ZW19.out;(try dsimp only at p_);omega))
  have n4_:=Aside0.mk (blk_kept (g:=w9.heap.size) (o := .cells #[.slice Bx1_0 l1_0.length dx1_0, .int .i64 a1_1] 32) (by repeat (first|(with_reducible exact BXx1.out)|(with_reducible refine blk_drewN ?_ _)|(with_reducible refine blk_drew ?_)|(with_reducible refine blk_alloc ?_ _))) hk (fun p_=>by have qZW1:=ZW1.out;have qZW2:=ZW2.out;have qZW3:=ZW3.out;have qZSw0_0:=ZSw0_0.out;have qZBw:=ZBw.out;have qZx0_0:=Zx0_0.out;have qZW8:=ZW8.out;have qZx1_0:=Zx1_0.out;have qZW9:=ZW9.out;have qZx2:=Zx2.out;have qZW10:=ZW10.out;have qZg0_0:=Zg0_0.out;have qZW11:=ZW11.out;have qZW12:=ZW12.out;have qZW13:=ZW13.out;have qZW14:=ZW14.out;have qZW15:=ZW15.out;have qZW16:=ZW16.out;have qZW17:=ZW17.out;have qZW18:=ZW18.out;have qZW19:=ZW19.out;(try dsimp only at p_);omega))
  have n5_:=Aside0.mk (Kd.S_kept (by repeat (first|(with_reducible exact Hx2.out)|(with_reducible apply Kd.S_alloc)|(with_reducible apply Kd.S_drewN)|(with_reducible apply Kd.S_drew))) hk (fun k_ h_ p_=>by have qZW1:=ZW1.out;have qZW2:=ZW2.out;have qZW3:=ZW3.out;have qZSw0_0:=ZSw0_0.out;have qZBw:=ZBw.out;have qZx0_0:=Zx0_0.out;have qZW8:=ZW8.out;have qZx1_0:=Zx1_0.out;have qZW9:=ZW9.out;have qZx2:=Zx2.out;have qZW10:=ZW10.out;have qZg0_0:=Zg0_0.out;have qZW11:=ZW11.out;have qZW12:=ZW12.out;have qZW13:=ZW13.out;have qZW14:=ZW14.out;have qZW15:=ZW15.out;have qZW16:=ZW16.out;have qZW17:=ZW17.out;have qZW18:=ZW18.out;have qZW19:=ZW19.out;(try dsimp only at h_ p_);omega))
  have n6_:=Aside0.mk (Kd.R_kept (by repeat (first|(with_reducible exact Hg0_0.out)|(with_reducible apply Kd.R_alloc)|(with_reducible apply Kd.R_drewN)|(with_reducible apply Kd.R_drew))) hk (fun k_ h_ p_=>by have qZW1:=ZW1.out;have qZW2:=ZW2.out;have qZW3:=ZW3.out;have qZSw0_0:=ZSw0_0.out;have qZBw:=ZBw.out;have qZx0_0:=Zx0_0.out;have qZW8:=ZW8.out;have qZx1_0:=Zx1_0.out;have qZW9:=ZW9.out;have qZx2:=Zx2.out;have qZW10:=ZW10.out;have qZg0_0:=Zg0_0.out;have qZW11:=ZW11.out;have qZW12:=ZW12.out;have qZW13:=ZW13.out;have qZW14:=ZW14.out;have qZW15:=ZW15.out;have qZW16:=ZW16.out;have qZW17:=ZW17.out;have qZW18:=ZW18.out;have qZW19:=ZW19.out;(try dsimp only at h_ p_);omega))
  have n7_:=Aside0.mk (blk_kept (g:=w11.heap.size) (o := .cells #[.slice Bg0_0 r0_0.length dg0_0, .int .i64 r0_1] 32) (by repeat (first|(with_reducible exact BXg.out)|(with_reducible refine blk_drewN ?_ _)|(with_reducible refine blk_drew ?_)|(with_reducible refine blk_alloc ?_ _))) hk (fun p_=>by have qZW1:=ZW1.out;have qZW2:=ZW2.out;have qZW3:=ZW3.out;have qZSw0_0:=ZSw0_0.out;have qZBw:=ZBw.out;have qZx0_0:=Zx0_0.out;have qZW8:=ZW8.out;have qZx1_0:=Zx1_0.out;have qZW9:=ZW9.out;have qZx2:=Zx2.out;have qZW10:=ZW10.out;have qZg0_0:=Zg0_0.out;have qZW11:=ZW11.out;have qZW12:=ZW12.out;have qZW13:=ZW13.out;have qZW14:=ZW14.out;have qZW15:=ZW15.out;have qZW16:=ZW16.out;have qZW17:=ZW17.out;have qZW18:=ZW18.out;have qZW19:=ZW19.out;(try dsimp only at p_);omega))
  have zw_:=hk.1
  (try simp only[World.size_alloc,size_drew_,size_drewN_] at zw_)
  have ZW20:=Aside0.mk zw_
  clear zw_
  have HB_:=Aside0.mk hb
  clear HB
  have HB:=HB_
  clear HB_
  clear Hw0_0
  have Hw0_0:=n0_
  clear n0_
  clear BXw
  have BXw:=n1_
  clear n1_
  clear BXx0
  have BXx0:=n2_
  clear n2_
  clear Hx1_0
  have Hx1_0:=Aside0.mk hx1_0
  clear hx1_0
  clear BXx1
  have BXx1:=n4_
  clear n4_
  clear Hx2
  have Hx2:=n5_
  clear n5_
  clear Hg0_0
  have Hg0_0:=n6_
  clear n6_
  clear BXg
  have BXg:=n7_
  clear n7_
  clear hb hk
  clear Hx1_0
  clear xa0_0 xa0_1 xa0_2 xa1_0 xa1_1 BXwc0 BXwc1 BXx0c0 BXx0c1 BXx0c2 BXx1c0 BXx1c1 BXgc0 BXgc1 hzA hzBXw hzBXx0 hzBXx1 hzBXg
  have xa0_0:w20.cell? ⟨w.heap.size,0,none⟩=some (.slice A0_0 l0_0.length c0_0):=(blk_cell (blk_below PA0.out HB.out) 0).trans rfl
  have xa0_1:w20.cell? ⟨w.heap.size,1,none⟩=some (.int .i64 a0_1):=(blk_cell (blk_below PA0.out HB.out) 1).trans rfl
  have xa0_2:w20.cell? ⟨w.heap.size,2,none⟩=some (.int .i64 a0_2):=(blk_cell (blk_below PA0.out HB.out) 2).trans rfl
  have xa1_0:w20.cell? ⟨w.heap.size+1,0,none⟩=some (.slice A1_0 l1_0.length c1_0):=(blk_cell (blk_below PA1.out HB.out) 0).trans rfl
  have xa1_1:w20.cell? ⟨w.heap.size+1,1,none⟩=some (.int .i64 a1_1):=(blk_cell (blk_below PA1.out HB.out) 1).trans rfl
  have BXwc0:w20.cell? ⟨bw,0,none⟩=some (.slice Bw0_0 r0_0.length dw0_0):=(blk_cell BXw.out 0).trans rfl
  have BXwc1:w20.cell? ⟨bw,1,none⟩=some (.int .i64 r0_1):=(blk_cell BXw.out 1).trans rfl
  have BXx0c0:w20.cell? ⟨w8.heap.size,0,none⟩=some (.slice Bx0_0 l0_0.length dx0_0):=(blk_cell BXx0.out 0).trans rfl
  have BXx0c1:w20.cell? ⟨w8.heap.size,1,none⟩=some (.int .i64 a0_1):=(blk_cell BXx0.out 1).trans rfl
  have BXx0c2:w20.cell? ⟨w8.heap.size,2,none⟩=some (.int .i64 a0_2):=(blk_cell BXx0.out 2).trans rfl
  have BXx1c0:w20.cell? ⟨w9.heap.size,0,none⟩=some (.slice Bx1_0 l1_0.length dx1_0):=(blk_cell BXx1.out 0).trans rfl
  have BXx1c1:w20.cell? ⟨w9.heap.size,1,none⟩=some (.int .i64 a1_1):=(blk_cell BXx1.out 1).trans rfl
  have BXgc0:w20.cell? ⟨w11.heap.size,0,none⟩=some (.slice Bg0_0 r0_0.length dg0_0):=(blk_cell BXg.out 0).trans rfl
  have BXgc1:w20.cell? ⟨w11.heap.size,1,none⟩=some (.int .i64 r0_1):=(blk_cell BXg.out 1).trans rfl
  have hzA:w.heap.size+1 < w20.heap.size:=Nat.lt_of_lt_of_le (blk_lt PA1.out) HB.out.size
  have hzBXw:bw < w20.heap.size:=blk_lt BXw.out
  have hzBXx0:w8.heap.size < w20.heap.size:=blk_lt BXx0.out
  have hzBXx1:w9.heap.size < w20.heap.size:=blk_lt BXx1.out
  have hzBXg:w11.heap.size < w20.heap.size:=blk_lt BXg.out
  go_wp2_with fail
  go_at_call 18
  refine (laws_markIntSSS.calls (fun k_=>lox2≤k_∧k_ < hix2) _ l2 m1 m2 yx2 wA _ ?s21_hB ?s21_ho0 XhM2.out).mono ?_
  (case s21_hB=>exact (by repeat (first|(with_reducible exact HB.out)|(with_reducible apply below_alloc)|(with_reducible apply pw_below_drewN)|(with_reducible apply below_drew1))))
  (case s21_ho0=>exact (by repeat (first|(with_reducible exact Hx2.out)|(with_reducible apply Kd.S_alloc)|(with_reducible apply Kd.S_drewN)|(with_reducible apply Kd.S_drew))))
  rintro e w21 ⟨rfl,hx2,hb,hk⟩
  have n0_:=Aside0.mk (Kd.F_kept (by repeat (first|(with_reducible exact Hw0_0.out)|(with_reducible apply Kd.F_alloc)|(with_reducible apply Kd.F_drewN)|(with_reducible apply Kd.F_drew))) hk (fun k_ h_ p_=>by have qZW1:=ZW1.out;have qZW2:=ZW2.out;have qZW3:=ZW3.out;have qZSw0_0:=ZSw0_0.out;have qZBw:=ZBw.out;have qZx0_0:=Zx0_0.out;have qZW8:=ZW8.out;have qZx1_0:=Zx1_0.out;have qZW9:=ZW9.out;have qZx2:=Zx2.out;have qZW10:=ZW10.out;have qZg0_0:=Zg0_0.out;have qZW11:=ZW11.out;have qZW12:=ZW12.out;have qZW13:=ZW13.out;have qZW14:=ZW14.out;have qZW15:=ZW15.out;have qZW16:=ZW16.out;have qZW17:=ZW17.out;have qZW18:=ZW18.out;have qZW19:=ZW19.out;have qZW20:=ZW20.out;(try dsimp only at h_ p_);omega))
  have n1_:=Aside0.mk (blk_kept (g:=bw) (o := .cells #[.slice Bw0_0 r0_0.length dw0_0, .int .i64 r0_1] 32) (by repeat (first|(with_reducible exact BXw.out)|(with_reducible refine blk_drewN ?_ _)|(with_reducible refine blk_drew ?_)|(with_reducible refine blk_alloc ?_ _))) hk (fun p_=>by have qZW1:=ZW1.out;have qZW2:=ZW2.out;have qZW3:=ZW3.out;have qZSw0_0:=ZSw0_0.out;have qZBw:=ZBw.out;have qZx0_0:=Zx0_0.out;have qZW8:=ZW8.out;have qZx1_0:=Zx1_0.out;have qZW9:=ZW9.out;have qZx2:=Zx2.out;have qZW10:=ZW10.out;have qZg0_0:=Zg0_0.out;have qZW11:=ZW11.out;have qZW12:=ZW12.out;have qZW13:=ZW13.out;have qZW14:=ZW14.out;have qZW15:=ZW15.out;have qZW16:=ZW16.out;have qZW17:=ZW17.out;have qZW18:=ZW18.out;have qZW19:=ZW19.out;have qZW20:=ZW20.out;(try dsimp only at p_);omega))
  have n2_:=Aside0.mk (blk_kept (g:=w8.heap.size) (o := .cells #[.slice Bx0_0 l0_0.length dx0_0, .int .i64 a0_1, .int .i64 a0_2] 35) (by repeat (first|(with_reducible exact BXx0.out)|(with_reducible refine blk_drewN ?_ _)|(with_reducible refine blk_drew ?_)|(with_reducible refine blk_alloc ?_ _))) hk (fun p_=>by have qZW1:=ZW1.out;have qZW2:=ZW2.out;have qZW3:=ZW3.out;have qZSw0_0:=ZSw0_0.out;have qZBw:=ZBw.out;have qZx0_0:=Zx0_0.out;have qZW8:=ZW8.out;have qZx1_0:=Zx1_0.out;have qZW9:=ZW9.out;have qZx2:=Zx2.out;have qZW10:=ZW10.out;have qZg0_0:=Zg0_0.out;have qZW11:=ZW11.out;have qZW12:=ZW12.out;have qZW13:=ZW13.out;have qZW14:=ZW14.out;have qZW15:=ZW15.out;have qZW16:=ZW16.out;have qZW17:=ZW17.out;have qZW18:=ZW18.out;have qZW19:=ZW19.out;have qZW20:=ZW20.out;(try dsimp only at p_);omega))
  have n3_:=Aside0.mk (blk_kept (g:=w9.heap.size) (o := .cells #[.slice Bx1_0 l1_0.length dx1_0, .int .i64 a1_1] 32) (by repeat (first|(with_reducible exact BXx1.out)|(with_reducible refine blk_drewN ?_ _)|(with_reducible refine blk_drew ?_)|(with_reducible refine blk_alloc ?_ _))) hk (fun p_=>by have qZW1:=ZW1.out;have qZW2:=ZW2.out;have qZW3:=ZW3.out;have qZSw0_0:=ZSw0_0.out;have qZBw:=ZBw.out;have qZx0_0:=Zx0_0.out;have qZW8:=ZW8.out;have qZx1_0:=Zx1_0.out;have qZW9:=ZW9.out;have qZx2:=Zx2.out;have qZW10:=ZW10.out;have qZg0_0:=Zg0_0.out;have qZW11:=ZW11.out;have qZW12:=ZW12.out;have qZW13:=ZW13.out;have qZW14:=ZW14.out;have qZW15:=ZW15.out;have qZW16:=ZW16.out;have qZW17:=ZW17.out;have qZW18:=ZW18.out;have qZW19:=ZW19.out;have qZW20:=ZW20.out;(try dsimp only at p_);omega))
  have n5_:=Aside0.mk (Kd.R_kept (by repeat (first|(with_reducible exact Hg0_0.out)|(with_reducible apply Kd.R_alloc)|(with_reducible apply Kd.R_drewN)|(with_reducible apply Kd.R_drew))) hk (fun k_ h_ p_=>by have qZW1:=ZW1.out;have qZW2:=ZW2.out;have qZW3:=ZW3.out;have qZSw0_0:=ZSw0_0.out;have qZBw:=ZBw.out;have qZx0_0:=Zx0_0.out;have qZW8:=ZW8.out;have qZx1_0:=Zx1_0.out;have qZW9:=ZW9.out;have qZx2:=Zx2.out;have qZW10:=ZW10.out;have qZg0_0:=Zg0_0.out;have qZW11:=ZW11.out;have qZW12:=ZW12.out;have qZW13:=ZW13.out;have qZW14:=ZW14.out;have qZW15:=ZW15.out;have qZW16:=ZW16.out;have qZW17:=ZW17.out;have qZW18:=ZW18.out;have qZW19:=ZW19.out;have qZW20:=ZW20.out;(try dsimp only at h_ p_);omega))
  have n6_:=Aside0.mk (blk_kept (g:=w11.heap.size) (o := .cells #[.slice Bg0_0 r0_0.length dg0_0, .int .i64 r0_1] 32) (by repeat (first|(with_reducible exact BXg.out)|(with_reducible refine blk_drewN ?_ _)|(with_reducible refine blk_drew ?_)|(with_reducible refine blk_alloc ?_ _))) hk (fun p_=>by have qZW1:=ZW1.out;have qZW2:=ZW2.out;have qZW3:=ZW3.out;have qZSw0_0:=ZSw0_0.out;have qZBw:=ZBw.out;have qZx0_0:=Zx0_0.out;have qZW8:=ZW8.out;have qZx1_0:=Zx1_0.out;have qZW9:=ZW9.out;have qZx2:=Zx2.out;have qZW10:=ZW10.out;have qZg0_0:=Zg0_0.out;have qZW11:=ZW11.out;have qZW12:=ZW12.out;have qZW13:=ZW13.out;have qZW14:=ZW14.out;have qZW15:=ZW15.out;have qZW16:=ZW16.out;have qZW17:=ZW17.out;have qZW18:=ZW18.out;have qZW19:=ZW19.out;have qZW20:=ZW20.out;(try dsimp only at p_);omega))
  have zw_:=hk.1
  (try simp only[World.size_alloc,size_drew_,size_drewN_] at zw_)
  have ZW21:=Aside0.mk zw_
  clear zw_
  have HB_:=Aside0.mk hb
  clear HB
  have HB:=HB_
  clear HB_
  clear Hw0_0
  have Hw0_0:=n0_
  clear n0_
  clear BXw
  have BXw:=n1_
  clear n1_
  clear BXx0
  have BXx0:=n2_
  clear n2_
  clear BXx1
  have BXx1:=n3_
  clear n3_
  clear Hx2
  have Hx2:=Aside0.mk hx2
  clear hx2
  clear Hg0_0
  have Hg0_0:=n5_
  clear n5_
  clear BXg
  have BXg:=n6_
  clear n6_
  clear hb hk
  clear Hx2
  clear xa0_0 xa0_1 xa0_2 xa1_0 xa1_1 BXwc0 BXwc1 BXx0c0 BXx0c1 BXx0c2 BXx1c0 BXx1c1 BXgc0 BXgc1 hzA hzBXw hzBXx0 hzBXx1 hzBXg
  have xa0_0:w21.cell? ⟨w.heap.size,0,none⟩=some (.slice A0_0 l0_0.length c0_0):=(blk_cell (blk_below PA0.out HB.out) 0).trans rfl
  have xa0_1:w21.cell? ⟨w.heap.size,1,none⟩=some (.int .i64 a0_1):=(blk_cell (blk_below PA0.out HB.out) 1).trans rfl
  have xa0_2:w21.cell? ⟨w.heap.size,2,none⟩=some (.int .i64 a0_2):=(blk_cell (blk_below PA0.out HB.out) 2).trans rfl
  have xa1_0:w21.cell? ⟨w.heap.size+1,0,none⟩=some (.slice A1_0 l1_0.length c1_0):=(blk_cell (blk_below PA1.out HB.out) 0).trans rfl
  have xa1_1:w21.cell? ⟨w.heap.size+1,1,none⟩=some (.int .i64 a1_1):=(blk_cell (blk_below PA1.out HB.out) 1).trans rfl
  have BXwc0:w21.cell? ⟨bw,0,none⟩=some (.slice Bw0_0 r0_0.length dw0_0):=(blk_cell BXw.out 0).trans rfl
  have BXwc1:w21.cell? ⟨bw,1,none⟩=some (.int .i64 r0_1):=(blk_cell BXw.out 1).trans rfl
  have BXx0c0:w21.cell? ⟨w8.heap.size,0,none⟩=some (.slice Bx0_0 l0_0.length dx0_0):=(blk_cell BXx0.out 0).trans rfl
  have BXx0c1:w21.cell? ⟨w8.heap.size,1,none⟩=some (.int .i64 a0_1):=(blk_cell BXx0.out 1).trans rfl
  have BXx0c2:w21.cell? ⟨w8.heap.size,2,none⟩=some (.int .i64 a0_2):=(blk_cell BXx0.out 2).trans rfl
  have BXx1c0:w21.cell? ⟨w9.heap.size,0,none⟩=some (.slice Bx1_0 l1_0.length dx1_0):=(blk_cell BXx1.out 0).trans rfl
  have BXx1c1:w21.cell? ⟨w9.heap.size,1,none⟩=some (.int .i64 a1_1):=(blk_cell BXx1.out 1).trans rfl
  have BXgc0:w21.cell? ⟨w11.heap.size,0,none⟩=some (.slice Bg0_0 r0_0.length dg0_0):=(blk_cell BXg.out 0).trans rfl
  have BXgc1:w21.cell? ⟨w11.heap.size,1,none⟩=some (.int .i64 r0_1):=(blk_cell BXg.out 1).trans rfl
  have hzA:w.heap.size+1 < w21.heap.size:=Nat.lt_of_lt_of_le (blk_lt PA1.out) HB.out.size
  have hzBXw:bw < w21.heap.size:=blk_lt BXw.out
  have hzBXx0:w8.heap.size < w21.heap.size:=blk_lt BXx0.out
  have hzBXx1:w9.heap.size < w21.heap.size:=blk_lt BXx1.out
  have hzBXg:w11.heap.size < w21.heap.size:=blk_lt BXg.out
  go_wp2_with fail
  go_at_call 13
  refine (laws_eqCamp.calls k7 _ _ r0_0 r0_1 _ _ r0_0 r0_1 true _ ?s22_hr0_0 ?s22_hc0_0 ?s22_hr1_0 ?s22_hc1_0 XhE.out).mono ?_
  (case s22_hr0_0=>exact (Kd.R_reads' (by repeat (first|(with_reducible exact Hg0_0.out)|(with_reducible apply Kd.R_alloc)|(with_reducible apply Kd.R_drewN)|(with_reducible apply Kd.R_drew)))).2.2)
  (case s22_hc0_0=>exact (Kd.R_reads' Hg0_0.out).2.1)
  (case s22_hr1_0=>exact Kd.F_now (by repeat (first|(with_reducible exact Hw0_0.out)|(with_reducible apply Kd.F_alloc)|(with_reducible apply Kd.F_drewN)|(with_reducible apply Kd.F_drew))))
  (case s22_hc1_0=>exact LEw0_0.out)
  rintro e w22 ⟨rfl,hb⟩
  have n0_:=Aside0.mk (Kd.F_below (by repeat (first|(with_reducible exact Hw0_0.out)|(with_reducible apply Kd.F_alloc)|(with_reducible apply Kd.F_drewN)|(with_reducible apply Kd.F_drew))) hb)
  have n1_:=Aside0.mk (blk_below (g:=bw) (o := .cells #[.slice Bw0_0 r0_0.length dw0_0, .int .i64 r0_1] 32) (by repeat (first|(with_reducible exact BXw.out)|(with_reducible refine blk_drewN ?_ _)|(with_reducible refine blk_drew ?_)|(with_reducible refine blk_alloc ?_ _))) hb)
  have n2_:=Aside0.mk (blk_below (g:=w8.heap.size) (o := .cells #[.slice Bx0_0 l0_0.length dx0_0, .int .i64 a0_1, .int .i64 a0_2] 35) (by repeat (first|(with_reducible exact BXx0.out)|(with_reducible refine blk_drewN ?_ _)|(with_reducible refine blk_drew ?_)|(with_reducible refine blk_alloc ?_ _))) hb)
  have n3_:=Aside0.mk (blk_below (g:=w9.heap.size) (o := .cells #[.slice Bx1_0 l1_0.length dx1_0, .int .i64 a1_1] 32) (by repeat (first|(with_reducible exact BXx1.out)|(with_reducible refine blk_drewN ?_ _)|(with_reducible refine blk_drew ?_)|(with_reducible refine blk_alloc ?_ _))) hb)
  have n4_:=Aside0.mk (Kd.R_below (by repeat (first|(with_reducible exact Hg0_0.out)|(with_reducible apply Kd.R_alloc)|(with_reducible apply Kd.R_drewN)|(with_reducible apply Kd.R_drew))) hb)
  have n5_:=Aside0.mk (blk_below (g:=w11.heap.size) (o := .cells #[.slice Bg0_0 r0_0.length dg0_0, .int .i64 r0_1] 32) (by repeat (first|(with_reducible exact BXg.out)|(with_reducible refine blk_drewN ?_ _)|(with_reducible refine blk_drew ?_)|(with_reducible refine blk_alloc ?_ _))) hb)
  have nb_:=Aside0.mk (below_step (by repeat (first|(with_reducible exact HB.out)|(with_reducible apply below_alloc)|(with_reducible apply pw_below_drewN)|(with_reducible apply below_drew1))) hb)
  have zw_:=hb.size
  (try simp only[World.size_alloc,size_drew_,size_drewN_] at zw_)
  have ZW22:=Aside0.mk zw_
  clear zw_
  clear HB Hw0_0 BXw BXx0 BXx1 Hg0_0 BXg
  have HB:=nb_
  have Hw0_0:=n0_
  have BXw:=n1_
  have BXx0:=n2_
  have BXx1:=n3_
  have Hg0_0:=n4_
  have BXg:=n5_
  clear nb_ n0_ n1_ n2_ n3_ n4_ n5_
  clear hb
  clear xa0_0 xa0_1 xa0_2 xa1_0 xa1_1 BXwc0 BXwc1 BXx0c0 BXx0c1 BXx0c2 BXx1c0 BXx1c1 BXgc0 BXgc1 hzA hzBXw hzBXx0 hzBXx1 hzBXg
  have xa0_0:w22.cell? ⟨w.heap.size,0,none⟩=some (.slice A0_0 l0_0.length c0_0):=(blk_cell (blk_below PA0.out HB.out) 0).trans rfl
  have xa0_1:w22.cell? ⟨w.heap.size,1,none⟩=some (.int .i64 a0_1):=(blk_cell (blk_below PA0.out HB.out) 1).trans rfl
  have xa0_2:w22.cell? ⟨w.heap.size,2,none⟩=some (.int .i64 a0_2):=(blk_cell (blk_below PA0.out HB.out) 2).trans rfl
  have xa1_0:w22.cell? ⟨w.heap.size+1,0,none⟩=some (.slice A1_0 l1_0.length c1_0):=(blk_cell (blk_below PA1.out HB.out) 0).trans rfl
  have xa1_1:w22.cell? ⟨w.heap.size+1,1,none⟩=some (.int .i64 a1_1):=(blk_cell (blk_below PA1.out HB.out) 1).trans rfl
  have BXwc0:w22.cell? ⟨bw,0,none⟩=some (.slice Bw0_0 r0_0.length dw0_0):=(blk_cell BXw.out 0).trans rfl
  have BXwc1:w22.cell? ⟨bw,1,none⟩=some (.int .i64 r0_1):=(blk_cell BXw.out 1).trans rfl
  have BXx0c0:w22.cell? ⟨w8.heap.size,0,none⟩=some (.slice Bx0_0 l0_0.length dx0_0):=(blk_cell BXx0.out 0).trans rfl
  have BXx0c1:w22.cell? ⟨w8.heap.size,1,none⟩=some (.int .i64 a0_1):=(blk_cell BXx0.out 1).trans rfl
  have BXx0c2:w22.cell? ⟨w8.heap.size,2,none⟩=some (.int .i64 a0_2):=(blk_cell BXx0.out 2).trans rfl
  have BXx1c0:w22.cell? ⟨w9.heap.size,0,none⟩=some (.slice Bx1_0 l1_0.length dx1_0):=(blk_cell BXx1.out 0).trans rfl
  have BXx1c1:w22.cell? ⟨w9.heap.size,1,none⟩=some (.int .i64 a1_1):=(blk_cell BXx1.out 1).trans rfl
  have BXgc0:w22.cell? ⟨w11.heap.size,0,none⟩=some (.slice Bg0_0 r0_0.length dg0_0):=(blk_cell BXg.out 0).trans rfl
  have BXgc1:w22.cell? ⟨w11.heap.size,1,none⟩=some (.int .i64 r0_1):=(blk_cell BXg.out 1).trans rfl
  have hzA:w.heap.size+1 < w22.heap.size:=Nat.lt_of_lt_of_le (blk_lt PA1.out) HB.out.size
  have hzBXw:bw < w22.heap.size:=blk_lt BXw.out
  have hzBXx0:w8.heap.size < w22.heap.size:=blk_lt BXx0.out
  have hzBXx1:w9.heap.size < w22.heap.size:=blk_lt BXx1.out
  have hzBXg:w11.heap.size < w22.heap.size:=blk_lt BXg.out
  go_wp2_with fail
  go_at_call 17
  refine (laws_markCamp.calls k13 (fun k_=>log0_0≤k_∧k_ < hig0_0) _ r0_0 r0_1 1 q1 yg0_0 wA _ ?s23_hB ?s23_ho0_0 XhMR.out).mono ?_
  (case s23_hB=>exact (by repeat (first|(with_reducible exact HB.out)|(with_reducible apply below_alloc)|(with_reducible apply pw_below_drewN)|(with_reducible apply below_drew1))))
  (case s23_ho0_0=>exact (by repeat (first|(with_reducible exact Hg0_0.out)|(with_reducible apply Kd.R_alloc)|(with_reducible apply Kd.R_drewN)|(with_reducible apply Kd.R_drew))))
  rintro e w23 ⟨rfl,hg0_0,hb,hk⟩
  have n0_:=Aside0.mk (Kd.F_kept (by repeat (first|(with_reducible exact Hw0_0.out)|(with_reducible apply Kd.F_alloc)|(with_reducible apply Kd.F_drewN)|(with_reducible apply Kd.F_drew))) hk (fun k_ h_ p_=>by have qZW1:=ZW1.out;have qZW2:=ZW2.out;have qZW3:=ZW3.out;have qZSw0_0:=ZSw0_0.out;have qZBw:=ZBw.out;have qZx0_0:=Zx0_0.out;have qZW8:=ZW8.out;have qZx1_0:=Zx1_0.out;have qZW9:=ZW9.out;have qZx2:=Zx2.out;have qZW10:=ZW10.out;have qZg0_0:=Zg0_0.out;have qZW11:=ZW11.out;have qZW12:=ZW12.out;have qZW13:=ZW13.out;have qZW14:=ZW14.out;have qZW15:=ZW15.out;have qZW16:=ZW16.out;have qZW17:=ZW17.out;have qZW18:=ZW18.out;have qZW19:=ZW19.out;have qZW20:=ZW20.out;have qZW21:=ZW21.out;have qZW22:=ZW22.out;(try dsimp only at h_ p_);omega))
  have n1_:=Aside0.mk (blk_kept (g:=bw) (o := .cells #[.slice Bw0_0 r0_0.length dw0_0, .int .i64 r0_1] 32) (by repeat (first|(with_reducible exact BXw.out)|(with_reducible refine blk_drewN ?_ _)|(with_reducible refine blk_drew ?_)|(with_reducible refine blk_alloc ?_ _))) hk (fun p_=>by have qZW1:=ZW1.out;have qZW2:=ZW2.out;have qZW3:=ZW3.out;have qZSw0_0:=ZSw0_0.out;have qZBw:=ZBw.out;have qZx0_0:=Zx0_0.out;have qZW8:=ZW8.out;have qZx1_0:=Zx1_0.out;have qZW9:=ZW9.out;have qZx2:=Zx2.out;have qZW10:=ZW10.out;have qZg0_0:=Zg0_0.out;have qZW11:=ZW11.out;have qZW12:=ZW12.out;have qZW13:=ZW13.out;have qZW14:=ZW14.out;have qZW15:=ZW15.out;have qZW16:=ZW16.out;have qZW17:=ZW17.out;have qZW18:=ZW18.out;have qZW19:=ZW19.out;have qZW20:=ZW20.out;have qZW21:=ZW21.out;have qZW22:=ZW22.out;(try dsimp only at p_);omega))
  have n2_:=Aside0.mk (blk_kept (g:=w8.heap.size) (o := .cells #[.slice Bx0_0 l0_0.length dx0_0, .int .i64 a0_1, .int .i64 a0_2] 35) (by repeat (first|(with_reducible exact BXx0.out)|(with_reducible refine blk_drewN ?_ _)|(with_reducible refine blk_drew ?_)|(with_reducible refine blk_alloc ?_ _))) hk (fun p_=>by have qZW1:=ZW1.out;have qZW2:=ZW2.out;have qZW3:=ZW3.out;have qZSw0_0:=ZSw0_0.out;have qZBw:=ZBw.out;have qZx0_0:=Zx0_0.out;have qZW8:=ZW8.out;have qZx1_0:=Zx1_0.out;have qZW9:=ZW9.out;have qZx2:=Zx2.out;have qZW10:=ZW10.out;have qZg0_0:=Zg0_0.out;have qZW11:=ZW11.out;have qZW12:=ZW12.out;have qZW13:=ZW13.out;have qZW14:=ZW14.out;have qZW15:=ZW15.out;have qZW16:=ZW16.out;have qZW17:=ZW17.out;have qZW18:=ZW18.out;have qZW19:=ZW19.out;have qZW20:=ZW20.out;have qZW21:=ZW21.out;have qZW22:=ZW22.out;(try dsimp only at p_);omega))
  have n3_:=Aside0.mk (blk_kept (g:=w9.heap.size) (o := .cells #[.slice Bx1_0 l1_0.length dx1_0, .int .i64 a1_1] 32) (by repeat (first|(with_reducible exact BXx1.out)|(with_reducible refine blk_drewN ?_ _)|(with_reducible refine blk_drew ?_)|(with_reducible refine blk_alloc ?_ _))) hk (fun p_=>by have qZW1:=ZW1.out;have qZW2:=ZW2.out;have qZW3:=ZW3.out;have qZSw0_0:=ZSw0_0.out;have qZBw:=ZBw.out;have qZx0_0:=Zx0_0.out;have qZW8:=ZW8.out;have qZx1_0:=Zx1_0.out;have qZW9:=ZW9.out;have qZx2:=Zx2.out;have qZW10:=ZW10.out;have qZg0_0:=Zg0_0.out;have qZW11:=ZW11.out;have qZW12:=ZW12.out;have qZW13:=ZW13.out;have qZW14:=ZW14.out;have qZW15:=ZW15.out;have qZW16:=ZW16.out;have qZW17:=ZW17.out;have qZW18:=ZW18.out;have qZW19:=ZW19.out;have qZW20:=ZW20.out;have qZW21:=ZW21.out;have qZW22:=ZW22.out;(try dsimp only at p_);omega))
  have n5_:=Aside0.mk (blk_kept (g:=w11.heap.size) (o := .cells #[.slice Bg0_0 r0_0.length dg0_0, .int .i64 r0_1] 32) (by repeat (first|(with_reducible exact BXg.out)|(with_reducible refine blk_drewN ?_ _)|(with_reducible refine blk_drew ?_)|(with_reducible refine blk_alloc ?_ _))) hk (fun p_=>by have qZW1:=ZW1.out;have qZW2:=ZW2.out;have qZW3:=ZW3.out;have qZSw0_0:=ZSw0_0.out;have qZBw:=ZBw.out;have qZx0_0:=Zx0_0.out;have qZW8:=ZW8.out;have qZx1_0:=Zx1_0.out;have qZW9:=ZW9.out;have qZx2:=Zx2.out;have qZW10:=ZW10.out;have qZg0_0:=Zg0_0.out;have qZW11:=ZW11.out;have qZW12:=ZW12.out;have qZW13:=ZW13.out;have qZW14:=ZW14.out;have qZW15:=ZW15.out;have qZW16:=ZW16.out;have qZW17:=ZW17.out;have qZW18:=ZW18.out;have qZW19:=ZW19.out;have qZW20:=ZW20.out;have qZW21:=ZW21.out;have qZW22:=ZW22.out;(try dsimp only at p_);omega))
  have zw_:=hk.1
  (try simp only[World.size_alloc,size_drew_,size_drewN_] at zw_)
  have ZW23:=Aside0.mk zw_
  clear zw_
  have HB_:=Aside0.mk hb
  clear HB
  have HB:=HB_
  clear HB_
  clear Hw0_0
  have Hw0_0:=n0_
  clear n0_
  clear BXw
  have BXw:=n1_
  clear n1_
  clear BXx0
  have BXx0:=n2_
  clear n2_
  clear BXx1
  have BXx1:=n3_
  clear n3_
  clear Hg0_0
  have Hg0_0:=Aside0.mk hg0_0
  clear hg0_0
  clear BXg
  have BXg:=n5_
  clear n5_
  clear hb hk
  clear xa0_0 xa0_1 xa0_2 xa1_0 xa1_1 BXwc0 BXwc1 BXx0c0 BXx0c1 BXx0c2 BXx1c0 BXx1c1 BXgc0 BXgc1 hzA hzBXw hzBXx0 hzBXx1 hzBXg
  have xa0_0:w23.cell? ⟨w.heap.size,0,none⟩=some (.slice A0_0 l0_0.length c0_0):=(blk_cell (blk_below PA0.out HB.out) 0).trans rfl
  have xa0_1:w23.cell? ⟨w.heap.size,1,none⟩=some (.int .i64 a0_1):=(blk_cell (blk_below PA0.out HB.out) 1).trans rfl
  have xa0_2:w23.cell? ⟨w.heap.size,2,none⟩=some (.int .i64 a0_2):=(blk_cell (blk_below PA0.out HB.out) 2).trans rfl
  have xa1_0:w23.cell? ⟨w.heap.size+1,0,none⟩=some (.slice A1_0 l1_0.length c1_0):=(blk_cell (blk_below PA1.out HB.out) 0).trans rfl
  have xa1_1:w23.cell? ⟨w.heap.size+1,1,none⟩=some (.int .i64 a1_1):=(blk_cell (blk_below PA1.out HB.out) 1).trans rfl
  have BXwc0:w23.cell? ⟨bw,0,none⟩=some (.slice Bw0_0 r0_0.length dw0_0):=(blk_cell BXw.out 0).trans rfl
  have BXwc1:w23.cell? ⟨bw,1,none⟩=some (.int .i64 r0_1):=(blk_cell BXw.out 1).trans rfl
  have BXx0c0:w23.cell? ⟨w8.heap.size,0,none⟩=some (.slice Bx0_0 l0_0.length dx0_0):=(blk_cell BXx0.out 0).trans rfl
  have BXx0c1:w23.cell? ⟨w8.heap.size,1,none⟩=some (.int .i64 a0_1):=(blk_cell BXx0.out 1).trans rfl
  have BXx0c2:w23.cell? ⟨w8.heap.size,2,none⟩=some (.int .i64 a0_2):=(blk_cell BXx0.out 2).trans rfl
  have BXx1c0:w23.cell? ⟨w9.heap.size,0,none⟩=some (.slice Bx1_0 l1_0.length dx1_0):=(blk_cell BXx1.out 0).trans rfl
  have BXx1c1:w23.cell? ⟨w9.heap.size,1,none⟩=some (.int .i64 a1_1):=(blk_cell BXx1.out 1).trans rfl
  have BXgc0:w23.cell? ⟨w11.heap.size,0,none⟩=some (.slice Bg0_0 r0_0.length dg0_0):=(blk_cell BXg.out 0).trans rfl
  have BXgc1:w23.cell? ⟨w11.heap.size,1,none⟩=some (.int .i64 r0_1):=(blk_cell BXg.out 1).trans rfl
  have hzA:w.heap.size+1 < w23.heap.size:=Nat.lt_of_lt_of_le (blk_lt PA1.out) HB.out.size
  have hzBXw:bw < w23.heap.size:=blk_lt BXw.out
  have hzBXx0:w8.heap.size < w23.heap.size:=blk_lt BXx0.out
  have hzBXx1:w9.heap.size < w23.heap.size:=blk_lt BXx1.out
  have hzBXg:w11.heap.size < w23.heap.size:=blk_lt BXg.out
  go_wp2_with fail
  go_at_call 19
  refine (laws_heldCamp_n k14 _ _ yg0_0 r0_1 1 q1 _ ?s24_hr0_0 ?s24_hc0_0 XhH.out r0_0.length ?s24_n0_0).mono ?_
  (case s24_hr0_0=>exact (Kd.R_reads' (by repeat (first|(with_reducible exact Hg0_0.out)|(with_reducible apply Kd.R_alloc)|(with_reducible apply Kd.R_drewN)|(with_reducible apply Kd.R_drew)))).2.2)
  (case s24_hc0_0=>exact Nat.le_trans (Nat.le_of_eq (Kd.R_reads' Hg0_0.out).1.symm) (Kd.R_reads' Hg0_0.out).2.1)
  (case s24_n0_0=>exact (Kd.R_reads' Hg0_0.out).1)
  rintro e w24 ⟨rfl,hb⟩
  have n0_:=Aside0.mk (Kd.F_below (by repeat (first|(with_reducible exact Hw0_0.out)|(with_reducible apply Kd.F_alloc)|(with_reducible apply Kd.F_drewN)|(with_reducible apply Kd.F_drew))) hb)
  have n1_:=Aside0.mk (blk_below (g:=bw) (o := .cells #[.slice Bw0_0 r0_0.length dw0_0, .int .i64 r0_1] 32) (by repeat (first|(with_reducible exact BXw.out)|(with_reducible refine blk_drewN ?_ _)|(with_reducible refine blk_drew ?_)|(with_reducible refine blk_alloc ?_ _))) hb)
  have n2_:=Aside0.mk (blk_below (g:=w8.heap.size) (o := .cells #[.slice Bx0_0 l0_0.length dx0_0, .int .i64 a0_1, .int .i64 a0_2] 35) (by repeat (first|(with_reducible exact BXx0.out)|(with_reducible refine blk_drewN ?_ _)|(with_reducible refine blk_drew ?_)|(with_reducible refine blk_alloc ?_ _))) hb)
  have n3_:=Aside0.mk (blk_below (g:=w9.heap.size) (o := .cells #[.slice Bx1_0 l1_0.length dx1_0, .int .i64 a1_1] 32) (by repeat (first|(with_reducible exact BXx1.out)|(with_reducible refine blk_drewN ?_ _)|(with_reducible refine blk_drew ?_)|(with_reducible refine blk_alloc ?_ _))) hb)
  have n4_:=Aside0.mk (Kd.R_below (by repeat (first|(with_reducible exact Hg0_0.out)|(with_reducible apply Kd.R_alloc)|(with_reducible apply Kd.R_drewN)|(with_reducible apply Kd.R_drew))) hb)
  have n5_:=Aside0.mk (blk_below (g:=w11.heap.size) (o := .cells #[.slice Bg0_0 r0_0.length dg0_0, .int .i64 r0_1] 32) (by repeat (first|(with_reducible exact BXg.out)|(with_reducible refine blk_drewN ?_ _)|(with_reducible refine blk_drew ?_)|(with_reducible refine blk_alloc ?_ _))) hb)
  have nb_:=Aside0.mk (below_step (by repeat (first|(with_reducible exact HB.out)|(with_reducible apply below_alloc)|(with_reducible apply pw_below_drewN)|(with_reducible apply below_drew1))) hb)
  have zw_:=hb.size
  (try simp only[World.size_alloc,size_drew_,size_drewN_] at zw_)
  have ZW24:=Aside0.mk zw_
  clear zw_
  clear HB Hw0_0 BXw BXx0 BXx1 Hg0_0 BXg
  have HB:=nb_
  have Hw0_0:=n0_
  have BXw:=n1_
  have BXx0:=n2_
  have BXx1:=n3_
  have Hg0_0:=n4_
  have BXg:=n5_
  clear nb_ n0_ n1_ n2_ n3_ n4_ n5_
  clear hb
  clear xa0_0 xa0_1 xa0_2 xa1_0 xa1_1 BXwc0 BXwc1 BXx0c0 BXx0c1 BXx0c2 BXx1c0 BXx1c1 BXgc0 BXgc1 hzA hzBXw hzBXx0 hzBXx1 hzBXg
  have xa0_0:w24.cell? ⟨w.heap.size,0,none⟩=some (.slice A0_0 l0_0.length c0_0):=(blk_cell (blk_below PA0.out HB.out) 0).trans rfl
  have xa0_1:w24.cell? ⟨w.heap.size,1,none⟩=some (.int .i64 a0_1):=(blk_cell (blk_below PA0.out HB.out) 1).trans rfl
  have xa0_2:w24.cell? ⟨w.heap.size,2,none⟩=some (.int .i64 a0_2):=(blk_cell (blk_below PA0.out HB.out) 2).trans rfl
  have xa1_0:w24.cell? ⟨w.heap.size+1,0,none⟩=some (.slice A1_0 l1_0.length c1_0):=(blk_cell (blk_below PA1.out HB.out) 0).trans rfl
  have xa1_1:w24.cell? ⟨w.heap.size+1,1,none⟩=some (.int .i64 a1_1):=(blk_cell (blk_below PA1.out HB.out) 1).trans rfl
  have BXwc0:w24.cell? ⟨bw,0,none⟩=some (.slice Bw0_0 r0_0.length dw0_0):=(blk_cell BXw.out 0).trans rfl
  have BXwc1:w24.cell? ⟨bw,1,none⟩=some (.int .i64 r0_1):=(blk_cell BXw.out 1).trans rfl
  have BXx0c0:w24.cell? ⟨w8.heap.size,0,none⟩=some (.slice Bx0_0 l0_0.length dx0_0):=(blk_cell BXx0.out 0).trans rfl
  have BXx0c1:w24.cell? ⟨w8.heap.size,1,none⟩=some (.int .i64 a0_1):=(blk_cell BXx0.out 1).trans rfl
  have BXx0c2:w24.cell? ⟨w8.heap.size,2,none⟩=some (.int .i64 a0_2):=(blk_cell BXx0.out 2).trans rfl
  have BXx1c0:w24.cell? ⟨w9.heap.size,0,none⟩=some (.slice Bx1_0 l1_0.length dx1_0):=(blk_cell BXx1.out 0).trans rfl
  have BXx1c1:w24.cell? ⟨w9.heap.size,1,none⟩=some (.int .i64 a1_1):=(blk_cell BXx1.out 1).trans rfl
  have BXgc0:w24.cell? ⟨w11.heap.size,0,none⟩=some (.slice Bg0_0 r0_0.length dg0_0):=(blk_cell BXg.out 0).trans rfl
  have BXgc1:w24.cell? ⟨w11.heap.size,1,none⟩=some (.int .i64 r0_1):=(blk_cell BXg.out 1).trans rfl
  have hzA:w.heap.size+1 < w24.heap.size:=Nat.lt_of_lt_of_le (blk_lt PA1.out) HB.out.size
  have hzBXw:bw < w24.heap.size:=blk_lt BXw.out
  have hzBXx0:w8.heap.size < w24.heap.size:=blk_lt BXx0.out
  have hzBXx1:w9.heap.size < w24.heap.size:=blk_lt BXx1.out
  have hzBXg:w11.heap.size < w24.heap.size:=blk_lt BXg.out
  clear BXx0 BXx1
  clear xa0_0 xa0_1 xa0_2 xa1_0 xa1_1 BXwc0 BXwc1 BXx0c0 BXx0c1 BXx0c2 BXx1c0 BXx1c1 BXgc0 BXgc1 hzA hzBXw hzBXx0 hzBXx1 hzBXg
  have n_:=Aside0.mk (show Kd.R Kd.bool 4 w24 wA.heap.size (fun _=>True) (.slice Bg0_0 r0_0.length dg0_0) yg0_0 from Kd.R_mono Hg0_0.out (fun _ _=>trivial))
  clear Hg0_0
  have Hg0_0:=n_
  clear n_
  have ZQHw0_0:=Aside0.mk (show sw0_0≤w24.heap.size from by have qZW1:=ZW1.out;have qZW2:=ZW2.out;have qZW3:=ZW3.out;have qZSw0_0:=ZSw0_0.out;have qZBw:=ZBw.out;have qZx0_0:=Zx0_0.out;have qZW8:=ZW8.out;have qZx1_0:=Zx1_0.out;have qZW9:=ZW9.out;have qZx2:=Zx2.out;have qZW10:=ZW10.out;have qZg0_0:=Zg0_0.out;have qZW11:=ZW11.out;have qZW12:=ZW12.out;have qZW13:=ZW13.out;have qZW14:=ZW14.out;have qZW15:=ZW15.out;have qZW16:=ZW16.out;have qZW17:=ZW17.out;have qZW18:=ZW18.out;have qZW19:=ZW19.out;have qZW20:=ZW20.out;have qZW21:=ZW21.out;have qZW22:=ZW22.out;have qZW23:=ZW23.out;have qZW24:=ZW24.out;omega)
  clear ZW1 ZW2 ZW3 ZSw0_0 ZBw Zx0_0 ZW8 Zx1_0 ZW9 Zx2 ZW10 Zg0_0 ZW11 ZW12 ZW13 ZW14 ZW15 ZW16 ZW17 ZW18 ZW19 ZW20 ZW21 ZW22 ZW23 ZW24
  clear XhU0 XhU1 XhU2 XhS XhEA0 XhEA1 XhEA2 XhM0 XhM1 XhM2 XhMR dnU0 dnU1 dnU2 dnM
  have xa0_0:w24.cell? ⟨w.heap.size,0,none⟩=some (.slice A0_0 l0_0.length c0_0):=(blk_cell (blk_below PA0.out HB.out) 0).trans rfl
  have xa0_1:w24.cell? ⟨w.heap.size,1,none⟩=some (.int .i64 a0_1):=(blk_cell (blk_below PA0.out HB.out) 1).trans rfl
  have xa0_2:w24.cell? ⟨w.heap.size,2,none⟩=some (.int .i64 a0_2):=(blk_cell (blk_below PA0.out HB.out) 2).trans rfl
  have xa1_0:w24.cell? ⟨w.heap.size+1,0,none⟩=some (.slice A1_0 l1_0.length c1_0):=(blk_cell (blk_below PA1.out HB.out) 0).trans rfl
  have xa1_1:w24.cell? ⟨w.heap.size+1,1,none⟩=some (.int .i64 a1_1):=(blk_cell (blk_below PA1.out HB.out) 1).trans rfl
  have BXwc0:w24.cell? ⟨bw,0,none⟩=some (.slice Bw0_0 r0_0.length dw0_0):=(blk_cell BXw.out 0).trans rfl
  have BXwc1:w24.cell? ⟨bw,1,none⟩=some (.int .i64 r0_1):=(blk_cell BXw.out 1).trans rfl
  have BXgc0:w24.cell? ⟨w11.heap.size,0,none⟩=some (.slice Bg0_0 r0_0.length dg0_0):=(blk_cell BXg.out 0).trans rfl
  have BXgc1:w24.cell? ⟨w11.heap.size,1,none⟩=some (.int .i64 r0_1):=(blk_cell BXg.out 1).trans rfl
  have hzA:w.heap.size+1 < w24.heap.size:=Nat.lt_of_lt_of_le (blk_lt PA1.out) HB.out.size
  have hzBXw:bw < w24.heap.size:=blk_lt BXw.out
  have hzBXg:w11.heap.size < w24.heap.size:=blk_lt BXg.out
  go_upto_region 38 with (fail)
  go_cut [18,19] (fun v18 v19 wc=>∃ (Bh0_0:Option Addr) (dh0_0 sh0_0:Nat) (bh:Nat),v18 = .pointer (some ⟨bh,0,none⟩)∧v19 = .bool r1∧Aside0 (r0_0.length≤dh0_0)∧Aside0 (Kd.F Kd.bool wc (fun k_=>k_ < sh0_0) Bh0_0 r0_0.length r0_0)∧Aside0 (sh0_0≤wc.heap.size)∧Aside0 (wc.heap[bh]? = some (.cells #[.slice Bh0_0 r0_0.length dh0_0, .int .i64 r0_1] 32))∧Aside0 (Kd.F Kd.bool wc (fun k_=>k_ < sw0_0) Bw0_0 r0_0.length r0_0)∧Aside0 (wc.heap[bw]? = some (.cells #[.slice Bw0_0 r0_0.length dw0_0, .int .i64 r0_1] 32))∧Aside0 (Kd.R Kd.bool 4 wc wA.heap.size (fun _=>True) (.slice Bg0_0 r0_0.length dg0_0) yg0_0)∧Aside0 (wc.heap[w11.heap.size]? = some (.cells #[.slice Bg0_0 r0_0.length dg0_0, .int .i64 r0_1] 32))∧Aside0 (Below wA.heap.size wA wc))
  case first =>
   have HS:=Aside0.mk (Below.refl w24.heap.size w24)
   have ZTHw0_0:=Aside0.mk (show sw0_0≤w24.heap.size from by have qZQHw0_0:=ZQHw0_0.out;omega)
   have ZTBXw:=Aside0.mk (blk_lt BXw.out)
   have ZTBXg:=Aside0.mk (blk_lt BXg.out)
   go_wp2_with fail
   go_region_held3 (fun w'=>w'.cell? ⟨w.heap.size,0,none⟩=some (.slice A0_0 l0_0.length c0_0)∧w'.cell? ⟨w.heap.size,1,none⟩=some (.int .i64 a0_1)∧w'.cell? ⟨w.heap.size,2,none⟩=some (.int .i64 a0_2)∧w'.cell? ⟨w.heap.size+1,0,none⟩=some (.slice A1_0 l1_0.length c1_0)∧w'.cell? ⟨w.heap.size+1,1,none⟩=some (.int .i64 a1_1)) (first|(exact ⟨(blk_cell (blk_below PA0.out (by repeat (first|(with_reducible exact HB.out)|(with_reducible apply below_alloc)|(with_reducible apply pw_below_drewN)|(with_reducible apply below_drew1)|(with_reducible refine below_set ?_ GB.out)|(with_reducible refine below_set ?_ HB.out.size)))) 0).trans rfl,(blk_cell (blk_below PA0.out (by repeat (first|(with_reducible exact HB.out)|(with_reducible apply below_alloc)|(with_reducible apply pw_below_drewN)|(with_reducible apply below_drew1)|(with_reducible refine below_set ?_ GB.out)|(with_reducible refine below_set ?_ HB.out.size)))) 1).trans rfl,(blk_cell (blk_below PA0.out (by repeat (first|(with_reducible exact HB.out)|(with_reducible apply below_alloc)|(with_reducible apply pw_below_drewN)|(with_reducible apply below_drew1)|(with_reducible refine below_set ?_ GB.out)|(with_reducible refine below_set ?_ HB.out.size)))) 2).trans rfl,(blk_cell (blk_below PA1.out (by repeat (first|(with_reducible exact HB.out)|(with_reducible apply below_alloc)|(with_reducible apply pw_below_drewN)|(with_reducible apply below_drew1)|(with_reducible refine below_set ?_ GB.out)|(with_reducible refine below_set ?_ HB.out.size)))) 0).trans rfl,(blk_cell (blk_below PA1.out (by repeat (first|(with_reducible exact HB.out)|(with_reducible apply below_alloc)|(with_reducible apply pw_below_drewN)|(with_reducible apply below_drew1)|(with_reducible refine below_set ?_ GB.out)|(with_reducible refine below_set ?_ HB.out.size)))) 1).trans rfl⟩)|go_keep)
    (first|((go_at_call 9;refine (laws_toNight.calls k2 _ _ l0_0 a0_1 a0_2 l0_0 a0_1 a0_2 _ ?s25_hr0_0 ?s25_hc0_0 XhT0.out).mono ?_;(case s25_hr0_0=>exact Kd.C_below RA0_0.out (by repeat (first|(with_reducible exact HB.out)|(with_reducible apply below_alloc)|(with_reducible apply pw_below_drewN)|(with_reducible apply below_drew1))));(case s25_hc0_0=>exact hc0_0);rintro e w25 ⟨vt0_0,rfl,ht0_0,hb⟩;obtain ⟨Bt0_0,dt0_0,et0_0⟩:=Kd.R_slice ht0_0;subst et0_0;have n0_:=Aside0.mk (Kd.F_below (by repeat (first|(with_reducible exact Hw0_0.out)|(with_reducible apply Kd.F_alloc)|(with_reducible apply Kd.F_drewN)|(with_reducible apply Kd.F_drew))) hb);have n1_:=Aside0.mk (blk_below (g:=bw) (o := .cells #[.slice Bw0_0 r0_0.length dw0_0, .int .i64 r0_1] 32) (by repeat (first|(with_reducible exact BXw.out)|(with_reducible refine blk_drewN ?_ _)|(with_reducible refine blk_drew ?_)|(with_reducible refine blk_alloc ?_ _))) hb);have n2_:=Aside0.mk (Kd.R_below (by repeat (first|(with_reducible exact Hg0_0.out)|(with_reducible apply Kd.R_alloc)|(with_reducible apply Kd.R_drewN)|(with_reducible apply Kd.R_drew))) hb);have n3_:=Aside0.mk (blk_below (g:=w11.heap.size) (o := .cells #[.slice Bg0_0 r0_0.length dg0_0, .int .i64 r0_1] 32) (by repeat (first|(with_reducible exact BXg.out)|(with_reducible refine blk_drewN ?_ _)|(with_reducible refine blk_drew ?_)|(with_reducible refine blk_alloc ?_ _))) hb);have nb_:=Aside0.mk (below_step (by repeat (first|(with_reducible exact HB.out)|(with_reducible apply below_alloc)|(with_reducible apply pw_below_drewN)|(with_reducible apply below_drew1))) hb);have zw_:=hb.size;(try simp only[World.size_alloc,size_drew_,size_drewN_] at zw_);have ZW25:=Aside0.mk zw_;clear zw_;have ns_:=Aside0.mk (below_step (by repeat (first|(with_reducible exact HS.out)|(with_reducible apply below_alloc)|(with_reducible apply pw_below_drewN)|(with_reducible apply below_drew1))) hb);have gs_:=Aside0.mk HS.out.size;clear HS;have HS:=ns_;clear ns_;(first|(have bz_:=Aside0.mk (blk_below BZ.out hb);clear BZ;have BZ:=bz_;clear bz_)|(have gb_:=Aside0.mk HB.out.size;with_reducible (first|(have BZ:=Aside0.mk (blk_below (blk_new _ _) hb))|(have BZ:=Aside0.mk (blk_below (blk_drewN (blk_new _ _) _) hb))|(have BZ:=Aside0.mk (blk_below (blk_drew (blk_new _ _)) hb))|(have BZ:=Aside0.mk (blk_below (blk_drew (blk_drew (blk_new _ _))) hb)));have GB:=gb_;have GS:=gs_;clear gb_)|skip);clear gs_;clear HB Hw0_0 BXw Hg0_0 BXg;have HB:=nb_;have Hw0_0:=n0_;have BXw:=n1_;have Hg0_0:=n2_;have BXg:=n3_;clear nb_ n0_ n1_ n2_ n3_;have Ht0_0:=Aside0.mk ht0_0;clear ht0_0;clear hb;have xa0_0:w25.cell? ⟨w.heap.size,0,none⟩=some (.slice A0_0 l0_0.length c0_0):=(blk_cell (blk_below PA0.out HB.out) 0).trans rfl;have xa0_1:w25.cell? ⟨w.heap.size,1,none⟩=some (.int .i64 a0_1):=(blk_cell (blk_below PA0.out HB.out) 1).trans rfl;have xa0_2:w25.cell? ⟨w.heap.size,2,none⟩=some (.int .i64 a0_2):=(blk_cell (blk_below PA0.out HB.out) 2).trans rfl;have xa1_0:w25.cell? ⟨w.heap.size+1,0,none⟩=some (.slice A1_0 l1_0.length c1_0):=(blk_cell (blk_below PA1.out HB.out) 0).trans rfl;have xa1_1:w25.cell? ⟨w.heap.size+1,1,none⟩=some (.int .i64 a1_1):=(blk_cell (blk_below PA1.out HB.out) 1).trans rfl;have BXwc0:w25.cell? ⟨bw,0,none⟩=some (.slice Bw0_0 r0_0.length dw0_0):=(blk_cell BXw.out 0).trans rfl;have BXwc1:w25.cell? ⟨bw,1,none⟩=some (.int .i64 r0_1):=(blk_cell BXw.out 1).trans rfl;have BXgc0:w25.cell? ⟨w11.heap.size,0,none⟩=some (.slice Bg0_0 r0_0.length dg0_0):=(blk_cell BXg.out 0).trans rfl;have BXgc1:w25.cell? ⟨w11.heap.size,1,none⟩=some (.int .i64 r0_1):=(blk_cell BXg.out 1).trans rfl;have hzA:w.heap.size+1 < w25.heap.size:=Nat.lt_of_lt_of_le (blk_lt PA1.out) HB.out.size;have hzBXw:bw < w25.heap.size:=blk_lt BXw.out;have hzBXg:w11.heap.size < w25.heap.size:=blk_lt BXg.out))|((go_at_call 10;refine (laws_toCamp.calls k3 _ _ l1_0 a1_1 l1_0 a1_1 _ ?s26_hr0_0 ?s26_hc0_0 XhT1.out).mono ?_;(case s26_hr0_0=>exact Kd.C_below RA1_0.out (by repeat (first|(with_reducible exact HB.out)|(with_reducible apply below_alloc)|(with_reducible apply pw_below_drewN)|(with_reducible apply below_drew1))));(case s26_hc0_0=>exact hc1_0);rintro e w26 ⟨vt1_0,rfl,ht1_0,hb⟩;obtain ⟨Bt1_0,dt1_0,et1_0⟩:=Kd.R_slice ht1_0;subst et1_0;have n0_:=Aside0.mk (Kd.F_below (by repeat (first|(with_reducible exact Hw0_0.out)|(with_reducible apply Kd.F_alloc)|(with_reducible apply Kd.F_drewN)|(with_reducible apply Kd.F_drew))) hb);have n1_:=Aside0.mk (blk_below (g:=bw) (o := .cells #[.slice Bw0_0 r0_0.length dw0_0, .int .i64 r0_1] 32) (by repeat (first|(with_reducible exact BXw.out)|(with_reducible refine blk_drewN ?_ _)|(with_reducible refine blk_drew ?_)|(with_reducible refine blk_alloc ?_ _))) hb);have n2_:=Aside0.mk (Kd.R_below (by repeat (first|(with_reducible exact Hg0_0.out)|(with_reducible apply Kd.R_alloc)|(with_reducible apply Kd.R_drewN)|(with_reducible apply Kd.R_drew))) hb);have n3_:=Aside0.mk (blk_below (g:=w11.heap.size) (o := .cells #[.slice Bg0_0 r0_0.length dg0_0, .int .i64 r0_1] 32) (by repeat (first|(with_reducible exact BXg.out)|(with_reducible refine blk_drewN ?_ _)|(with_reducible refine blk_drew ?_)|(with_reducible refine blk_alloc ?_ _))) hb);have n4_:=Aside0.mk (Kd.R_below (by repeat (first|(with_reducible exact Ht0_0.out)|(with_reducible apply Kd.R_alloc)|(with_reducible apply Kd.R_drewN)|(with_reducible apply Kd.R_drew))) hb);have nb_:=Aside0.mk (below_step (by repeat (first|(with_reducible exact HB.out)|(with_reducible apply below_alloc)|(with_reducible apply pw_below_drewN)|(with_reducible apply below_drew1))) hb);have zw_:=hb.size;(try simp only[World.size_alloc,size_drew_,size_drewN_] at zw_);have ZW26:=Aside0.mk zw_;clear zw_;have ns_:=Aside0.mk (below_step (by repeat (first|(with_reducible exact HS.out)|(with_reducible apply below_alloc)|(with_reducible apply pw_below_drewN)|(with_reducible apply below_drew1))) hb);have gs_:=Aside0.mk HS.out.size;clear HS;have HS:=ns_;clear ns_;(first|(have bz_:=Aside0.mk (blk_below BZ.out hb);clear BZ;have BZ:=bz_;clear bz_)|(have gb_:=Aside0.mk HB.out.size;with_reducible (first|(have BZ:=Aside0.mk (blk_below (blk_new _ _) hb))|(have BZ:=Aside0.mk (blk_below (blk_drewN (blk_new _ _) _) hb))|(have BZ:=Aside0.mk (blk_below (blk_drew (blk_new _ _)) hb))|(have BZ:=Aside0.mk (blk_below (blk_drew (blk_drew (blk_new _ _))) hb)));have GB:=gb_;have GS:=gs_;clear gb_)|skip);clear gs_;clear HB Hw0_0 BXw Hg0_0 BXg Ht0_0;have HB:=nb_;have Hw0_0:=n0_;have BXw:=n1_;have Hg0_0:=n2_;have BXg:=n3_;have Ht0_0:=n4_;clear nb_ n0_ n1_ n2_ n3_ n4_;have Ht1_0:=Aside0.mk ht1_0;clear ht1_0;clear hb;have xa0_0:w26.cell? ⟨w.heap.size,0,none⟩=some (.slice A0_0 l0_0.length c0_0):=(blk_cell (blk_below PA0.out HB.out) 0).trans rfl;have xa0_1:w26.cell? ⟨w.heap.size,1,none⟩=some (.int .i64 a0_1):=(blk_cell (blk_below PA0.out HB.out) 1).trans rfl;have xa0_2:w26.cell? ⟨w.heap.size,2,none⟩=some (.int .i64 a0_2):=(blk_cell (blk_below PA0.out HB.out) 2).trans rfl;have xa1_0:w26.cell? ⟨w.heap.size+1,0,none⟩=some (.slice A1_0 l1_0.length c1_0):=(blk_cell (blk_below PA1.out HB.out) 0).trans rfl;have xa1_1:w26.cell? ⟨w.heap.size+1,1,none⟩=some (.int .i64 a1_1):=(blk_cell (blk_below PA1.out HB.out) 1).trans rfl;have BXwc0:w26.cell? ⟨bw,0,none⟩=some (.slice Bw0_0 r0_0.length dw0_0):=(blk_cell BXw.out 0).trans rfl;have BXwc1:w26.cell? ⟨bw,1,none⟩=some (.int .i64 r0_1):=(blk_cell BXw.out 1).trans rfl;have BXgc0:w26.cell? ⟨w11.heap.size,0,none⟩=some (.slice Bg0_0 r0_0.length dg0_0):=(blk_cell BXg.out 0).trans rfl;have BXgc1:w26.cell? ⟨w11.heap.size,1,none⟩=some (.int .i64 r0_1):=(blk_cell BXg.out 1).trans rfl;have hzA:w.heap.size+1 < w26.heap.size:=Nat.lt_of_lt_of_le (blk_lt PA1.out) HB.out.size;have hzBXw:bw < w26.heap.size:=blk_lt BXw.out;have hzBXg:w11.heap.size < w26.heap.size:=blk_lt BXg.out))|((go_at_call 11;refine (laws_toIntSSS.calls k4 _ _ l2 l2 _ ?s27_hr0 ?s27_hc0 XhT2.out).mono ?_;(case s27_hr0=>exact Kd.C_below RA2.out (by repeat (first|(with_reducible exact HB.out)|(with_reducible apply below_alloc)|(with_reducible apply pw_below_drewN)|(with_reducible apply below_drew1))));(case s27_hc0=>exact hc2);rintro e w27 ⟨vt2,rfl,ht2,hb⟩;obtain ⟨Bt2,dt2,et2⟩:=Kd.S_slice ht2;subst et2;have n0_:=Aside0.mk (Kd.F_below (by repeat (first|(with_reducible exact Hw0_0.out)|(with_reducible apply Kd.F_alloc)|(with_reducible apply Kd.F_drewN)|(with_reducible apply Kd.F_drew))) hb);have n1_:=Aside0.mk (blk_below (g:=bw) (o := .cells #[.slice Bw0_0 r0_0.length dw0_0, .int .i64 r0_1] 32) (by repeat (first|(with_reducible exact BXw.out)|(with_reducible refine blk_drewN ?_ _)|(with_reducible refine blk_drew ?_)|(with_reducible refine blk_alloc ?_ _))) hb);have n2_:=Aside0.mk (Kd.R_below (by repeat (first|(with_reducible exact Hg0_0.out)|(with_reducible apply Kd.R_alloc)|(with_reducible apply Kd.R_drewN)|(with_reducible apply Kd.R_drew))) hb);have n3_:=Aside0.mk (blk_below (g:=w11.heap.size) (o := .cells #[.slice Bg0_0 r0_0.length dg0_0, .int .i64 r0_1] 32) (by repeat (first|(with_reducible exact BXg.out)|(with_reducible refine blk_drewN ?_ _)|(with_reducible refine blk_drew ?_)|(with_reducible refine blk_alloc ?_ _))) hb);have n4_:=Aside0.mk (Kd.R_below (by repeat (first|(with_reducible exact Ht0_0.out)|(with_reducible apply Kd.R_alloc)|(with_reducible apply Kd.R_drewN)|(with_reducible apply Kd.R_drew))) hb);have n5_:=Aside0.mk (Kd.R_below (by repeat (first|(with_reducible exact Ht1_0.out)|(with_reducible apply Kd.R_alloc)|(with_reducible apply Kd.R_drewN)|(with_reducible apply Kd.R_drew))) hb);have nb_:=Aside0.mk (below_step (by repeat (first|(with_reducible exact HB.out)|(with_reducible apply below_alloc)|(with_reducible apply pw_below_drewN)|(with_reducible apply below_drew1))) hb);have zw_:=hb.size;(try simp only[World.size_alloc,size_drew_,size_drewN_] at zw_);have ZW27:=Aside0.mk zw_;clear zw_;have ns_:=Aside0.mk (below_step (by repeat (first|(with_reducible exact HS.out)|(with_reducible apply below_alloc)|(with_reducible apply pw_below_drewN)|(with_reducible apply below_drew1))) hb);have gs_:=Aside0.mk HS.out.size;clear HS;have HS:=ns_;clear ns_;(first|(have bz_:=Aside0.mk (blk_below BZ.out hb);clear BZ;have BZ:=bz_;clear bz_)|(have gb_:=Aside0.mk HB.out.size;with_reducible (first|(have BZ:=Aside0.mk (blk_below (blk_new _ _) hb))|(have BZ:=Aside0.mk (blk_below (blk_drewN (blk_new _ _) _) hb))|(have BZ:=Aside0.mk (blk_below (blk_drew (blk_new _ _)) hb))|(have BZ:=Aside0.mk (blk_below (blk_drew (blk_drew (blk_new _ _))) hb)));have GB:=gb_;have GS:=gs_;clear gb_)|skip);clear gs_;clear HB Hw0_0 BXw Hg0_0 BXg Ht0_0 Ht1_0;have HB:=nb_;have Hw0_0:=n0_;have BXw:=n1_;have Hg0_0:=n2_;have BXg:=n3_;have Ht0_0:=n4_;have Ht1_0:=n5_;clear nb_ n0_ n1_ n2_ n3_ n4_ n5_;have Ht2:=Aside0.mk ht2;clear ht2;clear hb;have xa0_0:w27.cell? ⟨w.heap.size,0,none⟩=some (.slice A0_0 l0_0.length c0_0):=(blk_cell (blk_below PA0.out HB.out) 0).trans rfl;have xa0_1:w27.cell? ⟨w.heap.size,1,none⟩=some (.int .i64 a0_1):=(blk_cell (blk_below PA0.out HB.out) 1).trans rfl;have xa0_2:w27.cell? ⟨w.heap.size,2,none⟩=some (.int .i64 a0_2):=(blk_cell (blk_below PA0.out HB.out) 2).trans rfl;have xa1_0:w27.cell? ⟨w.heap.size+1,0,none⟩=some (.slice A1_0 l1_0.length c1_0):=(blk_cell (blk_below PA1.out HB.out) 0).trans rfl;have xa1_1:w27.cell? ⟨w.heap.size+1,1,none⟩=some (.int .i64 a1_1):=(blk_cell (blk_below PA1.out HB.out) 1).trans rfl;have BXwc0:w27.cell? ⟨bw,0,none⟩=some (.slice Bw0_0 r0_0.length dw0_0):=(blk_cell BXw.out 0).trans rfl;have BXwc1:w27.cell? ⟨bw,1,none⟩=some (.int .i64 r0_1):=(blk_cell BXw.out 1).trans rfl;have BXgc0:w27.cell? ⟨w11.heap.size,0,none⟩=some (.slice Bg0_0 r0_0.length dg0_0):=(blk_cell BXg.out 0).trans rfl;have BXgc1:w27.cell? ⟨w11.heap.size,1,none⟩=some (.int .i64 r0_1):=(blk_cell BXg.out 1).trans rfl;have hzA:w.heap.size+1 < w27.heap.size:=Nat.lt_of_lt_of_le (blk_lt PA1.out) HB.out.size;have hzBXw:bw < w27.heap.size:=blk_lt BXw.out;have hzBXg:w11.heap.size < w27.heap.size:=blk_lt BXg.out))|((go_at_call 12;refine (impl_RoundsAfter.calls k6 _ _ l0_0 a0_1 a0_2 _ _ l1_0 a1_1 _ _ l2 r0_0 r0_1 r1 _ ?s28_hr0_0 ?s28_hc0_0 ?s28_hr1_0 ?s28_hc1_0 ?s28_hr2 ?s28_hc2 XhI.out).mono ?_;(case s28_hr0_0=>exact (Kd.R_reads' (by repeat (first|(with_reducible exact Ht0_0.out)|(with_reducible apply Kd.R_alloc)|(with_reducible apply Kd.R_drewN)|(with_reducible apply Kd.R_drew)))).2.2);(case s28_hc0_0=>exact (Kd.R_reads' Ht0_0.out).2.1);(case s28_hr1_0=>exact (Kd.R_reads' (by repeat (first|(with_reducible exact Ht1_0.out)|(with_reducible apply Kd.R_alloc)|(with_reducible apply Kd.R_drewN)|(with_reducible apply Kd.R_drew)))).2.2);(case s28_hc1_0=>exact (Kd.R_reads' Ht1_0.out).2.1);(case s28_hr2=>exact (Kd.S_reads' (d:=(Kd.sliceS 22 (Kd.slice 3 (Kd.int .i64)))) (by repeat (first|(with_reducible exact Ht2.out)|(with_reducible apply Kd.S_alloc)|(with_reducible apply Kd.S_drewN)|(with_reducible apply Kd.S_drew)))).2.2);(case s28_hc2=>exact (Kd.S_reads' Ht2.out).2.1);rintro e w28 ⟨vh0_0,rfl,hh0_0,hb⟩;obtain ⟨Bh0_0,dh0_0,eh0_0⟩:=Kd.R_slice hh0_0;subst eh0_0;have n0_:=Aside0.mk (Kd.F_below (by repeat (first|(with_reducible exact Hw0_0.out)|(with_reducible apply Kd.F_alloc)|(with_reducible apply Kd.F_drewN)|(with_reducible apply Kd.F_drew))) hb);have n1_:=Aside0.mk (blk_below (g:=bw) (o := .cells #[.slice Bw0_0 r0_0.length dw0_0, .int .i64 r0_1] 32) (by repeat (first|(with_reducible exact BXw.out)|(with_reducible refine blk_drewN ?_ _)|(with_reducible refine blk_drew ?_)|(with_reducible refine blk_alloc ?_ _))) hb);have n2_:=Aside0.mk (Kd.R_below (by repeat (first|(with_reducible exact Hg0_0.out)|(with_reducible apply Kd.R_alloc)|(with_reducible apply Kd.R_drewN)|(with_reducible apply Kd.R_drew))) hb);have n3_:=Aside0.mk (blk_below (g:=w11.heap.size) (o := .cells #[.slice Bg0_0 r0_0.length dg0_0, .int .i64 r0_1] 32) (by repeat (first|(with_reducible exact BXg.out)|(with_reducible refine blk_drewN ?_ _)|(with_reducible refine blk_drew ?_)|(with_reducible refine blk_alloc ?_ _))) hb);have n4_:=Aside0.mk (Kd.R_below (by repeat (first|(with_reducible exact Ht0_0.out)|(with_reducible apply Kd.R_alloc)|(with_reducible apply Kd.R_drewN)|(with_reducible apply Kd.R_drew))) hb);have n5_:=Aside0.mk (Kd.R_below (by repeat (first|(with_reducible exact Ht1_0.out)|(with_reducible apply Kd.R_alloc)|(with_reducible apply Kd.R_drewN)|(with_reducible apply Kd.R_drew))) hb);have n6_:=Aside0.mk (Kd.S_below (by repeat (first|(with_reducible exact Ht2.out)|(with_reducible apply Kd.S_alloc)|(with_reducible apply Kd.S_drewN)|(with_reducible apply Kd.S_drew))) hb);have nb_:=Aside0.mk (below_step (by repeat (first|(with_reducible exact HB.out)|(with_reducible apply below_alloc)|(with_reducible apply pw_below_drewN)|(with_reducible apply below_drew1))) hb);have zw_:=hb.size;(try simp only[World.size_alloc,size_drew_,size_drewN_] at zw_);have ZW28:=Aside0.mk zw_;clear zw_;have ns_:=Aside0.mk (below_step (by repeat (first|(with_reducible exact HS.out)|(with_reducible apply below_alloc)|(with_reducible apply pw_below_drewN)|(with_reducible apply below_drew1))) hb);have gs_:=Aside0.mk HS.out.size;clear HS;have HS:=ns_;clear ns_;(first|(have bz_:=Aside0.mk (blk_below BZ.out hb);clear BZ;have BZ:=bz_;clear bz_)|(have gb_:=Aside0.mk HB.out.size;with_reducible (first|(have BZ:=Aside0.mk (blk_below (blk_new _ _) hb))|(have BZ:=Aside0.mk (blk_below (blk_drewN (blk_new _ _) _) hb))|(have BZ:=Aside0.mk (blk_below (blk_drew (blk_new _ _)) hb))|(have BZ:=Aside0.mk (blk_below (blk_drew (blk_drew (blk_new _ _))) hb)));have GB:=gb_;have GS:=gs_;clear gb_)|skip);clear gs_;clear HB Hw0_0 BXw Hg0_0 BXg Ht0_0 Ht1_0 Ht2;have HB:=nb_;have Hw0_0:=n0_;have BXw:=n1_;have Hg0_0:=n2_;have BXg:=n3_;have Ht0_0:=n4_;have Ht1_0:=n5_;have Ht2:=n6_;clear nb_ n0_ n1_ n2_ n3_ n4_ n5_ n6_;have Hh0_0:=Aside0.mk hh0_0;clear hh0_0;clear hb;have xa0_0:w28.cell? ⟨w.heap.size,0,none⟩=some (.slice A0_0 l0_0.length c0_0):=(blk_cell (blk_below PA0.out HB.out) 0).trans rfl;have xa0_1:w28.cell? ⟨w.heap.size,1,none⟩=some (.int .i64 a0_1):=(blk_cell (blk_below PA0.out HB.out) 1).trans rfl;have xa0_2:w28.cell? ⟨w.heap.size,2,none⟩=some (.int .i64 a0_2):=(blk_cell (blk_below PA0.out HB.out) 2).trans rfl;have xa1_0:w28.cell? ⟨w.heap.size+1,0,none⟩=some (.slice A1_0 l1_0.length c1_0):=(blk_cell (blk_below PA1.out HB.out) 0).trans rfl;have xa1_1:w28.cell? ⟨w.heap.size+1,1,none⟩=some (.int .i64 a1_1):=(blk_cell (blk_below PA1.out HB.out) 1).trans rfl;have BXwc0:w28.cell? ⟨bw,0,none⟩=some (.slice Bw0_0 r0_0.length dw0_0):=(blk_cell BXw.out 0).trans rfl;have BXwc1:w28.cell? ⟨bw,1,none⟩=some (.int .i64 r0_1):=(blk_cell BXw.out 1).trans rfl;have BXgc0:w28.cell? ⟨w11.heap.size,0,none⟩=some (.slice Bg0_0 r0_0.length dg0_0):=(blk_cell BXg.out 0).trans rfl;have BXgc1:w28.cell? ⟨w11.heap.size,1,none⟩=some (.int .i64 r0_1):=(blk_cell BXg.out 1).trans rfl;have hzA:w.heap.size+1 < w28.heap.size:=Nat.lt_of_lt_of_le (blk_lt PA1.out) HB.out.size;have hzBXw:bw < w28.heap.size:=blk_lt BXw.out;have hzBXg:w11.heap.size < w28.heap.size:=blk_lt BXg.out))|((revert BZ;intro BZ;obtain ⟨c0_,f0_,c1_,f1_⟩:=put2 BZ.out ((.slice Bh0_0 r0_0.length dh0_0)) ((.int .i64 r0_1));simp only[c0_,f0_,c1_,f1_,Bool.false_eq_true,if_false,Result.andThen];clear c0_ f0_ c1_ f1_))|((obtain ⟨c0_,f0_,c1_,f1_⟩:=put2 (blk_new w28 (.cells #[.slice none 0 0, .int .i64 0] 32 (0,0))) ((.slice Bh0_0 r0_0.length dh0_0)) ((.int .i64 r0_1));simp only[c0_,f0_,c1_,f1_,Bool.false_eq_true,if_false,Result.andThen];clear c0_ f0_ c1_ f1_)))
   all_goals (go_wp2_with fail;go_meet)
   all_goals (have hws_:=trivial;have HWS_:=hws_;clear hws_;exact ⟨_,_,_,_,rfl,rfl,⟨(Kd.R_reads' Hh0_0.out).2.1⟩,⟨Kd.F_mono (Kd.F_bound (Kd.R_F (by (first|exact Kd.R_set (Kd.R_set Hh0_0.out BZ.out (by decide) _ _) (blk_put BZ.out 0 _ rfl) (by decide) _ _|exact Kd.R_set (Kd.R_set (Kd.R_alloc Hh0_0.out _) (blk_new _ _) (by decide) _ _) (blk_put (blk_new _ _) 0 _ rfl) (by decide) _ _|exact Kd.R_alloc Hh0_0.out _)))) (fun k hk=>hk.2)⟩,⟨Nat.le_refl _⟩,⟨by first|exact put2_blk BZ.out _ _|exact put2_blk (blk_new _ _) _ _|exact blk_new _ _⟩,⟨by first|exact Kd.F_alloc Hw0_0.out _|exact Kd.F_kept Hw0_0.out (put2_kept _ _ _ _) (fun k_ h_ p_=>Nat.ne_of_lt (Nat.lt_of_lt_of_le h_ (Nat.le_trans ZTHw0_0.out GS.out)) p_)⟩,⟨by first|exact blk_alloc BXw.out _|exact blk_kept BXw.out (put2_kept _ _ _ _) (fun p_=>Nat.ne_of_lt (Nat.lt_of_lt_of_le ZTBXw.out GS.out) p_)⟩,⟨by (first|exact Kd.R_set (Kd.R_set Hg0_0.out BZ.out (by decide) _ _) (blk_put BZ.out 0 _ rfl) (by decide) _ _|exact Kd.R_set (Kd.R_set (Kd.R_alloc Hg0_0.out _) (blk_new _ _) (by decide) _ _) (blk_put (blk_new _ _) 0 _ rfl) (by decide) _ _|exact Kd.R_alloc Hg0_0.out _)⟩,⟨by first|exact blk_alloc BXg.out _|exact blk_kept BXg.out (put2_kept _ _ _ _) (fun p_=>Nat.ne_of_lt (Nat.lt_of_lt_of_le ZTBXg.out GS.out) p_)⟩,⟨(by repeat (first|(with_reducible exact HB.out)|(with_reducible apply below_alloc)|(with_reducible apply pw_below_drewN)|(with_reducible apply below_drew1)|(with_reducible refine below_set ?_ GB.out)|(with_reducible refine below_set ?_ HB.out.size)))⟩⟩)
  case rest =>
   clear HB Hw0_0 BXw Hg0_0 BXg
   obtain ⟨Bh0_0,dh0_0,sh0_0,bh,rfl,rfl,LEh0_0,Hh0_0,ZSh0_0,BXh,Hw0_0,BXw,Hg0_0,BXg,HB⟩:=hcut
   have ZBh:=Aside0.mk (blk_lt BXh.out)
   clear xa0_0 xa0_1 xa0_2 xa1_0 xa1_1 BXwc0 BXwc1 BXgc0 BXgc1 hzA hzBXw hzBXg
   have xa0_0:wc.cell? ⟨w.heap.size,0,none⟩=some (.slice A0_0 l0_0.length c0_0):=(blk_cell (blk_below PA0.out HB.out) 0).trans rfl
   have xa0_1:wc.cell? ⟨w.heap.size,1,none⟩=some (.int .i64 a0_1):=(blk_cell (blk_below PA0.out HB.out) 1).trans rfl
   have xa0_2:wc.cell? ⟨w.heap.size,2,none⟩=some (.int .i64 a0_2):=(blk_cell (blk_below PA0.out HB.out) 2).trans rfl
   have xa1_0:wc.cell? ⟨w.heap.size+1,0,none⟩=some (.slice A1_0 l1_0.length c1_0):=(blk_cell (blk_below PA1.out HB.out) 0).trans rfl
   have xa1_1:wc.cell? ⟨w.heap.size+1,1,none⟩=some (.int .i64 a1_1):=(blk_cell (blk_below PA1.out HB.out) 1).trans rfl
   have BXwc0:wc.cell? ⟨bw,0,none⟩=some (.slice Bw0_0 r0_0.length dw0_0):=(blk_cell BXw.out 0).trans rfl
   have BXwc1:wc.cell? ⟨bw,1,none⟩=some (.int .i64 r0_1):=(blk_cell BXw.out 1).trans rfl
   have BXgc0:wc.cell? ⟨w11.heap.size,0,none⟩=some (.slice Bg0_0 r0_0.length dg0_0):=(blk_cell BXg.out 0).trans rfl
   have BXgc1:wc.cell? ⟨w11.heap.size,1,none⟩=some (.int .i64 r0_1):=(blk_cell BXg.out 1).trans rfl
   have BXhc0:wc.cell? ⟨bh,0,none⟩=some (.slice Bh0_0 r0_0.length dh0_0):=(blk_cell BXh.out 0).trans rfl
   have BXhc1:wc.cell? ⟨bh,1,none⟩=some (.int .i64 r0_1):=(blk_cell BXh.out 1).trans rfl
   have hzA:w.heap.size+1 < wc.heap.size:=Nat.lt_of_lt_of_le (blk_lt PA1.out) HB.out.size
   have hzBXw:bw < wc.heap.size:=blk_lt BXw.out
   have hzBXg:w11.heap.size < wc.heap.size:=blk_lt BXg.out
   have hzBXh:bh < wc.heap.size:=blk_lt BXh.out
   go_wp2_with fail
   go_at_call 13
   refine (laws_eqCamp.calls k7 _ _ r0_0 r0_1 _ _ r0_0 r0_1 true _ ?s29_hr0_0 ?s29_hc0_0 ?s29_hr1_0 ?s29_hc1_0 XhE.out).mono ?_
   (case s29_hr0_0=>exact Kd.F_now (by repeat (first|(with_reducible exact Hh0_0.out)|(with_reducible apply Kd.F_alloc)|(with_reducible apply Kd.F_drewN)|(with_reducible apply Kd.F_drew))))
   (case s29_hc0_0=>exact LEh0_0.out)
   (case s29_hr1_0=>exact Kd.F_now (by repeat (first|(with_reducible exact Hw0_0.out)|(with_reducible apply Kd.F_alloc)|(with_reducible apply Kd.F_drewN)|(with_reducible apply Kd.F_drew))))
   (case s29_hc1_0=>exact LEw0_0.out)
   rintro e w29 ⟨rfl,hb⟩
   have n0_:=Aside0.mk (Kd.F_below (by repeat (first|(with_reducible exact Hw0_0.out)|(with_reducible apply Kd.F_alloc)|(with_reducible apply Kd.F_drewN)|(with_reducible apply Kd.F_drew))) hb)
   have n1_:=Aside0.mk (blk_below (g:=bw) (o := .cells #[.slice Bw0_0 r0_0.length dw0_0, .int .i64 r0_1] 32) (by repeat (first|(with_reducible exact BXw.out)|(with_reducible refine blk_drewN ?_ _)|(with_reducible refine blk_drew ?_)|(with_reducible refine blk_alloc ?_ _))) hb)
   have n2_:=Aside0.mk (Kd.R_below (by repeat (first|(with_reducible exact Hg0_0.out)|(with_reducible apply Kd.R_alloc)|(with_reducible apply Kd.R_drewN)|(with_reducible apply Kd.R_drew))) hb)
   have n3_:=Aside0.mk (blk_below (g:=w11.heap.size) (o := .cells #[.slice Bg0_0 r0_0.length dg0_0, .int .i64 r0_1] 32) (by repeat (first|(with_reducible exact BXg.out)|(with_reducible refine blk_drewN ?_ _)|(with_reducible refine blk_drew ?_)|(with_reducible refine blk_alloc ?_ _))) hb)
   have n4_:=Aside0.mk (Kd.F_below (by repeat (first|(with_reducible exact Hh0_0.out)|(with_reducible apply Kd.F_alloc)|(with_reducible apply Kd.F_drewN)|(with_reducible apply Kd.F_drew))) hb)
   have n5_:=Aside0.mk (blk_below (g:=bh) (o := .cells #[.slice Bh0_0 r0_0.length dh0_0, .int .i64 r0_1] 32) (by repeat (first|(with_reducible exact BXh.out)|(with_reducible refine blk_drewN ?_ _)|(with_reducible refine blk_drew ?_)|(with_reducible refine blk_alloc ?_ _))) hb)
   have nb_:=Aside0.mk (below_step (by repeat (first|(with_reducible exact HB.out)|(with_reducible apply below_alloc)|(with_reducible apply pw_below_drewN)|(with_reducible apply below_drew1))) hb)
   have zw_:=hb.size
   (try simp only[World.size_alloc,size_drew_,size_drewN_] at zw_)
   have ZW29:=Aside0.mk zw_
   clear zw_
   clear HB Hw0_0 BXw Hg0_0 BXg Hh0_0 BXh
   have HB:=nb_
   have Hw0_0:=n0_
   have BXw:=n1_
   have Hg0_0:=n2_
   have BXg:=n3_
   have Hh0_0:=n4_
   have BXh:=n5_
   clear nb_ n0_ n1_ n2_ n3_ n4_ n5_
   clear hb
   clear xa0_0 xa0_1 xa0_2 xa1_0 xa1_1 BXwc0 BXwc1 BXgc0 BXgc1 BXhc0 BXhc1 hzA hzBXw hzBXg hzBXh
   have xa0_0:w29.cell? ⟨w.heap.size,0,none⟩=some (.slice A0_0 l0_0.length c0_0):=(blk_cell (blk_below PA0.out HB.out) 0).trans rfl
   have xa0_1:w29.cell? ⟨w.heap.size,1,none⟩=some (.int .i64 a0_1):=(blk_cell (blk_below PA0.out HB.out) 1).trans rfl
   have xa0_2:w29.cell? ⟨w.heap.size,2,none⟩=some (.int .i64 a0_2):=(blk_cell (blk_below PA0.out HB.out) 2).trans rfl
   have xa1_0:w29.cell? ⟨w.heap.size+1,0,none⟩=some (.slice A1_0 l1_0.length c1_0):=(blk_cell (blk_below PA1.out HB.out) 0).trans rfl
   have xa1_1:w29.cell? ⟨w.heap.size+1,1,none⟩=some (.int .i64 a1_1):=(blk_cell (blk_below PA1.out HB.out) 1).trans rfl
   have BXwc0:w29.cell? ⟨bw,0,none⟩=some (.slice Bw0_0 r0_0.length dw0_0):=(blk_cell BXw.out 0).trans rfl
   have BXwc1:w29.cell? ⟨bw,1,none⟩=some (.int .i64 r0_1):=(blk_cell BXw.out 1).trans rfl
   have BXgc0:w29.cell? ⟨w11.heap.size,0,none⟩=some (.slice Bg0_0 r0_0.length dg0_0):=(blk_cell BXg.out 0).trans rfl
   have BXgc1:w29.cell? ⟨w11.heap.size,1,none⟩=some (.int .i64 r0_1):=(blk_cell BXg.out 1).trans rfl
   have BXhc0:w29.cell? ⟨bh,0,none⟩=some (.slice Bh0_0 r0_0.length dh0_0):=(blk_cell BXh.out 0).trans rfl
   have BXhc1:w29.cell? ⟨bh,1,none⟩=some (.int .i64 r0_1):=(blk_cell BXh.out 1).trans rfl
   have hzA:w.heap.size+1 < w29.heap.size:=Nat.lt_of_lt_of_le (blk_lt PA1.out) HB.out.size
   have hzBXw:bw < w29.heap.size:=blk_lt BXw.out
   have hzBXg:w11.heap.size < w29.heap.size:=blk_lt BXg.out
   have hzBXh:bh < w29.heap.size:=blk_lt BXh.out
   go_wp2_with fail
   go_at_call 19
   refine (laws_heldCamp_n k14 _ _ yg0_0 r0_1 1 q1 _ ?s30_hr0_0 ?s30_hc0_0 XhH.out r0_0.length ?s30_n0_0).mono ?_
   (case s30_hr0_0=>exact (Kd.R_reads' (by repeat (first|(with_reducible exact Hg0_0.out)|(with_reducible apply Kd.R_alloc)|(with_reducible apply Kd.R_drewN)|(with_reducible apply Kd.R_drew)))).2.2)
   (case s30_hc0_0=>exact Nat.le_trans (Nat.le_of_eq (Kd.R_reads' Hg0_0.out).1.symm) (Kd.R_reads' Hg0_0.out).2.1)
   (case s30_n0_0=>exact (Kd.R_reads' Hg0_0.out).1)
   rintro e w30 ⟨rfl,hb⟩
   have n0_:=Aside0.mk (Kd.F_below (by repeat (first|(with_reducible exact Hw0_0.out)|(with_reducible apply Kd.F_alloc)|(with_reducible apply Kd.F_drewN)|(with_reducible apply Kd.F_drew))) hb)
   have n1_:=Aside0.mk (blk_below (g:=bw) (o := .cells #[.slice Bw0_0 r0_0.length dw0_0, .int .i64 r0_1] 32) (by repeat (first|(with_reducible exact BXw.out)|(with_reducible refine blk_drewN ?_ _)|(with_reducible refine blk_drew ?_)|(with_reducible refine blk_alloc ?_ _))) hb)
   have n2_:=Aside0.mk (Kd.R_below (by repeat (first|(with_reducible exact Hg0_0.out)|(with_reducible apply Kd.R_alloc)|(with_reducible apply Kd.R_drewN)|(with_reducible apply Kd.R_drew))) hb)
   have n3_:=Aside0.mk (blk_below (g:=w11.heap.size) (o := .cells #[.slice Bg0_0 r0_0.length dg0_0, .int .i64 r0_1] 32) (by repeat (first|(with_reducible exact BXg.out)|(with_reducible refine blk_drewN ?_ _)|(with_reducible refine blk_drew ?_)|(with_reducible refine blk_alloc ?_ _))) hb)
   have n4_:=Aside0.mk (Kd.F_below (by repeat (first|(with_reducible exact Hh0_0.out)|(with_reducible apply Kd.F_alloc)|(with_reducible apply Kd.F_drewN)|(with_reducible apply Kd.F_drew))) hb)
   have n5_:=Aside0.mk (blk_below (g:=bh) (o := .cells #[.slice Bh0_0 r0_0.length dh0_0, .int .i64 r0_1] 32) (by repeat (first|(with_reducible exact BXh.out)|(with_reducible refine blk_drewN ?_ _)|(with_reducible refine blk_drew ?_)|(with_reducible refine blk_alloc ?_ _))) hb)
   have nb_:=Aside0.mk (below_step (by repeat (first|(with_reducible exact HB.out)|(with_reducible apply below_alloc)|(with_reducible apply pw_below_drewN)|(with_reducible apply below_drew1))) hb)
   have zw_:=hb.size
   (try simp only[World.size_alloc,size_drew_,size_drewN_] at zw_)
   have ZW30:=Aside0.mk zw_
   clear zw_
   clear HB Hw0_0 BXw Hg0_0 BXg Hh0_0 BXh
   have HB:=nb_
   have Hw0_0:=n0_
   have BXw:=n1_
   have Hg0_0:=n2_
   have BXg:=n3_
   have Hh0_0:=n4_
   have BXh:=n5_
   clear nb_ n0_ n1_ n2_ n3_ n4_ n5_
   clear hb
   clear xa0_0 xa0_1 xa0_2 xa1_0 xa1_1 BXwc0 BXwc1 BXgc0 BXgc1 BXhc0 BXhc1 hzA hzBXw hzBXg hzBXh
   have xa0_0:w30.cell? ⟨w.heap.size,0,none⟩=some (.slice A0_0 l0_0.length c0_0):=(blk_cell (blk_below PA0.out HB.out) 0).trans rfl
   have xa0_1:w30.cell? ⟨w.heap.size,1,none⟩=some (.int .i64 a0_1):=(blk_cell (blk_below PA0.out HB.out) 1).trans rfl
   have xa0_2:w30.cell? ⟨w.heap.size,2,none⟩=some (.int .i64 a0_2):=(blk_cell (blk_below PA0.out HB.out) 2).trans rfl
   have xa1_0:w30.cell? ⟨w.heap.size+1,0,none⟩=some (.slice A1_0 l1_0.length c1_0):=(blk_cell (blk_below PA1.out HB.out) 0).trans rfl
   have xa1_1:w30.cell? ⟨w.heap.size+1,1,none⟩=some (.int .i64 a1_1):=(blk_cell (blk_below PA1.out HB.out) 1).trans rfl
   have BXwc0:w30.cell? ⟨bw,0,none⟩=some (.slice Bw0_0 r0_0.length dw0_0):=(blk_cell BXw.out 0).trans rfl
   have BXwc1:w30.cell? ⟨bw,1,none⟩=some (.int .i64 r0_1):=(blk_cell BXw.out 1).trans rfl
   have BXgc0:w30.cell? ⟨w11.heap.size,0,none⟩=some (.slice Bg0_0 r0_0.length dg0_0):=(blk_cell BXg.out 0).trans rfl
   have BXgc1:w30.cell? ⟨w11.heap.size,1,none⟩=some (.int .i64 r0_1):=(blk_cell BXg.out 1).trans rfl
   have BXhc0:w30.cell? ⟨bh,0,none⟩=some (.slice Bh0_0 r0_0.length dh0_0):=(blk_cell BXh.out 0).trans rfl
   have BXhc1:w30.cell? ⟨bh,1,none⟩=some (.int .i64 r0_1):=(blk_cell BXh.out 1).trans rfl
   have hzA:w.heap.size+1 < w30.heap.size:=Nat.lt_of_lt_of_le (blk_lt PA1.out) HB.out.size
   have hzBXw:bw < w30.heap.size:=blk_lt BXw.out
   have hzBXg:w11.heap.size < w30.heap.size:=blk_lt BXg.out
   have hzBXh:bh < w30.heap.size:=blk_lt BXh.out
   go_wp2
   go_ret
   exact ⟨rfl,HA.out.trans (HB.out.mono HA.out.size)⟩
set_option maxHeartbeats 2000000 in
set_option maxRecDepth 100000 in
theorem FnExactRoundsAfter_short0 (A0_0:Option Addr) (c0_0:Nat) (l0_0:List Int) (a0_1:Int) (a0_2:Int) (A1_0:Option Addr) (c1_0:Nat) (l1_0:List Bool) (a1_1:Int) (A2:Option Addr) (c2:Nat) (l2:List (List (List Int))) (w:World) (hr0_0:Kd.C (Kd.int .i64) w A0_0 l0_0.length l0_0) (hc0_0:l0_0.length≤c0_0) (hr1_0:Kd.C Kd.bool w A1_0 l1_0.length l1_0) (hc1_0:l1_0.length≤c1_0) (hr2:Kd.C (Kd.slice 22 (Kd.slice 3 (Kd.int .i64))) w A2 l2.length l2) (hc2:l2.length≤c2)  (u0:Int) (hU0:laws_szNight.f l0_0 a0_1 a0_2 1048576=some u0) (oU0:u0 < 0) :
  Calls Try.prog 3 #[.agg #[.slice A0_0 l0_0.length c0_0, .int .i64 a0_1, .int .i64 a0_2], .agg #[.slice A1_0 l1_0.length c1_0, .int .i64 a1_1], .slice A2 l2.length c2] w fun e w'=>e = .returned (.bool true)∧Below w.heap.size w w':=by
 have hu24_:=Try.underlying24
 have hu27_:=Try.underlying27
 have W0_0:=Aside0.mk hr0_0
 have W1_0:=Aside0.mk hr1_0
 have W2:=Aside0.mk hr2
 clear hr0_0 hr1_0 hr2
 have XhU0:=Aside0.mk hU0
 clear hU0
 have doU0:=decide_eq_true oU0
 clear oU0
 go_enter Try.func3,Try.ntmps3
 go_wp2_with fail
 have NB:=Aside0.mk (lay2 w (.cells #[.slice A0_0 l0_0.length c0_0, .int .i64 a0_1, .int .i64 a0_2] 24) (.cells #[.slice A1_0 l1_0.length c1_0, .int .i64 a1_1] 27))
 generalize ((w.alloc (.cells #[.slice A0_0 l0_0.length c0_0, .int .i64 a0_1, .int .i64 a0_2] 24)).alloc (.cells #[.slice A1_0 l1_0.length c1_0, .int .i64 a1_1] 27))=wA at *
 have PA0:=Aside0.mk NB.out.1
 have PA1:=Aside0.mk NB.out.2.1
 have HA:=Aside0.mk NB.out.2.2
 clear NB
 have RA0_0:=Aside0.mk (Kd.C_below W0_0.out HA.out)
 have RA1_0:=Aside0.mk (Kd.C_below W1_0.out HA.out)
 have RA2:=Aside0.mk (Kd.C_below W2.out HA.out)
 clear W0_0 W1_0 W2
 have HB:=Aside0.mk (Below.refl wA.heap.size wA)
 go_wp2_with fail
 go_at_call 5
 refine (laws_szNight.calls _ _ l0_0 a0_1 a0_2 1048576 u0 _ ?s901_hr0_0 ?s901_hc0_0 XhU0.out).mono ?_
 (case s901_hr0_0=>exact Kd.C_below RA0_0.out (by repeat (first|(with_reducible exact HB.out)|(with_reducible apply below_alloc)|(with_reducible apply pw_below_drewN)|(with_reducible apply below_drew1))))
 (case s901_hc0_0=>exact hc0_0)
 rintro e w1 ⟨rfl,hb⟩
 have nb_:=Aside0.mk (below_step (by repeat (first|(with_reducible exact HB.out)|(with_reducible apply below_alloc)|(with_reducible apply pw_below_drewN)|(with_reducible apply below_drew1))) hb)
 have zw_:=hb.size
 (try simp only[World.size_alloc,size_drew_,size_drewN_] at zw_)
 have ZW1:=Aside0.mk zw_
 clear zw_
 clear HB
 have HB:=nb_
 clear nb_
 clear hb
 have xa0_0:w1.cell? ⟨w.heap.size,0,none⟩=some (.slice A0_0 l0_0.length c0_0):=(blk_cell (blk_below PA0.out HB.out) 0).trans rfl
 have xa0_1:w1.cell? ⟨w.heap.size,1,none⟩=some (.int .i64 a0_1):=(blk_cell (blk_below PA0.out HB.out) 1).trans rfl
 have xa0_2:w1.cell? ⟨w.heap.size,2,none⟩=some (.int .i64 a0_2):=(blk_cell (blk_below PA0.out HB.out) 2).trans rfl
 have xa1_0:w1.cell? ⟨w.heap.size+1,0,none⟩=some (.slice A1_0 l1_0.length c1_0):=(blk_cell (blk_below PA1.out HB.out) 0).trans rfl
 have xa1_1:w1.cell? ⟨w.heap.size+1,1,none⟩=some (.int .i64 a1_1):=(blk_cell (blk_below PA1.out HB.out) 1).trans rfl
 have hzA:w.heap.size+1 < w1.heap.size:=Nat.lt_of_lt_of_le (blk_lt PA1.out) HB.out.size
 go_wp2
 go_ret
 exact ⟨rfl,HA.out.trans (HB.out.mono HA.out.size)⟩
set_option maxHeartbeats 2000000 in
set_option maxRecDepth 100000 in
theorem FnExactRoundsAfter_short1 (A0_0:Option Addr) (c0_0:Nat) (l0_0:List Int) (a0_1:Int) (a0_2:Int) (A1_0:Option Addr) (c1_0:Nat) (l1_0:List Bool) (a1_1:Int) (A2:Option Addr) (c2:Nat) (l2:List (List (List Int))) (w:World) (hr0_0:Kd.C (Kd.int .i64) w A0_0 l0_0.length l0_0) (hc0_0:l0_0.length≤c0_0) (hr1_0:Kd.C Kd.bool w A1_0 l1_0.length l1_0) (hc1_0:l1_0.length≤c1_0) (hr2:Kd.C (Kd.slice 22 (Kd.slice 3 (Kd.int .i64))) w A2 l2.length l2) (hc2:l2.length≤c2)  (u0:Int) (hU0:laws_szNight.f l0_0 a0_1 a0_2 1048576=some u0) (nU0:¬ u0 < 0) (u1:Int) (hU1:laws_szCamp.f l1_0 a1_1 u0=some u1) (oU1:u1 < 0) :
  Calls Try.prog 3 #[.agg #[.slice A0_0 l0_0.length c0_0, .int .i64 a0_1, .int .i64 a0_2], .agg #[.slice A1_0 l1_0.length c1_0, .int .i64 a1_1], .slice A2 l2.length c2] w fun e w'=>e = .returned (.bool true)∧Below w.heap.size w w':=by
 have hu24_:=Try.underlying24
 have hu27_:=Try.underlying27
 have W0_0:=Aside0.mk hr0_0
 have W1_0:=Aside0.mk hr1_0
 have W2:=Aside0.mk hr2
 clear hr0_0 hr1_0 hr2
 have XhU0:=Aside0.mk hU0
 clear hU0
 have dnU0:=decide_eq_false nU0
 clear nU0
 have XhU1:=Aside0.mk hU1
 clear hU1
 have doU1:=decide_eq_true oU1
 clear oU1
 go_enter Try.func3,Try.ntmps3
 go_wp2_with fail
 have NB:=Aside0.mk (lay2 w (.cells #[.slice A0_0 l0_0.length c0_0, .int .i64 a0_1, .int .i64 a0_2] 24) (.cells #[.slice A1_0 l1_0.length c1_0, .int .i64 a1_1] 27))
 generalize ((w.alloc (.cells #[.slice A0_0 l0_0.length c0_0, .int .i64 a0_1, .int .i64 a0_2] 24)).alloc (.cells #[.slice A1_0 l1_0.length c1_0, .int .i64 a1_1] 27))=wA at *
 have PA0:=Aside0.mk NB.out.1
 have PA1:=Aside0.mk NB.out.2.1
 have HA:=Aside0.mk NB.out.2.2
 clear NB
 have RA0_0:=Aside0.mk (Kd.C_below W0_0.out HA.out)
 have RA1_0:=Aside0.mk (Kd.C_below W1_0.out HA.out)
 have RA2:=Aside0.mk (Kd.C_below W2.out HA.out)
 clear W0_0 W1_0 W2
 have HB:=Aside0.mk (Below.refl wA.heap.size wA)
 go_wp2_with fail
 go_at_call 5
 refine (laws_szNight.calls _ _ l0_0 a0_1 a0_2 1048576 u0 _ ?s901_hr0_0 ?s901_hc0_0 XhU0.out).mono ?_
 (case s901_hr0_0=>exact Kd.C_below RA0_0.out (by repeat (first|(with_reducible exact HB.out)|(with_reducible apply below_alloc)|(with_reducible apply pw_below_drewN)|(with_reducible apply below_drew1))))
 (case s901_hc0_0=>exact hc0_0)
 rintro e w1 ⟨rfl,hb⟩
 have nb_:=Aside0.mk (below_step (by repeat (first|(with_reducible exact HB.out)|(with_reducible apply below_alloc)|(with_reducible apply pw_below_drewN)|(with_reducible apply below_drew1))) hb)
 have zw_:=hb.size
 (try simp only[World.size_alloc,size_drew_,size_drewN_] at zw_)
 have ZW1:=Aside0.mk zw_
 clear zw_
 clear HB
 have HB:=nb_
 clear nb_
 clear hb
 have xa0_0:w1.cell? ⟨w.heap.size,0,none⟩=some (.slice A0_0 l0_0.length c0_0):=(blk_cell (blk_below PA0.out HB.out) 0).trans rfl
 have xa0_1:w1.cell? ⟨w.heap.size,1,none⟩=some (.int .i64 a0_1):=(blk_cell (blk_below PA0.out HB.out) 1).trans rfl
 have xa0_2:w1.cell? ⟨w.heap.size,2,none⟩=some (.int .i64 a0_2):=(blk_cell (blk_below PA0.out HB.out) 2).trans rfl
 have xa1_0:w1.cell? ⟨w.heap.size+1,0,none⟩=some (.slice A1_0 l1_0.length c1_0):=(blk_cell (blk_below PA1.out HB.out) 0).trans rfl
 have xa1_1:w1.cell? ⟨w.heap.size+1,1,none⟩=some (.int .i64 a1_1):=(blk_cell (blk_below PA1.out HB.out) 1).trans rfl
 have hzA:w.heap.size+1 < w1.heap.size:=Nat.lt_of_lt_of_le (blk_lt PA1.out) HB.out.size
 go_wp2_with fail
 go_at_call 6
 refine (laws_szCamp.calls _ _ l1_0 a1_1 u0 u1 _ ?s902_hr0_0 ?s902_hc0_0 XhU1.out).mono ?_
 (case s902_hr0_0=>exact Kd.C_below RA1_0.out (by repeat (first|(with_reducible exact HB.out)|(with_reducible apply below_alloc)|(with_reducible apply pw_below_drewN)|(with_reducible apply below_drew1))))
 (case s902_hc0_0=>exact hc1_0)
 rintro e w2 ⟨rfl,hb⟩
 have nb_:=Aside0.mk (below_step (by repeat (first|(with_reducible exact HB.out)|(with_reducible apply below_alloc)|(with_reducible apply pw_below_drewN)|(with_reducible apply below_drew1))) hb)
 have zw_:=hb.size
 (try simp only[World.size_alloc,size_drew_,size_drewN_] at zw_)
 have ZW2:=Aside0.mk zw_
 clear zw_
 clear HB
 have HB:=nb_
 clear nb_
 clear hb
 clear xa0_0 xa0_1 xa0_2 xa1_0 xa1_1 hzA
 have xa0_0:w2.cell? ⟨w.heap.size,0,none⟩=some (.slice A0_0 l0_0.length c0_0):=(blk_cell (blk_below PA0.out HB.out) 0).trans rfl
 have xa0_1:w2.cell? ⟨w.heap.size,1,none⟩=some (.int .i64 a0_1):=(blk_cell (blk_below PA0.out HB.out) 1).trans rfl
 have xa0_2:w2.cell? ⟨w.heap.size,2,none⟩=some (.int .i64 a0_2):=(blk_cell (blk_below PA0.out HB.out) 2).trans rfl
 have xa1_0:w2.cell? ⟨w.heap.size+1,0,none⟩=some (.slice A1_0 l1_0.length c1_0):=(blk_cell (blk_below PA1.out HB.out) 0).trans rfl
 have xa1_1:w2.cell? ⟨w.heap.size+1,1,none⟩=some (.int .i64 a1_1):=(blk_cell (blk_below PA1.out HB.out) 1).trans rfl
 have hzA:w.heap.size+1 < w2.heap.size:=Nat.lt_of_lt_of_le (blk_lt PA1.out) HB.out.size
 go_wp2
 go_ret
 exact ⟨rfl,HA.out.trans (HB.out.mono HA.out.size)⟩
set_option maxHeartbeats 2000000 in
set_option maxRecDepth 100000 in
theorem FnExactRoundsAfter_short2 (A0_0:Option Addr) (c0_0:Nat) (l0_0:List Int) (a0_1:Int) (a0_2:Int) (A1_0:Option Addr) (c1_0:Nat) (l1_0:List Bool) (a1_1:Int) (A2:Option Addr) (c2:Nat) (l2:List (List (List Int))) (w:World) (hr0_0:Kd.C (Kd.int .i64) w A0_0 l0_0.length l0_0) (hc0_0:l0_0.length≤c0_0) (hr1_0:Kd.C Kd.bool w A1_0 l1_0.length l1_0) (hc1_0:l1_0.length≤c1_0) (hr2:Kd.C (Kd.slice 22 (Kd.slice 3 (Kd.int .i64))) w A2 l2.length l2) (hc2:l2.length≤c2)  (u0:Int) (hU0:laws_szNight.f l0_0 a0_1 a0_2 1048576=some u0) (nU0:¬ u0 < 0) (u1:Int) (hU1:laws_szCamp.f l1_0 a1_1 u0=some u1) (nU1:¬ u1 < 0) (u2:Int) (k1:Nat) (hU2:laws_szIntSSS.f k1 l2 u1=some u2) (oU2:u2 < 0) :
  Calls Try.prog 3 #[.agg #[.slice A0_0 l0_0.length c0_0, .int .i64 a0_1, .int .i64 a0_2], .agg #[.slice A1_0 l1_0.length c1_0, .int .i64 a1_1], .slice A2 l2.length c2] w fun e w'=>e = .returned (.bool true)∧Below w.heap.size w w':=by
 have hu24_:=Try.underlying24
 have hu27_:=Try.underlying27
 have W0_0:=Aside0.mk hr0_0
 have W1_0:=Aside0.mk hr1_0
 have W2:=Aside0.mk hr2
 clear hr0_0 hr1_0 hr2
 have XhU0:=Aside0.mk hU0
 clear hU0
 have dnU0:=decide_eq_false nU0
 clear nU0
 have XhU1:=Aside0.mk hU1
 clear hU1
 have dnU1:=decide_eq_false nU1
 clear nU1
 have XhU2:=Aside0.mk hU2
 clear hU2
 have doU2:=decide_eq_true oU2
 clear oU2
 go_enter Try.func3,Try.ntmps3
 go_wp2_with fail
 have NB:=Aside0.mk (lay2 w (.cells #[.slice A0_0 l0_0.length c0_0, .int .i64 a0_1, .int .i64 a0_2] 24) (.cells #[.slice A1_0 l1_0.length c1_0, .int .i64 a1_1] 27))
 generalize ((w.alloc (.cells #[.slice A0_0 l0_0.length c0_0, .int .i64 a0_1, .int .i64 a0_2] 24)).alloc (.cells #[.slice A1_0 l1_0.length c1_0, .int .i64 a1_1] 27))=wA at *
 have PA0:=Aside0.mk NB.out.1
 have PA1:=Aside0.mk NB.out.2.1
 have HA:=Aside0.mk NB.out.2.2
 clear NB
 have RA0_0:=Aside0.mk (Kd.C_below W0_0.out HA.out)
 have RA1_0:=Aside0.mk (Kd.C_below W1_0.out HA.out)
 have RA2:=Aside0.mk (Kd.C_below W2.out HA.out)
 clear W0_0 W1_0 W2
 have HB:=Aside0.mk (Below.refl wA.heap.size wA)
 go_wp2_with fail
 go_at_call 5
 refine (laws_szNight.calls _ _ l0_0 a0_1 a0_2 1048576 u0 _ ?s901_hr0_0 ?s901_hc0_0 XhU0.out).mono ?_
 (case s901_hr0_0=>exact Kd.C_below RA0_0.out (by repeat (first|(with_reducible exact HB.out)|(with_reducible apply below_alloc)|(with_reducible apply pw_below_drewN)|(with_reducible apply below_drew1))))
 (case s901_hc0_0=>exact hc0_0)
 rintro e w1 ⟨rfl,hb⟩
 have nb_:=Aside0.mk (below_step (by repeat (first|(with_reducible exact HB.out)|(with_reducible apply below_alloc)|(with_reducible apply pw_below_drewN)|(with_reducible apply below_drew1))) hb)
 have zw_:=hb.size
 (try simp only[World.size_alloc,size_drew_,size_drewN_] at zw_)
 have ZW1:=Aside0.mk zw_
 clear zw_
 clear HB
 have HB:=nb_
 clear nb_
 clear hb
 have xa0_0:w1.cell? ⟨w.heap.size,0,none⟩=some (.slice A0_0 l0_0.length c0_0):=(blk_cell (blk_below PA0.out HB.out) 0).trans rfl
 have xa0_1:w1.cell? ⟨w.heap.size,1,none⟩=some (.int .i64 a0_1):=(blk_cell (blk_below PA0.out HB.out) 1).trans rfl
 have xa0_2:w1.cell? ⟨w.heap.size,2,none⟩=some (.int .i64 a0_2):=(blk_cell (blk_below PA0.out HB.out) 2).trans rfl
 have xa1_0:w1.cell? ⟨w.heap.size+1,0,none⟩=some (.slice A1_0 l1_0.length c1_0):=(blk_cell (blk_below PA1.out HB.out) 0).trans rfl
 have xa1_1:w1.cell? ⟨w.heap.size+1,1,none⟩=some (.int .i64 a1_1):=(blk_cell (blk_below PA1.out HB.out) 1).trans rfl
 have hzA:w.heap.size+1 < w1.heap.size:=Nat.lt_of_lt_of_le (blk_lt PA1.out) HB.out.size
 go_wp2_with fail
 go_at_call 6
 refine (laws_szCamp.calls _ _ l1_0 a1_1 u0 u1 _ ?s902_hr0_0 ?s902_hc0_0 XhU1.out).mono ?_
 (case s902_hr0_0=>exact Kd.C_below RA1_0.out (by repeat (first|(with_reducible exact HB.out)|(with_reducible apply below_alloc)|(with_reducible apply pw_below_drewN)|(with_reducible apply below_drew1))))
 (case s902_hc0_0=>exact hc1_0)
 rintro e w2 ⟨rfl,hb⟩
 have nb_:=Aside0.mk (below_step (by repeat (first|(with_reducible exact HB.out)|(with_reducible apply below_alloc)|(with_reducible apply pw_below_drewN)|(with_reducible apply below_drew1))) hb)
 have zw_:=hb.size
 (try simp only[World.size_alloc,size_drew_,size_drewN_] at zw_)
 have ZW2:=Aside0.mk zw_
 clear zw_
 clear HB
 have HB:=nb_
 clear nb_
 clear hb
 clear xa0_0 xa0_1 xa0_2 xa1_0 xa1_1 hzA
 have xa0_0:w2.cell? ⟨w.heap.size,0,none⟩=some (.slice A0_0 l0_0.length c0_0):=(blk_cell (blk_below PA0.out HB.out) 0).trans rfl
 have xa0_1:w2.cell? ⟨w.heap.size,1,none⟩=some (.int .i64 a0_1):=(blk_cell (blk_below PA0.out HB.out) 1).trans rfl
 have xa0_2:w2.cell? ⟨w.heap.size,2,none⟩=some (.int .i64 a0_2):=(blk_cell (blk_below PA0.out HB.out) 2).trans rfl
 have xa1_0:w2.cell? ⟨w.heap.size+1,0,none⟩=some (.slice A1_0 l1_0.length c1_0):=(blk_cell (blk_below PA1.out HB.out) 0).trans rfl
 have xa1_1:w2.cell? ⟨w.heap.size+1,1,none⟩=some (.int .i64 a1_1):=(blk_cell (blk_below PA1.out HB.out) 1).trans rfl
 have hzA:w.heap.size+1 < w2.heap.size:=Nat.lt_of_lt_of_le (blk_lt PA1.out) HB.out.size
 go_wp2_with fail
 go_at_call 7
 refine (laws_szIntSSS.calls k1 _ _ l2 u1 u2 _ ?s903_hr0 ?s903_hc0 XhU2.out).mono ?_
 (case s903_hr0=>exact Kd.C_below RA2.out (by repeat (first|(with_reducible exact HB.out)|(with_reducible apply below_alloc)|(with_reducible apply pw_below_drewN)|(with_reducible apply below_drew1))))
 (case s903_hc0=>exact hc2)
 rintro e w3 ⟨rfl,hb0⟩
 have hb:=Drawn0.below hb0
 clear hb0
 have nb_:=Aside0.mk (below_step (by repeat (first|(with_reducible exact HB.out)|(with_reducible apply below_alloc)|(with_reducible apply pw_below_drewN)|(with_reducible apply below_drew1))) hb)
 have zw_:=hb.size
 (try simp only[World.size_alloc,size_drew_,size_drewN_] at zw_)
 have ZW3:=Aside0.mk zw_
 clear zw_
 clear HB
 have HB:=nb_
 clear nb_
 clear hb
 clear xa0_0 xa0_1 xa0_2 xa1_0 xa1_1 hzA
 have xa0_0:w3.cell? ⟨w.heap.size,0,none⟩=some (.slice A0_0 l0_0.length c0_0):=(blk_cell (blk_below PA0.out HB.out) 0).trans rfl
 have xa0_1:w3.cell? ⟨w.heap.size,1,none⟩=some (.int .i64 a0_1):=(blk_cell (blk_below PA0.out HB.out) 1).trans rfl
 have xa0_2:w3.cell? ⟨w.heap.size,2,none⟩=some (.int .i64 a0_2):=(blk_cell (blk_below PA0.out HB.out) 2).trans rfl
 have xa1_0:w3.cell? ⟨w.heap.size+1,0,none⟩=some (.slice A1_0 l1_0.length c1_0):=(blk_cell (blk_below PA1.out HB.out) 0).trans rfl
 have xa1_1:w3.cell? ⟨w.heap.size+1,1,none⟩=some (.int .i64 a1_1):=(blk_cell (blk_below PA1.out HB.out) 1).trans rfl
 have hzA:w.heap.size+1 < w3.heap.size:=Nat.lt_of_lt_of_le (blk_lt PA1.out) HB.out.size
 go_wp2
 go_ret
 exact ⟨rfl,HA.out.trans (HB.out.mono HA.out.size)⟩
end Go.Proofs.Ytdomojenlofieaa.Walk
