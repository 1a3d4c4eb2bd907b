import Derived.Test.YtabhhkiipilghaaC1zx0
import Derived.Test.YtabhhkiipilghaaC1zx3
import Derived.Test.YtabhhkiipilghaaC1zx4
import Derived.Test.YtabhhkiipilghaaC1zAl
namespace Go.Proofs.Ytabhhkiipilghaa.C1
open Go.RowKit Go.Proofs.YtabhhkiipilghaaW.PrintWords Go.Proofs.YtabhhkiipilghaaW.PrintLast Go.Proofs.YtabhhkiipilghaaW.PrintMore Go.Proofs.Ytabhhkiipilghaa.H
attribute [local go_sem] max2_int min2_int max_two min_two max_three min_three max_four min_four
set_option linter.unusedVariables false
set_option linter.unusedSimpArgs false
mutual
def spec_cuHome.l0:Nat→Int→Int→Int→List Int→Int→Int→Option (List Int)
 | 0,_,_,_,_,_,_=>none
 | k+1,x0,x1,x2,x7,x29,x30=>if x30 < x29 then (if 0≤x30 then (if x30 < (x7.length:Int) then (spec_cuHome.l0 k x0 x1 x2 (x7.set (x30:Int).toNat (-1)) x29 (wrap64 (x30+1))) else (none)) else (none)) else ((spec_cuSpot.f x1 x0 x1 1).bind fun t119=>(if 0≤t119 then (if t119 < (x7.length:Int) then (spec_cuHome.l1 k x0 x1 x2 (x7.set (t119:Int).toNat 0) (([t119]:List Int)) 0) else (none)) else (none)))
def spec_cuHome.l1:Nat→Int→Int→Int→List Int→List Int→Int→Option (List Int)
 | 0,_,_,_,_,_,_=>none
 | k+1,x0,x1,x2,x7,x10,x11=>if x11 < (x10.length:Int) then (if 0≤x11 then (if (wrap64 (x1+1))=0 then (none) else (spec_cuHome.l2 k x0 x1 x2 x7 x10 x11 (rd x10 x11) (Int.tmod (rd x10 x11) 2) (wrap64 (Int.tdiv (wrap64 (Int.tdiv (rd x10 x11) 2)) (wrap64 (x1+1)))) (Int.tmod (wrap64 (Int.tdiv (rd x10 x11) 2)) (wrap64 (x1+1))) 0)) else (none)) else (some x7)
def spec_cuHome.l2:Nat→Int→Int→Int→List Int→List Int→Int→Int→Int→Int→Int→Int→Option (List Int)
 | 0,_,_,_,_,_,_,_,_,_,_,_=>none
 | k+1,x0,x1,x2,x7,x10,x11,x12,x13,x14,x15,x16=>if x16≤x2 then (spec_cuHome.l3 k x0 x1 x2 x7 x10 x11 x12 x13 x14 x15 x16 0) else (spec_cuHome.l1 k x0 x1 x2 x7 x10 (wrap64 (x11+1)))
def spec_cuHome.l3:Nat→Int→Int→Int→List Int→List Int→Int→Int→Int→Int→Int→Int→Int→Option (List Int)
 | 0,_,_,_,_,_,_,_,_,_,_,_,_=>none
 | k+1,x0,x1,x2,x7,x10,x11,x12,x13,x14,x15,x16,x17=>if (wrap64 (x16+x17))≤x2 then (if x13=0 then (spec_cuHome.j4 k x0 x1 x2 x7 x10 x11 x12 x13 x14 x15 x16 x17 (wrap64 (x14+x16)) (wrap64 (x15+x17))) else (spec_cuHome.j4 k x0 x1 x2 x7 x10 x11 x12 x13 x14 x15 x16 x17 (wrap64 (x14 - x16)) (wrap64 (x15 - x17)))) else (spec_cuHome.l2 k x0 x1 x2 x7 x10 x11 x12 x13 x14 x15 (wrap64 (x16+1)))
def spec_cuHome.j4:Nat→Int→Int→Int→List Int→List Int→Int→Int→Int→Int→Int→Int→Int→Int→Int→Option (List Int)
 | 0,_,_,_,_,_,_,_,_,_,_,_,_,_,_=>none
 | k+1,x0,x1,x2,x7,x10,x11,x12,x13,x14,x15,x16,x17,x18,x19=>if (wrap64 (x16+x17))=0 then (spec_cuHome.j5 k x0 x1 x2 x7 x10 x11 x12 x13 x14 x15 x16 x17 x18 x19 true) else ((spec_cuHeld.f x16 x17).bind fun t125=>(if t125=true then ((spec_l1In.f x18 0 x0).bind fun t126=>(if t126=true then ((spec_l1In.f x19 0 x1).bind fun t127=>(if t127=true then ((spec_cuGuarded.f x0 x1 x18 x19).bind fun t128=>(spec_cuHome.j5 k x0 x1 x2 x7 x10 x11 x12 x13 x14 x15 x16 x17 x18 x19 (!t128))) else (spec_cuHome.j5 k x0 x1 x2 x7 x10 x11 x12 x13 x14 x15 x16 x17 x18 x19 true))) else (spec_cuHome.j5 k x0 x1 x2 x7 x10 x11 x12 x13 x14 x15 x16 x17 x18 x19 true))) else (spec_cuHome.j5 k x0 x1 x2 x7 x10 x11 x12 x13 x14 x15 x16 x17 x18 x19 true)))
def spec_cuHome.j5:Nat→Int→Int→Int→List Int→List Int→Int→Int→Int→Int→Int→Int→Int→Int→Int→Bool→Option (List Int)
 | 0,_,_,_,_,_,_,_,_,_,_,_,_,_,_,_=>none
 | k+1,x0,x1,x2,x7,x10,x11,x12,x13,x14,x15,x16,x17,x18,x19,x123=>if x123=true then (spec_cuHome.l3 k x0 x1 x2 x7 x10 x11 x12 x13 x14 x15 x16 (wrap64 (x17+1))) else ((spec_cuSpot.f x1 x18 x19 (wrap64 (1 - x13))).bind fun t129=>(if 0≤t129 then (if t129 < (x7.length:Int) then (if (rd x7 t129) < 0 then (if 0≤x12 then (if x12 < (x7.length:Int) then (if x10.length < 17592186044416 then (spec_cuHome.l3 k x0 x1 x2 (x7.set (t129:Int).toNat (wrap64 ((rd x7 x12)+1))) (x10 ++ [t129]) x11 x12 x13 x14 x15 x16 (wrap64 (x17+1))) else (none)) else (none)) else (none)) else (spec_cuHome.l3 k x0 x1 x2 x7 x10 x11 x12 x13 x14 x15 x16 (wrap64 (x17+1)))) else (none)) else (none)))
end
def spec_cuHome.f (k:Nat) (a0:Int) (a1:Int) (a2:Int):Option (List Int):=if 0≤(wrap64 ((wrap64 ((wrap64 (a0+1)) * (wrap64 (a1+1)))) * 2)) then (if (wrap64 ((wrap64 ((wrap64 (a0+1)) * (wrap64 (a1+1)))) * 2):Int).toNat≤35184372088832 then ((some (List.replicate (wrap64 ((wrap64 ((wrap64 (a0+1)) * (wrap64 (a1+1)))) * 2):Int).toNat 0:List Int)).bind fun y115=>(spec_cuHome.l0 k a0 a1 a2 y115 (y115.length:Int) 0)) else (none)) else (none)
theorem spec_cuHome.mono_l:∀ k,(∀ y0 y1 y2 y3 y4 y5,LeO (spec_cuHome.l0 k y0 y1 y2 y3 y4 y5) (spec_cuHome.l0 (k+1) y0 y1 y2 y3 y4 y5))∧(∀ y0 y1 y2 y3 y4 y5,LeO (spec_cuHome.l1 k y0 y1 y2 y3 y4 y5) (spec_cuHome.l1 (k+1) y0 y1 y2 y3 y4 y5))∧(∀ y0 y1 y2 y3 y4 y5 y6 y7 y8 y9 y10,LeO (spec_cuHome.l2 k y0 y1 y2 y3 y4 y5 y6 y7 y8 y9 y10) (spec_cuHome.l2 (k+1) y0 y1 y2 y3 y4 y5 y6 y7 y8 y9 y10))∧(∀ y0 y1 y2 y3 y4 y5 y6 y7 y8 y9 y10 y11,LeO (spec_cuHome.l3 k y0 y1 y2 y3 y4 y5 y6 y7 y8 y9 y10 y11) (spec_cuHome.l3 (k+1) y0 y1 y2 y3 y4 y5 y6 y7 y8 y9 y10 y11))∧(∀ y0 y1 y2 y3 y4 y5 y6 y7 y8 y9 y10 y11 y12 y13,LeO (spec_cuHome.j4 k y0 y1 y2 y3 y4 y5 y6 y7 y8 y9 y10 y11 y12 y13) (spec_cuHome.j4 (k+1) y0 y1 y2 y3 y4 y5 y6 y7 y8 y9 y10 y11 y12 y13))∧(∀ y0 y1 y2 y3 y4 y5 y6 y7 y8 y9 y10 y11 y12 y13 y14,LeO (spec_cuHome.j5 k y0 y1 y2 y3 y4 y5 y6 y7 y8 y9 y10 y11 y12 y13 y14) (spec_cuHome.j5 (k+1) y0 y1 y2 y3 y4 y5 y6 y7 y8 y9 y10 y11 y12 y13 y14))
 | 0=>⟨fun _ _ _ _ _ _ r h=>by simp[spec_cuHome.l0] at h,fun _ _ _ _ _ _ r h=>by simp[spec_cuHome.l1] at h,fun _ _ _ _ _ _ _ _ _ _ _ r h=>by simp[spec_cuHome.l2] at h,fun _ _ _ _ _ _ _ _ _ _ _ _ r h=>by simp[spec_cuHome.l3] at h,fun _ _ _ _ _ _ _ _ _ _ _ _ _ _ r h=>by simp[spec_cuHome.j4] at h,fun _ _ _ _ _ _ _ _ _ _ _ _ _ _ _ r h=>by simp[spec_cuHome.j5] at h⟩
 | k+1=>by
  obtain ⟨ih0,ih1,ih2,ih3,ih4,ih5⟩:=spec_cuHome.mono_l k;refine ⟨?_,?_,?_,?_,?_,?_⟩
  ·
   intro y0 y1 y2 y3 y4 y5;unfold spec_cuHome.l0
   repeat' first
   | (with_reducible exact ih0 _ _ _ _ _ _)
   | (with_reducible exact ih1 _ _ _ _ _ _)
   | (with_reducible exact ih2 _ _ _ _ _ _ _ _ _ _ _)
   | (with_reducible exact ih3 _ _ _ _ _ _ _ _ _ _ _ _)
   | (with_reducible exact ih4 _ _ _ _ _ _ _ _ _ _ _ _ _ _)
   | (with_reducible exact ih5 _ _ _ _ _ _ _ _ _ _ _ _ _ _ _)
   | (with_reducible exact LeO.refl _)
   | (with_reducible exact LeO.none _)
   | (with_reducible refine LeO.ite ?_ ?_)
   | (with_reducible refine LeO.bind ?_ (fun _=>?_))
   | exact ih0 _ _ _ _ _ _
   | exact ih1 _ _ _ _ _ _
   | exact ih2 _ _ _ _ _ _ _ _ _ _ _
   | exact ih3 _ _ _ _ _ _ _ _ _ _ _ _
   | exact ih4 _ _ _ _ _ _ _ _ _ _ _ _ _ _
   | exact ih5 _ _ _ _ _ _ _ _ _ _ _ _ _ _ _
   | exact LeO.none _
   | refine LeO.ite ?_ ?_
   | refine LeO.bind ?_ (fun _=>?_)
  ·
   intro y0 y1 y2 y3 y4 y5;unfold spec_cuHome.l1
   repeat' first
   | (with_reducible exact ih0 _ _ _ _ _ _)
   | (with_reducible exact ih1 _ _ _ _ _ _)
   | (with_reducible exact ih2 _ _ _ _ _ _ _ _ _ _ _)
   | (with_reducible exact ih3 _ _ _ _ _ _ _ _ _ _ _ _)
   | (with_reducible exact ih4 _ _ _ _ _ _ _ _ _ _ _ _ _ _)
   | (with_reducible exact ih5 _ _ _ _ _ _ _ _ _ _ _ _ _ _ _)
   | (with_reducible exact LeO.refl _)
   | (with_reducible exact LeO.none _)
   | (with_reducible refine LeO.ite ?_ ?_)
   | (with_reducible refine LeO.bind ?_ (fun _=>?_))
   | exact ih0 _ _ _ _ _ _
   | exact ih1 _ _ _ _ _ _
   | exact ih2 _ _ _ _ _ _ _ _ _ _ _
   | exact ih3 _ _ _ _ _ _ _ _ _ _ _ _
   | exact ih4 _ _ _ _ _ _ _ _ _ _ _ _ _ _
   | exact ih5 _ _ _ _ _ _ _ _ _ _ _ _ _ _ _
   | exact LeO.none _
   | refine LeO.ite ?_ ?_
   | refine LeO.bind ?_ (fun _=>?_)
  ·
   intro y0 y1 y2 y3 y4 y5 y6 y7 y8 y9 y10;unfold spec_cuHome.l2
   repeat' first
   | (with_reducible exact ih0 _ _ _ _ _ _)
   | (with_reducible exact ih1 _ _ _ _ _ _)
   | (with_reducible exact ih2 _ _ _ _ _ _ _ _ _ _ _)
   | (with_reducible exact ih3 _ _ _ _ _ _ _ _ _ _ _ _)
   | (with_reducible exact ih4 _ _ _ _ _ _ _ _ _ _ _ _ _ _)
   | (with_reducible exact ih5 _ _ _ _ _ _ _ _ _ _ _ _ _ _ _)
   | (with_reducible exact LeO.refl _)
   | (with_reducible exact LeO.none _)
   | (with_reducible refine LeO.ite ?_ ?_)
   | (with_reducible refine LeO.bind ?_ (fun _=>?_))
   | exact ih0 _ _ _ _ _ _
   | exact ih1 _ _ _ _ _ _
   | exact ih2 _ _ _ _ _ _ _ _ _ _ _
   | exact ih3 _ _ _ _ _ _ _ _ _ _ _ _
   | exact ih4 _ _ _ _ _ _ _ _ _ _ _ _ _ _
   | exact ih5 _ _ _ _ _ _ _ _ _ _ _ _ _ _ _
   | exact LeO.none _
   | refine LeO.ite ?_ ?_
   | refine LeO.bind ?_ (fun _=>?_)
  ·
   intro y0 y1 y2 y3 y4 y5 y6 y7 y8 y9 y10 y11;unfold spec_cuHome.l3
   repeat' first
   | (with_reducible exact ih0 _ _ _ _ _ _)
   | (with_reducible exact ih1 _ _ _ _ _ _)
   | (with_reducible exact ih2 _ _ _ _ _ _ _ _ _ _ _)
   | (with_reducible exact ih3 _ _ _ _ _ _ _ _ _ _ _ _)
   | (with_reducible exact ih4 _ _ _ _ _ _ _ _ _ _ _ _ _ _)
   | (with_reducible exact ih5 _ _ _ _ _ _ _ _ _ _ _ _ _ _ _)
   | (with_reducible exact LeO.refl _)
   | (with_reducible exact LeO.none _)
   | (with_reducible refine LeO.ite ?_ ?_)
   | (with_reducible refine LeO.bind ?_ (fun _=>?_))
   | exact ih0 _ _ _ _ _ _
   | exact ih1 _ _ _ _ _ _
   | exact ih2 _ _ _ _ _ _ _ _ _ _ _
   | exact ih3 _ _ _ _ _ _ _ _ _ _ _ _
   | exact ih4 _ _ _ _ _ _ _ _ _ _ _ _ _ _
   | exact ih5 _ _ _ _ _ _ _ _ _ _ _ _ _ _ _
   | exact LeO.none _
   | refine LeO.ite ?_ ?_
   | refine LeO.bind ?_ (fun _=>?_)
  ·
   intro y0 y1 y2 y3 y4 y5 y6 y7 y8 y9 y10 y11 y12 y13;unfold spec_cuHome.j4
   repeat' first
   | (with_reducible exact ih0 _ _ _ _ _ _)
   | (with_reducible exact ih1 _ _ _ _ _ _)
   | (with_reducible exact ih2 _ _ _ _ _ _ _ _ _ _ _)
   | (with_reducible exact ih3 _ _ _ _ _ _ _ _ _ _ _ _)
   | (with_reducible exact ih4 _ _ _ _ _ _ _ _ _ _ _ _ _ _)
   | (with_reducible exact ih5 _ _ _ _ _ _ _ _ _ _ _ _ _ _ _)
   | (with_reducible exact LeO.refl _)
   | (with_reducible exact LeO.none _)
   | (with_reducible refine LeO.ite ?_ ?_)
   | (with_reducible refine LeO.bind ?_ (fun _=>?_))
   | exact ih0 _ _ _ _ _ _
   | exact ih1 _ _ _ _ _ _
   | exact ih2 _ _ _ _ _ _ _ _ _ _ _
   | exact ih3 _ _ _ _ _ _ _ _ _ _ _ _
   | exact ih4 _ _ _ _ _ _ _ _ _ _ _ _ _ _
   | exact ih5 _ _ _ _ _ _ _ _ _ _ _ _ _ _ _
   | exact LeO.none _
   | refine LeO.ite ?_ ?_
   | refine LeO.bind ?_ (fun _=>?_)
  ·
   intro y0 y1 y2 y3 y4 y5 y6 y7 y8 y9 y10 y11 y12 y13 y14;unfold spec_cuHome.j5
   repeat' first
   | (with_reducible exact ih0 _ _ _ _ _ _)
   | (with_reducible exact ih1 _ _ _ _ _ _)
   | (with_reducible exact ih2 _ _ _ _ _ _ _ _ _ _ _)
   | (with_reducible exact ih3 _ _ _ _ _ _ _ _ _ _ _ _)
   | (with_reducible exact ih4 _ _ _ _ _ _ _ _ _ _ _ _ _ _)
   | (with_reducible exact ih5 _ _ _ _ _ _ _ _ _ _ _ _ _ _ _)
   | (with_reducible exact LeO.refl _)
   | (with_reducible exact LeO.none _)
   | (with_reducible refine LeO.ite ?_ ?_)
   | (with_reducible refine LeO.bind ?_ (fun _=>?_))
   | exact ih0 _ _ _ _ _ _
   | exact ih1 _ _ _ _ _ _
   | exact ih2 _ _ _ _ _ _ _ _ _ _ _
   | exact ih3 _ _ _ _ _ _ _ _ _ _ _ _
   | exact ih4 _ _ _ _ _ _ _ _ _ _ _ _ _ _
   | exact ih5 _ _ _ _ _ _ _ _ _ _ _ _ _ _ _
   | exact LeO.none _
   | refine LeO.ite ?_ ?_
   | refine LeO.bind ?_ (fun _=>?_)
theorem spec_cuHome.mono:∀ a0 a1 a2 k,LeO (spec_cuHome.f k a0 a1 a2) (spec_cuHome.f (k+1) a0 a1 a2):=by
 intro a0 a1 a2 k;obtain ⟨ih0,ih1,ih2,ih3,ih4,ih5⟩:=spec_cuHome.mono_l k
 unfold spec_cuHome.f
 repeat' first
   | (with_reducible exact ih0 _ _ _ _ _ _)
   | (with_reducible exact ih1 _ _ _ _ _ _)
   | (with_reducible exact ih2 _ _ _ _ _ _ _ _ _ _ _)
   | (with_reducible exact ih3 _ _ _ _ _ _ _ _ _ _ _ _)
   | (with_reducible exact ih4 _ _ _ _ _ _ _ _ _ _ _ _ _ _)
   | (with_reducible exact ih5 _ _ _ _ _ _ _ _ _ _ _ _ _ _ _)
   | (with_reducible exact LeO.refl _)
   | (with_reducible exact LeO.none _)
   | (with_reducible refine LeO.ite ?_ ?_)
   | (with_reducible refine LeO.bind ?_ (fun _=>?_))
   | exact ih0 _ _ _ _ _ _
   | exact ih1 _ _ _ _ _ _
   | exact ih2 _ _ _ _ _ _ _ _ _ _ _
   | exact ih3 _ _ _ _ _ _ _ _ _ _ _ _
   | exact ih4 _ _ _ _ _ _ _ _ _ _ _ _ _ _
   | exact ih5 _ _ _ _ _ _ _ _ _ _ _ _ _ _ _
   | exact LeO.none _
   | refine LeO.ite ?_ ?_
   | refine LeO.bind ?_ (fun _=>?_)
set_option maxHeartbeats 8000000 in
set_option maxRecDepth 100000 in
theorem spec_cuHome.calls (k:Nat) (a0:Int) (a1:Int) (a2:Int) (r:List Int) (w:World) (h:spec_cuHome.f k a0 a1 a2=some r) :
  Calls Try.prog 32 #[.int .i64 a0, .int .i64 a1, .int .i64 a2] w fun e w'=>∃ v0_:Value,e = .returned (v0_)∧Kd.R (Kd.int .i64) 3 w' w.heap.size (fun _=>True) v0_ r∧Below w.heap.size w w':=by
 have HB:=am' (Below.refl w.heap.size w)
 have H:(if 0≤(wrap64 ((wrap64 ((wrap64 (a0+1)) * (wrap64 (a1+1)))) * 2)) then (if (wrap64 ((wrap64 ((wrap64 (a0+1)) * (wrap64 (a1+1)))) * 2):Int).toNat≤35184372088832 then ((some (List.replicate (wrap64 ((wrap64 ((wrap64 (a0+1)) * (wrap64 (a1+1)))) * 2):Int).toNat 0:List Int)).bind fun y115=>(spec_cuHome.l0 k a0 a1 a2 y115 (y115.length:Int) 0)) else (none)) else (none))=some r:=h
 clear h;obtain ⟨ji4,hji4⟩:∃ j_:Int,(wrap64 ((wrap64 ((wrap64 (a0+1)) * (wrap64 (a1+1)))) * 2))=j_:=⟨_,rfl⟩
 replace H:(if 0≤(ji4) then (if (ji4:Int).toNat≤35184372088832 then ((some (List.replicate (ji4:Int).toNat 0:List Int)).bind fun y115=>(spec_cuHome.l0 k a0 a1 a2 y115 (y115.length:Int) 0)) else (none)) else (none))=some r:=by first|(rw[hji4] at H;exact H)|(simp only[hji4] at H ⊢;exact H)
 have hji4w:(IntKind.i64.wrap ((wrap64 ((wrap64 (a0+1)) * (wrap64 (a1+1)))) * 2))=ji4:=(i64_w _).trans hji4
 by_cases c5:0≤(ji4)
 ·
  rw[if_pos c5] at H;have c5b0:=eq_true c5;have c5b1:decide (0≤(ji4))=true:=dt' c5;clear c5;by_cases c6:(ji4:Int).toNat≤35184372088832
  ·
   rw[if_pos c6] at H;have c6b0:=eq_true c6;have c6b1:decide ((ji4:Int).toNat≤35184372088832)=true:=dt' c6;clear c6;obtain ⟨y115,hy115⟩:∃ y_:List Int,y_=(List.replicate (ji4:Int).toNat 0):=⟨_,rfl⟩
   replace H:(spec_cuHome.l0 k a0 a1 a2 y115 (y115.length:Int) 0)=some r:=by first|(rw[hy115];with_reducible exact H)|(have H2_:=(Option.bind_some _ _).symm.trans H;rw[hy115];with_reducible exact H2_)|(have H2_:=(Option.bind_some _ _).symm.trans H;with_reducible exact H2_)|with_reducible exact H|(rw[hy115];exact H)|exact H
   have Ny115:=am' hy115;clear hy115;have H':=am' H;clear H;go_enter Try.func32,Try.ntmps32;go_wp2_with (first|((with_reducible refine gate_dst (N:=27) rfl ?_);refine Kd.R_make (Kd.int .i64) _ 3 rfl (N:=27) rfl 28 _ _ rfl ji4 rfl rfl Try.underlying28 (.int .i64 0) 8 info3 rfl (by decide) (by omega) 0 (ok:=fun _=>True) (okp:=fun _=>True) rfl (fun _ hk=>hk) trivial (od' xa') (Nat.le_trans (Nat.mul_le_mul_right _ (od' xa':ji4.toNat≤35184372088832)) (by omega)) (Below.refl _ _) (Nat.le_refl _) ?_;intro v116 w7 ho8 hb hg_ hnew_;clear hg_ hnew_;(first|rw[← Ny115.out] at ho8|(simp only[Int.reduceToNat] at ho8;rw[← Ny115.out] at ho8));have n0_:=am' (Kd.R_lower ho8 (bz' xb'));have n1_:=am' (bt' xb' hb);clear HB;have HO117:=n0_;have HB:=n1_;clear n0_ n1_;clear hb ho8;obtain ⟨Ao9,co9,eo9⟩:=Kd.R_slice HO117.out;subst eo9))
   repeat (go_quiet (first|((with_reducible refine gate_dst (N:=27) rfl ?_);refine Kd.R_make (Kd.int .i64) _ 3 rfl (N:=27) rfl 28 _ _ rfl ji4 rfl rfl Try.underlying28 (.int .i64 0) 8 info3 rfl (by decide) (by omega) 0 (ok:=fun _=>True) (okp:=fun _=>True) rfl (fun _ hk=>hk) trivial (od' xa') (Nat.le_trans (Nat.mul_le_mul_right _ (od' xa':ji4.toNat≤35184372088832)) (by omega)) (Below.refl _ _) (Nat.le_refl _) ?_;intro v116 w7 ho8 hb hg_ hnew_;clear hg_ hnew_;(first|rw[← Ny115.out] at ho8|(simp only[Int.reduceToNat] at ho8;rw[← Ny115.out] at ho8));have n0_:=am' (Kd.R_lower ho8 (bz' xb'));have n1_:=am' (bt' xb' hb);clear HB;have HO117:=n0_;have HB:=n1_;clear n0_ n1_;clear hb ho8;obtain ⟨Ao9,co9,eo9⟩:=Kd.R_slice HO117.out;subst eo9));try go_wp2_with (first|((with_reducible refine gate_dst (N:=27) rfl ?_);refine Kd.R_make (Kd.int .i64) _ 3 rfl (N:=27) rfl 28 _ _ rfl ji4 rfl rfl Try.underlying28 (.int .i64 0) 8 info3 rfl (by decide) (by omega) 0 (ok:=fun _=>True) (okp:=fun _=>True) rfl (fun _ hk=>hk) trivial (od' xa') (Nat.le_trans (Nat.mul_le_mul_right _ (od' xa':ji4.toNat≤35184372088832)) (by omega)) (Below.refl _ _) (Nat.le_refl _) ?_;intro v116 w7 ho8 hb hg_ hnew_;clear hg_ hnew_;(first|rw[← Ny115.out] at ho8|(simp only[Int.reduceToNat] at ho8;rw[← Ny115.out] at ho8));have n0_:=am' (Kd.R_lower ho8 (bz' xb'));have n1_:=am' (bt' xb' hb);clear HB;have HO117:=n0_;have HB:=n1_;clear n0_ n1_;clear hb ho8;obtain ⟨Ao9,co9,eo9⟩:=Kd.R_slice HO117.out;subst eo9)))
   go_loopg [30] k (fun kq v30 w'=>∃ (x7_1:List Int) (x30_1:Int),v30 = .int .i64 x30_1∧Aside0 (spec_cuHome.l0 kq a0 a1 a2 x7_1 (y115.length:Int) x30_1=some r)∧Aside0 (kq≤k)∧Aside0 (Kd.R (Kd.int .i64) 3 w' w.heap.size (fun _=>True) (.slice Ao9 y115.length co9) x7_1)∧Aside0 (Below w.heap.size w w'))
   case atStart=>exact ⟨(y115),(0),xs',H',⟨Nat.le_refl _⟩,⟨kr' HO117.out⟩,⟨xb'⟩⟩
   case round =>
    clear H';try clear p2
    try clear c3
    try clear c5
    try clear c5b0
    try clear c5b1
    try clear c6
    try clear c6b0
    try clear c6b1
    try clear p6
    obtain ⟨x7_1,x30_1,rfl,HA,HK1,HO_7,HB⟩:=hrel;have hl7_1:=(Kd.R_reads' HO_7.out).1;rw[hl7_1] at HO_7
    (try simp only[hl7_1])
    cases gk with
    | zero=>exact absurd HA.out (by simp[spec_cuHome.l0])
    | succ k1 =>
     have H:=HA.out;clear HA;simp only[spec_cuHome.l0] at H;by_cases c10:x30_1 < (y115.length:Int)
     ·
      rw[if_pos c10] at H;have c10b0:decide (x30_1 < (y115.length:Int))=true:=dt' c10;clear c10;by_cases c11:0≤x30_1
      ·
       rw[if_pos c11] at H;have c11b0:decide (0≤x30_1)=true:=dt' c11;clear c11;by_cases c12:x30_1 < (x7_1.length:Int)
       ·
        rw[if_pos c12] at H;have c12b0:decide (x30_1 < (x7_1.length:Int))=true:=dt' c12;clear c12;obtain ⟨y118,hy118⟩:∃ y_:List Int,y_=(x7_1.set (x30_1:Int).toNat (-1)):=⟨_,rfl⟩
        replace H:(spec_cuHome.l0 k1 a0 a1 a2 y118 (y115.length:Int) (wrap64 (x30_1+1)))=some r:=by first|(rw[hy118];with_reducible exact H)|(have H2_:=(Option.bind_some _ _).symm.trans H;rw[hy118];with_reducible exact H2_)|(have H2_:=(Option.bind_some _ _).symm.trans H;with_reducible exact H2_)|with_reducible exact H|(rw[hy118];exact H)|exact H
        have Ny118:=am' hy118;clear hy118;have H':=am' H;clear H;have p13:0≤(x30_1:Int):=od' xa';have q13:(x30_1:Int) < ((x7_1.length:Int):Int):=od' xa';obtain ⟨go13,co13,eo13,gb13,gl13,cl13,HG13⟩:=Kd.R_form HO_7.out (by omega)
        (first|cases eo13|(injection eo13 with ea_ en_ ec_;(first|subst ea_|(injection ea_ with ea_;subst ea_));subst ec_;clear en_))
        have GB13:=am' gb13;have GG13:=am' HG13;clear gb13 gl13 HG13;obtain ⟨hx13_0,hf13_0⟩:=Kd.R_celln 0 HO_7.out (x30_1:Int) p13 q13;replace p13:=eq_true p13;replace q13:=eq_true q13;have HP14:=Kd.R_putg HO_7.out (x30_1:Int) (-1);go_wp2_with (first|((with_reducible refine gate_store (t:=3) (p:=35) rfl ?_);(try (rw[drewN_self wr];generalize hq_:World.drewN wr _=wr;have n0_:=am' (Kd.R_at hq_ HO_7.out);have n1_:=am' (below_at hq_ HB.out);clear hq_ HO_7 HB;have HO_7:=n0_;have HB:=n1_;clear n0_ n1_;(try (have HP14:=Kd.R_putg HO_7.out (x30_1:Int) (-1)))));refine store_event (t:=3) (p:=35) (v:=?vo_w15) (w1:=(wr.setCell ⟨go13,(x30_1:Int).toNat,none⟩ (.int .i64 (-1)))) ?hg ?ho ?hn ?hr ?_;(case ho=>rfl);(case hg=>rfl);(case hn=>rfl);(case hr=>first|(go_simp;done)|(go_simp;rfl));intro w15 hw;have hg:wr.grownBy w15 (some go13):=(by rw[hw];exact HP14.2);have hp_:Kd.R (Kd.int .i64) 3 w15 w.heap.size (fun _=>True) (.slice (some ⟨go13,0,none⟩) x7_1.length co9) y118:=(by rw[hw,Ny118.out];exact HP14.1);clear HP14;have n0_:=am' (hp_);have n1_:=am' ((by rw[hw];exact bs' (HB.out) GB13.out:Below w.heap.size w w15));clear HO_7;clear HB;have HO_7:=n0_;have HB:=n1_;clear n0_ n1_;clear hg hw hp_))
        repeat (go_quiet (first|((with_reducible refine gate_store (t:=3) (p:=35) rfl ?_);(try (rw[drewN_self wr];generalize hq_:World.drewN wr _=wr;have n0_:=am' (Kd.R_at hq_ HO_7.out);have n1_:=am' (below_at hq_ HB.out);clear hq_ HO_7 HB;have HO_7:=n0_;have HB:=n1_;clear n0_ n1_;(try (have HP14:=Kd.R_putg HO_7.out (x30_1:Int) (-1)))));refine store_event (t:=3) (p:=35) (v:=?vo_w15) (w1:=(wr.setCell ⟨go13,(x30_1:Int).toNat,none⟩ (.int .i64 (-1)))) ?hg ?ho ?hn ?hr ?_;(case ho=>rfl);(case hg=>rfl);(case hn=>rfl);(case hr=>first|(go_simp;done)|(go_simp;rfl));intro w15 hw;have hg:wr.grownBy w15 (some go13):=(by rw[hw];exact HP14.2);have hp_:Kd.R (Kd.int .i64) 3 w15 w.heap.size (fun _=>True) (.slice (some ⟨go13,0,none⟩) x7_1.length co9) y118:=(by rw[hw,Ny118.out];exact HP14.1);clear HP14;have n0_:=am' (hp_);have n1_:=am' ((by rw[hw];exact bs' (HB.out) GB13.out:Below w.heap.size w w15));clear HO_7;clear HB;have HO_7:=n0_;have HB:=n1_;clear n0_ n1_;clear hg hw hp_));try go_wp2_with (first|((with_reducible refine gate_store (t:=3) (p:=35) rfl ?_);(try (rw[drewN_self wr];generalize hq_:World.drewN wr _=wr;have n0_:=am' (Kd.R_at hq_ HO_7.out);have n1_:=am' (below_at hq_ HB.out);clear hq_ HO_7 HB;have HO_7:=n0_;have HB:=n1_;clear n0_ n1_;(try (have HP14:=Kd.R_putg HO_7.out (x30_1:Int) (-1)))));refine store_event (t:=3) (p:=35) (v:=?vo_w15) (w1:=(wr.setCell ⟨go13,(x30_1:Int).toNat,none⟩ (.int .i64 (-1)))) ?hg ?ho ?hn ?hr ?_;(case ho=>rfl);(case hg=>rfl);(case hn=>rfl);(case hr=>first|(go_simp;done)|(go_simp;rfl));intro w15 hw;have hg:wr.grownBy w15 (some go13):=(by rw[hw];exact HP14.2);have hp_:Kd.R (Kd.int .i64) 3 w15 w.heap.size (fun _=>True) (.slice (some ⟨go13,0,none⟩) x7_1.length co9) y118:=(by rw[hw,Ny118.out];exact HP14.1);clear HP14;have n0_:=am' (hp_);have n1_:=am' ((by rw[hw];exact bs' (HB.out) GB13.out:Below w.heap.size w w15));clear HO_7;clear HB;have HO_7:=n0_;have HB:=n1_;clear n0_ n1_;clear hg hw hp_)))
        (try simp only[← hl7_1])
        go_roundg k1
        case measure=>have:=HK1.out;omega
        case rel=>exact ⟨(y118),(wrap64 (x30_1+1)),xs',H',⟨by have:=HK1.out;omega⟩,⟨by (try simp only[hl7_1]);(with_reducible repeat (first|apply ra'|apply rn'|apply rw'));exact HO_7.out⟩,⟨xb'⟩⟩
       ·
        rw[if_neg c12] at H;exact absurd H (by simp)
      ·
       rw[if_neg c11] at H;exact absurd H (by simp)
     ·
      rw[if_neg c10] at H;have c10b0:decide (x30_1 < (y115.length:Int))=false:=df' c10
      (try (have c10bz:=c10b0;rw[hl7_1] at c10bz))
      clear c10;replace H:=Option.bind_eq_some_iff.mp H;obtain ⟨t119,A160,H⟩:=H;replace H:(if 0≤t119 then (if t119 < (x7_1.length:Int) then (spec_cuHome.l1 k1 a0 a1 a2 (x7_1.set (t119:Int).toNat 0) (([t119]:List Int)) 0) else (none)) else (none))=some r:=H;have A16:=am' A160;clear A160;by_cases c17:0≤t119
      ·
       rw[if_pos c17] at H;have c17b0:decide (0≤t119)=true:=dt' c17;clear c17;by_cases c18:t119 < (x7_1.length:Int)
       ·
        rw[if_pos c18] at H;have c18b0:decide (t119 < (x7_1.length:Int))=true:=dt' c18;clear c18;obtain ⟨y120,hy120⟩:∃ y_:List Int,y_=(x7_1.set (t119:Int).toNat 0):=⟨_,rfl⟩
        replace H:(spec_cuHome.l1 k1 a0 a1 a2 y120 (([t119]:List Int)) 0)=some r:=by first|(rw[hy120];with_reducible exact H)|(have H2_:=(Option.bind_some _ _).symm.trans H;rw[hy120];with_reducible exact H2_)|(have H2_:=(Option.bind_some _ _).symm.trans H;with_reducible exact H2_)|with_reducible exact H|(rw[hy120];exact H)|exact H
        have Ny120:=am' hy120;clear hy120;obtain ⟨y121,hy121⟩:∃ y_:List Int,y_=(([t119]:List Int)):=⟨_,rfl⟩
        replace H:(spec_cuHome.l1 k1 a0 a1 a2 y120 y121 0)=some r:=by first|(rw[hy121];with_reducible exact H)|(have H2_:=(Option.bind_some _ _).symm.trans H;rw[hy121];with_reducible exact H2_)|(have H2_:=(Option.bind_some _ _).symm.trans H;with_reducible exact H2_)|with_reducible exact H|(rw[hy121];exact H)|exact H
        have Ny121:=am' hy121;clear hy121;have H':=am' H;clear H;go_wp2_with (first|(go_at_call 34;(with_reducible refine (spec_cuSpot.calls a1 a0 a1 1 t119 _ A16.out).mono ?_);rintro e w' ⟨rfl,⟨nd,rfl⟩⟩;(try first|exact ⟨rfl,_,World.drewN_drewN _ _ _⟩|exact ⟨rfl,_,Eq.trans (World.drewN_drewN _ _ _) (congrArg (World.drewN _) (Nat.add_assoc _ _ _))⟩);have p19:0≤(t119:Int):=od' xa';have q19:(t119:Int) < ((x7_1.length:Int):Int):=od' xa';obtain ⟨go19,co19,eo19,gb19,gl19,cl19,HG19⟩:=Kd.R_form HO_7.out (by omega);(first|cases eo19|(injection eo19 with ea_ en_ ec_;(first|subst ea_|(injection ea_ with ea_;subst ea_));subst ec_;clear en_));have GB19:=am' gb19;have GG19:=am' HG19;clear gb19 gl19 HG19;obtain ⟨hx19_0,hf19_0⟩:=Kd.R_celln 0 HO_7.out (t119:Int) p19 q19;replace p19:=eq_true p19;replace q19:=eq_true q19;obtain ⟨hy20_,hz20_⟩:=Kd.R_celln 0 HO_7.out (t119:Int) (od' xa') (od' xa');have HP20:=Kd.R_putg HO_7.out (t119:Int) 0)|((with_reducible refine gate_store (t:=3) (p:=43) rfl ?_);(try (rw[drewN_self wr];generalize hq_:World.drewN wr _=wr;have n0_:=am' (Kd.R_at hq_ HO_7.out);have n1_:=am' (below_at hq_ HB.out);clear hq_ HO_7 HB;have HO_7:=n0_;have HB:=n1_;clear n0_ n1_;(try (obtain ⟨hy20_,hz20_⟩:=Kd.R_celln 0 HO_7.out (t119:Int) (od' xa') (od' xa')));(try (have HP20:=Kd.R_putg HO_7.out (t119:Int) 0))));refine store_event (t:=3) (p:=43) (v:=?vo_w21) (w1:=(wr.setCell ⟨go19,(t119:Int).toNat,none⟩ (.int .i64 0))) ?hg ?ho ?hn ?hr ?_;(case ho=>rfl);(case hg=>rfl);(case hn=>rfl);(case hr=>first|(go_simp;done)|(go_simp;rfl));intro w21 hw;have hg:wr.grownBy w21 (some go19):=(by rw[hw];exact HP20.2);have hp_:Kd.R (Kd.int .i64) 3 w21 w.heap.size (fun _=>True) (.slice (some ⟨go19,0,none⟩) x7_1.length co9) y120:=(by rw[hw,Ny120.out];exact HP20.1);clear HP20;have n0_:=am' (hp_);have n1_:=am' ((by rw[hw];exact bs' (HB.out) GB19.out:Below w.heap.size w w21));clear HO_7;clear HB;have HO_7:=n0_;have HB:=n1_;clear n0_ n1_;clear hg hw hp_)|((with_reducible refine gate_dst (N:=45) rfl ?_);refine Kd.R_lit (Kd.int .i64) _ 3 ?hg (N:=45) ?hd (xs:=([t119]:List Int)) (inner:=[.int .i64 t119]) (ok:=fun _=>True) (okp:=fun _=>True) ?hr ?hp (fun _ hk=>hk) trivial (Below.refl _ _) (Nat.le_refl _) (by simp) ?_;(case hd=>rfl);(case hg=>rfl);(case hr=>first|(go_simp;done)|(go_simp;rfl));(case hp=>exact (Reps.one (show Kd.M (Kd.int .i64) _ _ _ t119 [.int .i64 t119] from rfl) (Reps.none _ _)));intro v122 w22 ho23 hb hg_ hnew_;clear hg_ hnew_;(first|rw[← Ny121.out] at ho23|(simp only[Int.reduceToNat] at ho23;rw[← Ny121.out] at ho23));have n0_:=am' (Kd.R_elder' (kr' HO_7.out) (Kd.R_base ho23) hb);have n1_:=am' (Kd.R_lower (Kd.R_new' ho23 (Kd.R_lt (kr' HO_7.out))) (bz' xb'));have n2_:=am' (bt' xb' hb);clear HO_7;clear HB;have HO_7:=n0_;have HO123:=n1_;have HB:=n2_;clear n0_ n1_ n2_;clear hb ho23))
        repeat (go_quiet (first|(go_at_call 34;(with_reducible refine (spec_cuSpot.calls a1 a0 a1 1 t119 _ A16.out).mono ?_);rintro e w' ⟨rfl,⟨nd,rfl⟩⟩;(try first|exact ⟨rfl,_,World.drewN_drewN _ _ _⟩|exact ⟨rfl,_,Eq.trans (World.drewN_drewN _ _ _) (congrArg (World.drewN _) (Nat.add_assoc _ _ _))⟩);have p19:0≤(t119:Int):=od' xa';have q19:(t119:Int) < ((x7_1.length:Int):Int):=od' xa';obtain ⟨go19,co19,eo19,gb19,gl19,cl19,HG19⟩:=Kd.R_form HO_7.out (by omega);(first|cases eo19|(injection eo19 with ea_ en_ ec_;(first|subst ea_|(injection ea_ with ea_;subst ea_));subst ec_;clear en_));have GB19:=am' gb19;have GG19:=am' HG19;clear gb19 gl19 HG19;obtain ⟨hx19_0,hf19_0⟩:=Kd.R_celln 0 HO_7.out (t119:Int) p19 q19;replace p19:=eq_true p19;replace q19:=eq_true q19;obtain ⟨hy20_,hz20_⟩:=Kd.R_celln 0 HO_7.out (t119:Int) (od' xa') (od' xa');have HP20:=Kd.R_putg HO_7.out (t119:Int) 0)|((with_reducible refine gate_store (t:=3) (p:=43) rfl ?_);(try (rw[drewN_self wr];generalize hq_:World.drewN wr _=wr;have n0_:=am' (Kd.R_at hq_ HO_7.out);have n1_:=am' (below_at hq_ HB.out);clear hq_ HO_7 HB;have HO_7:=n0_;have HB:=n1_;clear n0_ n1_;(try (obtain ⟨hy20_,hz20_⟩:=Kd.R_celln 0 HO_7.out (t119:Int) (od' xa') (od' xa')));(try (have HP20:=Kd.R_putg HO_7.out (t119:Int) 0))));refine store_event (t:=3) (p:=43) (v:=?vo_w21) (w1:=(wr.setCell ⟨go19,(t119:Int).toNat,none⟩ (.int .i64 0))) ?hg ?ho ?hn ?hr ?_;(case ho=>rfl);(case hg=>rfl);(case hn=>rfl);(case hr=>first|(go_simp;done)|(go_simp;rfl));intro w21 hw;have hg:wr.grownBy w21 (some go19):=(by rw[hw];exact HP20.2);have hp_:Kd.R (Kd.int .i64) 3 w21 w.heap.size (fun _=>True) (.slice (some ⟨go19,0,none⟩) x7_1.length co9) y120:=(by rw[hw,Ny120.out];exact HP20.1);clear HP20;have n0_:=am' (hp_);have n1_:=am' ((by rw[hw];exact bs' (HB.out) GB19.out:Below w.heap.size w w21));clear HO_7;clear HB;have HO_7:=n0_;have HB:=n1_;clear n0_ n1_;clear hg hw hp_)|((with_reducible refine gate_dst (N:=45) rfl ?_);refine Kd.R_lit (Kd.int .i64) _ 3 ?hg (N:=45) ?hd (xs:=([t119]:List Int)) (inner:=[.int .i64 t119]) (ok:=fun _=>True) (okp:=fun _=>True) ?hr ?hp (fun _ hk=>hk) trivial (Below.refl _ _) (Nat.le_refl _) (by simp) ?_;(case hd=>rfl);(case hg=>rfl);(case hr=>first|(go_simp;done)|(go_simp;rfl));(case hp=>exact (Reps.one (show Kd.M (Kd.int .i64) _ _ _ t119 [.int .i64 t119] from rfl) (Reps.none _ _)));intro v122 w22 ho23 hb hg_ hnew_;clear hg_ hnew_;(first|rw[← Ny121.out] at ho23|(simp only[Int.reduceToNat] at ho23;rw[← Ny121.out] at ho23));have n0_:=am' (Kd.R_elder' (kr' HO_7.out) (Kd.R_base ho23) hb);have n1_:=am' (Kd.R_lower (Kd.R_new' ho23 (Kd.R_lt (kr' HO_7.out))) (bz' xb'));have n2_:=am' (bt' xb' hb);clear HO_7;clear HB;have HO_7:=n0_;have HO123:=n1_;have HB:=n2_;clear n0_ n1_ n2_;clear hb ho23));try go_wp2_with (first|(go_at_call 34;(with_reducible refine (spec_cuSpot.calls a1 a0 a1 1 t119 _ A16.out).mono ?_);rintro e w' ⟨rfl,⟨nd,rfl⟩⟩;(try first|exact ⟨rfl,_,World.drewN_drewN _ _ _⟩|exact ⟨rfl,_,Eq.trans (World.drewN_drewN _ _ _) (congrArg (World.drewN _) (Nat.add_assoc _ _ _))⟩);have p19:0≤(t119:Int):=od' xa';have q19:(t119:Int) < ((x7_1.length:Int):Int):=od' xa';obtain ⟨go19,co19,eo19,gb19,gl19,cl19,HG19⟩:=Kd.R_form HO_7.out (by omega);(first|cases eo19|(injection eo19 with ea_ en_ ec_;(first|subst ea_|(injection ea_ with ea_;subst ea_));subst ec_;clear en_));have GB19:=am' gb19;have GG19:=am' HG19;clear gb19 gl19 HG19;obtain ⟨hx19_0,hf19_0⟩:=Kd.R_celln 0 HO_7.out (t119:Int) p19 q19;replace p19:=eq_true p19;replace q19:=eq_true q19;obtain ⟨hy20_,hz20_⟩:=Kd.R_celln 0 HO_7.out (t119:Int) (od' xa') (od' xa');have HP20:=Kd.R_putg HO_7.out (t119:Int) 0)|((with_reducible refine gate_store (t:=3) (p:=43) rfl ?_);(try (rw[drewN_self wr];generalize hq_:World.drewN wr _=wr;have n0_:=am' (Kd.R_at hq_ HO_7.out);have n1_:=am' (below_at hq_ HB.out);clear hq_ HO_7 HB;have HO_7:=n0_;have HB:=n1_;clear n0_ n1_;(try (obtain ⟨hy20_,hz20_⟩:=Kd.R_celln 0 HO_7.out (t119:Int) (od' xa') (od' xa')));(try (have HP20:=Kd.R_putg HO_7.out (t119:Int) 0))));refine store_event (t:=3) (p:=43) (v:=?vo_w21) (w1:=(wr.setCell ⟨go19,(t119:Int).toNat,none⟩ (.int .i64 0))) ?hg ?ho ?hn ?hr ?_;(case ho=>rfl);(case hg=>rfl);(case hn=>rfl);(case hr=>first|(go_simp;done)|(go_simp;rfl));intro w21 hw;have hg:wr.grownBy w21 (some go19):=(by rw[hw];exact HP20.2);have hp_:Kd.R (Kd.int .i64) 3 w21 w.heap.size (fun _=>True) (.slice (some ⟨go19,0,none⟩) x7_1.length co9) y120:=(by rw[hw,Ny120.out];exact HP20.1);clear HP20;have n0_:=am' (hp_);have n1_:=am' ((by rw[hw];exact bs' (HB.out) GB19.out:Below w.heap.size w w21));clear HO_7;clear HB;have HO_7:=n0_;have HB:=n1_;clear n0_ n1_;clear hg hw hp_)|((with_reducible refine gate_dst (N:=45) rfl ?_);refine Kd.R_lit (Kd.int .i64) _ 3 ?hg (N:=45) ?hd (xs:=([t119]:List Int)) (inner:=[.int .i64 t119]) (ok:=fun _=>True) (okp:=fun _=>True) ?hr ?hp (fun _ hk=>hk) trivial (Below.refl _ _) (Nat.le_refl _) (by simp) ?_;(case hd=>rfl);(case hg=>rfl);(case hr=>first|(go_simp;done)|(go_simp;rfl));(case hp=>exact (Reps.one (show Kd.M (Kd.int .i64) _ _ _ t119 [.int .i64 t119] from rfl) (Reps.none _ _)));intro v122 w22 ho23 hb hg_ hnew_;clear hg_ hnew_;(first|rw[← Ny121.out] at ho23|(simp only[Int.reduceToNat] at ho23;rw[← Ny121.out] at ho23));have n0_:=am' (Kd.R_elder' (kr' HO_7.out) (Kd.R_base ho23) hb);have n1_:=am' (Kd.R_lower (Kd.R_new' ho23 (Kd.R_lt (kr' HO_7.out))) (bz' xb'));have n2_:=am' (bt' xb' hb);clear HO_7;clear HB;have HO_7:=n0_;have HO123:=n1_;have HB:=n2_;clear n0_ n1_ n2_;clear hb ho23)))
        go_loopg [10,11] k1 (fun kq v10 v11 w'=>∃ (x7_2:List Int) (x10_2:List Int) (x11_2:Int),v11 = .int .i64 x11_2∧Aside0 (spec_cuHome.l1 kq a0 a1 a2 x7_2 x10_2 x11_2=some r)∧Aside0 (kq≤k1)∧Aside0 (Kd.R (Kd.int .i64) 3 w' w.heap.size (fun k_=>some k_≠(v10:Value).ownBlock) (.slice (some ⟨go19,0,none⟩) x7_1.length co9) x7_2)∧Aside0 (Kd.R (Kd.int .i64) 3 w' w.heap.size (fun k_=>some k_≠((.slice (some ⟨go19,0,none⟩) x7_1.length co9):Value).ownBlock) v10 x10_2)∧Aside0 (Below w.heap.size w w'))
        case atStart=>exact ⟨(y120),(y121),(0),xs',H',⟨Nat.le_refl _⟩,⟨by (try simp only[hl7_1]);(with_reducible repeat (first|apply ra'|apply rn'|apply rw'));exact Kd.R_mono HO_7.out (fun _ hk=>hk.2)⟩,⟨by (try simp only[hl7_1]);(with_reducible repeat (first|apply ra'|apply rn'|apply rw'));exact Kd.R_mono HO123.out (fun _ hk=>hk.2)⟩,⟨xb'⟩⟩
        case round =>
         clear H';try clear c1
         try clear p1
         try clear q1
         try clear hx1
         try clear p2
         try clear c3
         try clear c5
         try clear c5b0
         try clear c5b1
         try clear c6
         try clear c6b0
         try clear c6b1
         try clear p6
         try clear c10
         try clear c10b0
         try clear c11
         try clear c11b0
         try clear c12
         try clear c12b0
         try clear p13
         try clear q13
         try clear hx13
         try clear hf13
         try clear c17
         try clear c17b0
         try clear c18
         try clear c18b0
         try clear p19
         try clear q19
         try clear hx19
         try clear hf19
         try clear hx13_0
         try clear hx19_0
         try clear p13
         try clear p19
         try clear p2
         try clear p6
         try clear q13
         try clear q19
         obtain ⟨x7_2,x10_2,x11_2,rfl,HA,HK2,HO_7,HO_10,HB⟩:=hrel;have hl7_2:=(Kd.R_reads' HO_7.out).1;rw[hl7_2] at HO_7
         (try simp only[hl7_2])
         (try simp only[hl7_2] at HO_10)
         cases gk with
         | zero=>exact absurd HA.out (by simp[spec_cuHome.l1])
         | succ k2 =>
          have H:=HA.out;clear HA;simp only[spec_cuHome.l1] at H;by_cases c24:x11_2 < (x10_2.length:Int)
          ·
           rw[if_pos c24] at H;have c24b0:decide (x11_2 < (x10_2.length:Int))=true:=dt' c24;clear c24;by_cases c25:0≤x11_2
           ·
            rw[if_pos c25] at H;have c25b0:decide (0≤x11_2)=true:=dt' c25;clear c25;by_cases c26:(wrap64 (a1+1))=0
            ·
             rw[if_pos c26] at H;exact absurd H (by simp)
            ·
             rw[if_neg c26] at H;have c26b0:((wrap64 (a1+1)) == 0)=false:=beq_eq_false_iff_ne.mpr c26;have c26b1:((wrap64 (a1+1)) != 0)=true:=bne_iff_ne.mpr c26;have H':=am' H;clear H;obtain ⟨Ao27,co27,eo27⟩:=Kd.R_slice HO_10.out;subst eo27;have p124:0≤(x11_2:Int):=od' xa';have q124:x11_2 < (x10_2.length:Int):=od' xa';obtain ⟨ad124,e124,hx124_0⟩:=Kd.at_int (Kd.R_reads' HO_10.out).2.2 x11_2 p124 q124;cases e124;replace p124:=eq_true p124;replace q124:=eq_true q124;go_wp2
             repeat (go_quiet (fail);try go_wp2)
             go_loopg [10,16] k2 (fun kq v10 v16 w'=>∃ (x7_3:List Int) (x10_3:List Int) (x16_3:Int),v16 = .int .i64 x16_3∧Aside0 (spec_cuHome.l2 kq a0 a1 a2 x7_3 x10_3 x11_2 (rd x10_2 x11_2) (Int.tmod (rd x10_2 x11_2) 2) (wrap64 (Int.tdiv (wrap64 (Int.tdiv (rd x10_2 x11_2) 2)) (wrap64 (a1+1)))) (Int.tmod (wrap64 (Int.tdiv (rd x10_2 x11_2) 2)) (wrap64 (a1+1))) x16_3=some r)∧Aside0 (kq≤k2)∧Aside0 (Kd.R (Kd.int .i64) 3 w' w.heap.size (fun k_=>some k_≠(v10:Value).ownBlock) (.slice (some ⟨go19,0,none⟩) x7_2.length co9) x7_3)∧Aside0 (Kd.R (Kd.int .i64) 3 w' w.heap.size (fun k_=>some k_≠((.slice (some ⟨go19,0,none⟩) x7_2.length co9):Value).ownBlock) v10 x10_3)∧Aside0 (Below w.heap.size w w'))
             case atStart=>exact ⟨(x7_2),(x10_2),(0),xs',H',⟨Nat.le_refl _⟩,⟨by (try simp only[hl7_1]);(try simp only[hl7_2]);(with_reducible repeat (first|apply ra'|apply rn'|apply rw'));exact HO_7.out⟩,⟨by (try simp only[hl7_1]);(try simp only[hl7_2]);(with_reducible repeat (first|apply ra'|apply rn'|apply rw'));exact HO_10.out⟩,⟨xb'⟩⟩
             case round =>
              clear H';try clear c1
              try clear p1
              try clear q1
              try clear hx1
              try clear c2
              try clear p2
              try clear c3
              try clear c5
              try clear c5b0
              try clear c5b1
              try clear c6
              try clear c6b0
              try clear c6b1
              try clear p6
              try clear c10
              try clear c10b0
              try clear c11
              try clear c11b0
              try clear c12
              try clear c12b0
              try clear p12
              try clear q12
              try clear hx12
              try clear p13
              try clear q13
              try clear hx13
              try clear hf13
              try clear c17
              try clear c17b0
              try clear c18
              try clear c18b0
              try clear p19
              try clear q19
              try clear hx19
              try clear hf19
              try clear c24
              try clear c24b0
              try clear c25
              try clear c25b0
              try clear c26
              try clear c26b0
              try clear c26b1
              try clear hx124_0
              try clear hx13_0
              try clear hx19_0
              try clear p1
              try clear p124
              try clear p13
              try clear p19
              try clear p2
              try clear p6
              try clear q1
              try clear q124
              try clear q13
              try clear q19
              obtain ⟨x7_3,x10_3,x16_3,rfl,HA,HK3,HO_7,HO_10,HB⟩:=hrel;have hl7_3:=(Kd.R_reads' HO_7.out).1;rw[hl7_3] at HO_7
              (try simp only[hl7_3])
              (try simp only[hl7_3] at HO_10)
              cases gk with
              | zero=>exact absurd HA.out (by simp[spec_cuHome.l2])
              | succ k3 =>
               have H:=HA.out;clear HA;simp only[spec_cuHome.l2] at H;by_cases c28:x16_3≤a2
               ·
                rw[if_pos c28] at H;have c28b0:decide (x16_3≤a2)=true:=dt' c28;clear c28;have H':=am' H;clear H;go_wp2
                repeat (go_quiet (fail);try go_wp2)
                go_loopg [10,17] k3 (fun kq v10 v17 w'=>∃ (x7_4:List Int) (x10_4:List Int) (x17_4:Int),v17 = .int .i64 x17_4∧Aside0 (spec_cuHome.l3 kq a0 a1 a2 x7_4 x10_4 x11_2 (rd x10_2 x11_2) (Int.tmod (rd x10_2 x11_2) 2) (wrap64 (Int.tdiv (wrap64 (Int.tdiv (rd x10_2 x11_2) 2)) (wrap64 (a1+1)))) (Int.tmod (wrap64 (Int.tdiv (rd x10_2 x11_2) 2)) (wrap64 (a1+1))) x16_3 x17_4=some r)∧Aside0 (kq≤k3)∧Aside0 (Kd.R (Kd.int .i64) 3 w' w.heap.size (fun k_=>some k_≠(v10:Value).ownBlock) (.slice (some ⟨go19,0,none⟩) x7_3.length co9) x7_4)∧Aside0 (Kd.R (Kd.int .i64) 3 w' w.heap.size (fun k_=>some k_≠((.slice (some ⟨go19,0,none⟩) x7_3.length co9):Value).ownBlock) v10 x10_4)∧Aside0 (Below w.heap.size w w'))
                case atStart=>exact ⟨(x7_3),(x10_3),(0),xs',H',⟨Nat.le_refl _⟩,⟨by (try simp only[hl7_1]);(try simp only[hl7_2]);(try simp only[hl7_3]);(with_reducible repeat (first|apply ra'|apply rn'|apply rw'));exact HO_7.out⟩,⟨by (try simp only[hl7_1]);(try simp only[hl7_2]);(try simp only[hl7_3]);(with_reducible repeat (first|apply ra'|apply rn'|apply rw'));exact HO_10.out⟩,⟨xb'⟩⟩
                case round =>
                 clear H';try clear c1
                 try clear p1
                 try clear q1
                 try clear hx1
                 try clear c2
                 try clear p2
                 try clear c3
                 try clear c5
                 try clear c5b0
                 try clear c5b1
                 try clear c6
                 try clear c6b0
                 try clear c6b1
                 try clear p6
                 try clear c10
                 try clear c10b0
                 try clear c11
                 try clear c11b0
                 try clear c12
                 try clear c12b0
                 try clear p12
                 try clear q12
                 try clear hx12
                 try clear p13
                 try clear q13
                 try clear hx13
                 try clear hf13
                 try clear c17
                 try clear c17b0
                 try clear c18
                 try clear c18b0
                 try clear p19
                 try clear q19
                 try clear hx19
                 try clear hf19
                 try clear c24
                 try clear c24b0
                 try clear c25
                 try clear c25b0
                 try clear c26
                 try clear c26b0
                 try clear c26b1
                 try clear c28
                 try clear c28b0
                 try clear hx124_0
                 try clear hx13_0
                 try clear hx19_0
                 try clear p1
                 try clear p12
                 try clear p124
                 try clear p13
                 try clear p19
                 try clear p2
                 try clear p6
                 try clear q1
                 try clear q12
                 try clear q124
                 try clear q13
                 try clear q19
                 obtain ⟨x7_4,x10_4,x17_4,rfl,HA,HK4,HO_7,HO_10,HB⟩:=hrel;have hl7_4:=(Kd.R_reads' HO_7.out).1;rw[hl7_4] at HO_7
                 (try simp only[hl7_4])
                 (try simp only[hl7_4] at HO_10)
                 cases gk with
                 | zero=>exact absurd HA.out (by simp[spec_cuHome.l3])
                 | succ k4 =>
                  have H:=HA.out;clear HA;simp only[spec_cuHome.l3] at H;by_cases c29:(wrap64 (x16_3+x17_4))≤a2
                  ·
                   rw[if_pos c29] at H;have c29b0:decide ((wrap64 (x16_3+x17_4))≤a2)=true:=dt' c29;clear c29;have HC30:=am' H;clear H;go_upto_if 87 with (fail)
                   repeat (go_quiet (fail);go_upto_if 87 with (fail))
                   go_cut [18,19] (fun v18 v19 wc=>∃ (kq:Nat) (x18_29:Int) (x19_29:Int),v18 = .int .i64 x18_29∧v19 = .int .i64 x19_29∧Aside0 (spec_cuHome.j4 kq a0 a1 a2 x7_4 x10_4 x11_2 (rd x10_2 x11_2) (Int.tmod (rd x10_2 x11_2) 2) (wrap64 (Int.tdiv (wrap64 (Int.tdiv (rd x10_2 x11_2) 2)) (wrap64 (a1+1)))) (Int.tmod (wrap64 (Int.tdiv (rd x10_2 x11_2) 2)) (wrap64 (a1+1))) x16_3 x17_4 x18_29 x19_29=some r)∧Aside0 (kq≤k4)∧Aside0 (Kd.R (Kd.int .i64) 3 wc w.heap.size (fun k_=>some k_≠(u10:Value).ownBlock) (.slice (some ⟨go19,0,none⟩) x7_4.length co9) x7_4)∧Aside0 (Kd.R (Kd.int .i64) 3 wc w.heap.size (fun k_=>some k_≠((.slice (some ⟨go19,0,none⟩) x7_4.length co9):Value).ownBlock) u10 x10_4)∧Aside0 (Below w.heap.size w wc))
                   case first =>
                    have H:=HC30.out;clear HC30;by_cases c31:(Int.tmod (rd x10_2 x11_2) 2)=0
                    ·
                     rw[if_pos c31] at H;have c31b0:((Int.tmod (rd x10_2 x11_2) 2) == 0)=true:=beq_iff_eq.mpr c31;have c31b1:((Int.tmod (rd x10_2 x11_2) 2) != 0)=false:=bne_eq_false_iff_eq.mpr c31;clear c31;(first|rw[c31b0]|(simp only[i64_w,i32_w];rw[c31b0])|skip)
                     have H':=am' H;clear H;go_wp2
                     repeat (go_quiet (fail);try go_wp2)
                     go_meet
                     case rel=>exact ⟨_,(wrap64 ((wrap64 (Int.tdiv (wrap64 (Int.tdiv (rd x10_2 x11_2) 2)) (wrap64 (a1+1))))+x16_3)),(wrap64 ((Int.tmod (wrap64 (Int.tdiv (rd x10_2 x11_2) 2)) (wrap64 (a1+1)))+x17_4)),xs',xs',H',⟨by have:=HK1.out;have:=HK2.out;have:=HK3.out;have:=HK4.out;first|omega|exact Nat.le_refl _⟩,⟨by (try simp only[hl7_1]);(try simp only[hl7_2]);(try simp only[hl7_3]);(try simp only[hl7_4]);(with_reducible repeat (first|apply ra'|apply rn'|apply rw'));exact HO_7.out⟩,⟨by (try simp only[hl7_1]);(try simp only[hl7_2]);(try simp only[hl7_3]);(try simp only[hl7_4]);(with_reducible repeat (first|apply ra'|apply rn'|apply rw'));exact HO_10.out⟩,⟨xb'⟩⟩
                    ·
                     rw[if_neg c31] at H;have c31b0:((Int.tmod (rd x10_2 x11_2) 2) == 0)=false:=beq_eq_false_iff_ne.mpr c31;have c31b1:((Int.tmod (rd x10_2 x11_2) 2) != 0)=true:=bne_iff_ne.mpr c31
                     (first|rw[c31b0]|(simp only[i64_w,i32_w];rw[c31b0])|skip)
                     have H':=am' H;clear H;go_wp2
                     repeat (go_quiet (fail);try go_wp2)
                     go_meet
                     case rel=>exact ⟨_,(wrap64 ((wrap64 (Int.tdiv (wrap64 (Int.tdiv (rd x10_2 x11_2) 2)) (wrap64 (a1+1)))) - x16_3)),(wrap64 ((Int.tmod (wrap64 (Int.tdiv (rd x10_2 x11_2) 2)) (wrap64 (a1+1))) - x17_4)),xs',xs',H',⟨by have:=HK1.out;have:=HK2.out;have:=HK3.out;have:=HK4.out;first|omega|exact Nat.le_refl _⟩,⟨by (try simp only[hl7_1]);(try simp only[hl7_2]);(try simp only[hl7_3]);(try simp only[hl7_4]);(with_reducible repeat (first|apply ra'|apply rn'|apply rw'));exact HO_7.out⟩,⟨by (try simp only[hl7_1]);(try simp only[hl7_2]);(try simp only[hl7_3]);(try simp only[hl7_4]);(with_reducible repeat (first|apply ra'|apply rn'|apply rw'));exact HO_10.out⟩,⟨xb'⟩⟩
                   case rest =>
                    clear HC30;try clear c1
                    try clear p1
                    try clear q1
                    try clear hx1
                    try clear c2
                    try clear p2
                    try clear c3
                    try clear c5
                    try clear c5b0
                    try clear c5b1
                    try clear c6
                    try clear c6b0
                    try clear c6b1
                    try clear p6
                    try clear c10
                    try clear c10b0
                    try clear c11
                    try clear c11b0
                    try clear c12
                    try clear c12b0
                    try clear p12
                    try clear q12
                    try clear hx12
                    try clear p13
                    try clear q13
                    try clear hx13
                    try clear hf13
                    try clear c17
                    try clear c17b0
                    try clear c18
                    try clear c18b0
                    try clear p19
                    try clear q19
                    try clear hx19
                    try clear hf19
                    try clear c24
                    try clear c24b0
                    try clear c25
                    try clear c25b0
                    try clear c26
                    try clear c26b0
                    try clear c26b1
                    try clear c28
                    try clear c28b0
                    try clear c29
                    try clear c29b0
                    try clear c31
                    try clear c31b0
                    try clear c31b1
                    try clear hx124_0
                    try clear hx13_0
                    try clear hx19_0
                    try clear p1
                    try clear p12
                    try clear p124
                    try clear p13
                    try clear p19
                    try clear p2
                    try clear p6
                    try clear q1
                    try clear q12
                    try clear q124
                    try clear q13
                    try clear q19
                    obtain ⟨kq,x18_29,x19_29,rfl,rfl,HA,HJ29,HO_7,HO_10,HB⟩:=hcut;cases kq with
                    | zero=>exact absurd HA.out (by simp[spec_cuHome.j4])
                    | succ kj29 =>
                     have H:=HA.out;clear HA;simp only[spec_cuHome.j4] at H;have HC32:=am' H;clear H;go_upto_region 26 with (fail)
                     repeat (go_quiet (fail);go_upto_region 26 with (fail))
                     go_cut [123] (fun v123 wc=>∃ (kq:Nat) (x123_31:Bool),v123 = .bool x123_31∧Aside0 (spec_cuHome.j5 kq a0 a1 a2 x7_4 x10_4 x11_2 (rd x10_2 x11_2) (Int.tmod (rd x10_2 x11_2) 2) (wrap64 (Int.tdiv (wrap64 (Int.tdiv (rd x10_2 x11_2) 2)) (wrap64 (a1+1)))) (Int.tmod (wrap64 (Int.tdiv (rd x10_2 x11_2) 2)) (wrap64 (a1+1))) x16_3 x17_4 x18_29 x19_29 x123_31=some r)∧Aside0 (kq≤kj29)∧Aside0 (Kd.R (Kd.int .i64) 3 wc w.heap.size (fun k_=>some k_≠(u10:Value).ownBlock) (.slice (some ⟨go19,0,none⟩) x7_4.length co9) x7_4)∧Aside0 (Kd.R (Kd.int .i64) 3 wc w.heap.size (fun k_=>some k_≠((.slice (some ⟨go19,0,none⟩) x7_4.length co9):Value).ownBlock) u10 x10_4)∧Aside0 (Below w.heap.size w wc))
                     case first =>
                      have H:=HC32.out;clear HC32;by_cases c33:(wrap64 (x16_3+x17_4))=0
                      ·
                       rw[if_pos c33] at H;have c33b0:((wrap64 (x16_3+x17_4)) == 0)=true:=beq_iff_eq.mpr c33;have c33b1:((wrap64 (x16_3+x17_4)) != 0)=false:=bne_eq_false_iff_eq.mpr c33;clear c33;(first|rw[c33b0]|(simp only[i64_w,i32_w];rw[c33b0])|skip)
                       have H':=am' H;clear H;go_wp2
                       repeat (go_quiet (fail);try go_wp2)
                       go_meet
                       case rel=>exact ⟨_,(true),xs',H',⟨by have:=HK1.out;have:=HK2.out;have:=HK3.out;have:=HK4.out;have:=HJ29.out;first|omega|exact Nat.le_refl _⟩,⟨by (try simp only[hl7_1]);(try simp only[hl7_2]);(try simp only[hl7_3]);(try simp only[hl7_4]);(with_reducible repeat (first|apply ra'|apply rn'|apply rw'));exact HO_7.out⟩,⟨by (try simp only[hl7_1]);(try simp only[hl7_2]);(try simp only[hl7_3]);(try simp only[hl7_4]);(with_reducible repeat (first|apply ra'|apply rn'|apply rw'));exact HO_10.out⟩,⟨xb'⟩⟩
                      ·
                       rw[if_neg c33] at H;have c33b0:((wrap64 (x16_3+x17_4)) == 0)=false:=beq_eq_false_iff_ne.mpr c33;have c33b1:((wrap64 (x16_3+x17_4)) != 0)=true:=bne_iff_ne.mpr c33
                       (first|rw[c33b0]|(simp only[i64_w,i32_w];rw[c33b0])|skip)
                       replace H:=Option.bind_eq_some_iff.mp H;obtain ⟨t125,A340,H⟩:=H;replace H:(if t125=true then ((spec_l1In.f x18_29 0 a0).bind fun t126=>(if t126=true then ((spec_l1In.f x19_29 0 a1).bind fun t127=>(if t127=true then ((spec_cuGuarded.f a0 a1 x18_29 x19_29).bind fun t128=>(spec_cuHome.j5 kj29 a0 a1 a2 x7_4 x10_4 x11_2 (rd x10_2 x11_2) (Int.tmod (rd x10_2 x11_2) 2) (wrap64 (Int.tdiv (wrap64 (Int.tdiv (rd x10_2 x11_2) 2)) (wrap64 (a1+1)))) (Int.tmod (wrap64 (Int.tdiv (rd x10_2 x11_2) 2)) (wrap64 (a1+1))) x16_3 x17_4 x18_29 x19_29 (!t128))) else (spec_cuHome.j5 kj29 a0 a1 a2 x7_4 x10_4 x11_2 (rd x10_2 x11_2) (Int.tmod (rd x10_2 x11_2) 2) (wrap64 (Int.tdiv (wrap64 (Int.tdiv (rd x10_2 x11_2) 2)) (wrap64 (a1+1)))) (Int.tmod (wrap64 (Int.tdiv (rd x10_2 x11_2) 2)) (wrap64 (a1+1))) x16_3 x17_4 x18_29 x19_29 true))) else (spec_cuHome.j5 kj29 a0 a1 a2 x7_4 x10_4 x11_2 (rd x10_2 x11_2) (Int.tmod (rd x10_2 x11_2) 2) (wrap64 (Int.tdiv (wrap64 (Int.tdiv (rd x10_2 x11_2) 2)) (wrap64 (a1+1)))) (Int.tmod (wrap64 (Int.tdiv (rd x10_2 x11_2) 2)) (wrap64 (a1+1))) x16_3 x17_4 x18_29 x19_29 true))) else (spec_cuHome.j5 kj29 a0 a1 a2 x7_4 x10_4 x11_2 (rd x10_2 x11_2) (Int.tmod (rd x10_2 x11_2) 2) (wrap64 (Int.tdiv (wrap64 (Int.tdiv (rd x10_2 x11_2) 2)) (wrap64 (a1+1)))) (Int.tmod (wrap64 (Int.tdiv (rd x10_2 x11_2) 2)) (wrap64 (a1+1))) x16_3 x17_4 x18_29 x19_29 true))=some r:=H;have A34:=am' A340;clear A340;by_cases c35:t125=true
                       ·
                        subst c35;have H1:((spec_l1In.f x18_29 0 a0).bind fun t126=>(if t126=true then ((spec_l1In.f x19_29 0 a1).bind fun t127=>(if t127=true then ((spec_cuGuarded.f a0 a1 x18_29 x19_29).bind fun t128=>(spec_cuHome.j5 kj29 a0 a1 a2 x7_4 x10_4 x11_2 (rd x10_2 x11_2) (Int.tmod (rd x10_2 x11_2) 2) (wrap64 (Int.tdiv (wrap64 (Int.tdiv (rd x10_2 x11_2) 2)) (wrap64 (a1+1)))) (Int.tmod (wrap64 (Int.tdiv (rd x10_2 x11_2) 2)) (wrap64 (a1+1))) x16_3 x17_4 x18_29 x19_29 (!t128))) else (spec_cuHome.j5 kj29 a0 a1 a2 x7_4 x10_4 x11_2 (rd x10_2 x11_2) (Int.tmod (rd x10_2 x11_2) 2) (wrap64 (Int.tdiv (wrap64 (Int.tdiv (rd x10_2 x11_2) 2)) (wrap64 (a1+1)))) (Int.tmod (wrap64 (Int.tdiv (rd x10_2 x11_2) 2)) (wrap64 (a1+1))) x16_3 x17_4 x18_29 x19_29 true))) else (spec_cuHome.j5 kj29 a0 a1 a2 x7_4 x10_4 x11_2 (rd x10_2 x11_2) (Int.tmod (rd x10_2 x11_2) 2) (wrap64 (Int.tdiv (wrap64 (Int.tdiv (rd x10_2 x11_2) 2)) (wrap64 (a1+1)))) (Int.tmod (wrap64 (Int.tdiv (rd x10_2 x11_2) 2)) (wrap64 (a1+1))) x16_3 x17_4 x18_29 x19_29 true)))=some r:=by rw[if_pos rfl] at H;exact H
                        clear H;have H:=H1;clear H1;replace H:=Option.bind_eq_some_iff.mp H;obtain ⟨t126,A360,H⟩:=H;replace H:(if t126=true then ((spec_l1In.f x19_29 0 a1).bind fun t127=>(if t127=true then ((spec_cuGuarded.f a0 a1 x18_29 x19_29).bind fun t128=>(spec_cuHome.j5 kj29 a0 a1 a2 x7_4 x10_4 x11_2 (rd x10_2 x11_2) (Int.tmod (rd x10_2 x11_2) 2) (wrap64 (Int.tdiv (wrap64 (Int.tdiv (rd x10_2 x11_2) 2)) (wrap64 (a1+1)))) (Int.tmod (wrap64 (Int.tdiv (rd x10_2 x11_2) 2)) (wrap64 (a1+1))) x16_3 x17_4 x18_29 x19_29 (!t128))) else (spec_cuHome.j5 kj29 a0 a1 a2 x7_4 x10_4 x11_2 (rd x10_2 x11_2) (Int.tmod (rd x10_2 x11_2) 2) (wrap64 (Int.tdiv (wrap64 (Int.tdiv (rd x10_2 x11_2) 2)) (wrap64 (a1+1)))) (Int.tmod (wrap64 (Int.tdiv (rd x10_2 x11_2) 2)) (wrap64 (a1+1))) x16_3 x17_4 x18_29 x19_29 true))) else (spec_cuHome.j5 kj29 a0 a1 a2 x7_4 x10_4 x11_2 (rd x10_2 x11_2) (Int.tmod (rd x10_2 x11_2) 2) (wrap64 (Int.tdiv (wrap64 (Int.tdiv (rd x10_2 x11_2) 2)) (wrap64 (a1+1)))) (Int.tmod (wrap64 (Int.tdiv (rd x10_2 x11_2) 2)) (wrap64 (a1+1))) x16_3 x17_4 x18_29 x19_29 true))=some r:=H;have A36:=am' A360;clear A360;by_cases c37:t126=true
                        ·
                         subst c37;have H1:((spec_l1In.f x19_29 0 a1).bind fun t127=>(if t127=true then ((spec_cuGuarded.f a0 a1 x18_29 x19_29).bind fun t128=>(spec_cuHome.j5 kj29 a0 a1 a2 x7_4 x10_4 x11_2 (rd x10_2 x11_2) (Int.tmod (rd x10_2 x11_2) 2) (wrap64 (Int.tdiv (wrap64 (Int.tdiv (rd x10_2 x11_2) 2)) (wrap64 (a1+1)))) (Int.tmod (wrap64 (Int.tdiv (rd x10_2 x11_2) 2)) (wrap64 (a1+1))) x16_3 x17_4 x18_29 x19_29 (!t128))) else (spec_cuHome.j5 kj29 a0 a1 a2 x7_4 x10_4 x11_2 (rd x10_2 x11_2) (Int.tmod (rd x10_2 x11_2) 2) (wrap64 (Int.tdiv (wrap64 (Int.tdiv (rd x10_2 x11_2) 2)) (wrap64 (a1+1)))) (Int.tmod (wrap64 (Int.tdiv (rd x10_2 x11_2) 2)) (wrap64 (a1+1))) x16_3 x17_4 x18_29 x19_29 true)))=some r:=by rw[if_pos rfl] at H;exact H
                         clear H;have H:=H1;clear H1;replace H:=Option.bind_eq_some_iff.mp H;obtain ⟨t127,A380,H⟩:=H;replace H:(if t127=true then ((spec_cuGuarded.f a0 a1 x18_29 x19_29).bind fun t128=>(spec_cuHome.j5 kj29 a0 a1 a2 x7_4 x10_4 x11_2 (rd x10_2 x11_2) (Int.tmod (rd x10_2 x11_2) 2) (wrap64 (Int.tdiv (wrap64 (Int.tdiv (rd x10_2 x11_2) 2)) (wrap64 (a1+1)))) (Int.tmod (wrap64 (Int.tdiv (rd x10_2 x11_2) 2)) (wrap64 (a1+1))) x16_3 x17_4 x18_29 x19_29 (!t128))) else (spec_cuHome.j5 kj29 a0 a1 a2 x7_4 x10_4 x11_2 (rd x10_2 x11_2) (Int.tmod (rd x10_2 x11_2) 2) (wrap64 (Int.tdiv (wrap64 (Int.tdiv (rd x10_2 x11_2) 2)) (wrap64 (a1+1)))) (Int.tmod (wrap64 (Int.tdiv (rd x10_2 x11_2) 2)) (wrap64 (a1+1))) x16_3 x17_4 x18_29 x19_29 true))=some r:=H;have A38:=am' A380;clear A380;by_cases c39:t127=true
                         ·
                          subst c39;have H1:((spec_cuGuarded.f a0 a1 x18_29 x19_29).bind fun t128=>(spec_cuHome.j5 kj29 a0 a1 a2 x7_4 x10_4 x11_2 (rd x10_2 x11_2) (Int.tmod (rd x10_2 x11_2) 2) (wrap64 (Int.tdiv (wrap64 (Int.tdiv (rd x10_2 x11_2) 2)) (wrap64 (a1+1)))) (Int.tmod (wrap64 (Int.tdiv (rd x10_2 x11_2) 2)) (wrap64 (a1+1))) x16_3 x17_4 x18_29 x19_29 (!t128)))=some r:=by rw[if_pos rfl] at H;exact H
                          clear H;have H:=H1;clear H1;replace H:=Option.bind_eq_some_iff.mp H;obtain ⟨t128,A400,H⟩:=H;replace H:(spec_cuHome.j5 kj29 a0 a1 a2 x7_4 x10_4 x11_2 (rd x10_2 x11_2) (Int.tmod (rd x10_2 x11_2) 2) (wrap64 (Int.tdiv (wrap64 (Int.tdiv (rd x10_2 x11_2) 2)) (wrap64 (a1+1)))) (Int.tmod (wrap64 (Int.tdiv (rd x10_2 x11_2) 2)) (wrap64 (a1+1))) x16_3 x17_4 x18_29 x19_29 (!t128))=some r:=H;have A40:=am' A400;clear A400;have H':=am' H;clear H;go_wp2_with (first|(go_at_call 31;(with_reducible refine (spec_cuHeld.calls x16_3 x17_4 true _ A34.out).mono ?_);rintro e w' ⟨rfl,⟨nd,rfl⟩⟩;(try first|exact ⟨rfl,_,World.drewN_drewN _ _ _⟩|exact ⟨rfl,_,Eq.trans (World.drewN_drewN _ _ _) (congrArg (World.drewN _) (Nat.add_assoc _ _ _))⟩))|(go_at_call 33;(with_reducible refine (spec_l1In.calls x18_29 0 a0 true _ A36.out).mono ?_);rintro e w' ⟨rfl,⟨nd,rfl⟩⟩;(try first|exact ⟨rfl,_,World.drewN_drewN _ _ _⟩|exact ⟨rfl,_,Eq.trans (World.drewN_drewN _ _ _) (congrArg (World.drewN _) (Nat.add_assoc _ _ _))⟩))|(go_at_call 33;(with_reducible refine (spec_l1In.calls x19_29 0 a1 true _ A38.out).mono ?_);rintro e w' ⟨rfl,⟨nd,rfl⟩⟩;(try first|exact ⟨rfl,_,World.drewN_drewN _ _ _⟩|exact ⟨rfl,_,Eq.trans (World.drewN_drewN _ _ _) (congrArg (World.drewN _) (Nat.add_assoc _ _ _))⟩))|(go_at_call 38;(with_reducible refine (spec_cuGuarded.calls a0 a1 x18_29 x19_29 t128 _ A40.out).mono ?_);rintro e w' ⟨rfl,⟨nd,rfl⟩⟩;(try first|exact ⟨rfl,_,World.drewN_drewN _ _ _⟩|exact ⟨rfl,_,Eq.trans (World.drewN_drewN _ _ _) (congrArg (World.drewN _) (Nat.add_assoc _ _ _))⟩)))
                          repeat (go_quiet (first|(go_at_call 31;(with_reducible refine (spec_cuHeld.calls x16_3 x17_4 true _ A34.out).mono ?_);rintro e w' ⟨rfl,⟨nd,rfl⟩⟩;(try first|exact ⟨rfl,_,World.drewN_drewN _ _ _⟩|exact ⟨rfl,_,Eq.trans (World.drewN_drewN _ _ _) (congrArg (World.drewN _) (Nat.add_assoc _ _ _))⟩))|(go_at_call 33;(with_reducible refine (spec_l1In.calls x18_29 0 a0 true _ A36.out).mono ?_);rintro e w' ⟨rfl,⟨nd,rfl⟩⟩;(try first|exact ⟨rfl,_,World.drewN_drewN _ _ _⟩|exact ⟨rfl,_,Eq.trans (World.drewN_drewN _ _ _) (congrArg (World.drewN _) (Nat.add_assoc _ _ _))⟩))|(go_at_call 33;(with_reducible refine (spec_l1In.calls x19_29 0 a1 true _ A38.out).mono ?_);rintro e w' ⟨rfl,⟨nd,rfl⟩⟩;(try first|exact ⟨rfl,_,World.drewN_drewN _ _ _⟩|exact ⟨rfl,_,Eq.trans (World.drewN_drewN _ _ _) (congrArg (World.drewN _) (Nat.add_assoc _ _ _))⟩))|(go_at_call 38;(with_reducible refine (spec_cuGuarded.calls a0 a1 x18_29 x19_29 t128 _ A40.out).mono ?_);rintro e w' ⟨rfl,⟨nd,rfl⟩⟩;(try first|exact ⟨rfl,_,World.drewN_drewN _ _ _⟩|exact ⟨rfl,_,Eq.trans (World.drewN_drewN _ _ _) (congrArg (World.drewN _) (Nat.add_assoc _ _ _))⟩)));try go_wp2_with (first|(go_at_call 31;(with_reducible refine (spec_cuHeld.calls x16_3 x17_4 true _ A34.out).mono ?_);rintro e w' ⟨rfl,⟨nd,rfl⟩⟩;(try first|exact ⟨rfl,_,World.drewN_drewN _ _ _⟩|exact ⟨rfl,_,Eq.trans (World.drewN_drewN _ _ _) (congrArg (World.drewN _) (Nat.add_assoc _ _ _))⟩))|(go_at_call 33;(with_reducible refine (spec_l1In.calls x18_29 0 a0 true _ A36.out).mono ?_);rintro e w' ⟨rfl,⟨nd,rfl⟩⟩;(try first|exact ⟨rfl,_,World.drewN_drewN _ _ _⟩|exact ⟨rfl,_,Eq.trans (World.drewN_drewN _ _ _) (congrArg (World.drewN _) (Nat.add_assoc _ _ _))⟩))|(go_at_call 33;(with_reducible refine (spec_l1In.calls x19_29 0 a1 true _ A38.out).mono ?_);rintro e w' ⟨rfl,⟨nd,rfl⟩⟩;(try first|exact ⟨rfl,_,World.drewN_drewN _ _ _⟩|exact ⟨rfl,_,Eq.trans (World.drewN_drewN _ _ _) (congrArg (World.drewN _) (Nat.add_assoc _ _ _))⟩))|(go_at_call 38;(with_reducible refine (spec_cuGuarded.calls a0 a1 x18_29 x19_29 t128 _ A40.out).mono ?_);rintro e w' ⟨rfl,⟨nd,rfl⟩⟩;(try first|exact ⟨rfl,_,World.drewN_drewN _ _ _⟩|exact ⟨rfl,_,Eq.trans (World.drewN_drewN _ _ _) (congrArg (World.drewN _) (Nat.add_assoc _ _ _))⟩))))
                          go_meet
                          case rel=>exact ⟨_,(!t128),xs',H',⟨by have:=HK1.out;have:=HK2.out;have:=HK3.out;have:=HK4.out;have:=HJ29.out;first|omega|exact Nat.le_refl _⟩,⟨by (try simp only[hl7_1]);(try simp only[hl7_2]);(try simp only[hl7_3]);(try simp only[hl7_4]);(with_reducible repeat (first|apply ra'|apply rn'|apply rw'));exact HO_7.out⟩,⟨by (try simp only[hl7_1]);(try simp only[hl7_2]);(try simp only[hl7_3]);(try simp only[hl7_4]);(with_reducible repeat (first|apply ra'|apply rn'|apply rw'));exact HO_10.out⟩,⟨xb'⟩⟩
                         ·
                          replace c39:=Bool.eq_false_iff.mpr c39;subst c39;have H1:(spec_cuHome.j5 kj29 a0 a1 a2 x7_4 x10_4 x11_2 (rd x10_2 x11_2) (Int.tmod (rd x10_2 x11_2) 2) (wrap64 (Int.tdiv (wrap64 (Int.tdiv (rd x10_2 x11_2) 2)) (wrap64 (a1+1)))) (Int.tmod (wrap64 (Int.tdiv (rd x10_2 x11_2) 2)) (wrap64 (a1+1))) x16_3 x17_4 x18_29 x19_29 true)=some r:=by rw[if_neg (show ¬ (false=true) by decide)] at H;exact H
                          clear H;have H:=H1;clear H1;have H':=am' H;clear H;go_wp2_with (first|(go_at_call 31;(with_reducible refine (spec_cuHeld.calls x16_3 x17_4 true _ A34.out).mono ?_);rintro e w' ⟨rfl,⟨nd,rfl⟩⟩;(try first|exact ⟨rfl,_,World.drewN_drewN _ _ _⟩|exact ⟨rfl,_,Eq.trans (World.drewN_drewN _ _ _) (congrArg (World.drewN _) (Nat.add_assoc _ _ _))⟩))|(go_at_call 33;(with_reducible refine (spec_l1In.calls x18_29 0 a0 true _ A36.out).mono ?_);rintro e w' ⟨rfl,⟨nd,rfl⟩⟩;(try first|exact ⟨rfl,_,World.drewN_drewN _ _ _⟩|exact ⟨rfl,_,Eq.trans (World.drewN_drewN _ _ _) (congrArg (World.drewN _) (Nat.add_assoc _ _ _))⟩))|(go_at_call 33;(with_reducible refine (spec_l1In.calls x19_29 0 a1 false _ A38.out).mono ?_);rintro e w' ⟨rfl,⟨nd,rfl⟩⟩;(try first|exact ⟨rfl,_,World.drewN_drewN _ _ _⟩|exact ⟨rfl,_,Eq.trans (World.drewN_drewN _ _ _) (congrArg (World.drewN _) (Nat.add_assoc _ _ _))⟩)))
                          repeat (go_quiet (first|(go_at_call 31;(with_reducible refine (spec_cuHeld.calls x16_3 x17_4 true _ A34.out).mono ?_);rintro e w' ⟨rfl,⟨nd,rfl⟩⟩;(try first|exact ⟨rfl,_,World.drewN_drewN _ _ _⟩|exact ⟨rfl,_,Eq.trans (World.drewN_drewN _ _ _) (congrArg (World.drewN _) (Nat.add_assoc _ _ _))⟩))|(go_at_call 33;(with_reducible refine (spec_l1In.calls x18_29 0 a0 true _ A36.out).mono ?_);rintro e w' ⟨rfl,⟨nd,rfl⟩⟩;(try first|exact ⟨rfl,_,World.drewN_drewN _ _ _⟩|exact ⟨rfl,_,Eq.trans (World.drewN_drewN _ _ _) (congrArg (World.drewN _) (Nat.add_assoc _ _ _))⟩))|(go_at_call 33;(with_reducible refine (spec_l1In.calls x19_29 0 a1 false _ A38.out).mono ?_);rintro e w' ⟨rfl,⟨nd,rfl⟩⟩;(try first|exact ⟨rfl,_,World.drewN_drewN _ _ _⟩|exact ⟨rfl,_,Eq.trans (World.drewN_drewN _ _ _) (congrArg (World.drewN _) (Nat.add_assoc _ _ _))⟩)));try go_wp2_with (first|(go_at_call 31;(with_reducible refine (spec_cuHeld.calls x16_3 x17_4 true _ A34.out).mono ?_);rintro e w' ⟨rfl,⟨nd,rfl⟩⟩;(try first|exact ⟨rfl,_,World.drewN_drewN _ _ _⟩|exact ⟨rfl,_,Eq.trans (World.drewN_drewN _ _ _) (congrArg (World.drewN _) (Nat.add_assoc _ _ _))⟩))|(go_at_call 33;(with_reducible refine (spec_l1In.calls x18_29 0 a0 true _ A36.out).mono ?_);rintro e w' ⟨rfl,⟨nd,rfl⟩⟩;(try first|exact ⟨rfl,_,World.drewN_drewN _ _ _⟩|exact ⟨rfl,_,Eq.trans (World.drewN_drewN _ _ _) (congrArg (World.drewN _) (Nat.add_assoc _ _ _))⟩))|(go_at_call 33;(with_reducible refine (spec_l1In.calls x19_29 0 a1 false _ A38.out).mono ?_);rintro e w' ⟨rfl,⟨nd,rfl⟩⟩;(try first|exact ⟨rfl,_,World.drewN_drewN _ _ _⟩|exact ⟨rfl,_,Eq.trans (World.drewN_drewN _ _ _) (congrArg (World.drewN _) (Nat.add_assoc _ _ _))⟩))))
                          go_meet
                          case rel=>exact ⟨_,(true),xs',H',⟨by have:=HK1.out;have:=HK2.out;have:=HK3.out;have:=HK4.out;have:=HJ29.out;first|omega|exact Nat.le_refl _⟩,⟨by (try simp only[hl7_1]);(try simp only[hl7_2]);(try simp only[hl7_3]);(try simp only[hl7_4]);(with_reducible repeat (first|apply ra'|apply rn'|apply rw'));exact HO_7.out⟩,⟨by (try simp only[hl7_1]);(try simp only[hl7_2]);(try simp only[hl7_3]);(try simp only[hl7_4]);(with_reducible repeat (first|apply ra'|apply rn'|apply rw'));exact HO_10.out⟩,⟨xb'⟩⟩
                        ·
                         replace c37:=Bool.eq_false_iff.mpr c37;subst c37;have H1:(spec_cuHome.j5 kj29 a0 a1 a2 x7_4 x10_4 x11_2 (rd x10_2 x11_2) (Int.tmod (rd x10_2 x11_2) 2) (wrap64 (Int.tdiv (wrap64 (Int.tdiv (rd x10_2 x11_2) 2)) (wrap64 (a1+1)))) (Int.tmod (wrap64 (Int.tdiv (rd x10_2 x11_2) 2)) (wrap64 (a1+1))) x16_3 x17_4 x18_29 x19_29 true)=some r:=by rw[if_neg (show ¬ (false=true) by decide)] at H;exact H
                         clear H;have H:=H1;clear H1;have H':=am' H;clear H;go_wp2_with (first|(go_at_call 31;(with_reducible refine (spec_cuHeld.calls x16_3 x17_4 true _ A34.out).mono ?_);rintro e w' ⟨rfl,⟨nd,rfl⟩⟩;(try first|exact ⟨rfl,_,World.drewN_drewN _ _ _⟩|exact ⟨rfl,_,Eq.trans (World.drewN_drewN _ _ _) (congrArg (World.drewN _) (Nat.add_assoc _ _ _))⟩))|(go_at_call 33;(with_reducible refine (spec_l1In.calls x18_29 0 a0 false _ A36.out).mono ?_);rintro e w' ⟨rfl,⟨nd,rfl⟩⟩;(try first|exact ⟨rfl,_,World.drewN_drewN _ _ _⟩|exact ⟨rfl,_,Eq.trans (World.drewN_drewN _ _ _) (congrArg (World.drewN _) (Nat.add_assoc _ _ _))⟩)))
                         repeat (go_quiet (first|(go_at_call 31;(with_reducible refine (spec_cuHeld.calls x16_3 x17_4 true _ A34.out).mono ?_);rintro e w' ⟨rfl,⟨nd,rfl⟩⟩;(try first|exact ⟨rfl,_,World.drewN_drewN _ _ _⟩|exact ⟨rfl,_,Eq.trans (World.drewN_drewN _ _ _) (congrArg (World.drewN _) (Nat.add_assoc _ _ _))⟩))|(go_at_call 33;(with_reducible refine (spec_l1In.calls x18_29 0 a0 false _ A36.out).mono ?_);rintro e w' ⟨rfl,⟨nd,rfl⟩⟩;(try first|exact ⟨rfl,_,World.drewN_drewN _ _ _⟩|exact ⟨rfl,_,Eq.trans (World.drewN_drewN _ _ _) (congrArg (World.drewN _) (Nat.add_assoc _ _ _))⟩)));try go_wp2_with (first|(go_at_call 31;(with_reducible refine (spec_cuHeld.calls x16_3 x17_4 true _ A34.out).mono ?_);rintro e w' ⟨rfl,⟨nd,rfl⟩⟩;(try first|exact ⟨rfl,_,World.drewN_drewN _ _ _⟩|exact ⟨rfl,_,Eq.trans (World.drewN_drewN _ _ _) (congrArg (World.drewN _) (Nat.add_assoc _ _ _))⟩))|(go_at_call 33;(with_reducible refine (spec_l1In.calls x18_29 0 a0 false _ A36.out).mono ?_);rintro e w' ⟨rfl,⟨nd,rfl⟩⟩;(try first|exact ⟨rfl,_,World.drewN_drewN _ _ _⟩|exact ⟨rfl,_,Eq.trans (World.drewN_drewN _ _ _) (congrArg (World.drewN _) (Nat.add_assoc _ _ _))⟩))))
                         go_meet
                         case rel=>exact ⟨_,(true),xs',H',⟨by have:=HK1.out;have:=HK2.out;have:=HK3.out;have:=HK4.out;have:=HJ29.out;first|omega|exact Nat.le_refl _⟩,⟨by (try simp only[hl7_1]);(try simp only[hl7_2]);(try simp only[hl7_3]);(try simp only[hl7_4]);(with_reducible repeat (first|apply ra'|apply rn'|apply rw'));exact HO_7.out⟩,⟨by (try simp only[hl7_1]);(try simp only[hl7_2]);(try simp only[hl7_3]);(try simp only[hl7_4]);(with_reducible repeat (first|apply ra'|apply rn'|apply rw'));exact HO_10.out⟩,⟨xb'⟩⟩
                       ·
                        replace c35:=Bool.eq_false_iff.mpr c35;subst c35;have H1:(spec_cuHome.j5 kj29 a0 a1 a2 x7_4 x10_4 x11_2 (rd x10_2 x11_2) (Int.tmod (rd x10_2 x11_2) 2) (wrap64 (Int.tdiv (wrap64 (Int.tdiv (rd x10_2 x11_2) 2)) (wrap64 (a1+1)))) (Int.tmod (wrap64 (Int.tdiv (rd x10_2 x11_2) 2)) (wrap64 (a1+1))) x16_3 x17_4 x18_29 x19_29 true)=some r:=by rw[if_neg (show ¬ (false=true) by decide)] at H;exact H
                        clear H;have H:=H1;clear H1;have H':=am' H;clear H;go_wp2_with (first|(go_at_call 31;(with_reducible refine (spec_cuHeld.calls x16_3 x17_4 false _ A34.out).mono ?_);rintro e w' ⟨rfl,⟨nd,rfl⟩⟩;(try first|exact ⟨rfl,_,World.drewN_drewN _ _ _⟩|exact ⟨rfl,_,Eq.trans (World.drewN_drewN _ _ _) (congrArg (World.drewN _) (Nat.add_assoc _ _ _))⟩)))
                        repeat (go_quiet (first|(go_at_call 31;(with_reducible refine (spec_cuHeld.calls x16_3 x17_4 false _ A34.out).mono ?_);rintro e w' ⟨rfl,⟨nd,rfl⟩⟩;(try first|exact ⟨rfl,_,World.drewN_drewN _ _ _⟩|exact ⟨rfl,_,Eq.trans (World.drewN_drewN _ _ _) (congrArg (World.drewN _) (Nat.add_assoc _ _ _))⟩)));try go_wp2_with (first|(go_at_call 31;(with_reducible refine (spec_cuHeld.calls x16_3 x17_4 false _ A34.out).mono ?_);rintro e w' ⟨rfl,⟨nd,rfl⟩⟩;(try first|exact ⟨rfl,_,World.drewN_drewN _ _ _⟩|exact ⟨rfl,_,Eq.trans (World.drewN_drewN _ _ _) (congrArg (World.drewN _) (Nat.add_assoc _ _ _))⟩))))
                        go_meet
                        case rel=>exact ⟨_,(true),xs',H',⟨by have:=HK1.out;have:=HK2.out;have:=HK3.out;have:=HK4.out;have:=HJ29.out;first|omega|exact Nat.le_refl _⟩,⟨by (try simp only[hl7_1]);(try simp only[hl7_2]);(try simp only[hl7_3]);(try simp only[hl7_4]);(with_reducible repeat (first|apply ra'|apply rn'|apply rw'));exact HO_7.out⟩,⟨by (try simp only[hl7_1]);(try simp only[hl7_2]);(try simp only[hl7_3]);(try simp only[hl7_4]);(with_reducible repeat (first|apply ra'|apply rn'|apply rw'));exact HO_10.out⟩,⟨xb'⟩⟩
                     case rest =>
                      clear HC32;try clear c1
                      try clear p1
                      try clear q1
                      try clear hx1
                      try clear c2
                      try clear p2
                      try clear c3
                      try clear c5
                      try clear c5b0
                      try clear c5b1
                      try clear c6
                      try clear c6b0
                      try clear c6b1
                      try clear p6
                      try clear c10
                      try clear c10b0
                      try clear c11
                      try clear c11b0
                      try clear c12
                      try clear c12b0
                      try clear p12
                      try clear q12
                      try clear hx12
                      try clear p13
                      try clear q13
                      try clear hx13
                      try clear hf13
                      try clear c17
                      try clear c17b0
                      try clear c18
                      try clear c18b0
                      try clear p19
                      try clear q19
                      try clear hx19
                      try clear hf19
                      try clear c24
                      try clear c24b0
                      try clear c25
                      try clear c25b0
                      try clear c26
                      try clear c26b0
                      try clear c26b1
                      try clear c28
                      try clear c28b0
                      try clear c29
                      try clear c29b0
                      try clear c31
                      try clear c31b0
                      try clear c31b1
                      try clear c32
                      try clear c33
                      try clear c33b0
                      try clear c33b1
                      try clear c35
                      try clear c37
                      try clear c39
                      try clear hx124_0
                      try clear hx13_0
                      try clear hx19_0
                      try clear p1
                      try clear p12
                      try clear p124
                      try clear p13
                      try clear p19
                      try clear p2
                      try clear p6
                      try clear q1
                      try clear q12
                      try clear q124
                      try clear q13
                      try clear q19
                      obtain ⟨kq,x123_31,rfl,HA,HJ31,HO_7,HO_10,HB⟩:=hcut;cases kq with
                      | zero=>exact absurd HA.out (by simp[spec_cuHome.j5])
                      | succ kj31 =>
                       have H:=HA.out;clear HA;simp only[spec_cuHome.j5] at H;by_cases c41:x123_31=true
                       ·
                        subst c41;have H1:(spec_cuHome.l3 kj31 a0 a1 a2 x7_4 x10_4 x11_2 (rd x10_2 x11_2) (Int.tmod (rd x10_2 x11_2) 2) (wrap64 (Int.tdiv (wrap64 (Int.tdiv (rd x10_2 x11_2) 2)) (wrap64 (a1+1)))) (Int.tmod (wrap64 (Int.tdiv (rd x10_2 x11_2) 2)) (wrap64 (a1+1))) x16_3 (wrap64 (x17_4+1)))=some r:=by rw[if_pos rfl] at H;exact H
                        clear H;have H:=H1;clear H1;have H':=am' H;clear H;go_wp2
                        repeat (go_quiet (fail);try go_wp2)
                        (try simp only[← hl7_4])
                        go_roundg kj31
                        case measure=>have:=HK1.out;have:=HK2.out;have:=HK3.out;have:=HK4.out;have:=HJ29.out;have:=HJ31.out;omega
                        case rel=>exact ⟨(x7_4),(x10_4),(wrap64 (x17_4+1)),xs',H',⟨by have:=HK1.out;have:=HK2.out;have:=HK3.out;have:=HK4.out;have:=HJ29.out;have:=HJ31.out;omega⟩,⟨by (try simp only[hl7_1]);(try simp only[hl7_2]);(try simp only[hl7_3]);(try simp only[hl7_4]);(with_reducible repeat (first|apply ra'|apply rn'|apply rw'));exact HO_7.out⟩,⟨by (try simp only[hl7_1]);(try simp only[hl7_2]);(try simp only[hl7_3]);(try simp only[hl7_4]);(with_reducible repeat (first|apply ra'|apply rn'|apply rw'));exact HO_10.out⟩,⟨xb'⟩⟩
                       ·
                        replace c41:=Bool.eq_false_iff.mpr c41;subst c41;have H1:((spec_cuSpot.f a1 x18_29 x19_29 (wrap64 (1 - (Int.tmod (rd x10_2 x11_2) 2)))).bind fun t129=>(if 0≤t129 then (if t129 < (x7_4.length:Int) then (if (rd x7_4 t129) < 0 then (if 0≤(rd x10_2 x11_2) then (if (rd x10_2 x11_2) < (x7_4.length:Int) then (if x10_4.length < 17592186044416 then (spec_cuHome.l3 kj31 a0 a1 a2 (x7_4.set (t129:Int).toNat (wrap64 ((rd x7_4 (rd x10_2 x11_2))+1))) (x10_4 ++ [t129]) x11_2 (rd x10_2 x11_2) (Int.tmod (rd x10_2 x11_2) 2) (wrap64 (Int.tdiv (wrap64 (Int.tdiv (rd x10_2 x11_2) 2)) (wrap64 (a1+1)))) (Int.tmod (wrap64 (Int.tdiv (rd x10_2 x11_2) 2)) (wrap64 (a1+1))) x16_3 (wrap64 (x17_4+1))) else (none)) else (none)) else (none)) else (spec_cuHome.l3 kj31 a0 a1 a2 x7_4 x10_4 x11_2 (rd x10_2 x11_2) (Int.tmod (rd x10_2 x11_2) 2) (wrap64 (Int.tdiv (wrap64 (Int.tdiv (rd x10_2 x11_2) 2)) (wrap64 (a1+1)))) (Int.tmod (wrap64 (Int.tdiv (rd x10_2 x11_2) 2)) (wrap64 (a1+1))) x16_3 (wrap64 (x17_4+1)))) else (none)) else (none)))=some r:=by rw[if_neg (show ¬ (false=true) by decide)] at H;exact H
                        clear H;have H:=H1;clear H1;replace H:=Option.bind_eq_some_iff.mp H;obtain ⟨t129,A420,H⟩:=H;replace H:(if 0≤t129 then (if t129 < (x7_4.length:Int) then (if (rd x7_4 t129) < 0 then (if 0≤(rd x10_2 x11_2) then (if (rd x10_2 x11_2) < (x7_4.length:Int) then (if x10_4.length < 17592186044416 then (spec_cuHome.l3 kj31 a0 a1 a2 (x7_4.set (t129:Int).toNat (wrap64 ((rd x7_4 (rd x10_2 x11_2))+1))) (x10_4 ++ [t129]) x11_2 (rd x10_2 x11_2) (Int.tmod (rd x10_2 x11_2) 2) (wrap64 (Int.tdiv (wrap64 (Int.tdiv (rd x10_2 x11_2) 2)) (wrap64 (a1+1)))) (Int.tmod (wrap64 (Int.tdiv (rd x10_2 x11_2) 2)) (wrap64 (a1+1))) x16_3 (wrap64 (x17_4+1))) else (none)) else (none)) else (none)) else (spec_cuHome.l3 kj31 a0 a1 a2 x7_4 x10_4 x11_2 (rd x10_2 x11_2) (Int.tmod (rd x10_2 x11_2) 2) (wrap64 (Int.tdiv (wrap64 (Int.tdiv (rd x10_2 x11_2) 2)) (wrap64 (a1+1)))) (Int.tmod (wrap64 (Int.tdiv (rd x10_2 x11_2) 2)) (wrap64 (a1+1))) x16_3 (wrap64 (x17_4+1)))) else (none)) else (none))=some r:=H;have A42:=am' A420;clear A420;by_cases c43:0≤t129
                        ·
                         rw[if_pos c43] at H;have c43b0:decide (0≤t129)=true:=dt' c43;clear c43;by_cases c44:t129 < (x7_4.length:Int)
                         ·
                          rw[if_pos c44] at H;have c44b0:decide (t129 < (x7_4.length:Int))=true:=dt' c44;clear c44;by_cases c45:(rd x7_4 t129) < 0
                          ·
                           rw[if_pos c45] at H;have c45b0:decide ((rd x7_4 t129) < 0)=true:=dt' c45;clear c45;by_cases c46:0≤(rd x10_2 x11_2)
                           ·
                            rw[if_pos c46] at H;have c46b0:decide (0≤(rd x10_2 x11_2))=true:=dt' c46;clear c46;by_cases c47:(rd x10_2 x11_2) < (x7_4.length:Int)
                            ·
                             rw[if_pos c47] at H;have c47b0:decide ((rd x10_2 x11_2) < (x7_4.length:Int))=true:=dt' c47;clear c47;obtain ⟨y132,hy132⟩:∃ y_:List Int,y_=(x7_4.set (t129:Int).toNat (wrap64 ((rd x7_4 (rd x10_2 x11_2))+1))):=⟨_,rfl⟩
                             replace H:(if x10_4.length < 17592186044416 then (spec_cuHome.l3 kj31 a0 a1 a2 y132 (x10_4 ++ [t129]) x11_2 (rd x10_2 x11_2) (Int.tmod (rd x10_2 x11_2) 2) (wrap64 (Int.tdiv (wrap64 (Int.tdiv (rd x10_2 x11_2) 2)) (wrap64 (a1+1)))) (Int.tmod (wrap64 (Int.tdiv (rd x10_2 x11_2) 2)) (wrap64 (a1+1))) x16_3 (wrap64 (x17_4+1))) else (none))=some r:=by first|(rw[hy132];with_reducible exact H)|(have H2_:=(Option.bind_some _ _).symm.trans H;rw[hy132];with_reducible exact H2_)|(have H2_:=(Option.bind_some _ _).symm.trans H;with_reducible exact H2_)|with_reducible exact H|(rw[hy132];exact H)|exact H
                             have Ny132:=am' hy132;clear hy132;by_cases c49:x10_4.length < 17592186044416
                             ·
                              rw[if_pos c49] at H;have LMc49:=am' c49;clear c49;obtain ⟨y133,hy133⟩:∃ y_:List Int,y_=(x10_4 ++ [t129]):=⟨_,rfl⟩
                              replace H:(spec_cuHome.l3 kj31 a0 a1 a2 y132 y133 x11_2 (rd x10_2 x11_2) (Int.tmod (rd x10_2 x11_2) 2) (wrap64 (Int.tdiv (wrap64 (Int.tdiv (rd x10_2 x11_2) 2)) (wrap64 (a1+1)))) (Int.tmod (wrap64 (Int.tdiv (rd x10_2 x11_2) 2)) (wrap64 (a1+1))) x16_3 (wrap64 (x17_4+1)))=some r:=by first|(rw[hy133];with_reducible exact H)|(have H2_:=(Option.bind_some _ _).symm.trans H;rw[hy133];with_reducible exact H2_)|(have H2_:=(Option.bind_some _ _).symm.trans H;with_reducible exact H2_)|with_reducible exact H|(rw[hy133];exact H)|exact H
                              have Ny133:=am' hy133;clear hy133;have H':=am' H;clear H;go_wp2_with (first|(go_at_call 34;(with_reducible refine (spec_cuSpot.calls a1 x18_29 x19_29 (wrap64 (1 - (Int.tmod (rd x10_2 x11_2) 2))) t129 _ A42.out).mono ?_);rintro e w' ⟨rfl,⟨nd,rfl⟩⟩;(try first|exact ⟨rfl,_,World.drewN_drewN _ _ _⟩|exact ⟨rfl,_,Eq.trans (World.drewN_drewN _ _ _) (congrArg (World.drewN _) (Nat.add_assoc _ _ _))⟩);have p130:0≤(t129:Int):=od' xa';have q130:t129 < (x7_4.length:Int):=od' xa';obtain ⟨ad130,e130,hx130_0⟩:=Kd.at_int (Kd.R_reads' HO_7.out).2.2 t129 p130 q130;obtain rfl:(⟨go19,0,none⟩:Addr)=ad130:=(by injection e130);(first|simp only[add_plain] at hx130_0|simp only[add_at] at hx130_0|simp only[Addr.add,Nat.zero_add] at hx130_0|skip);replace p130:=eq_true p130;replace q130:=eq_true q130;have p131:0≤((rd x10_2 x11_2):Int):=od' xa';have q131:(rd x10_2 x11_2) < (x7_4.length:Int):=od' xa';obtain ⟨ad131,e131,hx131_0⟩:=Kd.at_int (Kd.R_reads' HO_7.out).2.2 (rd x10_2 x11_2) p131 q131;obtain rfl:(⟨go19,0,none⟩:Addr)=ad131:=(by injection e131);(first|simp only[add_plain] at hx131_0|simp only[add_at] at hx131_0|simp only[Addr.add,Nat.zero_add] at hx131_0|skip);replace p131:=eq_true p131;replace q131:=eq_true q131;have p48:0≤(t129:Int):=od' xa';have q48:(t129:Int) < ((x7_4.length:Int):Int):=od' xa';obtain ⟨hx48_0,hf48_0⟩:=Kd.R_celln 0 HO_7.out (t129:Int) p48 q48;replace p48:=eq_true p48;replace q48:=eq_true q48;obtain ⟨hy50_,hz50_⟩:=Kd.R_celln 0 HO_7.out (t129:Int) (od' xa') (od' xa');have HP50:=Kd.R_putg HO_7.out (t129:Int) (wrap64 ((rd x7_4 (rd x10_2 x11_2))+1)))|((with_reducible refine gate_store (t:=3) (p:=142) rfl ?_);(try (rw[drewN_self wc];generalize hq_:World.drewN wc _=wc;have n0_:=am' (Kd.R_at hq_ HO_7.out);have n1_:=am' (Kd.R_at hq_ HO_10.out);have n2_:=am' (below_at hq_ HB.out);clear hq_ HO_7 HO_10 HB;have HO_7:=n0_;have HO_10:=n1_;have HB:=n2_;clear n0_ n1_ n2_;(try (obtain ⟨hy50_,hz50_⟩:=Kd.R_celln 0 HO_7.out (t129:Int) (od' xa') (od' xa')));(try (have HP50:=Kd.R_putg HO_7.out (t129:Int) (wrap64 ((rd x7_4 (rd x10_2 x11_2))+1))))));refine store_event (t:=3) (p:=142) (v:=?vo_w51) (w1:=(wc.setCell ⟨go19,(t129:Int).toNat,none⟩ (.int .i64 (wrap64 ((rd x7_4 (rd x10_2 x11_2))+1))))) ?hg ?ho ?hn ?hr ?_;(case ho=>rfl);(case hg=>rfl);(case hn=>rfl);(case hr=>first|(go_simp;done)|(go_simp;rfl));intro w51 hw;have hg:wc.grownBy w51 (some go19):=(by rw[hw];exact HP50.2);have hp_:Kd.R (Kd.int .i64) 3 w51 w.heap.size (fun k_=>some k_≠(u10:Value).ownBlock) (.slice (some ⟨go19,0,none⟩) x7_4.length co9) y132:=(by rw[hw,Ny132.out];exact HP50.1);clear HP50;have n0_:=am' (hp_);have n1_:=am' (Kd.R_after (v:=(.slice (some ⟨go19,0,none⟩) x7_4.length co9)) (v1:=(.slice (some ⟨go19,0,none⟩) x7_4.length co9)) (ok:=(fun _=>True)) (by (with_reducible repeat (first|apply ra'|apply rn'|apply rw'));exact Kd.R_mono HO_10.out (fun _ hk=>⟨trivial,hk⟩)) hg (.inl rfl));have n2_:=am' ((by rw[hw];exact bs' (HB.out) GB19.out:Below w.heap.size w w51));clear HO_7;clear HO_10;clear HB;have HO_7:=n0_;have HO_10:=n1_;have HB:=n2_;clear n0_ n1_ n2_;clear hg hw hp_)|((with_reducible refine gate_builtin (b := .append) (xs:=#[.tmp 143, .tmp 145]) rfl ?_);at_builtin;refine Kd.R_append (Kd.int .i64) (w0:=w) w.heap.size rfl (.tmp 143) (.tmp 145) 28 3 (.int .i64 0) 8 rfl Try.underlying28 info3 rfl (by decide) (by omega) u10 x10_4 t129 [.int .i64 t129] (fun k_=>some k_≠(.slice (some ⟨go19,0,none⟩) x7_4.length co9:Value).ownBlock) (fun _=>False) rfl rfl ?aP (fun _ hk=>hk.elim) ?aF ?aO ?aB ?aS ?aL ?_;(case aP=>exact rfl);(case aB=>exact xb');(case aF=>exact (fun k_ hk=>Kd.fresh' (Kd.R_lt (kr' HO_7.out)) k_ hk));(case aO=>exact (by (with_reducible repeat (first|apply ra'|apply rn'|apply rw'));exact Kd.R_mono HO_10.out (fun _ hk=>hk.2)));(case aS=>exact (bz' xb'));(case aL=>have:=LMc49.out;omega);intro v134 w52 ho hb hg hat;rw[← Ny133.out] at ho;have n0_:=am' (Kd.R_after (ok:=(fun _=>True)) (by (with_reducible repeat (first|apply ra'|apply rn'|apply rw'));exact Kd.R_mono HO_7.out (fun _ hk=>⟨trivial,hk⟩)) hg hat);have n1_:=am' (hb);have n2_:=am' (ho);clear HO_7;clear HB;clear HO_10;have HO_7:=n0_;have HB:=n1_;have HO135:=n2_;clear n0_ n1_ n2_;clear ho hb hg hat))
                              repeat (go_quiet (first|(go_at_call 34;(with_reducible refine (spec_cuSpot.calls a1 x18_29 x19_29 (wrap64 (1 - (Int.tmod (rd x10_2 x11_2) 2))) t129 _ A42.out).mono ?_);rintro e w' ⟨rfl,⟨nd,rfl⟩⟩;(try first|exact ⟨rfl,_,World.drewN_drewN _ _ _⟩|exact ⟨rfl,_,Eq.trans (World.drewN_drewN _ _ _) (congrArg (World.drewN _) (Nat.add_assoc _ _ _))⟩);have p130:0≤(t129:Int):=od' xa';have q130:t129 < (x7_4.length:Int):=od' xa';obtain ⟨ad130,e130,hx130_0⟩:=Kd.at_int (Kd.R_reads' HO_7.out).2.2 t129 p130 q130;obtain rfl:(⟨go19,0,none⟩:Addr)=ad130:=(by injection e130);(first|simp only[add_plain] at hx130_0|simp only[add_at] at hx130_0|simp only[Addr.add,Nat.zero_add] at hx130_0|skip);replace p130:=eq_true p130;replace q130:=eq_true q130;have p131:0≤((rd x10_2 x11_2):Int):=od' xa';have q131:(rd x10_2 x11_2) < (x7_4.length:Int):=od' xa';obtain ⟨ad131,e131,hx131_0⟩:=Kd.at_int (Kd.R_reads' HO_7.out).2.2 (rd x10_2 x11_2) p131 q131;obtain rfl:(⟨go19,0,none⟩:Addr)=ad131:=(by injection e131);(first|simp only[add_plain] at hx131_0|simp only[add_at] at hx131_0|simp only[Addr.add,Nat.zero_add] at hx131_0|skip);replace p131:=eq_true p131;replace q131:=eq_true q131;have p48:0≤(t129:Int):=od' xa';have q48:(t129:Int) < ((x7_4.length:Int):Int):=od' xa';obtain ⟨hx48_0,hf48_0⟩:=Kd.R_celln 0 HO_7.out (t129:Int) p48 q48;replace p48:=eq_true p48;replace q48:=eq_true q48;obtain ⟨hy50_,hz50_⟩:=Kd.R_celln 0 HO_7.out (t129:Int) (od' xa') (od' xa');have HP50:=Kd.R_putg HO_7.out (t129:Int) (wrap64 ((rd x7_4 (rd x10_2 x11_2))+1)))|((with_reducible refine gate_store (t:=3) (p:=142) rfl ?_);(try (rw[drewN_self wc];generalize hq_:World.drewN wc _=wc;have n0_:=am' (Kd.R_at hq_ HO_7.out);have n1_:=am' (Kd.R_at hq_ HO_10.out);have n2_:=am' (below_at hq_ HB.out);clear hq_ HO_7 HO_10 HB;have HO_7:=n0_;have HO_10:=n1_;have HB:=n2_;clear n0_ n1_ n2_;(try (obtain ⟨hy50_,hz50_⟩:=Kd.R_celln 0 HO_7.out (t129:Int) (od' xa') (od' xa')));(try (have HP50:=Kd.R_putg HO_7.out (t129:Int) (wrap64 ((rd x7_4 (rd x10_2 x11_2))+1))))));refine store_event (t:=3) (p:=142) (v:=?vo_w51) (w1:=(wc.setCell ⟨go19,(t129:Int).toNat,none⟩ (.int .i64 (wrap64 ((rd x7_4 (rd x10_2 x11_2))+1))))) ?hg ?ho ?hn ?hr ?_;(case ho=>rfl);(case hg=>rfl);(case hn=>rfl);(case hr=>first|(go_simp;done)|(go_simp;rfl));intro w51 hw;have hg:wc.grownBy w51 (some go19):=(by rw[hw];exact HP50.2);have hp_:Kd.R (Kd.int .i64) 3 w51 w.heap.size (fun k_=>some k_≠(u10:Value).ownBlock) (.slice (some ⟨go19,0,none⟩) x7_4.length co9) y132:=(by rw[hw,Ny132.out];exact HP50.1);clear HP50;have n0_:=am' (hp_);have n1_:=am' (Kd.R_after (v:=(.slice (some ⟨go19,0,none⟩) x7_4.length co9)) (v1:=(.slice (some ⟨go19,0,none⟩) x7_4.length co9)) (ok:=(fun _=>True)) (by (with_reducible repeat (first|apply ra'|apply rn'|apply rw'));exact Kd.R_mono HO_10.out (fun _ hk=>⟨trivial,hk⟩)) hg (.inl rfl));have n2_:=am' ((by rw[hw];exact bs' (HB.out) GB19.out:Below w.heap.size w w51));clear HO_7;clear HO_10;clear HB;have HO_7:=n0_;have HO_10:=n1_;have HB:=n2_;clear n0_ n1_ n2_;clear hg hw hp_)|((with_reducible refine gate_builtin (b := .append) (xs:=#[.tmp 143, .tmp 145]) rfl ?_);at_builtin;refine Kd.R_append (Kd.int .i64) (w0:=w) w.heap.size rfl (.tmp 143) (.tmp 145) 28 3 (.int .i64 0) 8 rfl Try.underlying28 info3 rfl (by decide) (by omega) u10 x10_4 t129 [.int .i64 t129] (fun k_=>some k_≠(.slice (some ⟨go19,0,none⟩) x7_4.length co9:Value).ownBlock) (fun _=>False) rfl rfl ?aP (fun _ hk=>hk.elim) ?aF ?aO ?aB ?aS ?aL ?_;(case aP=>exact rfl);(case aB=>exact xb');(case aF=>exact (fun k_ hk=>Kd.fresh' (Kd.R_lt (kr' HO_7.out)) k_ hk));(case aO=>exact (by (with_reducible repeat (first|apply ra'|apply rn'|apply rw'));exact Kd.R_mono HO_10.out (fun _ hk=>hk.2)));(case aS=>exact (bz' xb'));(case aL=>have:=LMc49.out;omega);intro v134 w52 ho hb hg hat;rw[← Ny133.out] at ho;have n0_:=am' (Kd.R_after (ok:=(fun _=>True)) (by (with_reducible repeat (first|apply ra'|apply rn'|apply rw'));exact Kd.R_mono HO_7.out (fun _ hk=>⟨trivial,hk⟩)) hg hat);have n1_:=am' (hb);have n2_:=am' (ho);clear HO_7;clear HB;clear HO_10;have HO_7:=n0_;have HB:=n1_;have HO135:=n2_;clear n0_ n1_ n2_;clear ho hb hg hat));try go_wp2_with (first|(go_at_call 34;(with_reducible refine (spec_cuSpot.calls a1 x18_29 x19_29 (wrap64 (1 - (Int.tmod (rd x10_2 x11_2) 2))) t129 _ A42.out).mono ?_);rintro e w' ⟨rfl,⟨nd,rfl⟩⟩;(try first|exact ⟨rfl,_,World.drewN_drewN _ _ _⟩|exact ⟨rfl,_,Eq.trans (World.drewN_drewN _ _ _) (congrArg (World.drewN _) (Nat.add_assoc _ _ _))⟩);have p130:0≤(t129:Int):=od' xa';have q130:t129 < (x7_4.length:Int):=od' xa';obtain ⟨ad130,e130,hx130_0⟩:=Kd.at_int (Kd.R_reads' HO_7.out).2.2 t129 p130 q130;obtain rfl:(⟨go19,0,none⟩:Addr)=ad130:=(by injection e130);(first|simp only[add_plain] at hx130_0|simp only[add_at] at hx130_0|simp only[Addr.add,Nat.zero_add] at hx130_0|skip);replace p130:=eq_true p130;replace q130:=eq_true q130;have p131:0≤((rd x10_2 x11_2):Int):=od' xa';have q131:(rd x10_2 x11_2) < (x7_4.length:Int):=od' xa';obtain ⟨ad131,e131,hx131_0⟩:=Kd.at_int (Kd.R_reads' HO_7.out).2.2 (rd x10_2 x11_2) p131 q131;obtain rfl:(⟨go19,0,none⟩:Addr)=ad131:=(by injection e131);(first|simp only[add_plain] at hx131_0|simp only[add_at] at hx131_0|simp only[Addr.add,Nat.zero_add] at hx131_0|skip);replace p131:=eq_true p131;replace q131:=eq_true q131;have p48:0≤(t129:Int):=od' xa';have q48:(t129:Int) < ((x7_4.length:Int):Int):=od' xa';obtain ⟨hx48_0,hf48_0⟩:=Kd.R_celln 0 HO_7.out (t129:Int) p48 q48;replace p48:=eq_true p48;replace q48:=eq_true q48;obtain ⟨hy50_,hz50_⟩:=Kd.R_celln 0 HO_7.out (t129:Int) (od' xa') (od' xa');have HP50:=Kd.R_putg HO_7.out (t129:Int) (wrap64 ((rd x7_4 (rd x10_2 x11_2))+1)))|((with_reducible refine gate_store (t:=3) (p:=142) rfl ?_);(try (rw[drewN_self wc];generalize hq_:World.drewN wc _=wc;have n0_:=am' (Kd.R_at hq_ HO_7.out);have n1_:=am' (Kd.R_at hq_ HO_10.out);have n2_:=am' (below_at hq_ HB.out);clear hq_ HO_7 HO_10 HB;have HO_7:=n0_;have HO_10:=n1_;have HB:=n2_;clear n0_ n1_ n2_;(try (obtain ⟨hy50_,hz50_⟩:=Kd.R_celln 0 HO_7.out (t129:Int) (od' xa') (od' xa')));(try (have HP50:=Kd.R_putg HO_7.out (t129:Int) (wrap64 ((rd x7_4 (rd x10_2 x11_2))+1))))));refine store_event (t:=3) (p:=142) (v:=?vo_w51) (w1:=(wc.setCell ⟨go19,(t129:Int).toNat,none⟩ (.int .i64 (wrap64 ((rd x7_4 (rd x10_2 x11_2))+1))))) ?hg ?ho ?hn ?hr ?_;(case ho=>rfl);(case hg=>rfl);(case hn=>rfl);(case hr=>first|(go_simp;done)|(go_simp;rfl));intro w51 hw;have hg:wc.grownBy w51 (some go19):=(by rw[hw];exact HP50.2);have hp_:Kd.R (Kd.int .i64) 3 w51 w.heap.size (fun k_=>some k_≠(u10:Value).ownBlock) (.slice (some ⟨go19,0,none⟩) x7_4.length co9) y132:=(by rw[hw,Ny132.out];exact HP50.1);clear HP50;have n0_:=am' (hp_);have n1_:=am' (Kd.R_after (v:=(.slice (some ⟨go19,0,none⟩) x7_4.length co9)) (v1:=(.slice (some ⟨go19,0,none⟩) x7_4.length co9)) (ok:=(fun _=>True)) (by (with_reducible repeat (first|apply ra'|apply rn'|apply rw'));exact Kd.R_mono HO_10.out (fun _ hk=>⟨trivial,hk⟩)) hg (.inl rfl));have n2_:=am' ((by rw[hw];exact bs' (HB.out) GB19.out:Below w.heap.size w w51));clear HO_7;clear HO_10;clear HB;have HO_7:=n0_;have HO_10:=n1_;have HB:=n2_;clear n0_ n1_ n2_;clear hg hw hp_)|((with_reducible refine gate_builtin (b := .append) (xs:=#[.tmp 143, .tmp 145]) rfl ?_);at_builtin;refine Kd.R_append (Kd.int .i64) (w0:=w) w.heap.size rfl (.tmp 143) (.tmp 145) 28 3 (.int .i64 0) 8 rfl Try.underlying28 info3 rfl (by decide) (by omega) u10 x10_4 t129 [.int .i64 t129] (fun k_=>some k_≠(.slice (some ⟨go19,0,none⟩) x7_4.length co9:Value).ownBlock) (fun _=>False) rfl rfl ?aP (fun _ hk=>hk.elim) ?aF ?aO ?aB ?aS ?aL ?_;(case aP=>exact rfl);(case aB=>exact xb');(case aF=>exact (fun k_ hk=>Kd.fresh' (Kd.R_lt (kr' HO_7.out)) k_ hk));(case aO=>exact (by (with_reducible repeat (first|apply ra'|apply rn'|apply rw'));exact Kd.R_mono HO_10.out (fun _ hk=>hk.2)));(case aS=>exact (bz' xb'));(case aL=>have:=LMc49.out;omega);intro v134 w52 ho hb hg hat;rw[← Ny133.out] at ho;have n0_:=am' (Kd.R_after (ok:=(fun _=>True)) (by (with_reducible repeat (first|apply ra'|apply rn'|apply rw'));exact Kd.R_mono HO_7.out (fun _ hk=>⟨trivial,hk⟩)) hg hat);have n1_:=am' (hb);have n2_:=am' (ho);clear HO_7;clear HB;clear HO_10;have HO_7:=n0_;have HB:=n1_;have HO135:=n2_;clear n0_ n1_ n2_;clear ho hb hg hat)))
                              (try simp only[← hl7_4])
                              go_roundg kj31
                              case measure=>have:=HK1.out;have:=HK2.out;have:=HK3.out;have:=HK4.out;have:=HJ29.out;have:=HJ31.out;omega
                              case rel=>exact ⟨(y132),(y133),(wrap64 (x17_4+1)),xs',H',⟨by have:=HK1.out;have:=HK2.out;have:=HK3.out;have:=HK4.out;have:=HJ29.out;have:=HJ31.out;omega⟩,⟨by (try simp only[hl7_1]);(try simp only[hl7_2]);(try simp only[hl7_3]);(try simp only[hl7_4]);(with_reducible repeat (first|apply ra'|apply rn'|apply rw'));exact Kd.R_mono HO_7.out (fun _ hk=>hk.2)⟩,⟨by (try simp only[hl7_1]);(try simp only[hl7_2]);(try simp only[hl7_3]);(try simp only[hl7_4]);(with_reducible repeat (first|apply ra'|apply rn'|apply rw'));exact HO135.out⟩,⟨xb'⟩⟩
                             ·
                              rw[if_neg c49] at H;exact absurd H (by simp)
                            ·
                             rw[if_neg c47] at H;exact absurd H (by simp)
                           ·
                            rw[if_neg c46] at H;exact absurd H (by simp)
                          ·
                           rw[if_neg c45] at H;have c45b0:decide ((rd x7_4 t129) < 0)=false:=df' c45;clear c45;have H':=am' H;clear H;go_wp2_with (first|(go_at_call 34;(with_reducible refine (spec_cuSpot.calls a1 x18_29 x19_29 (wrap64 (1 - (Int.tmod (rd x10_2 x11_2) 2))) t129 _ A42.out).mono ?_);rintro e w' ⟨rfl,⟨nd,rfl⟩⟩;(try first|exact ⟨rfl,_,World.drewN_drewN _ _ _⟩|exact ⟨rfl,_,Eq.trans (World.drewN_drewN _ _ _) (congrArg (World.drewN _) (Nat.add_assoc _ _ _))⟩);have p130:0≤(t129:Int):=od' xa';have q130:t129 < (x7_4.length:Int):=od' xa';obtain ⟨ad130,e130,hx130_0⟩:=Kd.at_int (Kd.R_reads' HO_7.out).2.2 t129 p130 q130;obtain rfl:(⟨go19,0,none⟩:Addr)=ad130:=(by injection e130);(first|simp only[add_plain] at hx130_0|simp only[add_at] at hx130_0|simp only[Addr.add,Nat.zero_add] at hx130_0|skip);replace p130:=eq_true p130;replace q130:=eq_true q130))
                           repeat (go_quiet (first|(go_at_call 34;(with_reducible refine (spec_cuSpot.calls a1 x18_29 x19_29 (wrap64 (1 - (Int.tmod (rd x10_2 x11_2) 2))) t129 _ A42.out).mono ?_);rintro e w' ⟨rfl,⟨nd,rfl⟩⟩;(try first|exact ⟨rfl,_,World.drewN_drewN _ _ _⟩|exact ⟨rfl,_,Eq.trans (World.drewN_drewN _ _ _) (congrArg (World.drewN _) (Nat.add_assoc _ _ _))⟩);have p130:0≤(t129:Int):=od' xa';have q130:t129 < (x7_4.length:Int):=od' xa';obtain ⟨ad130,e130,hx130_0⟩:=Kd.at_int (Kd.R_reads' HO_7.out).2.2 t129 p130 q130;obtain rfl:(⟨go19,0,none⟩:Addr)=ad130:=(by injection e130);(first|simp only[add_plain] at hx130_0|simp only[add_at] at hx130_0|simp only[Addr.add,Nat.zero_add] at hx130_0|skip);replace p130:=eq_true p130;replace q130:=eq_true q130));try go_wp2_with (first|(go_at_call 34;(with_reducible refine (spec_cuSpot.calls a1 x18_29 x19_29 (wrap64 (1 - (Int.tmod (rd x10_2 x11_2) 2))) t129 _ A42.out).mono ?_);rintro e w' ⟨rfl,⟨nd,rfl⟩⟩;(try first|exact ⟨rfl,_,World.drewN_drewN _ _ _⟩|exact ⟨rfl,_,Eq.trans (World.drewN_drewN _ _ _) (congrArg (World.drewN _) (Nat.add_assoc _ _ _))⟩);have p130:0≤(t129:Int):=od' xa';have q130:t129 < (x7_4.length:Int):=od' xa';obtain ⟨ad130,e130,hx130_0⟩:=Kd.at_int (Kd.R_reads' HO_7.out).2.2 t129 p130 q130;obtain rfl:(⟨go19,0,none⟩:Addr)=ad130:=(by injection e130);(first|simp only[add_plain] at hx130_0|simp only[add_at] at hx130_0|simp only[Addr.add,Nat.zero_add] at hx130_0|skip);replace p130:=eq_true p130;replace q130:=eq_true q130)))
                           (try simp only[← hl7_4])
                           go_roundg kj31
                           case measure=>have:=HK1.out;have:=HK2.out;have:=HK3.out;have:=HK4.out;have:=HJ29.out;have:=HJ31.out;omega
                           case rel=>exact ⟨(x7_4),(x10_4),(wrap64 (x17_4+1)),xs',H',⟨by have:=HK1.out;have:=HK2.out;have:=HK3.out;have:=HK4.out;have:=HJ29.out;have:=HJ31.out;omega⟩,⟨by (try simp only[hl7_1]);(try simp only[hl7_2]);(try simp only[hl7_3]);(try simp only[hl7_4]);(with_reducible repeat (first|apply ra'|apply rn'|apply rw'));exact HO_7.out⟩,⟨by (try simp only[hl7_1]);(try simp only[hl7_2]);(try simp only[hl7_3]);(try simp only[hl7_4]);(with_reducible repeat (first|apply ra'|apply rn'|apply rw'));exact HO_10.out⟩,⟨xb'⟩⟩
                         ·
                          rw[if_neg c44] at H;exact absurd H (by simp)
                        ·
                         rw[if_neg c43] at H;exact absurd H (by simp)
                  ·
                   rw[if_neg c29] at H;have c29b0:decide ((wrap64 (x16_3+x17_4))≤a2)=false:=df' c29;clear c29;have H':=am' H;clear H;go_wp2
                   repeat (go_quiet (fail);try go_wp2)
                   (try simp only[← hl7_3,← hl7_4])
                   go_roundg k4
                   case measure=>have:=HK1.out;have:=HK2.out;have:=HK3.out;have:=HK4.out;omega
                   case rel=>exact ⟨(x7_4),(x10_4),(wrap64 (x16_3+1)),xs',H',⟨by have:=HK1.out;have:=HK2.out;have:=HK3.out;have:=HK4.out;omega⟩,⟨by (try simp only[hl7_1]);(try simp only[hl7_2]);(try simp only[hl7_3]);(try simp only[hl7_4]);(with_reducible repeat (first|apply ra'|apply rn'|apply rw'));exact HO_7.out⟩,⟨by (try simp only[hl7_1]);(try simp only[hl7_2]);(try simp only[hl7_3]);(try simp only[hl7_4]);(with_reducible repeat (first|apply ra'|apply rn'|apply rw'));exact HO_10.out⟩,⟨xb'⟩⟩
               ·
                rw[if_neg c28] at H;have c28b0:decide (x16_3≤a2)=false:=df' c28;clear c28;have H':=am' H;clear H;go_wp2
                repeat (go_quiet (fail);try go_wp2)
                (try simp only[← hl7_2,← hl7_3])
                go_roundg k3
                case measure=>have:=HK1.out;have:=HK2.out;have:=HK3.out;omega
                case rel=>exact ⟨(x7_3),(x10_3),(wrap64 (x11_2+1)),xs',H',⟨by have:=HK1.out;have:=HK2.out;have:=HK3.out;omega⟩,⟨by (try simp only[hl7_1]);(try simp only[hl7_2]);(try simp only[hl7_3]);(with_reducible repeat (first|apply ra'|apply rn'|apply rw'));exact HO_7.out⟩,⟨by (try simp only[hl7_1]);(try simp only[hl7_2]);(try simp only[hl7_3]);(with_reducible repeat (first|apply ra'|apply rn'|apply rw'));exact HO_10.out⟩,⟨xb'⟩⟩
           ·
            rw[if_neg c25] at H;exact absurd H (by simp)
          ·
           rw[if_neg c24] at H;have c24b0:decide (x11_2 < (x10_2.length:Int))=false:=df' c24;clear c24;obtain rfl:=os' H;obtain ⟨Ao53,co53,eo53⟩:=Kd.R_slice HO_10.out;subst eo53;go_wp2
           repeat (go_quiet (fail);try go_wp2)
           go_ret
           exact ⟨_,by first|rfl|(simp[errW_none,errW_some] <;> rfl)|(simp only[← hji4];first|rfl|(simp[errW_none,errW_some] <;> rfl))|(simp[*,errW_none,errW_some] <;> rfl),by (with_reducible repeat (first|apply ra'|apply rn'|apply rw'));exact Kd.R_mono HO_7.out (fun _ hk=>trivial),xb'⟩
       ·
        rw[if_neg c18] at H;exact absurd H (by simp)
      ·
       rw[if_neg c17] at H;exact absurd H (by simp)
  ·
   rw[if_neg c6] at H;exact absurd H (by simp)
 ·
  rw[if_neg c5] at H;exact absurd H (by simp)
end Go.Proofs.Ytabhhkiipilghaa.C1
