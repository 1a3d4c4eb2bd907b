import Derived.Test.YtabhhkiipilghaaC1zx0
import Derived.Test.YtabhhkiipilghaaC1zx3
import Derived.Test.YtabhhkiipilghaaC1zx4
import Derived.Test.YtabhhkiipilghaaC1zx5
import Derived.Test.YtabhhkiipilghaaC1zAl
namespace Go.Proofs.Ytabhhkiipilghaa.C1
open Go.RowKit Go.Proofs.YtabhhkiipilghaaW.PrintWords Go.Proofs.YtabhhkiipilghaaW.PrintLast Go.Proofs.YtabhhkiipilghaaW.PrintMore Go.Proofs.Ytabhhkiipilghaa.H
attribute [local go_sem] max2_int min2_int max_two min_two max_three min_three max_four min_four
set_option linter.unusedVariables false
set_option linter.unusedSimpArgs false
mutual
def spec_FirstForGuards.j0:Nat→Int→Int→Int→Bool→Option ((List (List Int)) × Bool)
 | 0,_,_,_,_=>none
 | k+1,x0,x1,x2,x31=>if x31=true then (some (([]:List (List Int)),false)) else ((spec_cuHome.f k x0 x1 x2).bind fun t138=>(if 0 < (t138.length:Int) then (if (rd t138 0) < 0 then (some (([]:List (List Int)),false)) else (spec_FirstForGuards.l0 k x0 x1 x2 t138 ([]:List (List Int)) 0 0 0 (rd t138 0))) else (none)))
def spec_FirstForGuards.l0:Nat→Int→Int→Int→List Int→List (List Int)→Int→Int→Int→Int→Option ((List (List Int)) × Bool)
 | 0,_,_,_,_,_,_,_,_,_=>none
 | k+1,x0,x1,x2,x8,x9,x10,x11,x12,x13=>if x13 > 0 then (spec_FirstForGuards.l1 k x0 x1 x2 x8 x9 x10 x11 x12 x13 0 0 false 0) else (some (x9,true))
def spec_FirstForGuards.l1:Nat→Int→Int→Int→List Int→List (List Int)→Int→Int→Int→Int→Int→Int→Bool→Int→Option ((List (List Int)) × Bool)
 | 0,_,_,_,_,_,_,_,_,_,_,_,_,_=>none
 | k+1,x0,x1,x2,x8,x9,x10,x11,x12,x13,x14,x15,x16,x17=>if x17≤x2 then (spec_FirstForGuards.j3 k x0 x1 x2 x8 x9 x10 x11 x12 x13 x14 x15 x16 x17 (!x16)) else (spec_FirstForGuards.j3 k x0 x1 x2 x8 x9 x10 x11 x12 x13 x14 x15 x16 x17 false)
def spec_FirstForGuards.j3:Nat→Int→Int→Int→List Int→List (List Int)→Int→Int→Int→Int→Int→Int→Bool→Int→Bool→Option ((List (List Int)) × Bool)
 | 0,_,_,_,_,_,_,_,_,_,_,_,_,_,_=>none
 | k+1,x0,x1,x2,x8,x9,x10,x11,x12,x13,x14,x15,x16,x17,x53=>if x53=true then (spec_FirstForGuards.l2 k x0 x1 x2 x8 x9 x10 x11 x12 x13 x14 x15 x16 x17 0) else (spec_FirstForGuards.l0 k x0 x1 x2 x8 x9 x14 x15 (wrap64 (1 - x12)) (wrap64 (x13 - 1)))
def spec_FirstForGuards.l2:Nat→Int→Int→Int→List Int→List (List Int)→Int→Int→Int→Int→Int→Int→Bool→Int→Int→Option ((List (List Int)) × Bool)
 | 0,_,_,_,_,_,_,_,_,_,_,_,_,_,_=>none
 | k+1,x0,x1,x2,x8,x9,x10,x11,x12,x13,x14,x15,x16,x17,x18=>if (wrap64 (x17+x18))≤x2 then (spec_FirstForGuards.j5 k x0 x1 x2 x8 x9 x10 x11 x12 x13 x14 x15 x16 x17 x18 (!x16)) else (spec_FirstForGuards.j5 k x0 x1 x2 x8 x9 x10 x11 x12 x13 x14 x15 x16 x17 x18 false)
def spec_FirstForGuards.j5:Nat→Int→Int→Int→List Int→List (List Int)→Int→Int→Int→Int→Int→Int→Bool→Int→Int→Bool→Option ((List (List Int)) × Bool)
 | 0,_,_,_,_,_,_,_,_,_,_,_,_,_,_,_=>none
 | k+1,x0,x1,x2,x8,x9,x10,x11,x12,x13,x14,x15,x16,x17,x18,x64=>if x64=true then (if x12=1 then (spec_FirstForGuards.j6 k x0 x1 x2 x8 x9 x10 x11 x12 x13 x14 x15 x16 x17 x18 (wrap64 (x10 - x17)) (wrap64 (x11 - x18))) else (spec_FirstForGuards.j6 k x0 x1 x2 x8 x9 x10 x11 x12 x13 x14 x15 x16 x17 x18 (wrap64 (x10+x17)) (wrap64 (x11+x18)))) else (spec_FirstForGuards.l1 k x0 x1 x2 x8 x9 x10 x11 x12 x13 x14 x15 x16 (wrap64 (x17+1)))
def spec_FirstForGuards.j6:Nat→Int→Int→Int→List Int→List (List Int)→Int→Int→Int→Int→Int→Int→Bool→Int→Int→Int→Int→Option ((List (List Int)) × Bool)
 | 0,_,_,_,_,_,_,_,_,_,_,_,_,_,_,_,_=>none
 | k+1,x0,x1,x2,x8,x9,x10,x11,x12,x13,x14,x15,x16,x17,x18,x19,x20=>if (wrap64 (x17+x18))=0 then (spec_FirstForGuards.j7 k x0 x1 x2 x8 x9 x10 x11 x12 x13 x14 x15 x16 x17 x18 x19 x20 true) else ((spec_cuHeld.f x17 x18).bind fun t143=>(if t143=true then ((spec_l1In.f x19 0 x0).bind fun t144=>(if t144=true then ((spec_l1In.f x20 0 x1).bind fun t145=>(spec_FirstForGuards.j7 k x0 x1 x2 x8 x9 x10 x11 x12 x13 x14 x15 x16 x17 x18 x19 x20 (!t145))) else (spec_FirstForGuards.j7 k x0 x1 x2 x8 x9 x10 x11 x12 x13 x14 x15 x16 x17 x18 x19 x20 true))) else (spec_FirstForGuards.j7 k x0 x1 x2 x8 x9 x10 x11 x12 x13 x14 x15 x16 x17 x18 x19 x20 true)))
def spec_FirstForGuards.j7:Nat→Int→Int→Int→List Int→List (List Int)→Int→Int→Int→Int→Int→Int→Bool→Int→Int→Int→Int→Bool→Option ((List (List Int)) × Bool)
 | 0,_,_,_,_,_,_,_,_,_,_,_,_,_,_,_,_,_=>none
 | k+1,x0,x1,x2,x8,x9,x10,x11,x12,x13,x14,x15,x16,x17,x18,x19,x20,x102=>if x102=true then (spec_FirstForGuards.l2 k x0 x1 x2 x8 x9 x10 x11 x12 x13 x14 x15 x16 x17 (wrap64 (x18+1))) else ((spec_cuSpot.f x1 x19 x20 (wrap64 (1 - x12))).bind fun t146=>(if 0≤t146 then (if t146 < (x8.length:Int) then (if (rd x8 t146)=(wrap64 (x13 - 1)) then (if x9.length < 5864062014805 then (spec_FirstForGuards.l2 k x0 x1 x2 x8 (x9 ++ [(([x17,x18]:List Int))]) x10 x11 x12 x13 x19 x20 true x17 (wrap64 (x18+1))) else (none)) else (spec_FirstForGuards.l2 k x0 x1 x2 x8 x9 x10 x11 x12 x13 x14 x15 x16 x17 (wrap64 (x18+1)))) else (none)) else (none)))
end
def spec_FirstForGuards.f (k:Nat) (a0:Int) (a1:Int) (a2:Int):Option ((List (List Int)) × Bool):=(spec_cuSides.f a0 a1 a2).bind fun t136=>(if t136=true then ((spec_cuHeld.f a0 a1).bind fun t137=>(spec_FirstForGuards.j0 k a0 a1 a2 (!t137))) else (spec_FirstForGuards.j0 k a0 a1 a2 true))
theorem spec_FirstForGuards.mono_l:∀ k,(∀ y0 y1 y2 y3,LeO (spec_FirstForGuards.j0 k y0 y1 y2 y3) (spec_FirstForGuards.j0 (k+1) y0 y1 y2 y3))∧(∀ y0 y1 y2 y3 y4 y5 y6 y7 y8,LeO (spec_FirstForGuards.l0 k y0 y1 y2 y3 y4 y5 y6 y7 y8) (spec_FirstForGuards.l0 (k+1) y0 y1 y2 y3 y4 y5 y6 y7 y8))∧(∀ y0 y1 y2 y3 y4 y5 y6 y7 y8 y9 y10 y11 y12,LeO (spec_FirstForGuards.l1 k y0 y1 y2 y3 y4 y5 y6 y7 y8 y9 y10 y11 y12) (spec_FirstForGuards.l1 (k+1) y0 y1 y2 y3 y4 y5 y6 y7 y8 y9 y10 y11 y12))∧(∀ y0 y1 y2 y3 y4 y5 y6 y7 y8 y9 y10 y11 y12 y13,LeO (spec_FirstForGuards.j3 k y0 y1 y2 y3 y4 y5 y6 y7 y8 y9 y10 y11 y12 y13) (spec_FirstForGuards.j3 (k+1) y0 y1 y2 y3 y4 y5 y6 y7 y8 y9 y10 y11 y12 y13))∧(∀ y0 y1 y2 y3 y4 y5 y6 y7 y8 y9 y10 y11 y12 y13,LeO (spec_FirstForGuards.l2 k y0 y1 y2 y3 y4 y5 y6 y7 y8 y9 y10 y11 y12 y13) (spec_FirstForGuards.l2 (k+1) y0 y1 y2 y3 y4 y5 y6 y7 y8 y9 y10 y11 y12 y13))∧(∀ y0 y1 y2 y3 y4 y5 y6 y7 y8 y9 y10 y11 y12 y13 y14,LeO (spec_FirstForGuards.j5 k y0 y1 y2 y3 y4 y5 y6 y7 y8 y9 y10 y11 y12 y13 y14) (spec_FirstForGuards.j5 (k+1) y0 y1 y2 y3 y4 y5 y6 y7 y8 y9 y10 y11 y12 y13 y14))∧(∀ y0 y1 y2 y3 y4 y5 y6 y7 y8 y9 y10 y11 y12 y13 y14 y15,LeO (spec_FirstForGuards.j6 k y0 y1 y2 y3 y4 y5 y6 y7 y8 y9 y10 y11 y12 y13 y14 y15) (spec_FirstForGuards.j6 (k+1) y0 y1 y2 y3 y4 y5 y6 y7 y8 y9 y10 y11 y12 y13 y14 y15))∧(∀ y0 y1 y2 y3 y4 y5 y6 y7 y8 y9 y10 y11 y12 y13 y14 y15 y16,LeO (spec_FirstForGuards.j7 k y0 y1 y2 y3 y4 y5 y6 y7 y8 y9 y10 y11 y12 y13 y14 y15 y16) (spec_FirstForGuards.j7 (k+1) y0 y1 y2 y3 y4 y5 y6 y7 y8 y9 y10 y11 y12 y13 y14 y15 y16))
 | 0=>⟨fun _ _ _ _ r h=>by simp[spec_FirstForGuards.j0] at h,fun _ _ _ _ _ _ _ _ _ r h=>by simp[spec_FirstForGuards.l0] at h,fun _ _ _ _ _ _ _ _ _ _ _ _ _ r h=>by simp[spec_FirstForGuards.l1] at h,fun _ _ _ _ _ _ _ _ _ _ _ _ _ _ r h=>by simp[spec_FirstForGuards.j3] at h,fun _ _ _ _ _ _ _ _ _ _ _ _ _ _ r h=>by simp[spec_FirstForGuards.l2] at h,fun _ _ _ _ _ _ _ _ _ _ _ _ _ _ _ r h=>by simp[spec_FirstForGuards.j5] at h,fun _ _ _ _ _ _ _ _ _ _ _ _ _ _ _ _ r h=>by simp[spec_FirstForGuards.j6] at h,fun _ _ _ _ _ _ _ _ _ _ _ _ _ _ _ _ _ r h=>by simp[spec_FirstForGuards.j7] at h⟩
 | k+1=>by
  obtain ⟨ih0,ih1,ih2,ih3,ih4,ih5,ih6,ih7⟩:=spec_FirstForGuards.mono_l k;refine ⟨?_,?_,?_,?_,?_,?_,?_,?_⟩
  ·
   intro y0 y1 y2 y3;unfold spec_FirstForGuards.j0
   repeat' first
   | (with_reducible exact ih0 _ _ _ _)
   | (with_reducible exact ih1 _ _ _ _ _ _ _ _ _)
   | (with_reducible exact ih2 _ _ _ _ _ _ _ _ _ _ _ _ _)
   | (with_reducible exact ih3 _ _ _ _ _ _ _ _ _ _ _ _ _ _)
   | (with_reducible exact ih4 _ _ _ _ _ _ _ _ _ _ _ _ _ _)
   | (with_reducible exact ih5 _ _ _ _ _ _ _ _ _ _ _ _ _ _ _)
   | (with_reducible exact ih6 _ _ _ _ _ _ _ _ _ _ _ _ _ _ _ _)
   | (with_reducible exact ih7 _ _ _ _ _ _ _ _ _ _ _ _ _ _ _ _ _)
   | (with_reducible exact spec_cuHome.mono _ _ _ _)
   | (with_reducible exact LeO.refl _)
   | (with_reducible exact LeO.none _)
   | (with_reducible refine LeO.ite ?_ ?_)
   | (with_reducible refine LeO.bind ?_ (fun _=>?_))
   | exact ih0 _ _ _ _
   | exact ih1 _ _ _ _ _ _ _ _ _
   | exact ih2 _ _ _ _ _ _ _ _ _ _ _ _ _
   | exact ih3 _ _ _ _ _ _ _ _ _ _ _ _ _ _
   | exact ih4 _ _ _ _ _ _ _ _ _ _ _ _ _ _
   | exact ih5 _ _ _ _ _ _ _ _ _ _ _ _ _ _ _
   | exact ih6 _ _ _ _ _ _ _ _ _ _ _ _ _ _ _ _
   | exact ih7 _ _ _ _ _ _ _ _ _ _ _ _ _ _ _ _ _
   | exact spec_cuHome.mono _ _ _ _
   | exact LeO.none _
   | refine LeO.ite ?_ ?_
   | refine LeO.bind ?_ (fun _=>?_)
  ·
   intro y0 y1 y2 y3 y4 y5 y6 y7 y8;unfold spec_FirstForGuards.l0
   repeat' first
   | (with_reducible exact ih0 _ _ _ _)
   | (with_reducible exact ih1 _ _ _ _ _ _ _ _ _)
   | (with_reducible exact ih2 _ _ _ _ _ _ _ _ _ _ _ _ _)
   | (with_reducible exact ih3 _ _ _ _ _ _ _ _ _ _ _ _ _ _)
   | (with_reducible exact ih4 _ _ _ _ _ _ _ _ _ _ _ _ _ _)
   | (with_reducible exact ih5 _ _ _ _ _ _ _ _ _ _ _ _ _ _ _)
   | (with_reducible exact ih6 _ _ _ _ _ _ _ _ _ _ _ _ _ _ _ _)
   | (with_reducible exact ih7 _ _ _ _ _ _ _ _ _ _ _ _ _ _ _ _ _)
   | (with_reducible exact spec_cuHome.mono _ _ _ _)
   | (with_reducible exact LeO.refl _)
   | (with_reducible exact LeO.none _)
   | (with_reducible refine LeO.ite ?_ ?_)
   | (with_reducible refine LeO.bind ?_ (fun _=>?_))
   | exact ih0 _ _ _ _
   | exact ih1 _ _ _ _ _ _ _ _ _
   | exact ih2 _ _ _ _ _ _ _ _ _ _ _ _ _
   | exact ih3 _ _ _ _ _ _ _ _ _ _ _ _ _ _
   | exact ih4 _ _ _ _ _ _ _ _ _ _ _ _ _ _
   | exact ih5 _ _ _ _ _ _ _ _ _ _ _ _ _ _ _
   | exact ih6 _ _ _ _ _ _ _ _ _ _ _ _ _ _ _ _
   | exact ih7 _ _ _ _ _ _ _ _ _ _ _ _ _ _ _ _ _
   | exact spec_cuHome.mono _ _ _ _
   | exact LeO.none _
   | refine LeO.ite ?_ ?_
   | refine LeO.bind ?_ (fun _=>?_)
  ·
   intro y0 y1 y2 y3 y4 y5 y6 y7 y8 y9 y10 y11 y12;unfold spec_FirstForGuards.l1
   repeat' first
   | (with_reducible exact ih0 _ _ _ _)
   | (with_reducible exact ih1 _ _ _ _ _ _ _ _ _)
   | (with_reducible exact ih2 _ _ _ _ _ _ _ _ _ _ _ _ _)
   | (with_reducible exact ih3 _ _ _ _ _ _ _ _ _ _ _ _ _ _)
   | (with_reducible exact ih4 _ _ _ _ _ _ _ _ _ _ _ _ _ _)
   | (with_reducible exact ih5 _ _ _ _ _ _ _ _ _ _ _ _ _ _ _)
   | (with_reducible exact ih6 _ _ _ _ _ _ _ _ _ _ _ _ _ _ _ _)
   | (with_reducible exact ih7 _ _ _ _ _ _ _ _ _ _ _ _ _ _ _ _ _)
   | (with_reducible exact spec_cuHome.mono _ _ _ _)
   | (with_reducible exact LeO.refl _)
   | (with_reducible exact LeO.none _)
   | (with_reducible refine LeO.ite ?_ ?_)
   | (with_reducible refine LeO.bind ?_ (fun _=>?_))
   | exact ih0 _ _ _ _
   | exact ih1 _ _ _ _ _ _ _ _ _
   | exact ih2 _ _ _ _ _ _ _ _ _ _ _ _ _
   | exact ih3 _ _ _ _ _ _ _ _ _ _ _ _ _ _
   | exact ih4 _ _ _ _ _ _ _ _ _ _ _ _ _ _
   | exact ih5 _ _ _ _ _ _ _ _ _ _ _ _ _ _ _
   | exact ih6 _ _ _ _ _ _ _ _ _ _ _ _ _ _ _ _
   | exact ih7 _ _ _ _ _ _ _ _ _ _ _ _ _ _ _ _ _
   | exact spec_cuHome.mono _ _ _ _
   | exact LeO.none _
   | refine LeO.ite ?_ ?_
   | refine LeO.bind ?_ (fun _=>?_)
  ·
   intro y0 y1 y2 y3 y4 y5 y6 y7 y8 y9 y10 y11 y12 y13;unfold spec_FirstForGuards.j3
   repeat' first
   | (with_reducible exact ih0 _ _ _ _)
   | (with_reducible exact ih1 _ _ _ _ _ _ _ _ _)
   | (with_reducible exact ih2 _ _ _ _ _ _ _ _ _ _ _ _ _)
   | (with_reducible exact ih3 _ _ _ _ _ _ _ _ _ _ _ _ _ _)
   | (with_reducible exact ih4 _ _ _ _ _ _ _ _ _ _ _ _ _ _)
   | (with_reducible exact ih5 _ _ _ _ _ _ _ _ _ _ _ _ _ _ _)
   | (with_reducible exact ih6 _ _ _ _ _ _ _ _ _ _ _ _ _ _ _ _)
   | (with_reducible exact ih7 _ _ _ _ _ _ _ _ _ _ _ _ _ _ _ _ _)
   | (with_reducible exact spec_cuHome.mono _ _ _ _)
   | (with_reducible exact LeO.refl _)
   | (with_reducible exact LeO.none _)
   | (with_reducible refine LeO.ite ?_ ?_)
   | (with_reducible refine LeO.bind ?_ (fun _=>?_))
   | exact ih0 _ _ _ _
   | exact ih1 _ _ _ _ _ _ _ _ _
   | exact ih2 _ _ _ _ _ _ _ _ _ _ _ _ _
   | exact ih3 _ _ _ _ _ _ _ _ _ _ _ _ _ _
   | exact ih4 _ _ _ _ _ _ _ _ _ _ _ _ _ _
   | exact ih5 _ _ _ _ _ _ _ _ _ _ _ _ _ _ _
   | exact ih6 _ _ _ _ _ _ _ _ _ _ _ _ _ _ _ _
   | exact ih7 _ _ _ _ _ _ _ _ _ _ _ _ _ _ _ _ _
   | exact spec_cuHome.mono _ _ _ _
   | exact LeO.none _
   | refine LeO.ite ?_ ?_
   | refine LeO.bind ?_ (fun _=>?_)
  ·
   intro y0 y1 y2 y3 y4 y5 y6 y7 y8 y9 y10 y11 y12 y13;unfold spec_FirstForGuards.l2
   repeat' first
   | (with_reducible exact ih0 _ _ _ _)
   | (with_reducible exact ih1 _ _ _ _ _ _ _ _ _)
   | (with_reducible exact ih2 _ _ _ _ _ _ _ _ _ _ _ _ _)
   | (with_reducible exact ih3 _ _ _ _ _ _ _ _ _ _ _ _ _ _)
   | (with_reducible exact ih4 _ _ _ _ _ _ _ _ _ _ _ _ _ _)
   | (with_reducible exact ih5 _ _ _ _ _ _ _ _ _ _ _ _ _ _ _)
   | (with_reducible exact ih6 _ _ _ _ _ _ _ _ _ _ _ _ _ _ _ _)
   | (with_reducible exact ih7 _ _ _ _ _ _ _ _ _ _ _ _ _ _ _ _ _)
   | (with_reducible exact spec_cuHome.mono _ _ _ _)
   | (with_reducible exact LeO.refl _)
   | (with_reducible exact LeO.none _)
   | (with_reducible refine LeO.ite ?_ ?_)
   | (with_reducible refine LeO.bind ?_ (fun _=>?_))
   | exact ih0 _ _ _ _
   | exact ih1 _ _ _ _ _ _ _ _ _
   | exact ih2 _ _ _ _ _ _ _ _ _ _ _ _ _
   | exact ih3 _ _ _ _ _ _ _ _ _ _ _ _ _ _
   | exact ih4 _ _ _ _ _ _ _ _ _ _ _ _ _ _
   | exact ih5 _ _ _ _ _ _ _ _ _ _ _ _ _ _ _
   | exact ih6 _ _ _ _ _ _ _ _ _ _ _ _ _ _ _ _
   | exact ih7 _ _ _ _ _ _ _ _ _ _ _ _ _ _ _ _ _
   | exact spec_cuHome.mono _ _ _ _
   | exact LeO.none _
   | refine LeO.ite ?_ ?_
   | refine LeO.bind ?_ (fun _=>?_)
  ·
   intro y0 y1 y2 y3 y4 y5 y6 y7 y8 y9 y10 y11 y12 y13 y14;unfold spec_FirstForGuards.j5
   repeat' first
   | (with_reducible exact ih0 _ _ _ _)
   | (with_reducible exact ih1 _ _ _ _ _ _ _ _ _)
   | (with_reducible exact ih2 _ _ _ _ _ _ _ _ _ _ _ _ _)
   | (with_reducible exact ih3 _ _ _ _ _ _ _ _ _ _ _ _ _ _)
   | (with_reducible exact ih4 _ _ _ _ _ _ _ _ _ _ _ _ _ _)
   | (with_reducible exact ih5 _ _ _ _ _ _ _ _ _ _ _ _ _ _ _)
   | (with_reducible exact ih6 _ _ _ _ _ _ _ _ _ _ _ _ _ _ _ _)
   | (with_reducible exact ih7 _ _ _ _ _ _ _ _ _ _ _ _ _ _ _ _ _)
   | (with_reducible exact spec_cuHome.mono _ _ _ _)
   | (with_reducible exact LeO.refl _)
   | (with_reducible exact LeO.none _)
   | (with_reducible refine LeO.ite ?_ ?_)
   | (with_reducible refine LeO.bind ?_ (fun _=>?_))
   | exact ih0 _ _ _ _
   | exact ih1 _ _ _ _ _ _ _ _ _
   | exact ih2 _ _ _ _ _ _ _ _ _ _ _ _ _
   | exact ih3 _ _ _ _ _ _ _ _ _ _ _ _ _ _
   | exact ih4 _ _ _ _ _ _ _ _ _ _ _ _ _ _
   | exact ih5 _ _ _ _ _ _ _ _ _ _ _ _ _ _ _
   | exact ih6 _ _ _ _ _ _ _ _ _ _ _ _ _ _ _ _
   | exact ih7 _ _ _ _ _ _ _ _ _ _ _ _ _ _ _ _ _
   | exact spec_cuHome.mono _ _ _ _
   | exact LeO.none _
   | refine LeO.ite ?_ ?_
   | refine LeO.bind ?_ (fun _=>?_)
  ·
   intro y0 y1 y2 y3 y4 y5 y6 y7 y8 y9 y10 y11 y12 y13 y14 y15;unfold spec_FirstForGuards.j6
   repeat' first
   | (with_reducible exact ih0 _ _ _ _)
   | (with_reducible exact ih1 _ _ _ _ _ _ _ _ _)
   | (with_reducible exact ih2 _ _ _ _ _ _ _ _ _ _ _ _ _)
   | (with_reducible exact ih3 _ _ _ _ _ _ _ _ _ _ _ _ _ _)
   | (with_reducible exact ih4 _ _ _ _ _ _ _ _ _ _ _ _ _ _)
   | (with_reducible exact ih5 _ _ _ _ _ _ _ _ _ _ _ _ _ _ _)
   | (with_reducible exact ih6 _ _ _ _ _ _ _ _ _ _ _ _ _ _ _ _)
   | (with_reducible exact ih7 _ _ _ _ _ _ _ _ _ _ _ _ _ _ _ _ _)
   | (with_reducible exact spec_cuHome.mono _ _ _ _)
   | (with_reducible exact LeO.refl _)
   | (with_reducible exact LeO.none _)
   | (with_reducible refine LeO.ite ?_ ?_)
   | (with_reducible refine LeO.bind ?_ (fun _=>?_))
   | exact ih0 _ _ _ _
   | exact ih1 _ _ _ _ _ _ _ _ _
   | exact ih2 _ _ _ _ _ _ _ _ _ _ _ _ _
   | exact ih3 _ _ _ _ _ _ _ _ _ _ _ _ _ _
   | exact ih4 _ _ _ _ _ _ _ _ _ _ _ _ _ _
   | exact ih5 _ _ _ _ _ _ _ _ _ _ _ _ _ _ _
   | exact ih6 _ _ _ _ _ _ _ _ _ _ _ _ _ _ _ _
   | exact ih7 _ _ _ _ _ _ _ _ _ _ _ _ _ _ _ _ _
   | exact spec_cuHome.mono _ _ _ _
   | exact LeO.none _
   | refine LeO.ite ?_ ?_
   | refine LeO.bind ?_ (fun _=>?_)
  ·
   intro y0 y1 y2 y3 y4 y5 y6 y7 y8 y9 y10 y11 y12 y13 y14 y15 y16;unfold spec_FirstForGuards.j7
   repeat' first
   | (with_reducible exact ih0 _ _ _ _)
   | (with_reducible exact ih1 _ _ _ _ _ _ _ _ _)
   | (with_reducible exact ih2 _ _ _ _ _ _ _ _ _ _ _ _ _)
   | (with_reducible exact ih3 _ _ _ _ _ _ _ _ _ _ _ _ _ _)
   | (with_reducible exact ih4 _ _ _ _ _ _ _ _ _ _ _ _ _ _)
   | (with_reducible exact ih5 _ _ _ _ _ _ _ _ _ _ _ _ _ _ _)
   | (with_reducible exact ih6 _ _ _ _ _ _ _ _ _ _ _ _ _ _ _ _)
   | (with_reducible exact ih7 _ _ _ _ _ _ _ _ _ _ _ _ _ _ _ _ _)
   | (with_reducible exact spec_cuHome.mono _ _ _ _)
   | (with_reducible exact LeO.refl _)
   | (with_reducible exact LeO.none _)
   | (with_reducible refine LeO.ite ?_ ?_)
   | (with_reducible refine LeO.bind ?_ (fun _=>?_))
   | exact ih0 _ _ _ _
   | exact ih1 _ _ _ _ _ _ _ _ _
   | exact ih2 _ _ _ _ _ _ _ _ _ _ _ _ _
   | exact ih3 _ _ _ _ _ _ _ _ _ _ _ _ _ _
   | exact ih4 _ _ _ _ _ _ _ _ _ _ _ _ _ _
   | exact ih5 _ _ _ _ _ _ _ _ _ _ _ _ _ _ _
   | exact ih6 _ _ _ _ _ _ _ _ _ _ _ _ _ _ _ _
   | exact ih7 _ _ _ _ _ _ _ _ _ _ _ _ _ _ _ _ _
   | exact spec_cuHome.mono _ _ _ _
   | exact LeO.none _
   | refine LeO.ite ?_ ?_
   | refine LeO.bind ?_ (fun _=>?_)
theorem spec_FirstForGuards.mono:∀ a0 a1 a2 k,LeO (spec_FirstForGuards.f k a0 a1 a2) (spec_FirstForGuards.f (k+1) a0 a1 a2):=by
 intro a0 a1 a2 k;obtain ⟨ih0,ih1,ih2,ih3,ih4,ih5,ih6,ih7⟩:=spec_FirstForGuards.mono_l k
 unfold spec_FirstForGuards.f
 repeat' first
   | (with_reducible exact ih0 _ _ _ _)
   | (with_reducible exact ih1 _ _ _ _ _ _ _ _ _)
   | (with_reducible exact ih2 _ _ _ _ _ _ _ _ _ _ _ _ _)
   | (with_reducible exact ih3 _ _ _ _ _ _ _ _ _ _ _ _ _ _)
   | (with_reducible exact ih4 _ _ _ _ _ _ _ _ _ _ _ _ _ _)
   | (with_reducible exact ih5 _ _ _ _ _ _ _ _ _ _ _ _ _ _ _)
   | (with_reducible exact ih6 _ _ _ _ _ _ _ _ _ _ _ _ _ _ _ _)
   | (with_reducible exact ih7 _ _ _ _ _ _ _ _ _ _ _ _ _ _ _ _ _)
   | (with_reducible exact spec_cuHome.mono _ _ _ _)
   | (with_reducible exact LeO.refl _)
   | (with_reducible exact LeO.none _)
   | (with_reducible refine LeO.ite ?_ ?_)
   | (with_reducible refine LeO.bind ?_ (fun _=>?_))
   | exact ih0 _ _ _ _
   | exact ih1 _ _ _ _ _ _ _ _ _
   | exact ih2 _ _ _ _ _ _ _ _ _ _ _ _ _
   | exact ih3 _ _ _ _ _ _ _ _ _ _ _ _ _ _
   | exact ih4 _ _ _ _ _ _ _ _ _ _ _ _ _ _
   | exact ih5 _ _ _ _ _ _ _ _ _ _ _ _ _ _ _
   | exact ih6 _ _ _ _ _ _ _ _ _ _ _ _ _ _ _ _
   | exact ih7 _ _ _ _ _ _ _ _ _ _ _ _ _ _ _ _ _
   | exact spec_cuHome.mono _ _ _ _
   | exact LeO.none _
   | refine LeO.ite ?_ ?_
   | refine LeO.bind ?_ (fun _=>?_)
set_option maxHeartbeats 8000000 in
set_option maxRecDepth 100000 in
theorem spec_FirstForGuards.calls (k:Nat) (a0:Int) (a1:Int) (a2:Int) (r1:List (List Int)) (r2:Bool) (w:World) (h:spec_FirstForGuards.f k a0 a1 a2=some (r1,r2)) :
  Calls Try.prog 6 #[.int .i64 a0, .int .i64 a1, .int .i64 a2] w fun e w'=>∃ v0_:Value,e = .returned (.tuple #[v0_, .bool r2])∧Kd.S (Kd.slice 3 (Kd.int .i64)) 28 w' w.heap.size (fun _=>True) v0_ r1∧Below w.heap.size w w':=by
 have HB:=am' (Below.refl w.heap.size w)
 have H:((spec_cuSides.f a0 a1 a2).bind fun t136=>(if t136=true then ((spec_cuHeld.f a0 a1).bind fun t137=>(spec_FirstForGuards.j0 k a0 a1 a2 (!t137))) else (spec_FirstForGuards.j0 k a0 a1 a2 true)))=some (r1,r2):=h
 clear h;have HC4:=am' H
 clear H;go_enter Try.func6,Try.ntmps6
 go_upto_region 1 with (fail)
 go_cut [31] (fun v31 wc=>∃ (kq:Nat) (x31_3:Bool),v31 = .bool x31_3∧Aside0 (spec_FirstForGuards.j0 kq a0 a1 a2 x31_3=some (r1,r2))∧Aside0 (kq≤k)∧Aside0 (Below w.heap.size w wc))
 case first =>
  have H:=HC4.out;clear HC4;replace H:=Option.bind_eq_some_iff.mp H;obtain ⟨t136,A50,H⟩:=H;replace H:(if t136=true then ((spec_cuHeld.f a0 a1).bind fun t137=>(spec_FirstForGuards.j0 k a0 a1 a2 (!t137))) else (spec_FirstForGuards.j0 k a0 a1 a2 true))=some (r1,r2):=H;have A5:=am' A50;clear A50;by_cases c6:t136=true
  ·
   subst c6;have H1:((spec_cuHeld.f a0 a1).bind fun t137=>(spec_FirstForGuards.j0 k a0 a1 a2 (!t137)))=some (r1,r2):=by rw[if_pos rfl] at H;exact H
   clear H;have H:=H1;clear H1;replace H:=Option.bind_eq_some_iff.mp H;obtain ⟨t137,A70,H⟩:=H;replace H:(spec_FirstForGuards.j0 k a0 a1 a2 (!t137))=some (r1,r2):=H;have A7:=am' A70;clear A70;have H':=am' H;clear H;go_wp2_with (first|((with_reducible refine gate_callee (f:=30) rfl ?_);refine goesL_ (some 24) rfl rfl Try.func30 xk' rfl #[.int .i64 a0, .int .i64 a1, .int .i64 a2] rfl xl' ?_;(with_reducible refine (spec_cuSides.calls a0 a1 a2 true _ A5.out).mono ?_);rintro e w' ⟨rfl,⟨nd,rfl⟩⟩;refine ⟨_,rfl,?_⟩)|(go_at_call 31;(with_reducible refine (spec_cuHeld.calls a0 a1 t137 _ A7.out).mono ?_);rintro e w' ⟨rfl,⟨nd,rfl⟩⟩));go_meet
   case rel=>exact ⟨_,(!t137),xs',H',⟨by first|omega|exact Nat.le_refl _⟩,⟨xb'⟩⟩
  ·
   replace c6:=Bool.eq_false_iff.mpr c6;subst c6;have H1:(spec_FirstForGuards.j0 k a0 a1 a2 true)=some (r1,r2):=by rw[if_neg (show ¬ (false=true) by decide)] at H;exact H
   clear H;have H:=H1;clear H1;have H':=am' H;clear H;go_wp2_with (first|((with_reducible refine gate_callee (f:=30) rfl ?_);refine goesL_ (some 24) rfl rfl Try.func30 xk' rfl #[.int .i64 a0, .int .i64 a1, .int .i64 a2] rfl xl' ?_;(with_reducible refine (spec_cuSides.calls a0 a1 a2 false _ A5.out).mono ?_);rintro e w' ⟨rfl,⟨nd,rfl⟩⟩;refine ⟨_,rfl,?_⟩));go_meet
   case rel=>exact ⟨_,(true),xs',H',⟨by first|omega|exact Nat.le_refl _⟩,⟨xb'⟩⟩
 case rest =>
  clear HC4;try clear p2
  try clear c3
  try clear c6
  obtain ⟨kq,x31_3,rfl,HA,HJ3,HB⟩:=hcut;cases kq with
  | zero=>exact absurd HA.out (by simp[spec_FirstForGuards.j0])
  | succ kj3 =>
   have H:=HA.out;clear HA;simp only[spec_FirstForGuards.j0] at H;by_cases c8:x31_3=true
   ·
    subst c8;have H1:(some (([]:List (List Int)),false))=some (r1,r2):=by rw[if_pos rfl] at H;exact H
    clear H;have H:=H1;clear H1;simp only[Option.some.injEq,Prod.mk.injEq] at H;obtain ⟨rfl,rfl⟩:=H;go_wp2;go_ret2
    exact ⟨_,by first|rfl|(simp[errW_none,errW_some] <;> rfl)|(simp[*,errW_none,errW_some] <;> rfl),by first|exact Kd.S_nil _ _ _ _ _|exact Kd.N_nil _ _ _ _ _|exact Kd.V_nil _ _ _ _ _|exact Kd.Q_nil _ _ _ _ _|exact Kd.R_nil _ _ _ _ _,xb'⟩
   ·
    replace c8:=Bool.eq_false_iff.mpr c8;subst c8;have H1:((spec_cuHome.f kj3 a0 a1 a2).bind fun t138=>(if 0 < (t138.length:Int) then (if (rd t138 0) < 0 then (some (([]:List (List Int)),false)) else (spec_FirstForGuards.l0 kj3 a0 a1 a2 t138 ([]:List (List Int)) 0 0 0 (rd t138 0))) else (none)))=some (r1,r2):=by rw[if_neg (show ¬ (false=true) by decide)] at H;exact H
    clear H;have H:=H1;clear H1;replace H:=Option.bind_eq_some_iff.mp H;obtain ⟨t138,A90,H⟩:=H;replace H:(if 0 < (t138.length:Int) then (if (rd t138 0) < 0 then (some (([]:List (List Int)),false)) else (spec_FirstForGuards.l0 kj3 a0 a1 a2 t138 ([]:List (List Int)) 0 0 0 (rd t138 0))) else (none))=some (r1,r2):=H;have A9:=am' A90;clear A90;by_cases c10:0 < (t138.length:Int)
    ·
     rw[if_pos c10] at H;have c10b0:decide (0 < (t138.length:Int))=true:=dt' c10;have c10b1:decide (0 < t138.length)=true:=dt' (by omega);clear c10;by_cases c11:(rd t138 0) < 0
     ·
      rw[if_pos c11] at H;have c11b0:decide ((rd t138 0) < 0)=true:=dt' c11;clear c11;simp only[Option.some.injEq,Prod.mk.injEq] at H;obtain ⟨rfl,rfl⟩:=H;go_wp2_with (first|((with_reducible refine gate_callee (f:=32) rfl ?_);refine goesL_ (some 35) rfl rfl Try.func32 xk' rfl #[.int .i64 a0, .int .i64 a1, .int .i64 a2] rfl xl' ?_;(with_reducible refine (spec_cuHome.calls kj3 a0 a1 a2 t138 _ A9.out).mono ?_);rintro e w12 ⟨v139,rfl,ho0,hb⟩;refine ⟨_,rfl,?_⟩;have n0_:=am' (Kd.R_lower ho0 (bz' xb'));have n1_:=am' (bt' xb' hb);clear HB;have HO140:=n0_;have HB:=n1_;clear n0_ n1_;(try clear hb);(try clear hb2);(try clear hk);(try clear hi);(try clear ho0);obtain ⟨Ao13,co13,eo13⟩:=Kd.R_slice HO140.out;subst eo13;have p141:0≤(0:Int):=(by omega);have q141:0 < (t138.length:Int):=od' xa';obtain ⟨ad141,e141,hx141_0⟩:=Kd.at_int (Kd.R_reads' HO140.out).2.2 0 p141 q141;cases e141;have qi141:(0 < t138.length)=True:=eq_true (by omega);(try rw [show ((0:Int)).toNat=0 from rfl] at hx141_0);(try rw [Addr.add_zero'] at hx141_0);replace p141:=eq_true p141;replace q141:=eq_true q141));go_ret2
      exact ⟨_,by first|rfl|(simp[errW_none,errW_some] <;> rfl)|(simp[*,errW_none,errW_some] <;> rfl),by first|exact Kd.S_nil _ _ _ _ _|exact Kd.N_nil _ _ _ _ _|exact Kd.V_nil _ _ _ _ _|exact Kd.Q_nil _ _ _ _ _|exact Kd.R_nil _ _ _ _ _,xb'⟩
     ·
      rw[if_neg c11] at H;have c11b0:decide ((rd t138 0) < 0)=false:=df' c11;clear c11;have H':=am' H;clear H;go_wp2_with (first|((with_reducible refine gate_callee (f:=32) rfl ?_);refine goesL_ (some 35) rfl rfl Try.func32 xk' rfl #[.int .i64 a0, .int .i64 a1, .int .i64 a2] rfl xl' ?_;(with_reducible refine (spec_cuHome.calls kj3 a0 a1 a2 t138 _ A9.out).mono ?_);rintro e w14 ⟨v139,rfl,ho0,hb⟩;refine ⟨_,rfl,?_⟩;have n0_:=am' (Kd.R_lower ho0 (bz' xb'));have n1_:=am' (bt' xb' hb);clear HB;have HO140:=n0_;have HB:=n1_;clear n0_ n1_;(try clear hb);(try clear hb2);(try clear hk);(try clear hi);(try clear ho0);obtain ⟨Ao15,co15,eo15⟩:=Kd.R_slice HO140.out;subst eo15;have p141:0≤(0:Int):=(by omega);have q141:0 < (t138.length:Int):=od' xa';obtain ⟨ad141,e141,hx141_0⟩:=Kd.at_int (Kd.R_reads' HO140.out).2.2 0 p141 q141;cases e141;have qi141:(0 < t138.length)=True:=eq_true (by omega);(try rw [show ((0:Int)).toNat=0 from rfl] at hx141_0);(try rw [Addr.add_zero'] at hx141_0);replace p141:=eq_true p141;replace q141:=eq_true q141;have p142:0≤(0:Int):=(by omega);have q142:0 < (t138.length:Int):=od' xa';obtain ⟨ad142,e142,hx142_0⟩:=Kd.at_int (Kd.R_reads' HO140.out).2.2 0 p142 q142;obtain rfl:ad141=ad142:=(by injection e142);have qi142:(0 < t138.length)=True:=eq_true (by omega);(try rw [show ((0:Int)).toNat=0 from rfl] at hx142_0);(try rw [Addr.add_zero'] at hx142_0);replace p142:=eq_true p142;replace q142:=eq_true q142));go_loopg [9,10,11,12,13] kj3 (fun kq v9 v10 v11 v12 v13 w'=>∃ (x9_2:List (List Int)) (x10_2:Int) (x11_2:Int) (x12_2:Int) (x13_2:Int),v10 = .int .i64 x10_2∧v11 = .int .i64 x11_2∧v12 = .int .i64 x12_2∧v13 = .int .i64 x13_2∧Aside0 (spec_FirstForGuards.l0 kq a0 a1 a2 t138 x9_2 x10_2 x11_2 x12_2 x13_2=some (r1,r2))∧Aside0 (kq≤kj3)∧Aside0 (Kd.R (Kd.int .i64) 3 w' w.heap.size (fun _=>True) (.slice (some ad141) t138.length co15) t138)∧Aside0 (Kd.S (Kd.slice 3 (Kd.int .i64)) 28 w' w.heap.size (fun k_=>some k_≠((.slice (some ad141) t138.length co15):Value).ownBlock) v9 x9_2)∧Aside0 (Below w.heap.size w w'))
      case atStart=>exact ⟨(([]:List (List Int))),(0),(0),(0),(rd t138 0),xs',xs',xs',xs',H',⟨Nat.le_refl _⟩,⟨kr' HO140.out⟩,⟨by first|exact Kd.S_nil _ _ _ _ _|exact Kd.N_nil _ _ _ _ _|exact Kd.V_nil _ _ _ _ _|exact Kd.Q_nil _ _ _ _ _|exact Kd.R_nil _ _ _ _ _⟩,⟨xb'⟩⟩
      case round =>
       clear H';try clear c1
       try clear p1
       try clear q1
       try clear hx1
       try clear qi1
       try clear p2
       try clear c3
       try clear c6
       try clear c8
       try clear c10
       try clear c10b0
       try clear c10b1
       try clear c11
       try clear c11b0
       try clear p14
       try clear q14
       try clear hx14
       try clear qi14
       try clear hx141_0
       try clear hx142_0
       try clear p141
       try clear p142
       try clear p2
       try clear q141
       try clear q142
       obtain ⟨x9_2,x10_2,x11_2,x12_2,x13_2,rfl,rfl,rfl,rfl,HA,HK2,HO_8,HO_9,HB⟩:=hrel;cases gk with
       | zero=>exact absurd HA.out (by simp[spec_FirstForGuards.l0])
       | succ k2 =>
        have H:=HA.out;clear HA;simp only[spec_FirstForGuards.l0] at H;by_cases c16:x13_2 > 0
        ·
         rw[if_pos c16] at H;have c16b0:decide (0 < x13_2)=true:=dt' c16;clear c16;have H':=am' H;clear H;go_wp2;go_loopg [9,14,15,16,17] k2 (fun kq v9 v14 v15 v16 v17 w'=>∃ (x9_3:List (List Int)) (x14_3:Int) (x15_3:Int) (x16_3:Bool) (x17_3:Int),v14 = .int .i64 x14_3∧v15 = .int .i64 x15_3∧v16 = .bool x16_3∧v17 = .int .i64 x17_3∧Aside0 (spec_FirstForGuards.l1 kq a0 a1 a2 t138 x9_3 x10_2 x11_2 x12_2 x13_2 x14_3 x15_3 x16_3 x17_3=some (r1,r2))∧Aside0 (kq≤k2)∧Aside0 (Kd.R (Kd.int .i64) 3 w' w.heap.size (fun _=>True) (.slice (some ad141) t138.length co15) t138)∧Aside0 (Kd.S (Kd.slice 3 (Kd.int .i64)) 28 w' w.heap.size (fun k_=>some k_≠((.slice (some ad141) t138.length co15):Value).ownBlock) v9 x9_3)∧Aside0 (Below w.heap.size w w'))
         case atStart=>exact ⟨(x9_2),(0),(0),(false),(0),xs',xs',xs',xs',H',⟨Nat.le_refl _⟩,⟨kr' HO_8.out⟩,⟨kS' HO_9.out⟩,⟨xb'⟩⟩
         case round =>
          clear H';try clear c1
          try clear p1
          try clear q1
          try clear hx1
          try clear qi1
          try clear p2
          try clear c3
          try clear c6
          try clear c8
          try clear c10
          try clear c10b0
          try clear c10b1
          try clear c11
          try clear c11b0
          try clear p14
          try clear q14
          try clear hx14
          try clear qi14
          try clear c16
          try clear c16b0
          try clear hx141_0
          try clear hx142_0
          try clear p1
          try clear p14
          try clear p141
          try clear p142
          try clear p2
          try clear q1
          try clear q14
          try clear q141
          try clear q142
          obtain ⟨x9_3,x14_3,x15_3,x16_3,x17_3,rfl,rfl,rfl,rfl,HA,HK3,HO_8,HO_9,HB⟩:=hrel;cases gk with
          | zero=>exact absurd HA.out (by simp[spec_FirstForGuards.l1])
          | succ k3 =>
           have H:=HA.out;clear HA;simp only[spec_FirstForGuards.l1] at H;have HC17:=am' H;clear H;go_upto_region 14 with (fail)
           go_cut [53] (fun v53 wc=>∃ (kq:Nat) (x53_16:Bool),v53 = .bool x53_16∧Aside0 (spec_FirstForGuards.j3 kq a0 a1 a2 t138 x9_3 x10_2 x11_2 x12_2 x13_2 x14_3 x15_3 x16_3 x17_3 x53_16=some (r1,r2))∧Aside0 (kq≤k3)∧Aside0 (Kd.R (Kd.int .i64) 3 wc w.heap.size (fun _=>True) (.slice (some ad141) t138.length co15) t138)∧Aside0 (Kd.S (Kd.slice 3 (Kd.int .i64)) 28 wc w.heap.size (fun k_=>some k_≠((.slice (some ad141) t138.length co15):Value).ownBlock) u9 x9_3)∧Aside0 (Below w.heap.size w wc))
           case first =>
            have H:=HC17.out;clear HC17;by_cases c18:x17_3≤a2
            ·
             rw[if_pos c18] at H;have c18b0:decide (x17_3≤a2)=true:=dt' c18;clear c18;(first|rw[c18b0]|(simp only[i64_w,i32_w];rw[c18b0])|skip)
             have H':=am' H;clear H;go_wp2;go_meet
             case rel=>exact ⟨_,(!x16_3),xs',H',⟨by have:=HJ3.out;have:=HK2.out;have:=HK3.out;first|omega|exact Nat.le_refl _⟩,⟨kr' HO_8.out⟩,⟨kS' HO_9.out⟩,⟨xb'⟩⟩
            ·
             rw[if_neg c18] at H;have c18b0:decide (x17_3≤a2)=false:=df' c18;clear c18;(first|rw[c18b0]|(simp only[i64_w,i32_w];rw[c18b0])|skip)
             have H':=am' H;clear H;go_wp2;go_meet
             case rel=>exact ⟨_,(false),xs',H',⟨by have:=HJ3.out;have:=HK2.out;have:=HK3.out;first|omega|exact Nat.le_refl _⟩,⟨kr' HO_8.out⟩,⟨kS' HO_9.out⟩,⟨xb'⟩⟩
           case rest =>
            clear HC17;try clear c1
            try clear p1
            try clear q1
            try clear hx1
            try clear qi1
            try clear p2
            try clear c3
            try clear c6
            try clear c8
            try clear c10
            try clear c10b0
            try clear c10b1
            try clear c11
            try clear c11b0
            try clear p14
            try clear q14
            try clear hx14
            try clear qi14
            try clear c16
            try clear c16b0
            try clear c18
            try clear c18b0
            try clear hx141_0
            try clear hx142_0
            try clear p1
            try clear p14
            try clear p141
            try clear p142
            try clear p2
            try clear q1
            try clear q14
            try clear q141
            try clear q142
            obtain ⟨kq,x53_16,rfl,HA,HJ16,HO_8,HO_9,HB⟩:=hcut;cases kq with
            | zero=>exact absurd HA.out (by simp[spec_FirstForGuards.j3])
            | succ kj16 =>
             have H:=HA.out;clear HA;simp only[spec_FirstForGuards.j3] at H;by_cases c19:x53_16=true
             ·
              subst c19;have H1:(spec_FirstForGuards.l2 kj16 a0 a1 a2 t138 x9_3 x10_2 x11_2 x12_2 x13_2 x14_3 x15_3 x16_3 x17_3 0)=some (r1,r2):=by rw[if_pos rfl] at H;exact H
              clear H;have H:=H1;clear H1;have H':=am' H;clear H;go_wp2;go_loopg [9,14,15,16,18] kj16 (fun kq v9 v14 v15 v16 v18 w'=>∃ (x9_5:List (List Int)) (x14_5:Int) (x15_5:Int) (x16_5:Bool) (x18_5:Int),v14 = .int .i64 x14_5∧v15 = .int .i64 x15_5∧v16 = .bool x16_5∧v18 = .int .i64 x18_5∧Aside0 (spec_FirstForGuards.l2 kq a0 a1 a2 t138 x9_5 x10_2 x11_2 x12_2 x13_2 x14_5 x15_5 x16_5 x17_3 x18_5=some (r1,r2))∧Aside0 (kq≤kj16)∧Aside0 (Kd.R (Kd.int .i64) 3 w' w.heap.size (fun _=>True) (.slice (some ad141) t138.length co15) t138)∧Aside0 (Kd.S (Kd.slice 3 (Kd.int .i64)) 28 w' w.heap.size (fun k_=>some k_≠((.slice (some ad141) t138.length co15):Value).ownBlock) v9 x9_5)∧Aside0 (Below w.heap.size w w'))
              case atStart=>exact ⟨(x9_3),(x14_3),(x15_3),(x16_3),(0),xs',xs',xs',xs',H',⟨Nat.le_refl _⟩,⟨kr' HO_8.out⟩,⟨kS' HO_9.out⟩,⟨xb'⟩⟩
              case round =>
               clear H';try clear c1
               try clear p1
               try clear q1
               try clear hx1
               try clear qi1
               try clear p2
               try clear c3
               try clear c6
               try clear c8
               try clear c10
               try clear c10b0
               try clear c10b1
               try clear c11
               try clear c11b0
               try clear p14
               try clear q14
               try clear hx14
               try clear qi14
               try clear c16
               try clear c16b0
               try clear c18
               try clear c18b0
               try clear c19
               try clear hx141_0
               try clear hx142_0
               try clear p1
               try clear p14
               try clear p141
               try clear p142
               try clear p2
               try clear q1
               try clear q14
               try clear q141
               try clear q142
               obtain ⟨x9_5,x14_5,x15_5,x16_5,x18_5,rfl,rfl,rfl,rfl,HA,HK5,HO_8,HO_9,HB⟩:=hrel;cases gk with
               | zero=>exact absurd HA.out (by simp[spec_FirstForGuards.l2])
               | succ k5 =>
                have H:=HA.out;clear HA;simp only[spec_FirstForGuards.l2] at H;have HC20:=am' H;clear H;go_upto_region 17 with (fail)
                go_cut [64] (fun v64 wc=>∃ (kq:Nat) (x64_19:Bool),v64 = .bool x64_19∧Aside0 (spec_FirstForGuards.j5 kq a0 a1 a2 t138 x9_5 x10_2 x11_2 x12_2 x13_2 x14_5 x15_5 x16_5 x17_3 x18_5 x64_19=some (r1,r2))∧Aside0 (kq≤k5)∧Aside0 (Kd.R (Kd.int .i64) 3 wc w.heap.size (fun _=>True) (.slice (some ad141) t138.length co15) t138)∧Aside0 (Kd.S (Kd.slice 3 (Kd.int .i64)) 28 wc w.heap.size (fun k_=>some k_≠((.slice (some ad141) t138.length co15):Value).ownBlock) u9 x9_5)∧Aside0 (Below w.heap.size w wc))
                case first =>
                 have H:=HC20.out;clear HC20;by_cases c21:(wrap64 (x17_3+x18_5))≤a2
                 ·
                  rw[if_pos c21] at H;have c21b0:decide ((wrap64 (x17_3+x18_5))≤a2)=true:=dt' c21;clear c21;(first|rw[c21b0]|(simp only[i64_w,i32_w];rw[c21b0])|skip)
                  have H':=am' H;clear H;go_wp2;go_meet
                  case rel=>exact ⟨_,(!x16_5),xs',H',⟨by have:=HJ3.out;have:=HK2.out;have:=HK3.out;have:=HJ16.out;have:=HK5.out;first|omega|exact Nat.le_refl _⟩,⟨kr' HO_8.out⟩,⟨kS' HO_9.out⟩,⟨xb'⟩⟩
                 ·
                  rw[if_neg c21] at H;have c21b0:decide ((wrap64 (x17_3+x18_5))≤a2)=false:=df' c21;clear c21;(first|rw[c21b0]|(simp only[i64_w,i32_w];rw[c21b0])|skip)
                  have H':=am' H;clear H;go_wp2;go_meet
                  case rel=>exact ⟨_,(false),xs',H',⟨by have:=HJ3.out;have:=HK2.out;have:=HK3.out;have:=HJ16.out;have:=HK5.out;first|omega|exact Nat.le_refl _⟩,⟨kr' HO_8.out⟩,⟨kS' HO_9.out⟩,⟨xb'⟩⟩
                case rest =>
                 clear HC20;try clear c1
                 try clear p1
                 try clear q1
                 try clear hx1
                 try clear qi1
                 try clear c2
                 try clear p2
                 try clear c3
                 try clear c6
                 try clear p6
                 try clear c8
                 try clear c10
                 try clear c10b0
                 try clear c10b1
                 try clear c11
                 try clear c11b0
                 try clear p14
                 try clear q14
                 try clear hx14
                 try clear qi14
                 try clear c16
                 try clear c16b0
                 try clear c18
                 try clear c18b0
                 try clear c19
                 try clear c21
                 try clear c21b0
                 try clear hx141_0
                 try clear hx142_0
                 try clear p1
                 try clear p14
                 try clear p141
                 try clear p142
                 try clear p2
                 try clear q1
                 try clear q14
                 try clear q141
                 try clear q142
                 obtain ⟨kq,x64_19,rfl,HA,HJ19,HO_8,HO_9,HB⟩:=hcut;cases kq with
                 | zero=>exact absurd HA.out (by simp[spec_FirstForGuards.j5])
                 | succ kj19 =>
                  have H:=HA.out;clear HA;simp only[spec_FirstForGuards.j5] at H;by_cases c22:x64_19=true
                  ·
                   subst c22;have H1:(if x12_2=1 then (spec_FirstForGuards.j6 kj19 a0 a1 a2 t138 x9_5 x10_2 x11_2 x12_2 x13_2 x14_5 x15_5 x16_5 x17_3 x18_5 (wrap64 (x10_2 - x17_3)) (wrap64 (x11_2 - x18_5))) else (spec_FirstForGuards.j6 kj19 a0 a1 a2 t138 x9_5 x10_2 x11_2 x12_2 x13_2 x14_5 x15_5 x16_5 x17_3 x18_5 (wrap64 (x10_2+x17_3)) (wrap64 (x11_2+x18_5))))=some (r1,r2):=by rw[if_pos rfl] at H;exact H
                   clear H;have H:=H1;clear H1;have HC23:=am' H;clear H;go_upto_if 74 with (fail)
                   go_cut [19,20] (fun v19 v20 wc=>∃ (kq:Nat) (x19_22:Int) (x20_22:Int),v19 = .int .i64 x19_22∧v20 = .int .i64 x20_22∧Aside0 (spec_FirstForGuards.j6 kq a0 a1 a2 t138 x9_5 x10_2 x11_2 x12_2 x13_2 x14_5 x15_5 x16_5 x17_3 x18_5 x19_22 x20_22=some (r1,r2))∧Aside0 (kq≤kj19)∧Aside0 (Kd.R (Kd.int .i64) 3 wc w.heap.size (fun _=>True) (.slice (some ad141) t138.length co15) t138)∧Aside0 (Kd.S (Kd.slice 3 (Kd.int .i64)) 28 wc w.heap.size (fun k_=>some k_≠((.slice (some ad141) t138.length co15):Value).ownBlock) u9 x9_5)∧Aside0 (Below w.heap.size w wc))
                   case first =>
                    have H:=HC23.out;clear HC23;by_cases c24:x12_2=1
                    ·
                     rw[if_pos c24] at H;have c24b0:(x12_2 == 1)=true:=beq_iff_eq.mpr c24;have c24b1:(x12_2 != 1)=false:=bne_eq_false_iff_eq.mpr c24;clear c24;(first|rw[c24b0]|(simp only[i64_w,i32_w];rw[c24b0])|skip)
                     have H':=am' H;clear H;go_wp2;go_meet
                     case rel=>exact ⟨_,(wrap64 (x10_2 - x17_3)),(wrap64 (x11_2 - x18_5)),xs',xs',H',⟨by have:=HJ3.out;have:=HK2.out;have:=HK3.out;have:=HJ16.out;have:=HK5.out;have:=HJ19.out;first|omega|exact Nat.le_refl _⟩,⟨kr' HO_8.out⟩,⟨kS' HO_9.out⟩,⟨xb'⟩⟩
                    ·
                     rw[if_neg c24] at H;have c24b0:(x12_2 == 1)=false:=beq_eq_false_iff_ne.mpr c24;have c24b1:(x12_2 != 1)=true:=bne_iff_ne.mpr c24
                     (first|rw[c24b0]|(simp only[i64_w,i32_w];rw[c24b0])|skip)
                     have H':=am' H;clear H;go_wp2;go_meet
                     case rel=>exact ⟨_,(wrap64 (x10_2+x17_3)),(wrap64 (x11_2+x18_5)),xs',xs',H',⟨by have:=HJ3.out;have:=HK2.out;have:=HK3.out;have:=HJ16.out;have:=HK5.out;have:=HJ19.out;first|omega|exact Nat.le_refl _⟩,⟨kr' HO_8.out⟩,⟨kS' HO_9.out⟩,⟨xb'⟩⟩
                   case rest =>
                    clear HC23;try clear c1
                    try clear p1
                    try clear q1
                    try clear hx1
                    try clear qi1
                    try clear c2
                    try clear p2
                    try clear c3
                    try clear c6
                    try clear p6
                    try clear c8
                    try clear c10
                    try clear c10b0
                    try clear c10b1
                    try clear c11
                    try clear c11b0
                    try clear p14
                    try clear q14
                    try clear hx14
                    try clear qi14
                    try clear c16
                    try clear c16b0
                    try clear c18
                    try clear c18b0
                    try clear c19
                    try clear c21
                    try clear c21b0
                    try clear c22
                    try clear c24
                    try clear c24b0
                    try clear c24b1
                    try clear hx141_0
                    try clear hx142_0
                    try clear p1
                    try clear p14
                    try clear p141
                    try clear p142
                    try clear p2
                    try clear p6
                    try clear q1
                    try clear q14
                    try clear q141
                    try clear q142
                    obtain ⟨kq,x19_22,x20_22,rfl,rfl,HA,HJ22,HO_8,HO_9,HB⟩:=hcut;cases kq with
                    | zero=>exact absurd HA.out (by simp[spec_FirstForGuards.j6])
                    | succ kj22 =>
                     have H:=HA.out;clear HA;simp only[spec_FirstForGuards.j6] at H;have HC25:=am' H;clear H;go_upto_region 23 with (fail)
                     go_cut [102] (fun v102 wc=>∃ (kq:Nat) (x102_24:Bool),v102 = .bool x102_24∧Aside0 (spec_FirstForGuards.j7 kq a0 a1 a2 t138 x9_5 x10_2 x11_2 x12_2 x13_2 x14_5 x15_5 x16_5 x17_3 x18_5 x19_22 x20_22 x102_24=some (r1,r2))∧Aside0 (kq≤kj22)∧Aside0 (Kd.R (Kd.int .i64) 3 wc w.heap.size (fun _=>True) (.slice (some ad141) t138.length co15) t138)∧Aside0 (Kd.S (Kd.slice 3 (Kd.int .i64)) 28 wc w.heap.size (fun k_=>some k_≠((.slice (some ad141) t138.length co15):Value).ownBlock) u9 x9_5)∧Aside0 (Below w.heap.size w wc))
                     case first =>
                      have H:=HC25.out;clear HC25;by_cases c26:(wrap64 (x17_3+x18_5))=0
                      ·
                       rw[if_pos c26] at H;have c26b0:((wrap64 (x17_3+x18_5)) == 0)=true:=beq_iff_eq.mpr c26;have c26b1:((wrap64 (x17_3+x18_5)) != 0)=false:=bne_eq_false_iff_eq.mpr c26;clear c26;(first|rw[c26b0]|(simp only[i64_w,i32_w];rw[c26b0])|skip)
                       have H':=am' H;clear H;go_wp2;go_meet
                       case rel=>exact ⟨_,(true),xs',H',⟨by have:=HJ3.out;have:=HK2.out;have:=HK3.out;have:=HJ16.out;have:=HK5.out;have:=HJ19.out;have:=HJ22.out;first|omega|exact Nat.le_refl _⟩,⟨kr' HO_8.out⟩,⟨kS' HO_9.out⟩,⟨xb'⟩⟩
                      ·
                       rw[if_neg c26] at H;have c26b0:((wrap64 (x17_3+x18_5)) == 0)=false:=beq_eq_false_iff_ne.mpr c26;have c26b1:((wrap64 (x17_3+x18_5)) != 0)=true:=bne_iff_ne.mpr c26
                       (first|rw[c26b0]|(simp only[i64_w,i32_w];rw[c26b0])|skip)
                       replace H:=Option.bind_eq_some_iff.mp H;obtain ⟨t143,A270,H⟩:=H;replace H:(if t143=true then ((spec_l1In.f x19_22 0 a0).bind fun t144=>(if t144=true then ((spec_l1In.f x20_22 0 a1).bind fun t145=>(spec_FirstForGuards.j7 kj22 a0 a1 a2 t138 x9_5 x10_2 x11_2 x12_2 x13_2 x14_5 x15_5 x16_5 x17_3 x18_5 x19_22 x20_22 (!t145))) else (spec_FirstForGuards.j7 kj22 a0 a1 a2 t138 x9_5 x10_2 x11_2 x12_2 x13_2 x14_5 x15_5 x16_5 x17_3 x18_5 x19_22 x20_22 true))) else (spec_FirstForGuards.j7 kj22 a0 a1 a2 t138 x9_5 x10_2 x11_2 x12_2 x13_2 x14_5 x15_5 x16_5 x17_3 x18_5 x19_22 x20_22 true))=some (r1,r2):=H;have A27:=am' A270;clear A270;by_cases c28:t143=true
                       ·
                        subst c28;have H1:((spec_l1In.f x19_22 0 a0).bind fun t144=>(if t144=true then ((spec_l1In.f x20_22 0 a1).bind fun t145=>(spec_FirstForGuards.j7 kj22 a0 a1 a2 t138 x9_5 x10_2 x11_2 x12_2 x13_2 x14_5 x15_5 x16_5 x17_3 x18_5 x19_22 x20_22 (!t145))) else (spec_FirstForGuards.j7 kj22 a0 a1 a2 t138 x9_5 x10_2 x11_2 x12_2 x13_2 x14_5 x15_5 x16_5 x17_3 x18_5 x19_22 x20_22 true)))=some (r1,r2):=by rw[if_pos rfl] at H;exact H
                        clear H;have H:=H1;clear H1;replace H:=Option.bind_eq_some_iff.mp H;obtain ⟨t144,A290,H⟩:=H;replace H:(if t144=true then ((spec_l1In.f x20_22 0 a1).bind fun t145=>(spec_FirstForGuards.j7 kj22 a0 a1 a2 t138 x9_5 x10_2 x11_2 x12_2 x13_2 x14_5 x15_5 x16_5 x17_3 x18_5 x19_22 x20_22 (!t145))) else (spec_FirstForGuards.j7 kj22 a0 a1 a2 t138 x9_5 x10_2 x11_2 x12_2 x13_2 x14_5 x15_5 x16_5 x17_3 x18_5 x19_22 x20_22 true))=some (r1,r2):=H;have A29:=am' A290;clear A290;by_cases c30:t144=true
                        ·
                         subst c30;have H1:((spec_l1In.f x20_22 0 a1).bind fun t145=>(spec_FirstForGuards.j7 kj22 a0 a1 a2 t138 x9_5 x10_2 x11_2 x12_2 x13_2 x14_5 x15_5 x16_5 x17_3 x18_5 x19_22 x20_22 (!t145)))=some (r1,r2):=by rw[if_pos rfl] at H;exact H
                         clear H;have H:=H1;clear H1;replace H:=Option.bind_eq_some_iff.mp H;obtain ⟨t145,A310,H⟩:=H;replace H:(spec_FirstForGuards.j7 kj22 a0 a1 a2 t138 x9_5 x10_2 x11_2 x12_2 x13_2 x14_5 x15_5 x16_5 x17_3 x18_5 x19_22 x20_22 (!t145))=some (r1,r2):=H;have A31:=am' A310;clear A310;have H':=am' H;clear H;go_wp2_with (first|(go_at_call 31;(with_reducible refine (spec_cuHeld.calls x17_3 x18_5 true _ A27.out).mono ?_);rintro e w' ⟨rfl,⟨nd,rfl⟩⟩)|(go_at_call 33;(with_reducible refine (spec_l1In.calls x19_22 0 a0 true _ A29.out).mono ?_);rintro e w' ⟨rfl,⟨nd,rfl⟩⟩)|(go_at_call 33;(with_reducible refine (spec_l1In.calls x20_22 0 a1 t145 _ A31.out).mono ?_);rintro e w' ⟨rfl,⟨nd,rfl⟩⟩));go_meet
                         case rel=>exact ⟨_,(!t145),xs',H',⟨by have:=HJ3.out;have:=HK2.out;have:=HK3.out;have:=HJ16.out;have:=HK5.out;have:=HJ19.out;have:=HJ22.out;first|omega|exact Nat.le_refl _⟩,⟨kr' HO_8.out⟩,⟨kS' HO_9.out⟩,⟨xb'⟩⟩
                        ·
                         replace c30:=Bool.eq_false_iff.mpr c30;subst c30;have H1:(spec_FirstForGuards.j7 kj22 a0 a1 a2 t138 x9_5 x10_2 x11_2 x12_2 x13_2 x14_5 x15_5 x16_5 x17_3 x18_5 x19_22 x20_22 true)=some (r1,r2):=by rw[if_neg (show ¬ (false=true) by decide)] at H;exact H
                         clear H;have H:=H1;clear H1;have H':=am' H;clear H;go_wp2_with (first|(go_at_call 31;(with_reducible refine (spec_cuHeld.calls x17_3 x18_5 true _ A27.out).mono ?_);rintro e w' ⟨rfl,⟨nd,rfl⟩⟩)|(go_at_call 33;(with_reducible refine (spec_l1In.calls x19_22 0 a0 false _ A29.out).mono ?_);rintro e w' ⟨rfl,⟨nd,rfl⟩⟩));go_meet
                         case rel=>exact ⟨_,(true),xs',H',⟨by have:=HJ3.out;have:=HK2.out;have:=HK3.out;have:=HJ16.out;have:=HK5.out;have:=HJ19.out;have:=HJ22.out;first|omega|exact Nat.le_refl _⟩,⟨kr' HO_8.out⟩,⟨kS' HO_9.out⟩,⟨xb'⟩⟩
                       ·
                        replace c28:=Bool.eq_false_iff.mpr c28;subst c28;have H1:(spec_FirstForGuards.j7 kj22 a0 a1 a2 t138 x9_5 x10_2 x11_2 x12_2 x13_2 x14_5 x15_5 x16_5 x17_3 x18_5 x19_22 x20_22 true)=some (r1,r2):=by rw[if_neg (show ¬ (false=true) by decide)] at H;exact H
                        clear H;have H:=H1;clear H1;have H':=am' H;clear H;go_wp2_with (first|(go_at_call 31;(with_reducible refine (spec_cuHeld.calls x17_3 x18_5 false _ A27.out).mono ?_);rintro e w' ⟨rfl,⟨nd,rfl⟩⟩));go_meet
                        case rel=>exact ⟨_,(true),xs',H',⟨by have:=HJ3.out;have:=HK2.out;have:=HK3.out;have:=HJ16.out;have:=HK5.out;have:=HJ19.out;have:=HJ22.out;first|omega|exact Nat.le_refl _⟩,⟨kr' HO_8.out⟩,⟨kS' HO_9.out⟩,⟨xb'⟩⟩
                     case rest =>
                      clear HC25;try clear c1
                      try clear p1
                      try clear q1
                      try clear hx1
                      try clear qi1
                      try clear c2
                      try clear p2
                      try clear c3
                      try clear c6
                      try clear p6
                      try clear c8
                      try clear c10
                      try clear c10b0
                      try clear c10b1
                      try clear c11
                      try clear c11b0
                      try clear p14
                      try clear q14
                      try clear hx14
                      try clear qi14
                      try clear c16
                      try clear c16b0
                      try clear c18
                      try clear c18b0
                      try clear c19
                      try clear c21
                      try clear c21b0
                      try clear c22
                      try clear c24
                      try clear c24b0
                      try clear c24b1
                      try clear c26
                      try clear c26b0
                      try clear c26b1
                      try clear c28
                      try clear c30
                      try clear hx141_0
                      try clear hx142_0
                      try clear p1
                      try clear p14
                      try clear p141
                      try clear p142
                      try clear p2
                      try clear p6
                      try clear q1
                      try clear q14
                      try clear q141
                      try clear q142
                      obtain ⟨kq,x102_24,rfl,HA,HJ24,HO_8,HO_9,HB⟩:=hcut;cases kq with
                      | zero=>exact absurd HA.out (by simp[spec_FirstForGuards.j7])
                      | succ kj24 =>
                       have H:=HA.out;clear HA;simp only[spec_FirstForGuards.j7] at H;by_cases c32:x102_24=true
                       ·
                        subst c32;have H1:(spec_FirstForGuards.l2 kj24 a0 a1 a2 t138 x9_5 x10_2 x11_2 x12_2 x13_2 x14_5 x15_5 x16_5 x17_3 (wrap64 (x18_5+1)))=some (r1,r2):=by rw[if_pos rfl] at H;exact H
                        clear H;have H:=H1;clear H1;have H':=am' H;clear H;go_wp2;go_roundg kj24
                        case measure=>have:=HJ3.out;have:=HK2.out;have:=HK3.out;have:=HJ16.out;have:=HK5.out;have:=HJ19.out;have:=HJ22.out;have:=HJ24.out;omega
                        case rel=>exact ⟨(x9_5),(x14_5),(x15_5),(x16_5),(wrap64 (x18_5+1)),xs',xs',xs',xs',H',⟨by have:=HJ3.out;have:=HK2.out;have:=HK3.out;have:=HJ16.out;have:=HK5.out;have:=HJ19.out;have:=HJ22.out;have:=HJ24.out;omega⟩,⟨kr' HO_8.out⟩,⟨kS' HO_9.out⟩,⟨xb'⟩⟩
                       ·
                        replace c32:=Bool.eq_false_iff.mpr c32;subst c32;have H1:((spec_cuSpot.f a1 x19_22 x20_22 (wrap64 (1 - x12_2))).bind fun t146=>(if 0≤t146 then (if t146 < (t138.length:Int) then (if (rd t138 t146)=(wrap64 (x13_2 - 1)) then (if x9_5.length < 5864062014805 then (spec_FirstForGuards.l2 kj24 a0 a1 a2 t138 (x9_5 ++ [(([x17_3,x18_5]:List Int))]) x10_2 x11_2 x12_2 x13_2 x19_22 x20_22 true x17_3 (wrap64 (x18_5+1))) else (none)) else (spec_FirstForGuards.l2 kj24 a0 a1 a2 t138 x9_5 x10_2 x11_2 x12_2 x13_2 x14_5 x15_5 x16_5 x17_3 (wrap64 (x18_5+1)))) else (none)) else (none)))=some (r1,r2):=by rw[if_neg (show ¬ (false=true) by decide)] at H;exact H
                        clear H;have H:=H1;clear H1;replace H:=Option.bind_eq_some_iff.mp H;obtain ⟨t146,A330,H⟩:=H;replace H:(if 0≤t146 then (if t146 < (t138.length:Int) then (if (rd t138 t146)=(wrap64 (x13_2 - 1)) then (if x9_5.length < 5864062014805 then (spec_FirstForGuards.l2 kj24 a0 a1 a2 t138 (x9_5 ++ [(([x17_3,x18_5]:List Int))]) x10_2 x11_2 x12_2 x13_2 x19_22 x20_22 true x17_3 (wrap64 (x18_5+1))) else (none)) else (spec_FirstForGuards.l2 kj24 a0 a1 a2 t138 x9_5 x10_2 x11_2 x12_2 x13_2 x14_5 x15_5 x16_5 x17_3 (wrap64 (x18_5+1)))) else (none)) else (none))=some (r1,r2):=H;have A33:=am' A330;clear A330;by_cases c34:0≤t146
                        ·
                         rw[if_pos c34] at H;have c34b0:decide (0≤t146)=true:=dt' c34;clear c34;by_cases c35:t146 < (t138.length:Int)
                         ·
                          rw[if_pos c35] at H;have c35b0:decide (t146 < (t138.length:Int))=true:=dt' c35;clear c35;by_cases c36:(rd t138 t146)=(wrap64 (x13_2 - 1))
                          ·
                           rw[if_pos c36] at H;have c36b0:((rd t138 t146) == (wrap64 (x13_2 - 1)))=true:=beq_iff_eq.mpr c36;have c36b1:((rd t138 t146) != (wrap64 (x13_2 - 1)))=false:=bne_eq_false_iff_eq.mpr c36;clear c36;obtain ⟨y148,hy148⟩:∃ y_:List Int,y_=(([x17_3,x18_5]:List Int)):=⟨_,rfl⟩
                           replace H:(if x9_5.length < 5864062014805 then (spec_FirstForGuards.l2 kj24 a0 a1 a2 t138 (x9_5 ++ [y148]) x10_2 x11_2 x12_2 x13_2 x19_22 x20_22 true x17_3 (wrap64 (x18_5+1))) else (none))=some (r1,r2):=by first|(rw[hy148];with_reducible exact H)|(have H2_:=(Option.bind_some _ _).symm.trans H;rw[hy148];with_reducible exact H2_)|(have H2_:=(Option.bind_some _ _).symm.trans H;with_reducible exact H2_)|with_reducible exact H|(rw[hy148];exact H)|exact H
                           have Ny148:=am' hy148;clear hy148;by_cases c37:x9_5.length < 5864062014805
                           ·
                            rw[if_pos c37] at H;have LMc37:=am' c37;clear c37;obtain ⟨y151,hy151⟩:∃ y_:List (List Int),y_=(x9_5 ++ [y148]):=⟨_,rfl⟩
                            replace H:(spec_FirstForGuards.l2 kj24 a0 a1 a2 t138 y151 x10_2 x11_2 x12_2 x13_2 x19_22 x20_22 true x17_3 (wrap64 (x18_5+1)))=some (r1,r2):=by first|(rw[hy151];with_reducible exact H)|(have H2_:=(Option.bind_some _ _).symm.trans H;rw[hy151];with_reducible exact H2_)|(have H2_:=(Option.bind_some _ _).symm.trans H;with_reducible exact H2_)|with_reducible exact H|(rw[hy151];exact H)|exact H
                            have Ny151:=am' hy151;clear hy151;have H':=am' H;clear H;go_wp2_with (first|((with_reducible refine gate_callee (f:=34) rfl ?_);refine goesL_ (some 109) rfl rfl Try.func34 xk' rfl #[.int .i64 a1, .int .i64 x19_22, .int .i64 x20_22, .int .i64 (wrap64 (1 - x12_2))] rfl xl' ?_;(with_reducible refine (spec_cuSpot.calls a1 x19_22 x20_22 (wrap64 (1 - x12_2)) t146 _ A33.out).mono ?_);rintro e w' ⟨rfl,⟨nd,rfl⟩⟩;refine ⟨_,rfl,?_⟩;have p147:0≤(t146:Int):=od' xa';have q147:t146 < (t138.length:Int):=od' xa';obtain ⟨ad147,e147,hx147_0⟩:=Kd.at_int (Kd.R_reads' HO_8.out).2.2 t146 p147 q147;obtain rfl:ad141=ad147:=(by injection e147);replace p147:=eq_true p147;replace q147:=eq_true q147)|((with_reducible refine gate_dst (N:=120) rfl ?_);refine Kd.R_lit (Kd.int .i64) _ 3 ?hg (N:=120) ?hd (xs:=([x17_3,x18_5]:List Int)) (inner:=[.int .i64 x17_3, .int .i64 x18_5]) (ok:=fun _=>True) (okp:=fun _=>True) ?hr ?hp (fun _ hk=>hk) trivial (Below.refl _ _) (Nat.le_refl _) (by simp) ?_;(case hd=>rfl);(case hg=>rfl);(case hr=>first|(go_simp;done)|(go_simp;rfl));(case hp=>exact (Reps.one (show Kd.M (Kd.int .i64) _ _ _ x17_3 [.int .i64 x17_3] from rfl) (Reps.one (show Kd.M (Kd.int .i64) _ _ _ x18_5 [.int .i64 x18_5] from rfl) (Reps.none _ _))));intro v149 w38 ho39 hb hg_ hnew_;clear hg_ hnew_;(first|rw[← Ny148.out] at ho39|(simp only[Int.reduceToNat] at ho39;rw[← Ny148.out] at ho39));have n0_:=am' (Kd.R_elder' (kr' HO_8.out) (Kd.R_base ho39) hb);have n1_:=am' (Kd.S_elder' (kS' HO_9.out) (Kd.R_base ho39) hb);have n2_:=am' (Kd.R_lower (Kd.R_new' ho39 (Kd.R_lt (kr' HO_8.out))) (bz' xb'));have n3_:=am' (bt' xb' hb);clear HO_8;clear HO_9;clear HB;have HO_8:=n0_;have HO_9:=n1_;have HO150:=n2_;have HB:=n3_;clear n0_ n1_ n2_ n3_;clear hb ho39;obtain ⟨Ao41,co41,eo41⟩:=Kd.R_slice HO150.out;subst eo41)|((with_reducible refine gate_builtin (b := .append) (xs:=#[.tmp 117, .tmp 121]) rfl ?_);at_builtin;refine Kd.S_append (Kd.slice 3 (Kd.int .i64)) (w0:=w) w.heap.size rfl (.tmp 117) (.tmp 121) 22 28 (.slice none 0 0) 24 rfl Try.underlying22 info28 rfl (by decide) (by omega) u9 x9_5 y148 [.slice Ao41 y148.length co41] (fun k_=>some k_≠(.slice (some ad141) t138.length co15:Value).ownBlock) (fun k_=>some k_=(.slice Ao41 y148.length co41:Value).ownBlock) rfl rfl ?aP (fun k_ hk_=>((Kd.R_mono (ok':=fun k_=>((fun k_=>some k_≠(.slice (some ad141) t138.length co15:Value).ownBlock)) k_∧some k_≠(u9:Value).ownBlock) (Kd.R_apart' (HO150.out) (Kd.S_typed HO_9.out) (by decide)) (fun k_ hk=>⟨hk.1.2,hk.2⟩))).1 k_ hk_.symm) ?aF ?aO ?aB ?aS ?aL ?_;(case aP=>exact Kd.M_row (Kd.R_mono (Kd.R_tight rfl (Kd.R_mono (ok':=fun k_=>((fun k_=>some k_≠(.slice (some ad141) t138.length co15:Value).ownBlock)) k_∧some k_≠(u9:Value).ownBlock) (Kd.R_apart' (HO150.out) (Kd.S_typed HO_9.out) (by decide)) (fun k_ hk=>⟨hk.1.2,hk.2⟩))) (fun _ h_=>h_)));(case aB=>exact xb');(case aF=>exact (fun k_ hk=>Kd.fresh' (Kd.R_lt (kr' HO_8.out)) k_ hk));(case aO=>exact (by (with_reducible repeat (first|apply Kd.S_alloc|apply Kd.S_drewN|apply Kd.S_drew));exact Kd.S_mono HO_9.out (fun k_ hk=>⟨hk.1,fun e_=>hk.2 e_⟩)));(case aS=>exact (bz' xb'));(case aL=>have:=LMc37.out;omega);intro v152 w40 ho hb hg hat;rw[← Ny151.out] at ho;have n0_:=am' (Kd.R_over' (kr' HO_8.out) (Kd.S_typed (kS' HO_9.out)) (by decide) hg);have n1_:=am' (hb);have n2_:=am' (ho);clear HO_8;clear HB;clear HO_9;clear HO150;have HO_8:=n0_;have HB:=n1_;have HO153:=n2_;clear n0_ n1_ n2_;clear ho hb hg hat))
                            go_roundg kj24
                            case measure=>have:=HJ3.out;have:=HK2.out;have:=HK3.out;have:=HJ16.out;have:=HK5.out;have:=HJ19.out;have:=HJ22.out;have:=HJ24.out;omega
                            case rel=>exact ⟨(y151),(x19_22),(x20_22),(true),(wrap64 (x18_5+1)),xs',xs',xs',xs',H',⟨by have:=HJ3.out;have:=HK2.out;have:=HK3.out;have:=HJ16.out;have:=HK5.out;have:=HJ19.out;have:=HJ22.out;have:=HJ24.out;omega⟩,⟨by (with_reducible repeat (first|apply ra'|apply rn'|apply rw'));exact Kd.R_mono HO_8.out (fun _ hk=>trivial)⟩,⟨kS' HO153.out⟩,⟨xb'⟩⟩
                           ·
                            rw[if_neg c37] at H;exact absurd H (by simp)
                          ·
                           rw[if_neg c36] at H;have c36b0:((rd t138 t146) == (wrap64 (x13_2 - 1)))=false:=beq_eq_false_iff_ne.mpr c36;have c36b1:((rd t138 t146) != (wrap64 (x13_2 - 1)))=true:=bne_iff_ne.mpr c36;have H':=am' H;clear H;go_wp2_with (first|((with_reducible refine gate_callee (f:=34) rfl ?_);refine goesL_ (some 109) rfl rfl Try.func34 xk' rfl #[.int .i64 a1, .int .i64 x19_22, .int .i64 x20_22, .int .i64 (wrap64 (1 - x12_2))] rfl xl' ?_;(with_reducible refine (spec_cuSpot.calls a1 x19_22 x20_22 (wrap64 (1 - x12_2)) t146 _ A33.out).mono ?_);rintro e w' ⟨rfl,⟨nd,rfl⟩⟩;refine ⟨_,rfl,?_⟩;have p147:0≤(t146:Int):=od' xa';have q147:t146 < (t138.length:Int):=od' xa';obtain ⟨ad147,e147,hx147_0⟩:=Kd.at_int (Kd.R_reads' HO_8.out).2.2 t146 p147 q147;obtain rfl:ad141=ad147:=(by injection e147);replace p147:=eq_true p147;replace q147:=eq_true q147));go_roundg kj24
                           case measure=>have:=HJ3.out;have:=HK2.out;have:=HK3.out;have:=HJ16.out;have:=HK5.out;have:=HJ19.out;have:=HJ22.out;have:=HJ24.out;omega
                           case rel=>exact ⟨(x9_5),(x14_5),(x15_5),(x16_5),(wrap64 (x18_5+1)),xs',xs',xs',xs',H',⟨by have:=HJ3.out;have:=HK2.out;have:=HK3.out;have:=HJ16.out;have:=HK5.out;have:=HJ19.out;have:=HJ22.out;have:=HJ24.out;omega⟩,⟨kr' HO_8.out⟩,⟨kS' HO_9.out⟩,⟨xb'⟩⟩
                         ·
                          rw[if_neg c35] at H;exact absurd H (by simp)
                        ·
                         rw[if_neg c34] at H;exact absurd H (by simp)
                  ·
                   replace c22:=Bool.eq_false_iff.mpr c22;subst c22;have H1:(spec_FirstForGuards.l1 kj19 a0 a1 a2 t138 x9_5 x10_2 x11_2 x12_2 x13_2 x14_5 x15_5 x16_5 (wrap64 (x17_3+1)))=some (r1,r2):=by rw[if_neg (show ¬ (false=true) by decide)] at H;exact H
                   clear H;have H:=H1;clear H1;have H':=am' H;clear H;go_wp2;go_roundg kj19
                   case measure=>have:=HJ3.out;have:=HK2.out;have:=HK3.out;have:=HJ16.out;have:=HK5.out;have:=HJ19.out;omega
                   case rel=>exact ⟨(x9_5),(x14_5),(x15_5),(x16_5),(wrap64 (x17_3+1)),xs',xs',xs',xs',H',⟨by have:=HJ3.out;have:=HK2.out;have:=HK3.out;have:=HJ16.out;have:=HK5.out;have:=HJ19.out;omega⟩,⟨kr' HO_8.out⟩,⟨kS' HO_9.out⟩,⟨xb'⟩⟩
             ·
              replace c19:=Bool.eq_false_iff.mpr c19;subst c19;have H1:(spec_FirstForGuards.l0 kj16 a0 a1 a2 t138 x9_3 x14_3 x15_3 (wrap64 (1 - x12_2)) (wrap64 (x13_2 - 1)))=some (r1,r2):=by rw[if_neg (show ¬ (false=true) by decide)] at H;exact H
              clear H;have H:=H1;clear H1;have H':=am' H;clear H;go_wp2;go_roundg kj16
              case measure=>have:=HJ3.out;have:=HK2.out;have:=HK3.out;have:=HJ16.out;omega
              case rel=>exact ⟨(x9_3),(x14_3),(x15_3),(wrap64 (1 - x12_2)),(wrap64 (x13_2 - 1)),xs',xs',xs',xs',H',⟨by have:=HJ3.out;have:=HK2.out;have:=HK3.out;have:=HJ16.out;omega⟩,⟨kr' HO_8.out⟩,⟨kS' HO_9.out⟩,⟨xb'⟩⟩
        ·
         rw[if_neg c16] at H;have c16b0:decide (0 < x13_2)=false:=df' c16;clear c16;simp only[Option.some.injEq,Prod.mk.injEq] at H;obtain ⟨rfl,rfl⟩:=H;go_wp2;go_ret2
         exact ⟨_,by first|rfl|(simp[errW_none,errW_some] <;> rfl)|(simp[*,errW_none,errW_some] <;> rfl),by (with_reducible repeat (first|apply Kd.S_alloc|apply Kd.S_drewN|apply Kd.S_drew));exact Kd.S_mono HO_9.out (fun _ hk=>trivial),xb'⟩
    ·
     rw[if_neg c10] at H;exact absurd H (by simp)
end Go.Proofs.Ytabhhkiipilghaa.C1
