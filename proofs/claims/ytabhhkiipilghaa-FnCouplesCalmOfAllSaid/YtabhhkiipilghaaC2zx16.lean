import Derived.Test.YtabhhkiipilghaaC2zx0
import Derived.Test.YtabhhkiipilghaaC2zx1
import Derived.Test.YtabhhkiipilghaaC2zx3
import Derived.Test.YtabhhkiipilghaaC2zx9
import Derived.Test.YtabhhkiipilghaaC2zx10
import Derived.Test.YtabhhkiipilghaaC2zx17
import Derived.Test.YtabhhkiipilghaaC2zx11
import Derived.Test.YtabhhkiipilghaaC2zx14
import Derived.Test.YtabhhkiipilghaaC2zx15
import Derived.Test.YtabhhkiipilghaaC2zAl
namespace Go.Proofs.Ytabhhkiipilghaa.C2
open Go.RowKit Go.Proofs.YtabhhkiipilghaaW.PrintWords Go.Proofs.YtabhhkiipilghaaW.PrintLast Go.Proofs.YtabhhkiipilghaaW.PrintMore Go.Proofs.Ytabhhkiipilghaa.H
attribute [local go_sem] max2_int min2_int max_two min_two max_three min_three max_four min_four
set_option linter.unusedVariables false
set_option linter.unusedSimpArgs false
mutual
def laws_FnCouplesCalmOfAll.j0:Nat→List Int→Int→List Int→Bool→Int→Int→List Bool→Bool→Int→Int→List Bool→Bool→Option (Bool)
 | 0,_,_,_,_,_,_,_,_,_,_,_,_=>none
 | k+1,x4,x5,x6,x58,x332000,x332001,x333000,x333001,x334000,x334001,x335000,x335001=>if x58=true then (some true) else (laws_FnCouplesCalmOfAll.j1 k x4 x5 x6 x332000 x332001 x333000 x333001 x334000 x334001 x335000 x335001)
def laws_FnCouplesCalmOfAll.j1:Nat→List Int→Int→List Int→Int→Int→List Bool→Bool→Int→Int→List Bool→Bool→Option (Bool)
 | 0,_,_,_,_,_,_,_,_,_,_,_=>none
 | k+1,x4,x5,x6,x332000,x332001,x333000,x333001,x334000,x334001,x335000,x335001=>(impl_RowsOf.f k x332000 x332001 x333000 x333001).bind fun bt335=>((spec_RowsOf.f k x332000 x332001 x333000 x333001).bind fun bt339=>((impl_IsCalm.f k x332000 x332001 x333000 x333001).bind fun bt343=>((spec_IsCalm.f k x332000 x332001 x333000 x333001).bind fun bt345=>(if (bt335.2 != bt339.2)=true then (laws_FnCouplesCalmOfAll.j2 k x4 x5 x6 bt335.1 bt335.2 true x332000 x332001 x333000 x333001 x334000 x334001 x335000 x335001) else ((laws_hRows.f k bt335.1 bt339.1).bind fun t347=>(if t347=true then (if (bt343.2 != bt345.2)=true then (laws_FnCouplesCalmOfAll.j2 k x4 x5 x6 bt335.1 bt335.2 true x332000 x332001 x333000 x333001 x334000 x334001 x335000 x335001) else (if (bt343.1 != bt345.1)=true then (laws_FnCouplesCalmOfAll.j2 k x4 x5 x6 bt335.1 bt335.2 true x332000 x332001 x333000 x333001 x334000 x334001 x335000 x335001) else (if bt343.2=true then (if (bt335.2 != bt343.1)=true then (laws_FnCouplesCalmOfAll.j2 k x4 x5 x6 bt335.1 bt335.2 true x332000 x332001 x333000 x333001 x334000 x334001 x335000 x335001) else ((impl_IsCompany.f x332000 x332001).bind fun t348=>(if t348=true then ((impl_IsCompany.f x332000 x332001).bind fun t349=>((spec_IsCompany.f x332000 x332001).bind fun t350=>(laws_FnCouplesCalmOfAll.j2 k x4 x5 x6 bt335.1 bt335.2 (t349 != t350) x332000 x332001 x333000 x333001 x334000 x334001 x335000 x335001))) else (laws_FnCouplesCalmOfAll.j2 k x4 x5 x6 bt335.1 bt335.2 true x332000 x332001 x333000 x333001 x334000 x334001 x335000 x335001)))) else (if (bt335.2 != false)=true then (laws_FnCouplesCalmOfAll.j2 k x4 x5 x6 bt335.1 bt335.2 true x332000 x332001 x333000 x333001 x334000 x334001 x335000 x335001) else ((impl_IsCompany.f x332000 x332001).bind fun t351=>((spec_IsCompany.f x332000 x332001).bind fun t352=>(laws_FnCouplesCalmOfAll.j2 k x4 x5 x6 bt335.1 bt335.2 (t351 != t352) x332000 x332001 x333000 x333001 x334000 x334001 x335000 x335001))))))) else (laws_FnCouplesCalmOfAll.j2 k x4 x5 x6 bt335.1 bt335.2 true x332000 x332001 x333000 x333001 x334000 x334001 x335000 x335001)))))))
def laws_FnCouplesCalmOfAll.j2:Nat→List Int→Int→List Int→List (List Int)→Bool→Bool→Int→Int→List Bool→Bool→Int→Int→List Bool→Bool→Option (Bool)
 | 0,_,_,_,_,_,_,_,_,_,_,_,_,_,_=>none
 | k+1,x4,x5,x6,x15,x16,x124,x332000,x332001,x333000,x333001,x334000,x334001,x335000,x335001=>if x124=true then (some false) else (laws_FnCouplesCalmOfAll.j3 k x4 x5 x6 x15 x16 x332000 x332001 x333000 x333001 x334000 x334001 x335000 x335001)
def laws_FnCouplesCalmOfAll.j3:Nat→List Int→Int→List Int→List (List Int)→Bool→Int→Int→List Bool→Bool→Int→Int→List Bool→Bool→Option (Bool)
 | 0,_,_,_,_,_,_,_,_,_,_,_,_,_=>none
 | k+1,x4,x5,x6,x15,x16,x332000,x332001,x333000,x333001,x334000,x334001,x335000,x335001=>if x16=true then (laws_FnCouplesCalmOfAll.l0 k x4 x5 x6 x15 x15 (x15.length:Int) 0 x332000 x332001 x333000 x333001 x334000 x334001 x335000 x335001) else (laws_FnCouplesCalmOfAll.j5 k x4 x5 x6 x334000 x334001 x335000 x335001)
def laws_FnCouplesCalmOfAll.j5:Nat→List Int→Int→List Int→Int→Int→List Bool→Bool→Option (Bool)
 | 0,_,_,_,_,_,_,_=>none
 | k+1,x4,x5,x6,x334000,x334001,x335000,x335001=>(impl_RowBoat.f k x334000 x334001 x335000 x335001 x4).bind fun bt373=>((spec_RowBoat.f k x334000 x334001 x335000 x335001 x4).bind fun bt379=>((impl_IsCalmGroup.f k x5 x6).bind fun bt385=>((spec_IsCalmGroup.f k x5 x6).bind fun bt387=>(if (bt373.2.2 != bt379.2.2)=true then (laws_FnCouplesCalmOfAll.j6 k x4 x6 bt373.2.2 bt385.1 bt385.2 true x334000 x334001 x335000 x335001 bt373.1 bt373.2.1) else ((laws_hState.f k bt373.1 bt373.2.1 bt379.1 bt379.2.1).bind fun t389=>(if t389=true then (if (bt385.2 != bt387.2)=true then (laws_FnCouplesCalmOfAll.j6 k x4 x6 bt373.2.2 bt385.1 bt385.2 true x334000 x334001 x335000 x335001 bt373.1 bt373.2.1) else (laws_FnCouplesCalmOfAll.j6 k x4 x6 bt373.2.2 bt385.1 bt385.2 (bt385.1 != bt387.1) x334000 x334001 x335000 x335001 bt373.1 bt373.2.1)) else (laws_FnCouplesCalmOfAll.j6 k x4 x6 bt373.2.2 bt385.1 bt385.2 true x334000 x334001 x335000 x335001 bt373.1 bt373.2.1)))))))
def laws_FnCouplesCalmOfAll.j6:Nat→List Int→List Int→Bool→Bool→Bool→Bool→Int→Int→List Bool→Bool→List Bool→Bool→Option (Bool)
 | 0,_,_,_,_,_,_,_,_,_,_,_,_=>none
 | k+1,x4,x6,x34,x37,x38,x259,x334000,x334001,x335000,x335001,x379000,x379001=>if x259=true then (some false) else (laws_FnCouplesCalmOfAll.j7 k x4 x6 x34 x37 x38 x334000 x334001 x335000 x335001 x379000 x379001)
def laws_FnCouplesCalmOfAll.j7:Nat→List Int→List Int→Bool→Bool→Bool→Int→Int→List Bool→Bool→List Bool→Bool→Option (Bool)
 | 0,_,_,_,_,_,_,_,_,_,_,_=>none
 | k+1,x4,x6,x34,x37,x38,x334000,x334001,x335000,x335001,x379000,x379001=>if x34=true then ((impl_RowsOf.f k x334000 x334001 x335000 x335001).bind fun bt390=>(laws_FnCouplesCalmOfAll.l1 k x4 x6 x37 x38 bt390.2 false bt390.1 (bt390.1.length:Int) 0 x335000 x335001 x379000 x379001)) else (laws_FnCouplesCalmOfAll.j9 k x6 x37 x38)
def laws_FnCouplesCalmOfAll.j9:Nat→List Int→Bool→Bool→Option (Bool)
 | 0,_,_,_=>none
 | k+1,x6,x37,x38=>if x38=true then (laws_FnCouplesCalmOfAll.l2 k x6 x37 true x6 (x6.length:Int) 0) else (some true)
def laws_FnCouplesCalmOfAll.l2:Nat→List Int→Bool→Bool→List Int→Int→Int→Option (Bool)
 | 0,_,_,_,_,_,_=>none
 | k+1,x6,x37,x46,x294,x295,x296=>if x296 < x295 then (if 0≤x296 then (if x296 < (x294.length:Int) then (if (Int.tmod (rd x294 x296) 2)=0 then (laws_FnCouplesCalmOfAll.l2 k x6 x37 x46 x294 x295 (wrap64 (x296+1))) else ((laws_hHas.f k x6 (wrap64 ((rd x294 x296) - 1))).bind fun t397=>(if t397=true then (laws_FnCouplesCalmOfAll.l2 k x6 x37 x46 x294 x295 (wrap64 (x296+1))) else (laws_FnCouplesCalmOfAll.l3 k x6 x37 x46 x294 x295 x296 x6 (x6.length:Int) 0)))) else (none)) else (none)) else (some (x46 == x37))
def laws_FnCouplesCalmOfAll.l3:Nat→List Int→Bool→Bool→List Int→Int→Int→List Int→Int→Int→Option (Bool)
 | 0,_,_,_,_,_,_,_,_,_=>none
 | k+1,x6,x37,x46,x294,x295,x296,x309,x310,x311=>if x311 < x310 then (if 0≤x311 then (if x311 < (x309.length:Int) then (if x46=true then (laws_FnCouplesCalmOfAll.l3 k x6 x37 ((Int.tmod (rd x309 x311) 2) == 1) x294 x295 x296 x309 x310 (wrap64 (x311+1))) else (laws_FnCouplesCalmOfAll.l3 k x6 x37 false x294 x295 x296 x309 x310 (wrap64 (x311+1)))) else (none)) else (none)) else (laws_FnCouplesCalmOfAll.l2 k x6 x37 x46 x294 x295 (wrap64 (x296+1)))
def laws_FnCouplesCalmOfAll.l1:Nat→List Int→List Int→Bool→Bool→Bool→Bool→List (List Int)→Int→Int→List Bool→Bool→List Bool→Bool→Option (Bool)
 | 0,_,_,_,_,_,_,_,_,_,_,_,_,_=>none
 | k+1,x4,x6,x37,x38,x42,x43,x267,x268,x269,x335000,x335001,x379000,x379001=>if x269 < x268 then (if 0≤x269 then (if x269 < (x267.length:Int) then (if x43=true then (laws_FnCouplesCalmOfAll.l1 k x4 x6 x37 x38 x42 true x267 x268 (wrap64 (x269+1)) x335000 x335001 x379000 x379001) else ((laws_hSame.f k (rd_L1 x267 x269) x4).bind fun t395=>(laws_FnCouplesCalmOfAll.l1 k x4 x6 x37 x38 x42 t395 x267 x268 (wrap64 (x269+1)) x335000 x335001 x379000 x379001))) else (none)) else (none)) else (if x42=true then (if x43=true then (if (x379001 == x335001)=true then (some false) else (laws_FnCouplesCalmOfAll.j9 k x6 x37 x38)) else (some false)) else (some false))
def laws_FnCouplesCalmOfAll.l0:Nat→List Int→Int→List Int→List (List Int)→List (List Int)→Int→Int→Int→Int→List Bool→Bool→Int→Int→List Bool→Bool→Option (Bool)
 | 0,_,_,_,_,_,_,_,_,_,_,_,_,_,_,_=>none
 | k+1,x4,x5,x6,x15,x126,x127,x128,x332000,x332001,x333000,x333001,x334000,x334001,x335000,x335001=>if x128 < x127 then (if 0≤x128 then (if x128 < (x126.length:Int) then ((impl_RowBoat.f k x332000 x332001 x333000 x333001 (rd_L1 x126 x128)).bind fun bt354=>((impl_IsCalm.f k x332000 x332001 bt354.1 bt354.2.1).bind fun bt360=>((impl_IsCalmGroup.f k x332000 (rd_L1 x126 x128)).bind fun bt362=>((impl_RowBoat.f k x332000 x332001 bt354.1 bt354.2.1 (rd_L1 x126 x128)).bind fun bt364=>(if bt354.2.2=true then (if bt360.2=true then (if bt360.1=true then (if bt362.2=true then (if bt362.1=true then (if bt364.2.2=true then ((laws_hState.f k bt364.1 bt364.2.1 x333000 x333001).bind fun t370=>(if t370=true then (if ((rd_L1 x126 x128).length:Int) < 1 then (some false) else (if ((rd_L1 x126 x128).length:Int) > x332001 then (some false) else (if x128 > 0 then (if 0≤(wrap64 (x128 - 1)) then (if (wrap64 (x128 - 1)) < (x15.length:Int) then ((laws_hBefore.f k (rd_L1 x15 (wrap64 (x128 - 1))) (rd_L1 x126 x128)).bind fun t372=>(if t372=true then (laws_FnCouplesCalmOfAll.l0 k x4 x5 x6 x15 x126 x127 (wrap64 (x128+1)) x332000 x332001 x333000 x333001 x334000 x334001 x335000 x335001) else (some false))) else (none)) else (none)) else (laws_FnCouplesCalmOfAll.l0 k x4 x5 x6 x15 x126 x127 (wrap64 (x128+1)) x332000 x332001 x333000 x333001 x334000 x334001 x335000 x335001)))) else (some false))) else (some false)) else (some false)) else (some false)) else (some false)) else (some false)) else (some false)))))) else (none)) else (none)) else (laws_FnCouplesCalmOfAll.j5 k x4 x5 x6 x334000 x334001 x335000 x335001)
end
def laws_FnCouplesCalmOfAll.f (k:Nat) (a0_0:Int) (a0_1:Int) (l1_0:List Bool) (a1_1:Bool) (a2_0:Int) (a2_1:Int) (l3_0:List Bool) (a3_1:Bool) (l4:List Int) (a5:Int) (l6:List Int):Option (Bool):=if (l4.length:Int) > 10000 then (laws_FnCouplesCalmOfAll.j0 k l4 a5 l6 true a0_0 a0_1 l1_0 a1_1 a2_0 a2_1 l3_0 a3_1) else (laws_FnCouplesCalmOfAll.j0 k l4 a5 l6 (decide ((l6.length:Int) > 10000)) a0_0 a0_1 l1_0 a1_1 a2_0 a2_1 l3_0 a3_1)
theorem laws_FnCouplesCalmOfAll.mono_l:∀ k,(∀ y0 y1 y2 y3 y4 y5 y6 y7 y8 y9 y10 y11,LeO (laws_FnCouplesCalmOfAll.j0 k y0 y1 y2 y3 y4 y5 y6 y7 y8 y9 y10 y11) (laws_FnCouplesCalmOfAll.j0 (k+1) y0 y1 y2 y3 y4 y5 y6 y7 y8 y9 y10 y11))∧(∀ y0 y1 y2 y3 y4 y5 y6 y7 y8 y9 y10,LeO (laws_FnCouplesCalmOfAll.j1 k y0 y1 y2 y3 y4 y5 y6 y7 y8 y9 y10) (laws_FnCouplesCalmOfAll.j1 (k+1) y0 y1 y2 y3 y4 y5 y6 y7 y8 y9 y10))∧(∀ y0 y1 y2 y3 y4 y5 y6 y7 y8 y9 y10 y11 y12 y13,LeO (laws_FnCouplesCalmOfAll.j2 k y0 y1 y2 y3 y4 y5 y6 y7 y8 y9 y10 y11 y12 y13) (laws_FnCouplesCalmOfAll.j2 (k+1) y0 y1 y2 y3 y4 y5 y6 y7 y8 y9 y10 y11 y12 y13))∧(∀ y0 y1 y2 y3 y4 y5 y6 y7 y8 y9 y10 y11 y12,LeO (laws_FnCouplesCalmOfAll.j3 k y0 y1 y2 y3 y4 y5 y6 y7 y8 y9 y10 y11 y12) (laws_FnCouplesCalmOfAll.j3 (k+1) y0 y1 y2 y3 y4 y5 y6 y7 y8 y9 y10 y11 y12))∧(∀ y0 y1 y2 y3 y4 y5 y6,LeO (laws_FnCouplesCalmOfAll.j5 k y0 y1 y2 y3 y4 y5 y6) (laws_FnCouplesCalmOfAll.j5 (k+1) y0 y1 y2 y3 y4 y5 y6))∧(∀ y0 y1 y2 y3 y4 y5 y6 y7 y8 y9 y10 y11,LeO (laws_FnCouplesCalmOfAll.j6 k y0 y1 y2 y3 y4 y5 y6 y7 y8 y9 y10 y11) (laws_FnCouplesCalmOfAll.j6 (k+1) y0 y1 y2 y3 y4 y5 y6 y7 y8 y9 y10 y11))∧(∀ y0 y1 y2 y3 y4 y5 y6 y7 y8 y9 y10,LeO (laws_FnCouplesCalmOfAll.j7 k y0 y1 y2 y3 y4 y5 y6 y7 y8 y9 y10) (laws_FnCouplesCalmOfAll.j7 (k+1) y0 y1 y2 y3 y4 y5 y6 y7 y8 y9 y10))∧(∀ y0 y1 y2,LeO (laws_FnCouplesCalmOfAll.j9 k y0 y1 y2) (laws_FnCouplesCalmOfAll.j9 (k+1) y0 y1 y2))∧(∀ y0 y1 y2 y3 y4 y5,LeO (laws_FnCouplesCalmOfAll.l2 k y0 y1 y2 y3 y4 y5) (laws_FnCouplesCalmOfAll.l2 (k+1) y0 y1 y2 y3 y4 y5))∧(∀ y0 y1 y2 y3 y4 y5 y6 y7 y8,LeO (laws_FnCouplesCalmOfAll.l3 k y0 y1 y2 y3 y4 y5 y6 y7 y8) (laws_FnCouplesCalmOfAll.l3 (k+1) y0 y1 y2 y3 y4 y5 y6 y7 y8))∧(∀ y0 y1 y2 y3 y4 y5 y6 y7 y8 y9 y10 y11 y12,LeO (laws_FnCouplesCalmOfAll.l1 k y0 y1 y2 y3 y4 y5 y6 y7 y8 y9 y10 y11 y12) (laws_FnCouplesCalmOfAll.l1 (k+1) y0 y1 y2 y3 y4 y5 y6 y7 y8 y9 y10 y11 y12))∧(∀ y0 y1 y2 y3 y4 y5 y6 y7 y8 y9 y10 y11 y12 y13 y14,LeO (laws_FnCouplesCalmOfAll.l0 k y0 y1 y2 y3 y4 y5 y6 y7 y8 y9 y10 y11 y12 y13 y14) (laws_FnCouplesCalmOfAll.l0 (k+1) y0 y1 y2 y3 y4 y5 y6 y7 y8 y9 y10 y11 y12 y13 y14))
 | 0=>⟨fun _ _ _ _ _ _ _ _ _ _ _ _ r h=>by simp[laws_FnCouplesCalmOfAll.j0] at h,fun _ _ _ _ _ _ _ _ _ _ _ r h=>by simp[laws_FnCouplesCalmOfAll.j1] at h,fun _ _ _ _ _ _ _ _ _ _ _ _ _ _ r h=>by simp[laws_FnCouplesCalmOfAll.j2] at h,fun _ _ _ _ _ _ _ _ _ _ _ _ _ r h=>by simp[laws_FnCouplesCalmOfAll.j3] at h,fun _ _ _ _ _ _ _ r h=>by simp[laws_FnCouplesCalmOfAll.j5] at h,fun _ _ _ _ _ _ _ _ _ _ _ _ r h=>by simp[laws_FnCouplesCalmOfAll.j6] at h,fun _ _ _ _ _ _ _ _ _ _ _ r h=>by simp[laws_FnCouplesCalmOfAll.j7] at h,fun _ _ _ r h=>by simp[laws_FnCouplesCalmOfAll.j9] at h,fun _ _ _ _ _ _ r h=>by simp[laws_FnCouplesCalmOfAll.l2] at h,fun _ _ _ _ _ _ _ _ _ r h=>by simp[laws_FnCouplesCalmOfAll.l3] at h,fun _ _ _ _ _ _ _ _ _ _ _ _ _ r h=>by simp[laws_FnCouplesCalmOfAll.l1] at h,fun _ _ _ _ _ _ _ _ _ _ _ _ _ _ _ r h=>by simp[laws_FnCouplesCalmOfAll.l0] at h⟩
 | k+1=>by
  obtain ⟨ih0,ih1,ih2,ih3,ih4,ih5,ih6,ih7,ih8,ih9,ih10,ih11⟩:=laws_FnCouplesCalmOfAll.mono_l k;refine ⟨?_,?_,?_,?_,?_,?_,?_,?_,?_,?_,?_,?_⟩
  ·
   intro y0 y1 y2 y3 y4 y5 y6 y7 y8 y9 y10 y11;unfold laws_FnCouplesCalmOfAll.j0
   repeat' first
   | (with_reducible exact ih0 _ _ _ _ _ _ _ _ _ _ _ _)
   | (with_reducible exact ih1 _ _ _ _ _ _ _ _ _ _ _)
   | (with_reducible exact ih2 _ _ _ _ _ _ _ _ _ _ _ _ _ _)
   | (with_reducible exact ih3 _ _ _ _ _ _ _ _ _ _ _ _ _)
   | (with_reducible exact ih4 _ _ _ _ _ _ _)
   | (with_reducible exact ih5 _ _ _ _ _ _ _ _ _ _ _ _)
   | (with_reducible exact ih6 _ _ _ _ _ _ _ _ _ _ _)
   | (with_reducible exact ih7 _ _ _)
   | (with_reducible exact ih8 _ _ _ _ _ _)
   | (with_reducible exact ih9 _ _ _ _ _ _ _ _ _)
   | (with_reducible exact ih10 _ _ _ _ _ _ _ _ _ _ _ _ _)
   | (with_reducible exact ih11 _ _ _ _ _ _ _ _ _ _ _ _ _ _ _)
   | (with_reducible exact impl_IsCalm.mono _ _ _ _ _)
   | (with_reducible exact impl_IsCalmGroup.mono _ _ _)
   | (with_reducible exact impl_RowBoat.mono _ _ _ _ _ _)
   | (with_reducible exact impl_RowsOf.mono _ _ _ _ _)
   | (with_reducible exact laws_hBefore.mono _ _ _)
   | (with_reducible exact laws_hHas.mono _ _ _)
   | (with_reducible exact laws_hRows.mono _ _ _)
   | (with_reducible exact laws_hSame.mono _ _ _)
   | (with_reducible exact laws_hState.mono _ _ _ _ _)
   | (with_reducible exact spec_IsCalm.mono _ _ _ _ _)
   | (with_reducible exact spec_IsCalmGroup.mono _ _ _)
   | (with_reducible exact spec_RowBoat.mono _ _ _ _ _ _)
   | (with_reducible exact spec_RowsOf.mono _ _ _ _ _)
   | (with_reducible exact LeO.refl _)
   | (with_reducible exact LeO.none _)
   | (with_reducible refine LeO.ite ?_ ?_)
   | (with_reducible refine LeO.bind ?_ (fun _=>?_))
   | exact ih0 _ _ _ _ _ _ _ _ _ _ _ _
   | exact ih1 _ _ _ _ _ _ _ _ _ _ _
   | exact ih2 _ _ _ _ _ _ _ _ _ _ _ _ _ _
   | exact ih3 _ _ _ _ _ _ _ _ _ _ _ _ _
   | exact ih4 _ _ _ _ _ _ _
   | exact ih5 _ _ _ _ _ _ _ _ _ _ _ _
   | exact ih6 _ _ _ _ _ _ _ _ _ _ _
   | exact ih7 _ _ _
   | exact ih8 _ _ _ _ _ _
   | exact ih9 _ _ _ _ _ _ _ _ _
   | exact ih10 _ _ _ _ _ _ _ _ _ _ _ _ _
   | exact ih11 _ _ _ _ _ _ _ _ _ _ _ _ _ _ _
   | exact impl_IsCalm.mono _ _ _ _ _
   | exact impl_IsCalmGroup.mono _ _ _
   | exact impl_RowBoat.mono _ _ _ _ _ _
   | exact impl_RowsOf.mono _ _ _ _ _
   | exact laws_hBefore.mono _ _ _
   | exact laws_hHas.mono _ _ _
   | exact laws_hRows.mono _ _ _
   | exact laws_hSame.mono _ _ _
   | exact laws_hState.mono _ _ _ _ _
   | exact spec_IsCalm.mono _ _ _ _ _
   | exact spec_IsCalmGroup.mono _ _ _
   | exact spec_RowBoat.mono _ _ _ _ _ _
   | exact spec_RowsOf.mono _ _ _ _ _
   | exact LeO.none _
   | refine LeO.ite ?_ ?_
   | refine LeO.bind ?_ (fun _=>?_)
  ·
   intro y0 y1 y2 y3 y4 y5 y6 y7 y8 y9 y10;unfold laws_FnCouplesCalmOfAll.j1
   repeat' first
   | (with_reducible exact ih0 _ _ _ _ _ _ _ _ _ _ _ _)
   | (with_reducible exact ih1 _ _ _ _ _ _ _ _ _ _ _)
   | (with_reducible exact ih2 _ _ _ _ _ _ _ _ _ _ _ _ _ _)
   | (with_reducible exact ih3 _ _ _ _ _ _ _ _ _ _ _ _ _)
   | (with_reducible exact ih4 _ _ _ _ _ _ _)
   | (with_reducible exact ih5 _ _ _ _ _ _ _ _ _ _ _ _)
   | (with_reducible exact ih6 _ _ _ _ _ _ _ _ _ _ _)
   | (with_reducible exact ih7 _ _ _)
   | (with_reducible exact ih8 _ _ _ _ _ _)
   | (with_reducible exact ih9 _ _ _ _ _ _ _ _ _)
   | (with_reducible exact ih10 _ _ _ _ _ _ _ _ _ _ _ _ _)
   | (with_reducible exact ih11 _ _ _ _ _ _ _ _ _ _ _ _ _ _ _)
   | (with_reducible exact impl_IsCalm.mono _ _ _ _ _)
   | (with_reducible exact impl_IsCalmGroup.mono _ _ _)
   | (with_reducible exact impl_RowBoat.mono _ _ _ _ _ _)
   | (with_reducible exact impl_RowsOf.mono _ _ _ _ _)
   | (with_reducible exact laws_hBefore.mono _ _ _)
   | (with_reducible exact laws_hHas.mono _ _ _)
   | (with_reducible exact laws_hRows.mono _ _ _)
   | (with_reducible exact laws_hSame.mono _ _ _)
   | (with_reducible exact laws_hState.mono _ _ _ _ _)
   | (with_reducible exact spec_IsCalm.mono _ _ _ _ _)
   | (with_reducible exact spec_IsCalmGroup.mono _ _ _)
   | (with_reducible exact spec_RowBoat.mono _ _ _ _ _ _)
   | (with_reducible exact spec_RowsOf.mono _ _ _ _ _)
   | (with_reducible exact LeO.refl _)
   | (with_reducible exact LeO.none _)
   | (with_reducible refine LeO.ite ?_ ?_)
   | (with_reducible refine LeO.bind ?_ (fun _=>?_))
   | exact ih0 _ _ _ _ _ _ _ _ _ _ _ _
   | exact ih1 _ _ _ _ _ _ _ _ _ _ _
   | exact ih2 _ _ _ _ _ _ _ _ _ _ _ _ _ _
   | exact ih3 _ _ _ _ _ _ _ _ _ _ _ _ _
   | exact ih4 _ _ _ _ _ _ _
   | exact ih5 _ _ _ _ _ _ _ _ _ _ _ _
   | exact ih6 _ _ _ _ _ _ _ _ _ _ _
   | exact ih7 _ _ _
   | exact ih8 _ _ _ _ _ _
   | exact ih9 _ _ _ _ _ _ _ _ _
   | exact ih10 _ _ _ _ _ _ _ _ _ _ _ _ _
   | exact ih11 _ _ _ _ _ _ _ _ _ _ _ _ _ _ _
   | exact impl_IsCalm.mono _ _ _ _ _
   | exact impl_IsCalmGroup.mono _ _ _
   | exact impl_RowBoat.mono _ _ _ _ _ _
   | exact impl_RowsOf.mono _ _ _ _ _
   | exact laws_hBefore.mono _ _ _
   | exact laws_hHas.mono _ _ _
   | exact laws_hRows.mono _ _ _
   | exact laws_hSame.mono _ _ _
   | exact laws_hState.mono _ _ _ _ _
   | exact spec_IsCalm.mono _ _ _ _ _
   | exact spec_IsCalmGroup.mono _ _ _
   | exact spec_RowBoat.mono _ _ _ _ _ _
   | exact spec_RowsOf.mono _ _ _ _ _
   | exact LeO.none _
   | refine LeO.ite ?_ ?_
   | refine LeO.bind ?_ (fun _=>?_)
  ·
   intro y0 y1 y2 y3 y4 y5 y6 y7 y8 y9 y10 y11 y12 y13;unfold laws_FnCouplesCalmOfAll.j2
   repeat' first
   | (with_reducible exact ih0 _ _ _ _ _ _ _ _ _ _ _ _)
   | (with_reducible exact ih1 _ _ _ _ _ _ _ _ _ _ _)
   | (with_reducible exact ih2 _ _ _ _ _ _ _ _ _ _ _ _ _ _)
   | (with_reducible exact ih3 _ _ _ _ _ _ _ _ _ _ _ _ _)
   | (with_reducible exact ih4 _ _ _ _ _ _ _)
   | (with_reducible exact ih5 _ _ _ _ _ _ _ _ _ _ _ _)
   | (with_reducible exact ih6 _ _ _ _ _ _ _ _ _ _ _)
   | (with_reducible exact ih7 _ _ _)
   | (with_reducible exact ih8 _ _ _ _ _ _)
   | (with_reducible exact ih9 _ _ _ _ _ _ _ _ _)
   | (with_reducible exact ih10 _ _ _ _ _ _ _ _ _ _ _ _ _)
   | (with_reducible exact ih11 _ _ _ _ _ _ _ _ _ _ _ _ _ _ _)
   | (with_reducible exact impl_IsCalm.mono _ _ _ _ _)
   | (with_reducible exact impl_IsCalmGroup.mono _ _ _)
   | (with_reducible exact impl_RowBoat.mono _ _ _ _ _ _)
   | (with_reducible exact impl_RowsOf.mono _ _ _ _ _)
   | (with_reducible exact laws_hBefore.mono _ _ _)
   | (with_reducible exact laws_hHas.mono _ _ _)
   | (with_reducible exact laws_hRows.mono _ _ _)
   | (with_reducible exact laws_hSame.mono _ _ _)
   | (with_reducible exact laws_hState.mono _ _ _ _ _)
   | (with_reducible exact spec_IsCalm.mono _ _ _ _ _)
   | (with_reducible exact spec_IsCalmGroup.mono _ _ _)
   | (with_reducible exact spec_RowBoat.mono _ _ _ _ _ _)
   | (with_reducible exact spec_RowsOf.mono _ _ _ _ _)
   | (with_reducible exact LeO.refl _)
   | (with_reducible exact LeO.none _)
   | (with_reducible refine LeO.ite ?_ ?_)
   | (with_reducible refine LeO.bind ?_ (fun _=>?_))
   | exact ih0 _ _ _ _ _ _ _ _ _ _ _ _
   | exact ih1 _ _ _ _ _ _ _ _ _ _ _
   | exact ih2 _ _ _ _ _ _ _ _ _ _ _ _ _ _
   | exact ih3 _ _ _ _ _ _ _ _ _ _ _ _ _
   | exact ih4 _ _ _ _ _ _ _
   | exact ih5 _ _ _ _ _ _ _ _ _ _ _ _
   | exact ih6 _ _ _ _ _ _ _ _ _ _ _
   | exact ih7 _ _ _
   | exact ih8 _ _ _ _ _ _
   | exact ih9 _ _ _ _ _ _ _ _ _
   | exact ih10 _ _ _ _ _ _ _ _ _ _ _ _ _
   | exact ih11 _ _ _ _ _ _ _ _ _ _ _ _ _ _ _
   | exact impl_IsCalm.mono _ _ _ _ _
   | exact impl_IsCalmGroup.mono _ _ _
   | exact impl_RowBoat.mono _ _ _ _ _ _
   | exact impl_RowsOf.mono _ _ _ _ _
   | exact laws_hBefore.mono _ _ _
   | exact laws_hHas.mono _ _ _
   | exact laws_hRows.mono _ _ _
   | exact laws_hSame.mono _ _ _
   | exact laws_hState.mono _ _ _ _ _
   | exact spec_IsCalm.mono _ _ _ _ _
   | exact spec_IsCalmGroup.mono _ _ _
   | exact spec_RowBoat.mono _ _ _ _ _ _
   | exact spec_RowsOf.mono _ _ _ _ _
   | exact LeO.none _
   | refine LeO.ite ?_ ?_
   | refine LeO.bind ?_ (fun _=>?_)
  ·
   intro y0 y1 y2 y3 y4 y5 y6 y7 y8 y9 y10 y11 y12;unfold laws_FnCouplesCalmOfAll.j3
   repeat' first
   | (with_reducible exact ih0 _ _ _ _ _ _ _ _ _ _ _ _)
   | (with_reducible exact ih1 _ _ _ _ _ _ _ _ _ _ _)
   | (with_reducible exact ih2 _ _ _ _ _ _ _ _ _ _ _ _ _ _)
   | (with_reducible exact ih3 _ _ _ _ _ _ _ _ _ _ _ _ _)
   | (with_reducible exact ih4 _ _ _ _ _ _ _)
   | (with_reducible exact ih5 _ _ _ _ _ _ _ _ _ _ _ _)
   | (with_reducible exact ih6 _ _ _ _ _ _ _ _ _ _ _)
   | (with_reducible exact ih7 _ _ _)
   | (with_reducible exact ih8 _ _ _ _ _ _)
   | (with_reducible exact ih9 _ _ _ _ _ _ _ _ _)
   | (with_reducible exact ih10 _ _ _ _ _ _ _ _ _ _ _ _ _)
   | (with_reducible exact ih11 _ _ _ _ _ _ _ _ _ _ _ _ _ _ _)
   | (with_reducible exact impl_IsCalm.mono _ _ _ _ _)
   | (with_reducible exact impl_IsCalmGroup.mono _ _ _)
   | (with_reducible exact impl_RowBoat.mono _ _ _ _ _ _)
   | (with_reducible exact impl_RowsOf.mono _ _ _ _ _)
   | (with_reducible exact laws_hBefore.mono _ _ _)
   | (with_reducible exact laws_hHas.mono _ _ _)
   | (with_reducible exact laws_hRows.mono _ _ _)
   | (with_reducible exact laws_hSame.mono _ _ _)
   | (with_reducible exact laws_hState.mono _ _ _ _ _)
   | (with_reducible exact spec_IsCalm.mono _ _ _ _ _)
   | (with_reducible exact spec_IsCalmGroup.mono _ _ _)
   | (with_reducible exact spec_RowBoat.mono _ _ _ _ _ _)
   | (with_reducible exact spec_RowsOf.mono _ _ _ _ _)
   | (with_reducible exact LeO.refl _)
   | (with_reducible exact LeO.none _)
   | (with_reducible refine LeO.ite ?_ ?_)
   | (with_reducible refine LeO.bind ?_ (fun _=>?_))
   | exact ih0 _ _ _ _ _ _ _ _ _ _ _ _
   | exact ih1 _ _ _ _ _ _ _ _ _ _ _
   | exact ih2 _ _ _ _ _ _ _ _ _ _ _ _ _ _
   | exact ih3 _ _ _ _ _ _ _ _ _ _ _ _ _
   | exact ih4 _ _ _ _ _ _ _
   | exact ih5 _ _ _ _ _ _ _ _ _ _ _ _
   | exact ih6 _ _ _ _ _ _ _ _ _ _ _
   | exact ih7 _ _ _
   | exact ih8 _ _ _ _ _ _
   | exact ih9 _ _ _ _ _ _ _ _ _
   | exact ih10 _ _ _ _ _ _ _ _ _ _ _ _ _
   | exact ih11 _ _ _ _ _ _ _ _ _ _ _ _ _ _ _
   | exact impl_IsCalm.mono _ _ _ _ _
   | exact impl_IsCalmGroup.mono _ _ _
   | exact impl_RowBoat.mono _ _ _ _ _ _
   | exact impl_RowsOf.mono _ _ _ _ _
   | exact laws_hBefore.mono _ _ _
   | exact laws_hHas.mono _ _ _
   | exact laws_hRows.mono _ _ _
   | exact laws_hSame.mono _ _ _
   | exact laws_hState.mono _ _ _ _ _
   | exact spec_IsCalm.mono _ _ _ _ _
   | exact spec_IsCalmGroup.mono _ _ _
   | exact spec_RowBoat.mono _ _ _ _ _ _
   | exact spec_RowsOf.mono _ _ _ _ _
   | exact LeO.none _
   | refine LeO.ite ?_ ?_
   | refine LeO.bind ?_ (fun _=>?_)
  ·
   intro y0 y1 y2 y3 y4 y5 y6;unfold laws_FnCouplesCalmOfAll.j5
   repeat' first
   | (with_reducible exact ih0 _ _ _ _ _ _ _ _ _ _ _ _)
   | (with_reducible exact ih1 _ _ _ _ _ _ _ _ _ _ _)
   | (with_reducible exact ih2 _ _ _ _ _ _ _ _ _ _ _ _ _ _)
   | (with_reducible exact ih3 _ _ _ _ _ _ _ _ _ _ _ _ _)
   | (with_reducible exact ih4 _ _ _ _ _ _ _)
   | (with_reducible exact ih5 _ _ _ _ _ _ _ _ _ _ _ _)
   | (with_reducible exact ih6 _ _ _ _ _ _ _ _ _ _ _)
   | (with_reducible exact ih7 _ _ _)
   | (with_reducible exact ih8 _ _ _ _ _ _)
   | (with_reducible exact ih9 _ _ _ _ _ _ _ _ _)
   | (with_reducible exact ih10 _ _ _ _ _ _ _ _ _ _ _ _ _)
   | (with_reducible exact ih11 _ _ _ _ _ _ _ _ _ _ _ _ _ _ _)
   | (with_reducible exact impl_IsCalm.mono _ _ _ _ _)
   | (with_reducible exact impl_IsCalmGroup.mono _ _ _)
   | (with_reducible exact impl_RowBoat.mono _ _ _ _ _ _)
   | (with_reducible exact impl_RowsOf.mono _ _ _ _ _)
   | (with_reducible exact laws_hBefore.mono _ _ _)
   | (with_reducible exact laws_hHas.mono _ _ _)
   | (with_reducible exact laws_hRows.mono _ _ _)
   | (with_reducible exact laws_hSame.mono _ _ _)
   | (with_reducible exact laws_hState.mono _ _ _ _ _)
   | (with_reducible exact spec_IsCalm.mono _ _ _ _ _)
   | (with_reducible exact spec_IsCalmGroup.mono _ _ _)
   | (with_reducible exact spec_RowBoat.mono _ _ _ _ _ _)
   | (with_reducible exact spec_RowsOf.mono _ _ _ _ _)
   | (with_reducible exact LeO.refl _)
   | (with_reducible exact LeO.none _)
   | (with_reducible refine LeO.ite ?_ ?_)
   | (with_reducible refine LeO.bind ?_ (fun _=>?_))
   | exact ih0 _ _ _ _ _ _ _ _ _ _ _ _
   | exact ih1 _ _ _ _ _ _ _ _ _ _ _
   | exact ih2 _ _ _ _ _ _ _ _ _ _ _ _ _ _
   | exact ih3 _ _ _ _ _ _ _ _ _ _ _ _ _
   | exact ih4 _ _ _ _ _ _ _
   | exact ih5 _ _ _ _ _ _ _ _ _ _ _ _
   | exact ih6 _ _ _ _ _ _ _ _ _ _ _
   | exact ih7 _ _ _
   | exact ih8 _ _ _ _ _ _
   | exact ih9 _ _ _ _ _ _ _ _ _
   | exact ih10 _ _ _ _ _ _ _ _ _ _ _ _ _
   | exact ih11 _ _ _ _ _ _ _ _ _ _ _ _ _ _ _
   | exact impl_IsCalm.mono _ _ _ _ _
   | exact impl_IsCalmGroup.mono _ _ _
   | exact impl_RowBoat.mono _ _ _ _ _ _
   | exact impl_RowsOf.mono _ _ _ _ _
   | exact laws_hBefore.mono _ _ _
   | exact laws_hHas.mono _ _ _
   | exact laws_hRows.mono _ _ _
   | exact laws_hSame.mono _ _ _
   | exact laws_hState.mono _ _ _ _ _
   | exact spec_IsCalm.mono _ _ _ _ _
   | exact spec_IsCalmGroup.mono _ _ _
   | exact spec_RowBoat.mono _ _ _ _ _ _
   | exact spec_RowsOf.mono _ _ _ _ _
   | exact LeO.none _
   | refine LeO.ite ?_ ?_
   | refine LeO.bind ?_ (fun _=>?_)
  ·
   intro y0 y1 y2 y3 y4 y5 y6 y7 y8 y9 y10 y11;unfold laws_FnCouplesCalmOfAll.j6
   repeat' first
   | (with_reducible exact ih0 _ _ _ _ _ _ _ _ _ _ _ _)
   | (with_reducible exact ih1 _ _ _ _ _ _ _ _ _ _ _)
   | (with_reducible exact ih2 _ _ _ _ _ _ _ _ _ _ _ _ _ _)
   | (with_reducible exact ih3 _ _ _ _ _ _ _ _ _ _ _ _ _)
   | (with_reducible exact ih4 _ _ _ _ _ _ _)
   | (with_reducible exact ih5 _ _ _ _ _ _ _ _ _ _ _ _)
   | (with_reducible exact ih6 _ _ _ _ _ _ _ _ _ _ _)
   | (with_reducible exact ih7 _ _ _)
   | (with_reducible exact ih8 _ _ _ _ _ _)
   | (with_reducible exact ih9 _ _ _ _ _ _ _ _ _)
   | (with_reducible exact ih10 _ _ _ _ _ _ _ _ _ _ _ _ _)
   | (with_reducible exact ih11 _ _ _ _ _ _ _ _ _ _ _ _ _ _ _)
   | (with_reducible exact impl_IsCalm.mono _ _ _ _ _)
   | (with_reducible exact impl_IsCalmGroup.mono _ _ _)
   | (with_reducible exact impl_RowBoat.mono _ _ _ _ _ _)
   | (with_reducible exact impl_RowsOf.mono _ _ _ _ _)
   | (with_reducible exact laws_hBefore.mono _ _ _)
   | (with_reducible exact laws_hHas.mono _ _ _)
   | (with_reducible exact laws_hRows.mono _ _ _)
   | (with_reducible exact laws_hSame.mono _ _ _)
   | (with_reducible exact laws_hState.mono _ _ _ _ _)
   | (with_reducible exact spec_IsCalm.mono _ _ _ _ _)
   | (with_reducible exact spec_IsCalmGroup.mono _ _ _)
   | (with_reducible exact spec_RowBoat.mono _ _ _ _ _ _)
   | (with_reducible exact spec_RowsOf.mono _ _ _ _ _)
   | (with_reducible exact LeO.refl _)
   | (with_reducible exact LeO.none _)
   | (with_reducible refine LeO.ite ?_ ?_)
   | (with_reducible refine LeO.bind ?_ (fun _=>?_))
   | exact ih0 _ _ _ _ _ _ _ _ _ _ _ _
   | exact ih1 _ _ _ _ _ _ _ _ _ _ _
   | exact ih2 _ _ _ _ _ _ _ _ _ _ _ _ _ _
   | exact ih3 _ _ _ _ _ _ _ _ _ _ _ _ _
   | exact ih4 _ _ _ _ _ _ _
   | exact ih5 _ _ _ _ _ _ _ _ _ _ _ _
   | exact ih6 _ _ _ _ _ _ _ _ _ _ _
   | exact ih7 _ _ _
   | exact ih8 _ _ _ _ _ _
   | exact ih9 _ _ _ _ _ _ _ _ _
   | exact ih10 _ _ _ _ _ _ _ _ _ _ _ _ _
   | exact ih11 _ _ _ _ _ _ _ _ _ _ _ _ _ _ _
   | exact impl_IsCalm.mono _ _ _ _ _
   | exact impl_IsCalmGroup.mono _ _ _
   | exact impl_RowBoat.mono _ _ _ _ _ _
   | exact impl_RowsOf.mono _ _ _ _ _
   | exact laws_hBefore.mono _ _ _
   | exact laws_hHas.mono _ _ _
   | exact laws_hRows.mono _ _ _
   | exact laws_hSame.mono _ _ _
   | exact laws_hState.mono _ _ _ _ _
   | exact spec_IsCalm.mono _ _ _ _ _
   | exact spec_IsCalmGroup.mono _ _ _
   | exact spec_RowBoat.mono _ _ _ _ _ _
   | exact spec_RowsOf.mono _ _ _ _ _
   | exact LeO.none _
   | refine LeO.ite ?_ ?_
   | refine LeO.bind ?_ (fun _=>?_)
  ·
   intro y0 y1 y2 y3 y4 y5 y6 y7 y8 y9 y10;unfold laws_FnCouplesCalmOfAll.j7
   repeat' first
   | (with_reducible exact ih0 _ _ _ _ _ _ _ _ _ _ _ _)
   | (with_reducible exact ih1 _ _ _ _ _ _ _ _ _ _ _)
   | (with_reducible exact ih2 _ _ _ _ _ _ _ _ _ _ _ _ _ _)
   | (with_reducible exact ih3 _ _ _ _ _ _ _ _ _ _ _ _ _)
   | (with_reducible exact ih4 _ _ _ _ _ _ _)
   | (with_reducible exact ih5 _ _ _ _ _ _ _ _ _ _ _ _)
   | (with_reducible exact ih6 _ _ _ _ _ _ _ _ _ _ _)
   | (with_reducible exact ih7 _ _ _)
   | (with_reducible exact ih8 _ _ _ _ _ _)
   | (with_reducible exact ih9 _ _ _ _ _ _ _ _ _)
   | (with_reducible exact ih10 _ _ _ _ _ _ _ _ _ _ _ _ _)
   | (with_reducible exact ih11 _ _ _ _ _ _ _ _ _ _ _ _ _ _ _)
   | (with_reducible exact impl_IsCalm.mono _ _ _ _ _)
   | (with_reducible exact impl_IsCalmGroup.mono _ _ _)
   | (with_reducible exact impl_RowBoat.mono _ _ _ _ _ _)
   | (with_reducible exact impl_RowsOf.mono _ _ _ _ _)
   | (with_reducible exact laws_hBefore.mono _ _ _)
   | (with_reducible exact laws_hHas.mono _ _ _)
   | (with_reducible exact laws_hRows.mono _ _ _)
   | (with_reducible exact laws_hSame.mono _ _ _)
   | (with_reducible exact laws_hState.mono _ _ _ _ _)
   | (with_reducible exact spec_IsCalm.mono _ _ _ _ _)
   | (with_reducible exact spec_IsCalmGroup.mono _ _ _)
   | (with_reducible exact spec_RowBoat.mono _ _ _ _ _ _)
   | (with_reducible exact spec_RowsOf.mono _ _ _ _ _)
   | (with_reducible exact LeO.refl _)
   | (with_reducible exact LeO.none _)
   | (with_reducible refine LeO.ite ?_ ?_)
   | (with_reducible refine LeO.bind ?_ (fun _=>?_))
   | exact ih0 _ _ _ _ _ _ _ _ _ _ _ _
   | exact ih1 _ _ _ _ _ _ _ _ _ _ _
   | exact ih2 _ _ _ _ _ _ _ _ _ _ _ _ _ _
   | exact ih3 _ _ _ _ _ _ _ _ _ _ _ _ _
   | exact ih4 _ _ _ _ _ _ _
   | exact ih5 _ _ _ _ _ _ _ _ _ _ _ _
   | exact ih6 _ _ _ _ _ _ _ _ _ _ _
   | exact ih7 _ _ _
   | exact ih8 _ _ _ _ _ _
   | exact ih9 _ _ _ _ _ _ _ _ _
   | exact ih10 _ _ _ _ _ _ _ _ _ _ _ _ _
   | exact ih11 _ _ _ _ _ _ _ _ _ _ _ _ _ _ _
   | exact impl_IsCalm.mono _ _ _ _ _
   | exact impl_IsCalmGroup.mono _ _ _
   | exact impl_RowBoat.mono _ _ _ _ _ _
   | exact impl_RowsOf.mono _ _ _ _ _
   | exact laws_hBefore.mono _ _ _
   | exact laws_hHas.mono _ _ _
   | exact laws_hRows.mono _ _ _
   | exact laws_hSame.mono _ _ _
   | exact laws_hState.mono _ _ _ _ _
   | exact spec_IsCalm.mono _ _ _ _ _
   | exact spec_IsCalmGroup.mono _ _ _
   | exact spec_RowBoat.mono _ _ _ _ _ _
   | exact spec_RowsOf.mono _ _ _ _ _
   | exact LeO.none _
   | refine LeO.ite ?_ ?_
   | refine LeO.bind ?_ (fun _=>?_)
  ·
   intro y0 y1 y2;unfold laws_FnCouplesCalmOfAll.j9
   repeat' first
   | (with_reducible exact ih0 _ _ _ _ _ _ _ _ _ _ _ _)
   | (with_reducible exact ih1 _ _ _ _ _ _ _ _ _ _ _)
   | (with_reducible exact ih2 _ _ _ _ _ _ _ _ _ _ _ _ _ _)
   | (with_reducible exact ih3 _ _ _ _ _ _ _ _ _ _ _ _ _)
   | (with_reducible exact ih4 _ _ _ _ _ _ _)
   | (with_reducible exact ih5 _ _ _ _ _ _ _ _ _ _ _ _)
   | (with_reducible exact ih6 _ _ _ _ _ _ _ _ _ _ _)
   | (with_reducible exact ih7 _ _ _)
   | (with_reducible exact ih8 _ _ _ _ _ _)
   | (with_reducible exact ih9 _ _ _ _ _ _ _ _ _)
   | (with_reducible exact ih10 _ _ _ _ _ _ _ _ _ _ _ _ _)
   | (with_reducible exact ih11 _ _ _ _ _ _ _ _ _ _ _ _ _ _ _)
   | (with_reducible exact impl_IsCalm.mono _ _ _ _ _)
   | (with_reducible exact impl_IsCalmGroup.mono _ _ _)
   | (with_reducible exact impl_RowBoat.mono _ _ _ _ _ _)
   | (with_reducible exact impl_RowsOf.mono _ _ _ _ _)
   | (with_reducible exact laws_hBefore.mono _ _ _)
   | (with_reducible exact laws_hHas.mono _ _ _)
   | (with_reducible exact laws_hRows.mono _ _ _)
   | (with_reducible exact laws_hSame.mono _ _ _)
   | (with_reducible exact laws_hState.mono _ _ _ _ _)
   | (with_reducible exact spec_IsCalm.mono _ _ _ _ _)
   | (with_reducible exact spec_IsCalmGroup.mono _ _ _)
   | (with_reducible exact spec_RowBoat.mono _ _ _ _ _ _)
   | (with_reducible exact spec_RowsOf.mono _ _ _ _ _)
   | (with_reducible exact LeO.refl _)
   | (with_reducible exact LeO.none _)
   | (with_reducible refine LeO.ite ?_ ?_)
   | (with_reducible refine LeO.bind ?_ (fun _=>?_))
   | exact ih0 _ _ _ _ _ _ _ _ _ _ _ _
   | exact ih1 _ _ _ _ _ _ _ _ _ _ _
   | exact ih2 _ _ _ _ _ _ _ _ _ _ _ _ _ _
   | exact ih3 _ _ _ _ _ _ _ _ _ _ _ _ _
   | exact ih4 _ _ _ _ _ _ _
   | exact ih5 _ _ _ _ _ _ _ _ _ _ _ _
   | exact ih6 _ _ _ _ _ _ _ _ _ _ _
   | exact ih7 _ _ _
   | exact ih8 _ _ _ _ _ _
   | exact ih9 _ _ _ _ _ _ _ _ _
   | exact ih10 _ _ _ _ _ _ _ _ _ _ _ _ _
   | exact ih11 _ _ _ _ _ _ _ _ _ _ _ _ _ _ _
   | exact impl_IsCalm.mono _ _ _ _ _
   | exact impl_IsCalmGroup.mono _ _ _
   | exact impl_RowBoat.mono _ _ _ _ _ _
   | exact impl_RowsOf.mono _ _ _ _ _
   | exact laws_hBefore.mono _ _ _
   | exact laws_hHas.mono _ _ _
   | exact laws_hRows.mono _ _ _
   | exact laws_hSame.mono _ _ _
   | exact laws_hState.mono _ _ _ _ _
   | exact spec_IsCalm.mono _ _ _ _ _
   | exact spec_IsCalmGroup.mono _ _ _
   | exact spec_RowBoat.mono _ _ _ _ _ _
   | exact spec_RowsOf.mono _ _ _ _ _
   | exact LeO.none _
   | refine LeO.ite ?_ ?_
   | refine LeO.bind ?_ (fun _=>?_)
  ·
   intro y0 y1 y2 y3 y4 y5;unfold laws_FnCouplesCalmOfAll.l2
   repeat' first
   | (with_reducible exact ih0 _ _ _ _ _ _ _ _ _ _ _ _)
   | (with_reducible exact ih1 _ _ _ _ _ _ _ _ _ _ _)
   | (with_reducible exact ih2 _ _ _ _ _ _ _ _ _ _ _ _ _ _)
   | (with_reducible exact ih3 _ _ _ _ _ _ _ _ _ _ _ _ _)
   | (with_reducible exact ih4 _ _ _ _ _ _ _)
   | (with_reducible exact ih5 _ _ _ _ _ _ _ _ _ _ _ _)
   | (with_reducible exact ih6 _ _ _ _ _ _ _ _ _ _ _)
   | (with_reducible exact ih7 _ _ _)
   | (with_reducible exact ih8 _ _ _ _ _ _)
   | (with_reducible exact ih9 _ _ _ _ _ _ _ _ _)
   | (with_reducible exact ih10 _ _ _ _ _ _ _ _ _ _ _ _ _)
   | (with_reducible exact ih11 _ _ _ _ _ _ _ _ _ _ _ _ _ _ _)
   | (with_reducible exact impl_IsCalm.mono _ _ _ _ _)
   | (with_reducible exact impl_IsCalmGroup.mono _ _ _)
   | (with_reducible exact impl_RowBoat.mono _ _ _ _ _ _)
   | (with_reducible exact impl_RowsOf.mono _ _ _ _ _)
   | (with_reducible exact laws_hBefore.mono _ _ _)
   | (with_reducible exact laws_hHas.mono _ _ _)
   | (with_reducible exact laws_hRows.mono _ _ _)
   | (with_reducible exact laws_hSame.mono _ _ _)
   | (with_reducible exact laws_hState.mono _ _ _ _ _)
   | (with_reducible exact spec_IsCalm.mono _ _ _ _ _)
   | (with_reducible exact spec_IsCalmGroup.mono _ _ _)
   | (with_reducible exact spec_RowBoat.mono _ _ _ _ _ _)
   | (with_reducible exact spec_RowsOf.mono _ _ _ _ _)
   | (with_reducible exact LeO.refl _)
   | (with_reducible exact LeO.none _)
   | (with_reducible refine LeO.ite ?_ ?_)
   | (with_reducible refine LeO.bind ?_ (fun _=>?_))
   | exact ih0 _ _ _ _ _ _ _ _ _ _ _ _
   | exact ih1 _ _ _ _ _ _ _ _ _ _ _
   | exact ih2 _ _ _ _ _ _ _ _ _ _ _ _ _ _
   | exact ih3 _ _ _ _ _ _ _ _ _ _ _ _ _
   | exact ih4 _ _ _ _ _ _ _
   | exact ih5 _ _ _ _ _ _ _ _ _ _ _ _
   | exact ih6 _ _ _ _ _ _ _ _ _ _ _
   | exact ih7 _ _ _
   | exact ih8 _ _ _ _ _ _
   | exact ih9 _ _ _ _ _ _ _ _ _
   | exact ih10 _ _ _ _ _ _ _ _ _ _ _ _ _
   | exact ih11 _ _ _ _ _ _ _ _ _ _ _ _ _ _ _
   | exact impl_IsCalm.mono _ _ _ _ _
   | exact impl_IsCalmGroup.mono _ _ _
   | exact impl_RowBoat.mono _ _ _ _ _ _
   | exact impl_RowsOf.mono _ _ _ _ _
   | exact laws_hBefore.mono _ _ _
   | exact laws_hHas.mono _ _ _
   | exact laws_hRows.mono _ _ _
   | exact laws_hSame.mono _ _ _
   | exact laws_hState.mono _ _ _ _ _
   | exact spec_IsCalm.mono _ _ _ _ _
   | exact spec_IsCalmGroup.mono _ _ _
   | exact spec_RowBoat.mono _ _ _ _ _ _
   | exact spec_RowsOf.mono _ _ _ _ _
   | exact LeO.none _
   | refine LeO.ite ?_ ?_
   | refine LeO.bind ?_ (fun _=>?_)
  ·
   intro y0 y1 y2 y3 y4 y5 y6 y7 y8;unfold laws_FnCouplesCalmOfAll.l3
   repeat' first
   | (with_reducible exact ih0 _ _ _ _ _ _ _ _ _ _ _ _)
   | (with_reducible exact ih1 _ _ _ _ _ _ _ _ _ _ _)
   | (with_reducible exact ih2 _ _ _ _ _ _ _ _ _ _ _ _ _ _)
   | (with_reducible exact ih3 _ _ _ _ _ _ _ _ _ _ _ _ _)
   | (with_reducible exact ih4 _ _ _ _ _ _ _)
   | (with_reducible exact ih5 _ _ _ _ _ _ _ _ _ _ _ _)
   | (with_reducible exact ih6 _ _ _ _ _ _ _ _ _ _ _)
   | (with_reducible exact ih7 _ _ _)
   | (with_reducible exact ih8 _ _ _ _ _ _)
   | (with_reducible exact ih9 _ _ _ _ _ _ _ _ _)
   | (with_reducible exact ih10 _ _ _ _ _ _ _ _ _ _ _ _ _)
   | (with_reducible exact ih11 _ _ _ _ _ _ _ _ _ _ _ _ _ _ _)
   | (with_reducible exact impl_IsCalm.mono _ _ _ _ _)
   | (with_reducible exact impl_IsCalmGroup.mono _ _ _)
   | (with_reducible exact impl_RowBoat.mono _ _ _ _ _ _)
   | (with_reducible exact impl_RowsOf.mono _ _ _ _ _)
   | (with_reducible exact laws_hBefore.mono _ _ _)
   | (with_reducible exact laws_hHas.mono _ _ _)
   | (with_reducible exact laws_hRows.mono _ _ _)
   | (with_reducible exact laws_hSame.mono _ _ _)
   | (with_reducible exact laws_hState.mono _ _ _ _ _)
   | (with_reducible exact spec_IsCalm.mono _ _ _ _ _)
   | (with_reducible exact spec_IsCalmGroup.mono _ _ _)
   | (with_reducible exact spec_RowBoat.mono _ _ _ _ _ _)
   | (with_reducible exact spec_RowsOf.mono _ _ _ _ _)
   | (with_reducible exact LeO.refl _)
   | (with_reducible exact LeO.none _)
   | (with_reducible refine LeO.ite ?_ ?_)
   | (with_reducible refine LeO.bind ?_ (fun _=>?_))
   | exact ih0 _ _ _ _ _ _ _ _ _ _ _ _
   | exact ih1 _ _ _ _ _ _ _ _ _ _ _
   | exact ih2 _ _ _ _ _ _ _ _ _ _ _ _ _ _
   | exact ih3 _ _ _ _ _ _ _ _ _ _ _ _ _
   | exact ih4 _ _ _ _ _ _ _
   | exact ih5 _ _ _ _ _ _ _ _ _ _ _ _
   | exact ih6 _ _ _ _ _ _ _ _ _ _ _
   | exact ih7 _ _ _
   | exact ih8 _ _ _ _ _ _
   | exact ih9 _ _ _ _ _ _ _ _ _
   | exact ih10 _ _ _ _ _ _ _ _ _ _ _ _ _
   | exact ih11 _ _ _ _ _ _ _ _ _ _ _ _ _ _ _
   | exact impl_IsCalm.mono _ _ _ _ _
   | exact impl_IsCalmGroup.mono _ _ _
   | exact impl_RowBoat.mono _ _ _ _ _ _
   | exact impl_RowsOf.mono _ _ _ _ _
   | exact laws_hBefore.mono _ _ _
   | exact laws_hHas.mono _ _ _
   | exact laws_hRows.mono _ _ _
   | exact laws_hSame.mono _ _ _
   | exact laws_hState.mono _ _ _ _ _
   | exact spec_IsCalm.mono _ _ _ _ _
   | exact spec_IsCalmGroup.mono _ _ _
   | exact spec_RowBoat.mono _ _ _ _ _ _
   | exact spec_RowsOf.mono _ _ _ _ _
   | exact LeO.none _
   | refine LeO.ite ?_ ?_
   | refine LeO.bind ?_ (fun _=>?_)
  ·
   intro y0 y1 y2 y3 y4 y5 y6 y7 y8 y9 y10 y11 y12;unfold laws_FnCouplesCalmOfAll.l1
   repeat' first
   | (with_reducible exact ih0 _ _ _ _ _ _ _ _ _ _ _ _)
   | (with_reducible exact ih1 _ _ _ _ _ _ _ _ _ _ _)
   | (with_reducible exact ih2 _ _ _ _ _ _ _ _ _ _ _ _ _ _)
   | (with_reducible exact ih3 _ _ _ _ _ _ _ _ _ _ _ _ _)
   | (with_reducible exact ih4 _ _ _ _ _ _ _)
   | (with_reducible exact ih5 _ _ _ _ _ _ _ _ _ _ _ _)
   | (with_reducible exact ih6 _ _ _ _ _ _ _ _ _ _ _)
   | (with_reducible exact ih7 _ _ _)
   | (with_reducible exact ih8 _ _ _ _ _ _)
   | (with_reducible exact ih9 _ _ _ _ _ _ _ _ _)
   | (with_reducible exact ih10 _ _ _ _ _ _ _ _ _ _ _ _ _)
   | (with_reducible exact ih11 _ _ _ _ _ _ _ _ _ _ _ _ _ _ _)
   | (with_reducible exact impl_IsCalm.mono _ _ _ _ _)
   | (with_reducible exact impl_IsCalmGroup.mono _ _ _)
   | (with_reducible exact impl_RowBoat.mono _ _ _ _ _ _)
   | (with_reducible exact impl_RowsOf.mono _ _ _ _ _)
   | (with_reducible exact laws_hBefore.mono _ _ _)
   | (with_reducible exact laws_hHas.mono _ _ _)
   | (with_reducible exact laws_hRows.mono _ _ _)
   | (with_reducible exact laws_hSame.mono _ _ _)
   | (with_reducible exact laws_hState.mono _ _ _ _ _)
   | (with_reducible exact spec_IsCalm.mono _ _ _ _ _)
   | (with_reducible exact spec_IsCalmGroup.mono _ _ _)
   | (with_reducible exact spec_RowBoat.mono _ _ _ _ _ _)
   | (with_reducible exact spec_RowsOf.mono _ _ _ _ _)
   | (with_reducible exact LeO.refl _)
   | (with_reducible exact LeO.none _)
   | (with_reducible refine LeO.ite ?_ ?_)
   | (with_reducible refine LeO.bind ?_ (fun _=>?_))
   | exact ih0 _ _ _ _ _ _ _ _ _ _ _ _
   | exact ih1 _ _ _ _ _ _ _ _ _ _ _
   | exact ih2 _ _ _ _ _ _ _ _ _ _ _ _ _ _
   | exact ih3 _ _ _ _ _ _ _ _ _ _ _ _ _
   | exact ih4 _ _ _ _ _ _ _
   | exact ih5 _ _ _ _ _ _ _ _ _ _ _ _
   | exact ih6 _ _ _ _ _ _ _ _ _ _ _
   | exact ih7 _ _ _
   | exact ih8 _ _ _ _ _ _
   | exact ih9 _ _ _ _ _ _ _ _ _
   | exact ih10 _ _ _ _ _ _ _ _ _ _ _ _ _
   | exact ih11 _ _ _ _ _ _ _ _ _ _ _ _ _ _ _
   | exact impl_IsCalm.mono _ _ _ _ _
   | exact impl_IsCalmGroup.mono _ _ _
   | exact impl_RowBoat.mono _ _ _ _ _ _
   | exact impl_RowsOf.mono _ _ _ _ _
   | exact laws_hBefore.mono _ _ _
   | exact laws_hHas.mono _ _ _
   | exact laws_hRows.mono _ _ _
   | exact laws_hSame.mono _ _ _
   | exact laws_hState.mono _ _ _ _ _
   | exact spec_IsCalm.mono _ _ _ _ _
   | exact spec_IsCalmGroup.mono _ _ _
   | exact spec_RowBoat.mono _ _ _ _ _ _
   | exact spec_RowsOf.mono _ _ _ _ _
   | exact LeO.none _
   | refine LeO.ite ?_ ?_
   | refine LeO.bind ?_ (fun _=>?_)
  ·
   intro y0 y1 y2 y3 y4 y5 y6 y7 y8 y9 y10 y11 y12 y13 y14;unfold laws_FnCouplesCalmOfAll.l0
   repeat' first
   | (with_reducible exact ih0 _ _ _ _ _ _ _ _ _ _ _ _)
   | (with_reducible exact ih1 _ _ _ _ _ _ _ _ _ _ _)
   | (with_reducible exact ih2 _ _ _ _ _ _ _ _ _ _ _ _ _ _)
   | (with_reducible exact ih3 _ _ _ _ _ _ _ _ _ _ _ _ _)
   | (with_reducible exact ih4 _ _ _ _ _ _ _)
   | (with_reducible exact ih5 _ _ _ _ _ _ _ _ _ _ _ _)
   | (with_reducible exact ih6 _ _ _ _ _ _ _ _ _ _ _)
   | (with_reducible exact ih7 _ _ _)
   | (with_reducible exact ih8 _ _ _ _ _ _)
   | (with_reducible exact ih9 _ _ _ _ _ _ _ _ _)
   | (with_reducible exact ih10 _ _ _ _ _ _ _ _ _ _ _ _ _)
   | (with_reducible exact ih11 _ _ _ _ _ _ _ _ _ _ _ _ _ _ _)
   | (with_reducible exact impl_IsCalm.mono _ _ _ _ _)
   | (with_reducible exact impl_IsCalmGroup.mono _ _ _)
   | (with_reducible exact impl_RowBoat.mono _ _ _ _ _ _)
   | (with_reducible exact impl_RowsOf.mono _ _ _ _ _)
   | (with_reducible exact laws_hBefore.mono _ _ _)
   | (with_reducible exact laws_hHas.mono _ _ _)
   | (with_reducible exact laws_hRows.mono _ _ _)
   | (with_reducible exact laws_hSame.mono _ _ _)
   | (with_reducible exact laws_hState.mono _ _ _ _ _)
   | (with_reducible exact spec_IsCalm.mono _ _ _ _ _)
   | (with_reducible exact spec_IsCalmGroup.mono _ _ _)
   | (with_reducible exact spec_RowBoat.mono _ _ _ _ _ _)
   | (with_reducible exact spec_RowsOf.mono _ _ _ _ _)
   | (with_reducible exact LeO.refl _)
   | (with_reducible exact LeO.none _)
   | (with_reducible refine LeO.ite ?_ ?_)
   | (with_reducible refine LeO.bind ?_ (fun _=>?_))
   | exact ih0 _ _ _ _ _ _ _ _ _ _ _ _
   | exact ih1 _ _ _ _ _ _ _ _ _ _ _
   | exact ih2 _ _ _ _ _ _ _ _ _ _ _ _ _ _
   | exact ih3 _ _ _ _ _ _ _ _ _ _ _ _ _
   | exact ih4 _ _ _ _ _ _ _
   | exact ih5 _ _ _ _ _ _ _ _ _ _ _ _
   | exact ih6 _ _ _ _ _ _ _ _ _ _ _
   | exact ih7 _ _ _
   | exact ih8 _ _ _ _ _ _
   | exact ih9 _ _ _ _ _ _ _ _ _
   | exact ih10 _ _ _ _ _ _ _ _ _ _ _ _ _
   | exact ih11 _ _ _ _ _ _ _ _ _ _ _ _ _ _ _
   | exact impl_IsCalm.mono _ _ _ _ _
   | exact impl_IsCalmGroup.mono _ _ _
   | exact impl_RowBoat.mono _ _ _ _ _ _
   | exact impl_RowsOf.mono _ _ _ _ _
   | exact laws_hBefore.mono _ _ _
   | exact laws_hHas.mono _ _ _
   | exact laws_hRows.mono _ _ _
   | exact laws_hSame.mono _ _ _
   | exact laws_hState.mono _ _ _ _ _
   | exact spec_IsCalm.mono _ _ _ _ _
   | exact spec_IsCalmGroup.mono _ _ _
   | exact spec_RowBoat.mono _ _ _ _ _ _
   | exact spec_RowsOf.mono _ _ _ _ _
   | exact LeO.none _
   | refine LeO.ite ?_ ?_
   | refine LeO.bind ?_ (fun _=>?_)
def laws_FnCouplesCalmOfAll.T7:Bool × List (List Nat × List Nat):=(true,[([],[]),([],[]),([0,1],[0,1]),([2],[2]),([3],[3]),([3],[3]),([4,5,3,3],[3,4,5]),([6,3],[3,6]),([3,7],[3,7]),([8,6],[8]),([9],[9]),([9],[9]),([10,11,9],[9,10,11]),([9,12],[9,12]),([13,9],[13]),([14],[14]),([14],[14]),([15,16,14],[14,15,16]),([14,17],[14,17]),([18,14],[18]),([19],[19]),([19],[19]),([21,19,19],[19,21]),([22],[22]),([22,23,19],[19,22,23]),([20,24,19],[19,20,24]),([19,25],[19,25]),([26,22],[26]),([27],[27]),([28,27,27],[27,28]),([29],[29]),([30,29,29],[29,30]),([31,29],[29,31]),([29,32,27],[27,29,32]),([27,33],[27,33]),([34,31],[34]),([35],[35]),([36,35,35],[35,36]),([35],[35]),([38,37,35],[35,38]),([37,39,35],[35,37,39]),([35,40],[35,40])])
def laws_FnCouplesCalmOfAll.B7:List Nat:=[0,0,3,7,15,15,63,127,255,511,1023,1023,4095,8191,16383,32767,32767,131071,262143,524287,1048575,1048575,3145727,7340031,15728639,33554431,67108863,134217727,268435455,536870911,1073741823,2147483647,4294967295,8589934591,17179869183,34359738367,68719476735,137438953471,68719476735,549755813887,1099511627775,2199023255551]
theorem laws_FnCouplesCalmOfAll.tab7:rtab .any (opsOf Try.f4 7)=laws_FnCouplesCalmOfAll.T7:=by kernel_rfl
theorem laws_FnCouplesCalmOfAll.bits7:waitsOk laws_FnCouplesCalmOfAll.T7.2 laws_FnCouplesCalmOfAll.B7=true:=by kernel_rfl
end Go.Proofs.Ytabhhkiipilghaa.C2
