import Derived.Test.YtabhhkiipilghaaC1zx0
import Derived.Test.YtabhhkiipilghaaC1zx3
import Derived.Test.YtabhhkiipilghaaC1zx6
import Derived.Test.YtabhhkiipilghaaC1zx7
import Derived.Test.YtabhhkiipilghaaC1zx8
import Derived.Test.YtabhhkiipilghaaC1zAl
namespace Go.Proofs.Ytabhhkiipilghaa.C1
open Go.RowKit Go.Proofs.YtabhhkiipilghaaW.PrintWords Go.Proofs.YtabhhkiipilghaaW.PrintLast Go.Proofs.YtabhhkiipilghaaW.PrintMore Go.Proofs.Ytabhhkiipilghaa.H
attribute [local go_sem] max2_int min2_int max_two min_two max_three min_three max_four min_four
set_option linter.unusedVariables false
set_option linter.unusedSimpArgs false
mutual
def laws_FnGuardsOverOfAll.j0:Nat→Int→Int→Int→Int→Int→List (List Int)→Bool→Int→Bool→Option (Bool)
 | 0,_,_,_,_,_,_,_,_,_=>none
 | k+1,x0,x1,x2,x3,x4,x11,x12,x15,x95=>if x95=true then (some false) else (laws_FnGuardsOverOfAll.j1 k x0 x1 x2 x3 x4 x11 x12 x15)
def laws_FnGuardsOverOfAll.j1:Nat→Int→Int→Int→Int→Int→List (List Int)→Bool→Int→Option (Bool)
 | 0,_,_,_,_,_,_,_,_=>none
 | k+1,x0,x1,x2,x3,x4,x11,x12,x15=>if x12=true then (laws_FnGuardsOverOfAll.l0 k x0 x1 x2 x3 x4 x11 x15 0 0 x11 (x11.length:Int) 0) else (laws_FnGuardsOverOfAll.j6 k x3 x4)
def laws_FnGuardsOverOfAll.j6:Nat→Int→Int→Option (Bool)
 | 0,_,_=>none
 | k+1,x3,x4=>(impl_SeatsForGuards.f k x3 x4).bind fun bt194=>((spec_SeatsForGuards.f k x3 x4).bind fun bt196=>((impl_CountGuarded.f k x3 x4).bind fun bt198=>((spec_CountGuarded.f k x3 x4).bind fun bt200=>(if (bt194.2 != bt196.2)=true then (laws_FnGuardsOverOfAll.j7 k x3 x4 bt194.1 bt194.2 bt198.1 bt198.2 true) else (if bt194.1=bt196.1 then (if (bt198.2 != bt200.2)=true then (laws_FnGuardsOverOfAll.j7 k x3 x4 bt194.1 bt194.2 bt198.1 bt198.2 true) else (if bt198.1=bt200.1 then (if bt194.2=true then (laws_FnGuardsOverOfAll.j7 k x3 x4 bt194.1 bt194.2 bt198.1 bt198.2 (!bt198.2)) else (laws_FnGuardsOverOfAll.j7 k x3 x4 bt194.1 bt194.2 bt198.1 bt198.2 false)) else (laws_FnGuardsOverOfAll.j7 k x3 x4 bt194.1 bt194.2 bt198.1 bt198.2 true))) else (laws_FnGuardsOverOfAll.j7 k x3 x4 bt194.1 bt194.2 bt198.1 bt198.2 true))))))
def laws_FnGuardsOverOfAll.j7:Nat→Int→Int→Int→Bool→Int→Bool→Bool→Option (Bool)
 | 0,_,_,_,_,_,_,_=>none
 | k+1,x3,x4,x29,x30,x33,x34,x296=>if x296=true then (some false) else (laws_FnGuardsOverOfAll.j8 k x3 x4 x29 x30 x33 x34)
def laws_FnGuardsOverOfAll.j8:Nat→Int→Int→Int→Bool→Int→Bool→Option (Bool)
 | 0,_,_,_,_,_,_=>none
 | k+1,x3,x4,x29,x30,x33,x34=>if x30=true then ((impl_FewestForGuards.f k x3 x4 x29).bind fun bt202=>((impl_FewestForGuards.f k x3 x4 (wrap64 (x29 - 1))).bind fun bt204=>(if bt202.2=true then (if bt204.2=true then (some false) else (laws_FnGuardsOverOfAll.j9 k x3 x4 x33 x34)) else (some false)))) else (laws_FnGuardsOverOfAll.j9 k x3 x4 x33 x34)
def laws_FnGuardsOverOfAll.j9:Nat→Int→Int→Int→Bool→Option (Bool)
 | 0,_,_,_,_=>none
 | k+1,x3,x4,x33,x34=>if x34=true then (laws_FnGuardsOverOfAll.l1 k x3 x4 x33 0 0) else (some true)
def laws_FnGuardsOverOfAll.l1:Nat→Int→Int→Int→Int→Int→Option (Bool)
 | 0,_,_,_,_,_=>none
 | k+1,x3,x4,x33,x41,x42=>if x42≤x3 then (laws_FnGuardsOverOfAll.j11 k x3 x4 x33 x41 x42) else (some (x41 == x33))
def laws_FnGuardsOverOfAll.j11:Nat→Int→Int→Int→Int→Int→Option (Bool)
 | 0,_,_,_,_,_=>none
 | k+1,x3,x4,x33,x41,x42=>laws_FnGuardsOverOfAll.l2 k x3 x4 x33 x41 x42 0
def laws_FnGuardsOverOfAll.l2:Nat→Int→Int→Int→Int→Int→Int→Option (Bool)
 | 0,_,_,_,_,_,_=>none
 | k+1,x3,x4,x33,x41,x42,x43=>if x43≤x4 then (if x42=0 then (if (wrap64 (x3 - x42))=0 then (laws_FnGuardsOverOfAll.l2 k x3 x4 x33 (wrap64 (x41+1)) x42 (wrap64 (x43+1))) else (if (wrap64 (x3 - x42)) ≥ (wrap64 (x4 - x43)) then (laws_FnGuardsOverOfAll.l2 k x3 x4 x33 (wrap64 (x41+1)) x42 (wrap64 (x43+1))) else (laws_FnGuardsOverOfAll.l2 k x3 x4 x33 x41 x42 (wrap64 (x43+1))))) else (if x42 ≥ x43 then (if (wrap64 (x3 - x42))=0 then (laws_FnGuardsOverOfAll.l2 k x3 x4 x33 (wrap64 (x41+1)) x42 (wrap64 (x43+1))) else (if (wrap64 (x3 - x42)) ≥ (wrap64 (x4 - x43)) then (laws_FnGuardsOverOfAll.l2 k x3 x4 x33 (wrap64 (x41+1)) x42 (wrap64 (x43+1))) else (laws_FnGuardsOverOfAll.l2 k x3 x4 x33 x41 x42 (wrap64 (x43+1))))) else (laws_FnGuardsOverOfAll.l2 k x3 x4 x33 x41 x42 (wrap64 (x43+1))))) else (laws_FnGuardsOverOfAll.l1 k x3 x4 x33 x41 (wrap64 (x42+1)))
def laws_FnGuardsOverOfAll.l0:Nat→Int→Int→Int→Int→Int→List (List Int)→Int→Int→Int→List (List Int)→Int→Int→Option (Bool)
 | 0,_,_,_,_,_,_,_,_,_,_,_,_=>none
 | k+1,x0,x1,x2,x3,x4,x11,x15,x19,x20,x97,x98,x99=>if x99 < x98 then (laws_FnGuardsOverOfAll.j3 k x0 x1 x2 x3 x4 x11 x15 x19 x20 x97 x98 x99) else ((impl_SeatsForGuards.f k x0 x1).bind fun bt190=>(if (x11.length:Int)=x15 then (if (Int.tmod x15 2)=1 then (if x19=x0 then (if x20=x1 then (if bt190.2=true then (laws_FnGuardsOverOfAll.j5 k x0 x1 x2 x3 x4 x15 (decide (bt190.1 > x2))) else (laws_FnGuardsOverOfAll.j5 k x0 x1 x2 x3 x4 x15 true)) else (laws_FnGuardsOverOfAll.j5 k x0 x1 x2 x3 x4 x15 true)) else (laws_FnGuardsOverOfAll.j5 k x0 x1 x2 x3 x4 x15 true)) else (laws_FnGuardsOverOfAll.j5 k x0 x1 x2 x3 x4 x15 true)) else (laws_FnGuardsOverOfAll.j5 k x0 x1 x2 x3 x4 x15 true)))
def laws_FnGuardsOverOfAll.j3:Nat→Int→Int→Int→Int→Int→List (List Int)→Int→Int→Int→List (List Int)→Int→Int→Option (Bool)
 | 0,_,_,_,_,_,_,_,_,_,_,_,_=>none
 | k+1,x0,x1,x2,x3,x4,x11,x15,x19,x20,x97,x98,x99=>if 0≤x99 then (if x99 < (x97.length:Int) then (if ((rd_L1 x97 x99).length:Int)=2 then (if 0 < ((rd_L1 x97 x99).length:Int) then (if 1 < ((rd_L1 x97 x99).length:Int) then (if (rd (rd_L1 x97 x99) 0) < 0 then (laws_FnGuardsOverOfAll.j4 k x0 x1 x2 x3 x4 x11 x15 x19 x20 x99 (rd (rd_L1 x97 x99) 0) (rd (rd_L1 x97 x99) 1) x97 x98 x99 true) else (if (rd (rd_L1 x97 x99) 1) < 0 then (laws_FnGuardsOverOfAll.j4 k x0 x1 x2 x3 x4 x11 x15 x19 x20 x99 (rd (rd_L1 x97 x99) 0) (rd (rd_L1 x97 x99) 1) x97 x98 x99 true) else (if (wrap64 ((rd (rd_L1 x97 x99) 0)+(rd (rd_L1 x97 x99) 1))) < 1 then (laws_FnGuardsOverOfAll.j4 k x0 x1 x2 x3 x4 x11 x15 x19 x20 x99 (rd (rd_L1 x97 x99) 0) (rd (rd_L1 x97 x99) 1) x97 x98 x99 true) else (if (wrap64 ((rd (rd_L1 x97 x99) 0)+(rd (rd_L1 x97 x99) 1))) > x2 then (laws_FnGuardsOverOfAll.j4 k x0 x1 x2 x3 x4 x11 x15 x19 x20 x99 (rd (rd_L1 x97 x99) 0) (rd (rd_L1 x97 x99) 1) x97 x98 x99 true) else (if (rd (rd_L1 x97 x99) 0) > 0 then (laws_FnGuardsOverOfAll.j4 k x0 x1 x2 x3 x4 x11 x15 x19 x20 x99 (rd (rd_L1 x97 x99) 0) (rd (rd_L1 x97 x99) 1) x97 x98 x99 (decide ((rd (rd_L1 x97 x99) 0) < (rd (rd_L1 x97 x99) 1)))) else (laws_FnGuardsOverOfAll.j4 k x0 x1 x2 x3 x4 x11 x15 x19 x20 x99 (rd (rd_L1 x97 x99) 0) (rd (rd_L1 x97 x99) 1) x97 x98 x99 false)))))) else (none)) else (none)) else (some false)) else (none)) else (none)
def laws_FnGuardsOverOfAll.j4:Nat→Int→Int→Int→Int→Int→List (List Int)→Int→Int→Int→Int→Int→Int→List (List Int)→Int→Int→Bool→Option (Bool)
 | 0,_,_,_,_,_,_,_,_,_,_,_,_,_,_,_,_=>none
 | k+1,x0,x1,x2,x3,x4,x11,x15,x19,x20,x21,x23,x24,x97,x98,x99,x140=>if x140=true then (some false) else (if (Int.tmod x21 2)=0 then (if (wrap64 (x19+x23)) < 0 then (some false) else (if (wrap64 (x19+x23)) > x0 then (some false) else (if (wrap64 (x20+x24)) < 0 then (some false) else (if (wrap64 (x20+x24)) > x1 then (some false) else (if (wrap64 (x19+x23)) > 0 then (if (wrap64 (x19+x23)) < (wrap64 (x20+x24)) then (some false) else (if (wrap64 (x0 - (wrap64 (x19+x23)))) > 0 then (if (wrap64 (x0 - (wrap64 (x19+x23)))) < (wrap64 (x1 - (wrap64 (x20+x24)))) then (some false) else (laws_FnGuardsOverOfAll.l0 k x0 x1 x2 x3 x4 x11 x15 (wrap64 (x19+x23)) (wrap64 (x20+x24)) x97 x98 (wrap64 (x99+1)))) else (laws_FnGuardsOverOfAll.l0 k x0 x1 x2 x3 x4 x11 x15 (wrap64 (x19+x23)) (wrap64 (x20+x24)) x97 x98 (wrap64 (x99+1))))) else (if (wrap64 (x0 - (wrap64 (x19+x23)))) > 0 then (if (wrap64 (x0 - (wrap64 (x19+x23)))) < (wrap64 (x1 - (wrap64 (x20+x24)))) then (some false) else (laws_FnGuardsOverOfAll.l0 k x0 x1 x2 x3 x4 x11 x15 (wrap64 (x19+x23)) (wrap64 (x20+x24)) x97 x98 (wrap64 (x99+1)))) else (laws_FnGuardsOverOfAll.l0 k x0 x1 x2 x3 x4 x11 x15 (wrap64 (x19+x23)) (wrap64 (x20+x24)) x97 x98 (wrap64 (x99+1))))))))) else (if (wrap64 (x19 - x23)) < 0 then (some false) else (if (wrap64 (x19 - x23)) > x0 then (some false) else (if (wrap64 (x20 - x24)) < 0 then (some false) else (if (wrap64 (x20 - x24)) > x1 then (some false) else (if (wrap64 (x19 - x23)) > 0 then (if (wrap64 (x19 - x23)) < (wrap64 (x20 - x24)) then (some false) else (if (wrap64 (x0 - (wrap64 (x19 - x23)))) > 0 then (if (wrap64 (x0 - (wrap64 (x19 - x23)))) < (wrap64 (x1 - (wrap64 (x20 - x24)))) then (some false) else (laws_FnGuardsOverOfAll.l0 k x0 x1 x2 x3 x4 x11 x15 (wrap64 (x19 - x23)) (wrap64 (x20 - x24)) x97 x98 (wrap64 (x99+1)))) else (laws_FnGuardsOverOfAll.l0 k x0 x1 x2 x3 x4 x11 x15 (wrap64 (x19 - x23)) (wrap64 (x20 - x24)) x97 x98 (wrap64 (x99+1))))) else (if (wrap64 (x0 - (wrap64 (x19 - x23)))) > 0 then (if (wrap64 (x0 - (wrap64 (x19 - x23)))) < (wrap64 (x1 - (wrap64 (x20 - x24)))) then (some false) else (laws_FnGuardsOverOfAll.l0 k x0 x1 x2 x3 x4 x11 x15 (wrap64 (x19 - x23)) (wrap64 (x20 - x24)) x97 x98 (wrap64 (x99+1)))) else (laws_FnGuardsOverOfAll.l0 k x0 x1 x2 x3 x4 x11 x15 (wrap64 (x19 - x23)) (wrap64 (x20 - x24)) x97 x98 (wrap64 (x99+1))))))))))
def laws_FnGuardsOverOfAll.j5:Nat→Int→Int→Int→Int→Int→Int→Bool→Option (Bool)
 | 0,_,_,_,_,_,_,_=>none
 | k+1,x0,x1,x2,x3,x4,x15,x230=>if x230=true then (some false) else (if x2 < 4 then ((impl_FewestForGuards.f k x0 x1 (wrap64 (x2+1))).bind fun bt192=>(if bt192.2=true then (if bt192.1 > x15 then (some false) else (laws_FnGuardsOverOfAll.j6 k x3 x4)) else (some false))) else (laws_FnGuardsOverOfAll.j6 k x3 x4))
end
def laws_FnGuardsOverOfAll.f (k:Nat) (a0:Int) (a1:Int) (a2:Int) (a3:Int) (a4:Int):Option (Bool):=(impl_FirstForGuards.f k a0 a1 a2).bind fun bt174=>((spec_FirstForGuards.f k a0 a1 a2).bind fun bt178=>((impl_FewestForGuards.f k a0 a1 a2).bind fun bt182=>((spec_FewestForGuards.f k a0 a1 a2).bind fun bt184=>(if (bt174.2 != bt178.2)=true then (laws_FnGuardsOverOfAll.j0 k a0 a1 a2 a3 a4 bt174.1 bt174.2 bt182.1 true) else ((laws_hRows.f k bt174.1 bt178.1).bind fun t186=>(if t186=true then (if (bt182.2 != bt184.2)=true then (laws_FnGuardsOverOfAll.j0 k a0 a1 a2 a3 a4 bt174.1 bt174.2 bt182.1 true) else (if bt182.1=bt184.1 then (laws_FnGuardsOverOfAll.j0 k a0 a1 a2 a3 a4 bt174.1 bt174.2 bt182.1 (bt182.2 != bt174.2)) else (laws_FnGuardsOverOfAll.j0 k a0 a1 a2 a3 a4 bt174.1 bt174.2 bt182.1 true))) else (laws_FnGuardsOverOfAll.j0 k a0 a1 a2 a3 a4 bt174.1 bt174.2 bt182.1 true)))))))
theorem laws_FnGuardsOverOfAll.mono_l:∀ k,(∀ y0 y1 y2 y3 y4 y5 y6 y7 y8,LeO (laws_FnGuardsOverOfAll.j0 k y0 y1 y2 y3 y4 y5 y6 y7 y8) (laws_FnGuardsOverOfAll.j0 (k+1) y0 y1 y2 y3 y4 y5 y6 y7 y8))∧(∀ y0 y1 y2 y3 y4 y5 y6 y7,LeO (laws_FnGuardsOverOfAll.j1 k y0 y1 y2 y3 y4 y5 y6 y7) (laws_FnGuardsOverOfAll.j1 (k+1) y0 y1 y2 y3 y4 y5 y6 y7))∧(∀ y0 y1,LeO (laws_FnGuardsOverOfAll.j6 k y0 y1) (laws_FnGuardsOverOfAll.j6 (k+1) y0 y1))∧(∀ y0 y1 y2 y3 y4 y5 y6,LeO (laws_FnGuardsOverOfAll.j7 k y0 y1 y2 y3 y4 y5 y6) (laws_FnGuardsOverOfAll.j7 (k+1) y0 y1 y2 y3 y4 y5 y6))∧(∀ y0 y1 y2 y3 y4 y5,LeO (laws_FnGuardsOverOfAll.j8 k y0 y1 y2 y3 y4 y5) (laws_FnGuardsOverOfAll.j8 (k+1) y0 y1 y2 y3 y4 y5))∧(∀ y0 y1 y2 y3,LeO (laws_FnGuardsOverOfAll.j9 k y0 y1 y2 y3) (laws_FnGuardsOverOfAll.j9 (k+1) y0 y1 y2 y3))∧(∀ y0 y1 y2 y3 y4,LeO (laws_FnGuardsOverOfAll.l1 k y0 y1 y2 y3 y4) (laws_FnGuardsOverOfAll.l1 (k+1) y0 y1 y2 y3 y4))∧(∀ y0 y1 y2 y3 y4,LeO (laws_FnGuardsOverOfAll.j11 k y0 y1 y2 y3 y4) (laws_FnGuardsOverOfAll.j11 (k+1) y0 y1 y2 y3 y4))∧(∀ y0 y1 y2 y3 y4 y5,LeO (laws_FnGuardsOverOfAll.l2 k y0 y1 y2 y3 y4 y5) (laws_FnGuardsOverOfAll.l2 (k+1) y0 y1 y2 y3 y4 y5))∧(∀ y0 y1 y2 y3 y4 y5 y6 y7 y8 y9 y10 y11,LeO (laws_FnGuardsOverOfAll.l0 k y0 y1 y2 y3 y4 y5 y6 y7 y8 y9 y10 y11) (laws_FnGuardsOverOfAll.l0 (k+1) y0 y1 y2 y3 y4 y5 y6 y7 y8 y9 y10 y11))∧(∀ y0 y1 y2 y3 y4 y5 y6 y7 y8 y9 y10 y11,LeO (laws_FnGuardsOverOfAll.j3 k y0 y1 y2 y3 y4 y5 y6 y7 y8 y9 y10 y11) (laws_FnGuardsOverOfAll.j3 (k+1) y0 y1 y2 y3 y4 y5 y6 y7 y8 y9 y10 y11))∧(∀ y0 y1 y2 y3 y4 y5 y6 y7 y8 y9 y10 y11 y12 y13 y14 y15,LeO (laws_FnGuardsOverOfAll.j4 k y0 y1 y2 y3 y4 y5 y6 y7 y8 y9 y10 y11 y12 y13 y14 y15) (laws_FnGuardsOverOfAll.j4 (k+1) y0 y1 y2 y3 y4 y5 y6 y7 y8 y9 y10 y11 y12 y13 y14 y15))∧(∀ y0 y1 y2 y3 y4 y5 y6,LeO (laws_FnGuardsOverOfAll.j5 k y0 y1 y2 y3 y4 y5 y6) (laws_FnGuardsOverOfAll.j5 (k+1) y0 y1 y2 y3 y4 y5 y6))
 | 0=>⟨fun _ _ _ _ _ _ _ _ _ r h=>by simp[laws_FnGuardsOverOfAll.j0] at h,fun _ _ _ _ _ _ _ _ r h=>by simp[laws_FnGuardsOverOfAll.j1] at h,fun _ _ r h=>by simp[laws_FnGuardsOverOfAll.j6] at h,fun _ _ _ _ _ _ _ r h=>by simp[laws_FnGuardsOverOfAll.j7] at h,fun _ _ _ _ _ _ r h=>by simp[laws_FnGuardsOverOfAll.j8] at h,fun _ _ _ _ r h=>by simp[laws_FnGuardsOverOfAll.j9] at h,fun _ _ _ _ _ r h=>by simp[laws_FnGuardsOverOfAll.l1] at h,fun _ _ _ _ _ r h=>by simp[laws_FnGuardsOverOfAll.j11] at h,fun _ _ _ _ _ _ r h=>by simp[laws_FnGuardsOverOfAll.l2] at h,fun _ _ _ _ _ _ _ _ _ _ _ _ r h=>by simp[laws_FnGuardsOverOfAll.l0] at h,fun _ _ _ _ _ _ _ _ _ _ _ _ r h=>by simp[laws_FnGuardsOverOfAll.j3] at h,fun _ _ _ _ _ _ _ _ _ _ _ _ _ _ _ _ r h=>by simp[laws_FnGuardsOverOfAll.j4] at h,fun _ _ _ _ _ _ _ r h=>by simp[laws_FnGuardsOverOfAll.j5] at h⟩
 | k+1=>by
  obtain ⟨ih0,ih1,ih2,ih3,ih4,ih5,ih6,ih7,ih8,ih9,ih10,ih11,ih12⟩:=laws_FnGuardsOverOfAll.mono_l k;refine ⟨?_,?_,?_,?_,?_,?_,?_,?_,?_,?_,?_,?_,?_⟩
  ·
   intro y0 y1 y2 y3 y4 y5 y6 y7 y8;unfold laws_FnGuardsOverOfAll.j0
   repeat' first
   | (with_reducible exact ih0 _ _ _ _ _ _ _ _ _)
   | (with_reducible exact ih1 _ _ _ _ _ _ _ _)
   | (with_reducible exact ih2 _ _)
   | (with_reducible exact ih3 _ _ _ _ _ _ _)
   | (with_reducible exact ih4 _ _ _ _ _ _)
   | (with_reducible exact ih5 _ _ _ _)
   | (with_reducible exact ih6 _ _ _ _ _)
   | (with_reducible exact ih7 _ _ _ _ _)
   | (with_reducible exact ih8 _ _ _ _ _ _)
   | (with_reducible exact ih9 _ _ _ _ _ _ _ _ _ _ _ _)
   | (with_reducible exact ih10 _ _ _ _ _ _ _ _ _ _ _ _)
   | (with_reducible exact ih11 _ _ _ _ _ _ _ _ _ _ _ _ _ _ _ _)
   | (with_reducible exact ih12 _ _ _ _ _ _ _)
   | (with_reducible exact impl_CountGuarded.mono _ _ _)
   | (with_reducible exact impl_FewestForGuards.mono _ _ _ _)
   | (with_reducible exact impl_FirstForGuards.mono _ _ _ _)
   | (with_reducible exact impl_SeatsForGuards.mono _ _ _)
   | (with_reducible exact laws_hRows.mono _ _ _)
   | (with_reducible exact spec_CountGuarded.mono _ _ _)
   | (with_reducible exact spec_FewestForGuards.mono _ _ _ _)
   | (with_reducible exact spec_FirstForGuards.mono _ _ _ _)
   | (with_reducible exact spec_SeatsForGuards.mono _ _ _)
   | (with_reducible exact LeO.refl _)
   | (with_reducible exact LeO.none _)
   | (with_reducible refine LeO.ite ?_ ?_)
   | (with_reducible refine LeO.bind ?_ (fun _=>?_))
   | exact ih0 _ _ _ _ _ _ _ _ _
   | exact ih1 _ _ _ _ _ _ _ _
   | exact ih2 _ _
   | exact ih3 _ _ _ _ _ _ _
   | exact ih4 _ _ _ _ _ _
   | exact ih5 _ _ _ _
   | exact ih6 _ _ _ _ _
   | exact ih7 _ _ _ _ _
   | exact ih8 _ _ _ _ _ _
   | exact ih9 _ _ _ _ _ _ _ _ _ _ _ _
   | exact ih10 _ _ _ _ _ _ _ _ _ _ _ _
   | exact ih11 _ _ _ _ _ _ _ _ _ _ _ _ _ _ _ _
   | exact ih12 _ _ _ _ _ _ _
   | exact impl_CountGuarded.mono _ _ _
   | exact impl_FewestForGuards.mono _ _ _ _
   | exact impl_FirstForGuards.mono _ _ _ _
   | exact impl_SeatsForGuards.mono _ _ _
   | exact laws_hRows.mono _ _ _
   | exact spec_CountGuarded.mono _ _ _
   | exact spec_FewestForGuards.mono _ _ _ _
   | exact spec_FirstForGuards.mono _ _ _ _
   | exact spec_SeatsForGuards.mono _ _ _
   | exact LeO.none _
   | refine LeO.ite ?_ ?_
   | refine LeO.bind ?_ (fun _=>?_)
  ·
   intro y0 y1 y2 y3 y4 y5 y6 y7;unfold laws_FnGuardsOverOfAll.j1
   repeat' first
   | (with_reducible exact ih0 _ _ _ _ _ _ _ _ _)
   | (with_reducible exact ih1 _ _ _ _ _ _ _ _)
   | (with_reducible exact ih2 _ _)
   | (with_reducible exact ih3 _ _ _ _ _ _ _)
   | (with_reducible exact ih4 _ _ _ _ _ _)
   | (with_reducible exact ih5 _ _ _ _)
   | (with_reducible exact ih6 _ _ _ _ _)
   | (with_reducible exact ih7 _ _ _ _ _)
   | (with_reducible exact ih8 _ _ _ _ _ _)
   | (with_reducible exact ih9 _ _ _ _ _ _ _ _ _ _ _ _)
   | (with_reducible exact ih10 _ _ _ _ _ _ _ _ _ _ _ _)
   | (with_reducible exact ih11 _ _ _ _ _ _ _ _ _ _ _ _ _ _ _ _)
   | (with_reducible exact ih12 _ _ _ _ _ _ _)
   | (with_reducible exact impl_CountGuarded.mono _ _ _)
   | (with_reducible exact impl_FewestForGuards.mono _ _ _ _)
   | (with_reducible exact impl_FirstForGuards.mono _ _ _ _)
   | (with_reducible exact impl_SeatsForGuards.mono _ _ _)
   | (with_reducible exact laws_hRows.mono _ _ _)
   | (with_reducible exact spec_CountGuarded.mono _ _ _)
   | (with_reducible exact spec_FewestForGuards.mono _ _ _ _)
   | (with_reducible exact spec_FirstForGuards.mono _ _ _ _)
   | (with_reducible exact spec_SeatsForGuards.mono _ _ _)
   | (with_reducible exact LeO.refl _)
   | (with_reducible exact LeO.none _)
   | (with_reducible refine LeO.ite ?_ ?_)
   | (with_reducible refine LeO.bind ?_ (fun _=>?_))
   | exact ih0 _ _ _ _ _ _ _ _ _
   | exact ih1 _ _ _ _ _ _ _ _
   | exact ih2 _ _
   | exact ih3 _ _ _ _ _ _ _
   | exact ih4 _ _ _ _ _ _
   | exact ih5 _ _ _ _
   | exact ih6 _ _ _ _ _
   | exact ih7 _ _ _ _ _
   | exact ih8 _ _ _ _ _ _
   | exact ih9 _ _ _ _ _ _ _ _ _ _ _ _
   | exact ih10 _ _ _ _ _ _ _ _ _ _ _ _
   | exact ih11 _ _ _ _ _ _ _ _ _ _ _ _ _ _ _ _
   | exact ih12 _ _ _ _ _ _ _
   | exact impl_CountGuarded.mono _ _ _
   | exact impl_FewestForGuards.mono _ _ _ _
   | exact impl_FirstForGuards.mono _ _ _ _
   | exact impl_SeatsForGuards.mono _ _ _
   | exact laws_hRows.mono _ _ _
   | exact spec_CountGuarded.mono _ _ _
   | exact spec_FewestForGuards.mono _ _ _ _
   | exact spec_FirstForGuards.mono _ _ _ _
   | exact spec_SeatsForGuards.mono _ _ _
   | exact LeO.none _
   | refine LeO.ite ?_ ?_
   | refine LeO.bind ?_ (fun _=>?_)
  ·
   intro y0 y1;unfold laws_FnGuardsOverOfAll.j6
   repeat' first
   | (with_reducible exact ih0 _ _ _ _ _ _ _ _ _)
   | (with_reducible exact ih1 _ _ _ _ _ _ _ _)
   | (with_reducible exact ih2 _ _)
   | (with_reducible exact ih3 _ _ _ _ _ _ _)
   | (with_reducible exact ih4 _ _ _ _ _ _)
   | (with_reducible exact ih5 _ _ _ _)
   | (with_reducible exact ih6 _ _ _ _ _)
   | (with_reducible exact ih7 _ _ _ _ _)
   | (with_reducible exact ih8 _ _ _ _ _ _)
   | (with_reducible exact ih9 _ _ _ _ _ _ _ _ _ _ _ _)
   | (with_reducible exact ih10 _ _ _ _ _ _ _ _ _ _ _ _)
   | (with_reducible exact ih11 _ _ _ _ _ _ _ _ _ _ _ _ _ _ _ _)
   | (with_reducible exact ih12 _ _ _ _ _ _ _)
   | (with_reducible exact impl_CountGuarded.mono _ _ _)
   | (with_reducible exact impl_FewestForGuards.mono _ _ _ _)
   | (with_reducible exact impl_FirstForGuards.mono _ _ _ _)
   | (with_reducible exact impl_SeatsForGuards.mono _ _ _)
   | (with_reducible exact laws_hRows.mono _ _ _)
   | (with_reducible exact spec_CountGuarded.mono _ _ _)
   | (with_reducible exact spec_FewestForGuards.mono _ _ _ _)
   | (with_reducible exact spec_FirstForGuards.mono _ _ _ _)
   | (with_reducible exact spec_SeatsForGuards.mono _ _ _)
   | (with_reducible exact LeO.refl _)
   | (with_reducible exact LeO.none _)
   | (with_reducible refine LeO.ite ?_ ?_)
   | (with_reducible refine LeO.bind ?_ (fun _=>?_))
   | exact ih0 _ _ _ _ _ _ _ _ _
   | exact ih1 _ _ _ _ _ _ _ _
   | exact ih2 _ _
   | exact ih3 _ _ _ _ _ _ _
   | exact ih4 _ _ _ _ _ _
   | exact ih5 _ _ _ _
   | exact ih6 _ _ _ _ _
   | exact ih7 _ _ _ _ _
   | exact ih8 _ _ _ _ _ _
   | exact ih9 _ _ _ _ _ _ _ _ _ _ _ _
   | exact ih10 _ _ _ _ _ _ _ _ _ _ _ _
   | exact ih11 _ _ _ _ _ _ _ _ _ _ _ _ _ _ _ _
   | exact ih12 _ _ _ _ _ _ _
   | exact impl_CountGuarded.mono _ _ _
   | exact impl_FewestForGuards.mono _ _ _ _
   | exact impl_FirstForGuards.mono _ _ _ _
   | exact impl_SeatsForGuards.mono _ _ _
   | exact laws_hRows.mono _ _ _
   | exact spec_CountGuarded.mono _ _ _
   | exact spec_FewestForGuards.mono _ _ _ _
   | exact spec_FirstForGuards.mono _ _ _ _
   | exact spec_SeatsForGuards.mono _ _ _
   | exact LeO.none _
   | refine LeO.ite ?_ ?_
   | refine LeO.bind ?_ (fun _=>?_)
  ·
   intro y0 y1 y2 y3 y4 y5 y6;unfold laws_FnGuardsOverOfAll.j7
   repeat' first
   | (with_reducible exact ih0 _ _ _ _ _ _ _ _ _)
   | (with_reducible exact ih1 _ _ _ _ _ _ _ _)
   | (with_reducible exact ih2 _ _)
   | (with_reducible exact ih3 _ _ _ _ _ _ _)
   | (with_reducible exact ih4 _ _ _ _ _ _)
   | (with_reducible exact ih5 _ _ _ _)
   | (with_reducible exact ih6 _ _ _ _ _)
   | (with_reducible exact ih7 _ _ _ _ _)
   | (with_reducible exact ih8 _ _ _ _ _ _)
   | (with_reducible exact ih9 _ _ _ _ _ _ _ _ _ _ _ _)
   | (with_reducible exact ih10 _ _ _ _ _ _ _ _ _ _ _ _)
   | (with_reducible exact ih11 _ _ _ _ _ _ _ _ _ _ _ _ _ _ _ _)
   | (with_reducible exact ih12 _ _ _ _ _ _ _)
   | (with_reducible exact impl_CountGuarded.mono _ _ _)
   | (with_reducible exact impl_FewestForGuards.mono _ _ _ _)
   | (with_reducible exact impl_FirstForGuards.mono _ _ _ _)
   | (with_reducible exact impl_SeatsForGuards.mono _ _ _)
   | (with_reducible exact laws_hRows.mono _ _ _)
   | (with_reducible exact spec_CountGuarded.mono _ _ _)
   | (with_reducible exact spec_FewestForGuards.mono _ _ _ _)
   | (with_reducible exact spec_FirstForGuards.mono _ _ _ _)
   | (with_reducible exact spec_SeatsForGuards.mono _ _ _)
   | (with_reducible exact LeO.refl _)
   | (with_reducible exact LeO.none _)
   | (with_reducible refine LeO.ite ?_ ?_)
   | (with_reducible refine LeO.bind ?_ (fun _=>?_))
   | exact ih0 _ _ _ _ _ _ _ _ _
   | exact ih1 _ _ _ _ _ _ _ _
   | exact ih2 _ _
   | exact ih3 _ _ _ _ _ _ _
   | exact ih4 _ _ _ _ _ _
   | exact ih5 _ _ _ _
   | exact ih6 _ _ _ _ _
   | exact ih7 _ _ _ _ _
   | exact ih8 _ _ _ _ _ _
   | exact ih9 _ _ _ _ _ _ _ _ _ _ _ _
   | exact ih10 _ _ _ _ _ _ _ _ _ _ _ _
   | exact ih11 _ _ _ _ _ _ _ _ _ _ _ _ _ _ _ _
   | exact ih12 _ _ _ _ _ _ _
   | exact impl_CountGuarded.mono _ _ _
   | exact impl_FewestForGuards.mono _ _ _ _
   | exact impl_FirstForGuards.mono _ _ _ _
   | exact impl_SeatsForGuards.mono _ _ _
   | exact laws_hRows.mono _ _ _
   | exact spec_CountGuarded.mono _ _ _
   | exact spec_FewestForGuards.mono _ _ _ _
   | exact spec_FirstForGuards.mono _ _ _ _
   | exact spec_SeatsForGuards.mono _ _ _
   | exact LeO.none _
   | refine LeO.ite ?_ ?_
   | refine LeO.bind ?_ (fun _=>?_)
  ·
   intro y0 y1 y2 y3 y4 y5;unfold laws_FnGuardsOverOfAll.j8
   repeat' first
   | (with_reducible exact ih0 _ _ _ _ _ _ _ _ _)
   | (with_reducible exact ih1 _ _ _ _ _ _ _ _)
   | (with_reducible exact ih2 _ _)
   | (with_reducible exact ih3 _ _ _ _ _ _ _)
   | (with_reducible exact ih4 _ _ _ _ _ _)
   | (with_reducible exact ih5 _ _ _ _)
   | (with_reducible exact ih6 _ _ _ _ _)
   | (with_reducible exact ih7 _ _ _ _ _)
   | (with_reducible exact ih8 _ _ _ _ _ _)
   | (with_reducible exact ih9 _ _ _ _ _ _ _ _ _ _ _ _)
   | (with_reducible exact ih10 _ _ _ _ _ _ _ _ _ _ _ _)
   | (with_reducible exact ih11 _ _ _ _ _ _ _ _ _ _ _ _ _ _ _ _)
   | (with_reducible exact ih12 _ _ _ _ _ _ _)
   | (with_reducible exact impl_CountGuarded.mono _ _ _)
   | (with_reducible exact impl_FewestForGuards.mono _ _ _ _)
   | (with_reducible exact impl_FirstForGuards.mono _ _ _ _)
   | (with_reducible exact impl_SeatsForGuards.mono _ _ _)
   | (with_reducible exact laws_hRows.mono _ _ _)
   | (with_reducible exact spec_CountGuarded.mono _ _ _)
   | (with_reducible exact spec_FewestForGuards.mono _ _ _ _)
   | (with_reducible exact spec_FirstForGuards.mono _ _ _ _)
   | (with_reducible exact spec_SeatsForGuards.mono _ _ _)
   | (with_reducible exact LeO.refl _)
   | (with_reducible exact LeO.none _)
   | (with_reducible refine LeO.ite ?_ ?_)
   | (with_reducible refine LeO.bind ?_ (fun _=>?_))
   | exact ih0 _ _ _ _ _ _ _ _ _
   | exact ih1 _ _ _ _ _ _ _ _
   | exact ih2 _ _
   | exact ih3 _ _ _ _ _ _ _
   | exact ih4 _ _ _ _ _ _
   | exact ih5 _ _ _ _
   | exact ih6 _ _ _ _ _
   | exact ih7 _ _ _ _ _
   | exact ih8 _ _ _ _ _ _
   | exact ih9 _ _ _ _ _ _ _ _ _ _ _ _
   | exact ih10 _ _ _ _ _ _ _ _ _ _ _ _
   | exact ih11 _ _ _ _ _ _ _ _ _ _ _ _ _ _ _ _
   | exact ih12 _ _ _ _ _ _ _
   | exact impl_CountGuarded.mono _ _ _
   | exact impl_FewestForGuards.mono _ _ _ _
   | exact impl_FirstForGuards.mono _ _ _ _
   | exact impl_SeatsForGuards.mono _ _ _
   | exact laws_hRows.mono _ _ _
   | exact spec_CountGuarded.mono _ _ _
   | exact spec_FewestForGuards.mono _ _ _ _
   | exact spec_FirstForGuards.mono _ _ _ _
   | exact spec_SeatsForGuards.mono _ _ _
   | exact LeO.none _
   | refine LeO.ite ?_ ?_
   | refine LeO.bind ?_ (fun _=>?_)
  ·
   intro y0 y1 y2 y3;unfold laws_FnGuardsOverOfAll.j9
   repeat' first
   | (with_reducible exact ih0 _ _ _ _ _ _ _ _ _)
   | (with_reducible exact ih1 _ _ _ _ _ _ _ _)
   | (with_reducible exact ih2 _ _)
   | (with_reducible exact ih3 _ _ _ _ _ _ _)
   | (with_reducible exact ih4 _ _ _ _ _ _)
   | (with_reducible exact ih5 _ _ _ _)
   | (with_reducible exact ih6 _ _ _ _ _)
   | (with_reducible exact ih7 _ _ _ _ _)
   | (with_reducible exact ih8 _ _ _ _ _ _)
   | (with_reducible exact ih9 _ _ _ _ _ _ _ _ _ _ _ _)
   | (with_reducible exact ih10 _ _ _ _ _ _ _ _ _ _ _ _)
   | (with_reducible exact ih11 _ _ _ _ _ _ _ _ _ _ _ _ _ _ _ _)
   | (with_reducible exact ih12 _ _ _ _ _ _ _)
   | (with_reducible exact impl_CountGuarded.mono _ _ _)
   | (with_reducible exact impl_FewestForGuards.mono _ _ _ _)
   | (with_reducible exact impl_FirstForGuards.mono _ _ _ _)
   | (with_reducible exact impl_SeatsForGuards.mono _ _ _)
   | (with_reducible exact laws_hRows.mono _ _ _)
   | (with_reducible exact spec_CountGuarded.mono _ _ _)
   | (with_reducible exact spec_FewestForGuards.mono _ _ _ _)
   | (with_reducible exact spec_FirstForGuards.mono _ _ _ _)
   | (with_reducible exact spec_SeatsForGuards.mono _ _ _)
   | (with_reducible exact LeO.refl _)
   | (with_reducible exact LeO.none _)
   | (with_reducible refine LeO.ite ?_ ?_)
   | (with_reducible refine LeO.bind ?_ (fun _=>?_))
   | exact ih0 _ _ _ _ _ _ _ _ _
   | exact ih1 _ _ _ _ _ _ _ _
   | exact ih2 _ _
   | exact ih3 _ _ _ _ _ _ _
   | exact ih4 _ _ _ _ _ _
   | exact ih5 _ _ _ _
   | exact ih6 _ _ _ _ _
   | exact ih7 _ _ _ _ _
   | exact ih8 _ _ _ _ _ _
   | exact ih9 _ _ _ _ _ _ _ _ _ _ _ _
   | exact ih10 _ _ _ _ _ _ _ _ _ _ _ _
   | exact ih11 _ _ _ _ _ _ _ _ _ _ _ _ _ _ _ _
   | exact ih12 _ _ _ _ _ _ _
   | exact impl_CountGuarded.mono _ _ _
   | exact impl_FewestForGuards.mono _ _ _ _
   | exact impl_FirstForGuards.mono _ _ _ _
   | exact impl_SeatsForGuards.mono _ _ _
   | exact laws_hRows.mono _ _ _
   | exact spec_CountGuarded.mono _ _ _
   | exact spec_FewestForGuards.mono _ _ _ _
   | exact spec_FirstForGuards.mono _ _ _ _
   | exact spec_SeatsForGuards.mono _ _ _
   | exact LeO.none _
   | refine LeO.ite ?_ ?_
   | refine LeO.bind ?_ (fun _=>?_)
  ·
   intro y0 y1 y2 y3 y4;unfold laws_FnGuardsOverOfAll.l1
   repeat' first
   | (with_reducible exact ih0 _ _ _ _ _ _ _ _ _)
   | (with_reducible exact ih1 _ _ _ _ _ _ _ _)
   | (with_reducible exact ih2 _ _)
   | (with_reducible exact ih3 _ _ _ _ _ _ _)
   | (with_reducible exact ih4 _ _ _ _ _ _)
   | (with_reducible exact ih5 _ _ _ _)
   | (with_reducible exact ih6 _ _ _ _ _)
   | (with_reducible exact ih7 _ _ _ _ _)
   | (with_reducible exact ih8 _ _ _ _ _ _)
   | (with_reducible exact ih9 _ _ _ _ _ _ _ _ _ _ _ _)
   | (with_reducible exact ih10 _ _ _ _ _ _ _ _ _ _ _ _)
   | (with_reducible exact ih11 _ _ _ _ _ _ _ _ _ _ _ _ _ _ _ _)
   | (with_reducible exact ih12 _ _ _ _ _ _ _)
   | (with_reducible exact impl_CountGuarded.mono _ _ _)
   | (with_reducible exact impl_FewestForGuards.mono _ _ _ _)
   | (with_reducible exact impl_FirstForGuards.mono _ _ _ _)
   | (with_reducible exact impl_SeatsForGuards.mono _ _ _)
   | (with_reducible exact laws_hRows.mono _ _ _)
   | (with_reducible exact spec_CountGuarded.mono _ _ _)
   | (with_reducible exact spec_FewestForGuards.mono _ _ _ _)
   | (with_reducible exact spec_FirstForGuards.mono _ _ _ _)
   | (with_reducible exact spec_SeatsForGuards.mono _ _ _)
   | (with_reducible exact LeO.refl _)
   | (with_reducible exact LeO.none _)
   | (with_reducible refine LeO.ite ?_ ?_)
   | (with_reducible refine LeO.bind ?_ (fun _=>?_))
   | exact ih0 _ _ _ _ _ _ _ _ _
   | exact ih1 _ _ _ _ _ _ _ _
   | exact ih2 _ _
   | exact ih3 _ _ _ _ _ _ _
   | exact ih4 _ _ _ _ _ _
   | exact ih5 _ _ _ _
   | exact ih6 _ _ _ _ _
   | exact ih7 _ _ _ _ _
   | exact ih8 _ _ _ _ _ _
   | exact ih9 _ _ _ _ _ _ _ _ _ _ _ _
   | exact ih10 _ _ _ _ _ _ _ _ _ _ _ _
   | exact ih11 _ _ _ _ _ _ _ _ _ _ _ _ _ _ _ _
   | exact ih12 _ _ _ _ _ _ _
   | exact impl_CountGuarded.mono _ _ _
   | exact impl_FewestForGuards.mono _ _ _ _
   | exact impl_FirstForGuards.mono _ _ _ _
   | exact impl_SeatsForGuards.mono _ _ _
   | exact laws_hRows.mono _ _ _
   | exact spec_CountGuarded.mono _ _ _
   | exact spec_FewestForGuards.mono _ _ _ _
   | exact spec_FirstForGuards.mono _ _ _ _
   | exact spec_SeatsForGuards.mono _ _ _
   | exact LeO.none _
   | refine LeO.ite ?_ ?_
   | refine LeO.bind ?_ (fun _=>?_)
  ·
   intro y0 y1 y2 y3 y4;unfold laws_FnGuardsOverOfAll.j11
   repeat' first
   | (with_reducible exact ih0 _ _ _ _ _ _ _ _ _)
   | (with_reducible exact ih1 _ _ _ _ _ _ _ _)
   | (with_reducible exact ih2 _ _)
   | (with_reducible exact ih3 _ _ _ _ _ _ _)
   | (with_reducible exact ih4 _ _ _ _ _ _)
   | (with_reducible exact ih5 _ _ _ _)
   | (with_reducible exact ih6 _ _ _ _ _)
   | (with_reducible exact ih7 _ _ _ _ _)
   | (with_reducible exact ih8 _ _ _ _ _ _)
   | (with_reducible exact ih9 _ _ _ _ _ _ _ _ _ _ _ _)
   | (with_reducible exact ih10 _ _ _ _ _ _ _ _ _ _ _ _)
   | (with_reducible exact ih11 _ _ _ _ _ _ _ _ _ _ _ _ _ _ _ _)
   | (with_reducible exact ih12 _ _ _ _ _ _ _)
   | (with_reducible exact impl_CountGuarded.mono _ _ _)
   | (with_reducible exact impl_FewestForGuards.mono _ _ _ _)
   | (with_reducible exact impl_FirstForGuards.mono _ _ _ _)
   | (with_reducible exact impl_SeatsForGuards.mono _ _ _)
   | (with_reducible exact laws_hRows.mono _ _ _)
   | (with_reducible exact spec_CountGuarded.mono _ _ _)
   | (with_reducible exact spec_FewestForGuards.mono _ _ _ _)
   | (with_reducible exact spec_FirstForGuards.mono _ _ _ _)
   | (with_reducible exact spec_SeatsForGuards.mono _ _ _)
   | (with_reducible exact LeO.refl _)
   | (with_reducible exact LeO.none _)
   | (with_reducible refine LeO.ite ?_ ?_)
   | (with_reducible refine LeO.bind ?_ (fun _=>?_))
   | exact ih0 _ _ _ _ _ _ _ _ _
   | exact ih1 _ _ _ _ _ _ _ _
   | exact ih2 _ _
   | exact ih3 _ _ _ _ _ _ _
   | exact ih4 _ _ _ _ _ _
   | exact ih5 _ _ _ _
   | exact ih6 _ _ _ _ _
   | exact ih7 _ _ _ _ _
   | exact ih8 _ _ _ _ _ _
   | exact ih9 _ _ _ _ _ _ _ _ _ _ _ _
   | exact ih10 _ _ _ _ _ _ _ _ _ _ _ _
   | exact ih11 _ _ _ _ _ _ _ _ _ _ _ _ _ _ _ _
   | exact ih12 _ _ _ _ _ _ _
   | exact impl_CountGuarded.mono _ _ _
   | exact impl_FewestForGuards.mono _ _ _ _
   | exact impl_FirstForGuards.mono _ _ _ _
   | exact impl_SeatsForGuards.mono _ _ _
   | exact laws_hRows.mono _ _ _
   | exact spec_CountGuarded.mono _ _ _
   | exact spec_FewestForGuards.mono _ _ _ _
   | exact spec_FirstForGuards.mono _ _ _ _
   | exact spec_SeatsForGuards.mono _ _ _
   | exact LeO.none _
   | refine LeO.ite ?_ ?_
   | refine LeO.bind ?_ (fun _=>?_)
  ·
   intro y0 y1 y2 y3 y4 y5;unfold laws_FnGuardsOverOfAll.l2
   repeat' first
   | (with_reducible exact ih0 _ _ _ _ _ _ _ _ _)
   | (with_reducible exact ih1 _ _ _ _ _ _ _ _)
   | (with_reducible exact ih2 _ _)
   | (with_reducible exact ih3 _ _ _ _ _ _ _)
   | (with_reducible exact ih4 _ _ _ _ _ _)
   | (with_reducible exact ih5 _ _ _ _)
   | (with_reducible exact ih6 _ _ _ _ _)
   | (with_reducible exact ih7 _ _ _ _ _)
   | (with_reducible exact ih8 _ _ _ _ _ _)
   | (with_reducible exact ih9 _ _ _ _ _ _ _ _ _ _ _ _)
   | (with_reducible exact ih10 _ _ _ _ _ _ _ _ _ _ _ _)
   | (with_reducible exact ih11 _ _ _ _ _ _ _ _ _ _ _ _ _ _ _ _)
   | (with_reducible exact ih12 _ _ _ _ _ _ _)
   | (with_reducible exact impl_CountGuarded.mono _ _ _)
   | (with_reducible exact impl_FewestForGuards.mono _ _ _ _)
   | (with_reducible exact impl_FirstForGuards.mono _ _ _ _)
   | (with_reducible exact impl_SeatsForGuards.mono _ _ _)
   | (with_reducible exact laws_hRows.mono _ _ _)
   | (with_reducible exact spec_CountGuarded.mono _ _ _)
   | (with_reducible exact spec_FewestForGuards.mono _ _ _ _)
   | (with_reducible exact spec_FirstForGuards.mono _ _ _ _)
   | (with_reducible exact spec_SeatsForGuards.mono _ _ _)
   | (with_reducible exact LeO.refl _)
   | (with_reducible exact LeO.none _)
   | (with_reducible refine LeO.ite ?_ ?_)
   | (with_reducible refine LeO.bind ?_ (fun _=>?_))
   | exact ih0 _ _ _ _ _ _ _ _ _
   | exact ih1 _ _ _ _ _ _ _ _
   | exact ih2 _ _
   | exact ih3 _ _ _ _ _ _ _
   | exact ih4 _ _ _ _ _ _
   | exact ih5 _ _ _ _
   | exact ih6 _ _ _ _ _
   | exact ih7 _ _ _ _ _
   | exact ih8 _ _ _ _ _ _
   | exact ih9 _ _ _ _ _ _ _ _ _ _ _ _
   | exact ih10 _ _ _ _ _ _ _ _ _ _ _ _
   | exact ih11 _ _ _ _ _ _ _ _ _ _ _ _ _ _ _ _
   | exact ih12 _ _ _ _ _ _ _
   | exact impl_CountGuarded.mono _ _ _
   | exact impl_FewestForGuards.mono _ _ _ _
   | exact impl_FirstForGuards.mono _ _ _ _
   | exact impl_SeatsForGuards.mono _ _ _
   | exact laws_hRows.mono _ _ _
   | exact spec_CountGuarded.mono _ _ _
   | exact spec_FewestForGuards.mono _ _ _ _
   | exact spec_FirstForGuards.mono _ _ _ _
   | exact spec_SeatsForGuards.mono _ _ _
   | exact LeO.none _
   | refine LeO.ite ?_ ?_
   | refine LeO.bind ?_ (fun _=>?_)
  ·
   intro y0 y1 y2 y3 y4 y5 y6 y7 y8 y9 y10 y11;unfold laws_FnGuardsOverOfAll.l0
   repeat' first
   | (with_reducible exact ih0 _ _ _ _ _ _ _ _ _)
   | (with_reducible exact ih1 _ _ _ _ _ _ _ _)
   | (with_reducible exact ih2 _ _)
   | (with_reducible exact ih3 _ _ _ _ _ _ _)
   | (with_reducible exact ih4 _ _ _ _ _ _)
   | (with_reducible exact ih5 _ _ _ _)
   | (with_reducible exact ih6 _ _ _ _ _)
   | (with_reducible exact ih7 _ _ _ _ _)
   | (with_reducible exact ih8 _ _ _ _ _ _)
   | (with_reducible exact ih9 _ _ _ _ _ _ _ _ _ _ _ _)
   | (with_reducible exact ih10 _ _ _ _ _ _ _ _ _ _ _ _)
   | (with_reducible exact ih11 _ _ _ _ _ _ _ _ _ _ _ _ _ _ _ _)
   | (with_reducible exact ih12 _ _ _ _ _ _ _)
   | (with_reducible exact impl_CountGuarded.mono _ _ _)
   | (with_reducible exact impl_FewestForGuards.mono _ _ _ _)
   | (with_reducible exact impl_FirstForGuards.mono _ _ _ _)
   | (with_reducible exact impl_SeatsForGuards.mono _ _ _)
   | (with_reducible exact laws_hRows.mono _ _ _)
   | (with_reducible exact spec_CountGuarded.mono _ _ _)
   | (with_reducible exact spec_FewestForGuards.mono _ _ _ _)
   | (with_reducible exact spec_FirstForGuards.mono _ _ _ _)
   | (with_reducible exact spec_SeatsForGuards.mono _ _ _)
   | (with_reducible exact LeO.refl _)
   | (with_reducible exact LeO.none _)
   | (with_reducible refine LeO.ite ?_ ?_)
   | (with_reducible refine LeO.bind ?_ (fun _=>?_))
   | exact ih0 _ _ _ _ _ _ _ _ _
   | exact ih1 _ _ _ _ _ _ _ _
   | exact ih2 _ _
   | exact ih3 _ _ _ _ _ _ _
   | exact ih4 _ _ _ _ _ _
   | exact ih5 _ _ _ _
   | exact ih6 _ _ _ _ _
   | exact ih7 _ _ _ _ _
   | exact ih8 _ _ _ _ _ _
   | exact ih9 _ _ _ _ _ _ _ _ _ _ _ _
   | exact ih10 _ _ _ _ _ _ _ _ _ _ _ _
   | exact ih11 _ _ _ _ _ _ _ _ _ _ _ _ _ _ _ _
   | exact ih12 _ _ _ _ _ _ _
   | exact impl_CountGuarded.mono _ _ _
   | exact impl_FewestForGuards.mono _ _ _ _
   | exact impl_FirstForGuards.mono _ _ _ _
   | exact impl_SeatsForGuards.mono _ _ _
   | exact laws_hRows.mono _ _ _
   | exact spec_CountGuarded.mono _ _ _
   | exact spec_FewestForGuards.mono _ _ _ _
   | exact spec_FirstForGuards.mono _ _ _ _
   | exact spec_SeatsForGuards.mono _ _ _
   | exact LeO.none _
   | refine LeO.ite ?_ ?_
   | refine LeO.bind ?_ (fun _=>?_)
  ·
   intro y0 y1 y2 y3 y4 y5 y6 y7 y8 y9 y10 y11;unfold laws_FnGuardsOverOfAll.j3
   repeat' first
   | (with_reducible exact ih0 _ _ _ _ _ _ _ _ _)
   | (with_reducible exact ih1 _ _ _ _ _ _ _ _)
   | (with_reducible exact ih2 _ _)
   | (with_reducible exact ih3 _ _ _ _ _ _ _)
   | (with_reducible exact ih4 _ _ _ _ _ _)
   | (with_reducible exact ih5 _ _ _ _)
   | (with_reducible exact ih6 _ _ _ _ _)
   | (with_reducible exact ih7 _ _ _ _ _)
   | (with_reducible exact ih8 _ _ _ _ _ _)
   | (with_reducible exact ih9 _ _ _ _ _ _ _ _ _ _ _ _)
   | (with_reducible exact ih10 _ _ _ _ _ _ _ _ _ _ _ _)
   | (with_reducible exact ih11 _ _ _ _ _ _ _ _ _ _ _ _ _ _ _ _)
   | (with_reducible exact ih12 _ _ _ _ _ _ _)
   | (with_reducible exact impl_CountGuarded.mono _ _ _)
   | (with_reducible exact impl_FewestForGuards.mono _ _ _ _)
   | (with_reducible exact impl_FirstForGuards.mono _ _ _ _)
   | (with_reducible exact impl_SeatsForGuards.mono _ _ _)
   | (with_reducible exact laws_hRows.mono _ _ _)
   | (with_reducible exact spec_CountGuarded.mono _ _ _)
   | (with_reducible exact spec_FewestForGuards.mono _ _ _ _)
   | (with_reducible exact spec_FirstForGuards.mono _ _ _ _)
   | (with_reducible exact spec_SeatsForGuards.mono _ _ _)
   | (with_reducible exact LeO.refl _)
   | (with_reducible exact LeO.none _)
   | (with_reducible refine LeO.ite ?_ ?_)
   | (with_reducible refine LeO.bind ?_ (fun _=>?_))
   | exact ih0 _ _ _ _ _ _ _ _ _
   | exact ih1 _ _ _ _ _ _ _ _
   | exact ih2 _ _
   | exact ih3 _ _ _ _ _ _ _
   | exact ih4 _ _ _ _ _ _
   | exact ih5 _ _ _ _
   | exact ih6 _ _ _ _ _
   | exact ih7 _ _ _ _ _
   | exact ih8 _ _ _ _ _ _
   | exact ih9 _ _ _ _ _ _ _ _ _ _ _ _
   | exact ih10 _ _ _ _ _ _ _ _ _ _ _ _
   | exact ih11 _ _ _ _ _ _ _ _ _ _ _ _ _ _ _ _
   | exact ih12 _ _ _ _ _ _ _
   | exact impl_CountGuarded.mono _ _ _
   | exact impl_FewestForGuards.mono _ _ _ _
   | exact impl_FirstForGuards.mono _ _ _ _
   | exact impl_SeatsForGuards.mono _ _ _
   | exact laws_hRows.mono _ _ _
   | exact spec_CountGuarded.mono _ _ _
   | exact spec_FewestForGuards.mono _ _ _ _
   | exact spec_FirstForGuards.mono _ _ _ _
   | exact spec_SeatsForGuards.mono _ _ _
   | exact LeO.none _
   | refine LeO.ite ?_ ?_
   | refine LeO.bind ?_ (fun _=>?_)
  ·
   intro y0 y1 y2 y3 y4 y5 y6 y7 y8 y9 y10 y11 y12 y13 y14 y15;unfold laws_FnGuardsOverOfAll.j4
   repeat' first
   | (with_reducible exact ih0 _ _ _ _ _ _ _ _ _)
   | (with_reducible exact ih1 _ _ _ _ _ _ _ _)
   | (with_reducible exact ih2 _ _)
   | (with_reducible exact ih3 _ _ _ _ _ _ _)
   | (with_reducible exact ih4 _ _ _ _ _ _)
   | (with_reducible exact ih5 _ _ _ _)
   | (with_reducible exact ih6 _ _ _ _ _)
   | (with_reducible exact ih7 _ _ _ _ _)
   | (with_reducible exact ih8 _ _ _ _ _ _)
   | (with_reducible exact ih9 _ _ _ _ _ _ _ _ _ _ _ _)
   | (with_reducible exact ih10 _ _ _ _ _ _ _ _ _ _ _ _)
   | (with_reducible exact ih11 _ _ _ _ _ _ _ _ _ _ _ _ _ _ _ _)
   | (with_reducible exact ih12 _ _ _ _ _ _ _)
   | (with_reducible exact impl_CountGuarded.mono _ _ _)
   | (with_reducible exact impl_FewestForGuards.mono _ _ _ _)
   | (with_reducible exact impl_FirstForGuards.mono _ _ _ _)
   | (with_reducible exact impl_SeatsForGuards.mono _ _ _)
   | (with_reducible exact laws_hRows.mono _ _ _)
   | (with_reducible exact spec_CountGuarded.mono _ _ _)
   | (with_reducible exact spec_FewestForGuards.mono _ _ _ _)
   | (with_reducible exact spec_FirstForGuards.mono _ _ _ _)
   | (with_reducible exact spec_SeatsForGuards.mono _ _ _)
   | (with_reducible exact LeO.refl _)
   | (with_reducible exact LeO.none _)
   | (with_reducible refine LeO.ite ?_ ?_)
   | (with_reducible refine LeO.bind ?_ (fun _=>?_))
   | exact ih0 _ _ _ _ _ _ _ _ _
   | exact ih1 _ _ _ _ _ _ _ _
   | exact ih2 _ _
   | exact ih3 _ _ _ _ _ _ _
   | exact ih4 _ _ _ _ _ _
   | exact ih5 _ _ _ _
   | exact ih6 _ _ _ _ _
   | exact ih7 _ _ _ _ _
   | exact ih8 _ _ _ _ _ _
   | exact ih9 _ _ _ _ _ _ _ _ _ _ _ _
   | exact ih10 _ _ _ _ _ _ _ _ _ _ _ _
   | exact ih11 _ _ _ _ _ _ _ _ _ _ _ _ _ _ _ _
   | exact ih12 _ _ _ _ _ _ _
   | exact impl_CountGuarded.mono _ _ _
   | exact impl_FewestForGuards.mono _ _ _ _
   | exact impl_FirstForGuards.mono _ _ _ _
   | exact impl_SeatsForGuards.mono _ _ _
   | exact laws_hRows.mono _ _ _
   | exact spec_CountGuarded.mono _ _ _
   | exact spec_FewestForGuards.mono _ _ _ _
   | exact spec_FirstForGuards.mono _ _ _ _
   | exact spec_SeatsForGuards.mono _ _ _
   | exact LeO.none _
   | refine LeO.ite ?_ ?_
   | refine LeO.bind ?_ (fun _=>?_)
  ·
   intro y0 y1 y2 y3 y4 y5 y6;unfold laws_FnGuardsOverOfAll.j5
   repeat' first
   | (with_reducible exact ih0 _ _ _ _ _ _ _ _ _)
   | (with_reducible exact ih1 _ _ _ _ _ _ _ _)
   | (with_reducible exact ih2 _ _)
   | (with_reducible exact ih3 _ _ _ _ _ _ _)
   | (with_reducible exact ih4 _ _ _ _ _ _)
   | (with_reducible exact ih5 _ _ _ _)
   | (with_reducible exact ih6 _ _ _ _ _)
   | (with_reducible exact ih7 _ _ _ _ _)
   | (with_reducible exact ih8 _ _ _ _ _ _)
   | (with_reducible exact ih9 _ _ _ _ _ _ _ _ _ _ _ _)
   | (with_reducible exact ih10 _ _ _ _ _ _ _ _ _ _ _ _)
   | (with_reducible exact ih11 _ _ _ _ _ _ _ _ _ _ _ _ _ _ _ _)
   | (with_reducible exact ih12 _ _ _ _ _ _ _)
   | (with_reducible exact impl_CountGuarded.mono _ _ _)
   | (with_reducible exact impl_FewestForGuards.mono _ _ _ _)
   | (with_reducible exact impl_FirstForGuards.mono _ _ _ _)
   | (with_reducible exact impl_SeatsForGuards.mono _ _ _)
   | (with_reducible exact laws_hRows.mono _ _ _)
   | (with_reducible exact spec_CountGuarded.mono _ _ _)
   | (with_reducible exact spec_FewestForGuards.mono _ _ _ _)
   | (with_reducible exact spec_FirstForGuards.mono _ _ _ _)
   | (with_reducible exact spec_SeatsForGuards.mono _ _ _)
   | (with_reducible exact LeO.refl _)
   | (with_reducible exact LeO.none _)
   | (with_reducible refine LeO.ite ?_ ?_)
   | (with_reducible refine LeO.bind ?_ (fun _=>?_))
   | exact ih0 _ _ _ _ _ _ _ _ _
   | exact ih1 _ _ _ _ _ _ _ _
   | exact ih2 _ _
   | exact ih3 _ _ _ _ _ _ _
   | exact ih4 _ _ _ _ _ _
   | exact ih5 _ _ _ _
   | exact ih6 _ _ _ _ _
   | exact ih7 _ _ _ _ _
   | exact ih8 _ _ _ _ _ _
   | exact ih9 _ _ _ _ _ _ _ _ _ _ _ _
   | exact ih10 _ _ _ _ _ _ _ _ _ _ _ _
   | exact ih11 _ _ _ _ _ _ _ _ _ _ _ _ _ _ _ _
   | exact ih12 _ _ _ _ _ _ _
   | exact impl_CountGuarded.mono _ _ _
   | exact impl_FewestForGuards.mono _ _ _ _
   | exact impl_FirstForGuards.mono _ _ _ _
   | exact impl_SeatsForGuards.mono _ _ _
   | exact laws_hRows.mono _ _ _
   | exact spec_CountGuarded.mono _ _ _
   | exact spec_FewestForGuards.mono _ _ _ _
   | exact spec_FirstForGuards.mono _ _ _ _
   | exact spec_SeatsForGuards.mono _ _ _
   | exact LeO.none _
   | refine LeO.ite ?_ ?_
   | refine LeO.bind ?_ (fun _=>?_)
end Go.Proofs.Ytabhhkiipilghaa.C1
