import Derived.Test.YtmfofjloklafoaaC5zx0
import Derived.Test.YtmfofjloklafoaaC5zx11
import Derived.Test.YtmfofjloklafoaaC5zAl
namespace Go.Proofs.Ytmfofjloklafoaa.C5
open Go.RowKit Go.Proofs.YtmfofjloklafoaaW.PrintWords Go.Proofs.YtmfofjloklafoaaW.PrintLast Go.Proofs.YtmfofjloklafoaaW.PrintMore Go.Proofs.Ytmfofjloklafoaa.H
attribute [local go_sem] max2_int min2_int max_two min_two max_three min_three max_four min_four
set_option linter.unusedVariables false
set_option linter.unusedSimpArgs false
mutual
def impl_IsKeep.j0:Nat→Bool→Int→List (List Int)→Int→Option (Bool)
 | 0,_,_,_,_=>none
 | k+1,x14,x341000,x341001,x341002=>if x14=true then (some false) else (impl_IsKeep.l0 k x341001 (x341001.length:Int) 0 x341000 x341001 x341002)
def impl_IsKeep.l0:Nat→List (List Int)→Int→Int→Int→List (List Int)→Int→Option (Bool)
 | 0,_,_,_,_,_,_=>none
 | k+1,x16,x17,x18,x341000,x341001,x341002=>if x18 < x17 then (if 0≤x18 then (if x18 < (x16.length:Int) then ((impl_areIn.f (rd_L1 x16 x18) 0 (wrap64 (x341000 - 1)) 2 2).bind fun t344=>(if t344=true then (if 0 < ((rd_L1 x16 x18).length:Int) then (if 1 < ((rd_L1 x16 x18).length:Int) then (if (rd (rd_L1 x16 x18) 0) ≥ (rd (rd_L1 x16 x18) 1) then (some false) else (if x18 > 0 then (if 0≤(wrap64 (x18 - 1)) then (if (wrap64 (x18 - 1)) < (x341001.length:Int) then ((slices_Compare_int_int.f k (rd_L1 x341001 (wrap64 (x18 - 1))) (rd_L1 x16 x18)).bind fun t348=>(if t348 ≥ 0 then (some false) else (impl_IsKeep.l0 k x16 x17 (wrap64 (x18+1)) x341000 x341001 x341002))) else (none)) else (none)) else (impl_IsKeep.l0 k x16 x17 (wrap64 (x18+1)) x341000 x341001 x341002))) else (none)) else (none)) else (some false))) else (none)) else (none)) else (some true)
end
def impl_IsKeep.f (k:Nat) (a0_0:Int) (l0_1:List (List Int)) (a0_2:Int):Option (Bool):=(impl_in.f a0_0 0 8).bind fun t341=>(if t341=true then ((impl_in.f a0_2 0 8).bind fun t342=>(impl_IsKeep.j0 k (!t342) a0_0 l0_1 a0_2)) else (impl_IsKeep.j0 k true a0_0 l0_1 a0_2))
def impl_IsKeep.T6:Bool × List (List Nat × List Nat):=(true,[([],[]),([],[]),([1],[1]),([2],[2]),([0,3],[0,3]),([4],[4]),([5,4],[5]),([6],[6]),([7,6],[6,7]),([8,6],[6,8]),([6],[6]),([10,6],[6,10]),([11,6],[6,11]),([9,12,6],[6,9,12]),([6,13],[6,13]),([14,6],[14]),([15],[15]),([16,15],[15,16]),([17,15,15],[15,17]),([18],[18]),([19,18],[18,19]),([18],[18]),([21,18],[18,21]),([20,22,18],[18,20,22]),([23,18],[18,23]),([18],[18]),([24,25,18,18],[18,24,25]),([26,18],[18,26]),([18,27,15],[15,18,27]),([15,28],[15,28])])
def impl_IsKeep.B6:List Nat:=[0,0,2,6,15,31,63,127,255,511,127,1151,3199,8191,16383,32767,65535,131071,262143,524287,1048575,524287,2621439,8388607,16777215,524287,67108863,134217727,268435455,536870911]
theorem impl_IsKeep.tab6:rtab .any (opsOf Try.f37 6)=impl_IsKeep.T6:=by kernel_rfl
theorem impl_IsKeep.bits6:waitsOk impl_IsKeep.T6.2 impl_IsKeep.B6=true:=by kernel_rfl
set_option maxHeartbeats 8000000 in
set_option maxRecDepth 100000 in
theorem impl_IsKeep.calls (k:Nat) (a0_0:Int) (A0_1:Option Addr) (c0_1:Nat) (l0_1:List (List Int)) (a0_2:Int) (r:Bool) (w:World) (hr0_1:Kd.C (Kd.slice 3 (Kd.int .i64)) w A0_1 l0_1.length l0_1) (hc0_1:l0_1.length≤c0_1) (h:impl_IsKeep.f k a0_0 l0_1 a0_2=some r) :
  Calls Try.prog 37 #[.agg #[.int .i64 a0_0, .slice A0_1 l0_1.length c0_1, .int .i64 a0_2]] w fun e w'=>e = .returned (.bool r)∧Below w.heap.size w w':=by
 have hu32:=Try.underlying32
 have HR0_1:=am' hr0_1
 have HC0_1:=am' hc0_1
 clear hr0_1 hc0_1;have HB:=am' (Below.refl w.heap.size w)
 have H:((impl_in.f a0_0 0 8).bind fun t341=>(if t341=true then ((impl_in.f a0_2 0 8).bind fun t342=>(impl_IsKeep.j0 k (!t342) a0_0 l0_1 a0_2)) else (impl_IsKeep.j0 k true a0_0 l0_1 a0_2)))=some r:=h
 clear h;have HC2:=am' H
 clear H;go_enter Try.func37,Try.ntmps37
 go_upto_region 1 with (first|((with_reducible refine gate_dst (N:=1) rfl ?_);refine box_event ?hg (N:=1) ?hd (cs:=#[.int .i64 a0_0, .slice A0_1 l0_1.length c0_1, .int .i64 a0_2]) (t:=32) ?hr ?_;(case hd=>rfl);(case hg=>rfl);(case hr=>first|(go_simp;done)|(go_simp;rfl));intro gb340 hg w3 hbox hb;have n0_:=am' (bt' xb' hb);have n1_:=am' (hbox);have n2_:=am' ((by rw[hg];exact (bz' xb'):w.heap.size≤gb340));have n3_:=am' ((by rw[hg];exact (bz' xb'):w.heap.size≤gb340));clear HB;have HB:=n0_;have BK340:=n1_;have GW340:=n2_;have GE340:=n3_;clear n0_ n1_ n2_ n3_;clear hb hbox hg))
 (try simp only[Act.put,sa',sb',sc'])
 go_cut [14] (fun v14 wc=>∃ (kq:Nat) (x14_1:Bool),v14 = .bool x14_1∧Aside0 (impl_IsKeep.j0 kq x14_1 a0_0 l0_1 a0_2=some r)∧Aside0 (kq≤k)∧Aside0 (wc.heap[gb340]? = some (.cells #[.int .i64 a0_0,(.slice A0_1 l0_1.length c0_1), .int .i64 a0_2] 32 (0,0)))∧Aside0 (Below w.heap.size w wc))
 case first =>
  have H:=HC2.out;clear HC2;replace H:=Option.bind_eq_some_iff.mp H;obtain ⟨t341,A40,H⟩:=H;replace H:(if t341=true then ((impl_in.f a0_2 0 8).bind fun t342=>(impl_IsKeep.j0 k (!t342) a0_0 l0_1 a0_2)) else (impl_IsKeep.j0 k true a0_0 l0_1 a0_2))=some r:=H;have A4:=am' A40;clear A40;by_cases c5:t341=true
  ·
   subst c5;have H1:((impl_in.f a0_2 0 8).bind fun t342=>(impl_IsKeep.j0 k (!t342) a0_0 l0_1 a0_2))=some r:=by rw[if_pos rfl] at H;exact H
   clear H;have H:=H1;clear H1;replace H:=Option.bind_eq_some_iff.mp H;obtain ⟨t342,A60,H⟩:=H;replace H:(impl_IsKeep.j0 k (!t342) a0_0 l0_1 a0_2)=some r:=H;have A6:=am' A60;clear A60;have H':=am' H;clear H;have hcz7_0:w3.cell? ⟨gb340,0,none⟩=some (.int .i64 a0_0):=(bc' BK340.out 0).trans rfl;have hcz7_1:w3.cell? ⟨gb340,1,none⟩=some (.slice A0_1 l0_1.length c0_1):=(bc' BK340.out 1).trans rfl;have hcz7_2:w3.cell? ⟨gb340,2,none⟩=some (.int .i64 a0_2):=(bc' BK340.out 2).trans rfl;have hfz7_0:=bf' BK340.out 0;have hfz7_1:=bf' BK340.out 1;have hfz7_2:=bf' BK340.out 2;go_wp2_with (first|((with_reducible refine gate_callee (f:=81) rfl ?_);refine goesL_ (some 7) rfl rfl Try.func81 xk' rfl #[.int .i64 a0_0, .int .i64 0, .int .i64 8] rfl xl' ?_;(with_reducible refine (impl_in.calls a0_0 0 8 true _ A4.out).mono ?_);rintro e w' ⟨rfl,⟨nd,rfl⟩⟩;refine ⟨_,rfl,?_⟩)|(go_at_call 81;(with_reducible refine (impl_in.calls a0_2 0 8 t342 _ A6.out).mono ?_);rintro e w' ⟨rfl,⟨nd,rfl⟩⟩));go_meet
   case rel=>exact ⟨_,(!t342),xs',H',⟨by first|omega|exact Nat.le_refl _⟩,⟨kk' BK340.out⟩,⟨yb' GE340.out⟩⟩
  ·
   replace c5:=Bool.eq_false_iff.mpr c5;subst c5;have H1:(impl_IsKeep.j0 k true a0_0 l0_1 a0_2)=some r:=by rw[if_neg (show ¬ (false=true) by decide)] at H;exact H
   clear H;have H:=H1;clear H1;have H':=am' H;clear H;have hcz8_0:w3.cell? ⟨gb340,0,none⟩=some (.int .i64 a0_0):=(bc' BK340.out 0).trans rfl;have hcz8_1:w3.cell? ⟨gb340,1,none⟩=some (.slice A0_1 l0_1.length c0_1):=(bc' BK340.out 1).trans rfl;have hcz8_2:w3.cell? ⟨gb340,2,none⟩=some (.int .i64 a0_2):=(bc' BK340.out 2).trans rfl;have hfz8_0:=bf' BK340.out 0;have hfz8_1:=bf' BK340.out 1;have hfz8_2:=bf' BK340.out 2;go_wp2_with (first|((with_reducible refine gate_callee (f:=81) rfl ?_);refine goesL_ (some 7) rfl rfl Try.func81 xk' rfl #[.int .i64 a0_0, .int .i64 0, .int .i64 8] rfl xl' ?_;(with_reducible refine (impl_in.calls a0_0 0 8 false _ A4.out).mono ?_);rintro e w' ⟨rfl,⟨nd,rfl⟩⟩;refine ⟨_,rfl,?_⟩));go_meet
   case rel=>exact ⟨_,(true),xs',H',⟨by first|omega|exact Nat.le_refl _⟩,⟨kk' BK340.out⟩,⟨yb' GE340.out⟩⟩
 case rest =>
  clear HC2;try clear p2
  try clear c3
  try clear c5
  try clear c8
  try clear hcz7_0
  try clear hcz7_1
  try clear hcz7_2
  try clear hcz8_0
  try clear hcz8_1
  try clear hcz8_2
  try clear hfz7_0
  try clear hfz7_1
  try clear hfz7_2
  try clear hfz8_0
  try clear hfz8_1
  try clear hfz8_2
  obtain ⟨kq,x14_1,rfl,HA,HJ1,BK340,HB⟩:=hcut;cases kq with
  | zero=>exact absurd HA.out (by simp[impl_IsKeep.j0])
  | succ kj1 =>
   have H:=HA.out;clear HA;simp only[impl_IsKeep.j0] at H;by_cases c9:x14_1=true
   ·
    subst c9;have H1:(some false)=some r:=by rw[if_pos rfl] at H;exact H
    clear H;have H:=H1;clear H1;obtain rfl:=os' H;go_wp2;go_ret
    exact ⟨by first|rfl|(simp[errW_none,errW_some] <;> rfl)|(simp[*,errW_none,errW_some] <;> rfl),yb' GE340.out⟩
   ·
    replace c9:=Bool.eq_false_iff.mpr c9;subst c9;have H1:(impl_IsKeep.l0 kj1 l0_1 (l0_1.length:Int) 0 a0_0 l0_1 a0_2)=some r:=by rw[if_neg (show ¬ (false=true) by decide)] at H;exact H
    clear H;have H:=H1;clear H1;have H':=am' H;clear H;have hcz10_0:wc.cell? ⟨gb340,0,none⟩=some (.int .i64 a0_0):=(bc' BK340.out 0).trans rfl;have hcz10_1:wc.cell? ⟨gb340,1,none⟩=some (.slice A0_1 l0_1.length c0_1):=(bc' BK340.out 1).trans rfl;have hcz10_2:wc.cell? ⟨gb340,2,none⟩=some (.int .i64 a0_2):=(bc' BK340.out 2).trans rfl;have hfz10_0:=bf' BK340.out 0;have hfz10_1:=bf' BK340.out 1;have hfz10_2:=bf' BK340.out 2;go_wp2;go_loopg [18] kj1 (fun kq v18 w'=>∃ (x18_2:Int),v18 = .int .i64 x18_2∧Aside0 (impl_IsKeep.l0 kq l0_1 (l0_1.length:Int) x18_2 a0_0 l0_1 a0_2=some r)∧Aside0 (kq≤kj1)∧Aside0 (w'.heap[gb340]? = some (.cells #[.int .i64 a0_0,(.slice A0_1 l0_1.length c0_1), .int .i64 a0_2] 32 (0,0)))∧Aside0 (Below w.heap.size w w'))
    case atStart=>exact ⟨(0),xs',H',⟨Nat.le_refl _⟩,⟨kk' BK340.out⟩,⟨yb' GE340.out⟩⟩
    case round =>
     clear H';try clear p2
     try clear c3
     try clear c5
     try clear c8
     try clear c9
     try clear hcz10_0
     try clear hcz10_1
     try clear hcz10_2
     try clear hcz7_0
     try clear hcz7_1
     try clear hcz7_2
     try clear hcz8_0
     try clear hcz8_1
     try clear hcz8_2
     try clear hfz10_0
     try clear hfz10_1
     try clear hfz10_2
     try clear hfz7_0
     try clear hfz7_1
     try clear hfz7_2
     try clear hfz8_0
     try clear hfz8_1
     try clear hfz8_2
     try clear p2
     obtain ⟨x18_2,rfl,HA,HK2,BK340,HB⟩:=hrel;cases gk with
     | zero=>exact absurd HA.out (by simp[impl_IsKeep.l0])
     | succ k2 =>
      have H:=HA.out;clear HA;simp only[impl_IsKeep.l0] at H;by_cases c11:x18_2 < (l0_1.length:Int)
      ·
       rw[if_pos c11] at H;have c11b0:decide (x18_2 < (l0_1.length:Int))=true:=dt' c11;clear c11;by_cases c12:0≤x18_2
       ·
        rw[if_pos c12] at H;have c12b0:decide (0≤x18_2)=true:=dt' c12;clear c12;by_cases c13:x18_2 < (l0_1.length:Int)
        ·
         rw[if_pos c13] at H;have c13b0:decide (x18_2 < (l0_1.length:Int))=true:=dt' c13;clear c13;replace H:=Option.bind_eq_some_iff.mp H;obtain ⟨t344,A140,H⟩:=H;replace H:(if t344=true then (if 0 < ((rd_L1 l0_1 x18_2).length:Int) then (if 1 < ((rd_L1 l0_1 x18_2).length:Int) then (if (rd (rd_L1 l0_1 x18_2) 0) ≥ (rd (rd_L1 l0_1 x18_2) 1) then (some false) else (if x18_2 > 0 then (if 0≤(wrap64 (x18_2 - 1)) then (if (wrap64 (x18_2 - 1)) < (l0_1.length:Int) then ((slices_Compare_int_int.f k2 (rd_L1 l0_1 (wrap64 (x18_2 - 1))) (rd_L1 l0_1 x18_2)).bind fun t348=>(if t348 ≥ 0 then (some false) else (impl_IsKeep.l0 k2 l0_1 (l0_1.length:Int) (wrap64 (x18_2+1)) a0_0 l0_1 a0_2))) else (none)) else (none)) else (impl_IsKeep.l0 k2 l0_1 (l0_1.length:Int) (wrap64 (x18_2+1)) a0_0 l0_1 a0_2))) else (none)) else (none)) else (some false))=some r:=H;have A14:=am' A140;clear A140;by_cases c15:t344=true
         ·
          subst c15;have H1:(if 0 < ((rd_L1 l0_1 x18_2).length:Int) then (if 1 < ((rd_L1 l0_1 x18_2).length:Int) then (if (rd (rd_L1 l0_1 x18_2) 0) ≥ (rd (rd_L1 l0_1 x18_2) 1) then (some false) else (if x18_2 > 0 then (if 0≤(wrap64 (x18_2 - 1)) then (if (wrap64 (x18_2 - 1)) < (l0_1.length:Int) then ((slices_Compare_int_int.f k2 (rd_L1 l0_1 (wrap64 (x18_2 - 1))) (rd_L1 l0_1 x18_2)).bind fun t348=>(if t348 ≥ 0 then (some false) else (impl_IsKeep.l0 k2 l0_1 (l0_1.length:Int) (wrap64 (x18_2+1)) a0_0 l0_1 a0_2))) else (none)) else (none)) else (impl_IsKeep.l0 k2 l0_1 (l0_1.length:Int) (wrap64 (x18_2+1)) a0_0 l0_1 a0_2))) else (none)) else (none))=some r:=by rw[if_pos rfl] at H;exact H
          clear H;have H:=H1;clear H1;by_cases c16:0 < ((rd_L1 l0_1 x18_2).length:Int)
          ·
           rw[if_pos c16] at H;have c16b0:decide (0 < ((rd_L1 l0_1 x18_2).length:Int))=true:=dt' c16;have c16b1:decide (0 < (rd_L1 l0_1 x18_2).length)=true:=dt' (by omega);clear c16;by_cases c17:1 < ((rd_L1 l0_1 x18_2).length:Int)
           ·
            rw[if_pos c17] at H;have c17b0:decide (1 < ((rd_L1 l0_1 x18_2).length:Int))=true:=dt' c17;have c17b1:decide (1 < (rd_L1 l0_1 x18_2).length)=true:=dt' (by omega);clear c17;by_cases c18:(rd (rd_L1 l0_1 x18_2) 0) ≥ (rd (rd_L1 l0_1 x18_2) 1)
            ·
             rw[if_pos c18] at H;have c18b0:decide ((rd (rd_L1 l0_1 x18_2) 1)≤(rd (rd_L1 l0_1 x18_2) 0))=true:=dt' c18;clear c18;obtain rfl:=os' H;have p343:0≤(x18_2:Int):=od' xa';have q343:x18_2 < (l0_1.length:Int):=od' xa';obtain ⟨ad343,A343_0,c343_0,e343,hx343_0,hl343_0,hi343_0⟩:=at_L1 HR0_1.out x18_2 p343 q343;cases e343;replace hx343_0:=(HB.out.cell (bl' w _ hx343_0)).trans hx343_0;have HR343_0:=am' hi343_0;have HC343_0:=am' hl343_0;clear hi343_0 hl343_0;replace p343:=eq_true p343;replace q343:=eq_true q343
             try go_wp2
             have n0_:=am' (kd' BK340.out);have n1_:=am' (be' HB.out);clear BK340;clear HB;have BK340:=n0_;have HB:=n1_;clear n0_ n1_;have p345:0≤(0:Int):=(by omega)
             have q345:0 < ((rd_L1 l0_1 x18_2).length:Int):=od' xa';obtain ⟨ad345,e345,hx345_0⟩:=Kd.at_int HR343_0.out 0 p345 q345;have hw345_0:=hx345_0;(try rw [show ((0:Int)).toNat=0 from rfl] at hw345_0)
             (try rw [show 0 * 1=0 from rfl] at hw345_0)
             (try rw [Addr.add_zero'] at hw345_0)
             cases e345
             have qi345:(0 < (rd_L1 l0_1 x18_2).length)=True:=eq_true (by omega)
             (try rw [show ((0:Int)).toNat=0 from rfl] at hx345_0)
             (try rw [Addr.add_zero'] at hx345_0)
             replace hx345_0:=(HB.out.cell (bl' w _ hx345_0)).trans hx345_0;replace p345:=eq_true p345;replace q345:=eq_true q345;have p346:0≤(1:Int):=(by omega)
             have q346:1 < ((rd_L1 l0_1 x18_2).length:Int):=od' xa';obtain ⟨ad346,e346,hx346_0⟩:=Kd.at_int HR343_0.out 1 p346 q346;have hw346_0:=hx346_0;(try rw [show ((1:Int)).toNat=1 from rfl] at hw346_0)
             (try rw [show 1 * 1=1 from rfl] at hw346_0)
             (try simp only[Nat.reduceMul,Nat.reduceEqDiff,Go.Addr.add,↓reduceIte] at hw346_0)
             obtain rfl:ad345=ad346:=(by injection e346)
             (try simp only[show (1:Int).toNat=1 from rfl,Nat.reduceMul,Nat.reduceEqDiff,Go.Addr.add,↓reduceIte] at hx346_0)
             have qi346:(1 < (rd_L1 l0_1 x18_2).length)=True:=eq_true (by omega)
             (try rw [show ((1:Int)).toNat=1 from rfl] at hx346_0)
             replace hx346_0:=(HB.out.cell (bl' w _ hx346_0)).trans hx346_0;replace p346:=eq_true p346;replace q346:=eq_true q346;refine start_ (n:=30) (S:=fun w'=>w'.cell? ⟨gb340,0,none⟩=some (.int .i64 a0_0)∧w'.cell? ⟨gb340,1,none⟩=some (.slice (some ad343) l0_1.length c0_1)∧w'.cell? ⟨gb340,2,none⟩=some (.int .i64 a0_2)∧w'.cell? ad345=some (.int .i64 (rd (rd_L1 l0_1 x18_2) 0))∧w'.cell? ⟨ad345.block,ad345.off+1,none⟩=some (.int .i64 (rd (rd_L1 l0_1 x18_2) 1))) (ds:=[]) #[false,false,false,false,false,false,false,false,false,false,false,false,false,false,false,false,false,false,false,false,false,false,false,false,false,false,false,false,false,false] xk' rfl rfl ⟨(bc' BK340.out 0).trans rfl,(bc' BK340.out 1).trans rfl,(bc' BK340.out 2).trans rfl,((HB.out.cell (bl' w _ hw345_0)).trans hw345_0),((HB.out.cell (bl' w _ hw346_0)).trans hw346_0)⟩ (fun hHeld=>?_);refine with_tabW impl_IsKeep.tab6 impl_IsKeep.bits6 (fun HT_ HW_=>?_);generalize wr.drew=w19 at BK340 HB hx345_0 hx346_0 hHeld ⊢
             refine pure_ (i:=0) (N:=some 23) (v:=?_) (a':=?_) #[true,false,false,false,false,false,false,false,false,false,false,false,false,false,false,false,false,false,false,false,false,false,false,false,false,false,false,false,false,false] rfl rfl (any_of HT_.out xk') (fun _ _ _ h=>h) (Or.inl ⟨by rfl,?_⟩) ?_ ?_
             rotate_left
             ·
              intro w';go_simp;with_reducible rfl
             rotate_left
             ·
              simp only[Act.put,sa',sb',sc',i64_w,i32_w];rfl
             refine pure_ (i:=1) (N:=some 24) (v:=?_) (a':=?_) #[true,true,false,false,false,false,false,false,false,false,false,false,false,false,false,false,false,false,false,false,false,false,false,false,false,false,false,false,false,false] rfl rfl (any_of HT_.out xk') (fun _ _ _ h=>h) (Or.inl ⟨by rfl,?_⟩) ?_ ?_
             rotate_left
             ·
              intro w';go_simp;with_reducible rfl
             rotate_left
             ·
              simp only[Act.put,sa',sb',sc',i64_w,i32_w];rfl
             refine take_ (i:=2) (N:=some 25) (v:=?_) (a':=?_) #[true,true,true,false,false,false,false,false,false,false,false,false,false,false,false,false,false,false,false,false,false,false,false,false,false,false,false,false,false,false] rfl rfl (take_ofW HT_.out HW_.out xk') (fun _ _ _ h=>h) (Or.inl ⟨by rfl,?_⟩) hHeld ?_ ?_
             rotate_left
             ·
              rintro w' ⟨s0,s1,s2,s3,s4⟩
              go_simp;with_reducible rfl
             rotate_left
             ·
              simp only[Act.put,sa',sb',sc',i64_w,i32_w];rfl
             refine pure_ (i:=3) (N:=some 26) (v:=?_) (a':=?_) #[true,true,true,true,false,false,false,false,false,false,false,false,false,false,false,false,false,false,false,false,false,false,false,false,false,false,false,false,false,false] rfl rfl (any_of HT_.out xk') (fun _ _ _ h=>h) (Or.inl ⟨by rfl,?_⟩) ?_ ?_
             rotate_left
             ·
              intro w';go_simp;with_reducible rfl
             rotate_left
             ·
              simp only[Act.put,sa',sb',sc',i64_w,i32_w];rfl
             refine one_ (i:=4) (N:=some 27) #[true,true,true,true,true,false,false,false,false,false,false,false,false,false,false,false,false,false,false,false,false,false,false,false,false,false,false,false,false,false] rfl rfl (one_of HT_.out xk') (by decide) (fun K hK=>?_);refine goes_ Try.func82 xk' rfl #[.slice (some ad345) (rd_L1 l0_1 x18_2).length c343_0, .int .i64 0, .int .i64 (wrap64 (a0_0 - 1)), .int .i64 2, .int .i64 2] (by rfl) rfl rfl xl' ?_
             with_reducible refine (impl_areIn.calls _ _ (rd_L1 l0_1 x18_2) 0 (wrap64 (a0_0 - 1)) 2 2 true _ ?side1 ?side2 A14.out).mono ?_
             (case side1=>exact kc' (cb' HR343_0.out HB.out))
             (case side2=>exact HC343_0.out)
             rintro e w20 ⟨rfl,hb⟩
             refine ⟨_,rfl,?_⟩;have n0_:=am' (bb' (g:=gb340) (o := .cells #[.int .i64 a0_0, .slice (some ad343) l0_1.length c0_1, .int .i64 a0_2] 32 (0,0)) (kk' BK340.out) hb);have n1_:=am' (bt' (yb' GE340.out) hb);clear BK340;clear HB;have BK340:=n0_;have HB:=n1_;clear n0_ n1_;(try clear hb)
             (try clear hb2)
             (try clear hk)
             (try clear hi)
             refine hK.out _ _ ⟨(bc' BK340.out 0).trans rfl,(bc' BK340.out 1).trans rfl,(bc' BK340.out 2).trans rfl,((HB.out.cell (bl' w _ hw345_0)).trans hw345_0),((HB.out.cell (bl' w _ hw346_0)).trans hw346_0)⟩ (fun hHeld=>?_);clear hK K;refine norm_ (a':=?_) ?_ ?_
             rotate_left
             ·
              show Act.put _ (some 27) _=_
              simp only[Act.put,sa',sb',sc',i64_w,i32_w];rfl
             refine pure_ (i:=5) (N:=some 28) (v:=?_) (a':=?_) #[true,true,true,true,true,true,false,false,false,false,false,false,false,false,false,false,false,false,false,false,false,false,false,false,false,false,false,false,false,false] rfl rfl (any_of HT_.out xk') (fun _ _ _ h=>h) (Or.inl ⟨by rfl,?_⟩) ?_ ?_
             rotate_left
             ·
              intro w';go_simp;with_reducible rfl
             rotate_left
             ·
              simp only[Act.put,sa',sb',sc',i64_w,i32_w];rfl
             refine pure_ (i:=6) (N:=some 29) (v:=?_) (a':=?_) #[true,true,true,true,true,true,true,false,false,false,false,false,false,false,false,false,false,false,false,false,false,false,false,false,false,false,false,false,false,false] rfl rfl (any_of HT_.out xk') (fun _ _ _ h=>h) (Or.inl ⟨by rfl,?_⟩) ?_ ?_
             rotate_left
             ·
              intro w';go_simp;with_reducible rfl
             rotate_left
             ·
              simp only[Act.put,sa',sb',sc',i64_w,i32_w];rfl
             refine pure_ (i:=7) (N:=some 30) (v:=?_) (a':=?_) #[true,true,true,true,true,true,true,true,false,false,false,false,false,false,false,false,false,false,false,false,false,false,false,false,false,false,false,false,false,false] rfl rfl (any_of HT_.out xk') (fun _ _ _ h=>h) (Or.inl ⟨by rfl,?_⟩) ?_ ?_
             rotate_left
             ·
              intro w';go_simp;with_reducible rfl
             rotate_left
             ·
              simp only[Act.put,sa',sb',sc',i64_w,i32_w];rfl
             refine pure_ (i:=8) (N:=some 31) (v:=?_) (a':=?_) #[true,true,true,true,true,true,true,true,true,false,false,false,false,false,false,false,false,false,false,false,false,false,false,false,false,false,false,false,false,false] rfl rfl (any_of HT_.out xk') (fun _ _ _ h=>h) (Or.inl ⟨by rfl,?_⟩) ?_ ?_
             rotate_left
             ·
              intro w';go_simp;with_reducible rfl
             rotate_left
             ·
              simp only[Act.put,sa',sb',sc',i64_w,i32_w];rfl
             refine pure_ (i:=10) (N:=some 33) (v:=?_) (a':=?_) #[true,true,true,true,true,true,true,true,true,false,true,false,false,false,false,false,false,false,false,false,false,false,false,false,false,false,false,false,false,false] rfl rfl (any_of HT_.out xk') (fun _ _ _ h=>h) (Or.inl ⟨by rfl,?_⟩) ?_ ?_
             rotate_left
             ·
              intro w';go_simp;with_reducible rfl
             rotate_left
             ·
              simp only[Act.put,sa',sb',sc',i64_w,i32_w];rfl
             refine pure_ (i:=11) (N:=some 34) (v:=?_) (a':=?_) #[true,true,true,true,true,true,true,true,true,false,true,true,false,false,false,false,false,false,false,false,false,false,false,false,false,false,false,false,false,false] rfl rfl (any_of HT_.out xk') (fun _ _ _ h=>h) (Or.inl ⟨by rfl,?_⟩) ?_ ?_
             rotate_left
             ·
              intro w';go_simp;with_reducible rfl
             rotate_left
             ·
              simp only[Act.put,sa',sb',sc',i64_w,i32_w];rfl
             refine take_ (i:=9) (N:=some 32) (v:=?_) (a':=?_) #[true,true,true,true,true,true,true,true,true,true,true,true,false,false,false,false,false,false,false,false,false,false,false,false,false,false,false,false,false,false] rfl rfl (take_ofW HT_.out HW_.out xk') (fun _ _ _ h=>h) (Or.inl ⟨by rfl,?_⟩) hHeld ?_ ?_
             rotate_left
             ·
              rintro w' ⟨s0,s1,s2,s3,s4⟩
              go_simp;with_reducible rfl
             rotate_left
             ·
              simp only[Act.put,sa',sb',sc',i64_w,i32_w];rfl
             refine take_ (i:=12) (N:=some 35) (v:=?_) (a':=?_) #[true,true,true,true,true,true,true,true,true,true,true,true,true,false,false,false,false,false,false,false,false,false,false,false,false,false,false,false,false,false] rfl rfl (take_ofW HT_.out HW_.out xk') (fun _ _ _ h=>h) (Or.inl ⟨by rfl,?_⟩) hHeld ?_ ?_
             rotate_left
             ·
              rintro w' ⟨s0,s1,s2,s3,s4⟩
              go_simp;with_reducible rfl
             rotate_left
             ·
              simp only[Act.put,sa',sb',sc',i64_w,i32_w];rfl
             refine pure_ (i:=13) (N:=some 36) (v:=?_) (a':=?_) #[true,true,true,true,true,true,true,true,true,true,true,true,true,true,false,false,false,false,false,false,false,false,false,false,false,false,false,false,false,false] rfl rfl (any_of HT_.out xk') (fun _ _ _ h=>h) (Or.inl ⟨by rfl,?_⟩) ?_ ?_
             rotate_left
             ·
              intro w';go_simp;with_reducible rfl
             rotate_left
             ·
              simp only[Act.put,sa',sb',sc',i64_w,i32_w];rfl
             refine pure_ (i:=14) (N:=some 37) (v:=?_) (a':=?_) #[true,true,true,true,true,true,true,true,true,true,true,true,true,true,true,false,false,false,false,false,false,false,false,false,false,false,false,false,false,false] rfl rfl (any_of HT_.out xk') (fun _ _ _ h=>h) (Or.inl ⟨by rfl,?_⟩) ?_ ?_
             rotate_left
             ·
              intro w';go_simp;with_reducible rfl
             rotate_left
             ·
              simp only[Act.put,sa',sb',sc',i64_w,i32_w];rfl
             refine pure_ (i:=15) (N:=some 38) (v:=?_) (a':=?_) #[true,true,true,true,true,true,true,true,true,true,true,true,true,true,true,true,false,false,false,false,false,false,false,false,false,false,false,false,false,false] rfl rfl (any_of HT_.out xk') (fun _ _ _ h=>h) (Or.inl ⟨by rfl,?_⟩) ?_ ?_
             rotate_left
             ·
              intro w';go_simp;with_reducible rfl
             rotate_left
             ·
              simp only[Act.put,sa',sb',sc',i64_w,i32_w];rfl
             refine pure_ (i:=16) (N:=some 39) (v:=undef) (a':=?_) #[true,true,true,true,true,true,true,true,true,true,true,true,true,true,true,true,true,false,false,false,false,false,false,false,false,false,false,false,false,false] rfl rfl (any_of HT_.out xk') (fun _ _ _ h=>h) (Or.inr ⟨by rfl,rfl⟩) ?_ ?_
             rotate_left
             ·
              simp only[Act.put,sa',sb',sc',i64_w,i32_w];rfl
             refine pure_ (i:=17) (N:=some 40) (v:=undef) (a':=?_) #[true,true,true,true,true,true,true,true,true,true,true,true,true,true,true,true,true,true,false,false,false,false,false,false,false,false,false,false,false,false] rfl rfl (any_of HT_.out xk') (fun _ _ _ h=>h) (Or.inr ⟨by rfl,rfl⟩) ?_ ?_
             rotate_left
             ·
              simp only[Act.put,sa',sb',sc',i64_w,i32_w];rfl
             refine pure_ (i:=18) (N:=some 41) (v:=undef) (a':=?_) #[true,true,true,true,true,true,true,true,true,true,true,true,true,true,true,true,true,true,true,false,false,false,false,false,false,false,false,false,false,false] rfl rfl (any_of HT_.out xk') (fun _ _ _ h=>h) (Or.inr ⟨by rfl,rfl⟩) ?_ ?_
             rotate_left
             ·
              simp only[Act.put,sa',sb',sc',i64_w,i32_w];rfl
             refine pure_ (i:=19) (N:=some 42) (v:=undef) (a':=?_) #[true,true,true,true,true,true,true,true,true,true,true,true,true,true,true,true,true,true,true,true,false,false,false,false,false,false,false,false,false,false] rfl rfl (any_of HT_.out xk') (fun _ _ _ h=>h) (Or.inr ⟨by rfl,rfl⟩) ?_ ?_
             rotate_left
             ·
              simp only[Act.put,sa',sb',sc',i64_w,i32_w];rfl
             refine pure_ (i:=20) (N:=some 43) (v:=undef) (a':=?_) #[true,true,true,true,true,true,true,true,true,true,true,true,true,true,true,true,true,true,true,true,true,false,false,false,false,false,false,false,false,false] rfl rfl (any_of HT_.out xk') (fun _ _ _ h=>h) (Or.inr ⟨by rfl,rfl⟩) ?_ ?_
             rotate_left
             ·
              simp only[Act.put,sa',sb',sc',i64_w,i32_w];rfl
             refine pure_ (i:=21) (N:=some 44) (v:=undef) (a':=?_) #[true,true,true,true,true,true,true,true,true,true,true,true,true,true,true,true,true,true,true,true,true,true,false,false,false,false,false,false,false,false] rfl rfl (any_of HT_.out xk') (fun _ _ _ h=>h) (Or.inr ⟨by rfl,rfl⟩) ?_ ?_
             rotate_left
             ·
              simp only[Act.put,sa',sb',sc',i64_w,i32_w];rfl
             refine pure_ (i:=22) (N:=some 45) (v:=undef) (a':=?_) #[true,true,true,true,true,true,true,true,true,true,true,true,true,true,true,true,true,true,true,true,true,true,true,false,false,false,false,false,false,false] rfl rfl (any_of HT_.out xk') (fun _ _ _ h=>h) (Or.inr ⟨by rfl,rfl⟩) ?_ ?_
             rotate_left
             ·
              simp only[Act.put,sa',sb',sc',i64_w,i32_w];rfl
             refine pure_ (i:=23) (N:=some 46) (v:=undef) (a':=?_) #[true,true,true,true,true,true,true,true,true,true,true,true,true,true,true,true,true,true,true,true,true,true,true,true,false,false,false,false,false,false] rfl rfl (any_of HT_.out xk') (fun _ _ _ h=>h) (Or.inr ⟨by rfl,rfl⟩) ?_ ?_
             rotate_left
             ·
              simp only[Act.put,sa',sb',sc',i64_w,i32_w];rfl
             refine pure_ (i:=24) (N:=some 47) (v:=undef) (a':=?_) #[true,true,true,true,true,true,true,true,true,true,true,true,true,true,true,true,true,true,true,true,true,true,true,true,true,false,false,false,false,false] rfl rfl (any_of HT_.out xk') (fun _ _ _ h=>h) (Or.inr ⟨by rfl,rfl⟩) ?_ ?_
             rotate_left
             ·
              simp only[Act.put,sa',sb',sc',i64_w,i32_w];rfl
             refine pure_ (i:=25) (N:=some 48) (v:=undef) (a':=?_) #[true,true,true,true,true,true,true,true,true,true,true,true,true,true,true,true,true,true,true,true,true,true,true,true,true,true,false,false,false,false] rfl rfl (any_of HT_.out xk') (fun _ _ _ h=>h) (Or.inr ⟨by rfl,rfl⟩) ?_ ?_
             rotate_left
             ·
              simp only[Act.put,sa',sb',sc',i64_w,i32_w];rfl
             refine pure_ (i:=26) (N:=some 49) (v:=undef) (a':=?_) #[true,true,true,true,true,true,true,true,true,true,true,true,true,true,true,true,true,true,true,true,true,true,true,true,true,true,true,false,false,false] rfl rfl (any_of HT_.out xk') (fun _ _ _ h=>h) (Or.inr ⟨by rfl,rfl⟩) ?_ ?_
             rotate_left
             ·
              simp only[Act.put,sa',sb',sc',i64_w,i32_w];rfl
             refine pure_ (i:=27) (N:=some 50) (v:=undef) (a':=?_) #[true,true,true,true,true,true,true,true,true,true,true,true,true,true,true,true,true,true,true,true,true,true,true,true,true,true,true,true,false,false] rfl rfl (any_of HT_.out xk') (fun _ _ _ h=>h) (Or.inr ⟨by rfl,rfl⟩) ?_ ?_
             rotate_left
             ·
              simp only[Act.put,sa',sb',sc',i64_w,i32_w];rfl
             refine pure_ (i:=28) (N:=some 51) (v:=undef) (a':=?_) #[true,true,true,true,true,true,true,true,true,true,true,true,true,true,true,true,true,true,true,true,true,true,true,true,true,true,true,true,true,false] rfl rfl (any_of HT_.out xk') (fun _ _ _ h=>h) (Or.inr ⟨by rfl,rfl⟩) ?_ ?_
             rotate_left
             ·
              simp only[Act.put,sa',sb',sc',i64_w,i32_w];rfl
             refine pure_ (i:=29) (N:=some 52) (v:=?_) (a':=?_) #[true,true,true,true,true,true,true,true,true,true,true,true,true,true,true,true,true,true,true,true,true,true,true,true,true,true,true,true,true,true] rfl rfl (any_of HT_.out xk') (fun _ _ _ h=>h) (Or.inl ⟨by rfl,?_⟩) ?_ ?_
             rotate_left
             ·
              intro w';go_simp;with_reducible rfl
             rotate_left
             ·
              simp only[Act.put,sa',sb',sc',i64_w,i32_w];rfl
             refine done_ (done_of HT_.out xk') ?_
             try go_wp2
             go_ret
             exact ⟨by first|rfl|(simp[errW_none,errW_some] <;> rfl)|(simp[*,errW_none,errW_some] <;> rfl),yb' GE340.out⟩
            ·
             rw[if_neg c18] at H;have c18b0:decide ((rd (rd_L1 l0_1 x18_2) 1)≤(rd (rd_L1 l0_1 x18_2) 0))=false:=df' c18;clear c18;by_cases c21:x18_2 > 0
             ·
              rw[if_pos c21] at H;have c21b0:decide (0 < x18_2)=true:=dt' c21;clear c21;obtain ⟨ji22,hji22⟩:∃ j_:Int,(wrap64 (x18_2 - 1))=j_:=⟨_,rfl⟩
              replace H:(if 0≤(ji22) then (if (ji22) < (l0_1.length:Int) then ((slices_Compare_int_int.f k2 (rd_L1 l0_1 (ji22)) (rd_L1 l0_1 x18_2)).bind fun t348=>(if t348 ≥ 0 then (some false) else (impl_IsKeep.l0 k2 l0_1 (l0_1.length:Int) (wrap64 (x18_2+1)) a0_0 l0_1 a0_2))) else (none)) else (none))=some r:=by first|(rw[hji22] at H;exact H)|(simp only[hji22] at H ⊢;exact H)
              (try rw [hji22] at A14)
              have hji22w:(IntKind.i64.wrap (x18_2 - 1))=ji22:=(i64_w _).trans hji22;by_cases c23:0≤(ji22)
              ·
               rw[if_pos c23] at H;have c23b0:decide (0≤(ji22))=true:=dt' c23;clear c23;by_cases c24:(ji22) < (l0_1.length:Int)
               ·
                rw[if_pos c24] at H;have c24b0:decide ((ji22) < (l0_1.length:Int))=true:=dt' c24;clear c24;replace H:=Option.bind_eq_some_iff.mp H;obtain ⟨t348,A250,H⟩:=H;replace H:(if t348 ≥ 0 then (some false) else (impl_IsKeep.l0 k2 l0_1 (l0_1.length:Int) (wrap64 (x18_2+1)) a0_0 l0_1 a0_2))=some r:=H;have A25:=am' A250;clear A250;by_cases c26:t348 ≥ 0
                ·
                 rw[if_pos c26] at H;have c26b0:decide (0≤t348)=true:=dt' c26;clear c26;obtain rfl:=os' H;have p343:0≤(x18_2:Int):=od' xa';have q343:x18_2 < (l0_1.length:Int):=od' xa';obtain ⟨ad343,A343_0,c343_0,e343,hx343_0,hl343_0,hi343_0⟩:=at_L1 HR0_1.out x18_2 p343 q343;cases e343;replace hx343_0:=(HB.out.cell (bl' w _ hx343_0)).trans hx343_0;have HR343_0:=am' hi343_0;have HC343_0:=am' hl343_0;clear hi343_0 hl343_0;replace p343:=eq_true p343;replace q343:=eq_true q343
                 try go_wp2
                 have n0_:=am' (kd' BK340.out);have n1_:=am' (be' HB.out);clear BK340;clear HB;have BK340:=n0_;have HB:=n1_;clear n0_ n1_;have p345:0≤(0:Int):=(by omega)
                 have q345:0 < ((rd_L1 l0_1 x18_2).length:Int):=od' xa';obtain ⟨ad345,e345,hx345_0⟩:=Kd.at_int HR343_0.out 0 p345 q345;have hw345_0:=hx345_0;(try rw [show ((0:Int)).toNat=0 from rfl] at hw345_0)
                 (try rw [show 0 * 1=0 from rfl] at hw345_0)
                 (try rw [Addr.add_zero'] at hw345_0)
                 cases e345
                 have qi345:(0 < (rd_L1 l0_1 x18_2).length)=True:=eq_true (by omega)
                 (try rw [show ((0:Int)).toNat=0 from rfl] at hx345_0)
                 (try rw [Addr.add_zero'] at hx345_0)
                 replace hx345_0:=(HB.out.cell (bl' w _ hx345_0)).trans hx345_0;replace p345:=eq_true p345;replace q345:=eq_true q345;have p346:0≤(1:Int):=(by omega)
                 have q346:1 < ((rd_L1 l0_1 x18_2).length:Int):=od' xa';obtain ⟨ad346,e346,hx346_0⟩:=Kd.at_int HR343_0.out 1 p346 q346;have hw346_0:=hx346_0;(try rw [show ((1:Int)).toNat=1 from rfl] at hw346_0)
                 (try rw [show 1 * 1=1 from rfl] at hw346_0)
                 (try simp only[Nat.reduceMul,Nat.reduceEqDiff,Go.Addr.add,↓reduceIte] at hw346_0)
                 obtain rfl:ad345=ad346:=(by injection e346)
                 (try simp only[show (1:Int).toNat=1 from rfl,Nat.reduceMul,Nat.reduceEqDiff,Go.Addr.add,↓reduceIte] at hx346_0)
                 have qi346:(1 < (rd_L1 l0_1 x18_2).length)=True:=eq_true (by omega)
                 (try rw [show ((1:Int)).toNat=1 from rfl] at hx346_0)
                 replace hx346_0:=(HB.out.cell (bl' w _ hx346_0)).trans hx346_0;replace p346:=eq_true p346;replace q346:=eq_true q346;have p347:0≤((ji22):Int):=od' xa';have q347:(ji22) < (l0_1.length:Int):=od' xa';obtain ⟨ad347,A347_0,c347_0,e347,hx347_0,hl347_0,hi347_0⟩:=at_L1 HR0_1.out (ji22) p347 q347;have hw347_0:=hx347_0;obtain rfl:ad343=ad347:=(by injection e347)
                 replace hx347_0:=(HB.out.cell (bl' w _ hx347_0)).trans hx347_0;have HR347_0:=am' hi347_0;have HC347_0:=am' hl347_0;clear hi347_0 hl347_0;replace p347:=eq_true p347;replace q347:=eq_true q347;refine start_ (n:=30) (S:=fun w'=>w'.cell? ⟨gb340,0,none⟩=some (.int .i64 a0_0)∧w'.cell? ⟨gb340,1,none⟩=some (.slice (some ad343) l0_1.length c0_1)∧w'.cell? ⟨gb340,2,none⟩=some (.int .i64 a0_2)∧w'.cell? ad345=some (.int .i64 (rd (rd_L1 l0_1 x18_2) 0))∧w'.cell? ⟨ad345.block,ad345.off+1,none⟩=some (.int .i64 (rd (rd_L1 l0_1 x18_2) 1))∧w'.cell? (ad343.add ((ji22)).toNat)=some (.slice A347_0 (rd_L1 l0_1 (ji22)).length c347_0)) (ds:=[]) #[false,false,false,false,false,false,false,false,false,false,false,false,false,false,false,false,false,false,false,false,false,false,false,false,false,false,false,false,false,false] xk' rfl rfl ⟨(bc' BK340.out 0).trans rfl,(bc' BK340.out 1).trans rfl,(bc' BK340.out 2).trans rfl,((HB.out.cell (bl' w _ hw345_0)).trans hw345_0),((HB.out.cell (bl' w _ hw346_0)).trans hw346_0),((HB.out.cell (bl' w _ hw347_0)).trans hw347_0)⟩ (fun hHeld=>?_);refine with_tabW impl_IsKeep.tab6 impl_IsKeep.bits6 (fun HT_ HW_=>?_);generalize wr.drew=w27 at BK340 HB HR347_0 hx345_0 hx346_0 hx347_0 hHeld ⊢
                 refine pure_ (i:=0) (N:=some 23) (v:=?_) (a':=?_) #[true,false,false,false,false,false,false,false,false,false,false,false,false,false,false,false,false,false,false,false,false,false,false,false,false,false,false,false,false,false] rfl rfl (any_of HT_.out xk') (fun _ _ _ h=>h) (Or.inl ⟨by rfl,?_⟩) ?_ ?_
                 rotate_left
                 ·
                  intro w';go_simp;with_reducible rfl
                 rotate_left
                 ·
                  simp only[Act.put,sa',sb',sc',i64_w,i32_w];rfl
                 refine pure_ (i:=1) (N:=some 24) (v:=?_) (a':=?_) #[true,true,false,false,false,false,false,false,false,false,false,false,false,false,false,false,false,false,false,false,false,false,false,false,false,false,false,false,false,false] rfl rfl (any_of HT_.out xk') (fun _ _ _ h=>h) (Or.inl ⟨by rfl,?_⟩) ?_ ?_
                 rotate_left
                 ·
                  intro w';go_simp;with_reducible rfl
                 rotate_left
                 ·
                  simp only[Act.put,sa',sb',sc',i64_w,i32_w];rfl
                 refine take_ (i:=2) (N:=some 25) (v:=?_) (a':=?_) #[true,true,true,false,false,false,false,false,false,false,false,false,false,false,false,false,false,false,false,false,false,false,false,false,false,false,false,false,false,false] rfl rfl (take_ofW HT_.out HW_.out xk') (fun _ _ _ h=>h) (Or.inl ⟨by rfl,?_⟩) hHeld ?_ ?_
                 rotate_left
                 ·
                  rintro w' ⟨s0,s1,s2,s3,s4,s5⟩
                  go_simp;with_reducible rfl
                 rotate_left
                 ·
                  simp only[Act.put,sa',sb',sc',i64_w,i32_w];rfl
                 refine pure_ (i:=3) (N:=some 26) (v:=?_) (a':=?_) #[true,true,true,true,false,false,false,false,false,false,false,false,false,false,false,false,false,false,false,false,false,false,false,false,false,false,false,false,false,false] rfl rfl (any_of HT_.out xk') (fun _ _ _ h=>h) (Or.inl ⟨by rfl,?_⟩) ?_ ?_
                 rotate_left
                 ·
                  intro w';go_simp;with_reducible rfl
                 rotate_left
                 ·
                  simp only[Act.put,sa',sb',sc',i64_w,i32_w];rfl
                 refine one_ (i:=4) (N:=some 27) #[true,true,true,true,true,false,false,false,false,false,false,false,false,false,false,false,false,false,false,false,false,false,false,false,false,false,false,false,false,false] rfl rfl (one_of HT_.out xk') (by decide) (fun K hK=>?_);refine goes_ Try.func82 xk' rfl #[.slice (some ad345) (rd_L1 l0_1 x18_2).length c343_0, .int .i64 0, .int .i64 (wrap64 (a0_0 - 1)), .int .i64 2, .int .i64 2] (by rfl) rfl rfl xl' ?_
                 with_reducible refine (impl_areIn.calls _ _ (rd_L1 l0_1 x18_2) 0 (wrap64 (a0_0 - 1)) 2 2 true _ ?side1 ?side2 A14.out).mono ?_
                 (case side1=>exact kc' (cb' HR343_0.out HB.out))
                 (case side2=>exact HC343_0.out)
                 rintro e w28 ⟨rfl,hb⟩
                 refine ⟨_,rfl,?_⟩;have n0_:=am' (bb' (g:=gb340) (o := .cells #[.int .i64 a0_0, .slice (some ad343) l0_1.length c0_1, .int .i64 a0_2] 32 (0,0)) (kk' BK340.out) hb);have n1_:=am' (bt' (yb' GE340.out) hb);clear BK340;clear HB;have BK340:=n0_;have HB:=n1_;clear n0_ n1_;(try clear hb)
                 (try clear hb2)
                 (try clear hk)
                 (try clear hi)
                 refine hK.out _ _ ⟨(bc' BK340.out 0).trans rfl,(bc' BK340.out 1).trans rfl,(bc' BK340.out 2).trans rfl,((HB.out.cell (bl' w _ hw345_0)).trans hw345_0),((HB.out.cell (bl' w _ hw346_0)).trans hw346_0),((HB.out.cell (bl' w _ hw347_0)).trans hw347_0)⟩ (fun hHeld=>?_);clear hK K;refine norm_ (a':=?_) ?_ ?_
                 rotate_left
                 ·
                  show Act.put _ (some 27) _=_
                  simp only[Act.put,sa',sb',sc',i64_w,i32_w];rfl
                 refine pure_ (i:=5) (N:=some 28) (v:=?_) (a':=?_) #[true,true,true,true,true,true,false,false,false,false,false,false,false,false,false,false,false,false,false,false,false,false,false,false,false,false,false,false,false,false] rfl rfl (any_of HT_.out xk') (fun _ _ _ h=>h) (Or.inl ⟨by rfl,?_⟩) ?_ ?_
                 rotate_left
                 ·
                  intro w';go_simp;with_reducible rfl
                 rotate_left
                 ·
                  simp only[Act.put,sa',sb',sc',i64_w,i32_w];rfl
                 refine pure_ (i:=6) (N:=some 29) (v:=?_) (a':=?_) #[true,true,true,true,true,true,true,false,false,false,false,false,false,false,false,false,false,false,false,false,false,false,false,false,false,false,false,false,false,false] rfl rfl (any_of HT_.out xk') (fun _ _ _ h=>h) (Or.inl ⟨by rfl,?_⟩) ?_ ?_
                 rotate_left
                 ·
                  intro w';go_simp;with_reducible rfl
                 rotate_left
                 ·
                  simp only[Act.put,sa',sb',sc',i64_w,i32_w];rfl
                 refine pure_ (i:=7) (N:=some 30) (v:=?_) (a':=?_) #[true,true,true,true,true,true,true,true,false,false,false,false,false,false,false,false,false,false,false,false,false,false,false,false,false,false,false,false,false,false] rfl rfl (any_of HT_.out xk') (fun _ _ _ h=>h) (Or.inl ⟨by rfl,?_⟩) ?_ ?_
                 rotate_left
                 ·
                  intro w';go_simp;with_reducible rfl
                 rotate_left
                 ·
                  simp only[Act.put,sa',sb',sc',i64_w,i32_w];rfl
                 refine pure_ (i:=8) (N:=some 31) (v:=?_) (a':=?_) #[true,true,true,true,true,true,true,true,true,false,false,false,false,false,false,false,false,false,false,false,false,false,false,false,false,false,false,false,false,false] rfl rfl (any_of HT_.out xk') (fun _ _ _ h=>h) (Or.inl ⟨by rfl,?_⟩) ?_ ?_
                 rotate_left
                 ·
                  intro w';go_simp;with_reducible rfl
                 rotate_left
                 ·
                  simp only[Act.put,sa',sb',sc',i64_w,i32_w];rfl
                 refine pure_ (i:=10) (N:=some 33) (v:=?_) (a':=?_) #[true,true,true,true,true,true,true,true,true,false,true,false,false,false,false,false,false,false,false,false,false,false,false,false,false,false,false,false,false,false] rfl rfl (any_of HT_.out xk') (fun _ _ _ h=>h) (Or.inl ⟨by rfl,?_⟩) ?_ ?_
                 rotate_left
                 ·
                  intro w';go_simp;with_reducible rfl
                 rotate_left
                 ·
                  simp only[Act.put,sa',sb',sc',i64_w,i32_w];rfl
                 refine pure_ (i:=11) (N:=some 34) (v:=?_) (a':=?_) #[true,true,true,true,true,true,true,true,true,false,true,true,false,false,false,false,false,false,false,false,false,false,false,false,false,false,false,false,false,false] rfl rfl (any_of HT_.out xk') (fun _ _ _ h=>h) (Or.inl ⟨by rfl,?_⟩) ?_ ?_
                 rotate_left
                 ·
                  intro w';go_simp;with_reducible rfl
                 rotate_left
                 ·
                  simp only[Act.put,sa',sb',sc',i64_w,i32_w];rfl
                 refine take_ (i:=9) (N:=some 32) (v:=?_) (a':=?_) #[true,true,true,true,true,true,true,true,true,true,true,true,false,false,false,false,false,false,false,false,false,false,false,false,false,false,false,false,false,false] rfl rfl (take_ofW HT_.out HW_.out xk') (fun _ _ _ h=>h) (Or.inl ⟨by rfl,?_⟩) hHeld ?_ ?_
                 rotate_left
                 ·
                  rintro w' ⟨s0,s1,s2,s3,s4,s5⟩
                  go_simp;with_reducible rfl
                 rotate_left
                 ·
                  simp only[Act.put,sa',sb',sc',i64_w,i32_w];rfl
                 refine take_ (i:=12) (N:=some 35) (v:=?_) (a':=?_) #[true,true,true,true,true,true,true,true,true,true,true,true,true,false,false,false,false,false,false,false,false,false,false,false,false,false,false,false,false,false] rfl rfl (take_ofW HT_.out HW_.out xk') (fun _ _ _ h=>h) (Or.inl ⟨by rfl,?_⟩) hHeld ?_ ?_
                 rotate_left
                 ·
                  rintro w' ⟨s0,s1,s2,s3,s4,s5⟩
                  go_simp;with_reducible rfl
                 rotate_left
                 ·
                  simp only[Act.put,sa',sb',sc',i64_w,i32_w];rfl
                 refine pure_ (i:=13) (N:=some 36) (v:=?_) (a':=?_) #[true,true,true,true,true,true,true,true,true,true,true,true,true,true,false,false,false,false,false,false,false,false,false,false,false,false,false,false,false,false] rfl rfl (any_of HT_.out xk') (fun _ _ _ h=>h) (Or.inl ⟨by rfl,?_⟩) ?_ ?_
                 rotate_left
                 ·
                  intro w';go_simp;with_reducible rfl
                 rotate_left
                 ·
                  simp only[Act.put,sa',sb',sc',i64_w,i32_w];rfl
                 refine pure_ (i:=14) (N:=some 37) (v:=?_) (a':=?_) #[true,true,true,true,true,true,true,true,true,true,true,true,true,true,true,false,false,false,false,false,false,false,false,false,false,false,false,false,false,false] rfl rfl (any_of HT_.out xk') (fun _ _ _ h=>h) (Or.inl ⟨by rfl,?_⟩) ?_ ?_
                 rotate_left
                 ·
                  intro w';go_simp;with_reducible rfl
                 rotate_left
                 ·
                  simp only[Act.put,sa',sb',sc',i64_w,i32_w];rfl
                 refine pure_ (i:=15) (N:=some 38) (v:=?_) (a':=?_) #[true,true,true,true,true,true,true,true,true,true,true,true,true,true,true,true,false,false,false,false,false,false,false,false,false,false,false,false,false,false] rfl rfl (any_of HT_.out xk') (fun _ _ _ h=>h) (Or.inl ⟨by rfl,?_⟩) ?_ ?_
                 rotate_left
                 ·
                  intro w';go_simp;with_reducible rfl
                 rotate_left
                 ·
                  simp only[Act.put,sa',sb',sc',i64_w,i32_w];rfl
                 refine pure_ (i:=16) (N:=some 39) (v:=?_) (a':=?_) #[true,true,true,true,true,true,true,true,true,true,true,true,true,true,true,true,true,false,false,false,false,false,false,false,false,false,false,false,false,false] rfl rfl (any_of HT_.out xk') (fun _ _ _ h=>h) (Or.inl ⟨by rfl,?_⟩) ?_ ?_
                 rotate_left
                 ·
                  intro w';go_simp;with_reducible rfl
                 rotate_left
                 ·
                  simp only[Act.put,sa',sb',sc',i64_w,i32_w];rfl
                 refine pure_ (i:=17) (N:=some 40) (v:=?_) (a':=?_) #[true,true,true,true,true,true,true,true,true,true,true,true,true,true,true,true,true,true,false,false,false,false,false,false,false,false,false,false,false,false] rfl rfl (any_of HT_.out xk') (fun _ _ _ h=>h) (Or.inl ⟨by rfl,?_⟩) ?_ ?_
                 rotate_left
                 ·
                  intro w';go_simp;with_reducible rfl
                 rotate_left
                 ·
                  simp only[Act.put,sa',sb',sc',i64_w,i32_w];rfl
                 refine pure_ (i:=18) (N:=some 41) (v:=?_) (a':=?_) #[true,true,true,true,true,true,true,true,true,true,true,true,true,true,true,true,true,true,true,false,false,false,false,false,false,false,false,false,false,false] rfl rfl (any_of HT_.out xk') (fun _ _ _ h=>h) (Or.inl ⟨by rfl,?_⟩) ?_ ?_
                 rotate_left
                 ·
                  intro w';go_simp;with_reducible rfl
                 rotate_left
                 ·
                  simp only[Act.put,sa',sb',sc',i64_w,i32_w];rfl
                 refine pure_ (i:=19) (N:=some 42) (v:=?_) (a':=?_) #[true,true,true,true,true,true,true,true,true,true,true,true,true,true,true,true,true,true,true,true,false,false,false,false,false,false,false,false,false,false] rfl rfl (any_of HT_.out xk') (fun _ _ _ h=>h) (Or.inl ⟨by rfl,?_⟩) ?_ ?_
                 rotate_left
                 ·
                  intro w';go_simp;with_reducible rfl
                 rotate_left
                 ·
                  simp only[Act.put,sa',sb',sc',i64_w,i32_w];rfl
                 refine pure_ (i:=21) (N:=some 44) (v:=?_) (a':=?_) #[true,true,true,true,true,true,true,true,true,true,true,true,true,true,true,true,true,true,true,true,false,true,false,false,false,false,false,false,false,false] rfl rfl (any_of HT_.out xk') (fun _ _ _ h=>h) (Or.inl ⟨by rfl,?_⟩) ?_ ?_
                 rotate_left
                 ·
                  intro w';go_simp;with_reducible rfl
                 rotate_left
                 ·
                  simp only[Act.put,sa',sb',sc',i64_w,i32_w];rfl
                 refine pure_ (i:=22) (N:=some 45) (v:=?_) (a':=?_) #[true,true,true,true,true,true,true,true,true,true,true,true,true,true,true,true,true,true,true,true,false,true,true,false,false,false,false,false,false,false] rfl rfl (any_of HT_.out xk') (fun _ _ _ h=>h) (Or.inl ⟨by rfl,?_⟩) ?_ ?_
                 rotate_left
                 ·
                  intro w';go_simp;with_reducible rfl
                 rotate_left
                 ·
                  simp only[Act.put,sa',sb',sc',i64_w,i32_w];rfl
                 refine pure_ (i:=25) (N:=some 48) (v:=?_) (a':=?_) #[true,true,true,true,true,true,true,true,true,true,true,true,true,true,true,true,true,true,true,true,false,true,true,false,false,true,false,false,false,false] rfl rfl (any_of HT_.out xk') (fun _ _ _ h=>h) (Or.inl ⟨by rfl,?_⟩) ?_ ?_
                 rotate_left
                 ·
                  intro w';go_simp;with_reducible rfl
                 rotate_left
                 ·
                  simp only[Act.put,sa',sb',sc',i64_w,i32_w];rfl
                 refine take_ (i:=20) (N:=some 43) (v:=?_) (a':=?_) #[true,true,true,true,true,true,true,true,true,true,true,true,true,true,true,true,true,true,true,true,true,true,true,false,false,true,false,false,false,false] rfl rfl (take_ofW HT_.out HW_.out xk') (fun _ _ _ h=>h) (Or.inl ⟨by rfl,?_⟩) hHeld ?_ ?_
                 rotate_left
                 ·
                  rintro w' ⟨s0,s1,s2,s3,s4,s5⟩
                  go_simp;with_reducible rfl
                 rotate_left
                 ·
                  simp only[Act.put,sa',sb',sc',i64_w,i32_w];rfl
                 refine pure_ (i:=23) (N:=some 46) (v:=?_) (a':=?_) #[true,true,true,true,true,true,true,true,true,true,true,true,true,true,true,true,true,true,true,true,true,true,true,true,false,true,false,false,false,false] rfl rfl (any_of HT_.out xk') (fun _ _ _ h=>h) (Or.inl ⟨by rfl,?_⟩) ?_ ?_
                 rotate_left
                 ·
                  intro w';go_simp;with_reducible rfl
                 rotate_left
                 ·
                  simp only[Act.put,sa',sb',sc',i64_w,i32_w];rfl
                 refine take_ (i:=24) (N:=some 47) (v:=?_) (a':=?_) #[true,true,true,true,true,true,true,true,true,true,true,true,true,true,true,true,true,true,true,true,true,true,true,true,true,true,false,false,false,false] rfl rfl (take_ofW HT_.out HW_.out xk') (fun _ _ _ h=>h) (Or.inl ⟨by rfl,?_⟩) hHeld ?_ ?_
                 rotate_left
                 ·
                  rintro w' ⟨s0,s1,s2,s3,s4,s5⟩
                  go_simp;with_reducible rfl
                 rotate_left
                 ·
                  simp only[Act.put,sa',sb',sc',i64_w,i32_w];rfl
                 refine one_ (i:=26) (N:=some 49) #[true,true,true,true,true,true,true,true,true,true,true,true,true,true,true,true,true,true,true,true,true,true,true,true,true,true,true,false,false,false] rfl rfl (one_of HT_.out xk') (by decide) (fun K hK=>?_);refine goes_ Try.func83 xk' rfl #[.slice A347_0 (rd_L1 l0_1 (ji22)).length c347_0, .slice (some ad345) (rd_L1 l0_1 x18_2).length c343_0] (by rfl) rfl rfl (by (try simp only[List.map_toArray,List.map_cons,List.map_nil]);first|done|(simp only[hji22];rfl)|rfl|(simp only[List.length_drop,List.length_take];rfl)) ?_
                 with_reducible refine (slices_Compare_int_int.calls k2 _ _ (rd_L1 l0_1 (ji22)) _ _ (rd_L1 l0_1 x18_2) t348 _ ?side1 ?side2 ?side3 ?side4 A25.out).mono ?_
                 (case side1=>exact kc' (cb' HR347_0.out HB.out))
                 (case side2=>exact HC347_0.out)
                 (case side3=>exact kc' (cb' HR343_0.out HB.out))
                 (case side4=>exact HC343_0.out)
                 rintro e w' ⟨rfl,⟨nd,rfl⟩⟩
                 refine ⟨_,rfl,?_⟩;refine hK.out _ _ ⟨(bc' BK340.out 0).trans rfl,(bc' BK340.out 1).trans rfl,(bc' BK340.out 2).trans rfl,((HB.out.cell (bl' w _ hw345_0)).trans hw345_0),((HB.out.cell (bl' w _ hw346_0)).trans hw346_0),((HB.out.cell (bl' w _ hw347_0)).trans hw347_0)⟩ (fun hHeld=>?_);clear hK K;refine norm_ (a':=?_) ?_ ?_
                 rotate_left
                 ·
                  show Act.put _ (some 49) _=_
                  simp only[Act.put,sa',sb',sc',i64_w,i32_w];rfl
                 refine pure_ (i:=27) (N:=some 50) (v:=?_) (a':=?_) #[true,true,true,true,true,true,true,true,true,true,true,true,true,true,true,true,true,true,true,true,true,true,true,true,true,true,true,true,false,false] rfl rfl (any_of HT_.out xk') (fun _ _ _ h=>h) (Or.inl ⟨by rfl,?_⟩) ?_ ?_
                 rotate_left
                 ·
                  intro w';go_simp;with_reducible rfl
                 rotate_left
                 ·
                  simp only[Act.put,sa',sb',sc',i64_w,i32_w];rfl
                 refine pure_ (i:=28) (N:=some 51) (v:=?_) (a':=?_) #[true,true,true,true,true,true,true,true,true,true,true,true,true,true,true,true,true,true,true,true,true,true,true,true,true,true,true,true,true,false] rfl rfl (any_of HT_.out xk') (fun _ _ _ h=>h) (Or.inl ⟨by rfl,?_⟩) ?_ ?_
                 rotate_left
                 ·
                  intro w';go_simp;with_reducible rfl
                 rotate_left
                 ·
                  simp only[Act.put,sa',sb',sc',i64_w,i32_w];rfl
                 refine pure_ (i:=29) (N:=some 52) (v:=?_) (a':=?_) #[true,true,true,true,true,true,true,true,true,true,true,true,true,true,true,true,true,true,true,true,true,true,true,true,true,true,true,true,true,true] rfl rfl (any_of HT_.out xk') (fun _ _ _ h=>h) (Or.inl ⟨by rfl,?_⟩) ?_ ?_
                 rotate_left
                 ·
                  intro w';go_simp;with_reducible rfl
                 rotate_left
                 ·
                  simp only[Act.put,sa',sb',sc',i64_w,i32_w];rfl
                 refine done_ (done_of HT_.out xk') ?_
                 try go_wp2
                 go_ret
                 exact ⟨by first|rfl|(simp[errW_none,errW_some] <;> rfl)|(simp only[← hji22];first|rfl|(simp[errW_none,errW_some] <;> rfl))|(simp[*,errW_none,errW_some] <;> rfl),yb' GE340.out⟩
                ·
                 rw[if_neg c26] at H;have c26b0:decide (0≤t348)=false:=df' c26;clear c26;have H':=am' H;clear H;have p343:0≤(x18_2:Int):=od' xa';have q343:x18_2 < (l0_1.length:Int):=od' xa';obtain ⟨ad343,A343_0,c343_0,e343,hx343_0,hl343_0,hi343_0⟩:=at_L1 HR0_1.out x18_2 p343 q343;cases e343;replace hx343_0:=(HB.out.cell (bl' w _ hx343_0)).trans hx343_0;have HR343_0:=am' hi343_0;have HC343_0:=am' hl343_0;clear hi343_0 hl343_0;replace p343:=eq_true p343;replace q343:=eq_true q343
                 try go_wp2
                 have n0_:=am' (kd' BK340.out);have n1_:=am' (be' HB.out);clear BK340;clear HB;have BK340:=n0_;have HB:=n1_;clear n0_ n1_;have p345:0≤(0:Int):=(by omega)
                 have q345:0 < ((rd_L1 l0_1 x18_2).length:Int):=od' xa';obtain ⟨ad345,e345,hx345_0⟩:=Kd.at_int HR343_0.out 0 p345 q345;have hw345_0:=hx345_0;(try rw [show ((0:Int)).toNat=0 from rfl] at hw345_0)
                 (try rw [show 0 * 1=0 from rfl] at hw345_0)
                 (try rw [Addr.add_zero'] at hw345_0)
                 cases e345
                 have qi345:(0 < (rd_L1 l0_1 x18_2).length)=True:=eq_true (by omega)
                 (try rw [show ((0:Int)).toNat=0 from rfl] at hx345_0)
                 (try rw [Addr.add_zero'] at hx345_0)
                 replace hx345_0:=(HB.out.cell (bl' w _ hx345_0)).trans hx345_0;replace p345:=eq_true p345;replace q345:=eq_true q345;have p346:0≤(1:Int):=(by omega)
                 have q346:1 < ((rd_L1 l0_1 x18_2).length:Int):=od' xa';obtain ⟨ad346,e346,hx346_0⟩:=Kd.at_int HR343_0.out 1 p346 q346;have hw346_0:=hx346_0;(try rw [show ((1:Int)).toNat=1 from rfl] at hw346_0)
                 (try rw [show 1 * 1=1 from rfl] at hw346_0)
                 (try simp only[Nat.reduceMul,Nat.reduceEqDiff,Go.Addr.add,↓reduceIte] at hw346_0)
                 obtain rfl:ad345=ad346:=(by injection e346)
                 (try simp only[show (1:Int).toNat=1 from rfl,Nat.reduceMul,Nat.reduceEqDiff,Go.Addr.add,↓reduceIte] at hx346_0)
                 have qi346:(1 < (rd_L1 l0_1 x18_2).length)=True:=eq_true (by omega)
                 (try rw [show ((1:Int)).toNat=1 from rfl] at hx346_0)
                 replace hx346_0:=(HB.out.cell (bl' w _ hx346_0)).trans hx346_0;replace p346:=eq_true p346;replace q346:=eq_true q346;have p347:0≤((ji22):Int):=od' xa';have q347:(ji22) < (l0_1.length:Int):=od' xa';obtain ⟨ad347,A347_0,c347_0,e347,hx347_0,hl347_0,hi347_0⟩:=at_L1 HR0_1.out (ji22) p347 q347;have hw347_0:=hx347_0;obtain rfl:ad343=ad347:=(by injection e347)
                 replace hx347_0:=(HB.out.cell (bl' w _ hx347_0)).trans hx347_0;have HR347_0:=am' hi347_0;have HC347_0:=am' hl347_0;clear hi347_0 hl347_0;replace p347:=eq_true p347;replace q347:=eq_true q347;refine start_ (n:=30) (S:=fun w'=>w'.cell? ⟨gb340,0,none⟩=some (.int .i64 a0_0)∧w'.cell? ⟨gb340,1,none⟩=some (.slice (some ad343) l0_1.length c0_1)∧w'.cell? ⟨gb340,2,none⟩=some (.int .i64 a0_2)∧w'.cell? ad345=some (.int .i64 (rd (rd_L1 l0_1 x18_2) 0))∧w'.cell? ⟨ad345.block,ad345.off+1,none⟩=some (.int .i64 (rd (rd_L1 l0_1 x18_2) 1))∧w'.cell? (ad343.add ((ji22)).toNat)=some (.slice A347_0 (rd_L1 l0_1 (ji22)).length c347_0)) (ds:=[]) #[false,false,false,false,false,false,false,false,false,false,false,false,false,false,false,false,false,false,false,false,false,false,false,false,false,false,false,false,false,false] xk' rfl rfl ⟨(bc' BK340.out 0).trans rfl,(bc' BK340.out 1).trans rfl,(bc' BK340.out 2).trans rfl,((HB.out.cell (bl' w _ hw345_0)).trans hw345_0),((HB.out.cell (bl' w _ hw346_0)).trans hw346_0),((HB.out.cell (bl' w _ hw347_0)).trans hw347_0)⟩ (fun hHeld=>?_);refine with_tabW impl_IsKeep.tab6 impl_IsKeep.bits6 (fun HT_ HW_=>?_);generalize wr.drew=w29 at BK340 HB HR347_0 hx345_0 hx346_0 hx347_0 hHeld ⊢
                 refine pure_ (i:=0) (N:=some 23) (v:=?_) (a':=?_) #[true,false,false,false,false,false,false,false,false,false,false,false,false,false,false,false,false,false,false,false,false,false,false,false,false,false,false,false,false,false] rfl rfl (any_of HT_.out xk') (fun _ _ _ h=>h) (Or.inl ⟨by rfl,?_⟩) ?_ ?_
                 rotate_left
                 ·
                  intro w';go_simp;with_reducible rfl
                 rotate_left
                 ·
                  simp only[Act.put,sa',sb',sc',i64_w,i32_w];rfl
                 refine pure_ (i:=1) (N:=some 24) (v:=?_) (a':=?_) #[true,true,false,false,false,false,false,false,false,false,false,false,false,false,false,false,false,false,false,false,false,false,false,false,false,false,false,false,false,false] rfl rfl (any_of HT_.out xk') (fun _ _ _ h=>h) (Or.inl ⟨by rfl,?_⟩) ?_ ?_
                 rotate_left
                 ·
                  intro w';go_simp;with_reducible rfl
                 rotate_left
                 ·
                  simp only[Act.put,sa',sb',sc',i64_w,i32_w];rfl
                 refine take_ (i:=2) (N:=some 25) (v:=?_) (a':=?_) #[true,true,true,false,false,false,false,false,false,false,false,false,false,false,false,false,false,false,false,false,false,false,false,false,false,false,false,false,false,false] rfl rfl (take_ofW HT_.out HW_.out xk') (fun _ _ _ h=>h) (Or.inl ⟨by rfl,?_⟩) hHeld ?_ ?_
                 rotate_left
                 ·
                  rintro w' ⟨s0,s1,s2,s3,s4,s5⟩
                  go_simp;with_reducible rfl
                 rotate_left
                 ·
                  simp only[Act.put,sa',sb',sc',i64_w,i32_w];rfl
                 refine pure_ (i:=3) (N:=some 26) (v:=?_) (a':=?_) #[true,true,true,true,false,false,false,false,false,false,false,false,false,false,false,false,false,false,false,false,false,false,false,false,false,false,false,false,false,false] rfl rfl (any_of HT_.out xk') (fun _ _ _ h=>h) (Or.inl ⟨by rfl,?_⟩) ?_ ?_
                 rotate_left
                 ·
                  intro w';go_simp;with_reducible rfl
                 rotate_left
                 ·
                  simp only[Act.put,sa',sb',sc',i64_w,i32_w];rfl
                 refine one_ (i:=4) (N:=some 27) #[true,true,true,true,true,false,false,false,false,false,false,false,false,false,false,false,false,false,false,false,false,false,false,false,false,false,false,false,false,false] rfl rfl (one_of HT_.out xk') (by decide) (fun K hK=>?_);refine goes_ Try.func82 xk' rfl #[.slice (some ad345) (rd_L1 l0_1 x18_2).length c343_0, .int .i64 0, .int .i64 (wrap64 (a0_0 - 1)), .int .i64 2, .int .i64 2] (by rfl) rfl rfl xl' ?_
                 with_reducible refine (impl_areIn.calls _ _ (rd_L1 l0_1 x18_2) 0 (wrap64 (a0_0 - 1)) 2 2 true _ ?side1 ?side2 A14.out).mono ?_
                 (case side1=>exact kc' (cb' HR343_0.out HB.out))
                 (case side2=>exact HC343_0.out)
                 rintro e w30 ⟨rfl,hb⟩
                 refine ⟨_,rfl,?_⟩;have n0_:=am' (bb' (g:=gb340) (o := .cells #[.int .i64 a0_0, .slice (some ad343) l0_1.length c0_1, .int .i64 a0_2] 32 (0,0)) (kk' BK340.out) hb);have n1_:=am' (bt' (yb' GE340.out) hb);clear BK340;clear HB;have BK340:=n0_;have HB:=n1_;clear n0_ n1_;(try clear hb)
                 (try clear hb2)
                 (try clear hk)
                 (try clear hi)
                 refine hK.out _ _ ⟨(bc' BK340.out 0).trans rfl,(bc' BK340.out 1).trans rfl,(bc' BK340.out 2).trans rfl,((HB.out.cell (bl' w _ hw345_0)).trans hw345_0),((HB.out.cell (bl' w _ hw346_0)).trans hw346_0),((HB.out.cell (bl' w _ hw347_0)).trans hw347_0)⟩ (fun hHeld=>?_);clear hK K;refine norm_ (a':=?_) ?_ ?_
                 rotate_left
                 ·
                  show Act.put _ (some 27) _=_
                  simp only[Act.put,sa',sb',sc',i64_w,i32_w];rfl
                 refine pure_ (i:=5) (N:=some 28) (v:=?_) (a':=?_) #[true,true,true,true,true,true,false,false,false,false,false,false,false,false,false,false,false,false,false,false,false,false,false,false,false,false,false,false,false,false] rfl rfl (any_of HT_.out xk') (fun _ _ _ h=>h) (Or.inl ⟨by rfl,?_⟩) ?_ ?_
                 rotate_left
                 ·
                  intro w';go_simp;with_reducible rfl
                 rotate_left
                 ·
                  simp only[Act.put,sa',sb',sc',i64_w,i32_w];rfl
                 refine pure_ (i:=6) (N:=some 29) (v:=?_) (a':=?_) #[true,true,true,true,true,true,true,false,false,false,false,false,false,false,false,false,false,false,false,false,false,false,false,false,false,false,false,false,false,false] rfl rfl (any_of HT_.out xk') (fun _ _ _ h=>h) (Or.inl ⟨by rfl,?_⟩) ?_ ?_
                 rotate_left
                 ·
                  intro w';go_simp;with_reducible rfl
                 rotate_left
                 ·
                  simp only[Act.put,sa',sb',sc',i64_w,i32_w];rfl
                 refine pure_ (i:=7) (N:=some 30) (v:=?_) (a':=?_) #[true,true,true,true,true,true,true,true,false,false,false,false,false,false,false,false,false,false,false,false,false,false,false,false,false,false,false,false,false,false] rfl rfl (any_of HT_.out xk') (fun _ _ _ h=>h) (Or.inl ⟨by rfl,?_⟩) ?_ ?_
                 rotate_left
                 ·
                  intro w';go_simp;with_reducible rfl
                 rotate_left
                 ·
                  simp only[Act.put,sa',sb',sc',i64_w,i32_w];rfl
                 refine pure_ (i:=8) (N:=some 31) (v:=?_) (a':=?_) #[true,true,true,true,true,true,true,true,true,false,false,false,false,false,false,false,false,false,false,false,false,false,false,false,false,false,false,false,false,false] rfl rfl (any_of HT_.out xk') (fun _ _ _ h=>h) (Or.inl ⟨by rfl,?_⟩) ?_ ?_
                 rotate_left
                 ·
                  intro w';go_simp;with_reducible rfl
                 rotate_left
                 ·
                  simp only[Act.put,sa',sb',sc',i64_w,i32_w];rfl
                 refine pure_ (i:=10) (N:=some 33) (v:=?_) (a':=?_) #[true,true,true,true,true,true,true,true,true,false,true,false,false,false,false,false,false,false,false,false,false,false,false,false,false,false,false,false,false,false] rfl rfl (any_of HT_.out xk') (fun _ _ _ h=>h) (Or.inl ⟨by rfl,?_⟩) ?_ ?_
                 rotate_left
                 ·
                  intro w';go_simp;with_reducible rfl
                 rotate_left
                 ·
                  simp only[Act.put,sa',sb',sc',i64_w,i32_w];rfl
                 refine pure_ (i:=11) (N:=some 34) (v:=?_) (a':=?_) #[true,true,true,true,true,true,true,true,true,false,true,true,false,false,false,false,false,false,false,false,false,false,false,false,false,false,false,false,false,false] rfl rfl (any_of HT_.out xk') (fun _ _ _ h=>h) (Or.inl ⟨by rfl,?_⟩) ?_ ?_
                 rotate_left
                 ·
                  intro w';go_simp;with_reducible rfl
                 rotate_left
                 ·
                  simp only[Act.put,sa',sb',sc',i64_w,i32_w];rfl
                 refine take_ (i:=9) (N:=some 32) (v:=?_) (a':=?_) #[true,true,true,true,true,true,true,true,true,true,true,true,false,false,false,false,false,false,false,false,false,false,false,false,false,false,false,false,false,false] rfl rfl (take_ofW HT_.out HW_.out xk') (fun _ _ _ h=>h) (Or.inl ⟨by rfl,?_⟩) hHeld ?_ ?_
                 rotate_left
                 ·
                  rintro w' ⟨s0,s1,s2,s3,s4,s5⟩
                  go_simp;with_reducible rfl
                 rotate_left
                 ·
                  simp only[Act.put,sa',sb',sc',i64_w,i32_w];rfl
                 refine take_ (i:=12) (N:=some 35) (v:=?_) (a':=?_) #[true,true,true,true,true,true,true,true,true,true,true,true,true,false,false,false,false,false,false,false,false,false,false,false,false,false,false,false,false,false] rfl rfl (take_ofW HT_.out HW_.out xk') (fun _ _ _ h=>h) (Or.inl ⟨by rfl,?_⟩) hHeld ?_ ?_
                 rotate_left
                 ·
                  rintro w' ⟨s0,s1,s2,s3,s4,s5⟩
                  go_simp;with_reducible rfl
                 rotate_left
                 ·
                  simp only[Act.put,sa',sb',sc',i64_w,i32_w];rfl
                 refine pure_ (i:=13) (N:=some 36) (v:=?_) (a':=?_) #[true,true,true,true,true,true,true,true,true,true,true,true,true,true,false,false,false,false,false,false,false,false,false,false,false,false,false,false,false,false] rfl rfl (any_of HT_.out xk') (fun _ _ _ h=>h) (Or.inl ⟨by rfl,?_⟩) ?_ ?_
                 rotate_left
                 ·
                  intro w';go_simp;with_reducible rfl
                 rotate_left
                 ·
                  simp only[Act.put,sa',sb',sc',i64_w,i32_w];rfl
                 refine pure_ (i:=14) (N:=some 37) (v:=?_) (a':=?_) #[true,true,true,true,true,true,true,true,true,true,true,true,true,true,true,false,false,false,false,false,false,false,false,false,false,false,false,false,false,false] rfl rfl (any_of HT_.out xk') (fun _ _ _ h=>h) (Or.inl ⟨by rfl,?_⟩) ?_ ?_
                 rotate_left
                 ·
                  intro w';go_simp;with_reducible rfl
                 rotate_left
                 ·
                  simp only[Act.put,sa',sb',sc',i64_w,i32_w];rfl
                 refine pure_ (i:=15) (N:=some 38) (v:=?_) (a':=?_) #[true,true,true,true,true,true,true,true,true,true,true,true,true,true,true,true,false,false,false,false,false,false,false,false,false,false,false,false,false,false] rfl rfl (any_of HT_.out xk') (fun _ _ _ h=>h) (Or.inl ⟨by rfl,?_⟩) ?_ ?_
                 rotate_left
                 ·
                  intro w';go_simp;with_reducible rfl
                 rotate_left
                 ·
                  simp only[Act.put,sa',sb',sc',i64_w,i32_w];rfl
                 refine pure_ (i:=16) (N:=some 39) (v:=?_) (a':=?_) #[true,true,true,true,true,true,true,true,true,true,true,true,true,true,true,true,true,false,false,false,false,false,false,false,false,false,false,false,false,false] rfl rfl (any_of HT_.out xk') (fun _ _ _ h=>h) (Or.inl ⟨by rfl,?_⟩) ?_ ?_
                 rotate_left
                 ·
                  intro w';go_simp;with_reducible rfl
                 rotate_left
                 ·
                  simp only[Act.put,sa',sb',sc',i64_w,i32_w];rfl
                 refine pure_ (i:=17) (N:=some 40) (v:=?_) (a':=?_) #[true,true,true,true,true,true,true,true,true,true,true,true,true,true,true,true,true,true,false,false,false,false,false,false,false,false,false,false,false,false] rfl rfl (any_of HT_.out xk') (fun _ _ _ h=>h) (Or.inl ⟨by rfl,?_⟩) ?_ ?_
                 rotate_left
                 ·
                  intro w';go_simp;with_reducible rfl
                 rotate_left
                 ·
                  simp only[Act.put,sa',sb',sc',i64_w,i32_w];rfl
                 refine pure_ (i:=18) (N:=some 41) (v:=?_) (a':=?_) #[true,true,true,true,true,true,true,true,true,true,true,true,true,true,true,true,true,true,true,false,false,false,false,false,false,false,false,false,false,false] rfl rfl (any_of HT_.out xk') (fun _ _ _ h=>h) (Or.inl ⟨by rfl,?_⟩) ?_ ?_
                 rotate_left
                 ·
                  intro w';go_simp;with_reducible rfl
                 rotate_left
                 ·
                  simp only[Act.put,sa',sb',sc',i64_w,i32_w];rfl
                 refine pure_ (i:=19) (N:=some 42) (v:=?_) (a':=?_) #[true,true,true,true,true,true,true,true,true,true,true,true,true,true,true,true,true,true,true,true,false,false,false,false,false,false,false,false,false,false] rfl rfl (any_of HT_.out xk') (fun _ _ _ h=>h) (Or.inl ⟨by rfl,?_⟩) ?_ ?_
                 rotate_left
                 ·
                  intro w';go_simp;with_reducible rfl
                 rotate_left
                 ·
                  simp only[Act.put,sa',sb',sc',i64_w,i32_w];rfl
                 refine pure_ (i:=21) (N:=some 44) (v:=?_) (a':=?_) #[true,true,true,true,true,true,true,true,true,true,true,true,true,true,true,true,true,true,true,true,false,true,false,false,false,false,false,false,false,false] rfl rfl (any_of HT_.out xk') (fun _ _ _ h=>h) (Or.inl ⟨by rfl,?_⟩) ?_ ?_
                 rotate_left
                 ·
                  intro w';go_simp;with_reducible rfl
                 rotate_left
                 ·
                  simp only[Act.put,sa',sb',sc',i64_w,i32_w];rfl
                 refine pure_ (i:=22) (N:=some 45) (v:=?_) (a':=?_) #[true,true,true,true,true,true,true,true,true,true,true,true,true,true,true,true,true,true,true,true,false,true,true,false,false,false,false,false,false,false] rfl rfl (any_of HT_.out xk') (fun _ _ _ h=>h) (Or.inl ⟨by rfl,?_⟩) ?_ ?_
                 rotate_left
                 ·
                  intro w';go_simp;with_reducible rfl
                 rotate_left
                 ·
                  simp only[Act.put,sa',sb',sc',i64_w,i32_w];rfl
                 refine pure_ (i:=25) (N:=some 48) (v:=?_) (a':=?_) #[true,true,true,true,true,true,true,true,true,true,true,true,true,true,true,true,true,true,true,true,false,true,true,false,false,true,false,false,false,false] rfl rfl (any_of HT_.out xk') (fun _ _ _ h=>h) (Or.inl ⟨by rfl,?_⟩) ?_ ?_
                 rotate_left
                 ·
                  intro w';go_simp;with_reducible rfl
                 rotate_left
                 ·
                  simp only[Act.put,sa',sb',sc',i64_w,i32_w];rfl
                 refine take_ (i:=20) (N:=some 43) (v:=?_) (a':=?_) #[true,true,true,true,true,true,true,true,true,true,true,true,true,true,true,true,true,true,true,true,true,true,true,false,false,true,false,false,false,false] rfl rfl (take_ofW HT_.out HW_.out xk') (fun _ _ _ h=>h) (Or.inl ⟨by rfl,?_⟩) hHeld ?_ ?_
                 rotate_left
                 ·
                  rintro w' ⟨s0,s1,s2,s3,s4,s5⟩
                  go_simp;with_reducible rfl
                 rotate_left
                 ·
                  simp only[Act.put,sa',sb',sc',i64_w,i32_w];rfl
                 refine pure_ (i:=23) (N:=some 46) (v:=?_) (a':=?_) #[true,true,true,true,true,true,true,true,true,true,true,true,true,true,true,true,true,true,true,true,true,true,true,true,false,true,false,false,false,false] rfl rfl (any_of HT_.out xk') (fun _ _ _ h=>h) (Or.inl ⟨by rfl,?_⟩) ?_ ?_
                 rotate_left
                 ·
                  intro w';go_simp;with_reducible rfl
                 rotate_left
                 ·
                  simp only[Act.put,sa',sb',sc',i64_w,i32_w];rfl
                 refine take_ (i:=24) (N:=some 47) (v:=?_) (a':=?_) #[true,true,true,true,true,true,true,true,true,true,true,true,true,true,true,true,true,true,true,true,true,true,true,true,true,true,false,false,false,false] rfl rfl (take_ofW HT_.out HW_.out xk') (fun _ _ _ h=>h) (Or.inl ⟨by rfl,?_⟩) hHeld ?_ ?_
                 rotate_left
                 ·
                  rintro w' ⟨s0,s1,s2,s3,s4,s5⟩
                  go_simp;with_reducible rfl
                 rotate_left
                 ·
                  simp only[Act.put,sa',sb',sc',i64_w,i32_w];rfl
                 refine one_ (i:=26) (N:=some 49) #[true,true,true,true,true,true,true,true,true,true,true,true,true,true,true,true,true,true,true,true,true,true,true,true,true,true,true,false,false,false] rfl rfl (one_of HT_.out xk') (by decide) (fun K hK=>?_);refine goes_ Try.func83 xk' rfl #[.slice A347_0 (rd_L1 l0_1 (ji22)).length c347_0, .slice (some ad345) (rd_L1 l0_1 x18_2).length c343_0] (by rfl) rfl rfl (by (try simp only[List.map_toArray,List.map_cons,List.map_nil]);first|done|(simp only[hji22];rfl)|rfl|(simp only[List.length_drop,List.length_take];rfl)) ?_
                 with_reducible refine (slices_Compare_int_int.calls k2 _ _ (rd_L1 l0_1 (ji22)) _ _ (rd_L1 l0_1 x18_2) t348 _ ?side1 ?side2 ?side3 ?side4 A25.out).mono ?_
                 (case side1=>exact kc' (cb' HR347_0.out HB.out))
                 (case side2=>exact HC347_0.out)
                 (case side3=>exact kc' (cb' HR343_0.out HB.out))
                 (case side4=>exact HC343_0.out)
                 rintro e w' ⟨rfl,⟨nd,rfl⟩⟩
                 refine ⟨_,rfl,?_⟩;refine hK.out _ _ ⟨(bc' BK340.out 0).trans rfl,(bc' BK340.out 1).trans rfl,(bc' BK340.out 2).trans rfl,((HB.out.cell (bl' w _ hw345_0)).trans hw345_0),((HB.out.cell (bl' w _ hw346_0)).trans hw346_0),((HB.out.cell (bl' w _ hw347_0)).trans hw347_0)⟩ (fun hHeld=>?_);clear hK K;refine norm_ (a':=?_) ?_ ?_
                 rotate_left
                 ·
                  show Act.put _ (some 49) _=_
                  simp only[Act.put,sa',sb',sc',i64_w,i32_w];rfl
                 refine pure_ (i:=27) (N:=some 50) (v:=?_) (a':=?_) #[true,true,true,true,true,true,true,true,true,true,true,true,true,true,true,true,true,true,true,true,true,true,true,true,true,true,true,true,false,false] rfl rfl (any_of HT_.out xk') (fun _ _ _ h=>h) (Or.inl ⟨by rfl,?_⟩) ?_ ?_
                 rotate_left
                 ·
                  intro w';go_simp;with_reducible rfl
                 rotate_left
                 ·
                  simp only[Act.put,sa',sb',sc',i64_w,i32_w];rfl
                 refine pure_ (i:=28) (N:=some 51) (v:=?_) (a':=?_) #[true,true,true,true,true,true,true,true,true,true,true,true,true,true,true,true,true,true,true,true,true,true,true,true,true,true,true,true,true,false] rfl rfl (any_of HT_.out xk') (fun _ _ _ h=>h) (Or.inl ⟨by rfl,?_⟩) ?_ ?_
                 rotate_left
                 ·
                  intro w';go_simp;with_reducible rfl
                 rotate_left
                 ·
                  simp only[Act.put,sa',sb',sc',i64_w,i32_w];rfl
                 refine pure_ (i:=29) (N:=some 52) (v:=?_) (a':=?_) #[true,true,true,true,true,true,true,true,true,true,true,true,true,true,true,true,true,true,true,true,true,true,true,true,true,true,true,true,true,true] rfl rfl (any_of HT_.out xk') (fun _ _ _ h=>h) (Or.inl ⟨by rfl,?_⟩) ?_ ?_
                 rotate_left
                 ·
                  intro w';go_simp;with_reducible rfl
                 rotate_left
                 ·
                  simp only[Act.put,sa',sb',sc',i64_w,i32_w];rfl
                 refine done_ (done_of HT_.out xk') ?_
                 try go_wp2
                 go_roundg k2
                 case measure=>have:=HJ1.out;have:=HK2.out;omega
                 case rel=>exact ⟨(wrap64 (x18_2+1)),xs',H',⟨by have:=HJ1.out;have:=HK2.out;omega⟩,⟨kk' BK340.out⟩,⟨yb' GE340.out⟩⟩
               ·
                rw[if_neg c24] at H;exact absurd H (by simp)
              ·
               rw[if_neg c23] at H;exact absurd H (by simp)
             ·
              rw[if_neg c21] at H;have c21b0:decide (0 < x18_2)=false:=df' c21;clear c21;have H':=am' H;clear H;have p343:0≤(x18_2:Int):=od' xa';have q343:x18_2 < (l0_1.length:Int):=od' xa';obtain ⟨ad343,A343_0,c343_0,e343,hx343_0,hl343_0,hi343_0⟩:=at_L1 HR0_1.out x18_2 p343 q343;cases e343;replace hx343_0:=(HB.out.cell (bl' w _ hx343_0)).trans hx343_0;have HR343_0:=am' hi343_0;have HC343_0:=am' hl343_0;clear hi343_0 hl343_0;replace p343:=eq_true p343;replace q343:=eq_true q343
              try go_wp2
              have n0_:=am' (kd' BK340.out);have n1_:=am' (be' HB.out);clear BK340;clear HB;have BK340:=n0_;have HB:=n1_;clear n0_ n1_;have p345:0≤(0:Int):=(by omega)
              have q345:0 < ((rd_L1 l0_1 x18_2).length:Int):=od' xa';obtain ⟨ad345,e345,hx345_0⟩:=Kd.at_int HR343_0.out 0 p345 q345;have hw345_0:=hx345_0;(try rw [show ((0:Int)).toNat=0 from rfl] at hw345_0)
              (try rw [show 0 * 1=0 from rfl] at hw345_0)
              (try rw [Addr.add_zero'] at hw345_0)
              cases e345
              have qi345:(0 < (rd_L1 l0_1 x18_2).length)=True:=eq_true (by omega)
              (try rw [show ((0:Int)).toNat=0 from rfl] at hx345_0)
              (try rw [Addr.add_zero'] at hx345_0)
              replace hx345_0:=(HB.out.cell (bl' w _ hx345_0)).trans hx345_0;replace p345:=eq_true p345;replace q345:=eq_true q345;have p346:0≤(1:Int):=(by omega)
              have q346:1 < ((rd_L1 l0_1 x18_2).length:Int):=od' xa';obtain ⟨ad346,e346,hx346_0⟩:=Kd.at_int HR343_0.out 1 p346 q346;have hw346_0:=hx346_0;(try rw [show ((1:Int)).toNat=1 from rfl] at hw346_0)
              (try rw [show 1 * 1=1 from rfl] at hw346_0)
              (try simp only[Nat.reduceMul,Nat.reduceEqDiff,Go.Addr.add,↓reduceIte] at hw346_0)
              obtain rfl:ad345=ad346:=(by injection e346)
              (try simp only[show (1:Int).toNat=1 from rfl,Nat.reduceMul,Nat.reduceEqDiff,Go.Addr.add,↓reduceIte] at hx346_0)
              have qi346:(1 < (rd_L1 l0_1 x18_2).length)=True:=eq_true (by omega)
              (try rw [show ((1:Int)).toNat=1 from rfl] at hx346_0)
              replace hx346_0:=(HB.out.cell (bl' w _ hx346_0)).trans hx346_0;replace p346:=eq_true p346;replace q346:=eq_true q346;refine start_ (n:=30) (S:=fun w'=>w'.cell? ⟨gb340,0,none⟩=some (.int .i64 a0_0)∧w'.cell? ⟨gb340,1,none⟩=some (.slice (some ad343) l0_1.length c0_1)∧w'.cell? ⟨gb340,2,none⟩=some (.int .i64 a0_2)∧w'.cell? ad345=some (.int .i64 (rd (rd_L1 l0_1 x18_2) 0))∧w'.cell? ⟨ad345.block,ad345.off+1,none⟩=some (.int .i64 (rd (rd_L1 l0_1 x18_2) 1))) (ds:=[]) #[false,false,false,false,false,false,false,false,false,false,false,false,false,false,false,false,false,false,false,false,false,false,false,false,false,false,false,false,false,false] xk' rfl rfl ⟨(bc' BK340.out 0).trans rfl,(bc' BK340.out 1).trans rfl,(bc' BK340.out 2).trans rfl,((HB.out.cell (bl' w _ hw345_0)).trans hw345_0),((HB.out.cell (bl' w _ hw346_0)).trans hw346_0)⟩ (fun hHeld=>?_);refine with_tabW impl_IsKeep.tab6 impl_IsKeep.bits6 (fun HT_ HW_=>?_);generalize wr.drew=w31 at BK340 HB hx345_0 hx346_0 hHeld ⊢
              refine pure_ (i:=0) (N:=some 23) (v:=?_) (a':=?_) #[true,false,false,false,false,false,false,false,false,false,false,false,false,false,false,false,false,false,false,false,false,false,false,false,false,false,false,false,false,false] rfl rfl (any_of HT_.out xk') (fun _ _ _ h=>h) (Or.inl ⟨by rfl,?_⟩) ?_ ?_
              rotate_left
              ·
               intro w';go_simp;with_reducible rfl
              rotate_left
              ·
               simp only[Act.put,sa',sb',sc',i64_w,i32_w];rfl
              refine pure_ (i:=1) (N:=some 24) (v:=?_) (a':=?_) #[true,true,false,false,false,false,false,false,false,false,false,false,false,false,false,false,false,false,false,false,false,false,false,false,false,false,false,false,false,false] rfl rfl (any_of HT_.out xk') (fun _ _ _ h=>h) (Or.inl ⟨by rfl,?_⟩) ?_ ?_
              rotate_left
              ·
               intro w';go_simp;with_reducible rfl
              rotate_left
              ·
               simp only[Act.put,sa',sb',sc',i64_w,i32_w];rfl
              refine take_ (i:=2) (N:=some 25) (v:=?_) (a':=?_) #[true,true,true,false,false,false,false,false,false,false,false,false,false,false,false,false,false,false,false,false,false,false,false,false,false,false,false,false,false,false] rfl rfl (take_ofW HT_.out HW_.out xk') (fun _ _ _ h=>h) (Or.inl ⟨by rfl,?_⟩) hHeld ?_ ?_
              rotate_left
              ·
               rintro w' ⟨s0,s1,s2,s3,s4⟩
               go_simp;with_reducible rfl
              rotate_left
              ·
               simp only[Act.put,sa',sb',sc',i64_w,i32_w];rfl
              refine pure_ (i:=3) (N:=some 26) (v:=?_) (a':=?_) #[true,true,true,true,false,false,false,false,false,false,false,false,false,false,false,false,false,false,false,false,false,false,false,false,false,false,false,false,false,false] rfl rfl (any_of HT_.out xk') (fun _ _ _ h=>h) (Or.inl ⟨by rfl,?_⟩) ?_ ?_
              rotate_left
              ·
               intro w';go_simp;with_reducible rfl
              rotate_left
              ·
               simp only[Act.put,sa',sb',sc',i64_w,i32_w];rfl
              refine one_ (i:=4) (N:=some 27) #[true,true,true,true,true,false,false,false,false,false,false,false,false,false,false,false,false,false,false,false,false,false,false,false,false,false,false,false,false,false] rfl rfl (one_of HT_.out xk') (by decide) (fun K hK=>?_);refine goes_ Try.func82 xk' rfl #[.slice (some ad345) (rd_L1 l0_1 x18_2).length c343_0, .int .i64 0, .int .i64 (wrap64 (a0_0 - 1)), .int .i64 2, .int .i64 2] (by rfl) rfl rfl xl' ?_
              with_reducible refine (impl_areIn.calls _ _ (rd_L1 l0_1 x18_2) 0 (wrap64 (a0_0 - 1)) 2 2 true _ ?side1 ?side2 A14.out).mono ?_
              (case side1=>exact kc' (cb' HR343_0.out HB.out))
              (case side2=>exact HC343_0.out)
              rintro e w32 ⟨rfl,hb⟩
              refine ⟨_,rfl,?_⟩;have n0_:=am' (bb' (g:=gb340) (o := .cells #[.int .i64 a0_0, .slice (some ad343) l0_1.length c0_1, .int .i64 a0_2] 32 (0,0)) (kk' BK340.out) hb);have n1_:=am' (bt' (yb' GE340.out) hb);clear BK340;clear HB;have BK340:=n0_;have HB:=n1_;clear n0_ n1_;(try clear hb)
              (try clear hb2)
              (try clear hk)
              (try clear hi)
              refine hK.out _ _ ⟨(bc' BK340.out 0).trans rfl,(bc' BK340.out 1).trans rfl,(bc' BK340.out 2).trans rfl,((HB.out.cell (bl' w _ hw345_0)).trans hw345_0),((HB.out.cell (bl' w _ hw346_0)).trans hw346_0)⟩ (fun hHeld=>?_);clear hK K;refine norm_ (a':=?_) ?_ ?_
              rotate_left
              ·
               show Act.put _ (some 27) _=_
               simp only[Act.put,sa',sb',sc',i64_w,i32_w];rfl
              refine pure_ (i:=5) (N:=some 28) (v:=?_) (a':=?_) #[true,true,true,true,true,true,false,false,false,false,false,false,false,false,false,false,false,false,false,false,false,false,false,false,false,false,false,false,false,false] rfl rfl (any_of HT_.out xk') (fun _ _ _ h=>h) (Or.inl ⟨by rfl,?_⟩) ?_ ?_
              rotate_left
              ·
               intro w';go_simp;with_reducible rfl
              rotate_left
              ·
               simp only[Act.put,sa',sb',sc',i64_w,i32_w];rfl
              refine pure_ (i:=6) (N:=some 29) (v:=?_) (a':=?_) #[true,true,true,true,true,true,true,false,false,false,false,false,false,false,false,false,false,false,false,false,false,false,false,false,false,false,false,false,false,false] rfl rfl (any_of HT_.out xk') (fun _ _ _ h=>h) (Or.inl ⟨by rfl,?_⟩) ?_ ?_
              rotate_left
              ·
               intro w';go_simp;with_reducible rfl
              rotate_left
              ·
               simp only[Act.put,sa',sb',sc',i64_w,i32_w];rfl
              refine pure_ (i:=7) (N:=some 30) (v:=?_) (a':=?_) #[true,true,true,true,true,true,true,true,false,false,false,false,false,false,false,false,false,false,false,false,false,false,false,false,false,false,false,false,false,false] rfl rfl (any_of HT_.out xk') (fun _ _ _ h=>h) (Or.inl ⟨by rfl,?_⟩) ?_ ?_
              rotate_left
              ·
               intro w';go_simp;with_reducible rfl
              rotate_left
              ·
               simp only[Act.put,sa',sb',sc',i64_w,i32_w];rfl
              refine pure_ (i:=8) (N:=some 31) (v:=?_) (a':=?_) #[true,true,true,true,true,true,true,true,true,false,false,false,false,false,false,false,false,false,false,false,false,false,false,false,false,false,false,false,false,false] rfl rfl (any_of HT_.out xk') (fun _ _ _ h=>h) (Or.inl ⟨by rfl,?_⟩) ?_ ?_
              rotate_left
              ·
               intro w';go_simp;with_reducible rfl
              rotate_left
              ·
               simp only[Act.put,sa',sb',sc',i64_w,i32_w];rfl
              refine pure_ (i:=10) (N:=some 33) (v:=?_) (a':=?_) #[true,true,true,true,true,true,true,true,true,false,true,false,false,false,false,false,false,false,false,false,false,false,false,false,false,false,false,false,false,false] rfl rfl (any_of HT_.out xk') (fun _ _ _ h=>h) (Or.inl ⟨by rfl,?_⟩) ?_ ?_
              rotate_left
              ·
               intro w';go_simp;with_reducible rfl
              rotate_left
              ·
               simp only[Act.put,sa',sb',sc',i64_w,i32_w];rfl
              refine pure_ (i:=11) (N:=some 34) (v:=?_) (a':=?_) #[true,true,true,true,true,true,true,true,true,false,true,true,false,false,false,false,false,false,false,false,false,false,false,false,false,false,false,false,false,false] rfl rfl (any_of HT_.out xk') (fun _ _ _ h=>h) (Or.inl ⟨by rfl,?_⟩) ?_ ?_
              rotate_left
              ·
               intro w';go_simp;with_reducible rfl
              rotate_left
              ·
               simp only[Act.put,sa',sb',sc',i64_w,i32_w];rfl
              refine take_ (i:=9) (N:=some 32) (v:=?_) (a':=?_) #[true,true,true,true,true,true,true,true,true,true,true,true,false,false,false,false,false,false,false,false,false,false,false,false,false,false,false,false,false,false] rfl rfl (take_ofW HT_.out HW_.out xk') (fun _ _ _ h=>h) (Or.inl ⟨by rfl,?_⟩) hHeld ?_ ?_
              rotate_left
              ·
               rintro w' ⟨s0,s1,s2,s3,s4⟩
               go_simp;with_reducible rfl
              rotate_left
              ·
               simp only[Act.put,sa',sb',sc',i64_w,i32_w];rfl
              refine take_ (i:=12) (N:=some 35) (v:=?_) (a':=?_) #[true,true,true,true,true,true,true,true,true,true,true,true,true,false,false,false,false,false,false,false,false,false,false,false,false,false,false,false,false,false] rfl rfl (take_ofW HT_.out HW_.out xk') (fun _ _ _ h=>h) (Or.inl ⟨by rfl,?_⟩) hHeld ?_ ?_
              rotate_left
              ·
               rintro w' ⟨s0,s1,s2,s3,s4⟩
               go_simp;with_reducible rfl
              rotate_left
              ·
               simp only[Act.put,sa',sb',sc',i64_w,i32_w];rfl
              refine pure_ (i:=13) (N:=some 36) (v:=?_) (a':=?_) #[true,true,true,true,true,true,true,true,true,true,true,true,true,true,false,false,false,false,false,false,false,false,false,false,false,false,false,false,false,false] rfl rfl (any_of HT_.out xk') (fun _ _ _ h=>h) (Or.inl ⟨by rfl,?_⟩) ?_ ?_
              rotate_left
              ·
               intro w';go_simp;with_reducible rfl
              rotate_left
              ·
               simp only[Act.put,sa',sb',sc',i64_w,i32_w];rfl
              refine pure_ (i:=14) (N:=some 37) (v:=?_) (a':=?_) #[true,true,true,true,true,true,true,true,true,true,true,true,true,true,true,false,false,false,false,false,false,false,false,false,false,false,false,false,false,false] rfl rfl (any_of HT_.out xk') (fun _ _ _ h=>h) (Or.inl ⟨by rfl,?_⟩) ?_ ?_
              rotate_left
              ·
               intro w';go_simp;with_reducible rfl
              rotate_left
              ·
               simp only[Act.put,sa',sb',sc',i64_w,i32_w];rfl
              refine pure_ (i:=15) (N:=some 38) (v:=?_) (a':=?_) #[true,true,true,true,true,true,true,true,true,true,true,true,true,true,true,true,false,false,false,false,false,false,false,false,false,false,false,false,false,false] rfl rfl (any_of HT_.out xk') (fun _ _ _ h=>h) (Or.inl ⟨by rfl,?_⟩) ?_ ?_
              rotate_left
              ·
               intro w';go_simp;with_reducible rfl
              rotate_left
              ·
               simp only[Act.put,sa',sb',sc',i64_w,i32_w];rfl
              refine pure_ (i:=16) (N:=some 39) (v:=?_) (a':=?_) #[true,true,true,true,true,true,true,true,true,true,true,true,true,true,true,true,true,false,false,false,false,false,false,false,false,false,false,false,false,false] rfl rfl (any_of HT_.out xk') (fun _ _ _ h=>h) (Or.inl ⟨by rfl,?_⟩) ?_ ?_
              rotate_left
              ·
               intro w';go_simp;with_reducible rfl
              rotate_left
              ·
               simp only[Act.put,sa',sb',sc',i64_w,i32_w];rfl
              refine pure_ (i:=17) (N:=some 40) (v:=?_) (a':=?_) #[true,true,true,true,true,true,true,true,true,true,true,true,true,true,true,true,true,true,false,false,false,false,false,false,false,false,false,false,false,false] rfl rfl (any_of HT_.out xk') (fun _ _ _ h=>h) (Or.inl ⟨by rfl,?_⟩) ?_ ?_
              rotate_left
              ·
               intro w';go_simp;with_reducible rfl
              rotate_left
              ·
               simp only[Act.put,sa',sb',sc',i64_w,i32_w];rfl
              refine pure_ (i:=18) (N:=some 41) (v:=?_) (a':=?_) #[true,true,true,true,true,true,true,true,true,true,true,true,true,true,true,true,true,true,true,false,false,false,false,false,false,false,false,false,false,false] rfl rfl (any_of HT_.out xk') (fun _ _ _ h=>h) (Or.inl ⟨by rfl,?_⟩) ?_ ?_
              rotate_left
              ·
               intro w';go_simp;with_reducible rfl
              rotate_left
              ·
               simp only[Act.put,sa',sb',sc',i64_w,i32_w];rfl
              refine pure_ (i:=19) (N:=some 42) (v:=undef) (a':=?_) #[true,true,true,true,true,true,true,true,true,true,true,true,true,true,true,true,true,true,true,true,false,false,false,false,false,false,false,false,false,false] rfl rfl (any_of HT_.out xk') (fun _ _ _ h=>h) (Or.inr ⟨by rfl,rfl⟩) ?_ ?_
              rotate_left
              ·
               simp only[Act.put,sa',sb',sc',i64_w,i32_w];rfl
              refine pure_ (i:=20) (N:=some 43) (v:=undef) (a':=?_) #[true,true,true,true,true,true,true,true,true,true,true,true,true,true,true,true,true,true,true,true,true,false,false,false,false,false,false,false,false,false] rfl rfl (any_of HT_.out xk') (fun _ _ _ h=>h) (Or.inr ⟨by rfl,rfl⟩) ?_ ?_
              rotate_left
              ·
               simp only[Act.put,sa',sb',sc',i64_w,i32_w];rfl
              refine pure_ (i:=21) (N:=some 44) (v:=undef) (a':=?_) #[true,true,true,true,true,true,true,true,true,true,true,true,true,true,true,true,true,true,true,true,true,true,false,false,false,false,false,false,false,false] rfl rfl (any_of HT_.out xk') (fun _ _ _ h=>h) (Or.inr ⟨by rfl,rfl⟩) ?_ ?_
              rotate_left
              ·
               simp only[Act.put,sa',sb',sc',i64_w,i32_w];rfl
              refine pure_ (i:=22) (N:=some 45) (v:=undef) (a':=?_) #[true,true,true,true,true,true,true,true,true,true,true,true,true,true,true,true,true,true,true,true,true,true,true,false,false,false,false,false,false,false] rfl rfl (any_of HT_.out xk') (fun _ _ _ h=>h) (Or.inr ⟨by rfl,rfl⟩) ?_ ?_
              rotate_left
              ·
               simp only[Act.put,sa',sb',sc',i64_w,i32_w];rfl
              refine pure_ (i:=23) (N:=some 46) (v:=undef) (a':=?_) #[true,true,true,true,true,true,true,true,true,true,true,true,true,true,true,true,true,true,true,true,true,true,true,true,false,false,false,false,false,false] rfl rfl (any_of HT_.out xk') (fun _ _ _ h=>h) (Or.inr ⟨by rfl,rfl⟩) ?_ ?_
              rotate_left
              ·
               simp only[Act.put,sa',sb',sc',i64_w,i32_w];rfl
              refine pure_ (i:=24) (N:=some 47) (v:=undef) (a':=?_) #[true,true,true,true,true,true,true,true,true,true,true,true,true,true,true,true,true,true,true,true,true,true,true,true,true,false,false,false,false,false] rfl rfl (any_of HT_.out xk') (fun _ _ _ h=>h) (Or.inr ⟨by rfl,rfl⟩) ?_ ?_
              rotate_left
              ·
               simp only[Act.put,sa',sb',sc',i64_w,i32_w];rfl
              refine pure_ (i:=25) (N:=some 48) (v:=undef) (a':=?_) #[true,true,true,true,true,true,true,true,true,true,true,true,true,true,true,true,true,true,true,true,true,true,true,true,true,true,false,false,false,false] rfl rfl (any_of HT_.out xk') (fun _ _ _ h=>h) (Or.inr ⟨by rfl,rfl⟩) ?_ ?_
              rotate_left
              ·
               simp only[Act.put,sa',sb',sc',i64_w,i32_w];rfl
              refine pure_ (i:=26) (N:=some 49) (v:=undef) (a':=?_) #[true,true,true,true,true,true,true,true,true,true,true,true,true,true,true,true,true,true,true,true,true,true,true,true,true,true,true,false,false,false] rfl rfl (any_of HT_.out xk') (fun _ _ _ h=>h) (Or.inr ⟨by rfl,rfl⟩) ?_ ?_
              rotate_left
              ·
               simp only[Act.put,sa',sb',sc',i64_w,i32_w];rfl
              refine pure_ (i:=27) (N:=some 50) (v:=undef) (a':=?_) #[true,true,true,true,true,true,true,true,true,true,true,true,true,true,true,true,true,true,true,true,true,true,true,true,true,true,true,true,false,false] rfl rfl (any_of HT_.out xk') (fun _ _ _ h=>h) (Or.inr ⟨by rfl,rfl⟩) ?_ ?_
              rotate_left
              ·
               simp only[Act.put,sa',sb',sc',i64_w,i32_w];rfl
              refine pure_ (i:=28) (N:=some 51) (v:=?_) (a':=?_) #[true,true,true,true,true,true,true,true,true,true,true,true,true,true,true,true,true,true,true,true,true,true,true,true,true,true,true,true,true,false] rfl rfl (any_of HT_.out xk') (fun _ _ _ h=>h) (Or.inl ⟨by rfl,?_⟩) ?_ ?_
              rotate_left
              ·
               intro w';go_simp;with_reducible rfl
              rotate_left
              ·
               simp only[Act.put,sa',sb',sc',i64_w,i32_w];rfl
              refine pure_ (i:=29) (N:=some 52) (v:=?_) (a':=?_) #[true,true,true,true,true,true,true,true,true,true,true,true,true,true,true,true,true,true,true,true,true,true,true,true,true,true,true,true,true,true] rfl rfl (any_of HT_.out xk') (fun _ _ _ h=>h) (Or.inl ⟨by rfl,?_⟩) ?_ ?_
              rotate_left
              ·
               intro w';go_simp;with_reducible rfl
              rotate_left
              ·
               simp only[Act.put,sa',sb',sc',i64_w,i32_w];rfl
              refine done_ (done_of HT_.out xk') ?_
              try go_wp2
              go_roundg k2
              case measure=>have:=HJ1.out;have:=HK2.out;omega
              case rel=>exact ⟨(wrap64 (x18_2+1)),xs',H',⟨by have:=HJ1.out;have:=HK2.out;omega⟩,⟨kk' BK340.out⟩,⟨yb' GE340.out⟩⟩
           ·
            rw[if_neg c17] at H;exact absurd H (by simp)
          ·
           rw[if_neg c16] at H;exact absurd H (by simp)
         ·
          replace c15:=Bool.eq_false_iff.mpr c15;subst c15;have H1:(some false)=some r:=by rw[if_neg (show ¬ (false=true) by decide)] at H;exact H
          clear H;have H:=H1;clear H1;obtain rfl:=os' H;have p343:0≤(x18_2:Int):=od' xa';have q343:x18_2 < (l0_1.length:Int):=od' xa';obtain ⟨ad343,A343_0,c343_0,e343,hx343_0,hl343_0,hi343_0⟩:=at_L1 HR0_1.out x18_2 p343 q343;cases e343;replace hx343_0:=(HB.out.cell (bl' w _ hx343_0)).trans hx343_0;have HR343_0:=am' hi343_0;have HC343_0:=am' hl343_0;clear hi343_0 hl343_0;replace p343:=eq_true p343;replace q343:=eq_true q343
          try go_wp2
          have n0_:=am' (kd' BK340.out);have n1_:=am' (be' HB.out);clear BK340;clear HB;have BK340:=n0_;have HB:=n1_;clear n0_ n1_;refine start_ (n:=30) (S:=fun w'=>w'.cell? ⟨gb340,0,none⟩=some (.int .i64 a0_0)∧w'.cell? ⟨gb340,1,none⟩=some (.slice (some ad343) l0_1.length c0_1)∧w'.cell? ⟨gb340,2,none⟩=some (.int .i64 a0_2)) (ds:=[]) #[false,false,false,false,false,false,false,false,false,false,false,false,false,false,false,false,false,false,false,false,false,false,false,false,false,false,false,false,false,false] xk' rfl rfl ⟨(bc' BK340.out 0).trans rfl,(bc' BK340.out 1).trans rfl,(bc' BK340.out 2).trans rfl⟩ (fun hHeld=>?_);refine with_tabW impl_IsKeep.tab6 impl_IsKeep.bits6 (fun HT_ HW_=>?_);generalize wr.drew=w33 at BK340 HB hHeld ⊢
          refine pure_ (i:=0) (N:=some 23) (v:=?_) (a':=?_) #[true,false,false,false,false,false,false,false,false,false,false,false,false,false,false,false,false,false,false,false,false,false,false,false,false,false,false,false,false,false] rfl rfl (any_of HT_.out xk') (fun _ _ _ h=>h) (Or.inl ⟨by rfl,?_⟩) ?_ ?_
          rotate_left
          ·
           intro w';go_simp;with_reducible rfl
          rotate_left
          ·
           simp only[Act.put,sa',sb',sc',i64_w,i32_w];rfl
          refine pure_ (i:=1) (N:=some 24) (v:=?_) (a':=?_) #[true,true,false,false,false,false,false,false,false,false,false,false,false,false,false,false,false,false,false,false,false,false,false,false,false,false,false,false,false,false] rfl rfl (any_of HT_.out xk') (fun _ _ _ h=>h) (Or.inl ⟨by rfl,?_⟩) ?_ ?_
          rotate_left
          ·
           intro w';go_simp;with_reducible rfl
          rotate_left
          ·
           simp only[Act.put,sa',sb',sc',i64_w,i32_w];rfl
          refine take_ (i:=2) (N:=some 25) (v:=?_) (a':=?_) #[true,true,true,false,false,false,false,false,false,false,false,false,false,false,false,false,false,false,false,false,false,false,false,false,false,false,false,false,false,false] rfl rfl (take_ofW HT_.out HW_.out xk') (fun _ _ _ h=>h) (Or.inl ⟨by rfl,?_⟩) hHeld ?_ ?_
          rotate_left
          ·
           rintro w' ⟨s0,s1,s2⟩
           go_simp;with_reducible rfl
          rotate_left
          ·
           simp only[Act.put,sa',sb',sc',i64_w,i32_w];rfl
          refine pure_ (i:=3) (N:=some 26) (v:=?_) (a':=?_) #[true,true,true,true,false,false,false,false,false,false,false,false,false,false,false,false,false,false,false,false,false,false,false,false,false,false,false,false,false,false] rfl rfl (any_of HT_.out xk') (fun _ _ _ h=>h) (Or.inl ⟨by rfl,?_⟩) ?_ ?_
          rotate_left
          ·
           intro w';go_simp;with_reducible rfl
          rotate_left
          ·
           simp only[Act.put,sa',sb',sc',i64_w,i32_w];rfl
          refine one_ (i:=4) (N:=some 27) #[true,true,true,true,true,false,false,false,false,false,false,false,false,false,false,false,false,false,false,false,false,false,false,false,false,false,false,false,false,false] rfl rfl (one_of HT_.out xk') (by decide) (fun K hK=>?_);refine goes_ Try.func82 xk' rfl #[.slice A343_0 (rd_L1 l0_1 x18_2).length c343_0, .int .i64 0, .int .i64 (wrap64 (a0_0 - 1)), .int .i64 2, .int .i64 2] (by rfl) rfl rfl xl' ?_
          with_reducible refine (impl_areIn.calls _ _ (rd_L1 l0_1 x18_2) 0 (wrap64 (a0_0 - 1)) 2 2 false _ ?side1 ?side2 A14.out).mono ?_
          (case side1=>exact kc' (cb' HR343_0.out HB.out))
          (case side2=>exact HC343_0.out)
          rintro e w34 ⟨rfl,hb⟩
          refine ⟨_,rfl,?_⟩;have n0_:=am' (bb' (g:=gb340) (o := .cells #[.int .i64 a0_0, .slice (some ad343) l0_1.length c0_1, .int .i64 a0_2] 32 (0,0)) (kk' BK340.out) hb);have n1_:=am' (bt' (yb' GE340.out) hb);clear BK340;clear HB;have BK340:=n0_;have HB:=n1_;clear n0_ n1_;(try clear hb)
          (try clear hb2)
          (try clear hk)
          (try clear hi)
          refine hK.out _ _ ⟨(bc' BK340.out 0).trans rfl,(bc' BK340.out 1).trans rfl,(bc' BK340.out 2).trans rfl⟩ (fun hHeld=>?_);clear hK K;refine norm_ (a':=?_) ?_ ?_
          rotate_left
          ·
           show Act.put _ (some 27) _=_
           simp only[Act.put,sa',sb',sc',i64_w,i32_w];rfl
          refine pure_ (i:=5) (N:=some 28) (v:=?_) (a':=?_) #[true,true,true,true,true,true,false,false,false,false,false,false,false,false,false,false,false,false,false,false,false,false,false,false,false,false,false,false,false,false] rfl rfl (any_of HT_.out xk') (fun _ _ _ h=>h) (Or.inl ⟨by rfl,?_⟩) ?_ ?_
          rotate_left
          ·
           intro w';go_simp;with_reducible rfl
          rotate_left
          ·
           simp only[Act.put,sa',sb',sc',i64_w,i32_w];rfl
          refine pure_ (i:=6) (N:=some 29) (v:=?_) (a':=?_) #[true,true,true,true,true,true,true,false,false,false,false,false,false,false,false,false,false,false,false,false,false,false,false,false,false,false,false,false,false,false] rfl rfl (any_of HT_.out xk') (fun _ _ _ h=>h) (Or.inl ⟨by rfl,?_⟩) ?_ ?_
          rotate_left
          ·
           intro w';go_simp;with_reducible rfl
          rotate_left
          ·
           simp only[Act.put,sa',sb',sc',i64_w,i32_w];rfl
          refine pure_ (i:=7) (N:=some 30) (v:=undef) (a':=?_) #[true,true,true,true,true,true,true,true,false,false,false,false,false,false,false,false,false,false,false,false,false,false,false,false,false,false,false,false,false,false] rfl rfl (any_of HT_.out xk') (fun _ _ _ h=>h) (Or.inr ⟨by rfl,rfl⟩) ?_ ?_
          rotate_left
          ·
           simp only[Act.put,sa',sb',sc',i64_w,i32_w];rfl
          refine pure_ (i:=8) (N:=some 31) (v:=undef) (a':=?_) #[true,true,true,true,true,true,true,true,true,false,false,false,false,false,false,false,false,false,false,false,false,false,false,false,false,false,false,false,false,false] rfl rfl (any_of HT_.out xk') (fun _ _ _ h=>h) (Or.inr ⟨by rfl,rfl⟩) ?_ ?_
          rotate_left
          ·
           simp only[Act.put,sa',sb',sc',i64_w,i32_w];rfl
          refine pure_ (i:=9) (N:=some 32) (v:=undef) (a':=?_) #[true,true,true,true,true,true,true,true,true,true,false,false,false,false,false,false,false,false,false,false,false,false,false,false,false,false,false,false,false,false] rfl rfl (any_of HT_.out xk') (fun _ _ _ h=>h) (Or.inr ⟨by rfl,rfl⟩) ?_ ?_
          rotate_left
          ·
           simp only[Act.put,sa',sb',sc',i64_w,i32_w];rfl
          refine pure_ (i:=10) (N:=some 33) (v:=undef) (a':=?_) #[true,true,true,true,true,true,true,true,true,true,true,false,false,false,false,false,false,false,false,false,false,false,false,false,false,false,false,false,false,false] rfl rfl (any_of HT_.out xk') (fun _ _ _ h=>h) (Or.inr ⟨by rfl,rfl⟩) ?_ ?_
          rotate_left
          ·
           simp only[Act.put,sa',sb',sc',i64_w,i32_w];rfl
          refine pure_ (i:=11) (N:=some 34) (v:=undef) (a':=?_) #[true,true,true,true,true,true,true,true,true,true,true,true,false,false,false,false,false,false,false,false,false,false,false,false,false,false,false,false,false,false] rfl rfl (any_of HT_.out xk') (fun _ _ _ h=>h) (Or.inr ⟨by rfl,rfl⟩) ?_ ?_
          rotate_left
          ·
           simp only[Act.put,sa',sb',sc',i64_w,i32_w];rfl
          refine pure_ (i:=12) (N:=some 35) (v:=undef) (a':=?_) #[true,true,true,true,true,true,true,true,true,true,true,true,true,false,false,false,false,false,false,false,false,false,false,false,false,false,false,false,false,false] rfl rfl (any_of HT_.out xk') (fun _ _ _ h=>h) (Or.inr ⟨by rfl,rfl⟩) ?_ ?_
          rotate_left
          ·
           simp only[Act.put,sa',sb',sc',i64_w,i32_w];rfl
          refine pure_ (i:=13) (N:=some 36) (v:=undef) (a':=?_) #[true,true,true,true,true,true,true,true,true,true,true,true,true,true,false,false,false,false,false,false,false,false,false,false,false,false,false,false,false,false] rfl rfl (any_of HT_.out xk') (fun _ _ _ h=>h) (Or.inr ⟨by rfl,rfl⟩) ?_ ?_
          rotate_left
          ·
           simp only[Act.put,sa',sb',sc',i64_w,i32_w];rfl
          refine pure_ (i:=14) (N:=some 37) (v:=?_) (a':=?_) #[true,true,true,true,true,true,true,true,true,true,true,true,true,true,true,false,false,false,false,false,false,false,false,false,false,false,false,false,false,false] rfl rfl (any_of HT_.out xk') (fun _ _ _ h=>h) (Or.inl ⟨by rfl,?_⟩) ?_ ?_
          rotate_left
          ·
           intro w';go_simp;with_reducible rfl
          rotate_left
          ·
           simp only[Act.put,sa',sb',sc',i64_w,i32_w];rfl
          refine pure_ (i:=15) (N:=some 38) (v:=?_) (a':=?_) #[true,true,true,true,true,true,true,true,true,true,true,true,true,true,true,true,false,false,false,false,false,false,false,false,false,false,false,false,false,false] rfl rfl (any_of HT_.out xk') (fun _ _ _ h=>h) (Or.inl ⟨by rfl,?_⟩) ?_ ?_
          rotate_left
          ·
           intro w';go_simp;with_reducible rfl
          rotate_left
          ·
           simp only[Act.put,sa',sb',sc',i64_w,i32_w];rfl
          refine pure_ (i:=16) (N:=some 39) (v:=undef) (a':=?_) #[true,true,true,true,true,true,true,true,true,true,true,true,true,true,true,true,true,false,false,false,false,false,false,false,false,false,false,false,false,false] rfl rfl (any_of HT_.out xk') (fun _ _ _ h=>h) (Or.inr ⟨by rfl,rfl⟩) ?_ ?_
          rotate_left
          ·
           simp only[Act.put,sa',sb',sc',i64_w,i32_w];rfl
          refine pure_ (i:=17) (N:=some 40) (v:=undef) (a':=?_) #[true,true,true,true,true,true,true,true,true,true,true,true,true,true,true,true,true,true,false,false,false,false,false,false,false,false,false,false,false,false] rfl rfl (any_of HT_.out xk') (fun _ _ _ h=>h) (Or.inr ⟨by rfl,rfl⟩) ?_ ?_
          rotate_left
          ·
           simp only[Act.put,sa',sb',sc',i64_w,i32_w];rfl
          refine pure_ (i:=18) (N:=some 41) (v:=undef) (a':=?_) #[true,true,true,true,true,true,true,true,true,true,true,true,true,true,true,true,true,true,true,false,false,false,false,false,false,false,false,false,false,false] rfl rfl (any_of HT_.out xk') (fun _ _ _ h=>h) (Or.inr ⟨by rfl,rfl⟩) ?_ ?_
          rotate_left
          ·
           simp only[Act.put,sa',sb',sc',i64_w,i32_w];rfl
          refine pure_ (i:=19) (N:=some 42) (v:=undef) (a':=?_) #[true,true,true,true,true,true,true,true,true,true,true,true,true,true,true,true,true,true,true,true,false,false,false,false,false,false,false,false,false,false] rfl rfl (any_of HT_.out xk') (fun _ _ _ h=>h) (Or.inr ⟨by rfl,rfl⟩) ?_ ?_
          rotate_left
          ·
           simp only[Act.put,sa',sb',sc',i64_w,i32_w];rfl
          refine pure_ (i:=20) (N:=some 43) (v:=undef) (a':=?_) #[true,true,true,true,true,true,true,true,true,true,true,true,true,true,true,true,true,true,true,true,true,false,false,false,false,false,false,false,false,false] rfl rfl (any_of HT_.out xk') (fun _ _ _ h=>h) (Or.inr ⟨by rfl,rfl⟩) ?_ ?_
          rotate_left
          ·
           simp only[Act.put,sa',sb',sc',i64_w,i32_w];rfl
          refine pure_ (i:=21) (N:=some 44) (v:=undef) (a':=?_) #[true,true,true,true,true,true,true,true,true,true,true,true,true,true,true,true,true,true,true,true,true,true,false,false,false,false,false,false,false,false] rfl rfl (any_of HT_.out xk') (fun _ _ _ h=>h) (Or.inr ⟨by rfl,rfl⟩) ?_ ?_
          rotate_left
          ·
           simp only[Act.put,sa',sb',sc',i64_w,i32_w];rfl
          refine pure_ (i:=22) (N:=some 45) (v:=undef) (a':=?_) #[true,true,true,true,true,true,true,true,true,true,true,true,true,true,true,true,true,true,true,true,true,true,true,false,false,false,false,false,false,false] rfl rfl (any_of HT_.out xk') (fun _ _ _ h=>h) (Or.inr ⟨by rfl,rfl⟩) ?_ ?_
          rotate_left
          ·
           simp only[Act.put,sa',sb',sc',i64_w,i32_w];rfl
          refine pure_ (i:=23) (N:=some 46) (v:=undef) (a':=?_) #[true,true,true,true,true,true,true,true,true,true,true,true,true,true,true,true,true,true,true,true,true,true,true,true,false,false,false,false,false,false] rfl rfl (any_of HT_.out xk') (fun _ _ _ h=>h) (Or.inr ⟨by rfl,rfl⟩) ?_ ?_
          rotate_left
          ·
           simp only[Act.put,sa',sb',sc',i64_w,i32_w];rfl
          refine pure_ (i:=24) (N:=some 47) (v:=undef) (a':=?_) #[true,true,true,true,true,true,true,true,true,true,true,true,true,true,true,true,true,true,true,true,true,true,true,true,true,false,false,false,false,false] rfl rfl (any_of HT_.out xk') (fun _ _ _ h=>h) (Or.inr ⟨by rfl,rfl⟩) ?_ ?_
          rotate_left
          ·
           simp only[Act.put,sa',sb',sc',i64_w,i32_w];rfl
          refine pure_ (i:=25) (N:=some 48) (v:=undef) (a':=?_) #[true,true,true,true,true,true,true,true,true,true,true,true,true,true,true,true,true,true,true,true,true,true,true,true,true,true,false,false,false,false] rfl rfl (any_of HT_.out xk') (fun _ _ _ h=>h) (Or.inr ⟨by rfl,rfl⟩) ?_ ?_
          rotate_left
          ·
           simp only[Act.put,sa',sb',sc',i64_w,i32_w];rfl
          refine pure_ (i:=26) (N:=some 49) (v:=undef) (a':=?_) #[true,true,true,true,true,true,true,true,true,true,true,true,true,true,true,true,true,true,true,true,true,true,true,true,true,true,true,false,false,false] rfl rfl (any_of HT_.out xk') (fun _ _ _ h=>h) (Or.inr ⟨by rfl,rfl⟩) ?_ ?_
          rotate_left
          ·
           simp only[Act.put,sa',sb',sc',i64_w,i32_w];rfl
          refine pure_ (i:=27) (N:=some 50) (v:=undef) (a':=?_) #[true,true,true,true,true,true,true,true,true,true,true,true,true,true,true,true,true,true,true,true,true,true,true,true,true,true,true,true,false,false] rfl rfl (any_of HT_.out xk') (fun _ _ _ h=>h) (Or.inr ⟨by rfl,rfl⟩) ?_ ?_
          rotate_left
          ·
           simp only[Act.put,sa',sb',sc',i64_w,i32_w];rfl
          refine pure_ (i:=28) (N:=some 51) (v:=undef) (a':=?_) #[true,true,true,true,true,true,true,true,true,true,true,true,true,true,true,true,true,true,true,true,true,true,true,true,true,true,true,true,true,false] rfl rfl (any_of HT_.out xk') (fun _ _ _ h=>h) (Or.inr ⟨by rfl,rfl⟩) ?_ ?_
          rotate_left
          ·
           simp only[Act.put,sa',sb',sc',i64_w,i32_w];rfl
          refine pure_ (i:=29) (N:=some 52) (v:=?_) (a':=?_) #[true,true,true,true,true,true,true,true,true,true,true,true,true,true,true,true,true,true,true,true,true,true,true,true,true,true,true,true,true,true] rfl rfl (any_of HT_.out xk') (fun _ _ _ h=>h) (Or.inl ⟨by rfl,?_⟩) ?_ ?_
          rotate_left
          ·
           intro w';go_simp;with_reducible rfl
          rotate_left
          ·
           simp only[Act.put,sa',sb',sc',i64_w,i32_w];rfl
          refine done_ (done_of HT_.out xk') ?_
          try go_wp2
          go_ret
          exact ⟨by first|rfl|(simp[errW_none,errW_some] <;> rfl)|(simp[*,errW_none,errW_some] <;> rfl),yb' GE340.out⟩
        ·
         rw[if_neg c13] at H;exact absurd H (by simp)
       ·
        rw[if_neg c12] at H;exact absurd H (by simp)
      ·
       rw[if_neg c11] at H;have c11b0:decide (x18_2 < (l0_1.length:Int))=false:=df' c11;clear c11;obtain rfl:=os' H;go_wp2;go_ret
       exact ⟨by first|rfl|(simp[errW_none,errW_some] <;> rfl)|(simp[*,errW_none,errW_some] <;> rfl),yb' GE340.out⟩
end Go.Proofs.Ytmfofjloklafoaa.C5
