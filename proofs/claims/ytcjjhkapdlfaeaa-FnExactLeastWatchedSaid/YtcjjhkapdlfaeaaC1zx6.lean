import Derived.Test.YtcjjhkapdlfaeaaC1zx0
import Derived.Test.YtcjjhkapdlfaeaaC1zx4
import Derived.Test.YtcjjhkapdlfaeaaC1zx5
import Derived.Test.YtcjjhkapdlfaeaaC1zAl
namespace Go.Proofs.Ytcjjhkapdlfaeaa.C1
open Go.RowKit Go.Proofs.YtcjjhkapdlfaeaaW.PrintWords Go.Proofs.YtcjjhkapdlfaeaaW.PrintLast Go.Proofs.YtcjjhkapdlfaeaaW.PrintMore Go.Proofs.Ytcjjhkapdlfaeaa.H
attribute [local go_sem] max2_int min2_int max_two min_two max_three min_three max_four min_four
set_option linter.unusedVariables false
set_option linter.unusedSimpArgs false
mutual
def impl_IsKeep.j0:Nat→Bool→Int→List (List Int)→Int→Option (Bool)
 | 0,_,_,_,_=>none
 | k+1,x14,x178000,x178001,x178002=>if x14=true then (some false) else (impl_IsKeep.l0 k x178001 (x178001.length:Int) 0 x178000 x178001 x178002)
def impl_IsKeep.l0:Nat→List (List Int)→Int→Int→Int→List (List Int)→Int→Option (Bool)
 | 0,_,_,_,_,_,_=>none
 | k+1,x16,x17,x18,x178000,x178001,x178002=>if x18 < x17 then (if 0≤x18 then (if x18 < (x16.length:Int) then ((impl_areIn.f (rd_L1 x16 x18) 0 (wrap64 (x178000 - 1)) 2 2).bind fun t181=>(if t181=true then (if 0 < ((rd_L1 x16 x18).length:Int) then (if 1 < ((rd_L1 x16 x18).length:Int) then (if (rd (rd_L1 x16 x18) 0) ≥ (rd (rd_L1 x16 x18) 1) then (some false) else (if x18 > 0 then (if 0≤(wrap64 (x18 - 1)) then (if (wrap64 (x18 - 1)) < (x178001.length:Int) then ((slices_Compare_int_int.f k (rd_L1 x178001 (wrap64 (x18 - 1))) (rd_L1 x16 x18)).bind fun t185=>(if t185 ≥ 0 then (some false) else (impl_IsKeep.l0 k x16 x17 (wrap64 (x18+1)) x178000 x178001 x178002))) else (none)) else (none)) else (impl_IsKeep.l0 k x16 x17 (wrap64 (x18+1)) x178000 x178001 x178002))) else (none)) else (none)) else (some false))) else (none)) else (none)) else (some true)
end
def impl_IsKeep.f (k:Nat) (a0_0:Int) (l0_1:List (List Int)) (a0_2:Int):Option (Bool):=(impl_in.f a0_0 0 8).bind fun t178=>(if t178=true then ((impl_in.f a0_2 0 8).bind fun t179=>(impl_IsKeep.j0 k (!t179) a0_0 l0_1 a0_2)) else (impl_IsKeep.j0 k true a0_0 l0_1 a0_2))
def impl_IsKeep.T6:Bool × List (List Nat × List Nat):=(true,[([],[]),([],[]),([1],[1]),([2],[2]),([0,3],[0,3]),([4],[4]),([5,4],[5]),([6],[6]),([7,6],[6,7]),([8,6],[6,8]),([6],[6]),([10,6],[6,10]),([11,6],[6,11]),([9,12,6],[6,9,12]),([6,13],[6,13]),([14,6],[14]),([15],[15]),([16,15],[15,16]),([17,15,15],[15,17]),([18],[18]),([19,18],[18,19]),([18],[18]),([21,18],[18,21]),([20,22,18],[18,20,22]),([23,18],[18,23]),([18],[18]),([24,25,18,18],[18,24,25]),([26,18],[18,26]),([18,27,15],[15,18,27]),([15,28],[15,28])])
def impl_IsKeep.B6:List Nat:=[0,0,2,6,15,31,63,127,255,511,127,1151,3199,8191,16383,32767,65535,131071,262143,524287,1048575,524287,2621439,8388607,16777215,524287,67108863,134217727,268435455,536870911]
theorem impl_IsKeep.tab6:rtab .any (opsOf Try.f24 6)=impl_IsKeep.T6:=by kernel_rfl
theorem impl_IsKeep.bits6:waitsOk impl_IsKeep.T6.2 impl_IsKeep.B6=true:=by kernel_rfl
set_option maxHeartbeats 8000000 in
set_option maxRecDepth 100000 in
theorem impl_IsKeep.calls (k:Nat) (a0_0:Int) (A0_1:Option Addr) (c0_1:Nat) (l0_1:List (List Int)) (a0_2:Int) (r:Bool) (w:World) (hr0_1:Kd.C (Kd.slice 3 (Kd.int .i64)) w A0_1 l0_1.length l0_1) (hc0_1:l0_1.length≤c0_1) (h:impl_IsKeep.f k a0_0 l0_1 a0_2=some r) :
  Calls Try.prog 24 #[.agg #[.int .i64 a0_0, .slice A0_1 l0_1.length c0_1, .int .i64 a0_2]] w fun e w'=>e = .returned (.bool r)∧Below w.heap.size w w':=by
 have hu29:=Try.underlying29
 have HR0_1:=am' hr0_1
 have HC0_1:=am' hc0_1
 clear hr0_1 hc0_1;have HB:=am' (Below.refl w.heap.size w)
 have H:((impl_in.f a0_0 0 8).bind fun t178=>(if t178=true then ((impl_in.f a0_2 0 8).bind fun t179=>(impl_IsKeep.j0 k (!t179) a0_0 l0_1 a0_2)) else (impl_IsKeep.j0 k true a0_0 l0_1 a0_2)))=some r:=h
 clear h;have HC2:=am' H
 clear H;go_enter Try.func24,Try.ntmps24
 go_upto_region 1 with (first|((with_reducible refine gate_dst (N:=1) rfl ?_);refine box_event ?hg (N:=1) ?hd (cs:=#[.int .i64 a0_0, .slice A0_1 l0_1.length c0_1, .int .i64 a0_2]) (t:=29) ?hr ?_;(case hd=>rfl);(case hg=>rfl);(case hr=>first|(go_simp;done)|(go_simp;rfl));intro gb177 hg w3 hbox hb;have n0_:=am' (below_step (by repeat (first|(with_reducible first|exact HB.out|apply ba'|apply bd'|apply be')|exact HB.out)) hb);have n1_:=am' (hbox);have n2_:=am' ((by rw[hg];exact (below_size (by repeat (first|(with_reducible first|exact HB.out|apply ba'|apply bd'|apply be')|exact HB.out))):w.heap.size≤gb177));have n3_:=am' ((by rw[hg];exact (below_size (by repeat (first|(with_reducible first|exact HB.out|apply ba'|apply bd'|apply be')|exact HB.out))):w.heap.size≤gb177));clear HB;have HB:=n0_;have BK177:=n1_;have GW177:=n2_;have GE177:=n3_;clear n0_ n1_ n2_ n3_;clear hb hbox hg))
 (try simp only[Act.put,sa',sb',sc'])
 go_cut [14] (fun v14 wc=>∃ (kq:Nat) (x14_1:Bool),v14 = .bool x14_1∧Aside0 (impl_IsKeep.j0 kq x14_1 a0_0 l0_1 a0_2=some r)∧Aside0 (kq≤k)∧Aside0 (wc.heap[gb177]? = some (.cells #[.int .i64 a0_0,(.slice A0_1 l0_1.length c0_1), .int .i64 a0_2] 29 (0,0)))∧Aside0 (Below w.heap.size w wc))
 case first =>
  have H:=HC2.out;clear HC2;replace H:=Option.bind_eq_some_iff.mp H;obtain ⟨t178,A40,H⟩:=H;replace H:(if t178=true then ((impl_in.f a0_2 0 8).bind fun t179=>(impl_IsKeep.j0 k (!t179) a0_0 l0_1 a0_2)) else (impl_IsKeep.j0 k true a0_0 l0_1 a0_2))=some r:=H;have A4:=am' A40;clear A40;by_cases c5:t178=true
  ·
   subst c5;have H1:((impl_in.f a0_2 0 8).bind fun t179=>(impl_IsKeep.j0 k (!t179) a0_0 l0_1 a0_2))=some r:=by rw[if_pos rfl] at H;exact H
   clear H;have H:=H1;clear H1;replace H:=Option.bind_eq_some_iff.mp H;obtain ⟨t179,A60,H⟩:=H;replace H:(impl_IsKeep.j0 k (!t179) a0_0 l0_1 a0_2)=some r:=H;have A6:=am' A60;clear A60;have H':=am' H;clear H;have hcz7_0:w3.cell? ⟨gb177,0,none⟩=some (.int .i64 a0_0):=(blk_cell BK177.out 0).trans rfl;have hcz7_1:w3.cell? ⟨gb177,1,none⟩=some (.slice A0_1 l0_1.length c0_1):=(blk_cell BK177.out 1).trans rfl;have hcz7_2:w3.cell? ⟨gb177,2,none⟩=some (.int .i64 a0_2):=(blk_cell BK177.out 2).trans rfl;have hfz7_0:=blk_frozen BK177.out 0;have hfz7_1:=blk_frozen BK177.out 1;have hfz7_2:=blk_frozen BK177.out 2;go_wp2_with (first|((with_reducible refine gate_callee (f:=58) rfl ?_);refine goesL_ (some 7) rfl rfl Try.func58 (by kernel_rfl) rfl #[.int .i64 a0_0, .int .i64 0, .int .i64 8] rfl (by (try simp only[List.map_toArray,List.map_cons,List.map_nil]);first|done|rfl|(simp only[List.length_drop,List.length_take];rfl)) ?_;(with_reducible refine (impl_in.calls a0_0 0 8 true _ A4.out).mono ?_);rintro e w' ⟨rfl,⟨nd,rfl⟩⟩;refine ⟨_,rfl,?_⟩)|(go_at_call 58;(with_reducible refine (impl_in.calls a0_2 0 8 t179 _ A6.out).mono ?_);rintro e w' ⟨rfl,⟨nd,rfl⟩⟩));go_meet
   case rel=>exact ⟨_,(!t179),(by first|rfl|(simp;done)|(simp[*];done)),H',⟨by first|omega|exact Nat.le_refl _⟩,⟨by (with_reducible repeat (first|refine kn' ?_ _|refine kd' ?_|refine ka' ?_ _));exact BK177.out⟩,⟨by repeat (first|(with_reducible first|exact HB.out|apply ba'|apply bd'|apply be'|refine bs' ?_ GE177.out)|exact HB.out)⟩⟩
  ·
   replace c5:=Bool.eq_false_iff.mpr c5;subst c5;have H1:(impl_IsKeep.j0 k true a0_0 l0_1 a0_2)=some r:=by rw[if_neg (show ¬ (false=true) by decide)] at H;exact H
   clear H;have H:=H1;clear H1;have H':=am' H;clear H;have hcz8_0:w3.cell? ⟨gb177,0,none⟩=some (.int .i64 a0_0):=(blk_cell BK177.out 0).trans rfl;have hcz8_1:w3.cell? ⟨gb177,1,none⟩=some (.slice A0_1 l0_1.length c0_1):=(blk_cell BK177.out 1).trans rfl;have hcz8_2:w3.cell? ⟨gb177,2,none⟩=some (.int .i64 a0_2):=(blk_cell BK177.out 2).trans rfl;have hfz8_0:=blk_frozen BK177.out 0;have hfz8_1:=blk_frozen BK177.out 1;have hfz8_2:=blk_frozen BK177.out 2;go_wp2_with (first|((with_reducible refine gate_callee (f:=58) rfl ?_);refine goesL_ (some 7) rfl rfl Try.func58 (by kernel_rfl) rfl #[.int .i64 a0_0, .int .i64 0, .int .i64 8] rfl (by (try simp only[List.map_toArray,List.map_cons,List.map_nil]);first|done|rfl|(simp only[List.length_drop,List.length_take];rfl)) ?_;(with_reducible refine (impl_in.calls a0_0 0 8 false _ A4.out).mono ?_);rintro e w' ⟨rfl,⟨nd,rfl⟩⟩;refine ⟨_,rfl,?_⟩));go_meet
   case rel=>exact ⟨_,(true),(by first|rfl|(simp;done)|(simp[*];done)),H',⟨by first|omega|exact Nat.le_refl _⟩,⟨by (with_reducible repeat (first|refine kn' ?_ _|refine kd' ?_|refine ka' ?_ _));exact BK177.out⟩,⟨by repeat (first|(with_reducible first|exact HB.out|apply ba'|apply bd'|apply be'|refine bs' ?_ GE177.out)|exact HB.out)⟩⟩
 case rest =>
  clear HC2;try clear c2
  try clear p2
  try clear c5
  try clear hcz7_0
  try clear hcz7_1
  try clear hcz7_2
  try clear hcz8_0
  try clear hcz8_1
  try clear hcz8_2
  try clear hfz7_0
  try clear hfz7_1
  try clear hfz7_2
  try clear hfz8_0
  try clear hfz8_1
  try clear hfz8_2
  obtain ⟨kq,x14_1,rfl,HA,HJ1,BK177,HB⟩:=hcut;cases kq with
  | zero=>exact absurd HA.out (by simp[impl_IsKeep.j0])
  | succ kj1 =>
   have H:=HA.out;clear HA;simp only[impl_IsKeep.j0] at H;by_cases c9:x14_1=true
   ·
    subst c9;have H1:(some false)=some r:=by rw[if_pos rfl] at H;exact H
    clear H;have H:=H1;clear H1;obtain rfl:=Option.some.inj H;go_wp2;go_ret
    exact ⟨by first|rfl|(simp[errW_none,errW_some] <;> rfl)|(simp[*,errW_none,errW_some] <;> rfl),by repeat (first|(with_reducible first|exact HB.out|apply ba'|apply bd'|apply be'|refine bs' ?_ GE177.out)|exact HB.out)⟩
   ·
    replace c9:=Bool.eq_false_iff.mpr c9;subst c9;have H1:(impl_IsKeep.l0 kj1 l0_1 (l0_1.length:Int) 0 a0_0 l0_1 a0_2)=some r:=by rw[if_neg (show ¬ (false=true) by decide)] at H;exact H
    clear H;have H:=H1;clear H1;have H':=am' H;clear H;have hcz10_0:wc.cell? ⟨gb177,0,none⟩=some (.int .i64 a0_0):=(blk_cell BK177.out 0).trans rfl;have hcz10_1:wc.cell? ⟨gb177,1,none⟩=some (.slice A0_1 l0_1.length c0_1):=(blk_cell BK177.out 1).trans rfl;have hcz10_2:wc.cell? ⟨gb177,2,none⟩=some (.int .i64 a0_2):=(blk_cell BK177.out 2).trans rfl;have hfz10_0:=blk_frozen BK177.out 0;have hfz10_1:=blk_frozen BK177.out 1;have hfz10_2:=blk_frozen BK177.out 2;go_wp2;go_loopg [18] kj1 (fun kq v18 w'=>∃ (x18_2:Int),v18 = .int .i64 x18_2∧Aside0 (impl_IsKeep.l0 kq l0_1 (l0_1.length:Int) x18_2 a0_0 l0_1 a0_2=some r)∧Aside0 (kq≤kj1)∧Aside0 (w'.heap[gb177]? = some (.cells #[.int .i64 a0_0,(.slice A0_1 l0_1.length c0_1), .int .i64 a0_2] 29 (0,0)))∧Aside0 (Below w.heap.size w w'))
    case atStart=>exact ⟨(0),(by first|rfl|(simp;done)|(simp[*];done)),H',⟨Nat.le_refl _⟩,⟨by (with_reducible repeat (first|refine kn' ?_ _|refine kd' ?_|refine ka' ?_ _));exact BK177.out⟩,⟨by repeat (first|(with_reducible first|exact HB.out|apply ba'|apply bd'|apply be'|refine bs' ?_ GE177.out)|exact HB.out)⟩⟩
    case round =>
     clear H';try clear c2
     try clear p2
     try clear c5
     try clear c9
     try clear hcz10_0
     try clear hcz10_1
     try clear hcz10_2
     try clear hcz7_0
     try clear hcz7_1
     try clear hcz7_2
     try clear hcz8_0
     try clear hcz8_1
     try clear hcz8_2
     try clear hfz10_0
     try clear hfz10_1
     try clear hfz10_2
     try clear hfz7_0
     try clear hfz7_1
     try clear hfz7_2
     try clear hfz8_0
     try clear hfz8_1
     try clear hfz8_2
     try clear p2
     obtain ⟨x18_2,rfl,HA,HK2,BK177,HB⟩:=hrel;cases gk with
     | zero=>exact absurd HA.out (by simp[impl_IsKeep.l0])
     | succ k2 =>
      have H:=HA.out;clear HA;simp only[impl_IsKeep.l0] at H;by_cases c11:x18_2 < (l0_1.length:Int)
      ·
       rw[if_pos c11] at H;have c11b0:decide (x18_2 < (l0_1.length:Int))=true:=decide_eq_true c11;clear c11;by_cases c12:0≤x18_2
       ·
        rw[if_pos c12] at H;have c12b0:decide (0≤x18_2)=true:=decide_eq_true c12;clear c12;by_cases c13:x18_2 < (l0_1.length:Int)
        ·
         rw[if_pos c13] at H;have c13b0:decide (x18_2 < (l0_1.length:Int))=true:=decide_eq_true c13;clear c13;replace H:=Option.bind_eq_some_iff.mp H;obtain ⟨t181,A140,H⟩:=H;replace H:(if t181=true then (if 0 < ((rd_L1 l0_1 x18_2).length:Int) then (if 1 < ((rd_L1 l0_1 x18_2).length:Int) then (if (rd (rd_L1 l0_1 x18_2) 0) ≥ (rd (rd_L1 l0_1 x18_2) 1) then (some false) else (if x18_2 > 0 then (if 0≤(wrap64 (x18_2 - 1)) then (if (wrap64 (x18_2 - 1)) < (l0_1.length:Int) then ((slices_Compare_int_int.f k2 (rd_L1 l0_1 (wrap64 (x18_2 - 1))) (rd_L1 l0_1 x18_2)).bind fun t185=>(if t185 ≥ 0 then (some false) else (impl_IsKeep.l0 k2 l0_1 (l0_1.length:Int) (wrap64 (x18_2+1)) a0_0 l0_1 a0_2))) else (none)) else (none)) else (impl_IsKeep.l0 k2 l0_1 (l0_1.length:Int) (wrap64 (x18_2+1)) a0_0 l0_1 a0_2))) else (none)) else (none)) else (some false))=some r:=H;have A14:=am' A140;clear A140;by_cases c15:t181=true
         ·
          subst c15;have H1:(if 0 < ((rd_L1 l0_1 x18_2).length:Int) then (if 1 < ((rd_L1 l0_1 x18_2).length:Int) then (if (rd (rd_L1 l0_1 x18_2) 0) ≥ (rd (rd_L1 l0_1 x18_2) 1) then (some false) else (if x18_2 > 0 then (if 0≤(wrap64 (x18_2 - 1)) then (if (wrap64 (x18_2 - 1)) < (l0_1.length:Int) then ((slices_Compare_int_int.f k2 (rd_L1 l0_1 (wrap64 (x18_2 - 1))) (rd_L1 l0_1 x18_2)).bind fun t185=>(if t185 ≥ 0 then (some false) else (impl_IsKeep.l0 k2 l0_1 (l0_1.length:Int) (wrap64 (x18_2+1)) a0_0 l0_1 a0_2))) else (none)) else (none)) else (impl_IsKeep.l0 k2 l0_1 (l0_1.length:Int) (wrap64 (x18_2+1)) a0_0 l0_1 a0_2))) else (none)) else (none))=some r:=by rw[if_pos rfl] at H;exact H
          clear H;have H:=H1;clear H1;by_cases c16:0 < ((rd_L1 l0_1 x18_2).length:Int)
          ·
           rw[if_pos c16] at H;have c16b0:decide (0 < ((rd_L1 l0_1 x18_2).length:Int))=true:=decide_eq_true c16;have c16b1:decide (0 < (rd_L1 l0_1 x18_2).length)=true:=decide_eq_true (by omega);clear c16;by_cases c17:1 < ((rd_L1 l0_1 x18_2).length:Int)
           ·
            rw[if_pos c17] at H;have c17b0:decide (1 < ((rd_L1 l0_1 x18_2).length:Int))=true:=decide_eq_true c17;have c17b1:decide (1 < (rd_L1 l0_1 x18_2).length)=true:=decide_eq_true (by omega);clear c17;by_cases c18:(rd (rd_L1 l0_1 x18_2) 0) ≥ (rd (rd_L1 l0_1 x18_2) 1)
            ·
             rw[if_pos c18] at H;have c18b0:decide ((rd (rd_L1 l0_1 x18_2) 1)≤(rd (rd_L1 l0_1 x18_2) 0))=true:=decide_eq_true c18;clear c18;obtain rfl:=Option.some.inj H;have p180:0≤(x18_2:Int):=of_decide_eq_true (by first|(with_reducible assumption)|assumption);have q180:x18_2 < (l0_1.length:Int):=of_decide_eq_true (by first|(with_reducible assumption)|assumption);obtain ⟨ad180,A180_0,c180_0,e180,hx180_0,hl180_0,hi180_0⟩:=at_L1 HR0_1.out x18_2 p180 q180;cases e180;replace hx180_0:=(HB.out.cell (bl' w _ hx180_0)).trans hx180_0;have HR180_0:=am' hi180_0;have HC180_0:=am' hl180_0;clear hi180_0 hl180_0;replace p180:=eq_true p180;replace q180:=eq_true q180
             try go_wp2
             have n0_:=am' (kd' BK177.out);have n1_:=am' (be' HB.out);clear BK177;clear HB;have BK177:=n0_;have HB:=n1_;clear n0_ n1_;have p182:0≤(0:Int):=(by omega)
             have q182:0 < ((rd_L1 l0_1 x18_2).length:Int):=of_decide_eq_true (by first|(with_reducible assumption)|assumption);obtain ⟨ad182,e182,hx182_0⟩:=Kd.at_int HR180_0.out 0 p182 q182;have hw182_0:=hx182_0;(try rw [show ((0:Int)).toNat=0 from rfl] at hw182_0)
             (try rw [show 0 * 1=0 from rfl] at hw182_0)
             (try rw [Addr.add_zero'] at hw182_0)
             cases e182
             have qi182:(0 < (rd_L1 l0_1 x18_2).length)=True:=eq_true (by omega)
             (try rw [show ((0:Int)).toNat=0 from rfl] at hx182_0)
             (try rw [Addr.add_zero'] at hx182_0)
             replace hx182_0:=(HB.out.cell (bl' w _ hx182_0)).trans hx182_0;replace p182:=eq_true p182;replace q182:=eq_true q182;have p183:0≤(1:Int):=(by omega)
             have q183:1 < ((rd_L1 l0_1 x18_2).length:Int):=of_decide_eq_true (by first|(with_reducible assumption)|assumption);obtain ⟨ad183,e183,hx183_0⟩:=Kd.at_int HR180_0.out 1 p183 q183;have hw183_0:=hx183_0;(try rw [show ((1:Int)).toNat=1 from rfl] at hw183_0)
             (try rw [show 1 * 1=1 from rfl] at hw183_0)
             (try simp only[Nat.reduceMul,Nat.reduceEqDiff,Go.Addr.add,↓reduceIte] at hw183_0)
             obtain rfl:ad182=ad183:=(by injection e183)
             (try simp only[show (1:Int).toNat=1 from rfl,Nat.reduceMul,Nat.reduceEqDiff,Go.Addr.add,↓reduceIte] at hx183_0)
             have qi183:(1 < (rd_L1 l0_1 x18_2).length)=True:=eq_true (by omega)
             (try rw [show ((1:Int)).toNat=1 from rfl] at hx183_0)
             replace hx183_0:=(HB.out.cell (bl' w _ hx183_0)).trans hx183_0;replace p183:=eq_true p183;replace q183:=eq_true q183;refine start_ (n:=30) (S:=fun w'=>w'.cell? ⟨gb177,0,none⟩=some (.int .i64 a0_0)∧w'.cell? ⟨gb177,1,none⟩=some (.slice (some ad180) l0_1.length c0_1)∧w'.cell? ⟨gb177,2,none⟩=some (.int .i64 a0_2)∧w'.cell? ad182=some (.int .i64 (rd (rd_L1 l0_1 x18_2) 0))∧w'.cell? ⟨ad182.block,ad182.off+1,none⟩=some (.int .i64 (rd (rd_L1 l0_1 x18_2) 1))) (ds:=[]) #[false,false,false,false,false,false,false,false,false,false,false,false,false,false,false,false,false,false,false,false,false,false,false,false,false,false,false,false,false,false] (by kernel_rfl) rfl rfl ⟨(blk_cell BK177.out 0).trans rfl,(blk_cell BK177.out 1).trans rfl,(blk_cell BK177.out 2).trans rfl,((HB.out.cell (bl' w _ hw182_0)).trans hw182_0),((HB.out.cell (bl' w _ hw183_0)).trans hw183_0)⟩ (fun hHeld=>?_);refine with_tabW impl_IsKeep.tab6 impl_IsKeep.bits6 (fun HT_ HW_=>?_);generalize wr.drew=w19 at BK177 HB hx182_0 hx183_0 hHeld ⊢
             refine pure_ (i:=0) (N:=some 23) (v:=?_) (a':=?_) #[true,false,false,false,false,false,false,false,false,false,false,false,false,false,false,false,false,false,false,false,false,false,false,false,false,false,false,false,false,false] rfl rfl (any_of HT_.out (by kernel_rfl)) (fun _ _ _ h=>h) (Or.inl ⟨by rfl,?_⟩) ?_ ?_
             rotate_left
             ·
              intro w';go_simp;with_reducible rfl
             rotate_left
             ·
              simp only[Act.put,sa',sb',sc',i64_w,i32_w];rfl
             refine pure_ (i:=1) (N:=some 24) (v:=?_) (a':=?_) #[true,true,false,false,false,false,false,false,false,false,false,false,false,false,false,false,false,false,false,false,false,false,false,false,false,false,false,false,false,false] rfl rfl (any_of HT_.out (by kernel_rfl)) (fun _ _ _ h=>h) (Or.inl ⟨by rfl,?_⟩) ?_ ?_
             rotate_left
             ·
              intro w';go_simp;with_reducible rfl
             rotate_left
             ·
              simp only[Act.put,sa',sb',sc',i64_w,i32_w];rfl
             refine take_ (i:=2) (N:=some 25) (v:=?_) (a':=?_) #[true,true,true,false,false,false,false,false,false,false,false,false,false,false,false,false,false,false,false,false,false,false,false,false,false,false,false,false,false,false] rfl rfl (take_ofW HT_.out HW_.out (by kernel_rfl)) (fun _ _ _ h=>h) (Or.inl ⟨by rfl,?_⟩) hHeld ?_ ?_
             rotate_left
             ·
              rintro w' ⟨s0,s1,s2,s3,s4⟩
              go_simp;with_reducible rfl
             rotate_left
             ·
              simp only[Act.put,sa',sb',sc',i64_w,i32_w];rfl
             refine pure_ (i:=3) (N:=some 26) (v:=?_) (a':=?_) #[true,true,true,true,false,false,false,false,false,false,false,false,false,false,false,false,false,false,false,false,false,false,false,false,false,false,false,false,false,false] rfl rfl (any_of HT_.out (by kernel_rfl)) (fun _ _ _ h=>h) (Or.inl ⟨by rfl,?_⟩) ?_ ?_
             rotate_left
             ·
              intro w';go_simp;with_reducible rfl
             rotate_left
             ·
              simp only[Act.put,sa',sb',sc',i64_w,i32_w];rfl
             refine one_ (i:=4) (N:=some 27) #[true,true,true,true,true,false,false,false,false,false,false,false,false,false,false,false,false,false,false,false,false,false,false,false,false,false,false,false,false,false] rfl rfl (one_of HT_.out (by kernel_rfl)) (by decide) (fun K hK=>?_);refine goes_ Try.func59 (by kernel_rfl) rfl #[.slice (some ad182) (rd_L1 l0_1 x18_2).length c180_0, .int .i64 0, .int .i64 (wrap64 (a0_0 - 1)), .int .i64 2, .int .i64 2] (by rfl) rfl rfl (by (try simp only[List.map_toArray,List.map_cons,List.map_nil]);first|done|rfl|(simp only[List.length_drop,List.length_take];rfl)) ?_
             with_reducible refine (impl_areIn.calls _ _ (rd_L1 l0_1 x18_2) 0 (wrap64 (a0_0 - 1)) 2 2 true _ ?side1 ?side2 A14.out).mono ?_
             (case side1=>repeat (first|exact (Kd.C_below HR180_0.out HB.out)|(with_reducible refine ca' ?_ _)|(with_reducible refine cn' ?_ _)|(with_reducible refine cd' ?_)))
             (case side2=>exact HC180_0.out)
             rintro e w20 ⟨rfl,hb⟩
             refine ⟨_,rfl,?_⟩;have n0_:=am' (blk_below (g:=gb177) (o := .cells #[.int .i64 a0_0, .slice (some ad180) l0_1.length c0_1, .int .i64 a0_2] 29 (0,0)) (by (with_reducible repeat (first|refine kn' ?_ _|refine kd' ?_|refine ka' ?_ _));exact BK177.out) hb);have n1_:=am' (below_step (by repeat (first|(with_reducible first|exact HB.out|apply ba'|apply bd'|apply be'|refine bs' ?_ GE177.out)|exact HB.out)) hb);clear BK177;clear HB;have BK177:=n0_;have HB:=n1_;clear n0_ n1_;(try clear hb)
             (try clear hb2)
             (try clear hk)
             (try clear hi)
             refine hK.out _ _ ⟨(blk_cell BK177.out 0).trans rfl,(blk_cell BK177.out 1).trans rfl,(blk_cell BK177.out 2).trans rfl,((HB.out.cell (bl' w _ hw182_0)).trans hw182_0),((HB.out.cell (bl' w _ hw183_0)).trans hw183_0)⟩ (fun hHeld=>?_);clear hK K;refine norm_ (a':=?_) ?_ ?_
             rotate_left
             ·
              show Act.put _ (some 27) _=_
              simp only[Act.put,sa',sb',sc',i64_w,i32_w];rfl
             refine pure_ (i:=5) (N:=some 28) (v:=?_) (a':=?_) #[true,true,true,true,true,true,false,false,false,false,false,false,false,false,false,false,false,false,false,false,false,false,false,false,false,false,false,false,false,false] rfl rfl (any_of HT_.out (by kernel_rfl)) (fun _ _ _ h=>h) (Or.inl ⟨by rfl,?_⟩) ?_ ?_
             rotate_left
             ·
              intro w';go_simp;with_reducible rfl
             rotate_left
             ·
              simp only[Act.put,sa',sb',sc',i64_w,i32_w];rfl
             refine pure_ (i:=6) (N:=some 29) (v:=?_) (a':=?_) #[true,true,true,true,true,true,true,false,false,false,false,false,false,false,false,false,false,false,false,false,false,false,false,false,false,false,false,false,false,false] rfl rfl (any_of HT_.out (by kernel_rfl)) (fun _ _ _ h=>h) (Or.inl ⟨by rfl,?_⟩) ?_ ?_
             rotate_left
             ·
              intro w';go_simp;with_reducible rfl
             rotate_left
             ·
              simp only[Act.put,sa',sb',sc',i64_w,i32_w];rfl
             refine pure_ (i:=7) (N:=some 30) (v:=?_) (a':=?_) #[true,true,true,true,true,true,true,true,false,false,false,false,false,false,false,false,false,false,false,false,false,false,false,false,false,false,false,false,false,false] rfl rfl (any_of HT_.out (by kernel_rfl)) (fun _ _ _ h=>h) (Or.inl ⟨by rfl,?_⟩) ?_ ?_
             rotate_left
             ·
              intro w';go_simp;with_reducible rfl
             rotate_left
             ·
              simp only[Act.put,sa',sb',sc',i64_w,i32_w];rfl
             refine pure_ (i:=8) (N:=some 31) (v:=?_) (a':=?_) #[true,true,true,true,true,true,true,true,true,false,false,false,false,false,false,false,false,false,false,false,false,false,false,false,false,false,false,false,false,false] rfl rfl (any_of HT_.out (by kernel_rfl)) (fun _ _ _ h=>h) (Or.inl ⟨by rfl,?_⟩) ?_ ?_
             rotate_left
             ·
              intro w';go_simp;with_reducible rfl
             rotate_left
             ·
              simp only[Act.put,sa',sb',sc',i64_w,i32_w];rfl
             refine pure_ (i:=10) (N:=some 33) (v:=?_) (a':=?_) #[true,true,true,true,true,true,true,true,true,false,true,false,false,false,false,false,false,false,false,false,false,false,false,false,false,false,false,false,false,false] rfl rfl (any_of HT_.out (by kernel_rfl)) (fun _ _ _ h=>h) (Or.inl ⟨by rfl,?_⟩) ?_ ?_
             rotate_left
             ·
              intro w';go_simp;with_reducible rfl
             rotate_left
             ·
              simp only[Act.put,sa',sb',sc',i64_w,i32_w];rfl
             refine pure_ (i:=11) (N:=some 34) (v:=?_) (a':=?_) #[true,true,true,true,true,true,true,true,true,false,true,true,false,false,false,false,false,false,false,false,false,false,false,false,false,false,false,false,false,false] rfl rfl (any_of HT_.out (by kernel_rfl)) (fun _ _ _ h=>h) (Or.inl ⟨by rfl,?_⟩) ?_ ?_
             rotate_left
             ·
              intro w';go_simp;with_reducible rfl
             rotate_left
             ·
              simp only[Act.put,sa',sb',sc',i64_w,i32_w];rfl
             refine take_ (i:=9) (N:=some 32) (v:=?_) (a':=?_) #[true,true,true,true,true,true,true,true,true,true,true,true,false,false,false,false,false,false,false,false,false,false,false,false,false,false,false,false,false,false] rfl rfl (take_ofW HT_.out HW_.out (by kernel_rfl)) (fun _ _ _ h=>h) (Or.inl ⟨by rfl,?_⟩) hHeld ?_ ?_
             rotate_left
             ·
              rintro w' ⟨s0,s1,s2,s3,s4⟩
              go_simp;with_reducible rfl
             rotate_left
             ·
              simp only[Act.put,sa',sb',sc',i64_w,i32_w];rfl
             refine take_ (i:=12) (N:=some 35) (v:=?_) (a':=?_) #[true,true,true,true,true,true,true,true,true,true,true,true,true,false,false,false,false,false,false,false,false,false,false,false,false,false,false,false,false,false] rfl rfl (take_ofW HT_.out HW_.out (by kernel_rfl)) (fun _ _ _ h=>h) (Or.inl ⟨by rfl,?_⟩) hHeld ?_ ?_
             rotate_left
             ·
              rintro w' ⟨s0,s1,s2,s3,s4⟩
              go_simp;with_reducible rfl
             rotate_left
             ·
              simp only[Act.put,sa',sb',sc',i64_w,i32_w];rfl
             refine pure_ (i:=13) (N:=some 36) (v:=?_) (a':=?_) #[true,true,true,true,true,true,true,true,true,true,true,true,true,true,false,false,false,false,false,false,false,false,false,false,false,false,false,false,false,false] rfl rfl (any_of HT_.out (by kernel_rfl)) (fun _ _ _ h=>h) (Or.inl ⟨by rfl,?_⟩) ?_ ?_
             rotate_left
             ·
              intro w';go_simp;with_reducible rfl
             rotate_left
             ·
              simp only[Act.put,sa',sb',sc',i64_w,i32_w];rfl
             refine pure_ (i:=14) (N:=some 37) (v:=?_) (a':=?_) #[true,true,true,true,true,true,true,true,true,true,true,true,true,true,true,false,false,false,false,false,false,false,false,false,false,false,false,false,false,false] rfl rfl (any_of HT_.out (by kernel_rfl)) (fun _ _ _ h=>h) (Or.inl ⟨by rfl,?_⟩) ?_ ?_
             rotate_left
             ·
              intro w';go_simp;with_reducible rfl
             rotate_left
             ·
              simp only[Act.put,sa',sb',sc',i64_w,i32_w];rfl
             refine pure_ (i:=15) (N:=some 38) (v:=?_) (a':=?_) #[true,true,true,true,true,true,true,true,true,true,true,true,true,true,true,true,false,false,false,false,false,false,false,false,false,false,false,false,false,false] rfl rfl (any_of HT_.out (by kernel_rfl)) (fun _ _ _ h=>h) (Or.inl ⟨by rfl,?_⟩) ?_ ?_
             rotate_left
             ·
              intro w';go_simp;with_reducible rfl
             rotate_left
             ·
              simp only[Act.put,sa',sb',sc',i64_w,i32_w];rfl
             refine pure_ (i:=16) (N:=some 39) (v:=undef) (a':=?_) #[true,true,true,true,true,true,true,true,true,true,true,true,true,true,true,true,true,false,false,false,false,false,false,false,false,false,false,false,false,false] rfl rfl (any_of HT_.out (by kernel_rfl)) (fun _ _ _ h=>h) (Or.inr ⟨by rfl,rfl⟩) ?_ ?_
             rotate_left
             ·
              simp only[Act.put,sa',sb',sc',i64_w,i32_w];rfl
             refine pure_ (i:=17) (N:=some 40) (v:=undef) (a':=?_) #[true,true,true,true,true,true,true,true,true,true,true,true,true,true,true,true,true,true,false,false,false,false,false,false,false,false,false,false,false,false] rfl rfl (any_of HT_.out (by kernel_rfl)) (fun _ _ _ h=>h) (Or.inr ⟨by rfl,rfl⟩) ?_ ?_
             rotate_left
             ·
              simp only[Act.put,sa',sb',sc',i64_w,i32_w];rfl
             refine pure_ (i:=18) (N:=some 41) (v:=undef) (a':=?_) #[true,true,true,true,true,true,true,true,true,true,true,true,true,true,true,true,true,true,true,false,false,false,false,false,false,false,false,false,false,false] rfl rfl (any_of HT_.out (by kernel_rfl)) (fun _ _ _ h=>h) (Or.inr ⟨by rfl,rfl⟩) ?_ ?_
             rotate_left
             ·
              simp only[Act.put,sa',sb',sc',i64_w,i32_w];rfl
             refine pure_ (i:=19) (N:=some 42) (v:=undef) (a':=?_) #[true,true,true,true,true,true,true,true,true,true,true,true,true,true,true,true,true,true,true,true,false,false,false,false,false,false,false,false,false,false] rfl rfl (any_of HT_.out (by kernel_rfl)) (fun _ _ _ h=>h) (Or.inr ⟨by rfl,rfl⟩) ?_ ?_
             rotate_left
             ·
              simp only[Act.put,sa',sb',sc',i64_w,i32_w];rfl
             refine pure_ (i:=20) (N:=some 43) (v:=undef) (a':=?_) #[true,true,true,true,true,true,true,true,true,true,true,true,true,true,true,true,true,true,true,true,true,false,false,false,false,false,false,false,false,false] rfl rfl (any_of HT_.out (by kernel_rfl)) (fun _ _ _ h=>h) (Or.inr ⟨by rfl,rfl⟩) ?_ ?_
             rotate_left
             ·
              simp only[Act.put,sa',sb',sc',i64_w,i32_w];rfl
             refine pure_ (i:=21) (N:=some 44) (v:=undef) (a':=?_) #[true,true,true,true,true,true,true,true,true,true,true,true,true,true,true,true,true,true,true,true,true,true,false,false,false,false,false,false,false,false] rfl rfl (any_of HT_.out (by kernel_rfl)) (fun _ _ _ h=>h) (Or.inr ⟨by rfl,rfl⟩) ?_ ?_
             rotate_left
             ·
              simp only[Act.put,sa',sb',sc',i64_w,i32_w];rfl
             refine pure_ (i:=22) (N:=some 45) (v:=undef) (a':=?_) #[true,true,true,true,true,true,true,true,true,true,true,true,true,true,true,true,true,true,true,true,true,true,true,false,false,false,false,false,false,false] rfl rfl (any_of HT_.out (by kernel_rfl)) (fun _ _ _ h=>h) (Or.inr ⟨by rfl,rfl⟩) ?_ ?_
             rotate_left
             ·
              simp only[Act.put,sa',sb',sc',i64_w,i32_w];rfl
             refine pure_ (i:=23) (N:=some 46) (v:=undef) (a':=?_) #[true,true,true,true,true,true,true,true,true,true,true,true,true,true,true,true,true,true,true,true,true,true,true,true,false,false,false,false,false,false] rfl rfl (any_of HT_.out (by kernel_rfl)) (fun _ _ _ h=>h) (Or.inr ⟨by rfl,rfl⟩) ?_ ?_
             rotate_left
             ·
              simp only[Act.put,sa',sb',sc',i64_w,i32_w];rfl
             refine pure_ (i:=24) (N:=some 47) (v:=undef) (a':=?_) #[true,true,true,true,true,true,true,true,true,true,true,true,true,true,true,true,true,true,true,true,true,true,true,true,true,false,false,false,false,false] rfl rfl (any_of HT_.out (by kernel_rfl)) (fun _ _ _ h=>h) (Or.inr ⟨by rfl,rfl⟩) ?_ ?_
             rotate_left
             ·
              simp only[Act.put,sa',sb',sc',i64_w,i32_w];rfl
             refine pure_ (i:=25) (N:=some 48) (v:=undef) (a':=?_) #[true,true,true,true,true,true,true,true,true,true,true,true,true,true,true,true,true,true,true,true,true,true,true,true,true,true,false,false,false,false] rfl rfl (any_of HT_.out (by kernel_rfl)) (fun _ _ _ h=>h) (Or.inr ⟨by rfl,rfl⟩) ?_ ?_
             rotate_left
             ·
              simp only[Act.put,sa',sb',sc',i64_w,i32_w];rfl
             refine pure_ (i:=26) (N:=some 49) (v:=undef) (a':=?_) #[true,true,true,true,true,true,true,true,true,true,true,true,true,true,true,true,true,true,true,true,true,true,true,true,true,true,true,false,false,false] rfl rfl (any_of HT_.out (by kernel_rfl)) (fun _ _ _ h=>h) (Or.inr ⟨by rfl,rfl⟩) ?_ ?_
             rotate_left
             ·
              simp only[Act.put,sa',sb',sc',i64_w,i32_w];rfl
             refine pure_ (i:=27) (N:=some 50) (v:=undef) (a':=?_) #[true,true,true,true,true,true,true,true,true,true,true,true,true,true,true,true,true,true,true,true,true,true,true,true,true,true,true,true,false,false] rfl rfl (any_of HT_.out (by kernel_rfl)) (fun _ _ _ h=>h) (Or.inr ⟨by rfl,rfl⟩) ?_ ?_
             rotate_left
             ·
              simp only[Act.put,sa',sb',sc',i64_w,i32_w];rfl
             refine pure_ (i:=28) (N:=some 51) (v:=undef) (a':=?_) #[true,true,true,true,true,true,true,true,true,true,true,true,true,true,true,true,true,true,true,true,true,true,true,true,true,true,true,true,true,false] rfl rfl (any_of HT_.out (by kernel_rfl)) (fun _ _ _ h=>h) (Or.inr ⟨by rfl,rfl⟩) ?_ ?_
             rotate_left
             ·
              simp only[Act.put,sa',sb',sc',i64_w,i32_w];rfl
             refine pure_ (i:=29) (N:=some 52) (v:=?_) (a':=?_) #[true,true,true,true,true,true,true,true,true,true,true,true,true,true,true,true,true,true,true,true,true,true,true,true,true,true,true,true,true,true] rfl rfl (any_of HT_.out (by kernel_rfl)) (fun _ _ _ h=>h) (Or.inl ⟨by rfl,?_⟩) ?_ ?_
             rotate_left
             ·
              intro w';go_simp;with_reducible rfl
             rotate_left
             ·
              simp only[Act.put,sa',sb',sc',i64_w,i32_w];rfl
             refine done_ (done_of HT_.out (by kernel_rfl)) ?_
             try go_wp2
             go_ret
             exact ⟨by first|rfl|(simp[errW_none,errW_some] <;> rfl)|(simp[*,errW_none,errW_some] <;> rfl),by repeat (first|(with_reducible first|exact HB.out|apply ba'|apply bd'|apply be'|refine bs' ?_ GE177.out)|exact HB.out)⟩
            ·
             rw[if_neg c18] at H;have c18b0:decide ((rd (rd_L1 l0_1 x18_2) 1)≤(rd (rd_L1 l0_1 x18_2) 0))=false:=decide_eq_false c18;clear c18;by_cases c21:x18_2 > 0
             ·
              rw[if_pos c21] at H;have c21b0:decide (0 < x18_2)=true:=decide_eq_true c21;clear c21;obtain ⟨ji22,hji22⟩:∃ j_:Int,(wrap64 (x18_2 - 1))=j_:=⟨_,rfl⟩
              replace H:(if 0≤(ji22) then (if (ji22) < (l0_1.length:Int) then ((slices_Compare_int_int.f k2 (rd_L1 l0_1 (ji22)) (rd_L1 l0_1 x18_2)).bind fun t185=>(if t185 ≥ 0 then (some false) else (impl_IsKeep.l0 k2 l0_1 (l0_1.length:Int) (wrap64 (x18_2+1)) a0_0 l0_1 a0_2))) else (none)) else (none))=some r:=by first|(rw[hji22] at H;exact H)|(simp only[hji22] at H ⊢;exact H)
              (try rw [hji22] at A14)
              have hji22w:(IntKind.i64.wrap (x18_2 - 1))=ji22:=(i64_w _).trans hji22;by_cases c23:0≤(ji22)
              ·
               rw[if_pos c23] at H;have c23b0:decide (0≤(ji22))=true:=decide_eq_true c23;clear c23;by_cases c24:(ji22) < (l0_1.length:Int)
               ·
                rw[if_pos c24] at H;have c24b0:decide ((ji22) < (l0_1.length:Int))=true:=decide_eq_true c24;clear c24;replace H:=Option.bind_eq_some_iff.mp H;obtain ⟨t185,A250,H⟩:=H;replace H:(if t185 ≥ 0 then (some false) else (impl_IsKeep.l0 k2 l0_1 (l0_1.length:Int) (wrap64 (x18_2+1)) a0_0 l0_1 a0_2))=some r:=H;have A25:=am' A250;clear A250;by_cases c26:t185 ≥ 0
                ·
                 rw[if_pos c26] at H;have c26b0:decide (0≤t185)=true:=decide_eq_true c26;clear c26;obtain rfl:=Option.some.inj H;have p180:0≤(x18_2:Int):=of_decide_eq_true (by first|(with_reducible assumption)|assumption);have q180:x18_2 < (l0_1.length:Int):=of_decide_eq_true (by first|(with_reducible assumption)|assumption);obtain ⟨ad180,A180_0,c180_0,e180,hx180_0,hl180_0,hi180_0⟩:=at_L1 HR0_1.out x18_2 p180 q180;cases e180;replace hx180_0:=(HB.out.cell (bl' w _ hx180_0)).trans hx180_0;have HR180_0:=am' hi180_0;have HC180_0:=am' hl180_0;clear hi180_0 hl180_0;replace p180:=eq_true p180;replace q180:=eq_true q180
                 try go_wp2
                 have n0_:=am' (kd' BK177.out);have n1_:=am' (be' HB.out);clear BK177;clear HB;have BK177:=n0_;have HB:=n1_;clear n0_ n1_;have p182:0≤(0:Int):=(by omega)
                 have q182:0 < ((rd_L1 l0_1 x18_2).length:Int):=of_decide_eq_true (by first|(with_reducible assumption)|assumption);obtain ⟨ad182,e182,hx182_0⟩:=Kd.at_int HR180_0.out 0 p182 q182;have hw182_0:=hx182_0;(try rw [show ((0:Int)).toNat=0 from rfl] at hw182_0)
                 (try rw [show 0 * 1=0 from rfl] at hw182_0)
                 (try rw [Addr.add_zero'] at hw182_0)
                 cases e182
                 have qi182:(0 < (rd_L1 l0_1 x18_2).length)=True:=eq_true (by omega)
                 (try rw [show ((0:Int)).toNat=0 from rfl] at hx182_0)
                 (try rw [Addr.add_zero'] at hx182_0)
                 replace hx182_0:=(HB.out.cell (bl' w _ hx182_0)).trans hx182_0;replace p182:=eq_true p182;replace q182:=eq_true q182;have p183:0≤(1:Int):=(by omega)
                 have q183:1 < ((rd_L1 l0_1 x18_2).length:Int):=of_decide_eq_true (by first|(with_reducible assumption)|assumption);obtain ⟨ad183,e183,hx183_0⟩:=Kd.at_int HR180_0.out 1 p183 q183;have hw183_0:=hx183_0;(try rw [show ((1:Int)).toNat=1 from rfl] at hw183_0)
                 (try rw [show 1 * 1=1 from rfl] at hw183_0)
                 (try simp only[Nat.reduceMul,Nat.reduceEqDiff,Go.Addr.add,↓reduceIte] at hw183_0)
                 obtain rfl:ad182=ad183:=(by injection e183)
                 (try simp only[show (1:Int).toNat=1 from rfl,Nat.reduceMul,Nat.reduceEqDiff,Go.Addr.add,↓reduceIte] at hx183_0)
                 have qi183:(1 < (rd_L1 l0_1 x18_2).length)=True:=eq_true (by omega)
                 (try rw [show ((1:Int)).toNat=1 from rfl] at hx183_0)
                 replace hx183_0:=(HB.out.cell (bl' w _ hx183_0)).trans hx183_0;replace p183:=eq_true p183;replace q183:=eq_true q183;have p184:0≤((ji22):Int):=of_decide_eq_true (by first|(with_reducible assumption)|assumption);have q184:(ji22) < (l0_1.length:Int):=of_decide_eq_true (by first|(with_reducible assumption)|assumption);obtain ⟨ad184,A184_0,c184_0,e184,hx184_0,hl184_0,hi184_0⟩:=at_L1 HR0_1.out (ji22) p184 q184;have hw184_0:=hx184_0;obtain rfl:ad180=ad184:=(by injection e184)
                 replace hx184_0:=(HB.out.cell (bl' w _ hx184_0)).trans hx184_0;have HR184_0:=am' hi184_0;have HC184_0:=am' hl184_0;clear hi184_0 hl184_0;replace p184:=eq_true p184;replace q184:=eq_true q184;refine start_ (n:=30) (S:=fun w'=>w'.cell? ⟨gb177,0,none⟩=some (.int .i64 a0_0)∧w'.cell? ⟨gb177,1,none⟩=some (.slice (some ad180) l0_1.length c0_1)∧w'.cell? ⟨gb177,2,none⟩=some (.int .i64 a0_2)∧w'.cell? ad182=some (.int .i64 (rd (rd_L1 l0_1 x18_2) 0))∧w'.cell? ⟨ad182.block,ad182.off+1,none⟩=some (.int .i64 (rd (rd_L1 l0_1 x18_2) 1))∧w'.cell? (ad180.add ((ji22)).toNat)=some (.slice A184_0 (rd_L1 l0_1 (ji22)).length c184_0)) (ds:=[]) #[false,false,false,false,false,false,false,false,false,false,false,false,false,false,false,false,false,false,false,false,false,false,false,false,false,false,false,false,false,false] (by kernel_rfl) rfl rfl ⟨(blk_cell BK177.out 0).trans rfl,(blk_cell BK177.out 1).trans rfl,(blk_cell BK177.out 2).trans rfl,((HB.out.cell (bl' w _ hw182_0)).trans hw182_0),((HB.out.cell (bl' w _ hw183_0)).trans hw183_0),((HB.out.cell (bl' w _ hw184_0)).trans hw184_0)⟩ (fun hHeld=>?_);refine with_tabW impl_IsKeep.tab6 impl_IsKeep.bits6 (fun HT_ HW_=>?_);generalize wr.drew=w27 at BK177 HB HR184_0 hx182_0 hx183_0 hx184_0 hHeld ⊢
                 refine pure_ (i:=0) (N:=some 23) (v:=?_) (a':=?_) #[true,false,false,false,false,false,false,false,false,false,false,false,false,false,false,false,false,false,false,false,false,false,false,false,false,false,false,false,false,false] rfl rfl (any_of HT_.out (by kernel_rfl)) (fun _ _ _ h=>h) (Or.inl ⟨by rfl,?_⟩) ?_ ?_
                 rotate_left
                 ·
                  intro w';go_simp;with_reducible rfl
                 rotate_left
                 ·
                  simp only[Act.put,sa',sb',sc',i64_w,i32_w];rfl
                 refine pure_ (i:=1) (N:=some 24) (v:=?_) (a':=?_) #[true,true,false,false,false,false,false,false,false,false,false,false,false,false,false,false,false,false,false,false,false,false,false,false,false,false,false,false,false,false] rfl rfl (any_of HT_.out (by kernel_rfl)) (fun _ _ _ h=>h) (Or.inl ⟨by rfl,?_⟩) ?_ ?_
                 rotate_left
                 ·
                  intro w';go_simp;with_reducible rfl
                 rotate_left
                 ·
                  simp only[Act.put,sa',sb',sc',i64_w,i32_w];rfl
                 refine take_ (i:=2) (N:=some 25) (v:=?_) (a':=?_) #[true,true,true,false,false,false,false,false,false,false,false,false,false,false,false,false,false,false,false,false,false,false,false,false,false,false,false,false,false,false] rfl rfl (take_ofW HT_.out HW_.out (by kernel_rfl)) (fun _ _ _ h=>h) (Or.inl ⟨by rfl,?_⟩) hHeld ?_ ?_
                 rotate_left
                 ·
                  rintro w' ⟨s0,s1,s2,s3,s4,s5⟩
                  go_simp;with_reducible rfl
                 rotate_left
                 ·
                  simp only[Act.put,sa',sb',sc',i64_w,i32_w];rfl
                 refine pure_ (i:=3) (N:=some 26) (v:=?_) (a':=?_) #[true,true,true,true,false,false,false,false,false,false,false,false,false,false,false,false,false,false,false,false,false,false,false,false,false,false,false,false,false,false] rfl rfl (any_of HT_.out (by kernel_rfl)) (fun _ _ _ h=>h) (Or.inl ⟨by rfl,?_⟩) ?_ ?_
                 rotate_left
                 ·
                  intro w';go_simp;with_reducible rfl
                 rotate_left
                 ·
                  simp only[Act.put,sa',sb',sc',i64_w,i32_w];rfl
                 refine one_ (i:=4) (N:=some 27) #[true,true,true,true,true,false,false,false,false,false,false,false,false,false,false,false,false,false,false,false,false,false,false,false,false,false,false,false,false,false] rfl rfl (one_of HT_.out (by kernel_rfl)) (by decide) (fun K hK=>?_);refine goes_ Try.func59 (by kernel_rfl) rfl #[.slice (some ad182) (rd_L1 l0_1 x18_2).length c180_0, .int .i64 0, .int .i64 (wrap64 (a0_0 - 1)), .int .i64 2, .int .i64 2] (by rfl) rfl rfl (by (try simp only[List.map_toArray,List.map_cons,List.map_nil]);first|done|rfl|(simp only[List.length_drop,List.length_take];rfl)) ?_
                 with_reducible refine (impl_areIn.calls _ _ (rd_L1 l0_1 x18_2) 0 (wrap64 (a0_0 - 1)) 2 2 true _ ?side1 ?side2 A14.out).mono ?_
                 (case side1=>repeat (first|exact (Kd.C_below HR180_0.out HB.out)|(with_reducible refine ca' ?_ _)|(with_reducible refine cn' ?_ _)|(with_reducible refine cd' ?_)))
                 (case side2=>exact HC180_0.out)
                 rintro e w28 ⟨rfl,hb⟩
                 refine ⟨_,rfl,?_⟩;have n0_:=am' (blk_below (g:=gb177) (o := .cells #[.int .i64 a0_0, .slice (some ad180) l0_1.length c0_1, .int .i64 a0_2] 29 (0,0)) (by (with_reducible repeat (first|refine kn' ?_ _|refine kd' ?_|refine ka' ?_ _));exact BK177.out) hb);have n1_:=am' (below_step (by repeat (first|(with_reducible first|exact HB.out|apply ba'|apply bd'|apply be'|refine bs' ?_ GE177.out)|exact HB.out)) hb);clear BK177;clear HB;have BK177:=n0_;have HB:=n1_;clear n0_ n1_;(try clear hb)
                 (try clear hb2)
                 (try clear hk)
                 (try clear hi)
                 refine hK.out _ _ ⟨(blk_cell BK177.out 0).trans rfl,(blk_cell BK177.out 1).trans rfl,(blk_cell BK177.out 2).trans rfl,((HB.out.cell (bl' w _ hw182_0)).trans hw182_0),((HB.out.cell (bl' w _ hw183_0)).trans hw183_0),((HB.out.cell (bl' w _ hw184_0)).trans hw184_0)⟩ (fun hHeld=>?_);clear hK K;refine norm_ (a':=?_) ?_ ?_
                 rotate_left
                 ·
                  show Act.put _ (some 27) _=_
                  simp only[Act.put,sa',sb',sc',i64_w,i32_w];rfl
                 refine pure_ (i:=5) (N:=some 28) (v:=?_) (a':=?_) #[true,true,true,true,true,true,false,false,false,false,false,false,false,false,false,false,false,false,false,false,false,false,false,false,false,false,false,false,false,false] rfl rfl (any_of HT_.out (by kernel_rfl)) (fun _ _ _ h=>h) (Or.inl ⟨by rfl,?_⟩) ?_ ?_
                 rotate_left
                 ·
                  intro w';go_simp;with_reducible rfl
                 rotate_left
                 ·
                  simp only[Act.put,sa',sb',sc',i64_w,i32_w];rfl
                 refine pure_ (i:=6) (N:=some 29) (v:=?_) (a':=?_) #[true,true,true,true,true,true,true,false,false,false,false,false,false,false,false,false,false,false,false,false,false,false,false,false,false,false,false,false,false,false] rfl rfl (any_of HT_.out (by kernel_rfl)) (fun _ _ _ h=>h) (Or.inl ⟨by rfl,?_⟩) ?_ ?_
                 rotate_left
                 ·
                  intro w';go_simp;with_reducible rfl
                 rotate_left
                 ·
                  simp only[Act.put,sa',sb',sc',i64_w,i32_w];rfl
                 refine pure_ (i:=7) (N:=some 30) (v:=?_) (a':=?_) #[true,true,true,true,true,true,true,true,false,false,false,false,false,false,false,false,false,false,false,false,false,false,false,false,false,false,false,false,false,false] rfl rfl (any_of HT_.out (by kernel_rfl)) (fun _ _ _ h=>h) (Or.inl ⟨by rfl,?_⟩) ?_ ?_
                 rotate_left
                 ·
                  intro w';go_simp;with_reducible rfl
                 rotate_left
                 ·
                  simp only[Act.put,sa',sb',sc',i64_w,i32_w];rfl
                 refine pure_ (i:=8) (N:=some 31) (v:=?_) (a':=?_) #[true,true,true,true,true,true,true,true,true,false,false,false,false,false,false,false,false,false,false,false,false,false,false,false,false,false,false,false,false,false] rfl rfl (any_of HT_.out (by kernel_rfl)) (fun _ _ _ h=>h) (Or.inl ⟨by rfl,?_⟩) ?_ ?_
                 rotate_left
                 ·
                  intro w';go_simp;with_reducible rfl
                 rotate_left
                 ·
                  simp only[Act.put,sa',sb',sc',i64_w,i32_w];rfl
                 refine pure_ (i:=10) (N:=some 33) (v:=?_) (a':=?_) #[true,true,true,true,true,true,true,true,true,false,true,false,false,false,false,false,false,false,false,false,false,false,false,false,false,false,false,false,false,false] rfl rfl (any_of HT_.out (by kernel_rfl)) (fun _ _ _ h=>h) (Or.inl ⟨by rfl,?_⟩) ?_ ?_
                 rotate_left
                 ·
                  intro w';go_simp;with_reducible rfl
                 rotate_left
                 ·
                  simp only[Act.put,sa',sb',sc',i64_w,i32_w];rfl
                 refine pure_ (i:=11) (N:=some 34) (v:=?_) (a':=?_) #[true,true,true,true,true,true,true,true,true,false,true,true,false,false,false,false,false,false,false,false,false,false,false,false,false,false,false,false,false,false] rfl rfl (any_of HT_.out (by kernel_rfl)) (fun _ _ _ h=>h) (Or.inl ⟨by rfl,?_⟩) ?_ ?_
                 rotate_left
                 ·
                  intro w';go_simp;with_reducible rfl
                 rotate_left
                 ·
                  simp only[Act.put,sa',sb',sc',i64_w,i32_w];rfl
                 refine take_ (i:=9) (N:=some 32) (v:=?_) (a':=?_) #[true,true,true,true,true,true,true,true,true,true,true,true,false,false,false,false,false,false,false,false,false,false,false,false,false,false,false,false,false,false] rfl rfl (take_ofW HT_.out HW_.out (by kernel_rfl)) (fun _ _ _ h=>h) (Or.inl ⟨by rfl,?_⟩) hHeld ?_ ?_
                 rotate_left
                 ·
                  rintro w' ⟨s0,s1,s2,s3,s4,s5⟩
                  go_simp;with_reducible rfl
                 rotate_left
                 ·
                  simp only[Act.put,sa',sb',sc',i64_w,i32_w];rfl
                 refine take_ (i:=12) (N:=some 35) (v:=?_) (a':=?_) #[true,true,true,true,true,true,true,true,true,true,true,true,true,false,false,false,false,false,false,false,false,false,false,false,false,false,false,false,false,false] rfl rfl (take_ofW HT_.out HW_.out (by kernel_rfl)) (fun _ _ _ h=>h) (Or.inl ⟨by rfl,?_⟩) hHeld ?_ ?_
                 rotate_left
                 ·
                  rintro w' ⟨s0,s1,s2,s3,s4,s5⟩
                  go_simp;with_reducible rfl
                 rotate_left
                 ·
                  simp only[Act.put,sa',sb',sc',i64_w,i32_w];rfl
                 refine pure_ (i:=13) (N:=some 36) (v:=?_) (a':=?_) #[true,true,true,true,true,true,true,true,true,true,true,true,true,true,false,false,false,false,false,false,false,false,false,false,false,false,false,false,false,false] rfl rfl (any_of HT_.out (by kernel_rfl)) (fun _ _ _ h=>h) (Or.inl ⟨by rfl,?_⟩) ?_ ?_
                 rotate_left
                 ·
                  intro w';go_simp;with_reducible rfl
                 rotate_left
                 ·
                  simp only[Act.put,sa',sb',sc',i64_w,i32_w];rfl
                 refine pure_ (i:=14) (N:=some 37) (v:=?_) (a':=?_) #[true,true,true,true,true,true,true,true,true,true,true,true,true,true,true,false,false,false,false,false,false,false,false,false,false,false,false,false,false,false] rfl rfl (any_of HT_.out (by kernel_rfl)) (fun _ _ _ h=>h) (Or.inl ⟨by rfl,?_⟩) ?_ ?_
                 rotate_left
                 ·
                  intro w';go_simp;with_reducible rfl
                 rotate_left
                 ·
                  simp only[Act.put,sa',sb',sc',i64_w,i32_w];rfl
                 refine pure_ (i:=15) (N:=some 38) (v:=?_) (a':=?_) #[true,true,true,true,true,true,true,true,true,true,true,true,true,true,true,true,false,false,false,false,false,false,false,false,false,false,false,false,false,false] rfl rfl (any_of HT_.out (by kernel_rfl)) (fun _ _ _ h=>h) (Or.inl ⟨by rfl,?_⟩) ?_ ?_
                 rotate_left
                 ·
                  intro w';go_simp;with_reducible rfl
                 rotate_left
                 ·
                  simp only[Act.put,sa',sb',sc',i64_w,i32_w];rfl
                 refine pure_ (i:=16) (N:=some 39) (v:=?_) (a':=?_) #[true,true,true,true,true,true,true,true,true,true,true,true,true,true,true,true,true,false,false,false,false,false,false,false,false,false,false,false,false,false] rfl rfl (any_of HT_.out (by kernel_rfl)) (fun _ _ _ h=>h) (Or.inl ⟨by rfl,?_⟩) ?_ ?_
                 rotate_left
                 ·
                  intro w';go_simp;with_reducible rfl
                 rotate_left
                 ·
                  simp only[Act.put,sa',sb',sc',i64_w,i32_w];rfl
                 refine pure_ (i:=17) (N:=some 40) (v:=?_) (a':=?_) #[true,true,true,true,true,true,true,true,true,true,true,true,true,true,true,true,true,true,false,false,false,false,false,false,false,false,false,false,false,false] rfl rfl (any_of HT_.out (by kernel_rfl)) (fun _ _ _ h=>h) (Or.inl ⟨by rfl,?_⟩) ?_ ?_
                 rotate_left
                 ·
                  intro w';go_simp;with_reducible rfl
                 rotate_left
                 ·
                  simp only[Act.put,sa',sb',sc',i64_w,i32_w];rfl
                 refine pure_ (i:=18) (N:=some 41) (v:=?_) (a':=?_) #[true,true,true,true,true,true,true,true,true,true,true,true,true,true,true,true,true,true,true,false,false,false,false,false,false,false,false,false,false,false] rfl rfl (any_of HT_.out (by kernel_rfl)) (fun _ _ _ h=>h) (Or.inl ⟨by rfl,?_⟩) ?_ ?_
                 rotate_left
                 ·
                  intro w';go_simp;with_reducible rfl
                 rotate_left
                 ·
                  simp only[Act.put,sa',sb',sc',i64_w,i32_w];rfl
                 refine pure_ (i:=19) (N:=some 42) (v:=?_) (a':=?_) #[true,true,true,true,true,true,true,true,true,true,true,true,true,true,true,true,true,true,true,true,false,false,false,false,false,false,false,false,false,false] rfl rfl (any_of HT_.out (by kernel_rfl)) (fun _ _ _ h=>h) (Or.inl ⟨by rfl,?_⟩) ?_ ?_
                 rotate_left
                 ·
                  intro w';go_simp;with_reducible rfl
                 rotate_left
                 ·
                  simp only[Act.put,sa',sb',sc',i64_w,i32_w];rfl
                 refine pure_ (i:=21) (N:=some 44) (v:=?_) (a':=?_) #[true,true,true,true,true,true,true,true,true,true,true,true,true,true,true,true,true,true,true,true,false,true,false,false,false,false,false,false,false,false] rfl rfl (any_of HT_.out (by kernel_rfl)) (fun _ _ _ h=>h) (Or.inl ⟨by rfl,?_⟩) ?_ ?_
                 rotate_left
                 ·
                  intro w';go_simp;with_reducible rfl
                 rotate_left
                 ·
                  simp only[Act.put,sa',sb',sc',i64_w,i32_w];rfl
                 refine pure_ (i:=22) (N:=some 45) (v:=?_) (a':=?_) #[true,true,true,true,true,true,true,true,true,true,true,true,true,true,true,true,true,true,true,true,false,true,true,false,false,false,false,false,false,false] rfl rfl (any_of HT_.out (by kernel_rfl)) (fun _ _ _ h=>h) (Or.inl ⟨by rfl,?_⟩) ?_ ?_
                 rotate_left
                 ·
                  intro w';go_simp;with_reducible rfl
                 rotate_left
                 ·
                  simp only[Act.put,sa',sb',sc',i64_w,i32_w];rfl
                 refine pure_ (i:=25) (N:=some 48) (v:=?_) (a':=?_) #[true,true,true,true,true,true,true,true,true,true,true,true,true,true,true,true,true,true,true,true,false,true,true,false,false,true,false,false,false,false] rfl rfl (any_of HT_.out (by kernel_rfl)) (fun _ _ _ h=>h) (Or.inl ⟨by rfl,?_⟩) ?_ ?_
                 rotate_left
                 ·
                  intro w';go_simp;with_reducible rfl
                 rotate_left
                 ·
                  simp only[Act.put,sa',sb',sc',i64_w,i32_w];rfl
                 refine take_ (i:=20) (N:=some 43) (v:=?_) (a':=?_) #[true,true,true,true,true,true,true,true,true,true,true,true,true,true,true,true,true,true,true,true,true,true,true,false,false,true,false,false,false,false] rfl rfl (take_ofW HT_.out HW_.out (by kernel_rfl)) (fun _ _ _ h=>h) (Or.inl ⟨by rfl,?_⟩) hHeld ?_ ?_
                 rotate_left
                 ·
                  rintro w' ⟨s0,s1,s2,s3,s4,s5⟩
                  go_simp;with_reducible rfl
                 rotate_left
                 ·
                  simp only[Act.put,sa',sb',sc',i64_w,i32_w];rfl
                 refine pure_ (i:=23) (N:=some 46) (v:=?_) (a':=?_) #[true,true,true,true,true,true,true,true,true,true,true,true,true,true,true,true,true,true,true,true,true,true,true,true,false,true,false,false,false,false] rfl rfl (any_of HT_.out (by kernel_rfl)) (fun _ _ _ h=>h) (Or.inl ⟨by rfl,?_⟩) ?_ ?_
                 rotate_left
                 ·
                  intro w';go_simp;with_reducible rfl
                 rotate_left
                 ·
                  simp only[Act.put,sa',sb',sc',i64_w,i32_w];rfl
                 refine take_ (i:=24) (N:=some 47) (v:=?_) (a':=?_) #[true,true,true,true,true,true,true,true,true,true,true,true,true,true,true,true,true,true,true,true,true,true,true,true,true,true,false,false,false,false] rfl rfl (take_ofW HT_.out HW_.out (by kernel_rfl)) (fun _ _ _ h=>h) (Or.inl ⟨by rfl,?_⟩) hHeld ?_ ?_
                 rotate_left
                 ·
                  rintro w' ⟨s0,s1,s2,s3,s4,s5⟩
                  go_simp;with_reducible rfl
                 rotate_left
                 ·
                  simp only[Act.put,sa',sb',sc',i64_w,i32_w];rfl
                 refine one_ (i:=26) (N:=some 49) #[true,true,true,true,true,true,true,true,true,true,true,true,true,true,true,true,true,true,true,true,true,true,true,true,true,true,true,false,false,false] rfl rfl (one_of HT_.out (by kernel_rfl)) (by decide) (fun K hK=>?_);refine goes_ Try.func60 (by kernel_rfl) rfl #[.slice A184_0 (rd_L1 l0_1 (ji22)).length c184_0, .slice (some ad182) (rd_L1 l0_1 x18_2).length c180_0] (by rfl) rfl rfl (by (try simp only[List.map_toArray,List.map_cons,List.map_nil]);first|done|(simp only[hji22];rfl)|rfl|(simp only[List.length_drop,List.length_take];rfl)) ?_
                 with_reducible refine (slices_Compare_int_int.calls k2 _ _ (rd_L1 l0_1 (ji22)) _ _ (rd_L1 l0_1 x18_2) t185 _ ?side1 ?side2 ?side3 ?side4 A25.out).mono ?_
                 (case side1=>repeat (first|exact (Kd.C_below HR184_0.out HB.out)|(with_reducible refine ca' ?_ _)|(with_reducible refine cn' ?_ _)|(with_reducible refine cd' ?_)))
                 (case side2=>exact HC184_0.out)
                 (case side3=>repeat (first|exact (Kd.C_below HR180_0.out HB.out)|(with_reducible refine ca' ?_ _)|(with_reducible refine cn' ?_ _)|(with_reducible refine cd' ?_)))
                 (case side4=>exact HC180_0.out)
                 rintro e w' ⟨rfl,⟨nd,rfl⟩⟩
                 refine ⟨_,rfl,?_⟩;refine hK.out _ _ ⟨(blk_cell BK177.out 0).trans rfl,(blk_cell BK177.out 1).trans rfl,(blk_cell BK177.out 2).trans rfl,((HB.out.cell (bl' w _ hw182_0)).trans hw182_0),((HB.out.cell (bl' w _ hw183_0)).trans hw183_0),((HB.out.cell (bl' w _ hw184_0)).trans hw184_0)⟩ (fun hHeld=>?_);clear hK K;refine norm_ (a':=?_) ?_ ?_
                 rotate_left
                 ·
                  show Act.put _ (some 49) _=_
                  simp only[Act.put,sa',sb',sc',i64_w,i32_w];rfl
                 refine pure_ (i:=27) (N:=some 50) (v:=?_) (a':=?_) #[true,true,true,true,true,true,true,true,true,true,true,true,true,true,true,true,true,true,true,true,true,true,true,true,true,true,true,true,false,false] rfl rfl (any_of HT_.out (by kernel_rfl)) (fun _ _ _ h=>h) (Or.inl ⟨by rfl,?_⟩) ?_ ?_
                 rotate_left
                 ·
                  intro w';go_simp;with_reducible rfl
                 rotate_left
                 ·
                  simp only[Act.put,sa',sb',sc',i64_w,i32_w];rfl
                 refine pure_ (i:=28) (N:=some 51) (v:=?_) (a':=?_) #[true,true,true,true,true,true,true,true,true,true,true,true,true,true,true,true,true,true,true,true,true,true,true,true,true,true,true,true,true,false] rfl rfl (any_of HT_.out (by kernel_rfl)) (fun _ _ _ h=>h) (Or.inl ⟨by rfl,?_⟩) ?_ ?_
                 rotate_left
                 ·
                  intro w';go_simp;with_reducible rfl
                 rotate_left
                 ·
                  simp only[Act.put,sa',sb',sc',i64_w,i32_w];rfl
                 refine pure_ (i:=29) (N:=some 52) (v:=?_) (a':=?_) #[true,true,true,true,true,true,true,true,true,true,true,true,true,true,true,true,true,true,true,true,true,true,true,true,true,true,true,true,true,true] rfl rfl (any_of HT_.out (by kernel_rfl)) (fun _ _ _ h=>h) (Or.inl ⟨by rfl,?_⟩) ?_ ?_
                 rotate_left
                 ·
                  intro w';go_simp;with_reducible rfl
                 rotate_left
                 ·
                  simp only[Act.put,sa',sb',sc',i64_w,i32_w];rfl
                 refine done_ (done_of HT_.out (by kernel_rfl)) ?_
                 try go_wp2
                 go_ret
                 exact ⟨by first|rfl|(simp[errW_none,errW_some] <;> rfl)|(simp only[← hji22];first|rfl|(simp[errW_none,errW_some] <;> rfl))|(simp[*,errW_none,errW_some] <;> rfl),by repeat (first|(with_reducible first|exact HB.out|apply ba'|apply bd'|apply be'|refine bs' ?_ GE177.out)|exact HB.out)⟩
                ·
                 rw[if_neg c26] at H;have c26b0:decide (0≤t185)=false:=decide_eq_false c26;clear c26;have H':=am' H;clear H;have p180:0≤(x18_2:Int):=of_decide_eq_true (by first|(with_reducible assumption)|assumption);have q180:x18_2 < (l0_1.length:Int):=of_decide_eq_true (by first|(with_reducible assumption)|assumption);obtain ⟨ad180,A180_0,c180_0,e180,hx180_0,hl180_0,hi180_0⟩:=at_L1 HR0_1.out x18_2 p180 q180;cases e180;replace hx180_0:=(HB.out.cell (bl' w _ hx180_0)).trans hx180_0;have HR180_0:=am' hi180_0;have HC180_0:=am' hl180_0;clear hi180_0 hl180_0;replace p180:=eq_true p180;replace q180:=eq_true q180
                 try go_wp2
                 have n0_:=am' (kd' BK177.out);have n1_:=am' (be' HB.out);clear BK177;clear HB;have BK177:=n0_;have HB:=n1_;clear n0_ n1_;have p182:0≤(0:Int):=(by omega)
                 have q182:0 < ((rd_L1 l0_1 x18_2).length:Int):=of_decide_eq_true (by first|(with_reducible assumption)|assumption);obtain ⟨ad182,e182,hx182_0⟩:=Kd.at_int HR180_0.out 0 p182 q182;have hw182_0:=hx182_0;(try rw [show ((0:Int)).toNat=0 from rfl] at hw182_0)
                 (try rw [show 0 * 1=0 from rfl] at hw182_0)
                 (try rw [Addr.add_zero'] at hw182_0)
                 cases e182
                 have qi182:(0 < (rd_L1 l0_1 x18_2).length)=True:=eq_true (by omega)
                 (try rw [show ((0:Int)).toNat=0 from rfl] at hx182_0)
                 (try rw [Addr.add_zero'] at hx182_0)
                 replace hx182_0:=(HB.out.cell (bl' w _ hx182_0)).trans hx182_0;replace p182:=eq_true p182;replace q182:=eq_true q182;have p183:0≤(1:Int):=(by omega)
                 have q183:1 < ((rd_L1 l0_1 x18_2).length:Int):=of_decide_eq_true (by first|(with_reducible assumption)|assumption);obtain ⟨ad183,e183,hx183_0⟩:=Kd.at_int HR180_0.out 1 p183 q183;have hw183_0:=hx183_0;(try rw [show ((1:Int)).toNat=1 from rfl] at hw183_0)
                 (try rw [show 1 * 1=1 from rfl] at hw183_0)
                 (try simp only[Nat.reduceMul,Nat.reduceEqDiff,Go.Addr.add,↓reduceIte] at hw183_0)
                 obtain rfl:ad182=ad183:=(by injection e183)
                 (try simp only[show (1:Int).toNat=1 from rfl,Nat.reduceMul,Nat.reduceEqDiff,Go.Addr.add,↓reduceIte] at hx183_0)
                 have qi183:(1 < (rd_L1 l0_1 x18_2).length)=True:=eq_true (by omega)
                 (try rw [show ((1:Int)).toNat=1 from rfl] at hx183_0)
                 replace hx183_0:=(HB.out.cell (bl' w _ hx183_0)).trans hx183_0;replace p183:=eq_true p183;replace q183:=eq_true q183;have p184:0≤((ji22):Int):=of_decide_eq_true (by first|(with_reducible assumption)|assumption);have q184:(ji22) < (l0_1.length:Int):=of_decide_eq_true (by first|(with_reducible assumption)|assumption);obtain ⟨ad184,A184_0,c184_0,e184,hx184_0,hl184_0,hi184_0⟩:=at_L1 HR0_1.out (ji22) p184 q184;have hw184_0:=hx184_0;obtain rfl:ad180=ad184:=(by injection e184)
                 replace hx184_0:=(HB.out.cell (bl' w _ hx184_0)).trans hx184_0;have HR184_0:=am' hi184_0;have HC184_0:=am' hl184_0;clear hi184_0 hl184_0;replace p184:=eq_true p184;replace q184:=eq_true q184;refine start_ (n:=30) (S:=fun w'=>w'.cell? ⟨gb177,0,none⟩=some (.int .i64 a0_0)∧w'.cell? ⟨gb177,1,none⟩=some (.slice (some ad180) l0_1.length c0_1)∧w'.cell? ⟨gb177,2,none⟩=some (.int .i64 a0_2)∧w'.cell? ad182=some (.int .i64 (rd (rd_L1 l0_1 x18_2) 0))∧w'.cell? ⟨ad182.block,ad182.off+1,none⟩=some (.int .i64 (rd (rd_L1 l0_1 x18_2) 1))∧w'.cell? (ad180.add ((ji22)).toNat)=some (.slice A184_0 (rd_L1 l0_1 (ji22)).length c184_0)) (ds:=[]) #[false,false,false,false,false,false,false,false,false,false,false,false,false,false,false,false,false,false,false,false,false,false,false,false,false,false,false,false,false,false] (by kernel_rfl) rfl rfl ⟨(blk_cell BK177.out 0).trans rfl,(blk_cell BK177.out 1).trans rfl,(blk_cell BK177.out 2).trans rfl,((HB.out.cell (bl' w _ hw182_0)).trans hw182_0),((HB.out.cell (bl' w _ hw183_0)).trans hw183_0),((HB.out.cell (bl' w _ hw184_0)).trans hw184_0)⟩ (fun hHeld=>?_);refine with_tabW impl_IsKeep.tab6 impl_IsKeep.bits6 (fun HT_ HW_=>?_);generalize wr.drew=w29 at BK177 HB HR184_0 hx182_0 hx183_0 hx184_0 hHeld ⊢
                 refine pure_ (i:=0) (N:=some 23) (v:=?_) (a':=?_) #[true,false,false,false,false,false,false,false,false,false,false,false,false,false,false,false,false,false,false,false,false,false,false,false,false,false,false,false,false,false] rfl rfl (any_of HT_.out (by kernel_rfl)) (fun _ _ _ h=>h) (Or.inl ⟨by rfl,?_⟩) ?_ ?_
                 rotate_left
                 ·
                  intro w';go_simp;with_reducible rfl
                 rotate_left
                 ·
                  simp only[Act.put,sa',sb',sc',i64_w,i32_w];rfl
                 refine pure_ (i:=1) (N:=some 24) (v:=?_) (a':=?_) #[true,true,false,false,false,false,false,false,false,false,false,false,false,false,false,false,false,false,false,false,false,false,false,false,false,false,false,false,false,false] rfl rfl (any_of HT_.out (by kernel_rfl)) (fun _ _ _ h=>h) (Or.inl ⟨by rfl,?_⟩) ?_ ?_
                 rotate_left
                 ·
                  intro w';go_simp;with_reducible rfl
                 rotate_left
                 ·
                  simp only[Act.put,sa',sb',sc',i64_w,i32_w];rfl
                 refine take_ (i:=2) (N:=some 25) (v:=?_) (a':=?_) #[true,true,true,false,false,false,false,false,false,false,false,false,false,false,false,false,false,false,false,false,false,false,false,false,false,false,false,false,false,false] rfl rfl (take_ofW HT_.out HW_.out (by kernel_rfl)) (fun _ _ _ h=>h) (Or.inl ⟨by rfl,?_⟩) hHeld ?_ ?_
                 rotate_left
                 ·
                  rintro w' ⟨s0,s1,s2,s3,s4,s5⟩
                  go_simp;with_reducible rfl
                 rotate_left
                 ·
                  simp only[Act.put,sa',sb',sc',i64_w,i32_w];rfl
                 refine pure_ (i:=3) (N:=some 26) (v:=?_) (a':=?_) #[true,true,true,true,false,false,false,false,false,false,false,false,false,false,false,false,false,false,false,false,false,false,false,false,false,false,false,false,false,false] rfl rfl (any_of HT_.out (by kernel_rfl)) (fun _ _ _ h=>h) (Or.inl ⟨by rfl,?_⟩) ?_ ?_
                 rotate_left
                 ·
                  intro w';go_simp;with_reducible rfl
                 rotate_left
                 ·
                  simp only[Act.put,sa',sb',sc',i64_w,i32_w];rfl
                 refine one_ (i:=4) (N:=some 27) #[true,true,true,true,true,false,false,false,false,false,false,false,false,false,false,false,false,false,false,false,false,false,false,false,false,false,false,false,false,false] rfl rfl (one_of HT_.out (by kernel_rfl)) (by decide) (fun K hK=>?_);refine goes_ Try.func59 (by kernel_rfl) rfl #[.slice (some ad182) (rd_L1 l0_1 x18_2).length c180_0, .int .i64 0, .int .i64 (wrap64 (a0_0 - 1)), .int .i64 2, .int .i64 2] (by rfl) rfl rfl (by (try simp only[List.map_toArray,List.map_cons,List.map_nil]);first|done|rfl|(simp only[List.length_drop,List.length_take];rfl)) ?_
                 with_reducible refine (impl_areIn.calls _ _ (rd_L1 l0_1 x18_2) 0 (wrap64 (a0_0 - 1)) 2 2 true _ ?side1 ?side2 A14.out).mono ?_
                 (case side1=>repeat (first|exact (Kd.C_below HR180_0.out HB.out)|(with_reducible refine ca' ?_ _)|(with_reducible refine cn' ?_ _)|(with_reducible refine cd' ?_)))
                 (case side2=>exact HC180_0.out)
                 rintro e w30 ⟨rfl,hb⟩
                 refine ⟨_,rfl,?_⟩;have n0_:=am' (blk_below (g:=gb177) (o := .cells #[.int .i64 a0_0, .slice (some ad180) l0_1.length c0_1, .int .i64 a0_2] 29 (0,0)) (by (with_reducible repeat (first|refine kn' ?_ _|refine kd' ?_|refine ka' ?_ _));exact BK177.out) hb);have n1_:=am' (below_step (by repeat (first|(with_reducible first|exact HB.out|apply ba'|apply bd'|apply be'|refine bs' ?_ GE177.out)|exact HB.out)) hb);clear BK177;clear HB;have BK177:=n0_;have HB:=n1_;clear n0_ n1_;(try clear hb)
                 (try clear hb2)
                 (try clear hk)
                 (try clear hi)
                 refine hK.out _ _ ⟨(blk_cell BK177.out 0).trans rfl,(blk_cell BK177.out 1).trans rfl,(blk_cell BK177.out 2).trans rfl,((HB.out.cell (bl' w _ hw182_0)).trans hw182_0),((HB.out.cell (bl' w _ hw183_0)).trans hw183_0),((HB.out.cell (bl' w _ hw184_0)).trans hw184_0)⟩ (fun hHeld=>?_);clear hK K;refine norm_ (a':=?_) ?_ ?_
                 rotate_left
                 ·
                  show Act.put _ (some 27) _=_
                  simp only[Act.put,sa',sb',sc',i64_w,i32_w];rfl
                 refine pure_ (i:=5) (N:=some 28) (v:=?_) (a':=?_) #[true,true,true,true,true,true,false,false,false,false,false,false,false,false,false,false,false,false,false,false,false,false,false,false,false,false,false,false,false,false] rfl rfl (any_of HT_.out (by kernel_rfl)) (fun _ _ _ h=>h) (Or.inl ⟨by rfl,?_⟩) ?_ ?_
                 rotate_left
                 ·
                  intro w';go_simp;with_reducible rfl
                 rotate_left
                 ·
                  simp only[Act.put,sa',sb',sc',i64_w,i32_w];rfl
                 refine pure_ (i:=6) (N:=some 29) (v:=?_) (a':=?_) #[true,true,true,true,true,true,true,false,false,false,false,false,false,false,false,false,false,false,false,false,false,false,false,false,false,false,false,false,false,false] rfl rfl (any_of HT_.out (by kernel_rfl)) (fun _ _ _ h=>h) (Or.inl ⟨by rfl,?_⟩) ?_ ?_
                 rotate_left
                 ·
                  intro w';go_simp;with_reducible rfl
                 rotate_left
                 ·
                  simp only[Act.put,sa',sb',sc',i64_w,i32_w];rfl
                 refine pure_ (i:=7) (N:=some 30) (v:=?_) (a':=?_) #[true,true,true,true,true,true,true,true,false,false,false,false,false,false,false,false,false,false,false,false,false,false,false,false,false,false,false,false,false,false] rfl rfl (any_of HT_.out (by kernel_rfl)) (fun _ _ _ h=>h) (Or.inl ⟨by rfl,?_⟩) ?_ ?_
                 rotate_left
                 ·
                  intro w';go_simp;with_reducible rfl
                 rotate_left
                 ·
                  simp only[Act.put,sa',sb',sc',i64_w,i32_w];rfl
                 refine pure_ (i:=8) (N:=some 31) (v:=?_) (a':=?_) #[true,true,true,true,true,true,true,true,true,false,false,false,false,false,false,false,false,false,false,false,false,false,false,false,false,false,false,false,false,false] rfl rfl (any_of HT_.out (by kernel_rfl)) (fun _ _ _ h=>h) (Or.inl ⟨by rfl,?_⟩) ?_ ?_
                 rotate_left
                 ·
                  intro w';go_simp;with_reducible rfl
                 rotate_left
                 ·
                  simp only[Act.put,sa',sb',sc',i64_w,i32_w];rfl
                 refine pure_ (i:=10) (N:=some 33) (v:=?_) (a':=?_) #[true,true,true,true,true,true,true,true,true,false,true,false,false,false,false,false,false,false,false,false,false,false,false,false,false,false,false,false,false,false] rfl rfl (any_of HT_.out (by kernel_rfl)) (fun _ _ _ h=>h) (Or.inl ⟨by rfl,?_⟩) ?_ ?_
                 rotate_left
                 ·
                  intro w';go_simp;with_reducible rfl
                 rotate_left
                 ·
                  simp only[Act.put,sa',sb',sc',i64_w,i32_w];rfl
                 refine pure_ (i:=11) (N:=some 34) (v:=?_) (a':=?_) #[true,true,true,true,true,true,true,true,true,false,true,true,false,false,false,false,false,false,false,false,false,false,false,false,false,false,false,false,false,false] rfl rfl (any_of HT_.out (by kernel_rfl)) (fun _ _ _ h=>h) (Or.inl ⟨by rfl,?_⟩) ?_ ?_
                 rotate_left
                 ·
                  intro w';go_simp;with_reducible rfl
                 rotate_left
                 ·
                  simp only[Act.put,sa',sb',sc',i64_w,i32_w];rfl
                 refine take_ (i:=9) (N:=some 32) (v:=?_) (a':=?_) #[true,true,true,true,true,true,true,true,true,true,true,true,false,false,false,false,false,false,false,false,false,false,false,false,false,false,false,false,false,false] rfl rfl (take_ofW HT_.out HW_.out (by kernel_rfl)) (fun _ _ _ h=>h) (Or.inl ⟨by rfl,?_⟩) hHeld ?_ ?_
                 rotate_left
                 ·
                  rintro w' ⟨s0,s1,s2,s3,s4,s5⟩
                  go_simp;with_reducible rfl
                 rotate_left
                 ·
                  simp only[Act.put,sa',sb',sc',i64_w,i32_w];rfl
                 refine take_ (i:=12) (N:=some 35) (v:=?_) (a':=?_) #[true,true,true,true,true,true,true,true,true,true,true,true,true,false,false,false,false,false,false,false,false,false,false,false,false,false,false,false,false,false] rfl rfl (take_ofW HT_.out HW_.out (by kernel_rfl)) (fun _ _ _ h=>h) (Or.inl ⟨by rfl,?_⟩) hHeld ?_ ?_
                 rotate_left
                 ·
                  rintro w' ⟨s0,s1,s2,s3,s4,s5⟩
                  go_simp;with_reducible rfl
                 rotate_left
                 ·
                  simp only[Act.put,sa',sb',sc',i64_w,i32_w];rfl
                 refine pure_ (i:=13) (N:=some 36) (v:=?_) (a':=?_) #[true,true,true,true,true,true,true,true,true,true,true,true,true,true,false,false,false,false,false,false,false,false,false,false,false,false,false,false,false,false] rfl rfl (any_of HT_.out (by kernel_rfl)) (fun _ _ _ h=>h) (Or.inl ⟨by rfl,?_⟩) ?_ ?_
                 rotate_left
                 ·
                  intro w';go_simp;with_reducible rfl
                 rotate_left
                 ·
                  simp only[Act.put,sa',sb',sc',i64_w,i32_w];rfl
                 refine pure_ (i:=14) (N:=some 37) (v:=?_) (a':=?_) #[true,true,true,true,true,true,true,true,true,true,true,true,true,true,true,false,false,false,false,false,false,false,false,false,false,false,false,false,false,false] rfl rfl (any_of HT_.out (by kernel_rfl)) (fun _ _ _ h=>h) (Or.inl ⟨by rfl,?_⟩) ?_ ?_
                 rotate_left
                 ·
                  intro w';go_simp;with_reducible rfl
                 rotate_left
                 ·
                  simp only[Act.put,sa',sb',sc',i64_w,i32_w];rfl
                 refine pure_ (i:=15) (N:=some 38) (v:=?_) (a':=?_) #[true,true,true,true,true,true,true,true,true,true,true,true,true,true,true,true,false,false,false,false,false,false,false,false,false,false,false,false,false,false] rfl rfl (any_of HT_.out (by kernel_rfl)) (fun _ _ _ h=>h) (Or.inl ⟨by rfl,?_⟩) ?_ ?_
                 rotate_left
                 ·
                  intro w';go_simp;with_reducible rfl
                 rotate_left
                 ·
                  simp only[Act.put,sa',sb',sc',i64_w,i32_w];rfl
                 refine pure_ (i:=16) (N:=some 39) (v:=?_) (a':=?_) #[true,true,true,true,true,true,true,true,true,true,true,true,true,true,true,true,true,false,false,false,false,false,false,false,false,false,false,false,false,false] rfl rfl (any_of HT_.out (by kernel_rfl)) (fun _ _ _ h=>h) (Or.inl ⟨by rfl,?_⟩) ?_ ?_
                 rotate_left
                 ·
                  intro w';go_simp;with_reducible rfl
                 rotate_left
                 ·
                  simp only[Act.put,sa',sb',sc',i64_w,i32_w];rfl
                 refine pure_ (i:=17) (N:=some 40) (v:=?_) (a':=?_) #[true,true,true,true,true,true,true,true,true,true,true,true,true,true,true,true,true,true,false,false,false,false,false,false,false,false,false,false,false,false] rfl rfl (any_of HT_.out (by kernel_rfl)) (fun _ _ _ h=>h) (Or.inl ⟨by rfl,?_⟩) ?_ ?_
                 rotate_left
                 ·
                  intro w';go_simp;with_reducible rfl
                 rotate_left
                 ·
                  simp only[Act.put,sa',sb',sc',i64_w,i32_w];rfl
                 refine pure_ (i:=18) (N:=some 41) (v:=?_) (a':=?_) #[true,true,true,true,true,true,true,true,true,true,true,true,true,true,true,true,true,true,true,false,false,false,false,false,false,false,false,false,false,false] rfl rfl (any_of HT_.out (by kernel_rfl)) (fun _ _ _ h=>h) (Or.inl ⟨by rfl,?_⟩) ?_ ?_
                 rotate_left
                 ·
                  intro w';go_simp;with_reducible rfl
                 rotate_left
                 ·
                  simp only[Act.put,sa',sb',sc',i64_w,i32_w];rfl
                 refine pure_ (i:=19) (N:=some 42) (v:=?_) (a':=?_) #[true,true,true,true,true,true,true,true,true,true,true,true,true,true,true,true,true,true,true,true,false,false,false,false,false,false,false,false,false,false] rfl rfl (any_of HT_.out (by kernel_rfl)) (fun _ _ _ h=>h) (Or.inl ⟨by rfl,?_⟩) ?_ ?_
                 rotate_left
                 ·
                  intro w';go_simp;with_reducible rfl
                 rotate_left
                 ·
                  simp only[Act.put,sa',sb',sc',i64_w,i32_w];rfl
                 refine pure_ (i:=21) (N:=some 44) (v:=?_) (a':=?_) #[true,true,true,true,true,true,true,true,true,true,true,true,true,true,true,true,true,true,true,true,false,true,false,false,false,false,false,false,false,false] rfl rfl (any_of HT_.out (by kernel_rfl)) (fun _ _ _ h=>h) (Or.inl ⟨by rfl,?_⟩) ?_ ?_
                 rotate_left
                 ·
                  intro w';go_simp;with_reducible rfl
                 rotate_left
                 ·
                  simp only[Act.put,sa',sb',sc',i64_w,i32_w];rfl
                 refine pure_ (i:=22) (N:=some 45) (v:=?_) (a':=?_) #[true,true,true,true,true,true,true,true,true,true,true,true,true,true,true,true,true,true,true,true,false,true,true,false,false,false,false,false,false,false] rfl rfl (any_of HT_.out (by kernel_rfl)) (fun _ _ _ h=>h) (Or.inl ⟨by rfl,?_⟩) ?_ ?_
                 rotate_left
                 ·
                  intro w';go_simp;with_reducible rfl
                 rotate_left
                 ·
                  simp only[Act.put,sa',sb',sc',i64_w,i32_w];rfl
                 refine pure_ (i:=25) (N:=some 48) (v:=?_) (a':=?_) #[true,true,true,true,true,true,true,true,true,true,true,true,true,true,true,true,true,true,true,true,false,true,true,false,false,true,false,false,false,false] rfl rfl (any_of HT_.out (by kernel_rfl)) (fun _ _ _ h=>h) (Or.inl ⟨by rfl,?_⟩) ?_ ?_
                 rotate_left
                 ·
                  intro w';go_simp;with_reducible rfl
                 rotate_left
                 ·
                  simp only[Act.put,sa',sb',sc',i64_w,i32_w];rfl
                 refine take_ (i:=20) (N:=some 43) (v:=?_) (a':=?_) #[true,true,true,true,true,true,true,true,true,true,true,true,true,true,true,true,true,true,true,true,true,true,true,false,false,true,false,false,false,false] rfl rfl (take_ofW HT_.out HW_.out (by kernel_rfl)) (fun _ _ _ h=>h) (Or.inl ⟨by rfl,?_⟩) hHeld ?_ ?_
                 rotate_left
                 ·
                  rintro w' ⟨s0,s1,s2,s3,s4,s5⟩
                  go_simp;with_reducible rfl
                 rotate_left
                 ·
                  simp only[Act.put,sa',sb',sc',i64_w,i32_w];rfl
                 refine pure_ (i:=23) (N:=some 46) (v:=?_) (a':=?_) #[true,true,true,true,true,true,true,true,true,true,true,true,true,true,true,true,true,true,true,true,true,true,true,true,false,true,false,false,false,false] rfl rfl (any_of HT_.out (by kernel_rfl)) (fun _ _ _ h=>h) (Or.inl ⟨by rfl,?_⟩) ?_ ?_
                 rotate_left
                 ·
                  intro w';go_simp;with_reducible rfl
                 rotate_left
                 ·
                  simp only[Act.put,sa',sb',sc',i64_w,i32_w];rfl
                 refine take_ (i:=24) (N:=some 47) (v:=?_) (a':=?_) #[true,true,true,true,true,true,true,true,true,true,true,true,true,true,true,true,true,true,true,true,true,true,true,true,true,true,false,false,false,false] rfl rfl (take_ofW HT_.out HW_.out (by kernel_rfl)) (fun _ _ _ h=>h) (Or.inl ⟨by rfl,?_⟩) hHeld ?_ ?_
                 rotate_left
                 ·
                  rintro w' ⟨s0,s1,s2,s3,s4,s5⟩
                  go_simp;with_reducible rfl
                 rotate_left
                 ·
                  simp only[Act.put,sa',sb',sc',i64_w,i32_w];rfl
                 refine one_ (i:=26) (N:=some 49) #[true,true,true,true,true,true,true,true,true,true,true,true,true,true,true,true,true,true,true,true,true,true,true,true,true,true,true,false,false,false] rfl rfl (one_of HT_.out (by kernel_rfl)) (by decide) (fun K hK=>?_);refine goes_ Try.func60 (by kernel_rfl) rfl #[.slice A184_0 (rd_L1 l0_1 (ji22)).length c184_0, .slice (some ad182) (rd_L1 l0_1 x18_2).length c180_0] (by rfl) rfl rfl (by (try simp only[List.map_toArray,List.map_cons,List.map_nil]);first|done|(simp only[hji22];rfl)|rfl|(simp only[List.length_drop,List.length_take];rfl)) ?_
                 with_reducible refine (slices_Compare_int_int.calls k2 _ _ (rd_L1 l0_1 (ji22)) _ _ (rd_L1 l0_1 x18_2) t185 _ ?side1 ?side2 ?side3 ?side4 A25.out).mono ?_
                 (case side1=>repeat (first|exact (Kd.C_below HR184_0.out HB.out)|(with_reducible refine ca' ?_ _)|(with_reducible refine cn' ?_ _)|(with_reducible refine cd' ?_)))
                 (case side2=>exact HC184_0.out)
                 (case side3=>repeat (first|exact (Kd.C_below HR180_0.out HB.out)|(with_reducible refine ca' ?_ _)|(with_reducible refine cn' ?_ _)|(with_reducible refine cd' ?_)))
                 (case side4=>exact HC180_0.out)
                 rintro e w' ⟨rfl,⟨nd,rfl⟩⟩
                 refine ⟨_,rfl,?_⟩;refine hK.out _ _ ⟨(blk_cell BK177.out 0).trans rfl,(blk_cell BK177.out 1).trans rfl,(blk_cell BK177.out 2).trans rfl,((HB.out.cell (bl' w _ hw182_0)).trans hw182_0),((HB.out.cell (bl' w _ hw183_0)).trans hw183_0),((HB.out.cell (bl' w _ hw184_0)).trans hw184_0)⟩ (fun hHeld=>?_);clear hK K;refine norm_ (a':=?_) ?_ ?_
                 rotate_left
                 ·
                  show Act.put _ (some 49) _=_
                  simp only[Act.put,sa',sb',sc',i64_w,i32_w];rfl
                 refine pure_ (i:=27) (N:=some 50) (v:=?_) (a':=?_) #[true,true,true,true,true,true,true,true,true,true,true,true,true,true,true,true,true,true,true,true,true,true,true,true,true,true,true,true,false,false] rfl rfl (any_of HT_.out (by kernel_rfl)) (fun _ _ _ h=>h) (Or.inl ⟨by rfl,?_⟩) ?_ ?_
                 rotate_left
                 ·
                  intro w';go_simp;with_reducible rfl
                 rotate_left
                 ·
                  simp only[Act.put,sa',sb',sc',i64_w,i32_w];rfl
                 refine pure_ (i:=28) (N:=some 51) (v:=?_) (a':=?_) #[true,true,true,true,true,true,true,true,true,true,true,true,true,true,true,true,true,true,true,true,true,true,true,true,true,true,true,true,true,false] rfl rfl (any_of HT_.out (by kernel_rfl)) (fun _ _ _ h=>h) (Or.inl ⟨by rfl,?_⟩) ?_ ?_
                 rotate_left
                 ·
                  intro w';go_simp;with_reducible rfl
                 rotate_left
                 ·
                  simp only[Act.put,sa',sb',sc',i64_w,i32_w];rfl
                 refine pure_ (i:=29) (N:=some 52) (v:=?_) (a':=?_) #[true,true,true,true,true,true,true,true,true,true,true,true,true,true,true,true,true,true,true,true,true,true,true,true,true,true,true,true,true,true] rfl rfl (any_of HT_.out (by kernel_rfl)) (fun _ _ _ h=>h) (Or.inl ⟨by rfl,?_⟩) ?_ ?_
                 rotate_left
                 ·
                  intro w';go_simp;with_reducible rfl
                 rotate_left
                 ·
                  simp only[Act.put,sa',sb',sc',i64_w,i32_w];rfl
                 refine done_ (done_of HT_.out (by kernel_rfl)) ?_
                 try go_wp2
                 go_roundg k2
                 case measure=>have:=HJ1.out;have:=HK2.out;omega
                 case rel=>exact ⟨(wrap64 (x18_2+1)),(by first|rfl|(simp;done)|(simp[*];done)),H',⟨by have:=HJ1.out;have:=HK2.out;omega⟩,⟨by (with_reducible repeat (first|refine kn' ?_ _|refine kd' ?_|refine ka' ?_ _));exact BK177.out⟩,⟨by repeat (first|(with_reducible first|exact HB.out|apply ba'|apply bd'|apply be'|refine bs' ?_ GE177.out)|exact HB.out)⟩⟩
               ·
                rw[if_neg c24] at H;exact absurd H (by simp)
              ·
               rw[if_neg c23] at H;exact absurd H (by simp)
             ·
              rw[if_neg c21] at H;have c21b0:decide (0 < x18_2)=false:=decide_eq_false c21;clear c21;have H':=am' H;clear H;have p180:0≤(x18_2:Int):=of_decide_eq_true (by first|(with_reducible assumption)|assumption);have q180:x18_2 < (l0_1.length:Int):=of_decide_eq_true (by first|(with_reducible assumption)|assumption);obtain ⟨ad180,A180_0,c180_0,e180,hx180_0,hl180_0,hi180_0⟩:=at_L1 HR0_1.out x18_2 p180 q180;cases e180;replace hx180_0:=(HB.out.cell (bl' w _ hx180_0)).trans hx180_0;have HR180_0:=am' hi180_0;have HC180_0:=am' hl180_0;clear hi180_0 hl180_0;replace p180:=eq_true p180;replace q180:=eq_true q180
              try go_wp2
              have n0_:=am' (kd' BK177.out);have n1_:=am' (be' HB.out);clear BK177;clear HB;have BK177:=n0_;have HB:=n1_;clear n0_ n1_;have p182:0≤(0:Int):=(by omega)
              have q182:0 < ((rd_L1 l0_1 x18_2).length:Int):=of_decide_eq_true (by first|(with_reducible assumption)|assumption);obtain ⟨ad182,e182,hx182_0⟩:=Kd.at_int HR180_0.out 0 p182 q182;have hw182_0:=hx182_0;(try rw [show ((0:Int)).toNat=0 from rfl] at hw182_0)
              (try rw [show 0 * 1=0 from rfl] at hw182_0)
              (try rw [Addr.add_zero'] at hw182_0)
              cases e182
              have qi182:(0 < (rd_L1 l0_1 x18_2).length)=True:=eq_true (by omega)
              (try rw [show ((0:Int)).toNat=0 from rfl] at hx182_0)
              (try rw [Addr.add_zero'] at hx182_0)
              replace hx182_0:=(HB.out.cell (bl' w _ hx182_0)).trans hx182_0;replace p182:=eq_true p182;replace q182:=eq_true q182;have p183:0≤(1:Int):=(by omega)
              have q183:1 < ((rd_L1 l0_1 x18_2).length:Int):=of_decide_eq_true (by first|(with_reducible assumption)|assumption);obtain ⟨ad183,e183,hx183_0⟩:=Kd.at_int HR180_0.out 1 p183 q183;have hw183_0:=hx183_0;(try rw [show ((1:Int)).toNat=1 from rfl] at hw183_0)
              (try rw [show 1 * 1=1 from rfl] at hw183_0)
              (try simp only[Nat.reduceMul,Nat.reduceEqDiff,Go.Addr.add,↓reduceIte] at hw183_0)
              obtain rfl:ad182=ad183:=(by injection e183)
              (try simp only[show (1:Int).toNat=1 from rfl,Nat.reduceMul,Nat.reduceEqDiff,Go.Addr.add,↓reduceIte] at hx183_0)
              have qi183:(1 < (rd_L1 l0_1 x18_2).length)=True:=eq_true (by omega)
              (try rw [show ((1:Int)).toNat=1 from rfl] at hx183_0)
              replace hx183_0:=(HB.out.cell (bl' w _ hx183_0)).trans hx183_0;replace p183:=eq_true p183;replace q183:=eq_true q183;refine start_ (n:=30) (S:=fun w'=>w'.cell? ⟨gb177,0,none⟩=some (.int .i64 a0_0)∧w'.cell? ⟨gb177,1,none⟩=some (.slice (some ad180) l0_1.length c0_1)∧w'.cell? ⟨gb177,2,none⟩=some (.int .i64 a0_2)∧w'.cell? ad182=some (.int .i64 (rd (rd_L1 l0_1 x18_2) 0))∧w'.cell? ⟨ad182.block,ad182.off+1,none⟩=some (.int .i64 (rd (rd_L1 l0_1 x18_2) 1))) (ds:=[]) #[false,false,false,false,false,false,false,false,false,false,false,false,false,false,false,false,false,false,false,false,false,false,false,false,false,false,false,false,false,false] (by kernel_rfl) rfl rfl ⟨(blk_cell BK177.out 0).trans rfl,(blk_cell BK177.out 1).trans rfl,(blk_cell BK177.out 2).trans rfl,((HB.out.cell (bl' w _ hw182_0)).trans hw182_0),((HB.out.cell (bl' w _ hw183_0)).trans hw183_0)⟩ (fun hHeld=>?_);refine with_tabW impl_IsKeep.tab6 impl_IsKeep.bits6 (fun HT_ HW_=>?_);generalize wr.drew=w31 at BK177 HB hx182_0 hx183_0 hHeld ⊢
              refine pure_ (i:=0) (N:=some 23) (v:=?_) (a':=?_) #[true,false,false,false,false,false,false,false,false,false,false,false,false,false,false,false,false,false,false,false,false,false,false,false,false,false,false,false,false,false] rfl rfl (any_of HT_.out (by kernel_rfl)) (fun _ _ _ h=>h) (Or.inl ⟨by rfl,?_⟩) ?_ ?_
              rotate_left
              ·
               intro w';go_simp;with_reducible rfl
              rotate_left
              ·
               simp only[Act.put,sa',sb',sc',i64_w,i32_w];rfl
              refine pure_ (i:=1) (N:=some 24) (v:=?_) (a':=?_) #[true,true,false,false,false,false,false,false,false,false,false,false,false,false,false,false,false,false,false,false,false,false,false,false,false,false,false,false,false,false] rfl rfl (any_of HT_.out (by kernel_rfl)) (fun _ _ _ h=>h) (Or.inl ⟨by rfl,?_⟩) ?_ ?_
              rotate_left
              ·
               intro w';go_simp;with_reducible rfl
              rotate_left
              ·
               simp only[Act.put,sa',sb',sc',i64_w,i32_w];rfl
              refine take_ (i:=2) (N:=some 25) (v:=?_) (a':=?_) #[true,true,true,false,false,false,false,false,false,false,false,false,false,false,false,false,false,false,false,false,false,false,false,false,false,false,false,false,false,false] rfl rfl (take_ofW HT_.out HW_.out (by kernel_rfl)) (fun _ _ _ h=>h) (Or.inl ⟨by rfl,?_⟩) hHeld ?_ ?_
              rotate_left
              ·
               rintro w' ⟨s0,s1,s2,s3,s4⟩
               go_simp;with_reducible rfl
              rotate_left
              ·
               simp only[Act.put,sa',sb',sc',i64_w,i32_w];rfl
              refine pure_ (i:=3) (N:=some 26) (v:=?_) (a':=?_) #[true,true,true,true,false,false,false,false,false,false,false,false,false,false,false,false,false,false,false,false,false,false,false,false,false,false,false,false,false,false] rfl rfl (any_of HT_.out (by kernel_rfl)) (fun _ _ _ h=>h) (Or.inl ⟨by rfl,?_⟩) ?_ ?_
              rotate_left
              ·
               intro w';go_simp;with_reducible rfl
              rotate_left
              ·
               simp only[Act.put,sa',sb',sc',i64_w,i32_w];rfl
              refine one_ (i:=4) (N:=some 27) #[true,true,true,true,true,false,false,false,false,false,false,false,false,false,false,false,false,false,false,false,false,false,false,false,false,false,false,false,false,false] rfl rfl (one_of HT_.out (by kernel_rfl)) (by decide) (fun K hK=>?_);refine goes_ Try.func59 (by kernel_rfl) rfl #[.slice (some ad182) (rd_L1 l0_1 x18_2).length c180_0, .int .i64 0, .int .i64 (wrap64 (a0_0 - 1)), .int .i64 2, .int .i64 2] (by rfl) rfl rfl (by (try simp only[List.map_toArray,List.map_cons,List.map_nil]);first|done|rfl|(simp only[List.length_drop,List.length_take];rfl)) ?_
              with_reducible refine (impl_areIn.calls _ _ (rd_L1 l0_1 x18_2) 0 (wrap64 (a0_0 - 1)) 2 2 true _ ?side1 ?side2 A14.out).mono ?_
              (case side1=>repeat (first|exact (Kd.C_below HR180_0.out HB.out)|(with_reducible refine ca' ?_ _)|(with_reducible refine cn' ?_ _)|(with_reducible refine cd' ?_)))
              (case side2=>exact HC180_0.out)
              rintro e w32 ⟨rfl,hb⟩
              refine ⟨_,rfl,?_⟩;have n0_:=am' (blk_below (g:=gb177) (o := .cells #[.int .i64 a0_0, .slice (some ad180) l0_1.length c0_1, .int .i64 a0_2] 29 (0,0)) (by (with_reducible repeat (first|refine kn' ?_ _|refine kd' ?_|refine ka' ?_ _));exact BK177.out) hb);have n1_:=am' (below_step (by repeat (first|(with_reducible first|exact HB.out|apply ba'|apply bd'|apply be'|refine bs' ?_ GE177.out)|exact HB.out)) hb);clear BK177;clear HB;have BK177:=n0_;have HB:=n1_;clear n0_ n1_;(try clear hb)
              (try clear hb2)
              (try clear hk)
              (try clear hi)
              refine hK.out _ _ ⟨(blk_cell BK177.out 0).trans rfl,(blk_cell BK177.out 1).trans rfl,(blk_cell BK177.out 2).trans rfl,((HB.out.cell (bl' w _ hw182_0)).trans hw182_0),((HB.out.cell (bl' w _ hw183_0)).trans hw183_0)⟩ (fun hHeld=>?_);clear hK K;refine norm_ (a':=?_) ?_ ?_
              rotate_left
              ·
               show Act.put _ (some 27) _=_
               simp only[Act.put,sa',sb',sc',i64_w,i32_w];rfl
              refine pure_ (i:=5) (N:=some 28) (v:=?_) (a':=?_) #[true,true,true,true,true,true,false,false,false,false,false,false,false,false,false,false,false,false,false,false,false,false,false,false,false,false,false,false,false,false] rfl rfl (any_of HT_.out (by kernel_rfl)) (fun _ _ _ h=>h) (Or.inl ⟨by rfl,?_⟩) ?_ ?_
              rotate_left
              ·
               intro w';go_simp;with_reducible rfl
              rotate_left
              ·
               simp only[Act.put,sa',sb',sc',i64_w,i32_w];rfl
              refine pure_ (i:=6) (N:=some 29) (v:=?_) (a':=?_) #[true,true,true,true,true,true,true,false,false,false,false,false,false,false,false,false,false,false,false,false,false,false,false,false,false,false,false,false,false,false] rfl rfl (any_of HT_.out (by kernel_rfl)) (fun _ _ _ h=>h) (Or.inl ⟨by rfl,?_⟩) ?_ ?_
              rotate_left
              ·
               intro w';go_simp;with_reducible rfl
              rotate_left
              ·
               simp only[Act.put,sa',sb',sc',i64_w,i32_w];rfl
              refine pure_ (i:=7) (N:=some 30) (v:=?_) (a':=?_) #[true,true,true,true,true,true,true,true,false,false,false,false,false,false,false,false,false,false,false,false,false,false,false,false,false,false,false,false,false,false] rfl rfl (any_of HT_.out (by kernel_rfl)) (fun _ _ _ h=>h) (Or.inl ⟨by rfl,?_⟩) ?_ ?_
              rotate_left
              ·
               intro w';go_simp;with_reducible rfl
              rotate_left
              ·
               simp only[Act.put,sa',sb',sc',i64_w,i32_w];rfl
              refine pure_ (i:=8) (N:=some 31) (v:=?_) (a':=?_) #[true,true,true,true,true,true,true,true,true,false,false,false,false,false,false,false,false,false,false,false,false,false,false,false,false,false,false,false,false,false] rfl rfl (any_of HT_.out (by kernel_rfl)) (fun _ _ _ h=>h) (Or.inl ⟨by rfl,?_⟩) ?_ ?_
              rotate_left
              ·
               intro w';go_simp;with_reducible rfl
              rotate_left
              ·
               simp only[Act.put,sa',sb',sc',i64_w,i32_w];rfl
              refine pure_ (i:=10) (N:=some 33) (v:=?_) (a':=?_) #[true,true,true,true,true,true,true,true,true,false,true,false,false,false,false,false,false,false,false,false,false,false,false,false,false,false,false,false,false,false] rfl rfl (any_of HT_.out (by kernel_rfl)) (fun _ _ _ h=>h) (Or.inl ⟨by rfl,?_⟩) ?_ ?_
              rotate_left
              ·
               intro w';go_simp;with_reducible rfl
              rotate_left
              ·
               simp only[Act.put,sa',sb',sc',i64_w,i32_w];rfl
              refine pure_ (i:=11) (N:=some 34) (v:=?_) (a':=?_) #[true,true,true,true,true,true,true,true,true,false,true,true,false,false,false,false,false,false,false,false,false,false,false,false,false,false,false,false,false,false] rfl rfl (any_of HT_.out (by kernel_rfl)) (fun _ _ _ h=>h) (Or.inl ⟨by rfl,?_⟩) ?_ ?_
              rotate_left
              ·
               intro w';go_simp;with_reducible rfl
              rotate_left
              ·
               simp only[Act.put,sa',sb',sc',i64_w,i32_w];rfl
              refine take_ (i:=9) (N:=some 32) (v:=?_) (a':=?_) #[true,true,true,true,true,true,true,true,true,true,true,true,false,false,false,false,false,false,false,false,false,false,false,false,false,false,false,false,false,false] rfl rfl (take_ofW HT_.out HW_.out (by kernel_rfl)) (fun _ _ _ h=>h) (Or.inl ⟨by rfl,?_⟩) hHeld ?_ ?_
              rotate_left
              ·
               rintro w' ⟨s0,s1,s2,s3,s4⟩
               go_simp;with_reducible rfl
              rotate_left
              ·
               simp only[Act.put,sa',sb',sc',i64_w,i32_w];rfl
              refine take_ (i:=12) (N:=some 35) (v:=?_) (a':=?_) #[true,true,true,true,true,true,true,true,true,true,true,true,true,false,false,false,false,false,false,false,false,false,false,false,false,false,false,false,false,false] rfl rfl (take_ofW HT_.out HW_.out (by kernel_rfl)) (fun _ _ _ h=>h) (Or.inl ⟨by rfl,?_⟩) hHeld ?_ ?_
              rotate_left
              ·
               rintro w' ⟨s0,s1,s2,s3,s4⟩
               go_simp;with_reducible rfl
              rotate_left
              ·
               simp only[Act.put,sa',sb',sc',i64_w,i32_w];rfl
              refine pure_ (i:=13) (N:=some 36) (v:=?_) (a':=?_) #[true,true,true,true,true,true,true,true,true,true,true,true,true,true,false,false,false,false,false,false,false,false,false,false,false,false,false,false,false,false] rfl rfl (any_of HT_.out (by kernel_rfl)) (fun _ _ _ h=>h) (Or.inl ⟨by rfl,?_⟩) ?_ ?_
              rotate_left
              ·
               intro w';go_simp;with_reducible rfl
              rotate_left
              ·
               simp only[Act.put,sa',sb',sc',i64_w,i32_w];rfl
              refine pure_ (i:=14) (N:=some 37) (v:=?_) (a':=?_) #[true,true,true,true,true,true,true,true,true,true,true,true,true,true,true,false,false,false,false,false,false,false,false,false,false,false,false,false,false,false] rfl rfl (any_of HT_.out (by kernel_rfl)) (fun _ _ _ h=>h) (Or.inl ⟨by rfl,?_⟩) ?_ ?_
              rotate_left
              ·
               intro w';go_simp;with_reducible rfl
              rotate_left
              ·
               simp only[Act.put,sa',sb',sc',i64_w,i32_w];rfl
              refine pure_ (i:=15) (N:=some 38) (v:=?_) (a':=?_) #[true,true,true,true,true,true,true,true,true,true,true,true,true,true,true,true,false,false,false,false,false,false,false,false,false,false,false,false,false,false] rfl rfl (any_of HT_.out (by kernel_rfl)) (fun _ _ _ h=>h) (Or.inl ⟨by rfl,?_⟩) ?_ ?_
              rotate_left
              ·
               intro w';go_simp;with_reducible rfl
              rotate_left
              ·
               simp only[Act.put,sa',sb',sc',i64_w,i32_w];rfl
              refine pure_ (i:=16) (N:=some 39) (v:=?_) (a':=?_) #[true,true,true,true,true,true,true,true,true,true,true,true,true,true,true,true,true,false,false,false,false,false,false,false,false,false,false,false,false,false] rfl rfl (any_of HT_.out (by kernel_rfl)) (fun _ _ _ h=>h) (Or.inl ⟨by rfl,?_⟩) ?_ ?_
              rotate_left
              ·
               intro w';go_simp;with_reducible rfl
              rotate_left
              ·
               simp only[Act.put,sa',sb',sc',i64_w,i32_w];rfl
              refine pure_ (i:=17) (N:=some 40) (v:=?_) (a':=?_) #[true,true,true,true,true,true,true,true,true,true,true,true,true,true,true,true,true,true,false,false,false,false,false,false,false,false,false,false,false,false] rfl rfl (any_of HT_.out (by kernel_rfl)) (fun _ _ _ h=>h) (Or.inl ⟨by rfl,?_⟩) ?_ ?_
              rotate_left
              ·
               intro w';go_simp;with_reducible rfl
              rotate_left
              ·
               simp only[Act.put,sa',sb',sc',i64_w,i32_w];rfl
              refine pure_ (i:=18) (N:=some 41) (v:=?_) (a':=?_) #[true,true,true,true,true,true,true,true,true,true,true,true,true,true,true,true,true,true,true,false,false,false,false,false,false,false,false,false,false,false] rfl rfl (any_of HT_.out (by kernel_rfl)) (fun _ _ _ h=>h) (Or.inl ⟨by rfl,?_⟩) ?_ ?_
              rotate_left
              ·
               intro w';go_simp;with_reducible rfl
              rotate_left
              ·
               simp only[Act.put,sa',sb',sc',i64_w,i32_w];rfl
              refine pure_ (i:=19) (N:=some 42) (v:=undef) (a':=?_) #[true,true,true,true,true,true,true,true,true,true,true,true,true,true,true,true,true,true,true,true,false,false,false,false,false,false,false,false,false,false] rfl rfl (any_of HT_.out (by kernel_rfl)) (fun _ _ _ h=>h) (Or.inr ⟨by rfl,rfl⟩) ?_ ?_
              rotate_left
              ·
               simp only[Act.put,sa',sb',sc',i64_w,i32_w];rfl
              refine pure_ (i:=20) (N:=some 43) (v:=undef) (a':=?_) #[true,true,true,true,true,true,true,true,true,true,true,true,true,true,true,true,true,true,true,true,true,false,false,false,false,false,false,false,false,false] rfl rfl (any_of HT_.out (by kernel_rfl)) (fun _ _ _ h=>h) (Or.inr ⟨by rfl,rfl⟩) ?_ ?_
              rotate_left
              ·
               simp only[Act.put,sa',sb',sc',i64_w,i32_w];rfl
              refine pure_ (i:=21) (N:=some 44) (v:=undef) (a':=?_) #[true,true,true,true,true,true,true,true,true,true,true,true,true,true,true,true,true,true,true,true,true,true,false,false,false,false,false,false,false,false] rfl rfl (any_of HT_.out (by kernel_rfl)) (fun _ _ _ h=>h) (Or.inr ⟨by rfl,rfl⟩) ?_ ?_
              rotate_left
              ·
               simp only[Act.put,sa',sb',sc',i64_w,i32_w];rfl
              refine pure_ (i:=22) (N:=some 45) (v:=undef) (a':=?_) #[true,true,true,true,true,true,true,true,true,true,true,true,true,true,true,true,true,true,true,true,true,true,true,false,false,false,false,false,false,false] rfl rfl (any_of HT_.out (by kernel_rfl)) (fun _ _ _ h=>h) (Or.inr ⟨by rfl,rfl⟩) ?_ ?_
              rotate_left
              ·
               simp only[Act.put,sa',sb',sc',i64_w,i32_w];rfl
              refine pure_ (i:=23) (N:=some 46) (v:=undef) (a':=?_) #[true,true,true,true,true,true,true,true,true,true,true,true,true,true,true,true,true,true,true,true,true,true,true,true,false,false,false,false,false,false] rfl rfl (any_of HT_.out (by kernel_rfl)) (fun _ _ _ h=>h) (Or.inr ⟨by rfl,rfl⟩) ?_ ?_
              rotate_left
              ·
               simp only[Act.put,sa',sb',sc',i64_w,i32_w];rfl
              refine pure_ (i:=24) (N:=some 47) (v:=undef) (a':=?_) #[true,true,true,true,true,true,true,true,true,true,true,true,true,true,true,true,true,true,true,true,true,true,true,true,true,false,false,false,false,false] rfl rfl (any_of HT_.out (by kernel_rfl)) (fun _ _ _ h=>h) (Or.inr ⟨by rfl,rfl⟩) ?_ ?_
              rotate_left
              ·
               simp only[Act.put,sa',sb',sc',i64_w,i32_w];rfl
              refine pure_ (i:=25) (N:=some 48) (v:=undef) (a':=?_) #[true,true,true,true,true,true,true,true,true,true,true,true,true,true,true,true,true,true,true,true,true,true,true,true,true,true,false,false,false,false] rfl rfl (any_of HT_.out (by kernel_rfl)) (fun _ _ _ h=>h) (Or.inr ⟨by rfl,rfl⟩) ?_ ?_
              rotate_left
              ·
               simp only[Act.put,sa',sb',sc',i64_w,i32_w];rfl
              refine pure_ (i:=26) (N:=some 49) (v:=undef) (a':=?_) #[true,true,true,true,true,true,true,true,true,true,true,true,true,true,true,true,true,true,true,true,true,true,true,true,true,true,true,false,false,false] rfl rfl (any_of HT_.out (by kernel_rfl)) (fun _ _ _ h=>h) (Or.inr ⟨by rfl,rfl⟩) ?_ ?_
              rotate_left
              ·
               simp only[Act.put,sa',sb',sc',i64_w,i32_w];rfl
              refine pure_ (i:=27) (N:=some 50) (v:=undef) (a':=?_) #[true,true,true,true,true,true,true,true,true,true,true,true,true,true,true,true,true,true,true,true,true,true,true,true,true,true,true,true,false,false] rfl rfl (any_of HT_.out (by kernel_rfl)) (fun _ _ _ h=>h) (Or.inr ⟨by rfl,rfl⟩) ?_ ?_
              rotate_left
              ·
               simp only[Act.put,sa',sb',sc',i64_w,i32_w];rfl
              refine pure_ (i:=28) (N:=some 51) (v:=?_) (a':=?_) #[true,true,true,true,true,true,true,true,true,true,true,true,true,true,true,true,true,true,true,true,true,true,true,true,true,true,true,true,true,false] rfl rfl (any_of HT_.out (by kernel_rfl)) (fun _ _ _ h=>h) (Or.inl ⟨by rfl,?_⟩) ?_ ?_
              rotate_left
              ·
               intro w';go_simp;with_reducible rfl
              rotate_left
              ·
               simp only[Act.put,sa',sb',sc',i64_w,i32_w];rfl
              refine pure_ (i:=29) (N:=some 52) (v:=?_) (a':=?_) #[true,true,true,true,true,true,true,true,true,true,true,true,true,true,true,true,true,true,true,true,true,true,true,true,true,true,true,true,true,true] rfl rfl (any_of HT_.out (by kernel_rfl)) (fun _ _ _ h=>h) (Or.inl ⟨by rfl,?_⟩) ?_ ?_
              rotate_left
              ·
               intro w';go_simp;with_reducible rfl
              rotate_left
              ·
               simp only[Act.put,sa',sb',sc',i64_w,i32_w];rfl
              refine done_ (done_of HT_.out (by kernel_rfl)) ?_
              try go_wp2
              go_roundg k2
              case measure=>have:=HJ1.out;have:=HK2.out;omega
              case rel=>exact ⟨(wrap64 (x18_2+1)),(by first|rfl|(simp;done)|(simp[*];done)),H',⟨by have:=HJ1.out;have:=HK2.out;omega⟩,⟨by (with_reducible repeat (first|refine kn' ?_ _|refine kd' ?_|refine ka' ?_ _));exact BK177.out⟩,⟨by repeat (first|(with_reducible first|exact HB.out|apply ba'|apply bd'|apply be'|refine bs' ?_ GE177.out)|exact HB.out)⟩⟩
           ·
            rw[if_neg c17] at H;exact absurd H (by simp)
          ·
           rw[if_neg c16] at H;exact absurd H (by simp)
         ·
          replace c15:=Bool.eq_false_iff.mpr c15;subst c15;have H1:(some false)=some r:=by rw[if_neg (show ¬ (false=true) by decide)] at H;exact H
          clear H;have H:=H1;clear H1;obtain rfl:=Option.some.inj H;have p180:0≤(x18_2:Int):=of_decide_eq_true (by first|(with_reducible assumption)|assumption);have q180:x18_2 < (l0_1.length:Int):=of_decide_eq_true (by first|(with_reducible assumption)|assumption);obtain ⟨ad180,A180_0,c180_0,e180,hx180_0,hl180_0,hi180_0⟩:=at_L1 HR0_1.out x18_2 p180 q180;cases e180;replace hx180_0:=(HB.out.cell (bl' w _ hx180_0)).trans hx180_0;have HR180_0:=am' hi180_0;have HC180_0:=am' hl180_0;clear hi180_0 hl180_0;replace p180:=eq_true p180;replace q180:=eq_true q180
          try go_wp2
          have n0_:=am' (kd' BK177.out);have n1_:=am' (be' HB.out);clear BK177;clear HB;have BK177:=n0_;have HB:=n1_;clear n0_ n1_;refine start_ (n:=30) (S:=fun w'=>w'.cell? ⟨gb177,0,none⟩=some (.int .i64 a0_0)∧w'.cell? ⟨gb177,1,none⟩=some (.slice (some ad180) l0_1.length c0_1)∧w'.cell? ⟨gb177,2,none⟩=some (.int .i64 a0_2)) (ds:=[]) #[false,false,false,false,false,false,false,false,false,false,false,false,false,false,false,false,false,false,false,false,false,false,false,false,false,false,false,false,false,false] (by kernel_rfl) rfl rfl ⟨(blk_cell BK177.out 0).trans rfl,(blk_cell BK177.out 1).trans rfl,(blk_cell BK177.out 2).trans rfl⟩ (fun hHeld=>?_);refine with_tabW impl_IsKeep.tab6 impl_IsKeep.bits6 (fun HT_ HW_=>?_);generalize wr.drew=w33 at BK177 HB hHeld ⊢
          refine pure_ (i:=0) (N:=some 23) (v:=?_) (a':=?_) #[true,false,false,false,false,false,false,false,false,false,false,false,false,false,false,false,false,false,false,false,false,false,false,false,false,false,false,false,false,false] rfl rfl (any_of HT_.out (by kernel_rfl)) (fun _ _ _ h=>h) (Or.inl ⟨by rfl,?_⟩) ?_ ?_
          rotate_left
          ·
           intro w';go_simp;with_reducible rfl
          rotate_left
          ·
           simp only[Act.put,sa',sb',sc',i64_w,i32_w];rfl
          refine pure_ (i:=1) (N:=some 24) (v:=?_) (a':=?_) #[true,true,false,false,false,false,false,false,false,false,false,false,false,false,false,false,false,false,false,false,false,false,false,false,false,false,false,false,false,false] rfl rfl (any_of HT_.out (by kernel_rfl)) (fun _ _ _ h=>h) (Or.inl ⟨by rfl,?_⟩) ?_ ?_
          rotate_left
          ·
           intro w';go_simp;with_reducible rfl
          rotate_left
          ·
           simp only[Act.put,sa',sb',sc',i64_w,i32_w];rfl
          refine take_ (i:=2) (N:=some 25) (v:=?_) (a':=?_) #[true,true,true,false,false,false,false,false,false,false,false,false,false,false,false,false,false,false,false,false,false,false,false,false,false,false,false,false,false,false] rfl rfl (take_ofW HT_.out HW_.out (by kernel_rfl)) (fun _ _ _ h=>h) (Or.inl ⟨by rfl,?_⟩) hHeld ?_ ?_
          rotate_left
          ·
           rintro w' ⟨s0,s1,s2⟩
           go_simp;with_reducible rfl
          rotate_left
          ·
           simp only[Act.put,sa',sb',sc',i64_w,i32_w];rfl
          refine pure_ (i:=3) (N:=some 26) (v:=?_) (a':=?_) #[true,true,true,true,false,false,false,false,false,false,false,false,false,false,false,false,false,false,false,false,false,false,false,false,false,false,false,false,false,false] rfl rfl (any_of HT_.out (by kernel_rfl)) (fun _ _ _ h=>h) (Or.inl ⟨by rfl,?_⟩) ?_ ?_
          rotate_left
          ·
           intro w';go_simp;with_reducible rfl
          rotate_left
          ·
           simp only[Act.put,sa',sb',sc',i64_w,i32_w];rfl
          refine one_ (i:=4) (N:=some 27) #[true,true,true,true,true,false,false,false,false,false,false,false,false,false,false,false,false,false,false,false,false,false,false,false,false,false,false,false,false,false] rfl rfl (one_of HT_.out (by kernel_rfl)) (by decide) (fun K hK=>?_);refine goes_ Try.func59 (by kernel_rfl) rfl #[.slice A180_0 (rd_L1 l0_1 x18_2).length c180_0, .int .i64 0, .int .i64 (wrap64 (a0_0 - 1)), .int .i64 2, .int .i64 2] (by rfl) rfl rfl (by (try simp only[List.map_toArray,List.map_cons,List.map_nil]);first|done|rfl|(simp only[List.length_drop,List.length_take];rfl)) ?_
          with_reducible refine (impl_areIn.calls _ _ (rd_L1 l0_1 x18_2) 0 (wrap64 (a0_0 - 1)) 2 2 false _ ?side1 ?side2 A14.out).mono ?_
          (case side1=>repeat (first|exact (Kd.C_below HR180_0.out HB.out)|(with_reducible refine ca' ?_ _)|(with_reducible refine cn' ?_ _)|(with_reducible refine cd' ?_)))
          (case side2=>exact HC180_0.out)
          rintro e w34 ⟨rfl,hb⟩
          refine ⟨_,rfl,?_⟩;have n0_:=am' (blk_below (g:=gb177) (o := .cells #[.int .i64 a0_0, .slice (some ad180) l0_1.length c0_1, .int .i64 a0_2] 29 (0,0)) (by (with_reducible repeat (first|refine kn' ?_ _|refine kd' ?_|refine ka' ?_ _));exact BK177.out) hb);have n1_:=am' (below_step (by repeat (first|(with_reducible first|exact HB.out|apply ba'|apply bd'|apply be'|refine bs' ?_ GE177.out)|exact HB.out)) hb);clear BK177;clear HB;have BK177:=n0_;have HB:=n1_;clear n0_ n1_;(try clear hb)
          (try clear hb2)
          (try clear hk)
          (try clear hi)
          refine hK.out _ _ ⟨(blk_cell BK177.out 0).trans rfl,(blk_cell BK177.out 1).trans rfl,(blk_cell BK177.out 2).trans rfl⟩ (fun hHeld=>?_);clear hK K;refine norm_ (a':=?_) ?_ ?_
          rotate_left
          ·
           show Act.put _ (some 27) _=_
           simp only[Act.put,sa',sb',sc',i64_w,i32_w];rfl
          refine pure_ (i:=5) (N:=some 28) (v:=?_) (a':=?_) #[true,true,true,true,true,true,false,false,false,false,false,false,false,false,false,false,false,false,false,false,false,false,false,false,false,false,false,false,false,false] rfl rfl (any_of HT_.out (by kernel_rfl)) (fun _ _ _ h=>h) (Or.inl ⟨by rfl,?_⟩) ?_ ?_
          rotate_left
          ·
           intro w';go_simp;with_reducible rfl
          rotate_left
          ·
           simp only[Act.put,sa',sb',sc',i64_w,i32_w];rfl
          refine pure_ (i:=6) (N:=some 29) (v:=?_) (a':=?_) #[true,true,true,true,true,true,true,false,false,false,false,false,false,false,false,false,false,false,false,false,false,false,false,false,false,false,false,false,false,false] rfl rfl (any_of HT_.out (by kernel_rfl)) (fun _ _ _ h=>h) (Or.inl ⟨by rfl,?_⟩) ?_ ?_
          rotate_left
          ·
           intro w';go_simp;with_reducible rfl
          rotate_left
          ·
           simp only[Act.put,sa',sb',sc',i64_w,i32_w];rfl
          refine pure_ (i:=7) (N:=some 30) (v:=undef) (a':=?_) #[true,true,true,true,true,true,true,true,false,false,false,false,false,false,false,false,false,false,false,false,false,false,false,false,false,false,false,false,false,false] rfl rfl (any_of HT_.out (by kernel_rfl)) (fun _ _ _ h=>h) (Or.inr ⟨by rfl,rfl⟩) ?_ ?_
          rotate_left
          ·
           simp only[Act.put,sa',sb',sc',i64_w,i32_w];rfl
          refine pure_ (i:=8) (N:=some 31) (v:=undef) (a':=?_) #[true,true,true,true,true,true,true,true,true,false,false,false,false,false,false,false,false,false,false,false,false,false,false,false,false,false,false,false,false,false] rfl rfl (any_of HT_.out (by kernel_rfl)) (fun _ _ _ h=>h) (Or.inr ⟨by rfl,rfl⟩) ?_ ?_
          rotate_left
          ·
           simp only[Act.put,sa',sb',sc',i64_w,i32_w];rfl
          refine pure_ (i:=9) (N:=some 32) (v:=undef) (a':=?_) #[true,true,true,true,true,true,true,true,true,true,false,false,false,false,false,false,false,false,false,false,false,false,false,false,false,false,false,false,false,false] rfl rfl (any_of HT_.out (by kernel_rfl)) (fun _ _ _ h=>h) (Or.inr ⟨by rfl,rfl⟩) ?_ ?_
          rotate_left
          ·
           simp only[Act.put,sa',sb',sc',i64_w,i32_w];rfl
          refine pure_ (i:=10) (N:=some 33) (v:=undef) (a':=?_) #[true,true,true,true,true,true,true,true,true,true,true,false,false,false,false,false,false,false,false,false,false,false,false,false,false,false,false,false,false,false] rfl rfl (any_of HT_.out (by kernel_rfl)) (fun _ _ _ h=>h) (Or.inr ⟨by rfl,rfl⟩) ?_ ?_
          rotate_left
          ·
           simp only[Act.put,sa',sb',sc',i64_w,i32_w];rfl
          refine pure_ (i:=11) (N:=some 34) (v:=undef) (a':=?_) #[true,true,true,true,true,true,true,true,true,true,true,true,false,false,false,false,false,false,false,false,false,false,false,false,false,false,false,false,false,false] rfl rfl (any_of HT_.out (by kernel_rfl)) (fun _ _ _ h=>h) (Or.inr ⟨by rfl,rfl⟩) ?_ ?_
          rotate_left
          ·
           simp only[Act.put,sa',sb',sc',i64_w,i32_w];rfl
          refine pure_ (i:=12) (N:=some 35) (v:=undef) (a':=?_) #[true,true,true,true,true,true,true,true,true,true,true,true,true,false,false,false,false,false,false,false,false,false,false,false,false,false,false,false,false,false] rfl rfl (any_of HT_.out (by kernel_rfl)) (fun _ _ _ h=>h) (Or.inr ⟨by rfl,rfl⟩) ?_ ?_
          rotate_left
          ·
           simp only[Act.put,sa',sb',sc',i64_w,i32_w];rfl
          refine pure_ (i:=13) (N:=some 36) (v:=undef) (a':=?_) #[true,true,true,true,true,true,true,true,true,true,true,true,true,true,false,false,false,false,false,false,false,false,false,false,false,false,false,false,false,false] rfl rfl (any_of HT_.out (by kernel_rfl)) (fun _ _ _ h=>h) (Or.inr ⟨by rfl,rfl⟩) ?_ ?_
          rotate_left
          ·
           simp only[Act.put,sa',sb',sc',i64_w,i32_w];rfl
          refine pure_ (i:=14) (N:=some 37) (v:=?_) (a':=?_) #[true,true,true,true,true,true,true,true,true,true,true,true,true,true,true,false,false,false,false,false,false,false,false,false,false,false,false,false,false,false] rfl rfl (any_of HT_.out (by kernel_rfl)) (fun _ _ _ h=>h) (Or.inl ⟨by rfl,?_⟩) ?_ ?_
          rotate_left
          ·
           intro w';go_simp;with_reducible rfl
          rotate_left
          ·
           simp only[Act.put,sa',sb',sc',i64_w,i32_w];rfl
          refine pure_ (i:=15) (N:=some 38) (v:=?_) (a':=?_) #[true,true,true,true,true,true,true,true,true,true,true,true,true,true,true,true,false,false,false,false,false,false,false,false,false,false,false,false,false,false] rfl rfl (any_of HT_.out (by kernel_rfl)) (fun _ _ _ h=>h) (Or.inl ⟨by rfl,?_⟩) ?_ ?_
          rotate_left
          ·
           intro w';go_simp;with_reducible rfl
          rotate_left
          ·
           simp only[Act.put,sa',sb',sc',i64_w,i32_w];rfl
          refine pure_ (i:=16) (N:=some 39) (v:=undef) (a':=?_) #[true,true,true,true,true,true,true,true,true,true,true,true,true,true,true,true,true,false,false,false,false,false,false,false,false,false,false,false,false,false] rfl rfl (any_of HT_.out (by kernel_rfl)) (fun _ _ _ h=>h) (Or.inr ⟨by rfl,rfl⟩) ?_ ?_
          rotate_left
          ·
           simp only[Act.put,sa',sb',sc',i64_w,i32_w];rfl
          refine pure_ (i:=17) (N:=some 40) (v:=undef) (a':=?_) #[true,true,true,true,true,true,true,true,true,true,true,true,true,true,true,true,true,true,false,false,false,false,false,false,false,false,false,false,false,false] rfl rfl (any_of HT_.out (by kernel_rfl)) (fun _ _ _ h=>h) (Or.inr ⟨by rfl,rfl⟩) ?_ ?_
          rotate_left
          ·
           simp only[Act.put,sa',sb',sc',i64_w,i32_w];rfl
          refine pure_ (i:=18) (N:=some 41) (v:=undef) (a':=?_) #[true,true,true,true,true,true,true,true,true,true,true,true,true,true,true,true,true,true,true,false,false,false,false,false,false,false,false,false,false,false] rfl rfl (any_of HT_.out (by kernel_rfl)) (fun _ _ _ h=>h) (Or.inr ⟨by rfl,rfl⟩) ?_ ?_
          rotate_left
          ·
           simp only[Act.put,sa',sb',sc',i64_w,i32_w];rfl
          refine pure_ (i:=19) (N:=some 42) (v:=undef) (a':=?_) #[true,true,true,true,true,true,true,true,true,true,true,true,true,true,true,true,true,true,true,true,false,false,false,false,false,false,false,false,false,false] rfl rfl (any_of HT_.out (by kernel_rfl)) (fun _ _ _ h=>h) (Or.inr ⟨by rfl,rfl⟩) ?_ ?_
          rotate_left
          ·
           simp only[Act.put,sa',sb',sc',i64_w,i32_w];rfl
          refine pure_ (i:=20) (N:=some 43) (v:=undef) (a':=?_) #[true,true,true,true,true,true,true,true,true,true,true,true,true,true,true,true,true,true,true,true,true,false,false,false,false,false,false,false,false,false] rfl rfl (any_of HT_.out (by kernel_rfl)) (fun _ _ _ h=>h) (Or.inr ⟨by rfl,rfl⟩) ?_ ?_
          rotate_left
          ·
           simp only[Act.put,sa',sb',sc',i64_w,i32_w];rfl
          refine pure_ (i:=21) (N:=some 44) (v:=undef) (a':=?_) #[true,true,true,true,true,true,true,true,true,true,true,true,true,true,true,true,true,true,true,true,true,true,false,false,false,false,false,false,false,false] rfl rfl (any_of HT_.out (by kernel_rfl)) (fun _ _ _ h=>h) (Or.inr ⟨by rfl,rfl⟩) ?_ ?_
          rotate_left
          ·
           simp only[Act.put,sa',sb',sc',i64_w,i32_w];rfl
          refine pure_ (i:=22) (N:=some 45) (v:=undef) (a':=?_) #[true,true,true,true,true,true,true,true,true,true,true,true,true,true,true,true,true,true,true,true,true,true,true,false,false,false,false,false,false,false] rfl rfl (any_of HT_.out (by kernel_rfl)) (fun _ _ _ h=>h) (Or.inr ⟨by rfl,rfl⟩) ?_ ?_
          rotate_left
          ·
           simp only[Act.put,sa',sb',sc',i64_w,i32_w];rfl
          refine pure_ (i:=23) (N:=some 46) (v:=undef) (a':=?_) #[true,true,true,true,true,true,true,true,true,true,true,true,true,true,true,true,true,true,true,true,true,true,true,true,false,false,false,false,false,false] rfl rfl (any_of HT_.out (by kernel_rfl)) (fun _ _ _ h=>h) (Or.inr ⟨by rfl,rfl⟩) ?_ ?_
          rotate_left
          ·
           simp only[Act.put,sa',sb',sc',i64_w,i32_w];rfl
          refine pure_ (i:=24) (N:=some 47) (v:=undef) (a':=?_) #[true,true,true,true,true,true,true,true,true,true,true,true,true,true,true,true,true,true,true,true,true,true,true,true,true,false,false,false,false,false] rfl rfl (any_of HT_.out (by kernel_rfl)) (fun _ _ _ h=>h) (Or.inr ⟨by rfl,rfl⟩) ?_ ?_
          rotate_left
          ·
           simp only[Act.put,sa',sb',sc',i64_w,i32_w];rfl
          refine pure_ (i:=25) (N:=some 48) (v:=undef) (a':=?_) #[true,true,true,true,true,true,true,true,true,true,true,true,true,true,true,true,true,true,true,true,true,true,true,true,true,true,false,false,false,false] rfl rfl (any_of HT_.out (by kernel_rfl)) (fun _ _ _ h=>h) (Or.inr ⟨by rfl,rfl⟩) ?_ ?_
          rotate_left
          ·
           simp only[Act.put,sa',sb',sc',i64_w,i32_w];rfl
          refine pure_ (i:=26) (N:=some 49) (v:=undef) (a':=?_) #[true,true,true,true,true,true,true,true,true,true,true,true,true,true,true,true,true,true,true,true,true,true,true,true,true,true,true,false,false,false] rfl rfl (any_of HT_.out (by kernel_rfl)) (fun _ _ _ h=>h) (Or.inr ⟨by rfl,rfl⟩) ?_ ?_
          rotate_left
          ·
           simp only[Act.put,sa',sb',sc',i64_w,i32_w];rfl
          refine pure_ (i:=27) (N:=some 50) (v:=undef) (a':=?_) #[true,true,true,true,true,true,true,true,true,true,true,true,true,true,true,true,true,true,true,true,true,true,true,true,true,true,true,true,false,false] rfl rfl (any_of HT_.out (by kernel_rfl)) (fun _ _ _ h=>h) (Or.inr ⟨by rfl,rfl⟩) ?_ ?_
          rotate_left
          ·
           simp only[Act.put,sa',sb',sc',i64_w,i32_w];rfl
          refine pure_ (i:=28) (N:=some 51) (v:=undef) (a':=?_) #[true,true,true,true,true,true,true,true,true,true,true,true,true,true,true,true,true,true,true,true,true,true,true,true,true,true,true,true,true,false] rfl rfl (any_of HT_.out (by kernel_rfl)) (fun _ _ _ h=>h) (Or.inr ⟨by rfl,rfl⟩) ?_ ?_
          rotate_left
          ·
           simp only[Act.put,sa',sb',sc',i64_w,i32_w];rfl
          refine pure_ (i:=29) (N:=some 52) (v:=?_) (a':=?_) #[true,true,true,true,true,true,true,true,true,true,true,true,true,true,true,true,true,true,true,true,true,true,true,true,true,true,true,true,true,true] rfl rfl (any_of HT_.out (by kernel_rfl)) (fun _ _ _ h=>h) (Or.inl ⟨by rfl,?_⟩) ?_ ?_
          rotate_left
          ·
           intro w';go_simp;with_reducible rfl
          rotate_left
          ·
           simp only[Act.put,sa',sb',sc',i64_w,i32_w];rfl
          refine done_ (done_of HT_.out (by kernel_rfl)) ?_
          try go_wp2
          go_ret
          exact ⟨by first|rfl|(simp[errW_none,errW_some] <;> rfl)|(simp[*,errW_none,errW_some] <;> rfl),by repeat (first|(with_reducible first|exact HB.out|apply ba'|apply bd'|apply be'|refine bs' ?_ GE177.out)|exact HB.out)⟩
        ·
         rw[if_neg c13] at H;exact absurd H (by simp)
       ·
        rw[if_neg c12] at H;exact absurd H (by simp)
      ·
       rw[if_neg c11] at H;have c11b0:decide (x18_2 < (l0_1.length:Int))=false:=decide_eq_false c11;clear c11;obtain rfl:=Option.some.inj H;go_wp2;go_ret
       exact ⟨by first|rfl|(simp[errW_none,errW_some] <;> rfl)|(simp[*,errW_none,errW_some] <;> rfl),by repeat (first|(with_reducible first|exact HB.out|apply ba'|apply bd'|apply be'|refine bs' ?_ GE177.out)|exact HB.out)⟩
end Go.Proofs.Ytcjjhkapdlfaeaa.C1
