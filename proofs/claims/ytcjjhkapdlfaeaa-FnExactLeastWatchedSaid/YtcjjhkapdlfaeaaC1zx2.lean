import Derived.Test.YtcjjhkapdlfaeaaC1zx0
import Derived.Test.YtcjjhkapdlfaeaaC1zx1
import Derived.Test.YtcjjhkapdlfaeaaC1zAl
namespace Go.Proofs.Ytcjjhkapdlfaeaa.C1
open Go.RowKit Go.Proofs.YtcjjhkapdlfaeaaW.PrintWords Go.Proofs.YtcjjhkapdlfaeaaW.PrintLast Go.Proofs.YtcjjhkapdlfaeaaW.PrintMore Go.Proofs.Ytcjjhkapdlfaeaa.H
attribute [local go_sem] max2_int min2_int max_two min_two max_three min_three max_four min_four
set_option linter.unusedVariables false
set_option linter.unusedSimpArgs false
mutual
def spec_keGood.j0:Nat→Bool→Int→List (List Int)→Int→Option (Bool)
 | 0,_,_,_,_=>none
 | k+1,x14,x115000,x115001,x115002=>if x14=true then (some false) else (spec_keGood.l0 k x115001 (x115001.length:Int) 0 x115000 x115001 x115002)
def spec_keGood.l0:Nat→List (List Int)→Int→Int→Int→List (List Int)→Int→Option (Bool)
 | 0,_,_,_,_,_,_=>none
 | k+1,x16,x17,x18,x115000,x115001,x115002=>if x18 < x17 then (if 0≤x18 then (if x18 < (x16.length:Int) then (if ((rd_L1 x16 x18).length:Int)=2 then ((spec_l1Rising.f k (rd_L1 x16 x18) 0 (wrap64 (x115000 - 1))).bind fun t118=>(spec_keGood.j2 k x18 (rd_L1 x16 x18) x16 x17 x18 (!t118) x115000 x115001 x115002)) else (spec_keGood.j2 k x18 (rd_L1 x16 x18) x16 x17 x18 true x115000 x115001 x115002)) else (none)) else (none)) else (some true)
def spec_keGood.j2:Nat→Int→List Int→List (List Int)→Int→Int→Bool→Int→List (List Int)→Int→Option (Bool)
 | 0,_,_,_,_,_,_,_,_,_=>none
 | k+1,x3,x4,x16,x17,x18,x33,x115000,x115001,x115002=>if x33=true then (some false) else (if x3 > 0 then (if 0≤(wrap64 (x3 - 1)) then (if (wrap64 (x3 - 1)) < (x115001.length:Int) then ((spec_keBefore.f (rd_L1 x115001 (wrap64 (x3 - 1))) x4).bind fun t120=>(if t120=true then (spec_keGood.l0 k x16 x17 (wrap64 (x18+1)) x115000 x115001 x115002) else (some false))) else (none)) else (none)) else (spec_keGood.l0 k x16 x17 (wrap64 (x18+1)) x115000 x115001 x115002))
end
def spec_keGood.f (k:Nat) (a0_0:Int) (l0_1:List (List Int)) (a0_2:Int):Option (Bool):=(spec_l1In.f a0_0 0 8).bind fun t115=>(if t115=true then ((spec_l1In.f a0_2 0 8).bind fun t116=>(spec_keGood.j0 k (!t116) a0_0 l0_1 a0_2)) else (spec_keGood.j0 k true a0_0 l0_1 a0_2))
set_option maxHeartbeats 8000000 in
set_option maxRecDepth 100000 in
theorem spec_keGood.calls (k:Nat) (a0_0:Int) (A0_1:Option Addr) (c0_1:Nat) (l0_1:List (List Int)) (a0_2:Int) (r:Bool) (w:World) (hr0_1:Kd.C (Kd.slice 3 (Kd.int .i64)) w A0_1 l0_1.length l0_1) (hc0_1:l0_1.length≤c0_1) (h:spec_keGood.f k a0_0 l0_1 a0_2=some r) :
  Calls Try.prog 35 #[.agg #[.int .i64 a0_0, .slice A0_1 l0_1.length c0_1, .int .i64 a0_2]] w fun e w'=>e = .returned (.bool r)∧Below w.heap.size w w':=by
 have hu29:=Try.underlying29
 have HR0_1:=am' hr0_1
 have HC0_1:=am' hc0_1
 clear hr0_1 hc0_1;have HB:=am' (Below.refl w.heap.size w)
 have H:((spec_l1In.f a0_0 0 8).bind fun t115=>(if t115=true then ((spec_l1In.f a0_2 0 8).bind fun t116=>(spec_keGood.j0 k (!t116) a0_0 l0_1 a0_2)) else (spec_keGood.j0 k true a0_0 l0_1 a0_2)))=some r:=h
 clear h;have HC2:=am' H
 clear H;go_enter Try.func35,Try.ntmps35
 go_upto_region 1 with (first|((with_reducible refine gate_dst (N:=1) rfl ?_);refine box_event ?hg (N:=1) ?hd (cs:=#[.int .i64 a0_0, .slice A0_1 l0_1.length c0_1, .int .i64 a0_2]) (t:=29) ?hr ?_;(case hd=>rfl);(case hg=>rfl);(case hr=>first|(go_simp;done)|(go_simp;rfl));intro gb114 hg w3 hbox hb;have n0_:=am' (below_step (by repeat (first|(with_reducible first|exact HB.out|apply ba'|apply bd'|apply be')|exact HB.out)) hb);have n1_:=am' (hbox);have n2_:=am' ((by rw[hg];exact (below_size (by repeat (first|(with_reducible first|exact HB.out|apply ba'|apply bd'|apply be')|exact HB.out))):w.heap.size≤gb114));have n3_:=am' ((by rw[hg];exact (below_size (by repeat (first|(with_reducible first|exact HB.out|apply ba'|apply bd'|apply be')|exact HB.out))):w.heap.size≤gb114));clear HB;have HB:=n0_;have BK114:=n1_;have GW114:=n2_;have GE114:=n3_;clear n0_ n1_ n2_ n3_;clear hb hbox hg))
 (try simp only[Act.put,sa',sb',sc'])
 go_cut [14] (fun v14 wc=>∃ (kq:Nat) (x14_1:Bool),v14 = .bool x14_1∧Aside0 (spec_keGood.j0 kq x14_1 a0_0 l0_1 a0_2=some r)∧Aside0 (kq≤k)∧Aside0 (wc.heap[gb114]? = some (.cells #[.int .i64 a0_0,(.slice A0_1 l0_1.length c0_1), .int .i64 a0_2] 29 (0,0)))∧Aside0 (Below w.heap.size w wc))
 case first =>
  have H:=HC2.out;clear HC2;replace H:=Option.bind_eq_some_iff.mp H;obtain ⟨t115,A40,H⟩:=H;replace H:(if t115=true then ((spec_l1In.f a0_2 0 8).bind fun t116=>(spec_keGood.j0 k (!t116) a0_0 l0_1 a0_2)) else (spec_keGood.j0 k true a0_0 l0_1 a0_2))=some r:=H;have A4:=am' A40;clear A40;by_cases c5:t115=true
  ·
   subst c5;have H1:((spec_l1In.f a0_2 0 8).bind fun t116=>(spec_keGood.j0 k (!t116) a0_0 l0_1 a0_2))=some r:=by rw[if_pos rfl] at H;exact H
   clear H;have H:=H1;clear H1;replace H:=Option.bind_eq_some_iff.mp H;obtain ⟨t116,A60,H⟩:=H;replace H:(spec_keGood.j0 k (!t116) a0_0 l0_1 a0_2)=some r:=H;have A6:=am' A60;clear A60;have H':=am' H;clear H;have hcz7_0:w3.cell? ⟨gb114,0,none⟩=some (.int .i64 a0_0):=(blk_cell BK114.out 0).trans rfl;have hcz7_1:w3.cell? ⟨gb114,1,none⟩=some (.slice A0_1 l0_1.length c0_1):=(blk_cell BK114.out 1).trans rfl;have hcz7_2:w3.cell? ⟨gb114,2,none⟩=some (.int .i64 a0_2):=(blk_cell BK114.out 2).trans rfl;have hfz7_0:=blk_frozen BK114.out 0;have hfz7_1:=blk_frozen BK114.out 1;have hfz7_2:=blk_frozen BK114.out 2;go_wp2_with (first|((with_reducible refine gate_callee (f:=66) rfl ?_);refine goesL_ (some 7) rfl rfl Try.func66 (by kernel_rfl) rfl #[.int .i64 a0_0, .int .i64 0, .int .i64 8] rfl (by (try simp only[List.map_toArray,List.map_cons,List.map_nil]);first|done|rfl|(simp only[List.length_drop,List.length_take];rfl)) ?_;(with_reducible refine (spec_l1In.calls a0_0 0 8 true _ A4.out).mono ?_);rintro e w' ⟨rfl,⟨nd,rfl⟩⟩;refine ⟨_,rfl,?_⟩)|(go_at_call 66;(with_reducible refine (spec_l1In.calls a0_2 0 8 t116 _ A6.out).mono ?_);rintro e w' ⟨rfl,⟨nd,rfl⟩⟩));go_meet
   case rel=>exact ⟨_,(!t116),(by first|rfl|(simp;done)|(simp[*];done)),H',⟨by first|omega|exact Nat.le_refl _⟩,⟨by (with_reducible repeat (first|refine kn' ?_ _|refine kd' ?_|refine ka' ?_ _));exact BK114.out⟩,⟨by repeat (first|(with_reducible first|exact HB.out|apply ba'|apply bd'|apply be'|refine bs' ?_ GE114.out)|exact HB.out)⟩⟩
  ·
   replace c5:=Bool.eq_false_iff.mpr c5;subst c5;have H1:(spec_keGood.j0 k true a0_0 l0_1 a0_2)=some r:=by rw[if_neg (show ¬ (false=true) by decide)] at H;exact H
   clear H;have H:=H1;clear H1;have H':=am' H;clear H;have hcz8_0:w3.cell? ⟨gb114,0,none⟩=some (.int .i64 a0_0):=(blk_cell BK114.out 0).trans rfl;have hcz8_1:w3.cell? ⟨gb114,1,none⟩=some (.slice A0_1 l0_1.length c0_1):=(blk_cell BK114.out 1).trans rfl;have hcz8_2:w3.cell? ⟨gb114,2,none⟩=some (.int .i64 a0_2):=(blk_cell BK114.out 2).trans rfl;have hfz8_0:=blk_frozen BK114.out 0;have hfz8_1:=blk_frozen BK114.out 1;have hfz8_2:=blk_frozen BK114.out 2;go_wp2_with (first|((with_reducible refine gate_callee (f:=66) rfl ?_);refine goesL_ (some 7) rfl rfl Try.func66 (by kernel_rfl) rfl #[.int .i64 a0_0, .int .i64 0, .int .i64 8] rfl (by (try simp only[List.map_toArray,List.map_cons,List.map_nil]);first|done|rfl|(simp only[List.length_drop,List.length_take];rfl)) ?_;(with_reducible refine (spec_l1In.calls a0_0 0 8 false _ A4.out).mono ?_);rintro e w' ⟨rfl,⟨nd,rfl⟩⟩;refine ⟨_,rfl,?_⟩));go_meet
   case rel=>exact ⟨_,(true),(by first|rfl|(simp;done)|(simp[*];done)),H',⟨by first|omega|exact Nat.le_refl _⟩,⟨by (with_reducible repeat (first|refine kn' ?_ _|refine kd' ?_|refine ka' ?_ _));exact BK114.out⟩,⟨by repeat (first|(with_reducible first|exact HB.out|apply ba'|apply bd'|apply be'|refine bs' ?_ GE114.out)|exact HB.out)⟩⟩
 case rest =>
  clear HC2;try clear p2
  try clear c3
  try clear c5
  try clear c6
  try clear hcz7_0
  try clear hcz7_1
  try clear hcz7_2
  try clear hcz8_0
  try clear hcz8_1
  try clear hcz8_2
  try clear hfz7_0
  try clear hfz7_1
  try clear hfz7_2
  try clear hfz8_0
  try clear hfz8_1
  try clear hfz8_2
  obtain ⟨kq,x14_1,rfl,HA,HJ1,BK114,HB⟩:=hcut;cases kq with
  | zero=>exact absurd HA.out (by simp[spec_keGood.j0])
  | succ kj1 =>
   have H:=HA.out;clear HA;simp only[spec_keGood.j0] at H;by_cases c9:x14_1=true
   ·
    subst c9;have H1:(some false)=some r:=by rw[if_pos rfl] at H;exact H
    clear H;have H:=H1;clear H1;obtain rfl:=Option.some.inj H;go_wp2;go_ret
    exact ⟨by first|rfl|(simp[errW_none,errW_some] <;> rfl)|(simp[*,errW_none,errW_some] <;> rfl),by repeat (first|(with_reducible first|exact HB.out|apply ba'|apply bd'|apply be'|refine bs' ?_ GE114.out)|exact HB.out)⟩
   ·
    replace c9:=Bool.eq_false_iff.mpr c9;subst c9;have H1:(spec_keGood.l0 kj1 l0_1 (l0_1.length:Int) 0 a0_0 l0_1 a0_2)=some r:=by rw[if_neg (show ¬ (false=true) by decide)] at H;exact H
    clear H;have H:=H1;clear H1;have H':=am' H;clear H;have hcz10_0:wc.cell? ⟨gb114,0,none⟩=some (.int .i64 a0_0):=(blk_cell BK114.out 0).trans rfl;have hcz10_1:wc.cell? ⟨gb114,1,none⟩=some (.slice A0_1 l0_1.length c0_1):=(blk_cell BK114.out 1).trans rfl;have hcz10_2:wc.cell? ⟨gb114,2,none⟩=some (.int .i64 a0_2):=(blk_cell BK114.out 2).trans rfl;have hfz10_0:=blk_frozen BK114.out 0;have hfz10_1:=blk_frozen BK114.out 1;have hfz10_2:=blk_frozen BK114.out 2;go_wp2;go_loopg [18] kj1 (fun kq v18 w'=>∃ (x18_2:Int),v18 = .int .i64 x18_2∧Aside0 (spec_keGood.l0 kq l0_1 (l0_1.length:Int) x18_2 a0_0 l0_1 a0_2=some r)∧Aside0 (kq≤kj1)∧Aside0 (w'.heap[gb114]? = some (.cells #[.int .i64 a0_0,(.slice A0_1 l0_1.length c0_1), .int .i64 a0_2] 29 (0,0)))∧Aside0 (Below w.heap.size w w'))
    case atStart=>exact ⟨(0),(by first|rfl|(simp;done)|(simp[*];done)),H',⟨Nat.le_refl _⟩,⟨by (with_reducible repeat (first|refine kn' ?_ _|refine kd' ?_|refine ka' ?_ _));exact BK114.out⟩,⟨by repeat (first|(with_reducible first|exact HB.out|apply ba'|apply bd'|apply be'|refine bs' ?_ GE114.out)|exact HB.out)⟩⟩
    case round =>
     clear H';try clear p2
     try clear c3
     try clear c5
     try clear c6
     try clear c9
     try clear hcz10_0
     try clear hcz10_1
     try clear hcz10_2
     try clear hcz7_0
     try clear hcz7_1
     try clear hcz7_2
     try clear hcz8_0
     try clear hcz8_1
     try clear hcz8_2
     try clear hfz10_0
     try clear hfz10_1
     try clear hfz10_2
     try clear hfz7_0
     try clear hfz7_1
     try clear hfz7_2
     try clear hfz8_0
     try clear hfz8_1
     try clear hfz8_2
     try clear p2
     obtain ⟨x18_2,rfl,HA,HK2,BK114,HB⟩:=hrel;cases gk with
     | zero=>exact absurd HA.out (by simp[spec_keGood.l0])
     | succ k2 =>
      have H:=HA.out;clear HA;simp only[spec_keGood.l0] at H;by_cases c11:x18_2 < (l0_1.length:Int)
      ·
       rw[if_pos c11] at H;have c11b0:decide (x18_2 < (l0_1.length:Int))=true:=decide_eq_true c11;clear c11;by_cases c12:0≤x18_2
       ·
        rw[if_pos c12] at H;have c12b0:decide (0≤x18_2)=true:=decide_eq_true c12;clear c12;by_cases c13:x18_2 < (l0_1.length:Int)
        ·
         rw[if_pos c13] at H;have c13b0:decide (x18_2 < (l0_1.length:Int))=true:=decide_eq_true c13;clear c13;have HC14:=am' H;clear H;have p117:0≤(x18_2:Int):=of_decide_eq_true (by first|(with_reducible assumption)|assumption);have q117:x18_2 < (l0_1.length:Int):=of_decide_eq_true (by first|(with_reducible assumption)|assumption);obtain ⟨ad117,A117_0,c117_0,e117,hx117_0,hl117_0,hi117_0⟩:=at_L1 HR0_1.out x18_2 p117 q117;cases e117;replace hx117_0:=(HB.out.cell (bl' w _ hx117_0)).trans hx117_0;have HR117_0:=am' hi117_0;have HC117_0:=am' hl117_0;clear hi117_0 hl117_0;replace p117:=eq_true p117;replace q117:=eq_true q117;go_upto_region 6 with (fail)
         go_cut [33] (fun v33 wc=>∃ (kq:Nat) (x33_13:Bool),v33 = .bool x33_13∧Aside0 (spec_keGood.j2 kq x18_2 (rd_L1 l0_1 x18_2) l0_1 (l0_1.length:Int) x18_2 x33_13 a0_0 l0_1 a0_2=some r)∧Aside0 (kq≤k2)∧Aside0 (wc.heap[gb114]? = some (.cells #[.int .i64 a0_0,(.slice (some ad117) l0_1.length c0_1), .int .i64 a0_2] 29 (0,0)))∧Aside0 (Below w.heap.size w wc))
         case first =>
          have H:=HC14.out;clear HC14;by_cases c15:((rd_L1 l0_1 x18_2).length:Int)=2
          ·
           rw[if_pos c15] at H;have c15b0:(((rd_L1 l0_1 x18_2).length:Int) == 2)=true:=beq_iff_eq.mpr c15;have c15b1:(((rd_L1 l0_1 x18_2).length:Int) != 2)=false:=bne_eq_false_iff_eq.mpr c15;clear c15;(first|rw[c15b0]|(simp only[i64_w,i32_w];rw[c15b0])|skip)
           replace H:=Option.bind_eq_some_iff.mp H;obtain ⟨t118,A160,H⟩:=H;replace H:(spec_keGood.j2 k2 x18_2 (rd_L1 l0_1 x18_2) l0_1 (l0_1.length:Int) x18_2 (!t118) a0_0 l0_1 a0_2)=some r:=H;have A16:=am' A160;clear A160;have H':=am' H;clear H;have hcz17_0:wr.cell? ⟨gb114,0,none⟩=some (.int .i64 a0_0):=(blk_cell BK114.out 0).trans rfl;have hcz17_1:wr.cell? ⟨gb114,1,none⟩=some (.slice (some ad117) l0_1.length c0_1):=(blk_cell BK114.out 1).trans rfl;have hcz17_2:wr.cell? ⟨gb114,2,none⟩=some (.int .i64 a0_2):=(blk_cell BK114.out 2).trans rfl;have hfz17_0:=blk_frozen BK114.out 0;have hfz17_1:=blk_frozen BK114.out 1;have hfz17_2:=blk_frozen BK114.out 2;go_wp2_with (first|(go_at_call 67;(with_reducible refine (spec_l1Rising.calls k2 _ _ (rd_L1 l0_1 x18_2) 0 (wrap64 (a0_0 - 1)) t118 _ ?side1 ?side2 A16.out).mono ?_);(case side1=>repeat (first|exact (Kd.C_below HR117_0.out HB.out)|(with_reducible refine ca' ?_ _)|(with_reducible refine cn' ?_ _)|(with_reducible refine cd' ?_)));(case side2=>exact HC117_0.out);rintro e w' ⟨rfl,⟨nd,rfl⟩⟩));go_meet
           case rel=>exact ⟨_,(!t118),(by first|rfl|(simp;done)|(simp[*];done)),H',⟨by have:=HJ1.out;have:=HK2.out;first|omega|exact Nat.le_refl _⟩,⟨by (with_reducible repeat (first|refine kn' ?_ _|refine kd' ?_|refine ka' ?_ _));exact BK114.out⟩,⟨by repeat (first|(with_reducible first|exact HB.out|apply ba'|apply bd'|apply be'|refine bs' ?_ GE114.out)|exact HB.out)⟩⟩
          ·
           rw[if_neg c15] at H;have c15b0:(((rd_L1 l0_1 x18_2).length:Int) == 2)=false:=beq_eq_false_iff_ne.mpr c15;have c15b1:(((rd_L1 l0_1 x18_2).length:Int) != 2)=true:=bne_iff_ne.mpr c15
           (first|rw[c15b0]|(simp only[i64_w,i32_w];rw[c15b0])|skip)
           have H':=am' H;clear H;go_wp2;go_meet
           case rel=>exact ⟨_,(true),(by first|rfl|(simp;done)|(simp[*];done)),H',⟨by have:=HJ1.out;have:=HK2.out;first|omega|exact Nat.le_refl _⟩,⟨by (with_reducible repeat (first|refine kn' ?_ _|refine kd' ?_|refine ka' ?_ _));exact BK114.out⟩,⟨by repeat (first|(with_reducible first|exact HB.out|apply ba'|apply bd'|apply be'|refine bs' ?_ GE114.out)|exact HB.out)⟩⟩
         case rest =>
          clear HC14;try clear c1
          try clear p1
          try clear q1
          try clear hx1
          try clear p2
          try clear c3
          try clear c5
          try clear c6
          try clear p6
          try clear c9
          try clear c11
          try clear c11b0
          try clear p11
          try clear q11
          try clear hx11
          try clear c12
          try clear c12b0
          try clear c13
          try clear c13b0
          try clear c15
          try clear c15b0
          try clear c15b1
          try clear hcz10_0
          try clear hcz10_1
          try clear hcz10_2
          try clear hcz17_0
          try clear hcz17_1
          try clear hcz17_2
          try clear hcz7_0
          try clear hcz7_1
          try clear hcz7_2
          try clear hcz8_0
          try clear hcz8_1
          try clear hcz8_2
          try clear hfz10_0
          try clear hfz10_1
          try clear hfz10_2
          try clear hfz17_0
          try clear hfz17_1
          try clear hfz17_2
          try clear hfz7_0
          try clear hfz7_1
          try clear hfz7_2
          try clear hfz8_0
          try clear hfz8_1
          try clear hfz8_2
          try clear hx117_0
          try clear p117
          try clear p2
          try clear q117
          obtain ⟨kq,x33_13,rfl,HA,HJ13,BK114,HB⟩:=hcut;cases kq with
          | zero=>exact absurd HA.out (by simp[spec_keGood.j2])
          | succ kj13 =>
           have H:=HA.out;clear HA;simp only[spec_keGood.j2] at H;by_cases c18:x33_13=true
           ·
            subst c18;have H1:(some false)=some r:=by rw[if_pos rfl] at H;exact H
            clear H;have H:=H1;clear H1;obtain rfl:=Option.some.inj H;go_wp2;go_ret
            exact ⟨by first|rfl|(simp[errW_none,errW_some] <;> rfl)|(simp[*,errW_none,errW_some] <;> rfl),by repeat (first|(with_reducible first|exact HB.out|apply ba'|apply bd'|apply be'|refine bs' ?_ GE114.out)|exact HB.out)⟩
           ·
            replace c18:=Bool.eq_false_iff.mpr c18;subst c18;have H1:(if x18_2 > 0 then (if 0≤(wrap64 (x18_2 - 1)) then (if (wrap64 (x18_2 - 1)) < (l0_1.length:Int) then ((spec_keBefore.f (rd_L1 l0_1 (wrap64 (x18_2 - 1))) (rd_L1 l0_1 x18_2)).bind fun t120=>(if t120=true then (spec_keGood.l0 kj13 l0_1 (l0_1.length:Int) (wrap64 (x18_2+1)) a0_0 l0_1 a0_2) else (some false))) else (none)) else (none)) else (spec_keGood.l0 kj13 l0_1 (l0_1.length:Int) (wrap64 (x18_2+1)) a0_0 l0_1 a0_2))=some r:=by rw[if_neg (show ¬ (false=true) by decide)] at H;exact H
            clear H;have H:=H1;clear H1;by_cases c19:x18_2 > 0
            ·
             rw[if_pos c19] at H;have c19b0:decide (0 < x18_2)=true:=decide_eq_true c19;clear c19;obtain ⟨ji20,hji20⟩:∃ j_:Int,(wrap64 (x18_2 - 1))=j_:=⟨_,rfl⟩
             replace H:(if 0≤(ji20) then (if (ji20) < (l0_1.length:Int) then ((spec_keBefore.f (rd_L1 l0_1 (ji20)) (rd_L1 l0_1 x18_2)).bind fun t120=>(if t120=true then (spec_keGood.l0 kj13 l0_1 (l0_1.length:Int) (wrap64 (x18_2+1)) a0_0 l0_1 a0_2) else (some false))) else (none)) else (none))=some r:=by first|(rw[hji20] at H;exact H)|(simp only[hji20] at H ⊢;exact H)
             have hji20w:(IntKind.i64.wrap (x18_2 - 1))=ji20:=(i64_w _).trans hji20;by_cases c21:0≤(ji20)
             ·
              rw[if_pos c21] at H;have c21b0:decide (0≤(ji20))=true:=decide_eq_true c21;clear c21;by_cases c22:(ji20) < (l0_1.length:Int)
              ·
               rw[if_pos c22] at H;have c22b0:decide ((ji20) < (l0_1.length:Int))=true:=decide_eq_true c22;clear c22;replace H:=Option.bind_eq_some_iff.mp H;obtain ⟨t120,A230,H⟩:=H;replace H:(if t120=true then (spec_keGood.l0 kj13 l0_1 (l0_1.length:Int) (wrap64 (x18_2+1)) a0_0 l0_1 a0_2) else (some false))=some r:=H;have A23:=am' A230;clear A230;by_cases c24:t120=true
               ·
                subst c24;have H1:(spec_keGood.l0 kj13 l0_1 (l0_1.length:Int) (wrap64 (x18_2+1)) a0_0 l0_1 a0_2)=some r:=by rw[if_pos rfl] at H;exact H
                clear H;have H:=H1;clear H1;have H':=am' H;clear H;have hcz25_0:wc.cell? ⟨gb114,0,none⟩=some (.int .i64 a0_0):=(blk_cell BK114.out 0).trans rfl;have hcz25_1:wc.cell? ⟨gb114,1,none⟩=some (.slice (some ad117) l0_1.length c0_1):=(blk_cell BK114.out 1).trans rfl;have hcz25_2:wc.cell? ⟨gb114,2,none⟩=some (.int .i64 a0_2):=(blk_cell BK114.out 2).trans rfl;have hfz25_0:=blk_frozen BK114.out 0;have hfz25_1:=blk_frozen BK114.out 1;have hfz25_2:=blk_frozen BK114.out 2;have p119:0≤((ji20):Int):=of_decide_eq_true (by first|(with_reducible assumption)|assumption);have q119:(ji20) < (l0_1.length:Int):=of_decide_eq_true (by first|(with_reducible assumption)|assumption);obtain ⟨ad119,A119_0,c119_0,e119,hx119_0,hl119_0,hi119_0⟩:=at_L1 HR0_1.out (ji20) p119 q119;obtain rfl:ad117=ad119:=(by injection e119)
                replace hx119_0:=(HB.out.cell (bl' w _ hx119_0)).trans hx119_0;have HR119_0:=am' hi119_0;have HC119_0:=am' hl119_0;clear hi119_0 hl119_0;replace p119:=eq_true p119;replace q119:=eq_true q119;go_wp2_with (first|(go_at_call 68;(with_reducible refine (spec_keBefore.calls _ _ (rd_L1 l0_1 (ji20)) _ _ (rd_L1 l0_1 x18_2) true _ ?side1 ?side2 ?side3 ?side4 A23.out).mono ?_);(case side1=>repeat (first|exact (Kd.C_below HR119_0.out HB.out)|(with_reducible refine ca' ?_ _)|(with_reducible refine cn' ?_ _)|(with_reducible refine cd' ?_)));(case side2=>exact HC119_0.out);(case side3=>repeat (first|exact (Kd.C_below HR117_0.out HB.out)|(with_reducible refine ca' ?_ _)|(with_reducible refine cn' ?_ _)|(with_reducible refine cd' ?_)));(case side4=>exact HC117_0.out);rintro e w' ⟨rfl,⟨nd,rfl⟩⟩));go_roundg kj13
                case measure=>have:=HJ1.out;have:=HK2.out;have:=HJ13.out;omega
                case rel=>exact ⟨(wrap64 (x18_2+1)),(by first|rfl|(simp;done)|(simp[*];done)),H',⟨by have:=HJ1.out;have:=HK2.out;have:=HJ13.out;omega⟩,⟨by (with_reducible repeat (first|refine kn' ?_ _|refine kd' ?_|refine ka' ?_ _));exact BK114.out⟩,⟨by repeat (first|(with_reducible first|exact HB.out|apply ba'|apply bd'|apply be'|refine bs' ?_ GE114.out)|exact HB.out)⟩⟩
               ·
                replace c24:=Bool.eq_false_iff.mpr c24;subst c24;have H1:(some false)=some r:=by rw[if_neg (show ¬ (false=true) by decide)] at H;exact H
                clear H;have H:=H1;clear H1;obtain rfl:=Option.some.inj H;have hcz26_0:wc.cell? ⟨gb114,0,none⟩=some (.int .i64 a0_0):=(blk_cell BK114.out 0).trans rfl;have hcz26_1:wc.cell? ⟨gb114,1,none⟩=some (.slice (some ad117) l0_1.length c0_1):=(blk_cell BK114.out 1).trans rfl;have hcz26_2:wc.cell? ⟨gb114,2,none⟩=some (.int .i64 a0_2):=(blk_cell BK114.out 2).trans rfl;have hfz26_0:=blk_frozen BK114.out 0;have hfz26_1:=blk_frozen BK114.out 1;have hfz26_2:=blk_frozen BK114.out 2;have p119:0≤((ji20):Int):=of_decide_eq_true (by first|(with_reducible assumption)|assumption);have q119:(ji20) < (l0_1.length:Int):=of_decide_eq_true (by first|(with_reducible assumption)|assumption);obtain ⟨ad119,A119_0,c119_0,e119,hx119_0,hl119_0,hi119_0⟩:=at_L1 HR0_1.out (ji20) p119 q119;obtain rfl:ad117=ad119:=(by injection e119)
                replace hx119_0:=(HB.out.cell (bl' w _ hx119_0)).trans hx119_0;have HR119_0:=am' hi119_0;have HC119_0:=am' hl119_0;clear hi119_0 hl119_0;replace p119:=eq_true p119;replace q119:=eq_true q119;go_wp2_with (first|(go_at_call 68;(with_reducible refine (spec_keBefore.calls _ _ (rd_L1 l0_1 (ji20)) _ _ (rd_L1 l0_1 x18_2) false _ ?side1 ?side2 ?side3 ?side4 A23.out).mono ?_);(case side1=>repeat (first|exact (Kd.C_below HR119_0.out HB.out)|(with_reducible refine ca' ?_ _)|(with_reducible refine cn' ?_ _)|(with_reducible refine cd' ?_)));(case side2=>exact HC119_0.out);(case side3=>repeat (first|exact (Kd.C_below HR117_0.out HB.out)|(with_reducible refine ca' ?_ _)|(with_reducible refine cn' ?_ _)|(with_reducible refine cd' ?_)));(case side4=>exact HC117_0.out);rintro e w' ⟨rfl,⟨nd,rfl⟩⟩));go_ret
                exact ⟨by first|rfl|(simp[errW_none,errW_some] <;> rfl)|(simp only[← hji20];first|rfl|(simp[errW_none,errW_some] <;> rfl))|(simp[*,errW_none,errW_some] <;> rfl),by repeat (first|(with_reducible first|exact HB.out|apply ba'|apply bd'|apply be'|refine bs' ?_ GE114.out)|exact HB.out)⟩
              ·
               rw[if_neg c22] at H;exact absurd H (by simp)
             ·
              rw[if_neg c21] at H;exact absurd H (by simp)
            ·
             rw[if_neg c19] at H;have c19b0:decide (0 < x18_2)=false:=decide_eq_false c19;clear c19;have H':=am' H;clear H;go_wp2;go_roundg kj13
             case measure=>have:=HJ1.out;have:=HK2.out;have:=HJ13.out;omega
             case rel=>exact ⟨(wrap64 (x18_2+1)),(by first|rfl|(simp;done)|(simp[*];done)),H',⟨by have:=HJ1.out;have:=HK2.out;have:=HJ13.out;omega⟩,⟨by (with_reducible repeat (first|refine kn' ?_ _|refine kd' ?_|refine ka' ?_ _));exact BK114.out⟩,⟨by repeat (first|(with_reducible first|exact HB.out|apply ba'|apply bd'|apply be'|refine bs' ?_ GE114.out)|exact HB.out)⟩⟩
        ·
         rw[if_neg c13] at H;exact absurd H (by simp)
       ·
        rw[if_neg c12] at H;exact absurd H (by simp)
      ·
       rw[if_neg c11] at H;have c11b0:decide (x18_2 < (l0_1.length:Int))=false:=decide_eq_false c11;clear c11;obtain rfl:=Option.some.inj H;go_wp2;go_ret
       exact ⟨by first|rfl|(simp[errW_none,errW_some] <;> rfl)|(simp[*,errW_none,errW_some] <;> rfl),by repeat (first|(with_reducible first|exact HB.out|apply ba'|apply bd'|apply be'|refine bs' ?_ GE114.out)|exact HB.out)⟩
def spec_l1Own.f (l0:List Int):Option (List Int):=(some (([]:List Int):List Int)).bind fun y121=>(if y121.length+l0.length < 17592186044416 then (some (y121 ++ l0)) else (none))
set_option maxHeartbeats 8000000 in
set_option maxRecDepth 100000 in
theorem spec_l1Own.calls (A0:Option Addr) (c0:Nat) (l0:List Int) (r:List Int) (w:World) (hr0:Kd.C (Kd.int .i64) w A0 l0.length l0) (hc0:l0.length≤c0) (h:spec_l1Own.f l0=some r) :
  Calls Try.prog 69 #[.slice A0 l0.length c0] w fun e w'=>∃ v0_:Value,e = .returned (v0_)∧Kd.R (Kd.int .i64) 3 w' w.heap.size (fun _=>True) v0_ r∧Below w.heap.size w w':=by
 have HR0:=am' hr0
 have HC0:=am' hc0
 clear hr0 hc0;have HB:=am' (Below.refl w.heap.size w)
 have H:((some (([]:List Int):List Int)).bind fun y121=>(if y121.length+l0.length < 17592186044416 then (some (y121 ++ l0)) else (none)))=some r:=h
 clear h;obtain ⟨y121,hy121⟩:∃ y_:List Int,y_=(([]:List Int)):=⟨_,rfl⟩
 replace H:(if y121.length+l0.length < 17592186044416 then (some (y121 ++ l0)) else (none))=some r:=by first|(rw[hy121];with_reducible exact H)|(have H2_:=(Option.bind_some _ _).symm.trans H;rw[hy121];with_reducible exact H2_)|(have H2_:=(Option.bind_some _ _).symm.trans H;with_reducible exact H2_)|with_reducible exact H|(rw[hy121];exact H)|exact H
 have Ny121:=am' hy121
 clear hy121;by_cases c2:y121.length+l0.length < 17592186044416
 ·
  rw[if_pos c2] at H;have LMc2:=am' c2;clear c2;obtain ⟨y124,hy124⟩:∃ y_:List Int,y_=(y121 ++ l0):=⟨_,rfl⟩
  replace H:(some y124)=some r:=by first|(rw[hy124];with_reducible exact H)|(have H2_:=(Option.bind_some _ _).symm.trans H;rw[hy124];with_reducible exact H2_)|(have H2_:=(Option.bind_some _ _).symm.trans H;with_reducible exact H2_)|with_reducible exact H|(rw[hy124];exact H)|exact H
  have Ny124:=am' hy124;clear hy124;obtain rfl:=Option.some.inj H;go_enter Try.func69,Try.ntmps69;go_wp2_with (first|((with_reducible refine gate_dst (N:=3) rfl ?_);refine Kd.R_lit (Kd.int .i64) _ 3 ?hg (N:=3) ?hd (xs:=([]:List Int)) (inner:=[]) (ok:=fun _=>True) (okp:=fun _=>True) ?hr ?hp (fun _ hk=>hk) trivial (Below.refl _ _) (Nat.le_refl _) (by simp) ?_;(case hd=>rfl);(case hg=>rfl);(case hr=>first|(go_simp;done)|(go_simp;rfl));(case hp=>exact (Reps.none _ _));intro v122 w3 ho4 hb hg_ hnew_;clear hg_ hnew_;(first|rw[← Ny121.out] at ho4|(simp only[Int.reduceToNat] at ho4;rw[← Ny121.out] at ho4));have n0_:=am' (Kd.R_lower ho4 (below_size (by repeat (first|(with_reducible first|exact HB.out|apply ba'|apply bd'|apply be')|exact HB.out))));have n1_:=am' (below_step (by repeat (first|(with_reducible first|exact HB.out|apply ba'|apply bd'|apply be')|exact HB.out)) hb);clear HB;have HO123:=n0_;have HB:=n1_;clear n0_ n1_;clear hb ho4)|((with_reducible refine gate_builtin (b := .append) (xs:=#[.tmp 3, .tmp 4]) rfl ?_);at_builtin;refine Kd.R_append_rows (Kd.int .i64) (w0:=w) w.heap.size rfl (.tmp 3) (.tmp 4) 26 3 (.int .i64 0) 8 rfl Try.underlying26 info3 rfl (by decide) (by omega) v122 y121 l0 _ _ _ (fun _=>True) (fun _=>False) rfl rfl ?aO ?aR (fun _ _ h=>h) (fun _ h=>h.elim) ?aF ?aB ?aS ?aL ?_;(case aR=>repeat (first|exact (Kd.C_below HR0.out HB.out)|(with_reducible refine ca' ?_ _)|(with_reducible refine cn' ?_ _)|(with_reducible refine cd' ?_)));(case aB=>exact (by repeat (first|(with_reducible first|exact HB.out|apply ba'|apply bd'|apply be')|exact HB.out)));(case aF=>exact (fun _ _=>trivial));(case aO=>exact (by (with_reducible repeat (first|apply ra'|apply rn'|apply rw'));exact HO123.out));(case aS=>exact (below_size (by repeat (first|(with_reducible first|exact HB.out|apply ba'|apply bd'|apply be')|exact HB.out))));(case aL=>have:=LMc2.out;omega);intro v125 w5 ho hb hg hat;rw[← Ny124.out] at ho;have n0_:=am' (hb);have n1_:=am' (ho);clear HB;clear HO123;have HB:=n0_;have HO126:=n1_;clear n0_ n1_;clear ho hb hg hat));go_ret
  exact ⟨_,by first|rfl|(simp[errW_none,errW_some] <;> rfl)|(simp[*,errW_none,errW_some] <;> rfl),by (with_reducible repeat (first|apply ra'|apply rn'|apply rw'));exact HO126.out,by repeat (first|(with_reducible first|exact HB.out|apply ba'|apply bd'|apply be')|exact HB.out)⟩
 ·
  rw[if_neg c2] at H;exact absurd H (by simp)
end Go.Proofs.Ytcjjhkapdlfaeaa.C1
