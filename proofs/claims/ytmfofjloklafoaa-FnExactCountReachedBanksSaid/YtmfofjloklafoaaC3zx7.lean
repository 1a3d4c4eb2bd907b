import Derived.Test.YtmfofjloklafoaaC3zx0
import Derived.Test.YtmfofjloklafoaaC3zx4
import Derived.Test.YtmfofjloklafoaaC3zx6
import Derived.Test.YtmfofjloklafoaaC3zAl
namespace Go.Proofs.Ytmfofjloklafoaa.C3
open Go.RowKit Go.Proofs.YtmfofjloklafoaaW.PrintWords Go.Proofs.YtmfofjloklafoaaW.PrintLast Go.Proofs.YtmfofjloklafoaaW.PrintMore Go.Proofs.Ytmfofjloklafoaa.H
attribute [local go_sem] max2_int min2_int max_two min_two max_three min_three max_four min_four
set_option linter.unusedVariables false
set_option linter.unusedSimpArgs false
mutual
def spec_keGood.j0:Nat→Bool→Int→List (List Int)→Int→Option (Bool)
 | 0,_,_,_,_=>none
 | k+1,x14,x233000,x233001,x233002=>if x14=true then (some false) else (spec_keGood.l0 k x233001 (x233001.length:Int) 0 x233000 x233001 x233002)
def spec_keGood.l0:Nat→List (List Int)→Int→Int→Int→List (List Int)→Int→Option (Bool)
 | 0,_,_,_,_,_,_=>none
 | k+1,x16,x17,x18,x233000,x233001,x233002=>if x18 < x17 then (if 0≤x18 then (if x18 < (x16.length:Int) then (if ((rd_L1 x16 x18).length:Int)=2 then ((spec_l1Rising.f k (rd_L1 x16 x18) 0 (wrap64 (x233000 - 1))).bind fun t236=>(spec_keGood.j2 k x18 (rd_L1 x16 x18) x16 x17 x18 (!t236) x233000 x233001 x233002)) else (spec_keGood.j2 k x18 (rd_L1 x16 x18) x16 x17 x18 true x233000 x233001 x233002)) else (none)) else (none)) else (some true)
def spec_keGood.j2:Nat→Int→List Int→List (List Int)→Int→Int→Bool→Int→List (List Int)→Int→Option (Bool)
 | 0,_,_,_,_,_,_,_,_,_=>none
 | k+1,x3,x4,x16,x17,x18,x33,x233000,x233001,x233002=>if x33=true then (some false) else (if x3 > 0 then (if 0≤(wrap64 (x3 - 1)) then (if (wrap64 (x3 - 1)) < (x233001.length:Int) then ((spec_keBefore.f (rd_L1 x233001 (wrap64 (x3 - 1))) x4).bind fun t238=>(if t238=true then (spec_keGood.l0 k x16 x17 (wrap64 (x18+1)) x233000 x233001 x233002) else (some false))) else (none)) else (none)) else (spec_keGood.l0 k x16 x17 (wrap64 (x18+1)) x233000 x233001 x233002))
end
def spec_keGood.f (k:Nat) (a0_0:Int) (l0_1:List (List Int)) (a0_2:Int):Option (Bool):=(spec_l1In.f a0_0 0 8).bind fun t233=>(if t233=true then ((spec_l1In.f a0_2 0 8).bind fun t234=>(spec_keGood.j0 k (!t234) a0_0 l0_1 a0_2)) else (spec_keGood.j0 k true a0_0 l0_1 a0_2))
set_option maxHeartbeats 8000000 in
set_option maxRecDepth 100000 in
theorem spec_keGood.calls (k:Nat) (a0_0:Int) (A0_1:Option Addr) (c0_1:Nat) (l0_1:List (List Int)) (a0_2:Int) (r:Bool) (w:World) (hr0_1:Kd.C (Kd.slice 3 (Kd.int .i64)) w A0_1 l0_1.length l0_1) (hc0_1:l0_1.length≤c0_1) (h:spec_keGood.f k a0_0 l0_1 a0_2=some r) :
  Calls Try.prog 61 #[.agg #[.int .i64 a0_0, .slice A0_1 l0_1.length c0_1, .int .i64 a0_2]] w fun e w'=>e = .returned (.bool r)∧Below w.heap.size w w':=by
 have hu32:=Try.underlying32
 have HR0_1:=am' hr0_1
 have HC0_1:=am' hc0_1
 clear hr0_1 hc0_1;have HB:=am' (Below.refl w.heap.size w)
 have H:((spec_l1In.f a0_0 0 8).bind fun t233=>(if t233=true then ((spec_l1In.f a0_2 0 8).bind fun t234=>(spec_keGood.j0 k (!t234) a0_0 l0_1 a0_2)) else (spec_keGood.j0 k true a0_0 l0_1 a0_2)))=some r:=h
 clear h;have HC2:=am' H
 clear H;go_enter Try.func61,Try.ntmps61
 go_upto_region 1 with (first|((with_reducible refine gate_dst (N:=1) rfl ?_);refine box_event ?hg (N:=1) ?hd (cs:=#[.int .i64 a0_0, .slice A0_1 l0_1.length c0_1, .int .i64 a0_2]) (t:=32) ?hr ?_;(case hd=>rfl);(case hg=>rfl);(case hr=>first|(go_simp;done)|(go_simp;rfl));intro gb232 hg w3 hbox hb;have n0_:=am' (below_step (by repeat (first|(with_reducible first|exact HB.out|apply ba'|apply bd'|apply be')|exact HB.out)) hb);have n1_:=am' (hbox);have n2_:=am' ((by rw[hg];exact (below_size (by repeat (first|(with_reducible first|exact HB.out|apply ba'|apply bd'|apply be')|exact HB.out))):w.heap.size≤gb232));have n3_:=am' ((by rw[hg];exact (below_size (by repeat (first|(with_reducible first|exact HB.out|apply ba'|apply bd'|apply be')|exact HB.out))):w.heap.size≤gb232));clear HB;have HB:=n0_;have BK232:=n1_;have GW232:=n2_;have GE232:=n3_;clear n0_ n1_ n2_ n3_;clear hb hbox hg))
 (try simp only[Act.put,sa',sb',sc'])
 go_cut [14] (fun v14 wc=>∃ (kq:Nat) (x14_1:Bool),v14 = .bool x14_1∧Aside0 (spec_keGood.j0 kq x14_1 a0_0 l0_1 a0_2=some r)∧Aside0 (kq≤k)∧Aside0 (wc.heap[gb232]? = some (.cells #[.int .i64 a0_0,(.slice A0_1 l0_1.length c0_1), .int .i64 a0_2] 32 (0,0)))∧Aside0 (Below w.heap.size w wc))
 case first =>
  have H:=HC2.out;clear HC2;replace H:=Option.bind_eq_some_iff.mp H;obtain ⟨t233,A40,H⟩:=H;replace H:(if t233=true then ((spec_l1In.f a0_2 0 8).bind fun t234=>(spec_keGood.j0 k (!t234) a0_0 l0_1 a0_2)) else (spec_keGood.j0 k true a0_0 l0_1 a0_2))=some r:=H;have A4:=am' A40;clear A40;by_cases c5:t233=true
  ·
   subst c5;have H1:((spec_l1In.f a0_2 0 8).bind fun t234=>(spec_keGood.j0 k (!t234) a0_0 l0_1 a0_2))=some r:=by rw[if_pos rfl] at H;exact H
   clear H;have H:=H1;clear H1;replace H:=Option.bind_eq_some_iff.mp H;obtain ⟨t234,A60,H⟩:=H;replace H:(spec_keGood.j0 k (!t234) a0_0 l0_1 a0_2)=some r:=H;have A6:=am' A60;clear A60;have H':=am' H;clear H;have hcz7_0:w3.cell? ⟨gb232,0,none⟩=some (.int .i64 a0_0):=(blk_cell BK232.out 0).trans rfl;have hcz7_1:w3.cell? ⟨gb232,1,none⟩=some (.slice A0_1 l0_1.length c0_1):=(blk_cell BK232.out 1).trans rfl;have hcz7_2:w3.cell? ⟨gb232,2,none⟩=some (.int .i64 a0_2):=(blk_cell BK232.out 2).trans rfl;have hfz7_0:=blk_frozen BK232.out 0;have hfz7_1:=blk_frozen BK232.out 1;have hfz7_2:=blk_frozen BK232.out 2;go_wp2_with (first|((with_reducible refine gate_callee (f:=94) rfl ?_);refine goesL_ (some 7) rfl rfl Try.func94 (by kernel_rfl) rfl #[.int .i64 a0_0, .int .i64 0, .int .i64 8] rfl (by (try simp only[List.map_toArray,List.map_cons,List.map_nil]);first|done|rfl|(simp only[List.length_drop,List.length_take];rfl)) ?_;(with_reducible refine (spec_l1In.calls a0_0 0 8 true _ A4.out).mono ?_);rintro e w' ⟨rfl,⟨nd,rfl⟩⟩;refine ⟨_,rfl,?_⟩)|(go_at_call 94;(with_reducible refine (spec_l1In.calls a0_2 0 8 t234 _ A6.out).mono ?_);rintro e w' ⟨rfl,⟨nd,rfl⟩⟩));go_meet
   case rel=>exact ⟨_,(!t234),(by first|rfl|(simp;done)|(simp[*];done)),H',⟨by first|omega|exact Nat.le_refl _⟩,⟨by (with_reducible repeat (first|refine kn' ?_ _|refine kd' ?_|refine ka' ?_ _));exact BK232.out⟩,⟨by repeat (first|(with_reducible first|exact HB.out|apply ba'|apply bd'|apply be'|refine bs' ?_ GE232.out)|exact HB.out)⟩⟩
  ·
   replace c5:=Bool.eq_false_iff.mpr c5;subst c5;have H1:(spec_keGood.j0 k true a0_0 l0_1 a0_2)=some r:=by rw[if_neg (show ¬ (false=true) by decide)] at H;exact H
   clear H;have H:=H1;clear H1;have H':=am' H;clear H;have hcz8_0:w3.cell? ⟨gb232,0,none⟩=some (.int .i64 a0_0):=(blk_cell BK232.out 0).trans rfl;have hcz8_1:w3.cell? ⟨gb232,1,none⟩=some (.slice A0_1 l0_1.length c0_1):=(blk_cell BK232.out 1).trans rfl;have hcz8_2:w3.cell? ⟨gb232,2,none⟩=some (.int .i64 a0_2):=(blk_cell BK232.out 2).trans rfl;have hfz8_0:=blk_frozen BK232.out 0;have hfz8_1:=blk_frozen BK232.out 1;have hfz8_2:=blk_frozen BK232.out 2;go_wp2_with (first|((with_reducible refine gate_callee (f:=94) rfl ?_);refine goesL_ (some 7) rfl rfl Try.func94 (by kernel_rfl) rfl #[.int .i64 a0_0, .int .i64 0, .int .i64 8] rfl (by (try simp only[List.map_toArray,List.map_cons,List.map_nil]);first|done|rfl|(simp only[List.length_drop,List.length_take];rfl)) ?_;(with_reducible refine (spec_l1In.calls a0_0 0 8 false _ A4.out).mono ?_);rintro e w' ⟨rfl,⟨nd,rfl⟩⟩;refine ⟨_,rfl,?_⟩));go_meet
   case rel=>exact ⟨_,(true),(by first|rfl|(simp;done)|(simp[*];done)),H',⟨by first|omega|exact Nat.le_refl _⟩,⟨by (with_reducible repeat (first|refine kn' ?_ _|refine kd' ?_|refine ka' ?_ _));exact BK232.out⟩,⟨by repeat (first|(with_reducible first|exact HB.out|apply ba'|apply bd'|apply be'|refine bs' ?_ GE232.out)|exact HB.out)⟩⟩
 case rest =>
  clear HC2;try clear p2
  try clear c5
  try clear c6
  try clear hcz7_0
  try clear hcz7_1
  try clear hcz7_2
  try clear hcz8_0
  try clear hcz8_1
  try clear hcz8_2
  try clear hfz7_0
  try clear hfz7_1
  try clear hfz7_2
  try clear hfz8_0
  try clear hfz8_1
  try clear hfz8_2
  obtain ⟨kq,x14_1,rfl,HA,HJ1,BK232,HB⟩:=hcut;cases kq with
  | zero=>exact absurd HA.out (by simp[spec_keGood.j0])
  | succ kj1 =>
   have H:=HA.out;clear HA;simp only[spec_keGood.j0] at H;by_cases c9:x14_1=true
   ·
    subst c9;have H1:(some false)=some r:=by rw[if_pos rfl] at H;exact H
    clear H;have H:=H1;clear H1;obtain rfl:=Option.some.inj H;go_wp2;go_ret
    exact ⟨by first|rfl|(simp[errW_none,errW_some] <;> rfl)|(simp[*,errW_none,errW_some] <;> rfl),by repeat (first|(with_reducible first|exact HB.out|apply ba'|apply bd'|apply be'|refine bs' ?_ GE232.out)|exact HB.out)⟩
   ·
    replace c9:=Bool.eq_false_iff.mpr c9;subst c9;have H1:(spec_keGood.l0 kj1 l0_1 (l0_1.length:Int) 0 a0_0 l0_1 a0_2)=some r:=by rw[if_neg (show ¬ (false=true) by decide)] at H;exact H
    clear H;have H:=H1;clear H1;have H':=am' H;clear H;have hcz10_0:wc.cell? ⟨gb232,0,none⟩=some (.int .i64 a0_0):=(blk_cell BK232.out 0).trans rfl;have hcz10_1:wc.cell? ⟨gb232,1,none⟩=some (.slice A0_1 l0_1.length c0_1):=(blk_cell BK232.out 1).trans rfl;have hcz10_2:wc.cell? ⟨gb232,2,none⟩=some (.int .i64 a0_2):=(blk_cell BK232.out 2).trans rfl;have hfz10_0:=blk_frozen BK232.out 0;have hfz10_1:=blk_frozen BK232.out 1;have hfz10_2:=blk_frozen BK232.out 2;go_wp2;go_loopg [18] kj1 (fun kq v18 w'=>∃ (x18_2:Int),v18 = .int .i64 x18_2∧Aside0 (spec_keGood.l0 kq l0_1 (l0_1.length:Int) x18_2 a0_0 l0_1 a0_2=some r)∧Aside0 (kq≤kj1)∧Aside0 (w'.heap[gb232]? = some (.cells #[.int .i64 a0_0,(.slice A0_1 l0_1.length c0_1), .int .i64 a0_2] 32 (0,0)))∧Aside0 (Below w.heap.size w w'))
    case atStart=>exact ⟨(0),(by first|rfl|(simp;done)|(simp[*];done)),H',⟨Nat.le_refl _⟩,⟨by (with_reducible repeat (first|refine kn' ?_ _|refine kd' ?_|refine ka' ?_ _));exact BK232.out⟩,⟨by repeat (first|(with_reducible first|exact HB.out|apply ba'|apply bd'|apply be'|refine bs' ?_ GE232.out)|exact HB.out)⟩⟩
    case round =>
     clear H';try clear p2
     try clear c5
     try clear c6
     try clear c9
     try clear hcz10_0
     try clear hcz10_1
     try clear hcz10_2
     try clear hcz7_0
     try clear hcz7_1
     try clear hcz7_2
     try clear hcz8_0
     try clear hcz8_1
     try clear hcz8_2
     try clear hfz10_0
     try clear hfz10_1
     try clear hfz10_2
     try clear hfz7_0
     try clear hfz7_1
     try clear hfz7_2
     try clear hfz8_0
     try clear hfz8_1
     try clear hfz8_2
     try clear p2
     obtain ⟨x18_2,rfl,HA,HK2,BK232,HB⟩:=hrel;cases gk with
     | zero=>exact absurd HA.out (by simp[spec_keGood.l0])
     | succ k2 =>
      have H:=HA.out;clear HA;simp only[spec_keGood.l0] at H;by_cases c11:x18_2 < (l0_1.length:Int)
      ·
       rw[if_pos c11] at H;have c11b0:decide (x18_2 < (l0_1.length:Int))=true:=decide_eq_true c11;clear c11;by_cases c12:0≤x18_2
       ·
        rw[if_pos c12] at H;have c12b0:decide (0≤x18_2)=true:=decide_eq_true c12;clear c12;by_cases c13:x18_2 < (l0_1.length:Int)
        ·
         rw[if_pos c13] at H;have c13b0:decide (x18_2 < (l0_1.length:Int))=true:=decide_eq_true c13;clear c13;have HC14:=am' H;clear H;have p235:0≤(x18_2:Int):=of_decide_eq_true (by first|(with_reducible assumption)|assumption);have q235:x18_2 < (l0_1.length:Int):=of_decide_eq_true (by first|(with_reducible assumption)|assumption);obtain ⟨ad235,A235_0,c235_0,e235,hx235_0,hl235_0,hi235_0⟩:=at_L1 HR0_1.out x18_2 p235 q235;cases e235;replace hx235_0:=(HB.out.cell (bl' w _ hx235_0)).trans hx235_0;have HR235_0:=am' hi235_0;have HC235_0:=am' hl235_0;clear hi235_0 hl235_0;replace p235:=eq_true p235;replace q235:=eq_true q235;go_upto_region 6 with (fail)
         go_cut [33] (fun v33 wc=>∃ (kq:Nat) (x33_13:Bool),v33 = .bool x33_13∧Aside0 (spec_keGood.j2 kq x18_2 (rd_L1 l0_1 x18_2) l0_1 (l0_1.length:Int) x18_2 x33_13 a0_0 l0_1 a0_2=some r)∧Aside0 (kq≤k2)∧Aside0 (wc.heap[gb232]? = some (.cells #[.int .i64 a0_0,(.slice (some ad235) l0_1.length c0_1), .int .i64 a0_2] 32 (0,0)))∧Aside0 (Below w.heap.size w wc))
         case first =>
          have H:=HC14.out;clear HC14;by_cases c15:((rd_L1 l0_1 x18_2).length:Int)=2
          ·
           rw[if_pos c15] at H;have c15b0:(((rd_L1 l0_1 x18_2).length:Int) == 2)=true:=beq_iff_eq.mpr c15;have c15b1:(((rd_L1 l0_1 x18_2).length:Int) != 2)=false:=bne_eq_false_iff_eq.mpr c15;clear c15;(first|rw[c15b0]|(simp only[i64_w,i32_w];rw[c15b0])|skip)
           replace H:=Option.bind_eq_some_iff.mp H;obtain ⟨t236,A160,H⟩:=H;replace H:(spec_keGood.j2 k2 x18_2 (rd_L1 l0_1 x18_2) l0_1 (l0_1.length:Int) x18_2 (!t236) a0_0 l0_1 a0_2)=some r:=H;have A16:=am' A160;clear A160;have H':=am' H;clear H;have hcz17_0:wr.cell? ⟨gb232,0,none⟩=some (.int .i64 a0_0):=(blk_cell BK232.out 0).trans rfl;have hcz17_1:wr.cell? ⟨gb232,1,none⟩=some (.slice (some ad235) l0_1.length c0_1):=(blk_cell BK232.out 1).trans rfl;have hcz17_2:wr.cell? ⟨gb232,2,none⟩=some (.int .i64 a0_2):=(blk_cell BK232.out 2).trans rfl;have hfz17_0:=blk_frozen BK232.out 0;have hfz17_1:=blk_frozen BK232.out 1;have hfz17_2:=blk_frozen BK232.out 2;go_wp2_with (first|(go_at_call 95;(with_reducible refine (spec_l1Rising.calls k2 _ _ (rd_L1 l0_1 x18_2) 0 (wrap64 (a0_0 - 1)) t236 _ ?side1 ?side2 A16.out).mono ?_);(case side1=>repeat (first|exact (Kd.C_below HR235_0.out HB.out)|(with_reducible refine ca' ?_ _)|(with_reducible refine cn' ?_ _)|(with_reducible refine cd' ?_)));(case side2=>exact HC235_0.out);rintro e w' ⟨rfl,⟨nd,rfl⟩⟩));go_meet
           case rel=>exact ⟨_,(!t236),(by first|rfl|(simp;done)|(simp[*];done)),H',⟨by have:=HJ1.out;have:=HK2.out;first|omega|exact Nat.le_refl _⟩,⟨by (with_reducible repeat (first|refine kn' ?_ _|refine kd' ?_|refine ka' ?_ _));exact BK232.out⟩,⟨by repeat (first|(with_reducible first|exact HB.out|apply ba'|apply bd'|apply be'|refine bs' ?_ GE232.out)|exact HB.out)⟩⟩
          ·
           rw[if_neg c15] at H;have c15b0:(((rd_L1 l0_1 x18_2).length:Int) == 2)=false:=beq_eq_false_iff_ne.mpr c15;have c15b1:(((rd_L1 l0_1 x18_2).length:Int) != 2)=true:=bne_iff_ne.mpr c15
           (first|rw[c15b0]|(simp only[i64_w,i32_w];rw[c15b0])|skip)
           have H':=am' H;clear H;go_wp2;go_meet
           case rel=>exact ⟨_,(true),(by first|rfl|(simp;done)|(simp[*];done)),H',⟨by have:=HJ1.out;have:=HK2.out;first|omega|exact Nat.le_refl _⟩,⟨by (with_reducible repeat (first|refine kn' ?_ _|refine kd' ?_|refine ka' ?_ _));exact BK232.out⟩,⟨by repeat (first|(with_reducible first|exact HB.out|apply ba'|apply bd'|apply be'|refine bs' ?_ GE232.out)|exact HB.out)⟩⟩
         case rest =>
          clear HC14;try clear c1
          try clear c2
          try clear p2
          try clear q2
          try clear hx2
          try clear c5
          try clear c6
          try clear p6
          try clear c9
          try clear c11
          try clear c11b0
          try clear c12
          try clear c12b0
          try clear c13
          try clear c13b0
          try clear c15
          try clear c15b0
          try clear c15b1
          try clear hcz10_0
          try clear hcz10_1
          try clear hcz10_2
          try clear hcz17_0
          try clear hcz17_1
          try clear hcz17_2
          try clear hcz7_0
          try clear hcz7_1
          try clear hcz7_2
          try clear hcz8_0
          try clear hcz8_1
          try clear hcz8_2
          try clear hfz10_0
          try clear hfz10_1
          try clear hfz10_2
          try clear hfz17_0
          try clear hfz17_1
          try clear hfz17_2
          try clear hfz7_0
          try clear hfz7_1
          try clear hfz7_2
          try clear hfz8_0
          try clear hfz8_1
          try clear hfz8_2
          try clear hx235_0
          try clear p2
          try clear p235
          try clear q235
          obtain ⟨kq,x33_13,rfl,HA,HJ13,BK232,HB⟩:=hcut;cases kq with
          | zero=>exact absurd HA.out (by simp[spec_keGood.j2])
          | succ kj13 =>
           have H:=HA.out;clear HA;simp only[spec_keGood.j2] at H;by_cases c18:x33_13=true
           ·
            subst c18;have H1:(some false)=some r:=by rw[if_pos rfl] at H;exact H
            clear H;have H:=H1;clear H1;obtain rfl:=Option.some.inj H;go_wp2;go_ret
            exact ⟨by first|rfl|(simp[errW_none,errW_some] <;> rfl)|(simp[*,errW_none,errW_some] <;> rfl),by repeat (first|(with_reducible first|exact HB.out|apply ba'|apply bd'|apply be'|refine bs' ?_ GE232.out)|exact HB.out)⟩
           ·
            replace c18:=Bool.eq_false_iff.mpr c18;subst c18;have H1:(if x18_2 > 0 then (if 0≤(wrap64 (x18_2 - 1)) then (if (wrap64 (x18_2 - 1)) < (l0_1.length:Int) then ((spec_keBefore.f (rd_L1 l0_1 (wrap64 (x18_2 - 1))) (rd_L1 l0_1 x18_2)).bind fun t238=>(if t238=true then (spec_keGood.l0 kj13 l0_1 (l0_1.length:Int) (wrap64 (x18_2+1)) a0_0 l0_1 a0_2) else (some false))) else (none)) else (none)) else (spec_keGood.l0 kj13 l0_1 (l0_1.length:Int) (wrap64 (x18_2+1)) a0_0 l0_1 a0_2))=some r:=by rw[if_neg (show ¬ (false=true) by decide)] at H;exact H
            clear H;have H:=H1;clear H1;by_cases c19:x18_2 > 0
            ·
             rw[if_pos c19] at H;have c19b0:decide (0 < x18_2)=true:=decide_eq_true c19;clear c19;obtain ⟨ji20,hji20⟩:∃ j_:Int,(wrap64 (x18_2 - 1))=j_:=⟨_,rfl⟩
             replace H:(if 0≤(ji20) then (if (ji20) < (l0_1.length:Int) then ((spec_keBefore.f (rd_L1 l0_1 (ji20)) (rd_L1 l0_1 x18_2)).bind fun t238=>(if t238=true then (spec_keGood.l0 kj13 l0_1 (l0_1.length:Int) (wrap64 (x18_2+1)) a0_0 l0_1 a0_2) else (some false))) else (none)) else (none))=some r:=by first|(rw[hji20] at H;exact H)|(simp only[hji20] at H ⊢;exact H)
             have hji20w:(IntKind.i64.wrap (x18_2 - 1))=ji20:=(i64_w _).trans hji20;by_cases c21:0≤(ji20)
             ·
              rw[if_pos c21] at H;have c21b0:decide (0≤(ji20))=true:=decide_eq_true c21;clear c21;by_cases c22:(ji20) < (l0_1.length:Int)
              ·
               rw[if_pos c22] at H;have c22b0:decide ((ji20) < (l0_1.length:Int))=true:=decide_eq_true c22;clear c22;replace H:=Option.bind_eq_some_iff.mp H;obtain ⟨t238,A230,H⟩:=H;replace H:(if t238=true then (spec_keGood.l0 kj13 l0_1 (l0_1.length:Int) (wrap64 (x18_2+1)) a0_0 l0_1 a0_2) else (some false))=some r:=H;have A23:=am' A230;clear A230;by_cases c24:t238=true
               ·
                subst c24;have H1:(spec_keGood.l0 kj13 l0_1 (l0_1.length:Int) (wrap64 (x18_2+1)) a0_0 l0_1 a0_2)=some r:=by rw[if_pos rfl] at H;exact H
                clear H;have H:=H1;clear H1;have H':=am' H;clear H;have hcz25_0:wc.cell? ⟨gb232,0,none⟩=some (.int .i64 a0_0):=(blk_cell BK232.out 0).trans rfl;have hcz25_1:wc.cell? ⟨gb232,1,none⟩=some (.slice (some ad235) l0_1.length c0_1):=(blk_cell BK232.out 1).trans rfl;have hcz25_2:wc.cell? ⟨gb232,2,none⟩=some (.int .i64 a0_2):=(blk_cell BK232.out 2).trans rfl;have hfz25_0:=blk_frozen BK232.out 0;have hfz25_1:=blk_frozen BK232.out 1;have hfz25_2:=blk_frozen BK232.out 2;have p237:0≤((ji20):Int):=of_decide_eq_true (by first|(with_reducible assumption)|assumption);have q237:(ji20) < (l0_1.length:Int):=of_decide_eq_true (by first|(with_reducible assumption)|assumption);obtain ⟨ad237,A237_0,c237_0,e237,hx237_0,hl237_0,hi237_0⟩:=at_L1 HR0_1.out (ji20) p237 q237;obtain rfl:ad235=ad237:=(by injection e237)
                replace hx237_0:=(HB.out.cell (bl' w _ hx237_0)).trans hx237_0;have HR237_0:=am' hi237_0;have HC237_0:=am' hl237_0;clear hi237_0 hl237_0;replace p237:=eq_true p237;replace q237:=eq_true q237;go_wp2_with (first|(go_at_call 96;(with_reducible refine (spec_keBefore.calls _ _ (rd_L1 l0_1 (ji20)) _ _ (rd_L1 l0_1 x18_2) true _ ?side1 ?side2 ?side3 ?side4 A23.out).mono ?_);(case side1=>repeat (first|exact (Kd.C_below HR237_0.out HB.out)|(with_reducible refine ca' ?_ _)|(with_reducible refine cn' ?_ _)|(with_reducible refine cd' ?_)));(case side2=>exact HC237_0.out);(case side3=>repeat (first|exact (Kd.C_below HR235_0.out HB.out)|(with_reducible refine ca' ?_ _)|(with_reducible refine cn' ?_ _)|(with_reducible refine cd' ?_)));(case side4=>exact HC235_0.out);rintro e w' ⟨rfl,⟨nd,rfl⟩⟩));go_roundg kj13
                case measure=>have:=HJ1.out;have:=HK2.out;have:=HJ13.out;omega
                case rel=>exact ⟨(wrap64 (x18_2+1)),(by first|rfl|(simp;done)|(simp[*];done)),H',⟨by have:=HJ1.out;have:=HK2.out;have:=HJ13.out;omega⟩,⟨by (with_reducible repeat (first|refine kn' ?_ _|refine kd' ?_|refine ka' ?_ _));exact BK232.out⟩,⟨by repeat (first|(with_reducible first|exact HB.out|apply ba'|apply bd'|apply be'|refine bs' ?_ GE232.out)|exact HB.out)⟩⟩
               ·
                replace c24:=Bool.eq_false_iff.mpr c24;subst c24;have H1:(some false)=some r:=by rw[if_neg (show ¬ (false=true) by decide)] at H;exact H
                clear H;have H:=H1;clear H1;obtain rfl:=Option.some.inj H;have hcz26_0:wc.cell? ⟨gb232,0,none⟩=some (.int .i64 a0_0):=(blk_cell BK232.out 0).trans rfl;have hcz26_1:wc.cell? ⟨gb232,1,none⟩=some (.slice (some ad235) l0_1.length c0_1):=(blk_cell BK232.out 1).trans rfl;have hcz26_2:wc.cell? ⟨gb232,2,none⟩=some (.int .i64 a0_2):=(blk_cell BK232.out 2).trans rfl;have hfz26_0:=blk_frozen BK232.out 0;have hfz26_1:=blk_frozen BK232.out 1;have hfz26_2:=blk_frozen BK232.out 2;have p237:0≤((ji20):Int):=of_decide_eq_true (by first|(with_reducible assumption)|assumption);have q237:(ji20) < (l0_1.length:Int):=of_decide_eq_true (by first|(with_reducible assumption)|assumption);obtain ⟨ad237,A237_0,c237_0,e237,hx237_0,hl237_0,hi237_0⟩:=at_L1 HR0_1.out (ji20) p237 q237;obtain rfl:ad235=ad237:=(by injection e237)
                replace hx237_0:=(HB.out.cell (bl' w _ hx237_0)).trans hx237_0;have HR237_0:=am' hi237_0;have HC237_0:=am' hl237_0;clear hi237_0 hl237_0;replace p237:=eq_true p237;replace q237:=eq_true q237;go_wp2_with (first|(go_at_call 96;(with_reducible refine (spec_keBefore.calls _ _ (rd_L1 l0_1 (ji20)) _ _ (rd_L1 l0_1 x18_2) false _ ?side1 ?side2 ?side3 ?side4 A23.out).mono ?_);(case side1=>repeat (first|exact (Kd.C_below HR237_0.out HB.out)|(with_reducible refine ca' ?_ _)|(with_reducible refine cn' ?_ _)|(with_reducible refine cd' ?_)));(case side2=>exact HC237_0.out);(case side3=>repeat (first|exact (Kd.C_below HR235_0.out HB.out)|(with_reducible refine ca' ?_ _)|(with_reducible refine cn' ?_ _)|(with_reducible refine cd' ?_)));(case side4=>exact HC235_0.out);rintro e w' ⟨rfl,⟨nd,rfl⟩⟩));go_ret
                exact ⟨by first|rfl|(simp[errW_none,errW_some] <;> rfl)|(simp only[← hji20];first|rfl|(simp[errW_none,errW_some] <;> rfl))|(simp[*,errW_none,errW_some] <;> rfl),by repeat (first|(with_reducible first|exact HB.out|apply ba'|apply bd'|apply be'|refine bs' ?_ GE232.out)|exact HB.out)⟩
              ·
               rw[if_neg c22] at H;exact absurd H (by simp)
             ·
              rw[if_neg c21] at H;exact absurd H (by simp)
            ·
             rw[if_neg c19] at H;have c19b0:decide (0 < x18_2)=false:=decide_eq_false c19;clear c19;have H':=am' H;clear H;go_wp2;go_roundg kj13
             case measure=>have:=HJ1.out;have:=HK2.out;have:=HJ13.out;omega
             case rel=>exact ⟨(wrap64 (x18_2+1)),(by first|rfl|(simp;done)|(simp[*];done)),H',⟨by have:=HJ1.out;have:=HK2.out;have:=HJ13.out;omega⟩,⟨by (with_reducible repeat (first|refine kn' ?_ _|refine kd' ?_|refine ka' ?_ _));exact BK232.out⟩,⟨by repeat (first|(with_reducible first|exact HB.out|apply ba'|apply bd'|apply be'|refine bs' ?_ GE232.out)|exact HB.out)⟩⟩
        ·
         rw[if_neg c13] at H;exact absurd H (by simp)
       ·
        rw[if_neg c12] at H;exact absurd H (by simp)
      ·
       rw[if_neg c11] at H;have c11b0:decide (x18_2 < (l0_1.length:Int))=false:=decide_eq_false c11;clear c11;obtain rfl:=Option.some.inj H;go_wp2;go_ret
       exact ⟨by first|rfl|(simp[errW_none,errW_some] <;> rfl)|(simp[*,errW_none,errW_some] <;> rfl),by repeat (first|(with_reducible first|exact HB.out|apply ba'|apply bd'|apply be'|refine bs' ?_ GE232.out)|exact HB.out)⟩
def spec_l1Has.l0:Nat→Int→List Int→Int→Int→Option (Bool)
 | 0,_,_,_,_=>none
 | k+1,x1,x7,x8,x9=>if x9 < x8 then (if 0≤x9 then (if x9 < (x7.length:Int) then (if (rd x7 x9)=x1 then (some true) else (spec_l1Has.l0 k x1 x7 x8 (wrap64 (x9+1)))) else (none)) else (none)) else (some false)
def spec_l1Has.f (k:Nat) (l0:List Int) (a1:Int):Option (Bool):=spec_l1Has.l0 k a1 l0 (l0.length:Int) 0
set_option maxHeartbeats 8000000 in
set_option maxRecDepth 100000 in
theorem spec_l1Has.calls (k:Nat) (A0:Option Addr) (c0:Nat) (l0:List Int) (a1:Int) (r:Bool) (w:World) (hr0:Kd.C (Kd.int .i64) w A0 l0.length l0) (hc0:l0.length≤c0) (h:spec_l1Has.f k l0 a1=some r) :
  Calls Try.prog 63 #[.slice A0 l0.length c0, .int .i64 a1] w fun e w'=>e = .returned (.bool r)∧Drawn0 w w':=by
 have HR0:=am' hr0
 have HC0:=am' hc0
 clear hr0 hc0;have H:(spec_l1Has.l0 k a1 l0 (l0.length:Int) 0)=some r:=h
 clear h;have H':=am' H
 clear H;go_enter Try.func63,Try.ntmps63
 go_wp2
 go_loopg [9] k (fun kq v9 w'=>∃ (x9_1:Int),v9 = .int .i64 x9_1∧Aside0 (spec_l1Has.l0 kq a1 l0 (l0.length:Int) x9_1=some r)∧Aside0 (kq≤k)∧Drawn0 w w')
 case atStart=>exact ⟨(0),(by first|rfl|(simp;done)|(simp[*];done)),H',⟨Nat.le_refl _⟩,by repeat (first|exact Drawn0.refl _|apply Drawn0.step)⟩
 case round =>
  clear H';try clear p2
  obtain ⟨x9_1,rfl,HA,HK1,⟨m1,rfl⟩⟩:=hrel;cases gk with
  | zero=>exact absurd HA.out (by simp[spec_l1Has.l0])
  | succ k1 =>
   have H:=HA.out;clear HA;simp only[spec_l1Has.l0] at H;by_cases c3:x9_1 < (l0.length:Int)
   ·
    rw[if_pos c3] at H;have c3b0:decide (x9_1 < (l0.length:Int))=true:=decide_eq_true c3;clear c3;by_cases c4:0≤x9_1
    ·
     rw[if_pos c4] at H;have c4b0:decide (0≤x9_1)=true:=decide_eq_true c4;clear c4;by_cases c5:x9_1 < (l0.length:Int)
     ·
      rw[if_pos c5] at H;have c5b0:decide (x9_1 < (l0.length:Int))=true:=decide_eq_true c5;clear c5;by_cases c6:(rd l0 x9_1)=a1
      ·
       rw[if_pos c6] at H;have c6b0:((rd l0 x9_1) == a1)=true:=beq_iff_eq.mpr c6;have c6b1:((rd l0 x9_1) != a1)=false:=bne_eq_false_iff_eq.mpr c6;clear c6;obtain rfl:=Option.some.inj H;have p239:0≤(x9_1:Int):=of_decide_eq_true (by first|(with_reducible assumption)|assumption);have q239:x9_1 < (l0.length:Int):=of_decide_eq_true (by first|(with_reducible assumption)|assumption);obtain ⟨ad239,e239,hx239_0⟩:=Kd.at_int HR0.out x9_1 p239 q239;cases e239;replace p239:=eq_true p239;replace q239:=eq_true q239;go_wp2;go_ret
       exact ⟨by first|rfl|(simp;done)|(simp[*];done),by repeat (first|exact Drawn0.refl _|apply Drawn0.step)⟩
      ·
       rw[if_neg c6] at H;have c6b0:((rd l0 x9_1) == a1)=false:=beq_eq_false_iff_ne.mpr c6;have c6b1:((rd l0 x9_1) != a1)=true:=bne_iff_ne.mpr c6;have H':=am' H;clear H;have p239:0≤(x9_1:Int):=of_decide_eq_true (by first|(with_reducible assumption)|assumption);have q239:x9_1 < (l0.length:Int):=of_decide_eq_true (by first|(with_reducible assumption)|assumption);obtain ⟨ad239,e239,hx239_0⟩:=Kd.at_int HR0.out x9_1 p239 q239;cases e239;replace p239:=eq_true p239;replace q239:=eq_true q239;go_wp2;go_roundg k1
       case measure=>have:=HK1.out;omega
       case rel=>exact ⟨(wrap64 (x9_1+1)),(by first|rfl|(simp;done)|(simp[*];done)),H',⟨by have:=HK1.out;omega⟩,by repeat (first|exact Drawn0.refl _|apply Drawn0.step)⟩
     ·
      rw[if_neg c5] at H;exact absurd H (by simp)
    ·
     rw[if_neg c4] at H;exact absurd H (by simp)
   ·
    rw[if_neg c3] at H;have c3b0:decide (x9_1 < (l0.length:Int))=false:=decide_eq_false c3;clear c3;obtain rfl:=Option.some.inj H;go_wp2;go_ret
    exact ⟨by first|rfl|(simp;done)|(simp[*];done),by repeat (first|exact Drawn0.refl _|apply Drawn0.step)⟩
mutual
def spec_seIndex.j0:Nat→Int→List Bool→Bool→Option (Int)
 | 0,_,_,_=>none
 | k+1,x3,x241000,x241001=>spec_seIndex.l0 k x3 x241000 (x241000.length:Int) 0
def spec_seIndex.l0:Nat→Int→List Bool→Int→Int→Option (Int)
 | 0,_,_,_,_=>none
 | k+1,x3,x9,x10,x11=>if x11 < x10 then (if 0≤x11 then (if x11 < (x9.length:Int) then (if rdOf false x9 x11=true then (spec_seIndex.l0 k (wrap64 ((wrap64 (x3 * 2))+1)) x9 x10 (wrap64 (x11+1))) else (spec_seIndex.l0 k (wrap64 (x3 * 2)) x9 x10 (wrap64 (x11+1)))) else (none)) else (none)) else (some x3)
end
def spec_seIndex.f (k:Nat) (l0_0:List Bool) (a0_1:Bool):Option (Int):=if a0_1=true then (spec_seIndex.j0 k 1 l0_0 a0_1) else (spec_seIndex.j0 k 0 l0_0 a0_1)
theorem spec_seIndex.mono_l:∀ k,(∀ y0 y1 y2,LeO (spec_seIndex.j0 k y0 y1 y2) (spec_seIndex.j0 (k+1) y0 y1 y2))∧(∀ y0 y1 y2 y3,LeO (spec_seIndex.l0 k y0 y1 y2 y3) (spec_seIndex.l0 (k+1) y0 y1 y2 y3))
 | 0=>⟨fun _ _ _ r h=>by simp[spec_seIndex.j0] at h,fun _ _ _ _ r h=>by simp[spec_seIndex.l0] at h⟩
 | k+1=>by
  obtain ⟨ih0,ih1⟩:=spec_seIndex.mono_l k;refine ⟨?_,?_⟩
  ·
   intro y0 y1 y2;unfold spec_seIndex.j0
   repeat' first
   | (with_reducible exact ih0 _ _ _)
   | (with_reducible exact ih1 _ _ _ _)
   | (with_reducible exact LeO.refl _)
   | (with_reducible exact LeO.none _)
   | (with_reducible refine LeO.ite ?_ ?_)
   | (with_reducible refine LeO.bind ?_ (fun _=>?_))
   | exact ih0 _ _ _
   | exact ih1 _ _ _ _
   | exact LeO.none _
   | refine LeO.ite ?_ ?_
   | refine LeO.bind ?_ (fun _=>?_)
  ·
   intro y0 y1 y2 y3;unfold spec_seIndex.l0
   repeat' first
   | (with_reducible exact ih0 _ _ _)
   | (with_reducible exact ih1 _ _ _ _)
   | (with_reducible exact LeO.refl _)
   | (with_reducible exact LeO.none _)
   | (with_reducible refine LeO.ite ?_ ?_)
   | (with_reducible refine LeO.bind ?_ (fun _=>?_))
   | exact ih0 _ _ _
   | exact ih1 _ _ _ _
   | exact LeO.none _
   | refine LeO.ite ?_ ?_
   | refine LeO.bind ?_ (fun _=>?_)
theorem spec_seIndex.mono:∀ a0 a1 k,LeO (spec_seIndex.f k a0 a1) (spec_seIndex.f (k+1) a0 a1):=by
 intro a0 a1 k;obtain ⟨ih0,ih1⟩:=spec_seIndex.mono_l k
 unfold spec_seIndex.f
 repeat' first
   | (with_reducible exact ih0 _ _ _)
   | (with_reducible exact ih1 _ _ _ _)
   | (with_reducible exact LeO.refl _)
   | (with_reducible exact LeO.none _)
   | (with_reducible refine LeO.ite ?_ ?_)
   | (with_reducible refine LeO.bind ?_ (fun _=>?_))
   | exact ih0 _ _ _
   | exact ih1 _ _ _ _
   | exact LeO.none _
   | refine LeO.ite ?_ ?_
   | refine LeO.bind ?_ (fun _=>?_)
set_option maxHeartbeats 8000000 in
set_option maxRecDepth 100000 in
theorem spec_seIndex.calls (k:Nat) (A0_0:Option Addr) (c0_0:Nat) (l0_0:List Bool) (a0_1:Bool) (r:Int) (w:World) (hr0_0:Kd.C Kd.bool w A0_0 l0_0.length l0_0) (hc0_0:l0_0.length≤c0_0) (h:spec_seIndex.f k l0_0 a0_1=some r) :
  Calls Try.prog 104 #[.agg #[.slice A0_0 l0_0.length c0_0, .bool a0_1]] w fun e w'=>e = .returned (.int .i64 r)∧Below w.heap.size w w':=by
 have hu73:=Try.underlying73
 have HR0_0:=am' hr0_0
 have HC0_0:=am' hc0_0
 clear hr0_0 hc0_0;have HB:=am' (Below.refl w.heap.size w)
 have H:(if a0_1=true then (spec_seIndex.j0 k 1 l0_0 a0_1) else (spec_seIndex.j0 k 0 l0_0 a0_1))=some r:=h
 clear h;have HC2:=am' H
 clear H;go_enter Try.func104,Try.ntmps104
 go_upto_if 7 with (first|((with_reducible refine gate_dst (N:=1) rfl ?_);refine box_event ?hg (N:=1) ?hd (cs:=#[.slice A0_0 l0_0.length c0_0, .bool a0_1]) (t:=73) ?hr ?_;(case hd=>rfl);(case hg=>rfl);(case hr=>first|(go_simp;done)|(go_simp;rfl));intro gb240 hg w3 hbox hb;have n0_:=am' (below_step (by repeat (first|(with_reducible first|exact HB.out|apply ba'|apply bd'|apply be')|exact HB.out)) hb);have n1_:=am' (hbox);have n2_:=am' ((by rw[hg];exact (below_size (by repeat (first|(with_reducible first|exact HB.out|apply ba'|apply bd'|apply be')|exact HB.out))):w.heap.size≤gb240));have n3_:=am' ((by rw[hg];exact (below_size (by repeat (first|(with_reducible first|exact HB.out|apply ba'|apply bd'|apply be')|exact HB.out))):w.heap.size≤gb240));clear HB;have HB:=n0_;have BK240:=n1_;have GW240:=n2_;have GE240:=n3_;clear n0_ n1_ n2_ n3_;clear hb hbox hg;have hcz4_0:w3.cell? ⟨gb240,0,none⟩=some (.slice A0_0 l0_0.length c0_0):=(blk_cell BK240.out 0).trans rfl;have hcz4_1:w3.cell? ⟨gb240,1,none⟩=some (.bool a0_1):=(blk_cell BK240.out 1).trans rfl;have hfz4_0:=blk_frozen BK240.out 0;have hfz4_1:=blk_frozen BK240.out 1))
 (try simp only[Act.put,sa',sb',sc'])
 go_cut [3] (fun v3 wc=>∃ (kq:Nat) (x3_1:Int),v3 = .int .i64 x3_1∧Aside0 (spec_seIndex.j0 kq x3_1 l0_0 a0_1=some r)∧Aside0 (kq≤k)∧Aside0 (wc.heap[gb240]? = some (.cells #[(.slice A0_0 l0_0.length c0_0), .bool a0_1] 73 (0,0)))∧Aside0 (Below w.heap.size w wc))
 case first =>
  have H:=HC2.out;clear HC2;by_cases c5:a0_1=true
  ·
   subst c5;have H1:(spec_seIndex.j0 k 1 l0_0 true)=some r:=by rw[if_pos rfl] at H;exact H
   clear H;have H:=H1;clear H1;have H':=am' H;clear H;go_wp2;go_meet
   case rel=>exact ⟨_,(1),(by first|rfl|(simp;done)|(simp[*];done)),H',⟨by first|omega|exact Nat.le_refl _⟩,⟨by (with_reducible repeat (first|refine kn' ?_ _|refine kd' ?_|refine ka' ?_ _));exact BK240.out⟩,⟨by repeat (first|(with_reducible first|exact HB.out|apply ba'|apply bd'|apply be'|refine bs' ?_ GE240.out)|exact HB.out)⟩⟩
  ·
   replace c5:=Bool.eq_false_iff.mpr c5;subst c5;have H1:(spec_seIndex.j0 k 0 l0_0 false)=some r:=by rw[if_neg (show ¬ (false=true) by decide)] at H;exact H
   clear H;have H:=H1;clear H1;have H':=am' H;clear H;go_wp2;go_meet
   case rel=>exact ⟨_,(0),(by first|rfl|(simp;done)|(simp[*];done)),H',⟨by first|omega|exact Nat.le_refl _⟩,⟨by (with_reducible repeat (first|refine kn' ?_ _|refine kd' ?_|refine ka' ?_ _));exact BK240.out⟩,⟨by repeat (first|(with_reducible first|exact HB.out|apply ba'|apply bd'|apply be'|refine bs' ?_ GE240.out)|exact HB.out)⟩⟩
 case rest =>
  clear HC2;try clear c1
  try clear p2
  try clear c5
  try clear hcz4_0
  try clear hcz4_1
  try clear hfz4_0
  try clear hfz4_1
  obtain ⟨kq,x3_1,rfl,HA,HJ1,BK240,HB⟩:=hcut;cases kq with
  | zero=>exact absurd HA.out (by simp[spec_seIndex.j0])
  | succ kj1 =>
   have H:=HA.out;clear HA;simp only[spec_seIndex.j0] at H;have H':=am' H;clear H;have hcz6_0:wc.cell? ⟨gb240,0,none⟩=some (.slice A0_0 l0_0.length c0_0):=(blk_cell BK240.out 0).trans rfl;have hcz6_1:wc.cell? ⟨gb240,1,none⟩=some (.bool a0_1):=(blk_cell BK240.out 1).trans rfl;have hfz6_0:=blk_frozen BK240.out 0;have hfz6_1:=blk_frozen BK240.out 1;go_wp2;go_loopg [3,11] kj1 (fun kq v3 v11 w'=>∃ (x3_2:Int) (x11_2:Int),v3 = .int .i64 x3_2∧v11 = .int .i64 x11_2∧Aside0 (spec_seIndex.l0 kq x3_2 l0_0 (l0_0.length:Int) x11_2=some r)∧Aside0 (kq≤kj1)∧Aside0 (w'.heap[gb240]? = some (.cells #[(.slice A0_0 l0_0.length c0_0), .bool a0_1] 73 (0,0)))∧Aside0 (Below w.heap.size w w'))
   case atStart=>exact ⟨(x3_1),(0),(by first|rfl|(simp;done)|(simp[*];done)),(by first|rfl|(simp;done)|(simp[*];done)),H',⟨Nat.le_refl _⟩,⟨by (with_reducible repeat (first|refine kn' ?_ _|refine kd' ?_|refine ka' ?_ _));exact BK240.out⟩,⟨by repeat (first|(with_reducible first|exact HB.out|apply ba'|apply bd'|apply be'|refine bs' ?_ GE240.out)|exact HB.out)⟩⟩
   case round =>
    clear H';try clear c1
    try clear p2
    try clear c5
    try clear hcz4_0
    try clear hcz4_1
    try clear hcz6_0
    try clear hcz6_1
    try clear hfz4_0
    try clear hfz4_1
    try clear hfz6_0
    try clear hfz6_1
    try clear p2
    obtain ⟨x3_2,x11_2,rfl,rfl,HA,HK2,BK240,HB⟩:=hrel;cases gk with
    | zero=>exact absurd HA.out (by simp[spec_seIndex.l0])
    | succ k2 =>
     have H:=HA.out;clear HA;simp only[spec_seIndex.l0] at H;by_cases c7:x11_2 < (l0_0.length:Int)
     ·
      rw[if_pos c7] at H;have c7b0:decide (x11_2 < (l0_0.length:Int))=true:=decide_eq_true c7;clear c7;by_cases c8:0≤x11_2
      ·
       rw[if_pos c8] at H;have c8b0:decide (0≤x11_2)=true:=decide_eq_true c8;clear c8;by_cases c9:x11_2 < (l0_0.length:Int)
       ·
        rw[if_pos c9] at H;have c9b0:decide (x11_2 < (l0_0.length:Int))=true:=decide_eq_true c9;clear c9;obtain ⟨bq10,hbq10⟩:∃ b_:Bool,b_=(rdOf false l0_0 x11_2):=⟨_,rfl⟩
        replace H:(if bq10=true then (spec_seIndex.l0 k2 (wrap64 ((wrap64 (x3_2 * 2))+1)) l0_0 (l0_0.length:Int) (wrap64 (x11_2+1))) else (spec_seIndex.l0 k2 (wrap64 (x3_2 * 2)) l0_0 (l0_0.length:Int) (wrap64 (x11_2+1))))=some r:=by rw[← hbq10] at H;exact H
        have Nbq10:=am' hbq10;clear hbq10;by_cases c11:bq10=true
        ·
         subst c11;have H1:(spec_seIndex.l0 k2 (wrap64 ((wrap64 (x3_2 * 2))+1)) l0_0 (l0_0.length:Int) (wrap64 (x11_2+1)))=some r:=by rw[if_pos rfl] at H;exact H
         clear H;have H:=H1;clear H1;have H':=am' H;clear H;have p241:0≤(x11_2:Int):=of_decide_eq_true (by first|(with_reducible assumption)|assumption);have q241:x11_2 < (l0_0.length:Int):=of_decide_eq_true (by first|(with_reducible assumption)|assumption);obtain ⟨ad241,e241,hx241_0⟩:=Kd.at_bool HR0_0.out x11_2 p241 q241
         (try rw [← Nbq10.out] at hx241_0)
         cases e241
         replace hx241_0:=(HB.out.cell (bl' w _ hx241_0)).trans hx241_0;replace p241:=eq_true p241;replace q241:=eq_true q241;go_wp2;go_roundg k2
         case measure=>have:=HJ1.out;have:=HK2.out;omega
         case rel=>exact ⟨(wrap64 ((wrap64 (x3_2 * 2))+1)),(wrap64 (x11_2+1)),(by first|rfl|(simp;done)|(simp[*];done)),(by first|rfl|(simp;done)|(simp[*];done)),H',⟨by have:=HJ1.out;have:=HK2.out;omega⟩,⟨by (with_reducible repeat (first|refine kn' ?_ _|refine kd' ?_|refine ka' ?_ _));exact BK240.out⟩,⟨by repeat (first|(with_reducible first|exact HB.out|apply ba'|apply bd'|apply be'|refine bs' ?_ GE240.out)|exact HB.out)⟩⟩
        ·
         replace c11:=Bool.eq_false_iff.mpr c11;subst c11;have H1:(spec_seIndex.l0 k2 (wrap64 (x3_2 * 2)) l0_0 (l0_0.length:Int) (wrap64 (x11_2+1)))=some r:=by rw[if_neg (show ¬ (false=true) by decide)] at H;exact H
         clear H;have H:=H1;clear H1;have H':=am' H;clear H;have p241:0≤(x11_2:Int):=of_decide_eq_true (by first|(with_reducible assumption)|assumption);have q241:x11_2 < (l0_0.length:Int):=of_decide_eq_true (by first|(with_reducible assumption)|assumption);obtain ⟨ad241,e241,hx241_0⟩:=Kd.at_bool HR0_0.out x11_2 p241 q241
         (try rw [← Nbq10.out] at hx241_0)
         cases e241
         replace hx241_0:=(HB.out.cell (bl' w _ hx241_0)).trans hx241_0;replace p241:=eq_true p241;replace q241:=eq_true q241;go_wp2;go_roundg k2
         case measure=>have:=HJ1.out;have:=HK2.out;omega
         case rel=>exact ⟨(wrap64 (x3_2 * 2)),(wrap64 (x11_2+1)),(by first|rfl|(simp;done)|(simp[*];done)),(by first|rfl|(simp;done)|(simp[*];done)),H',⟨by have:=HJ1.out;have:=HK2.out;omega⟩,⟨by (with_reducible repeat (first|refine kn' ?_ _|refine kd' ?_|refine ka' ?_ _));exact BK240.out⟩,⟨by repeat (first|(with_reducible first|exact HB.out|apply ba'|apply bd'|apply be'|refine bs' ?_ GE240.out)|exact HB.out)⟩⟩
       ·
        rw[if_neg c9] at H;exact absurd H (by simp)
      ·
       rw[if_neg c8] at H;exact absurd H (by simp)
     ·
      rw[if_neg c7] at H;have c7b0:decide (x11_2 < (l0_0.length:Int))=false:=decide_eq_false c7;clear c7;obtain rfl:=Option.some.inj H;go_wp2;go_ret
      exact ⟨by first|rfl|(simp[errW_none,errW_some] <;> rfl)|(simp[*,errW_none,errW_some] <;> rfl),by repeat (first|(with_reducible first|exact HB.out|apply ba'|apply bd'|apply be'|refine bs' ?_ GE240.out)|exact HB.out)⟩
def spec_keIndex.f (k:Nat) (l0_0:List Bool) (a0_1:Bool):Option (Int):=(spec_seIndex.f k l0_0 a0_1).bind fun t243=>(some t243)
set_option maxHeartbeats 8000000 in
set_option maxRecDepth 100000 in
theorem spec_keIndex.calls (k:Nat) (A0_0:Option Addr) (c0_0:Nat) (l0_0:List Bool) (a0_1:Bool) (r:Int) (w:World) (hr0_0:Kd.C Kd.bool w A0_0 l0_0.length l0_0) (hc0_0:l0_0.length≤c0_0) (h:spec_keIndex.f k l0_0 a0_1=some r) :
  Calls Try.prog 70 #[.agg #[.slice A0_0 l0_0.length c0_0, .bool a0_1]] w fun e w'=>e = .returned (.int .i64 r)∧Below w.heap.size w w':=by
 have hu34:=Try.underlying34
 have hu73:=Try.underlying73
 have HR0_0:=am' hr0_0
 have HC0_0:=am' hc0_0
 clear hr0_0 hc0_0;have HB:=am' (Below.refl w.heap.size w)
 have H:((spec_seIndex.f k l0_0 a0_1).bind fun t243=>(some t243))=some r:=h
 clear h;replace H:=Option.bind_eq_some_iff.mp H
 obtain ⟨t243,A20,H⟩:=H
 replace H:(some t243)=some r:=H
 have A2:=am' A20
 clear A20;obtain rfl:=Option.some.inj H
 go_enter Try.func70,Try.ntmps70
 go_wp2_with (first|((with_reducible refine gate_dst (N:=1) rfl ?_);refine box_event ?hg (N:=1) ?hd (cs:=#[.slice A0_0 l0_0.length c0_0, .bool a0_1]) (t:=34) ?hr ?_;(case hd=>rfl);(case hg=>rfl);(case hr=>first|(go_simp;done)|(go_simp;rfl));intro gb242 hg w3 hbox hb;have n0_:=am' (below_step (by repeat (first|(with_reducible first|exact HB.out|apply ba'|apply bd'|apply be')|exact HB.out)) hb);have n1_:=am' (hbox);have n2_:=am' ((by rw[hg];exact (below_size (by repeat (first|(with_reducible first|exact HB.out|apply ba'|apply bd'|apply be')|exact HB.out))):w.heap.size≤gb242));have n3_:=am' ((by rw[hg];exact (below_size (by repeat (first|(with_reducible first|exact HB.out|apply ba'|apply bd'|apply be')|exact HB.out))):w.heap.size≤gb242));clear HB;have HB:=n0_;have BK242:=n1_;have GW242:=n2_;have GE242:=n3_;clear n0_ n1_ n2_ n3_;clear hb hbox hg;have hcz4_0:w3.cell? ⟨gb242,0,none⟩=some (.slice A0_0 l0_0.length c0_0):=(blk_cell BK242.out 0).trans rfl;have hcz4_1:w3.cell? ⟨gb242,1,none⟩=some (.bool a0_1):=(blk_cell BK242.out 1).trans rfl;have hfz4_0:=blk_frozen BK242.out 0;have hfz4_1:=blk_frozen BK242.out 1)|((with_reducible refine gate_callee (f:=104) rfl ?_);refine goesL_ (some 8) rfl rfl Try.func104 (by kernel_rfl) rfl #[.agg #[.slice A0_0 l0_0.length c0_0, .bool a0_1]] rfl (by (try simp only[List.map_toArray,List.map_cons,List.map_nil]);first|done|rfl|(simp only[List.length_drop,List.length_take];rfl)) ?_;(with_reducible refine (spec_seIndex.calls k _ _ l0_0 a0_1 t243 _ ?side1 ?side2 A2.out).mono ?_);(case side1=>repeat (first|exact (Kd.C_below HR0_0.out HB.out)|(with_reducible refine ca' ?_ _)|(with_reducible refine cn' ?_ _)|(with_reducible refine cd' ?_)));(case side2=>exact HC0_0.out);rintro e w5 ⟨rfl,hb⟩;refine ⟨_,rfl,?_⟩;have n0_:=am' (blk_below (g:=gb242) (o := .cells #[.slice A0_0 l0_0.length c0_0, .bool a0_1] 34 (0,0)) (by (with_reducible repeat (first|refine kn' ?_ _|refine kd' ?_|refine ka' ?_ _));exact BK242.out) hb);have n1_:=am' (below_step (by repeat (first|(with_reducible first|exact HB.out|apply ba'|apply bd'|apply be'|refine bs' ?_ GE242.out)|exact HB.out)) hb);clear BK242;clear HB;have BK242:=n0_;have HB:=n1_;clear n0_ n1_;(try clear hb);(try clear hb2);(try clear hk);(try clear hi)))
 go_ret
 exact ⟨by first|rfl|(simp[errW_none,errW_some] <;> rfl)|(simp[*,errW_none,errW_some] <;> rfl),by repeat (first|(with_reducible first|exact HB.out|apply ba'|apply bd'|apply be'|refine bs' ?_ GE242.out)|exact HB.out)⟩
def spec_keStart.f (a0_0:Int) (l0_1:List (List Int)) (a0_2:Int):Option (List Bool × Bool):=if 0≤a0_0 then (if (a0_0:Int).toNat≤281474976710656 then (some ((List.replicate (a0_0:Int).toNat false),false)) else (none)) else (none)
set_option maxHeartbeats 8000000 in
set_option maxRecDepth 100000 in
theorem spec_keStart.calls (a0_0:Int) (A0_1:Option Addr) (c0_1:Nat) (l0_1:List (List Int)) (a0_2:Int) (r1:List Bool) (r2:Bool) (w:World) (hr0_1:Kd.C (Kd.slice 3 (Kd.int .i64)) w A0_1 l0_1.length l0_1) (hc0_1:l0_1.length≤c0_1) (h:spec_keStart.f a0_0 l0_1 a0_2=some (r1,r2)) :
  Calls Try.prog 71 #[.agg #[.int .i64 a0_0, .slice A0_1 l0_1.length c0_1, .int .i64 a0_2]] w fun e w'=>∃ v0_:Value,e = .returned (.agg #[v0_, .bool r2])∧Kd.R Kd.bool 4 w' w.heap.size (fun _=>True) v0_ r1∧Below w.heap.size w w':=by
 have hu32:=Try.underlying32
 have hu34:=Try.underlying34
 have HR0_1:=am' hr0_1
 have HC0_1:=am' hc0_1
 clear hr0_1 hc0_1;have HB:=am' (Below.refl w.heap.size w)
 have H:(if 0≤a0_0 then (if (a0_0:Int).toNat≤281474976710656 then (some ((List.replicate (a0_0:Int).toNat false),false)) else (none)) else (none))=some (r1,r2):=h
 clear h;by_cases c2:0≤a0_0
 ·
  rw[if_pos c2] at H;have c2b0:=eq_true c2;have c2b1:decide (0≤a0_0)=true:=decide_eq_true c2;clear c2;by_cases c3:(a0_0:Int).toNat≤281474976710656
  ·
   rw[if_pos c3] at H;have c3b0:=eq_true c3;have c3b1:decide ((a0_0:Int).toNat≤281474976710656)=true:=decide_eq_true c3;clear c3;obtain ⟨y246,hy246⟩:∃ y_:List Bool,y_=(List.replicate (a0_0:Int).toNat false):=⟨_,rfl⟩
   replace H:(some (y246,false))=some (r1,r2):=by first|(rw[hy246];with_reducible exact H)|(have H2_:=(Option.bind_some _ _).symm.trans H;rw[hy246];with_reducible exact H2_)|(have H2_:=(Option.bind_some _ _).symm.trans H;with_reducible exact H2_)|with_reducible exact H|(rw[hy246];exact H)|exact H
   have Ny246:=am' hy246;clear hy246;simp only[Option.some.injEq,Prod.mk.injEq] at H;obtain ⟨rfl,rfl⟩:=H;go_enter Try.func71,Try.ntmps71;go_wp2_with (first|((with_reducible refine gate_dst (N:=1) rfl ?_);refine box_event ?hg (N:=1) ?hd (cs:=#[.int .i64 a0_0, .slice A0_1 l0_1.length c0_1, .int .i64 a0_2]) (t:=32) ?hr ?_;(case hd=>rfl);(case hg=>rfl);(case hr=>first|(go_simp;done)|(go_simp;rfl));intro gb244 hg w4 hbox hb;have n0_:=am' (below_step (by repeat (first|(with_reducible first|exact HB.out|apply ba'|apply bd'|apply be')|exact HB.out)) hb);have n1_:=am' (hbox);have n2_:=am' ((by rw[hg];exact (below_size (by repeat (first|(with_reducible first|exact HB.out|apply ba'|apply bd'|apply be')|exact HB.out))):w.heap.size≤gb244));have n3_:=am' ((by rw[hg];exact (below_size (by repeat (first|(with_reducible first|exact HB.out|apply ba'|apply bd'|apply be')|exact HB.out))):w.heap.size≤gb244));clear HB;have HB:=n0_;have BK244:=n1_;have GW244:=n2_;have GE244:=n3_;clear n0_ n1_ n2_ n3_;clear hb hbox hg)|((with_reducible refine gate_dst (N:=2) rfl ?_);refine box_event ?hg (N:=2) ?hd (cs:=#[.slice none 0 0, .bool false]) (t:=34) ?hr ?_;(case hd=>rfl);(case hg=>rfl);(case hr=>first|(go_simp;done)|(go_simp;rfl));intro gb245 hg w5 hbox hb;have n0_:=am' (blk_below (g:=gb244) (o := .cells #[.int .i64 a0_0, .slice A0_1 l0_1.length c0_1, .int .i64 a0_2] 32 (0,0)) (by (with_reducible repeat (first|refine kn' ?_ _|refine kd' ?_|refine ka' ?_ _));exact BK244.out) hb);have n1_:=am' (below_step (by repeat (first|(with_reducible first|exact HB.out|apply ba'|apply bd'|apply be'|refine bs' ?_ GE244.out)|exact HB.out)) hb);have n2_:=am' (hbox);have n3_:=am' ((by rw[hg];exact (below_size (by repeat (first|(with_reducible first|exact HB.out|apply ba'|apply bd'|apply be'|refine bs' ?_ GE244.out)|exact HB.out))):w.heap.size≤gb245));have n4_:=am' ((by rw[hg];exact (below_size (by repeat (first|(with_reducible first|exact HB.out|apply ba'|apply bd'|apply be'|refine bs' ?_ GE244.out)|exact HB.out))):w.heap.size≤gb245));have n5_:=am' ((by rw[hg];exact Nat.ne_of_lt (blk_lt (g:=gb244) (o := .cells #[.int .i64 a0_0, .slice A0_1 l0_1.length c0_1, .int .i64 a0_2] 32 (0,0)) (by (with_reducible repeat (first|refine kn' ?_ _|refine kd' ?_|refine ka' ?_ _));exact BK244.out)):gb244≠gb245));have n6_:=am' ((by rw[hg];exact Nat.ne_of_gt (blk_lt (g:=gb244) (o := .cells #[.int .i64 a0_0, .slice A0_1 l0_1.length c0_1, .int .i64 a0_2] 32 (0,0)) (by (with_reducible repeat (first|refine kn' ?_ _|refine kd' ?_|refine ka' ?_ _));exact BK244.out)):gb245≠gb244));clear BK244;clear HB;have BK244:=n0_;have HB:=n1_;have BK245:=n2_;have GW245:=n3_;have GE245:=n4_;have NB244_245:=n5_;have NB245_244:=n6_;clear n0_ n1_ n2_ n3_ n4_ n5_ n6_;clear hb hbox hg;have hnb6:=NB244_245.out;have hnc6:=NB245_244.out;have hcz7_0:w5.cell? ⟨gb244,0,none⟩=some (.int .i64 a0_0):=(blk_cell BK244.out 0).trans rfl;have hcz7_1:w5.cell? ⟨gb244,1,none⟩=some (.slice A0_1 l0_1.length c0_1):=(blk_cell BK244.out 1).trans rfl;have hcz7_2:w5.cell? ⟨gb244,2,none⟩=some (.int .i64 a0_2):=(blk_cell BK244.out 2).trans rfl;have hfz7_0:=blk_frozen BK244.out 0;have hfz7_1:=blk_frozen BK244.out 1;have hfz7_2:=blk_frozen BK244.out 2)|((with_reducible refine gate_dst (N:=5) rfl ?_);refine Kd.R_make Kd.bool _ 4 rfl (N:=5) rfl 25 _ _ rfl a0_0 rfl rfl Try.underlying25 (.bool false) 1 info4 rfl (by decide) (by omega) false (ok:=fun _=>True) (okp:=fun _=>True) rfl (fun _ hk=>hk) trivial (of_decide_eq_true (by first|(with_reducible assumption)|assumption)) (Nat.le_trans (Nat.mul_le_mul_right _ (of_decide_eq_true (by first|(with_reducible assumption)|assumption):a0_0.toNat≤281474976710656)) (by omega)) (Below.refl _ _) (Nat.le_refl _) ?_;intro v247 w8 ho9 hb hg_ hnew_;clear hg_ hnew_;(first|rw[← Ny246.out] at ho9|(simp only[Int.reduceToNat] at ho9;rw[← Ny246.out] at ho9));have n0_:=am' (Kd.R_lower ho9 (below_size (by repeat (first|(with_reducible first|exact HB.out|apply ba'|apply bd'|apply be'|refine bs' ?_ GE244.out|refine bs' ?_ GE245.out)|exact HB.out))));have n1_:=am' (blk_below (g:=gb244) (o := .cells #[.int .i64 a0_0, .slice A0_1 l0_1.length c0_1, .int .i64 a0_2] 32 (0,0)) (by (with_reducible repeat (first|refine kn' ?_ _|refine kd' ?_|refine ka' ?_ _));exact BK244.out) hb);have n2_:=am' (blk_below (g:=gb245) (o := .cells #[.slice none 0 0, .bool false] 34 (0,0)) (by (with_reducible repeat (first|refine kn' ?_ _|refine kd' ?_|refine ka' ?_ _));exact BK245.out) hb);have n3_:=am' (below_step (by repeat (first|(with_reducible first|exact HB.out|apply ba'|apply bd'|apply be'|refine bs' ?_ GE244.out|refine bs' ?_ GE245.out)|exact HB.out)) hb);clear BK244;clear BK245;clear HB;have HO248:=n0_;have BK244:=n1_;have BK245:=n2_;have HB:=n3_;clear n0_ n1_ n2_ n3_;clear hb ho9;obtain ⟨Ao10,co10,eo10⟩:=Kd.R_slice HO248.out;subst eo10;have hcz11_0:w8.cell? ⟨gb245,0,none⟩=some (.slice none 0 0):=(blk_cell BK245.out 0).trans rfl;have hcz11_1:w8.cell? ⟨gb245,1,none⟩=some (.bool false):=(blk_cell BK245.out 1).trans rfl;have hfz11_0:=blk_frozen BK245.out 0;have hfz11_1:=blk_frozen BK245.out 1))
   refine bodyPost_ret (results_cell_row rfl _ _ gb245 34 #[.slice Ao10 y246.length co10, .bool false] (0,0) _ rfl (by (with_reducible repeat (first|refine kn' ?_ _|refine kd' ?_|refine ka' ?_ _));refine blk_put (cs:=#[.slice Ao10 y246.length co10, .bool false]) ?_ 1 _ rfl;(with_reducible repeat (first|refine kn' ?_ _|refine kd' ?_|refine ka' ?_ _));refine blk_put (cs:=#[.slice none 0 0, .bool false]) ?_ 0 _ rfl;(with_reducible repeat (first|refine kn' ?_ _|refine kd' ?_|refine ka' ?_ _));exact BK245.out) Try.underlying34 rfl (by kernel_rfl)) rfl ?_
   exact ⟨_,by first|rfl|(simp[errW_none,errW_some] <;> rfl)|(simp[*,errW_none,errW_some] <;> rfl),by (with_reducible repeat (first|apply ra'|apply rn'|apply rw'));exact Kd.R_mono (Kd.R_far (p:=⟨gb245,1,none⟩) (Kd.R_far (p:=⟨gb245,0,none⟩) (Kd.R_types HO248.out BK245.out (by decide)) (fun _ hk=>hk.2) (.slice Ao10 y246.length co10)) (fun _ hk=>hk.2) (.bool false)) (fun _ hk=>trivial),by repeat (first|(with_reducible first|exact HB.out|apply ba'|apply bd'|apply be'|refine bs' ?_ GE244.out|refine bs' ?_ GE245.out)|exact HB.out)⟩
  ·
   rw[if_neg c3] at H;exact absurd H (by simp)
 ·
  rw[if_neg c2] at H;exact absurd H (by simp)
end Go.Proofs.Ytmfofjloklafoaa.C3
