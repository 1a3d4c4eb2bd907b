import Derived.Test.YtibdeohiimjocaaC19zx0
import Derived.Test.YtibdeohiimjocaaC19zx2
import Derived.Test.YtibdeohiimjocaaC19zx3
import Derived.Test.YtibdeohiimjocaaC19zx4
import Derived.Test.YtibdeohiimjocaaC19zAl
namespace Go.Proofs.Ytibdeohiimjocaa.C19
open Go.RowKit Go.Proofs.YtibdeohiimjocaaW.PrintWords Go.Proofs.YtibdeohiimjocaaW.PrintLast Go.Proofs.YtibdeohiimjocaaW.PrintMore Go.Proofs.Ytibdeohiimjocaa.H
attribute [local go_sem] max2_int min2_int max_two min_two max_three min_three max_four min_four
set_option linter.unusedVariables false
set_option linter.unusedSimpArgs false
mutual
def spec_cuRows.l0:Nat→Int→List Int→Int→Int→Int→Option (List Int)
 | 0,_,_,_,_,_=>none
 | k+1,x1,x5,x6,x142000,x142001=>(spec_cuSize.f x142000 x142001).bind fun t142=>(if x6 < t142 then ((spec_cuCan.f k x142000 x142001 x1 x6).bind fun t143=>(if t143=true then (spec_cuRows.l1 k x1 x5 x6 (x5.length:Int) x142000 x142001) else (spec_cuRows.l0 k x1 x5 (wrap64 (x6+1)) x142000 x142001))) else (some x5))
def spec_cuRows.l1:Nat→Int→List Int→Int→Int→Int→Int→Option (List Int)
 | 0,_,_,_,_,_,_=>none
 | k+1,x1,x5,x6,x7,x142000,x142001=>if x7 > 0 then ((spec_cuList.f k x6).bind fun t144=>(if 0≤(wrap64 (x7 - 1)) then (if (wrap64 (x7 - 1)) < (x5.length:Int) then ((spec_cuList.f k (rd x5 (wrap64 (x7 - 1)))).bind fun t148=>((spec_cuBefore.f k t144 t148).bind fun t151=>(if t151=true then (spec_cuRows.l1 k x1 x5 x6 (wrap64 (x7 - 1)) x142000 x142001) else (if 0≤x7 then (if x7≤(x5.length:Int) then ((spec_l1Own.f (x5.take (x7:Int).toNat)).bind fun t156=>(if t156.length < 17592186044416 then ((some (t156 ++ [x6]:List Int)).bind fun y159=>((some (x5.drop (x7:Int).toNat:List Int)).bind fun y162=>(if y159.length+y162.length < 17592186044416 then (spec_cuRows.l0 k x1 (y159 ++ y162) (wrap64 (x6+1)) x142000 x142001) else (none)))) else (none))) else (none)) else (none))))) else (none)) else (none))) else (if 0≤x7 then (if x7≤(x5.length:Int) then ((spec_l1Own.f (x5.take (x7:Int).toNat)).bind fun t173=>(if t173.length < 17592186044416 then ((some (t173 ++ [x6]:List Int)).bind fun y176=>((some (x5.drop (x7:Int).toNat:List Int)).bind fun y179=>(if y176.length+y179.length < 17592186044416 then (spec_cuRows.l0 k x1 (y176 ++ y179) (wrap64 (x6+1)) x142000 x142001) else (none)))) else (none))) else (none)) else (none))
end
def spec_cuRows.f (k:Nat) (a0_0:Int) (a0_1:Int) (a1:Int):Option (List Int):=spec_cuRows.l0 k a1 ([]:List Int) 1 a0_0 a0_1
theorem spec_cuRows.mono_l:∀ k,(∀ y0 y1 y2 y3 y4,LeO (spec_cuRows.l0 k y0 y1 y2 y3 y4) (spec_cuRows.l0 (k+1) y0 y1 y2 y3 y4))∧(∀ y0 y1 y2 y3 y4 y5,LeO (spec_cuRows.l1 k y0 y1 y2 y3 y4 y5) (spec_cuRows.l1 (k+1) y0 y1 y2 y3 y4 y5))
 | 0=>⟨fun _ _ _ _ _ r h=>by simp[spec_cuRows.l0] at h,fun _ _ _ _ _ _ r h=>by simp[spec_cuRows.l1] at h⟩
 | k+1=>by
  obtain ⟨ih0,ih1⟩:=spec_cuRows.mono_l k;refine ⟨?_,?_⟩
  ·
   intro y0 y1 y2 y3 y4;unfold spec_cuRows.l0
   repeat' first
   | (with_reducible exact ih0 _ _ _ _ _)
   | (with_reducible exact ih1 _ _ _ _ _ _)
   | (with_reducible exact spec_cuBefore.mono _ _ _)
   | (with_reducible exact spec_cuCan.mono _ _ _ _ _)
   | (with_reducible exact spec_cuList.mono _ _)
   | (with_reducible exact LeO.refl _)
   | (with_reducible exact LeO.none _)
   | (with_reducible refine LeO.ite ?_ ?_)
   | (with_reducible refine LeO.bind ?_ (fun _=>?_))
   | exact ih0 _ _ _ _ _
   | exact ih1 _ _ _ _ _ _
   | exact spec_cuBefore.mono _ _ _
   | exact spec_cuCan.mono _ _ _ _ _
   | exact spec_cuList.mono _ _
   | exact LeO.none _
   | refine LeO.ite ?_ ?_
   | refine LeO.bind ?_ (fun _=>?_)
  ·
   intro y0 y1 y2 y3 y4 y5;unfold spec_cuRows.l1
   repeat' first
   | (with_reducible exact ih0 _ _ _ _ _)
   | (with_reducible exact ih1 _ _ _ _ _ _)
   | (with_reducible exact spec_cuBefore.mono _ _ _)
   | (with_reducible exact spec_cuCan.mono _ _ _ _ _)
   | (with_reducible exact spec_cuList.mono _ _)
   | (with_reducible exact LeO.refl _)
   | (with_reducible exact LeO.none _)
   | (with_reducible refine LeO.ite ?_ ?_)
   | (with_reducible refine LeO.bind ?_ (fun _=>?_))
   | exact ih0 _ _ _ _ _
   | exact ih1 _ _ _ _ _ _
   | exact spec_cuBefore.mono _ _ _
   | exact spec_cuCan.mono _ _ _ _ _
   | exact spec_cuList.mono _ _
   | exact LeO.none _
   | refine LeO.ite ?_ ?_
   | refine LeO.bind ?_ (fun _=>?_)
theorem spec_cuRows.mono:∀ a0 a1 a2 k,LeO (spec_cuRows.f k a0 a1 a2) (spec_cuRows.f (k+1) a0 a1 a2):=by
 intro a0 a1 a2 k;obtain ⟨ih0,ih1⟩:=spec_cuRows.mono_l k
 unfold spec_cuRows.f
 repeat' first
   | (with_reducible exact ih0 _ _ _ _ _)
   | (with_reducible exact ih1 _ _ _ _ _ _)
   | (with_reducible exact spec_cuBefore.mono _ _ _)
   | (with_reducible exact spec_cuCan.mono _ _ _ _ _)
   | (with_reducible exact spec_cuList.mono _ _)
   | (with_reducible exact LeO.refl _)
   | (with_reducible exact LeO.none _)
   | (with_reducible refine LeO.ite ?_ ?_)
   | (with_reducible refine LeO.bind ?_ (fun _=>?_))
   | exact ih0 _ _ _ _ _
   | exact ih1 _ _ _ _ _ _
   | exact spec_cuBefore.mono _ _ _
   | exact spec_cuCan.mono _ _ _ _ _
   | exact spec_cuList.mono _ _
   | exact LeO.none _
   | refine LeO.ite ?_ ?_
   | refine LeO.bind ?_ (fun _=>?_)
def spec_cuRows.T7:Bool × List (List Nat × List Nat):=(true,[([],[]),([0],[0]),([1],[1]),([2],[2]),([3,2,2],[2,3]),([2],[2]),([2],[2]),([6,2],[2,6]),([5,7,2],[2,5,7]),([8,2],[2,8]),([9,4,2],[2,9]),([4,10,10,2],[2,4,10]),([2,11],[2,11])])
def spec_cuRows.B7:List Nat:=[0,1,3,7,15,7,7,71,231,487,1023,2047,4095]
theorem spec_cuRows.tab7:rtab .any (opsOf Try.f86 7)=spec_cuRows.T7:=by kernel_rfl
theorem spec_cuRows.bits7:waitsOk spec_cuRows.T7.2 spec_cuRows.B7=true:=by kernel_rfl
set_option maxHeartbeats 8000000 in
set_option maxRecDepth 100000 in
theorem spec_cuRows.calls (k:Nat) (a0_0:Int) (a0_1:Int) (a1:Int) (r:List Int) (w:World) (h:spec_cuRows.f k a0_0 a0_1 a1=some r) :
  Calls Try.prog 86 #[.agg #[.int .i64 a0_0, .int .i64 a0_1], .int .i64 a1] w fun e w'=>∃ v0_:Value,e = .returned (v0_)∧Kd.R (Kd.int .i64) 3 w' w.heap.size (fun _=>True) v0_ r∧Below w.heap.size w w':=by
 have hu40:=Try.underlying40
 have HB:=am' (Below.refl w.heap.size w)
 have H:(spec_cuRows.l0 k a1 ([]:List Int) 1 a0_0 a0_1)=some r:=h
 clear h;have H':=am' H
 clear H;go_enter Try.func86,Try.ntmps86
 go_wp2_with (first|((with_reducible refine gate_dst (N:=2) rfl ?_);refine box_event ?hg (N:=2) ?hd (cs:=#[.int .i64 a0_0, .int .i64 a0_1]) (t:=40) ?hr ?_;(case hd=>rfl);(case hg=>rfl);(case hr=>first|(go_simp;done)|(go_simp;rfl));intro gb141 hg w3 hbox hb;have n0_:=am' (below_step (by repeat (first|(with_reducible first|exact HB.out|apply ba'|apply bd'|apply be')|exact HB.out)) hb);have n1_:=am' (hbox);have n2_:=am' ((by rw[hg];exact (below_size (by repeat (first|(with_reducible first|exact HB.out|apply ba'|apply bd'|apply be')|exact HB.out))):w.heap.size≤gb141));have n3_:=am' ((by rw[hg];exact (below_size (by repeat (first|(with_reducible first|exact HB.out|apply ba'|apply bd'|apply be')|exact HB.out))):w.heap.size≤gb141));clear HB;have HB:=n0_;have BK141:=n1_;have GW141:=n2_;have GE141:=n3_;clear n0_ n1_ n2_ n3_;clear hb hbox hg))
 go_loopg [5,6] k (fun kq v5 v6 w'=>∃ (x5_1:List Int) (x6_1:Int),v6 = .int .i64 x6_1∧Aside0 (spec_cuRows.l0 kq a1 x5_1 x6_1 a0_0 a0_1=some r)∧Aside0 (kq≤k)∧Aside0 (Kd.R (Kd.int .i64) 3 w' w.heap.size (fun _=>True) v5 x5_1)∧Aside0 (w'.heap[gb141]? = some (.cells #[.int .i64 a0_0, .int .i64 a0_1] 40 (0,0)))∧Aside0 (Below w.heap.size w w'))
 case atStart=>exact ⟨(([]:List Int)),(1),(by first|rfl|(simp;done)|(simp[*];done)),H',⟨Nat.le_refl _⟩,⟨by first|exact Kd.R_nil _ _ _ _ _|exact Kd.N_nil _ _ _ _ _|exact Kd.V_nil _ _ _ _ _|exact Kd.Q_nil _ _ _ _ _|exact Kd.S_nil _ _ _ _ _⟩,⟨by (with_reducible repeat (first|refine kn' ?_ _|refine kd' ?_|refine ka' ?_ _));exact BK141.out⟩,⟨by repeat (first|(with_reducible first|exact HB.out|apply ba'|apply bd'|apply be'|refine bs' ?_ GE141.out)|exact HB.out)⟩⟩
 case round =>
  clear H';try clear p2
  obtain ⟨x5_1,x6_1,rfl,HA,HK1,HO_5,BK141,HB⟩:=hrel;cases gk with
  | zero=>exact absurd HA.out (by simp[spec_cuRows.l0])
  | succ k1 =>
   have H:=HA.out;clear HA;simp only[spec_cuRows.l0] at H;replace H:=Option.bind_eq_some_iff.mp H;obtain ⟨t142,A40,H⟩:=H;replace H:(if x6_1 < t142 then ((spec_cuCan.f k1 a0_0 a0_1 a1 x6_1).bind fun t143=>(if t143=true then (spec_cuRows.l1 k1 a1 x5_1 x6_1 (x5_1.length:Int) a0_0 a0_1) else (spec_cuRows.l0 k1 a1 x5_1 (wrap64 (x6_1+1)) a0_0 a0_1))) else (some x5_1))=some r:=H;have A4:=am' A40;clear A40;by_cases c5:x6_1 < t142
   ·
    rw[if_pos c5] at H;have c5b0:decide (x6_1 < t142)=true:=decide_eq_true c5;clear c5;replace H:=Option.bind_eq_some_iff.mp H;obtain ⟨t143,A60,H⟩:=H;replace H:(if t143=true then (spec_cuRows.l1 k1 a1 x5_1 x6_1 (x5_1.length:Int) a0_0 a0_1) else (spec_cuRows.l0 k1 a1 x5_1 (wrap64 (x6_1+1)) a0_0 a0_1))=some r:=H;have A6:=am' A60;clear A60;by_cases c7:t143=true
    ·
     subst c7;have H1:(spec_cuRows.l1 k1 a1 x5_1 x6_1 (x5_1.length:Int) a0_0 a0_1)=some r:=by rw[if_pos rfl] at H;exact H
     clear H;have H:=H1;clear H1;have H':=am' H;clear H;have hcz8_0:wr.cell? ⟨gb141,0,none⟩=some (.int .i64 a0_0):=(blk_cell BK141.out 0).trans rfl;have hcz8_1:wr.cell? ⟨gb141,1,none⟩=some (.int .i64 a0_1):=(blk_cell BK141.out 1).trans rfl;have hfz8_0:=blk_frozen BK141.out 0;have hfz8_1:=blk_frozen BK141.out 1;go_wp2_with (first|((with_reducible refine gate_callee (f:=105) rfl ?_);refine goesL_ (some 11) rfl rfl Try.func105 (by kernel_rfl) rfl #[.agg #[.int .i64 a0_0, .int .i64 a0_1]] rfl (by (try simp only[List.map_toArray,List.map_cons,List.map_nil]);first|done|rfl|(simp only[List.length_drop,List.length_take];rfl)) ?_;(with_reducible refine (spec_cuSize.calls a0_0 a0_1 t142 _ A4.out).mono ?_);rintro e w9 ⟨rfl,hb⟩;refine ⟨_,rfl,?_⟩;have n0_:=am' (Kd.R_below (by (with_reducible repeat (first|apply ra'|apply rn'|apply rw'));exact HO_5.out) hb);have n1_:=am' (blk_below (g:=gb141) (o := .cells #[.int .i64 a0_0, .int .i64 a0_1] 40 (0,0)) (by (with_reducible repeat (first|refine kn' ?_ _|refine kd' ?_|refine ka' ?_ _));exact BK141.out) hb);have n2_:=am' (below_step (by repeat (first|(with_reducible first|exact HB.out|apply ba'|apply bd'|apply be'|refine bs' ?_ GE141.out)|exact HB.out)) hb);clear HO_5;clear BK141;clear HB;have HO_5:=n0_;have BK141:=n1_;have HB:=n2_;clear n0_ n1_ n2_;(try clear hb);(try clear hb2);(try clear hk);(try clear hi);have hcz10_0:w9.cell? ⟨gb141,0,none⟩=some (.int .i64 a0_0):=(blk_cell BK141.out 0).trans rfl;have hcz10_1:w9.cell? ⟨gb141,1,none⟩=some (.int .i64 a0_1):=(blk_cell BK141.out 1).trans rfl;have hfz10_0:=blk_frozen BK141.out 0;have hfz10_1:=blk_frozen BK141.out 1)|((with_reducible refine gate_callee (f:=116) rfl ?_);refine goesL_ (some 18) rfl rfl Try.func116 (by kernel_rfl) rfl #[.agg #[.int .i64 a0_0, .int .i64 a0_1], .int .i64 a1, .int .i64 x6_1] rfl (by (try simp only[List.map_toArray,List.map_cons,List.map_nil]);first|done|rfl|(simp only[List.length_drop,List.length_take];rfl)) ?_;(with_reducible refine (spec_cuCan.calls k1 a0_0 a0_1 a1 x6_1 true _ A6.out).mono ?_);rintro e w11 ⟨rfl,hb⟩;refine ⟨_,rfl,?_⟩;have n0_:=am' (Kd.R_below (by (with_reducible repeat (first|apply ra'|apply rn'|apply rw'));exact HO_5.out) hb);have n1_:=am' (blk_below (g:=gb141) (o := .cells #[.int .i64 a0_0, .int .i64 a0_1] 40 (0,0)) (by (with_reducible repeat (first|refine kn' ?_ _|refine kd' ?_|refine ka' ?_ _));exact BK141.out) hb);have n2_:=am' (below_step (by repeat (first|(with_reducible first|exact HB.out|apply ba'|apply bd'|apply be'|refine bs' ?_ GE141.out)|exact HB.out)) hb);clear HO_5;clear BK141;clear HB;have HO_5:=n0_;have BK141:=n1_;have HB:=n2_;clear n0_ n1_ n2_;(try clear hb);(try clear hb2);(try clear hk);(try clear hi);obtain ⟨Ao12,co12,eo12⟩:=Kd.R_slice HO_5.out;subst eo12));go_loopg [7] k1 (fun kq v7 w'=>∃ (x7_2:Int),v7 = .int .i64 x7_2∧Aside0 (spec_cuRows.l1 kq a1 x5_1 x6_1 x7_2 a0_0 a0_1=some r)∧Aside0 (kq≤k1)∧Aside0 (Kd.R (Kd.int .i64) 3 w' w.heap.size (fun _=>True) (.slice Ao12 x5_1.length co12) x5_1)∧Aside0 (w'.heap[gb141]? = some (.cells #[.int .i64 a0_0, .int .i64 a0_1] 40 (0,0)))∧Aside0 (Below w.heap.size w w'))
     case atStart=>exact ⟨((x5_1.length:Int)),(by first|rfl|(simp;done)|(simp[*];done)),H',⟨Nat.le_refl _⟩,⟨by (with_reducible repeat (first|apply ra'|apply rn'|apply rw'));exact HO_5.out⟩,⟨by (with_reducible repeat (first|refine kn' ?_ _|refine kd' ?_|refine ka' ?_ _));exact BK141.out⟩,⟨by repeat (first|(with_reducible first|exact HB.out|apply ba'|apply bd'|apply be'|refine bs' ?_ GE141.out)|exact HB.out)⟩⟩
     case round =>
      clear H';try clear c1
      try clear p2
      try clear c5
      try clear c5b0
      try clear p6
      try clear c7
      try clear c8
      try clear c10
      try clear c11
      try clear hcz10_0
      try clear hcz10_1
      try clear hcz8_0
      try clear hcz8_1
      try clear hfz10_0
      try clear hfz10_1
      try clear hfz8_0
      try clear hfz8_1
      try clear p2
      obtain ⟨x7_2,rfl,HA,HK2,HO_5,BK141,HB⟩:=hrel;cases gk with
      | zero=>exact absurd HA.out (by simp[spec_cuRows.l1])
      | succ k2 =>
       have H:=HA.out;clear HA;simp only[spec_cuRows.l1] at H;by_cases c13:x7_2 > 0
       ·
        rw[if_pos c13] at H;have c13b0:decide (0 < x7_2)=true:=decide_eq_true c13;clear c13;replace H:=Option.bind_eq_some_iff.mp H;obtain ⟨t144,A140,H⟩:=H;replace H:(if 0≤(wrap64 (x7_2 - 1)) then (if (wrap64 (x7_2 - 1)) < (x5_1.length:Int) then ((spec_cuList.f k2 (rd x5_1 (wrap64 (x7_2 - 1)))).bind fun t148=>((spec_cuBefore.f k2 t144 t148).bind fun t151=>(if t151=true then (spec_cuRows.l1 k2 a1 x5_1 x6_1 (wrap64 (x7_2 - 1)) a0_0 a0_1) else (if 0≤x7_2 then (if x7_2≤(x5_1.length:Int) then ((spec_l1Own.f (x5_1.take (x7_2:Int).toNat)).bind fun t156=>(if t156.length < 17592186044416 then ((some (t156 ++ [x6_1]:List Int)).bind fun y159=>((some (x5_1.drop (x7_2:Int).toNat:List Int)).bind fun y162=>(if y159.length+y162.length < 17592186044416 then (spec_cuRows.l0 k2 a1 (y159 ++ y162) (wrap64 (x6_1+1)) a0_0 a0_1) else (none)))) else (none))) else (none)) else (none))))) else (none)) else (none))=some r:=H;have A14:=am' A140;clear A140;obtain ⟨ji15,hji15⟩:∃ j_:Int,(wrap64 (x7_2 - 1))=j_:=⟨_,rfl⟩
        replace H:(if 0≤(ji15) then (if (ji15) < (x5_1.length:Int) then ((spec_cuList.f k2 (rd x5_1 (ji15))).bind fun t148=>((spec_cuBefore.f k2 t144 t148).bind fun t151=>(if t151=true then (spec_cuRows.l1 k2 a1 x5_1 x6_1 ji15 a0_0 a0_1) else (if 0≤x7_2 then (if x7_2≤(x5_1.length:Int) then ((spec_l1Own.f (x5_1.take (x7_2:Int).toNat)).bind fun t156=>(if t156.length < 17592186044416 then ((some (t156 ++ [x6_1]:List Int)).bind fun y159=>((some (x5_1.drop (x7_2:Int).toNat:List Int)).bind fun y162=>(if y159.length+y162.length < 17592186044416 then (spec_cuRows.l0 k2 a1 (y159 ++ y162) (wrap64 (x6_1+1)) a0_0 a0_1) else (none)))) else (none))) else (none)) else (none))))) else (none)) else (none))=some r:=by first|(rw[hji15] at H;exact H)|(simp only[hji15] at H ⊢;exact H)
        (try rw [hji15] at A14)
        have hji15w:(IntKind.i64.wrap (x7_2 - 1))=ji15:=(i64_w _).trans hji15;by_cases c16:0≤(ji15)
        ·
         rw[if_pos c16] at H;have c16b0:decide (0≤(ji15))=true:=decide_eq_true c16;clear c16;by_cases c17:(ji15) < (x5_1.length:Int)
         ·
          rw[if_pos c17] at H;have c17b0:decide ((ji15) < (x5_1.length:Int))=true:=decide_eq_true c17;clear c17;replace H:=Option.bind_eq_some_iff.mp H;obtain ⟨t148,A180,H⟩:=H;replace H:((spec_cuBefore.f k2 t144 t148).bind fun t151=>(if t151=true then (spec_cuRows.l1 k2 a1 x5_1 x6_1 ji15 a0_0 a0_1) else (if 0≤x7_2 then (if x7_2≤(x5_1.length:Int) then ((spec_l1Own.f (x5_1.take (x7_2:Int).toNat)).bind fun t156=>(if t156.length < 17592186044416 then ((some (t156 ++ [x6_1]:List Int)).bind fun y159=>((some (x5_1.drop (x7_2:Int).toNat:List Int)).bind fun y162=>(if y159.length+y162.length < 17592186044416 then (spec_cuRows.l0 k2 a1 (y159 ++ y162) (wrap64 (x6_1+1)) a0_0 a0_1) else (none)))) else (none))) else (none)) else (none))))=some r:=H;have A18:=am' A180;clear A180;replace H:=Option.bind_eq_some_iff.mp H;obtain ⟨t151,A190,H⟩:=H;replace H:(if t151=true then (spec_cuRows.l1 k2 a1 x5_1 x6_1 ji15 a0_0 a0_1) else (if 0≤x7_2 then (if x7_2≤(x5_1.length:Int) then ((spec_l1Own.f (x5_1.take (x7_2:Int).toNat)).bind fun t156=>(if t156.length < 17592186044416 then ((some (t156 ++ [x6_1]:List Int)).bind fun y159=>((some (x5_1.drop (x7_2:Int).toNat:List Int)).bind fun y162=>(if y159.length+y162.length < 17592186044416 then (spec_cuRows.l0 k2 a1 (y159 ++ y162) (wrap64 (x6_1+1)) a0_0 a0_1) else (none)))) else (none))) else (none)) else (none)))=some r:=H;have A19:=am' A190;clear A190;by_cases c20:t151=true
          ·
           subst c20;have H1:(spec_cuRows.l1 k2 a1 x5_1 x6_1 ji15 a0_0 a0_1)=some r:=by rw[if_pos rfl] at H;exact H
           clear H;have H:=H1;clear H1;have H':=am' H;clear H;try go_wp2
           have n0_:=am' (rw' HO_5.out);have n1_:=am' (kd' BK141.out);have n2_:=am' (be' HB.out);clear HO_5;clear BK141;clear HB;have HO_5:=n0_;have BK141:=n1_;have HB:=n2_;clear n0_ n1_ n2_;have p147:0≤((ji15):Int):=of_decide_eq_true (by first|(with_reducible assumption)|assumption);have q147:(ji15) < (x5_1.length:Int):=of_decide_eq_true (by first|(with_reducible assumption)|assumption);obtain ⟨ad147,e147,hx147_0⟩:=Kd.at_int (Kd.R_reads' HO_5.out).2.2 (ji15) p147 q147;cases e147;replace p147:=eq_true p147;replace q147:=eq_true q147;refine start_ (n:=13) (S:=fun w'=>w'.cell? (ad147.add ((ji15)).toNat)=some (.int .i64 (rd x5_1 (ji15)))) (ds:=[]) #[false,false,false,false,false,false,false,false,false,false,false,false,false] (by kernel_rfl) rfl rfl (hx147_0) (fun hHeld=>?_);refine with_tabW spec_cuRows.tab7 spec_cuRows.bits7 (fun HT_ HW_=>?_);generalize wr.drew=w21 at HO_5 BK141 HB hx147_0 hHeld ⊢
           refine pure_ (i:=0) (N:=some 22) (v:=?_) (a':=?_) #[true,false,false,false,false,false,false,false,false,false,false,false,false] rfl rfl (any_of HT_.out (by kernel_rfl)) (fun _ _ _ h=>h) (Or.inl ⟨by rfl,?_⟩) ?_ ?_
           rotate_left
           ·
            intro w';go_simp;with_reducible rfl
           rotate_left
           ·
            simp only[Act.put,sa',sb',sc',i64_w,i32_w];rfl
           refine pure_ (i:=1) (N:=some 23) (v:=?_) (a':=?_) #[true,true,false,false,false,false,false,false,false,false,false,false,false] rfl rfl (any_of HT_.out (by kernel_rfl)) (fun _ _ _ h=>h) (Or.inl ⟨by rfl,?_⟩) ?_ ?_
           rotate_left
           ·
            intro w';go_simp;with_reducible rfl
           rotate_left
           ·
            simp only[Act.put,sa',sb',sc',i64_w,i32_w];rfl
           refine pure_ (i:=2) (N:=some 24) (v:=?_) (a':=?_) #[true,true,true,false,false,false,false,false,false,false,false,false,false] rfl rfl (any_of HT_.out (by kernel_rfl)) (fun _ _ _ h=>h) (Or.inl ⟨by rfl,?_⟩) ?_ ?_
           rotate_left
           ·
            intro w';go_simp;with_reducible rfl
           rotate_left
           ·
            simp only[Act.put,sa',sb',sc',i64_w,i32_w];rfl
           refine pure_ (i:=3) (N:=some 25) (v:=?_) (a':=?_) #[true,true,true,true,false,false,false,false,false,false,false,false,false] rfl rfl (any_of HT_.out (by kernel_rfl)) (fun _ _ _ h=>h) (Or.inl ⟨by rfl,?_⟩) ?_ ?_
           rotate_left
           ·
            intro w';go_simp;with_reducible rfl
           rotate_left
           ·
            simp only[Act.put,sa',sb',sc',i64_w,i32_w];rfl
           refine pure_ (i:=5) (N:=some 27) (v:=?_) (a':=?_) #[true,true,true,true,false,true,false,false,false,false,false,false,false] rfl rfl (any_of HT_.out (by kernel_rfl)) (fun _ _ _ h=>h) (Or.inl ⟨by rfl,?_⟩) ?_ ?_
           rotate_left
           ·
            intro w';go_simp;with_reducible rfl
           rotate_left
           ·
            simp only[Act.put,sa',sb',sc',i64_w,i32_w];rfl
           refine pure_ (i:=6) (N:=some 28) (v:=?_) (a':=?_) #[true,true,true,true,false,true,true,false,false,false,false,false,false] rfl rfl (any_of HT_.out (by kernel_rfl)) (fun _ _ _ h=>h) (Or.inl ⟨by rfl,?_⟩) ?_ ?_
           rotate_left
           ·
            intro w';go_simp;with_reducible rfl
           rotate_left
           ·
            simp only[Act.put,sa',sb',sc',i64_w,i32_w];rfl
           refine pure_ (i:=7) (N:=some 29) (v:=?_) (a':=?_) #[true,true,true,true,false,true,true,true,false,false,false,false,false] rfl rfl (any_of HT_.out (by kernel_rfl)) (fun _ _ _ h=>h) (Or.inl ⟨by rfl,?_⟩) ?_ ?_
           rotate_left
           ·
            intro w';go_simp;with_reducible rfl
           rotate_left
           ·
            simp only[Act.put,sa',sb',sc',i64_w,i32_w];rfl
           refine pure_ (i:=8) (N:=some 30) (v:=?_) (a':=?_) #[true,true,true,true,false,true,true,true,true,false,false,false,false] rfl rfl (any_of HT_.out (by kernel_rfl)) (fun _ _ _ h=>h) (Or.inl ⟨by rfl,?_⟩) ?_ ?_
           rotate_left
           ·
            intro w';go_simp;with_reducible rfl
           rotate_left
           ·
            simp only[Act.put,sa',sb',sc',i64_w,i32_w];rfl
           refine take_ (i:=9) (N:=some 31) (v:=?_) (a':=?_) #[true,true,true,true,false,true,true,true,true,true,false,false,false] rfl rfl (take_ofW HT_.out HW_.out (by kernel_rfl)) (fun _ _ _ h=>h) (Or.inl ⟨by rfl,?_⟩) hHeld ?_ ?_
           rotate_left
           ·
            intro w' s0;go_simp;with_reducible rfl
           rotate_left
           ·
            simp only[Act.put,sa',sb',sc',i64_w,i32_w];rfl
           refine one_ (i:=4) (N:=some 26) #[true,true,true,true,true,true,true,true,true,true,false,false,false] rfl rfl (one_of HT_.out (by kernel_rfl)) (by decide) (fun K hK=>?_);refine goes_ Try.func87 (by kernel_rfl) rfl #[.int .i64 x6_1] (by rfl) rfl rfl (by (try simp only[List.map_toArray,List.map_cons,List.map_nil]);first|done|rfl|(simp only[List.length_drop,List.length_take];rfl)) ?_
           with_reducible refine (spec_cuList.calls k2 x6_1 t144 _ A14.out).mono ?_
           rintro e w22 ⟨v145,rfl,ho0,hb⟩
           have HS0_:=(hb.cell (bl' _ _ (hHeld))).trans (hHeld);refine ⟨_,rfl,?_⟩;have n0_:=am' (Kd.R_elder' (by (with_reducible repeat (first|apply ra'|apply rn'|apply rw'));exact HO_5.out) (Kd.R_base ho0) hb);have n1_:=am' (Kd.R_lower (Kd.R_new' ho0 (Kd.R_lt (by (with_reducible repeat (first|apply ra'|apply rn'|apply rw'));exact HO_5.out))) (below_size (by repeat (first|(with_reducible first|exact HB.out|apply ba'|apply bd'|apply be'|refine bs' ?_ GE141.out)|exact HB.out))));have n2_:=am' (blk_below (g:=gb141) (o := .cells #[.int .i64 a0_0, .int .i64 a0_1] 40 (0,0)) (by (with_reducible repeat (first|refine kn' ?_ _|refine kd' ?_|refine ka' ?_ _));exact BK141.out) hb);have n3_:=am' (below_step (by repeat (first|(with_reducible first|exact HB.out|apply ba'|apply bd'|apply be'|refine bs' ?_ GE141.out)|exact HB.out)) hb);clear HO_5;clear BK141;clear HB;have HO_5:=n0_;have HO146:=n1_;have BK141:=n2_;have HB:=n3_;clear n0_ n1_ n2_ n3_;(try clear hb)
           (try clear hb2)
           (try clear hk)
           (try clear hi)
           (try clear ho0)
           refine hK.out _ _ (HS0_) (fun hHeld=>?_);clear hK K;refine norm_ (a':=?_) ?_ ?_
           rotate_left
           ·
            show Act.put _ (some 26) _=_
            simp only[Act.put,sa',sb',sc',i64_w,i32_w];rfl
           refine one_ (i:=10) (N:=some 32) #[true,true,true,true,true,true,true,true,true,true,true,false,false] rfl rfl (one_of HT_.out (by kernel_rfl)) (by decide) (fun K hK=>?_);refine goes_ Try.func87 (by kernel_rfl) rfl #[.int .i64 (rd x5_1 (ji15))] (by rfl) rfl rfl (by (try simp only[List.map_toArray,List.map_cons,List.map_nil]);first|done|(simp only[hji15];rfl)|rfl|(simp only[List.length_drop,List.length_take];rfl)) ?_
           with_reducible refine (spec_cuList.calls k2 (rd x5_1 (ji15)) t148 _ A18.out).mono ?_
           rintro e w23 ⟨v149,rfl,ho0,hb⟩
           have HS0_:=(hb.cell (bl' _ _ (hHeld))).trans (hHeld);refine ⟨_,rfl,?_⟩;have n0_:=am' (Kd.R_elder' (by (with_reducible repeat (first|apply ra'|apply rn'|apply rw'));exact HO_5.out) (Kd.R_base ho0) hb);have n1_:=am' (Kd.R_elder' (by (with_reducible repeat (first|apply ra'|apply rn'|apply rw'));exact HO146.out) (Kd.R_base ho0) hb);have n2_:=am' (Kd.R_lower (Kd.R_new' (Kd.R_new' ho0 (Kd.R_lt (by (with_reducible repeat (first|apply ra'|apply rn'|apply rw'));exact HO_5.out))) (Kd.R_lt (by (with_reducible repeat (first|apply ra'|apply rn'|apply rw'));exact HO146.out))) (below_size (by repeat (first|(with_reducible first|exact HB.out|apply ba'|apply bd'|apply be'|refine bs' ?_ GE141.out)|exact HB.out))));have n3_:=am' (blk_below (g:=gb141) (o := .cells #[.int .i64 a0_0, .int .i64 a0_1] 40 (0,0)) (by (with_reducible repeat (first|refine kn' ?_ _|refine kd' ?_|refine ka' ?_ _));exact BK141.out) hb);have n4_:=am' (below_step (by repeat (first|(with_reducible first|exact HB.out|apply ba'|apply bd'|apply be'|refine bs' ?_ GE141.out)|exact HB.out)) hb);clear HO_5;clear HO146;clear BK141;clear HB;have HO_5:=n0_;have HO146:=n1_;have HO150:=n2_;have BK141:=n3_;have HB:=n4_;clear n0_ n1_ n2_ n3_ n4_;(try clear hb)
           (try clear hb2)
           (try clear hk)
           (try clear hi)
           (try clear ho0)
           obtain ⟨Ao24,co24,eo24⟩:=Kd.R_slice HO146.out
           (first|subst eo24|(injection eo24 with f1_ f2_ f3_;have f4_:=f1_.symm;have f5_:=f3_.symm;clear f1_ f2_ f3_;subst f4_;subst f5_))
           obtain ⟨Ao25,co25,eo25⟩:=Kd.R_slice HO150.out
           (first|subst eo25|(injection eo25 with f1_ f2_ f3_;have f4_:=f1_.symm;have f5_:=f3_.symm;clear f1_ f2_ f3_;subst f4_;subst f5_))
           refine hK.out _ _ (HS0_) (fun hHeld=>?_);clear hK K;refine norm_ (a':=?_) ?_ ?_
           rotate_left
           ·
            show Act.put _ (some 32) _=_
            simp only[Act.put,sa',sb',sc',i64_w,i32_w];rfl
           refine one_ (i:=11) (N:=some 33) #[true,true,true,true,true,true,true,true,true,true,true,true,false] rfl rfl (one_of HT_.out (by kernel_rfl)) (by decide) (fun K hK=>?_);refine goes_ Try.func117 (by kernel_rfl) rfl #[.slice Ao24 t144.length co24, .slice Ao25 t148.length co25] (by rfl) rfl rfl (by (try simp only[List.map_toArray,List.map_cons,List.map_nil]);first|done|rfl|(simp only[List.length_drop,List.length_take];rfl)) ?_
           with_reducible refine (spec_cuBefore.calls k2 _ _ t144 _ _ t148 true _ ?side1 ?side2 ?side3 ?side4 A19.out).mono ?_
           (case side1=>repeat (first|exact (Kd.R_reads' HO146.out).2.2|(with_reducible refine ca' ?_ _)|(with_reducible refine cn' ?_ _)|(with_reducible refine cd' ?_)))
           (case side2=>exact (Kd.R_reads' HO146.out).2.1)
           (case side3=>repeat (first|exact (Kd.R_reads' HO150.out).2.2|(with_reducible refine ca' ?_ _)|(with_reducible refine cn' ?_ _)|(with_reducible refine cd' ?_)))
           (case side4=>exact (Kd.R_reads' HO150.out).2.1)
           rintro e w' ⟨rfl,⟨nd,rfl⟩⟩
           refine ⟨_,rfl,?_⟩;refine hK.out _ _ (hHeld) (fun hHeld=>?_);clear hK K;refine norm_ (a':=?_) ?_ ?_
           rotate_left
           ·
            show Act.put _ (some 33) _=_
            simp only[Act.put,sa',sb',sc',i64_w,i32_w];rfl
           refine pure_ (i:=12) (N:=some 34) (v:=?_) (a':=?_) #[true,true,true,true,true,true,true,true,true,true,true,true,true] rfl rfl (any_of HT_.out (by kernel_rfl)) (fun _ _ _ h=>h) (Or.inl ⟨by rfl,?_⟩) ?_ ?_
           rotate_left
           ·
            intro w';go_simp;with_reducible rfl
           rotate_left
           ·
            simp only[Act.put,sa',sb',sc',i64_w,i32_w];rfl
           refine done_ (done_of HT_.out (by kernel_rfl)) ?_
           try go_wp2
           go_roundg k2
           case measure=>have:=HK1.out;have:=HK2.out;omega
           case rel=>exact ⟨(ji15),(by first|rfl|(simp;done)|(simp only[← hji15] <;> (first|rfl|simp))|(simp[*];done)),H',⟨by have:=HK1.out;have:=HK2.out;omega⟩,⟨by (with_reducible repeat (first|apply ra'|apply rn'|apply rw'));exact Kd.R_mono HO_5.out (fun _ hk=>trivial)⟩,⟨by (with_reducible repeat (first|refine kn' ?_ _|refine kd' ?_|refine ka' ?_ _));exact BK141.out⟩,⟨by repeat (first|(with_reducible first|exact HB.out|apply ba'|apply bd'|apply be'|refine bs' ?_ GE141.out)|exact HB.out)⟩⟩
          ·
           replace c20:=Bool.eq_false_iff.mpr c20;subst c20;have H1:(if 0≤x7_2 then (if x7_2≤(x5_1.length:Int) then ((spec_l1Own.f (x5_1.take (x7_2:Int).toNat)).bind fun t156=>(if t156.length < 17592186044416 then ((some (t156 ++ [x6_1]:List Int)).bind fun y159=>((some (x5_1.drop (x7_2:Int).toNat:List Int)).bind fun y162=>(if y159.length+y162.length < 17592186044416 then (spec_cuRows.l0 k2 a1 (y159 ++ y162) (wrap64 (x6_1+1)) a0_0 a0_1) else (none)))) else (none))) else (none)) else (none))=some r:=by rw[if_neg (show ¬ (false=true) by decide)] at H;exact H
           clear H;have H:=H1;clear H1;by_cases c26:0≤x7_2
           ·
            rw[if_pos c26] at H;have c26b0:=eq_true c26;have c26b1:decide (0≤x7_2)=true:=decide_eq_true c26;clear c26;by_cases c27:x7_2≤(x5_1.length:Int)
            ·
             rw[if_pos c27] at H;have c27b0:=eq_true c27;have c27b1:decide (x7_2≤(x5_1.length:Int))=true:=decide_eq_true c27;clear c27;obtain ⟨y152,hy152⟩:∃ y_:List Int,y_=(x5_1.take (x7_2:Int).toNat):=⟨_,rfl⟩
             replace H:((spec_l1Own.f y152).bind fun t156=>(if t156.length < 17592186044416 then ((some (t156 ++ [x6_1]:List Int)).bind fun y159=>((some (x5_1.drop (x7_2:Int).toNat:List Int)).bind fun y162=>(if y159.length+y162.length < 17592186044416 then (spec_cuRows.l0 k2 a1 (y159 ++ y162) (wrap64 (x6_1+1)) a0_0 a0_1) else (none)))) else (none)))=some r:=by first|(rw[hy152];with_reducible exact H)|(have H2_:=(Option.bind_some _ _).symm.trans H;rw[hy152];with_reducible exact H2_)|(have H2_:=(Option.bind_some _ _).symm.trans H;with_reducible exact H2_)|with_reducible exact H|(rw[hy152];exact H)|exact H
             have Ny152:=am' hy152;clear hy152;replace H:=Option.bind_eq_some_iff.mp H;obtain ⟨t156,A280,H⟩:=H;replace H:(if t156.length < 17592186044416 then ((some (t156 ++ [x6_1]:List Int)).bind fun y159=>((some (x5_1.drop (x7_2:Int).toNat:List Int)).bind fun y162=>(if y159.length+y162.length < 17592186044416 then (spec_cuRows.l0 k2 a1 (y159 ++ y162) (wrap64 (x6_1+1)) a0_0 a0_1) else (none)))) else (none))=some r:=H;have A28:=am' A280;clear A280;by_cases c29:t156.length < 17592186044416
             ·
              rw[if_pos c29] at H;have LMc29:=am' c29;clear c29;obtain ⟨y159,hy159⟩:∃ y_:List Int,y_=(t156 ++ [x6_1]):=⟨_,rfl⟩
              replace H:((some (x5_1.drop (x7_2:Int).toNat:List Int)).bind fun y162=>(if y159.length+y162.length < 17592186044416 then (spec_cuRows.l0 k2 a1 (y159 ++ y162) (wrap64 (x6_1+1)) a0_0 a0_1) else (none)))=some r:=by first|(rw[hy159];with_reducible exact H)|(have H2_:=(Option.bind_some _ _).symm.trans H;rw[hy159];with_reducible exact H2_)|(have H2_:=(Option.bind_some _ _).symm.trans H;with_reducible exact H2_)|with_reducible exact H|(rw[hy159];exact H)|exact H
              have Ny159:=am' hy159;clear hy159;have c30b0:=eq_true (of_decide_eq_true (by first|(with_reducible assumption)|assumption):0≤x7_2);have c31b0:=eq_true (of_decide_eq_true (by first|(with_reducible assumption)|assumption):x7_2≤(x5_1.length:Int));obtain ⟨y162,hy162⟩:∃ y_:List Int,y_=(x5_1.drop (x7_2:Int).toNat):=⟨_,rfl⟩
              replace H:(if y159.length+y162.length < 17592186044416 then (spec_cuRows.l0 k2 a1 (y159 ++ y162) (wrap64 (x6_1+1)) a0_0 a0_1) else (none))=some r:=by first|(rw[hy162];with_reducible exact H)|(have H2_:=(Option.bind_some _ _).symm.trans H;rw[hy162];with_reducible exact H2_)|(have H2_:=(Option.bind_some _ _).symm.trans H;with_reducible exact H2_)|with_reducible exact H|(rw[hy162];exact H)|exact H
              have Ny162:=am' hy162;clear hy162;by_cases c32:y159.length+y162.length < 17592186044416
              ·
               rw[if_pos c32] at H;have LMc32:=am' c32;clear c32;obtain ⟨y166,hy166⟩:∃ y_:List Int,y_=(y159 ++ y162):=⟨_,rfl⟩
               replace H:(spec_cuRows.l0 k2 a1 y166 (wrap64 (x6_1+1)) a0_0 a0_1)=some r:=by first|(rw[hy166];with_reducible exact H)|(have H2_:=(Option.bind_some _ _).symm.trans H;rw[hy166];with_reducible exact H2_)|(have H2_:=(Option.bind_some _ _).symm.trans H;with_reducible exact H2_)|with_reducible exact H|(rw[hy166];exact H)|exact H
               have Ny166:=am' hy166;clear hy166;have H':=am' H;clear H;try go_wp2
               have n0_:=am' (rw' HO_5.out);have n1_:=am' (kd' BK141.out);have n2_:=am' (be' HB.out);clear HO_5;clear BK141;clear HB;have HO_5:=n0_;have BK141:=n1_;have HB:=n2_;clear n0_ n1_ n2_;have p147:0≤((ji15):Int):=of_decide_eq_true (by first|(with_reducible assumption)|assumption);have q147:(ji15) < (x5_1.length:Int):=of_decide_eq_true (by first|(with_reducible assumption)|assumption);obtain ⟨ad147,e147,hx147_0⟩:=Kd.at_int (Kd.R_reads' HO_5.out).2.2 (ji15) p147 q147;cases e147;replace p147:=eq_true p147;replace q147:=eq_true q147;refine start_ (n:=13) (S:=fun w'=>w'.cell? (ad147.add ((ji15)).toNat)=some (.int .i64 (rd x5_1 (ji15)))) (ds:=[]) #[false,false,false,false,false,false,false,false,false,false,false,false,false] (by kernel_rfl) rfl rfl (hx147_0) (fun hHeld=>?_);refine with_tabW spec_cuRows.tab7 spec_cuRows.bits7 (fun HT_ HW_=>?_);generalize wr.drew=w33 at HO_5 BK141 HB hx147_0 hHeld ⊢
               refine pure_ (i:=0) (N:=some 22) (v:=?_) (a':=?_) #[true,false,false,false,false,false,false,false,false,false,false,false,false] rfl rfl (any_of HT_.out (by kernel_rfl)) (fun _ _ _ h=>h) (Or.inl ⟨by rfl,?_⟩) ?_ ?_
               rotate_left
               ·
                intro w';go_simp;with_reducible rfl
               rotate_left
               ·
                simp only[Act.put,sa',sb',sc',i64_w,i32_w];rfl
               refine pure_ (i:=1) (N:=some 23) (v:=?_) (a':=?_) #[true,true,false,false,false,false,false,false,false,false,false,false,false] rfl rfl (any_of HT_.out (by kernel_rfl)) (fun _ _ _ h=>h) (Or.inl ⟨by rfl,?_⟩) ?_ ?_
               rotate_left
               ·
                intro w';go_simp;with_reducible rfl
               rotate_left
               ·
                simp only[Act.put,sa',sb',sc',i64_w,i32_w];rfl
               refine pure_ (i:=2) (N:=some 24) (v:=?_) (a':=?_) #[true,true,true,false,false,false,false,false,false,false,false,false,false] rfl rfl (any_of HT_.out (by kernel_rfl)) (fun _ _ _ h=>h) (Or.inl ⟨by rfl,?_⟩) ?_ ?_
               rotate_left
               ·
                intro w';go_simp;with_reducible rfl
               rotate_left
               ·
                simp only[Act.put,sa',sb',sc',i64_w,i32_w];rfl
               refine pure_ (i:=3) (N:=some 25) (v:=?_) (a':=?_) #[true,true,true,true,false,false,false,false,false,false,false,false,false] rfl rfl (any_of HT_.out (by kernel_rfl)) (fun _ _ _ h=>h) (Or.inl ⟨by rfl,?_⟩) ?_ ?_
               rotate_left
               ·
                intro w';go_simp;with_reducible rfl
               rotate_left
               ·
                simp only[Act.put,sa',sb',sc',i64_w,i32_w];rfl
               refine pure_ (i:=5) (N:=some 27) (v:=?_) (a':=?_) #[true,true,true,true,false,true,false,false,false,false,false,false,false] rfl rfl (any_of HT_.out (by kernel_rfl)) (fun _ _ _ h=>h) (Or.inl ⟨by rfl,?_⟩) ?_ ?_
               rotate_left
               ·
                intro w';go_simp;with_reducible rfl
               rotate_left
               ·
                simp only[Act.put,sa',sb',sc',i64_w,i32_w];rfl
               refine pure_ (i:=6) (N:=some 28) (v:=?_) (a':=?_) #[true,true,true,true,false,true,true,false,false,false,false,false,false] rfl rfl (any_of HT_.out (by kernel_rfl)) (fun _ _ _ h=>h) (Or.inl ⟨by rfl,?_⟩) ?_ ?_
               rotate_left
               ·
                intro w';go_simp;with_reducible rfl
               rotate_left
               ·
                simp only[Act.put,sa',sb',sc',i64_w,i32_w];rfl
               refine pure_ (i:=7) (N:=some 29) (v:=?_) (a':=?_) #[true,true,true,true,false,true,true,true,false,false,false,false,false] rfl rfl (any_of HT_.out (by kernel_rfl)) (fun _ _ _ h=>h) (Or.inl ⟨by rfl,?_⟩) ?_ ?_
               rotate_left
               ·
                intro w';go_simp;with_reducible rfl
               rotate_left
               ·
                simp only[Act.put,sa',sb',sc',i64_w,i32_w];rfl
               refine pure_ (i:=8) (N:=some 30) (v:=?_) (a':=?_) #[true,true,true,true,false,true,true,true,true,false,false,false,false] rfl rfl (any_of HT_.out (by kernel_rfl)) (fun _ _ _ h=>h) (Or.inl ⟨by rfl,?_⟩) ?_ ?_
               rotate_left
               ·
                intro w';go_simp;with_reducible rfl
               rotate_left
               ·
                simp only[Act.put,sa',sb',sc',i64_w,i32_w];rfl
               refine take_ (i:=9) (N:=some 31) (v:=?_) (a':=?_) #[true,true,true,true,false,true,true,true,true,true,false,false,false] rfl rfl (take_ofW HT_.out HW_.out (by kernel_rfl)) (fun _ _ _ h=>h) (Or.inl ⟨by rfl,?_⟩) hHeld ?_ ?_
               rotate_left
               ·
                intro w' s0;go_simp;with_reducible rfl
               rotate_left
               ·
                simp only[Act.put,sa',sb',sc',i64_w,i32_w];rfl
               refine one_ (i:=4) (N:=some 26) #[true,true,true,true,true,true,true,true,true,true,false,false,false] rfl rfl (one_of HT_.out (by kernel_rfl)) (by decide) (fun K hK=>?_);refine goes_ Try.func87 (by kernel_rfl) rfl #[.int .i64 x6_1] (by rfl) rfl rfl (by (try simp only[List.map_toArray,List.map_cons,List.map_nil]);first|done|rfl|(simp only[List.length_drop,List.length_take];rfl)) ?_
               with_reducible refine (spec_cuList.calls k2 x6_1 t144 _ A14.out).mono ?_
               rintro e w34 ⟨v145,rfl,ho0,hb⟩
               have HS0_:=(hb.cell (bl' _ _ (hHeld))).trans (hHeld);refine ⟨_,rfl,?_⟩;have n0_:=am' (Kd.R_elder' (by (with_reducible repeat (first|apply ra'|apply rn'|apply rw'));exact HO_5.out) (Kd.R_base ho0) hb);have n1_:=am' (Kd.R_lower (Kd.R_new' ho0 (Kd.R_lt (by (with_reducible repeat (first|apply ra'|apply rn'|apply rw'));exact HO_5.out))) (below_size (by repeat (first|(with_reducible first|exact HB.out|apply ba'|apply bd'|apply be'|refine bs' ?_ GE141.out)|exact HB.out))));have n2_:=am' (blk_below (g:=gb141) (o := .cells #[.int .i64 a0_0, .int .i64 a0_1] 40 (0,0)) (by (with_reducible repeat (first|refine kn' ?_ _|refine kd' ?_|refine ka' ?_ _));exact BK141.out) hb);have n3_:=am' (below_step (by repeat (first|(with_reducible first|exact HB.out|apply ba'|apply bd'|apply be'|refine bs' ?_ GE141.out)|exact HB.out)) hb);clear HO_5;clear BK141;clear HB;have HO_5:=n0_;have HO146:=n1_;have BK141:=n2_;have HB:=n3_;clear n0_ n1_ n2_ n3_;(try clear hb)
               (try clear hb2)
               (try clear hk)
               (try clear hi)
               (try clear ho0)
               refine hK.out _ _ (HS0_) (fun hHeld=>?_);clear hK K;refine norm_ (a':=?_) ?_ ?_
               rotate_left
               ·
                show Act.put _ (some 26) _=_
                simp only[Act.put,sa',sb',sc',i64_w,i32_w];rfl
               refine one_ (i:=10) (N:=some 32) #[true,true,true,true,true,true,true,true,true,true,true,false,false] rfl rfl (one_of HT_.out (by kernel_rfl)) (by decide) (fun K hK=>?_);refine goes_ Try.func87 (by kernel_rfl) rfl #[.int .i64 (rd x5_1 (ji15))] (by rfl) rfl rfl (by (try simp only[List.map_toArray,List.map_cons,List.map_nil]);first|done|(simp only[hji15];rfl)|rfl|(simp only[List.length_drop,List.length_take];rfl)) ?_
               with_reducible refine (spec_cuList.calls k2 (rd x5_1 (ji15)) t148 _ A18.out).mono ?_
               rintro e w35 ⟨v149,rfl,ho0,hb⟩
               have HS0_:=(hb.cell (bl' _ _ (hHeld))).trans (hHeld);refine ⟨_,rfl,?_⟩;have n0_:=am' (Kd.R_elder' (by (with_reducible repeat (first|apply ra'|apply rn'|apply rw'));exact HO_5.out) (Kd.R_base ho0) hb);have n1_:=am' (Kd.R_elder' (by (with_reducible repeat (first|apply ra'|apply rn'|apply rw'));exact HO146.out) (Kd.R_base ho0) hb);have n2_:=am' (Kd.R_lower (Kd.R_new' (Kd.R_new' ho0 (Kd.R_lt (by (with_reducible repeat (first|apply ra'|apply rn'|apply rw'));exact HO_5.out))) (Kd.R_lt (by (with_reducible repeat (first|apply ra'|apply rn'|apply rw'));exact HO146.out))) (below_size (by repeat (first|(with_reducible first|exact HB.out|apply ba'|apply bd'|apply be'|refine bs' ?_ GE141.out)|exact HB.out))));have n3_:=am' (blk_below (g:=gb141) (o := .cells #[.int .i64 a0_0, .int .i64 a0_1] 40 (0,0)) (by (with_reducible repeat (first|refine kn' ?_ _|refine kd' ?_|refine ka' ?_ _));exact BK141.out) hb);have n4_:=am' (below_step (by repeat (first|(with_reducible first|exact HB.out|apply ba'|apply bd'|apply be'|refine bs' ?_ GE141.out)|exact HB.out)) hb);clear HO_5;clear HO146;clear BK141;clear HB;have HO_5:=n0_;have HO146:=n1_;have HO150:=n2_;have BK141:=n3_;have HB:=n4_;clear n0_ n1_ n2_ n3_ n4_;(try clear hb)
               (try clear hb2)
               (try clear hk)
               (try clear hi)
               (try clear ho0)
               obtain ⟨Ao36,co36,eo36⟩:=Kd.R_slice HO146.out
               (first|subst eo36|(injection eo36 with f1_ f2_ f3_;have f4_:=f1_.symm;have f5_:=f3_.symm;clear f1_ f2_ f3_;subst f4_;subst f5_))
               obtain ⟨Ao37,co37,eo37⟩:=Kd.R_slice HO150.out
               (first|subst eo37|(injection eo37 with f1_ f2_ f3_;have f4_:=f1_.symm;have f5_:=f3_.symm;clear f1_ f2_ f3_;subst f4_;subst f5_))
               refine hK.out _ _ (HS0_) (fun hHeld=>?_);clear hK K;refine norm_ (a':=?_) ?_ ?_
               rotate_left
               ·
                show Act.put _ (some 32) _=_
                simp only[Act.put,sa',sb',sc',i64_w,i32_w];rfl
               refine one_ (i:=11) (N:=some 33) #[true,true,true,true,true,true,true,true,true,true,true,true,false] rfl rfl (one_of HT_.out (by kernel_rfl)) (by decide) (fun K hK=>?_);refine goes_ Try.func117 (by kernel_rfl) rfl #[.slice Ao36 t144.length co36, .slice Ao37 t148.length co37] (by rfl) rfl rfl (by (try simp only[List.map_toArray,List.map_cons,List.map_nil]);first|done|rfl|(simp only[List.length_drop,List.length_take];rfl)) ?_
               with_reducible refine (spec_cuBefore.calls k2 _ _ t144 _ _ t148 false _ ?side1 ?side2 ?side3 ?side4 A19.out).mono ?_
               (case side1=>repeat (first|exact (Kd.R_reads' HO146.out).2.2|(with_reducible refine ca' ?_ _)|(with_reducible refine cn' ?_ _)|(with_reducible refine cd' ?_)))
               (case side2=>exact (Kd.R_reads' HO146.out).2.1)
               (case side3=>repeat (first|exact (Kd.R_reads' HO150.out).2.2|(with_reducible refine ca' ?_ _)|(with_reducible refine cn' ?_ _)|(with_reducible refine cd' ?_)))
               (case side4=>exact (Kd.R_reads' HO150.out).2.1)
               rintro e w' ⟨rfl,⟨nd,rfl⟩⟩
               refine ⟨_,rfl,?_⟩;refine hK.out _ _ (hHeld) (fun hHeld=>?_);clear hK K;refine norm_ (a':=?_) ?_ ?_
               rotate_left
               ·
                show Act.put _ (some 33) _=_
                simp only[Act.put,sa',sb',sc',i64_w,i32_w];rfl
               refine pure_ (i:=12) (N:=some 34) (v:=?_) (a':=?_) #[true,true,true,true,true,true,true,true,true,true,true,true,true] rfl rfl (any_of HT_.out (by kernel_rfl)) (fun _ _ _ h=>h) (Or.inl ⟨by rfl,?_⟩) ?_ ?_
               rotate_left
               ·
                intro w';go_simp;with_reducible rfl
               rotate_left
               ·
                simp only[Act.put,sa',sb',sc',i64_w,i32_w];rfl
               refine done_ (done_of HT_.out (by kernel_rfl)) ?_
               have q38:(x7_2:Int)≤((x5_1.length:Int):Int):=of_decide_eq_true (by first|(with_reducible assumption)|assumption);obtain ⟨i038,hi038,_,hsz38,_⟩:=info_parts info3;have hroom38:x5_1.length≤co12:=(Kd.R_reads' HO_5.out).2.1;have hC38:Kd.C (Kd.int .i64) _ (some ad147) x5_1.length x5_1:=(Kd.R_reads' HO_5.out).2.2;have hcut38:=cut_to (P:=Try.prog) 32 3 .i64 Try.underlying32 hi038 (some ad147) x5_1.length co12 x7_2 (of_decide_eq_true (by first|(with_reducible assumption)|assumption)) q38 hroom38;have hr38:=Kd.C_take (m:=(x7_2:Int).toNat) hC38 (by omega);have hy38:y152.length=(x7_2:Int).toNat:=(by rw[Ny152.out,List.length_take];omega)
               rw[← Ny152.out] at hr38;rw[← hy38] at hcut38;have HR155:=am' hr38;have HC155:=am' (show y152.length≤co12 from by omega);clear hr38 hC38 hroom38 hi038 hsz38;have KY38:=am' hy38;clear hy38;have KL38:=am' (show (x7_2:Int).toNat≤x5_1.length from by omega);replace q38:=eq_true q38
               try go_wp2_with (first|((with_reducible refine gate_callee (f:=118) rfl ?_);refine goesL_ (some 40) rfl rfl Try.func118 (by kernel_rfl) rfl #[.slice (some ad147) y152.length co12] rfl (by (try simp only[List.map_toArray,List.map_cons,List.map_nil]);first|done|rfl|(simp only[List.length_drop,List.length_take];rfl)) ?_;(with_reducible refine (spec_l1Own.calls _ _ y152 t156 _ ?side1 ?side2 A28.out).mono ?_);(case side1=>repeat (first|exact (by repeat (first|(with_reducible exact HR155.out)|(with_reducible refine ca' ?_ _)|(with_reducible refine cn' ?_ _)|(with_reducible refine cd' ?_)|exact HR155.out))|(with_reducible refine ca' ?_ _)|(with_reducible refine cn' ?_ _)|(with_reducible refine cd' ?_)));(case side2=>exact HC155.out);rintro e w39 ⟨v157,rfl,ho0,hb⟩;refine ⟨_,rfl,?_⟩;have n0_:=am' (Kd.R_elder' (by (with_reducible repeat (first|apply ra'|apply rn'|apply rw'));exact HO_5.out) (Kd.R_base ho0) hb);have n1_:=am' (Kd.R_elder' (by (with_reducible repeat (first|apply ra'|apply rn'|apply rw'));exact HO146.out) (Kd.R_base ho0) hb);have n2_:=am' (Kd.R_elder' (by (with_reducible repeat (first|apply ra'|apply rn'|apply rw'));exact HO150.out) (Kd.R_base ho0) hb);have n3_:=am' (Kd.R_lower (Kd.R_new' (Kd.R_new' (Kd.R_new' ho0 (Kd.R_lt (by (with_reducible repeat (first|apply ra'|apply rn'|apply rw'));exact HO_5.out))) (Kd.R_lt (by (with_reducible repeat (first|apply ra'|apply rn'|apply rw'));exact HO146.out))) (Kd.R_lt (by (with_reducible repeat (first|apply ra'|apply rn'|apply rw'));exact HO150.out))) (below_size (by repeat (first|(with_reducible first|exact HB.out|apply ba'|apply bd'|apply be'|refine bs' ?_ GE141.out)|exact HB.out))));have n4_:=am' (blk_below (g:=gb141) (o := .cells #[.int .i64 a0_0, .int .i64 a0_1] 40 (0,0)) (by (with_reducible repeat (first|refine kn' ?_ _|refine kd' ?_|refine ka' ?_ _));exact BK141.out) hb);have n5_:=am' (Kd.C_below (by repeat (first|(with_reducible exact HR155.out)|(with_reducible refine ca' ?_ _)|(with_reducible refine cn' ?_ _)|(with_reducible refine cd' ?_)|exact HR155.out)) hb);have n6_:=am' (below_step (by repeat (first|(with_reducible first|exact HB.out|apply ba'|apply bd'|apply be'|refine bs' ?_ GE141.out)|exact HB.out)) hb);clear HO_5;clear HO146;clear HO150;clear BK141;clear HR155;clear HB;have HO_5:=n0_;have HO146:=n1_;have HO150:=n2_;have HO158:=n3_;have BK141:=n4_;have HR155:=n5_;have HB:=n6_;clear n0_ n1_ n2_ n3_ n4_ n5_ n6_;(try clear hb);(try clear hb2);(try clear hk);(try clear hi);(try clear ho0))|((with_reducible refine gate_builtin (b := .append) (xs:=#[.tmp 40, .tmp 42]) rfl ?_);at_builtin;refine Kd.R_append (Kd.int .i64) (w0:=w) w.heap.size rfl (.tmp 40) (.tmp 42) 32 3 (.int .i64 0) 8 rfl Try.underlying32 info3 rfl (by decide) (by omega) v157 t156 x6_1 [.int .i64 x6_1] (fun k_=>some k_≠(.slice (some ad147) x5_1.length co12:Value).ownBlock∧some k_≠(.slice Ao36 t144.length co36:Value).ownBlock∧some k_≠(.slice Ao37 t148.length co37:Value).ownBlock) (fun _=>False) rfl rfl ?aP (fun _ hk=>hk.elim) ?aF ?aO ?aB ?aS ?aL ?_;(case aP=>exact rfl);(case aB=>exact (by repeat (first|(with_reducible first|exact HB.out|apply ba'|apply bd'|apply be'|refine bs' ?_ GE141.out)|exact HB.out)));(case aF=>exact (fun k_ hk=>⟨Kd.fresh' (Kd.R_lt (by (with_reducible repeat (first|apply ra'|apply rn'|apply rw'));exact HO_5.out)) k_ hk,Kd.fresh' (Kd.R_lt (by (with_reducible repeat (first|apply ra'|apply rn'|apply rw'));exact HO146.out)) k_ hk,Kd.fresh' (Kd.R_lt (by (with_reducible repeat (first|apply ra'|apply rn'|apply rw'));exact HO150.out)) k_ hk⟩));(case aO=>exact (by (with_reducible repeat (first|apply ra'|apply rn'|apply rw'));exact Kd.R_mono HO158.out (fun _ hk=>⟨hk.1.1.2,⟨hk.1.2,hk.2⟩⟩)));(case aS=>exact (below_size (by repeat (first|(with_reducible first|exact HB.out|apply ba'|apply bd'|apply be'|refine bs' ?_ GE141.out)|exact HB.out))));(case aL=>have:=LMc29.out;omega);intro v160 w40 ho hb hg hat;rw[← Ny159.out] at ho;have n0_:=am' (Kd.R_after (ok:=(fun k_=>some k_≠(.slice Ao36 t144.length co36:Value).ownBlock∧some k_≠(.slice Ao37 t148.length co37:Value).ownBlock)) (by (with_reducible repeat (first|apply ra'|apply rn'|apply rw'));exact Kd.R_mono HO_5.out (fun _ hk=>⟨⟨hk.1.1.2,hk.1.2⟩,hk.2⟩)) hg hat);have n1_:=am' (blk_grown (g:=gb141) (o := .cells #[.int .i64 a0_0, .int .i64 a0_1] 40 (0,0)) (by (with_reducible repeat (first|refine kn' ?_ _|refine kd' ?_|refine ka' ?_ _));exact BK141.out) hg (Kd.R_ne HO158.out BK141.out (by decide)));have n2_:=am' (Kd.R_after (ok:=(fun k_=>some k_≠(.slice (some ad147) x5_1.length co12:Value).ownBlock∧some k_≠(.slice Ao37 t148.length co37:Value).ownBlock)) (by (with_reducible repeat (first|apply ra'|apply rn'|apply rw'));exact Kd.R_mono HO146.out (fun _ hk=>⟨⟨hk.1.1.2,hk.1.2⟩,hk.2⟩)) hg hat);have n3_:=am' (Kd.R_after (ok:=(fun k_=>some k_≠(.slice (some ad147) x5_1.length co12:Value).ownBlock∧some k_≠(.slice Ao36 t144.length co36:Value).ownBlock)) (by (with_reducible repeat (first|apply ra'|apply rn'|apply rw'));exact Kd.R_mono HO150.out (fun _ hk=>⟨⟨hk.1.1.2,hk.1.2⟩,hk.2⟩)) hg hat);have n4_:=am' (hb);have n5_:=am' ((show Kd.C (Kd.int .i64) w40 (some ad147) y152.length y152 from by rw[Ny152.out];exact Kd.C_take (m:=(x7_2:Int).toNat) ((Kd.R_reads' (Kd.R_after (ok:=(fun k_=>some k_≠(.slice Ao36 t144.length co36:Value).ownBlock∧some k_≠(.slice Ao37 t148.length co37:Value).ownBlock)) (by (with_reducible repeat (first|apply ra'|apply rn'|apply rw'));exact Kd.R_mono HO_5.out (fun _ hk=>⟨⟨hk.1.1.2,hk.1.2⟩,hk.2⟩)) hg hat)).2.2) KL38.out));have n6_:=am' (ho);clear HO_5;clear BK141;clear HO146;clear HO150;clear HB;clear HR155;clear HO158;have HO_5:=n0_;have BK141:=n1_;have HO146:=n2_;have HO150:=n3_;have HB:=n4_;have HR155:=n5_;have HO161:=n6_;clear n0_ n1_ n2_ n3_ n4_ n5_ n6_;clear ho hb hg hat;have q41:(x7_2:Int)≤((x5_1.length:Int):Int):=of_decide_eq_true (by first|(with_reducible assumption)|assumption);obtain ⟨i041,hi041,_,hsz41,_⟩:=info_parts info3;have hroom41:x5_1.length≤co12:=(Kd.R_reads' HO_5.out).2.1;have hC41:Kd.C (Kd.int .i64) _ (some ad147) x5_1.length x5_1:=(Kd.R_reads' HO_5.out).2.2;have q041:(0:Int)≤(x7_2:Int):=of_decide_eq_true (by first|(with_reducible assumption)|assumption);have hcut41:=cut_from (P:=Try.prog) 32 3 .i64 Try.underlying32 hi041 1 hsz41 (some ad147) x5_1.length co12 x7_2 q041 q41;have hr41:=Kd.C_drop (m:=(x7_2:Int).toNat) (c:=co12) hC41 (by omega) hroom41;obtain ⟨A41,hA41⟩:∃ A1,A1=(if co12=(x7_2:Int).toNat then (some ad147) else ((some ad147):Option Addr).map (·.add ((x7_2:Int).toNat * 1))):=⟨_,rfl⟩;obtain ⟨c41,hc41⟩:∃ c1,c1=co12 - (x7_2:Int).toNat:=⟨_,rfl⟩;have hy41:y162.length=x5_1.length - (x7_2:Int).toNat:=(by rw[Ny162.out,List.length_drop] <;> omega);rw[show (x5_1).drop (x7_2:Int).toNat=y162 from Ny162.out.symm] at hr41;replace hr41:Kd.C (Kd.int .i64) _ A41 y162.length y162:=(by rw[hA41];exact hr41);rw[← hy41,← hA41,← hc41] at hcut41;have HR165:=am' hr41;have HC165:=am' (show y162.length≤c41 from by rw[hy41,hc41];exact Nat.sub_le_sub_right hroom41 _);clear hr41 hC41 hroom41 hi041 hsz41 hc41;have KY41:=am' hy41;have KA41:=am' hA41;clear hy41 hA41;have KL41:=am' (show (x7_2:Int).toNat≤x5_1.length from by omega);replace q41:=eq_true q41)|((with_reducible refine gate_builtin (b := .append) (xs:=#[.tmp 44, .tmp 47]) rfl ?_);at_builtin;refine Kd.R_append_rows (Kd.int .i64) (w0:=w) w.heap.size rfl (.tmp 44) (.tmp 47) 32 3 (.int .i64 0) 8 rfl Try.underlying32 info3 rfl (by decide) (by omega) v160 y159 y162 _ _ _ (fun k_=>some k_≠(.slice (some ad147) x5_1.length co12:Value).ownBlock∧some k_≠(.slice Ao36 t144.length co36:Value).ownBlock∧some k_≠(.slice Ao37 t148.length co37:Value).ownBlock) (fun _=>False) rfl rfl ?aO ?aR (fun _ _ h=>h) (fun _ h=>h.elim) ?aF ?aB ?aS ?aL ?_;(case aR=>repeat (first|exact (by repeat (first|(with_reducible exact HR165.out)|(with_reducible refine ca' ?_ _)|(with_reducible refine cn' ?_ _)|(with_reducible refine cd' ?_)|exact HR165.out))|(with_reducible refine ca' ?_ _)|(with_reducible refine cn' ?_ _)|(with_reducible refine cd' ?_)));(case aB=>exact (by repeat (first|(with_reducible first|exact HB.out|apply ba'|apply bd'|apply be'|refine bs' ?_ GE141.out)|exact HB.out)));(case aF=>exact (fun k_ hk=>⟨Kd.fresh' (Kd.R_lt (by (with_reducible repeat (first|apply ra'|apply rn'|apply rw'));exact HO_5.out)) k_ hk,Kd.fresh' (Kd.R_lt (by (with_reducible repeat (first|apply ra'|apply rn'|apply rw'));exact HO146.out)) k_ hk,Kd.fresh' (Kd.R_lt (by (with_reducible repeat (first|apply ra'|apply rn'|apply rw'));exact HO150.out)) k_ hk⟩));(case aO=>exact (by (with_reducible repeat (first|apply ra'|apply rn'|apply rw'));exact HO161.out));(case aS=>exact (below_size (by repeat (first|(with_reducible first|exact HB.out|apply ba'|apply bd'|apply be'|refine bs' ?_ GE141.out)|exact HB.out))));(case aL=>have:=LMc32.out;omega);intro v167 w42 ho hb hg hat;rw[← Ny166.out] at ho;have n0_:=am' (Kd.R_after (ok:=(fun k_=>some k_≠(.slice Ao36 t144.length co36:Value).ownBlock∧some k_≠(.slice Ao37 t148.length co37:Value).ownBlock)) (by (with_reducible repeat (first|apply ra'|apply rn'|apply rw'));exact HO_5.out) hg hat);have n1_:=am' (blk_grown (g:=gb141) (o := .cells #[.int .i64 a0_0, .int .i64 a0_1] 40 (0,0)) (by (with_reducible repeat (first|refine kn' ?_ _|refine kd' ?_|refine ka' ?_ _));exact BK141.out) hg (Kd.R_ne HO161.out BK141.out (by decide)));have n2_:=am' (Kd.R_after (ok:=(fun k_=>some k_≠(.slice (some ad147) x5_1.length co12:Value).ownBlock∧some k_≠(.slice Ao37 t148.length co37:Value).ownBlock)) (by (with_reducible repeat (first|apply ra'|apply rn'|apply rw'));exact HO146.out) hg hat);have n3_:=am' (Kd.R_after (ok:=(fun k_=>some k_≠(.slice (some ad147) x5_1.length co12:Value).ownBlock∧some k_≠(.slice Ao36 t144.length co36:Value).ownBlock)) (by (with_reducible repeat (first|apply ra'|apply rn'|apply rw'));exact HO150.out) hg hat);have n4_:=am' (hb);have n5_:=am' ((show Kd.C (Kd.int .i64) w42 (some ad147) y152.length y152 from by rw[Ny152.out];exact Kd.C_take (m:=(x7_2:Int).toNat) ((Kd.R_reads' (Kd.R_after (ok:=(fun k_=>some k_≠(.slice Ao36 t144.length co36:Value).ownBlock∧some k_≠(.slice Ao37 t148.length co37:Value).ownBlock)) (by (with_reducible repeat (first|apply ra'|apply rn'|apply rw'));exact HO_5.out) hg hat)).2.2) KL38.out));have n6_:=am' ((show Kd.C (Kd.int .i64) w42 A41 y162.length y162 from by rw[Ny162.out,KA41.out];exact Kd.C_drop (m:=(x7_2:Int).toNat) (c:=co12) ((Kd.R_reads' (Kd.R_after (ok:=(fun k_=>some k_≠(.slice Ao36 t144.length co36:Value).ownBlock∧some k_≠(.slice Ao37 t148.length co37:Value).ownBlock)) (by (with_reducible repeat (first|apply ra'|apply rn'|apply rw'));exact HO_5.out) hg hat)).2.2) KL41.out ((Kd.R_reads' (Kd.R_after (ok:=(fun k_=>some k_≠(.slice Ao36 t144.length co36:Value).ownBlock∧some k_≠(.slice Ao37 t148.length co37:Value).ownBlock)) (by (with_reducible repeat (first|apply ra'|apply rn'|apply rw'));exact HO_5.out) hg hat)).2.1)));have n7_:=am' (ho);clear HO_5;clear BK141;clear HO146;clear HO150;clear HB;clear HR155;clear HR165;clear HO161;have HO_5:=n0_;have BK141:=n1_;have HO146:=n2_;have HO150:=n3_;have HB:=n4_;have HR155:=n5_;have HR165:=n6_;have HO168:=n7_;clear n0_ n1_ n2_ n3_ n4_ n5_ n6_ n7_;clear ho hb hg hat))
               go_roundg k2
               case measure=>have:=HK1.out;have:=HK2.out;omega
               case rel=>exact ⟨(y166),(wrap64 (x6_1+1)),(by first|rfl|(simp;done)|(simp[*];done)),H',⟨by have:=HK1.out;have:=HK2.out;omega⟩,⟨by (with_reducible repeat (first|apply ra'|apply rn'|apply rw'));exact Kd.R_mono HO168.out (fun _ hk=>trivial)⟩,⟨by (with_reducible repeat (first|refine kn' ?_ _|refine kd' ?_|refine ka' ?_ _));exact BK141.out⟩,⟨by repeat (first|(with_reducible first|exact HB.out|apply ba'|apply bd'|apply be'|refine bs' ?_ GE141.out)|exact HB.out)⟩⟩
              ·
               rw[if_neg c32] at H;exact absurd H (by simp)
             ·
              rw[if_neg c29] at H;exact absurd H (by simp)
            ·
             rw[if_neg c27] at H;exact absurd H (by simp)
           ·
            rw[if_neg c26] at H;exact absurd H (by simp)
         ·
          rw[if_neg c17] at H;exact absurd H (by simp)
        ·
         rw[if_neg c16] at H;exact absurd H (by simp)
       ·
        rw[if_neg c13] at H;have c13b0:decide (0 < x7_2)=false:=decide_eq_false c13;clear c13;by_cases c43:0≤x7_2
        ·
         rw[if_pos c43] at H;have c43b0:=eq_true c43;have c43b1:decide (0≤x7_2)=true:=decide_eq_true c43;clear c43;by_cases c44:x7_2≤(x5_1.length:Int)
         ·
          rw[if_pos c44] at H;have c44b0:=eq_true c44;have c44b1:decide (x7_2≤(x5_1.length:Int))=true:=decide_eq_true c44;clear c44;obtain ⟨y169,hy169⟩:∃ y_:List Int,y_=(x5_1.take (x7_2:Int).toNat):=⟨_,rfl⟩
          replace H:((spec_l1Own.f y169).bind fun t173=>(if t173.length < 17592186044416 then ((some (t173 ++ [x6_1]:List Int)).bind fun y176=>((some (x5_1.drop (x7_2:Int).toNat:List Int)).bind fun y179=>(if y176.length+y179.length < 17592186044416 then (spec_cuRows.l0 k2 a1 (y176 ++ y179) (wrap64 (x6_1+1)) a0_0 a0_1) else (none)))) else (none)))=some r:=by first|(rw[hy169];with_reducible exact H)|(have H2_:=(Option.bind_some _ _).symm.trans H;rw[hy169];with_reducible exact H2_)|(have H2_:=(Option.bind_some _ _).symm.trans H;with_reducible exact H2_)|with_reducible exact H|(rw[hy169];exact H)|exact H
          have Ny169:=am' hy169;clear hy169;replace H:=Option.bind_eq_some_iff.mp H;obtain ⟨t173,A450,H⟩:=H;replace H:(if t173.length < 17592186044416 then ((some (t173 ++ [x6_1]:List Int)).bind fun y176=>((some (x5_1.drop (x7_2:Int).toNat:List Int)).bind fun y179=>(if y176.length+y179.length < 17592186044416 then (spec_cuRows.l0 k2 a1 (y176 ++ y179) (wrap64 (x6_1+1)) a0_0 a0_1) else (none)))) else (none))=some r:=H;have A45:=am' A450;clear A450;by_cases c46:t173.length < 17592186044416
          ·
           rw[if_pos c46] at H;have LMc46:=am' c46;clear c46;obtain ⟨y176,hy176⟩:∃ y_:List Int,y_=(t173 ++ [x6_1]):=⟨_,rfl⟩
           replace H:((some (x5_1.drop (x7_2:Int).toNat:List Int)).bind fun y179=>(if y176.length+y179.length < 17592186044416 then (spec_cuRows.l0 k2 a1 (y176 ++ y179) (wrap64 (x6_1+1)) a0_0 a0_1) else (none)))=some r:=by first|(rw[hy176];with_reducible exact H)|(have H2_:=(Option.bind_some _ _).symm.trans H;rw[hy176];with_reducible exact H2_)|(have H2_:=(Option.bind_some _ _).symm.trans H;with_reducible exact H2_)|with_reducible exact H|(rw[hy176];exact H)|exact H
           have Ny176:=am' hy176;clear hy176;have c47b0:=eq_true (of_decide_eq_true (by first|(with_reducible assumption)|assumption):0≤x7_2);have c48b0:=eq_true (of_decide_eq_true (by first|(with_reducible assumption)|assumption):x7_2≤(x5_1.length:Int));obtain ⟨y179,hy179⟩:∃ y_:List Int,y_=(x5_1.drop (x7_2:Int).toNat):=⟨_,rfl⟩
           replace H:(if y176.length+y179.length < 17592186044416 then (spec_cuRows.l0 k2 a1 (y176 ++ y179) (wrap64 (x6_1+1)) a0_0 a0_1) else (none))=some r:=by first|(rw[hy179];with_reducible exact H)|(have H2_:=(Option.bind_some _ _).symm.trans H;rw[hy179];with_reducible exact H2_)|(have H2_:=(Option.bind_some _ _).symm.trans H;with_reducible exact H2_)|with_reducible exact H|(rw[hy179];exact H)|exact H
           have Ny179:=am' hy179;clear hy179;by_cases c49:y176.length+y179.length < 17592186044416
           ·
            rw[if_pos c49] at H;have LMc49:=am' c49;clear c49;obtain ⟨y183,hy183⟩:∃ y_:List Int,y_=(y176 ++ y179):=⟨_,rfl⟩
            replace H:(spec_cuRows.l0 k2 a1 y183 (wrap64 (x6_1+1)) a0_0 a0_1)=some r:=by first|(rw[hy183];with_reducible exact H)|(have H2_:=(Option.bind_some _ _).symm.trans H;rw[hy183];with_reducible exact H2_)|(have H2_:=(Option.bind_some _ _).symm.trans H;with_reducible exact H2_)|with_reducible exact H|(rw[hy183];exact H)|exact H
            have Ny183:=am' hy183;clear hy183;have H':=am' H;clear H;try go_wp2
            have n0_:=am' (rw' HO_5.out);have n1_:=am' (kd' BK141.out);have n2_:=am' (be' HB.out);clear HO_5;clear BK141;clear HB;have HO_5:=n0_;have BK141:=n1_;have HB:=n2_;clear n0_ n1_ n2_;refine start_ (n:=13) (S:=fun w'=>True) (ds:=[]) #[false,false,false,false,false,false,false,false,false,false,false,false,false] (by kernel_rfl) rfl rfl trivial (fun hHeld=>?_);refine with_tabW spec_cuRows.tab7 spec_cuRows.bits7 (fun HT_ HW_=>?_);generalize wr.drew=w50 at HO_5 BK141 HB hHeld ⊢
            refine pure_ (i:=0) (N:=some 22) (v:=?_) (a':=?_) #[true,false,false,false,false,false,false,false,false,false,false,false,false] rfl rfl (any_of HT_.out (by kernel_rfl)) (fun _ _ _ h=>h) (Or.inl ⟨by rfl,?_⟩) ?_ ?_
            rotate_left
            ·
             intro w';go_simp;with_reducible rfl
            rotate_left
            ·
             simp only[Act.put,sa',sb',sc',i64_w,i32_w];rfl
            refine pure_ (i:=1) (N:=some 23) (v:=?_) (a':=?_) #[true,true,false,false,false,false,false,false,false,false,false,false,false] rfl rfl (any_of HT_.out (by kernel_rfl)) (fun _ _ _ h=>h) (Or.inl ⟨by rfl,?_⟩) ?_ ?_
            rotate_left
            ·
             intro w';go_simp;with_reducible rfl
            rotate_left
            ·
             simp only[Act.put,sa',sb',sc',i64_w,i32_w];rfl
            refine pure_ (i:=2) (N:=some 24) (v:=?_) (a':=?_) #[true,true,true,false,false,false,false,false,false,false,false,false,false] rfl rfl (any_of HT_.out (by kernel_rfl)) (fun _ _ _ h=>h) (Or.inl ⟨by rfl,?_⟩) ?_ ?_
            rotate_left
            ·
             intro w';go_simp;with_reducible rfl
            rotate_left
            ·
             simp only[Act.put,sa',sb',sc',i64_w,i32_w];rfl
            refine pure_ (i:=3) (N:=some 25) (v:=undef) (a':=?_) #[true,true,true,true,false,false,false,false,false,false,false,false,false] rfl rfl (any_of HT_.out (by kernel_rfl)) (fun _ _ _ h=>h) (Or.inr ⟨by rfl,rfl⟩) ?_ ?_
            rotate_left
            ·
             simp only[Act.put,sa',sb',sc',i64_w,i32_w];rfl
            refine pure_ (i:=4) (N:=some 26) (v:=undef) (a':=?_) #[true,true,true,true,true,false,false,false,false,false,false,false,false] rfl rfl (any_of HT_.out (by kernel_rfl)) (fun _ _ _ h=>h) (Or.inr ⟨by rfl,rfl⟩) ?_ ?_
            rotate_left
            ·
             simp only[Act.put,sa',sb',sc',i64_w,i32_w];rfl
            refine pure_ (i:=5) (N:=some 27) (v:=undef) (a':=?_) #[true,true,true,true,true,true,false,false,false,false,false,false,false] rfl rfl (any_of HT_.out (by kernel_rfl)) (fun _ _ _ h=>h) (Or.inr ⟨by rfl,rfl⟩) ?_ ?_
            rotate_left
            ·
             simp only[Act.put,sa',sb',sc',i64_w,i32_w];rfl
            refine pure_ (i:=6) (N:=some 28) (v:=undef) (a':=?_) #[true,true,true,true,true,true,true,false,false,false,false,false,false] rfl rfl (any_of HT_.out (by kernel_rfl)) (fun _ _ _ h=>h) (Or.inr ⟨by rfl,rfl⟩) ?_ ?_
            rotate_left
            ·
             simp only[Act.put,sa',sb',sc',i64_w,i32_w];rfl
            refine pure_ (i:=7) (N:=some 29) (v:=undef) (a':=?_) #[true,true,true,true,true,true,true,true,false,false,false,false,false] rfl rfl (any_of HT_.out (by kernel_rfl)) (fun _ _ _ h=>h) (Or.inr ⟨by rfl,rfl⟩) ?_ ?_
            rotate_left
            ·
             simp only[Act.put,sa',sb',sc',i64_w,i32_w];rfl
            refine pure_ (i:=8) (N:=some 30) (v:=undef) (a':=?_) #[true,true,true,true,true,true,true,true,true,false,false,false,false] rfl rfl (any_of HT_.out (by kernel_rfl)) (fun _ _ _ h=>h) (Or.inr ⟨by rfl,rfl⟩) ?_ ?_
            rotate_left
            ·
             simp only[Act.put,sa',sb',sc',i64_w,i32_w];rfl
            refine pure_ (i:=9) (N:=some 31) (v:=undef) (a':=?_) #[true,true,true,true,true,true,true,true,true,true,false,false,false] rfl rfl (any_of HT_.out (by kernel_rfl)) (fun _ _ _ h=>h) (Or.inr ⟨by rfl,rfl⟩) ?_ ?_
            rotate_left
            ·
             simp only[Act.put,sa',sb',sc',i64_w,i32_w];rfl
            refine pure_ (i:=10) (N:=some 32) (v:=undef) (a':=?_) #[true,true,true,true,true,true,true,true,true,true,true,false,false] rfl rfl (any_of HT_.out (by kernel_rfl)) (fun _ _ _ h=>h) (Or.inr ⟨by rfl,rfl⟩) ?_ ?_
            rotate_left
            ·
             simp only[Act.put,sa',sb',sc',i64_w,i32_w];rfl
            refine pure_ (i:=11) (N:=some 33) (v:=undef) (a':=?_) #[true,true,true,true,true,true,true,true,true,true,true,true,false] rfl rfl (any_of HT_.out (by kernel_rfl)) (fun _ _ _ h=>h) (Or.inr ⟨by rfl,rfl⟩) ?_ ?_
            rotate_left
            ·
             simp only[Act.put,sa',sb',sc',i64_w,i32_w];rfl
            refine pure_ (i:=12) (N:=some 34) (v:=?_) (a':=?_) #[true,true,true,true,true,true,true,true,true,true,true,true,true] rfl rfl (any_of HT_.out (by kernel_rfl)) (fun _ _ _ h=>h) (Or.inl ⟨by rfl,?_⟩) ?_ ?_
            rotate_left
            ·
             intro w';go_simp;with_reducible rfl
            rotate_left
            ·
             simp only[Act.put,sa',sb',sc',i64_w,i32_w];rfl
            refine done_ (done_of HT_.out (by kernel_rfl)) ?_
            have q51:(x7_2:Int)≤((x5_1.length:Int):Int):=of_decide_eq_true (by first|(with_reducible assumption)|assumption);obtain ⟨i051,hi051,_,hsz51,_⟩:=info_parts info3;have hroom51:x5_1.length≤co12:=(Kd.R_reads' HO_5.out).2.1;have hC51:Kd.C (Kd.int .i64) _ Ao12 x5_1.length x5_1:=(Kd.R_reads' HO_5.out).2.2;have hcut51:=cut_to (P:=Try.prog) 32 3 .i64 Try.underlying32 hi051 Ao12 x5_1.length co12 x7_2 (of_decide_eq_true (by first|(with_reducible assumption)|assumption)) q51 hroom51;have hr51:=Kd.C_take (m:=(x7_2:Int).toNat) hC51 (by omega);have hy51:y169.length=(x7_2:Int).toNat:=(by rw[Ny169.out,List.length_take];omega)
            rw[← Ny169.out] at hr51;rw[← hy51] at hcut51;have HR172:=am' hr51;have HC172:=am' (show y169.length≤co12 from by omega);clear hr51 hC51 hroom51 hi051 hsz51;have KY51:=am' hy51;clear hy51;have KL51:=am' (show (x7_2:Int).toNat≤x5_1.length from by omega);replace q51:=eq_true q51
            try go_wp2_with (first|((with_reducible refine gate_callee (f:=118) rfl ?_);refine goesL_ (some 40) rfl rfl Try.func118 (by kernel_rfl) rfl #[.slice Ao12 y169.length co12] rfl (by (try simp only[List.map_toArray,List.map_cons,List.map_nil]);first|done|rfl|(simp only[List.length_drop,List.length_take];rfl)) ?_;(with_reducible refine (spec_l1Own.calls _ _ y169 t173 _ ?side1 ?side2 A45.out).mono ?_);(case side1=>repeat (first|exact (by repeat (first|(with_reducible exact HR172.out)|(with_reducible refine ca' ?_ _)|(with_reducible refine cn' ?_ _)|(with_reducible refine cd' ?_)|exact HR172.out))|(with_reducible refine ca' ?_ _)|(with_reducible refine cn' ?_ _)|(with_reducible refine cd' ?_)));(case side2=>exact HC172.out);rintro e w52 ⟨v174,rfl,ho0,hb⟩;refine ⟨_,rfl,?_⟩;have n0_:=am' (Kd.R_elder' (by (with_reducible repeat (first|apply ra'|apply rn'|apply rw'));exact HO_5.out) (Kd.R_base ho0) hb);have n1_:=am' (Kd.R_lower (Kd.R_new' ho0 (Kd.R_lt (by (with_reducible repeat (first|apply ra'|apply rn'|apply rw'));exact HO_5.out))) (below_size (by repeat (first|(with_reducible first|exact HB.out|apply ba'|apply bd'|apply be'|refine bs' ?_ GE141.out)|exact HB.out))));have n2_:=am' (blk_below (g:=gb141) (o := .cells #[.int .i64 a0_0, .int .i64 a0_1] 40 (0,0)) (by (with_reducible repeat (first|refine kn' ?_ _|refine kd' ?_|refine ka' ?_ _));exact BK141.out) hb);have n3_:=am' (Kd.C_below (by repeat (first|(with_reducible exact HR172.out)|(with_reducible refine ca' ?_ _)|(with_reducible refine cn' ?_ _)|(with_reducible refine cd' ?_)|exact HR172.out)) hb);have n4_:=am' (below_step (by repeat (first|(with_reducible first|exact HB.out|apply ba'|apply bd'|apply be'|refine bs' ?_ GE141.out)|exact HB.out)) hb);clear HO_5;clear BK141;clear HR172;clear HB;have HO_5:=n0_;have HO175:=n1_;have BK141:=n2_;have HR172:=n3_;have HB:=n4_;clear n0_ n1_ n2_ n3_ n4_;(try clear hb);(try clear hb2);(try clear hk);(try clear hi);(try clear ho0))|((with_reducible refine gate_builtin (b := .append) (xs:=#[.tmp 40, .tmp 42]) rfl ?_);at_builtin;refine Kd.R_append (Kd.int .i64) (w0:=w) w.heap.size rfl (.tmp 40) (.tmp 42) 32 3 (.int .i64 0) 8 rfl Try.underlying32 info3 rfl (by decide) (by omega) v174 t173 x6_1 [.int .i64 x6_1] (fun k_=>some k_≠(.slice Ao12 x5_1.length co12:Value).ownBlock) (fun _=>False) rfl rfl ?aP (fun _ hk=>hk.elim) ?aF ?aO ?aB ?aS ?aL ?_;(case aP=>exact rfl);(case aB=>exact (by repeat (first|(with_reducible first|exact HB.out|apply ba'|apply bd'|apply be'|refine bs' ?_ GE141.out)|exact HB.out)));(case aF=>exact (fun k_ hk=>Kd.fresh' (Kd.R_lt (by (with_reducible repeat (first|apply ra'|apply rn'|apply rw'));exact HO_5.out)) k_ hk));(case aO=>exact (by (with_reducible repeat (first|apply ra'|apply rn'|apply rw'));exact Kd.R_mono HO175.out (fun _ hk=>hk.2)));(case aS=>exact (below_size (by repeat (first|(with_reducible first|exact HB.out|apply ba'|apply bd'|apply be'|refine bs' ?_ GE141.out)|exact HB.out))));(case aL=>have:=LMc46.out;omega);intro v177 w53 ho hb hg hat;rw[← Ny176.out] at ho;have n0_:=am' (Kd.R_after (ok:=(fun _=>True)) (by (with_reducible repeat (first|apply ra'|apply rn'|apply rw'));exact HO_5.out) hg hat);have n1_:=am' (blk_grown (g:=gb141) (o := .cells #[.int .i64 a0_0, .int .i64 a0_1] 40 (0,0)) (by (with_reducible repeat (first|refine kn' ?_ _|refine kd' ?_|refine ka' ?_ _));exact BK141.out) hg (Kd.R_ne HO175.out BK141.out (by decide)));have n2_:=am' (hb);have n3_:=am' ((show Kd.C (Kd.int .i64) w53 Ao12 y169.length y169 from by rw[Ny169.out];exact Kd.C_take (m:=(x7_2:Int).toNat) ((Kd.R_reads' (Kd.R_after (ok:=(fun _=>True)) (by (with_reducible repeat (first|apply ra'|apply rn'|apply rw'));exact HO_5.out) hg hat)).2.2) KL51.out));have n4_:=am' (ho);clear HO_5;clear BK141;clear HB;clear HR172;clear HO175;have HO_5:=n0_;have BK141:=n1_;have HB:=n2_;have HR172:=n3_;have HO178:=n4_;clear n0_ n1_ n2_ n3_ n4_;clear ho hb hg hat;have q54:(x7_2:Int)≤((x5_1.length:Int):Int):=of_decide_eq_true (by first|(with_reducible assumption)|assumption);obtain ⟨i054,hi054,_,hsz54,_⟩:=info_parts info3;have hroom54:x5_1.length≤co12:=(Kd.R_reads' HO_5.out).2.1;have hC54:Kd.C (Kd.int .i64) _ Ao12 x5_1.length x5_1:=(Kd.R_reads' HO_5.out).2.2;have q054:(0:Int)≤(x7_2:Int):=of_decide_eq_true (by first|(with_reducible assumption)|assumption);have hcut54:=cut_from (P:=Try.prog) 32 3 .i64 Try.underlying32 hi054 1 hsz54 Ao12 x5_1.length co12 x7_2 q054 q54;have hr54:=Kd.C_drop (m:=(x7_2:Int).toNat) (c:=co12) hC54 (by omega) hroom54;obtain ⟨A54,hA54⟩:∃ A1,A1=(if co12=(x7_2:Int).toNat then Ao12 else (Ao12:Option Addr).map (·.add ((x7_2:Int).toNat * 1))):=⟨_,rfl⟩;obtain ⟨c54,hc54⟩:∃ c1,c1=co12 - (x7_2:Int).toNat:=⟨_,rfl⟩;have hy54:y179.length=x5_1.length - (x7_2:Int).toNat:=(by rw[Ny179.out,List.length_drop] <;> omega);rw[show (x5_1).drop (x7_2:Int).toNat=y179 from Ny179.out.symm] at hr54;replace hr54:Kd.C (Kd.int .i64) _ A54 y179.length y179:=(by rw[hA54];exact hr54);rw[← hy54,← hA54,← hc54] at hcut54;have HR182:=am' hr54;have HC182:=am' (show y179.length≤c54 from by rw[hy54,hc54];exact Nat.sub_le_sub_right hroom54 _);clear hr54 hC54 hroom54 hi054 hsz54 hc54;have KY54:=am' hy54;have KA54:=am' hA54;clear hy54 hA54;have KL54:=am' (show (x7_2:Int).toNat≤x5_1.length from by omega);replace q54:=eq_true q54)|((with_reducible refine gate_builtin (b := .append) (xs:=#[.tmp 44, .tmp 47]) rfl ?_);at_builtin;refine Kd.R_append_rows (Kd.int .i64) (w0:=w) w.heap.size rfl (.tmp 44) (.tmp 47) 32 3 (.int .i64 0) 8 rfl Try.underlying32 info3 rfl (by decide) (by omega) v177 y176 y179 _ _ _ (fun k_=>some k_≠(.slice Ao12 x5_1.length co12:Value).ownBlock) (fun _=>False) rfl rfl ?aO ?aR (fun _ _ h=>h) (fun _ h=>h.elim) ?aF ?aB ?aS ?aL ?_;(case aR=>repeat (first|exact (by repeat (first|(with_reducible exact HR182.out)|(with_reducible refine ca' ?_ _)|(with_reducible refine cn' ?_ _)|(with_reducible refine cd' ?_)|exact HR182.out))|(with_reducible refine ca' ?_ _)|(with_reducible refine cn' ?_ _)|(with_reducible refine cd' ?_)));(case aB=>exact (by repeat (first|(with_reducible first|exact HB.out|apply ba'|apply bd'|apply be'|refine bs' ?_ GE141.out)|exact HB.out)));(case aF=>exact (fun k_ hk=>Kd.fresh' (Kd.R_lt (by (with_reducible repeat (first|apply ra'|apply rn'|apply rw'));exact HO_5.out)) k_ hk));(case aO=>exact (by (with_reducible repeat (first|apply ra'|apply rn'|apply rw'));exact HO178.out));(case aS=>exact (below_size (by repeat (first|(with_reducible first|exact HB.out|apply ba'|apply bd'|apply be'|refine bs' ?_ GE141.out)|exact HB.out))));(case aL=>have:=LMc49.out;omega);intro v184 w55 ho hb hg hat;rw[← Ny183.out] at ho;have n0_:=am' (Kd.R_after (ok:=(fun _=>True)) (by (with_reducible repeat (first|apply ra'|apply rn'|apply rw'));exact HO_5.out) hg hat);have n1_:=am' (blk_grown (g:=gb141) (o := .cells #[.int .i64 a0_0, .int .i64 a0_1] 40 (0,0)) (by (with_reducible repeat (first|refine kn' ?_ _|refine kd' ?_|refine ka' ?_ _));exact BK141.out) hg (Kd.R_ne HO178.out BK141.out (by decide)));have n2_:=am' (hb);have n3_:=am' ((show Kd.C (Kd.int .i64) w55 Ao12 y169.length y169 from by rw[Ny169.out];exact Kd.C_take (m:=(x7_2:Int).toNat) ((Kd.R_reads' (Kd.R_after (ok:=(fun _=>True)) (by (with_reducible repeat (first|apply ra'|apply rn'|apply rw'));exact HO_5.out) hg hat)).2.2) KL51.out));have n4_:=am' ((show Kd.C (Kd.int .i64) w55 A54 y179.length y179 from by rw[Ny179.out,KA54.out];exact Kd.C_drop (m:=(x7_2:Int).toNat) (c:=co12) ((Kd.R_reads' (Kd.R_after (ok:=(fun _=>True)) (by (with_reducible repeat (first|apply ra'|apply rn'|apply rw'));exact HO_5.out) hg hat)).2.2) KL54.out ((Kd.R_reads' (Kd.R_after (ok:=(fun _=>True)) (by (with_reducible repeat (first|apply ra'|apply rn'|apply rw'));exact HO_5.out) hg hat)).2.1)));have n5_:=am' (ho);clear HO_5;clear BK141;clear HB;clear HR172;clear HR182;clear HO178;have HO_5:=n0_;have BK141:=n1_;have HB:=n2_;have HR172:=n3_;have HR182:=n4_;have HO185:=n5_;clear n0_ n1_ n2_ n3_ n4_ n5_;clear ho hb hg hat))
            go_roundg k2
            case measure=>have:=HK1.out;have:=HK2.out;omega
            case rel=>exact ⟨(y183),(wrap64 (x6_1+1)),(by first|rfl|(simp;done)|(simp[*];done)),H',⟨by have:=HK1.out;have:=HK2.out;omega⟩,⟨by (with_reducible repeat (first|apply ra'|apply rn'|apply rw'));exact Kd.R_mono HO185.out (fun _ hk=>trivial)⟩,⟨by (with_reducible repeat (first|refine kn' ?_ _|refine kd' ?_|refine ka' ?_ _));exact BK141.out⟩,⟨by repeat (first|(with_reducible first|exact HB.out|apply ba'|apply bd'|apply be'|refine bs' ?_ GE141.out)|exact HB.out)⟩⟩
           ·
            rw[if_neg c49] at H;exact absurd H (by simp)
          ·
           rw[if_neg c46] at H;exact absurd H (by simp)
         ·
          rw[if_neg c44] at H;exact absurd H (by simp)
        ·
         rw[if_neg c43] at H;exact absurd H (by simp)
    ·
     replace c7:=Bool.eq_false_iff.mpr c7;subst c7;have H1:(spec_cuRows.l0 k1 a1 x5_1 (wrap64 (x6_1+1)) a0_0 a0_1)=some r:=by rw[if_neg (show ¬ (false=true) by decide)] at H;exact H
     clear H;have H:=H1;clear H1;have H':=am' H;clear H;have hcz56_0:wr.cell? ⟨gb141,0,none⟩=some (.int .i64 a0_0):=(blk_cell BK141.out 0).trans rfl;have hcz56_1:wr.cell? ⟨gb141,1,none⟩=some (.int .i64 a0_1):=(blk_cell BK141.out 1).trans rfl;have hfz56_0:=blk_frozen BK141.out 0;have hfz56_1:=blk_frozen BK141.out 1;go_wp2_with (first|((with_reducible refine gate_callee (f:=105) rfl ?_);refine goesL_ (some 11) rfl rfl Try.func105 (by kernel_rfl) rfl #[.agg #[.int .i64 a0_0, .int .i64 a0_1]] rfl (by (try simp only[List.map_toArray,List.map_cons,List.map_nil]);first|done|rfl|(simp only[List.length_drop,List.length_take];rfl)) ?_;(with_reducible refine (spec_cuSize.calls a0_0 a0_1 t142 _ A4.out).mono ?_);rintro e w57 ⟨rfl,hb⟩;refine ⟨_,rfl,?_⟩;have n0_:=am' (Kd.R_below (by (with_reducible repeat (first|apply ra'|apply rn'|apply rw'));exact HO_5.out) hb);have n1_:=am' (blk_below (g:=gb141) (o := .cells #[.int .i64 a0_0, .int .i64 a0_1] 40 (0,0)) (by (with_reducible repeat (first|refine kn' ?_ _|refine kd' ?_|refine ka' ?_ _));exact BK141.out) hb);have n2_:=am' (below_step (by repeat (first|(with_reducible first|exact HB.out|apply ba'|apply bd'|apply be'|refine bs' ?_ GE141.out)|exact HB.out)) hb);clear HO_5;clear BK141;clear HB;have HO_5:=n0_;have BK141:=n1_;have HB:=n2_;clear n0_ n1_ n2_;(try clear hb);(try clear hb2);(try clear hk);(try clear hi);have hcz58_0:w57.cell? ⟨gb141,0,none⟩=some (.int .i64 a0_0):=(blk_cell BK141.out 0).trans rfl;have hcz58_1:w57.cell? ⟨gb141,1,none⟩=some (.int .i64 a0_1):=(blk_cell BK141.out 1).trans rfl;have hfz58_0:=blk_frozen BK141.out 0;have hfz58_1:=blk_frozen BK141.out 1)|((with_reducible refine gate_callee (f:=116) rfl ?_);refine goesL_ (some 18) rfl rfl Try.func116 (by kernel_rfl) rfl #[.agg #[.int .i64 a0_0, .int .i64 a0_1], .int .i64 a1, .int .i64 x6_1] rfl (by (try simp only[List.map_toArray,List.map_cons,List.map_nil]);first|done|rfl|(simp only[List.length_drop,List.length_take];rfl)) ?_;(with_reducible refine (spec_cuCan.calls k1 a0_0 a0_1 a1 x6_1 false _ A6.out).mono ?_);rintro e w59 ⟨rfl,hb⟩;refine ⟨_,rfl,?_⟩;have n0_:=am' (Kd.R_below (by (with_reducible repeat (first|apply ra'|apply rn'|apply rw'));exact HO_5.out) hb);have n1_:=am' (blk_below (g:=gb141) (o := .cells #[.int .i64 a0_0, .int .i64 a0_1] 40 (0,0)) (by (with_reducible repeat (first|refine kn' ?_ _|refine kd' ?_|refine ka' ?_ _));exact BK141.out) hb);have n2_:=am' (below_step (by repeat (first|(with_reducible first|exact HB.out|apply ba'|apply bd'|apply be'|refine bs' ?_ GE141.out)|exact HB.out)) hb);clear HO_5;clear BK141;clear HB;have HO_5:=n0_;have BK141:=n1_;have HB:=n2_;clear n0_ n1_ n2_;(try clear hb);(try clear hb2);(try clear hk);(try clear hi)));go_roundg k1
     case measure=>have:=HK1.out;omega
     case rel=>exact ⟨(x5_1),(wrap64 (x6_1+1)),(by first|rfl|(simp;done)|(simp[*];done)),H',⟨by have:=HK1.out;omega⟩,⟨by (with_reducible repeat (first|apply ra'|apply rn'|apply rw'));exact HO_5.out⟩,⟨by (with_reducible repeat (first|refine kn' ?_ _|refine kd' ?_|refine ka' ?_ _));exact BK141.out⟩,⟨by repeat (first|(with_reducible first|exact HB.out|apply ba'|apply bd'|apply be'|refine bs' ?_ GE141.out)|exact HB.out)⟩⟩
   ·
    rw[if_neg c5] at H;have c5b0:decide (x6_1 < t142)=false:=decide_eq_false c5;clear c5;obtain rfl:=Option.some.inj H;have hcz60_0:wr.cell? ⟨gb141,0,none⟩=some (.int .i64 a0_0):=(blk_cell BK141.out 0).trans rfl;have hcz60_1:wr.cell? ⟨gb141,1,none⟩=some (.int .i64 a0_1):=(blk_cell BK141.out 1).trans rfl;have hfz60_0:=blk_frozen BK141.out 0;have hfz60_1:=blk_frozen BK141.out 1;go_wp2_with (first|((with_reducible refine gate_callee (f:=105) rfl ?_);refine goesL_ (some 11) rfl rfl Try.func105 (by kernel_rfl) rfl #[.agg #[.int .i64 a0_0, .int .i64 a0_1]] rfl (by (try simp only[List.map_toArray,List.map_cons,List.map_nil]);first|done|rfl|(simp only[List.length_drop,List.length_take];rfl)) ?_;(with_reducible refine (spec_cuSize.calls a0_0 a0_1 t142 _ A4.out).mono ?_);rintro e w61 ⟨rfl,hb⟩;refine ⟨_,rfl,?_⟩;have n0_:=am' (Kd.R_below (by (with_reducible repeat (first|apply ra'|apply rn'|apply rw'));exact HO_5.out) hb);have n1_:=am' (blk_below (g:=gb141) (o := .cells #[.int .i64 a0_0, .int .i64 a0_1] 40 (0,0)) (by (with_reducible repeat (first|refine kn' ?_ _|refine kd' ?_|refine ka' ?_ _));exact BK141.out) hb);have n2_:=am' (below_step (by repeat (first|(with_reducible first|exact HB.out|apply ba'|apply bd'|apply be'|refine bs' ?_ GE141.out)|exact HB.out)) hb);clear HO_5;clear BK141;clear HB;have HO_5:=n0_;have BK141:=n1_;have HB:=n2_;clear n0_ n1_ n2_;(try clear hb);(try clear hb2);(try clear hk);(try clear hi)));go_ret
    exact ⟨_,by first|rfl|(simp[errW_none,errW_some] <;> rfl)|(simp[*,errW_none,errW_some] <;> rfl),by (with_reducible repeat (first|apply ra'|apply rn'|apply rw'));exact HO_5.out,by repeat (first|(with_reducible first|exact HB.out|apply ba'|apply bd'|apply be'|refine bs' ?_ GE141.out)|exact HB.out)⟩
end Go.Proofs.Ytibdeohiimjocaa.C19
