import Derived.Test.YtamljjfhkolflaaC14zx0
import Derived.Test.YtamljjfhkolflaaC14zx2
import Derived.Test.YtamljjfhkolflaaC14zx3
import Derived.Test.YtamljjfhkolflaaC14zx4
import Derived.Test.YtamljjfhkolflaaC14zAl
namespace Go.Proofs.Ytamljjfhkolflaa.C14
open Go.RowKit Go.Proofs.YtamljjfhkolflaaW.PrintWords Go.Proofs.YtamljjfhkolflaaW.PrintLast Go.Proofs.YtamljjfhkolflaaW.PrintMore Go.Proofs.Ytamljjfhkolflaa.H
attribute [local go_sem] max2_int min2_int max_two min_two max_three min_three max_four min_four
set_option linter.unusedVariables false
set_option linter.unusedSimpArgs false
def spec_seNext.l0:Nat→List Int→List (List Int)→List (List Int)→Int→Int→List Int→Int→List Bool→Bool→Option ((List (List Int)))
 | 0,_,_,_,_,_,_,_,_,_=>none
 | k+1,x1,x7,x13,x14,x15,x240000,x240001,x241000,x241001=>if x15 < x14 then (if 0≤x15 then (if x15 < (x13.length:Int) then ((spec_paCross.f k x241000 x241001 (rd_L2 x13 x15)).bind fun bt245=>((spec_seIndex.f k bt245.1 bt245.2).bind fun t249=>(if 0≤t249 then (if t249 < (x1.length:Int) then (if (rd x1 t249) ≥ 0 then ((spec_paTime.f k x240000 x240001 (rd_L2 x13 x15)).bind fun t251=>((spec_seIndex.f k x241000 x241001).bind fun t252=>(if 0≤t252 then (if t252 < (x1.length:Int) then (if (wrap64 ((rd x1 t249)+t251))=(rd x1 t252) then (if x7.length < 5864062014805 then (spec_seNext.l0 k x1 (x7 ++ [rd_L2 x13 x15]) x13 x14 (wrap64 (x15+1)) x240000 x240001 x241000 x241001) else (none)) else (spec_seNext.l0 k x1 x7 x13 x14 (wrap64 (x15+1)) x240000 x240001 x241000 x241001)) else (none)) else (none)))) else (spec_seNext.l0 k x1 x7 x13 x14 (wrap64 (x15+1)) x240000 x240001 x241000 x241001)) else (none)) else (none)))) else (none)) else (none)) else (some x7)
def spec_seNext.f (k:Nat) (l0_0:List Int) (a0_1:Int) (l1:List Int) (l2_0:List Bool) (a2_1:Bool):Option ((List (List Int))):=(spec_paTrips.f k l0_0 a0_1 l2_0 a2_1).bind fun t241=>(spec_seNext.l0 k l1 ([]:List (List Int)) t241 (t241.length:Int) 0 l0_0 a0_1 l2_0 a2_1)
def spec_seNext.T6:Bool × List (List Nat × List Nat):=(true,[([],[]),([0],[0]),([1],[1]),([2],[2]),([2],[2]),([2],[2]),([4,5,2,2],[2,4,5]),([3,6,2],[2,3,6]),([2],[2]),([2],[2]),([9,6,2],[2,9]),([8,10,2],[2,8,10]),([11,2],[2,11]),([7,12,2],[2,7,12]),([2,13],[2,13])])
def spec_seNext.B6:List Nat:=[0,1,3,7,7,7,55,127,7,7,631,1911,3959,8191,16383]
theorem spec_seNext.tab6:rtab .any (opsOf Try.f85 6)=spec_seNext.T6:=by kernel_rfl
theorem spec_seNext.bits6:waitsOk spec_seNext.T6.2 spec_seNext.B6=true:=by kernel_rfl
set_option maxHeartbeats 8000000 in
set_option maxRecDepth 100000 in
theorem spec_seNext.calls (k:Nat) (A0_0:Option Addr) (c0_0:Nat) (l0_0:List Int) (a0_1:Int) (A1:Option Addr) (c1:Nat) (l1:List Int) (A2_0:Option Addr) (c2_0:Nat) (l2_0:List Bool) (a2_1:Bool) (r:List (List Int)) (w:World) (hr0_0:Kd.C (Kd.int .i64) w A0_0 l0_0.length l0_0) (hc0_0:l0_0.length≤c0_0) (hr1:Kd.C (Kd.int .i64) w A1 l1.length l1) (hc1:l1.length≤c1) (hr2_0:Kd.C Kd.bool w A2_0 l2_0.length l2_0) (hc2_0:l2_0.length≤c2_0) (h:spec_seNext.f k l0_0 a0_1 l1 l2_0 a2_1=some r) :
  Calls Try.prog 85 #[.agg #[.slice A0_0 l0_0.length c0_0, .int .i64 a0_1], .slice A1 l1.length c1, .agg #[.slice A2_0 l2_0.length c2_0, .bool a2_1]] w fun e w'=>∃ v0_:Value,e = .returned (v0_)∧Kd.N (Kd.slice 3 (Kd.int .i64)) 22 w' w.heap.size (fun k_=>(w.heap.size≤k_)) v0_ r∧Below w.heap.size w w':=by
 have hu28:=Try.underlying28
 have hu44:=Try.underlying44
 have HR0_0:=am' hr0_0
 have HC0_0:=am' hc0_0
 clear hr0_0 hc0_0;have HR1:=am' hr1
 have HC1:=am' hc1
 clear hr1 hc1;have HR2_0:=am' hr2_0
 have HC2_0:=am' hc2_0
 clear hr2_0 hc2_0;have HB:=am' (Below.refl w.heap.size w)
 have H:((spec_paTrips.f k l0_0 a0_1 l2_0 a2_1).bind fun t241=>(spec_seNext.l0 k l1 ([]:List (List Int)) t241 (t241.length:Int) 0 l0_0 a0_1 l2_0 a2_1))=some r:=h
 clear h;replace H:=Option.bind_eq_some_iff.mp H
 obtain ⟨t241,A40,H⟩:=H
 replace H:(spec_seNext.l0 k l1 ([]:List (List Int)) t241 (t241.length:Int) 0 l0_0 a0_1 l2_0 a2_1)=some r:=H
 have A4:=am' A40
 clear A40;have H':=am' H
 clear H;go_enter Try.func85,Try.ntmps85
 go_wp2_with (first|((with_reducible refine gate_dst (N:=3) rfl ?_);refine box_event ?hg (N:=3) ?hd (cs:=#[.slice A0_0 l0_0.length c0_0, .int .i64 a0_1]) (t:=28) ?hr ?_;(case hd=>rfl);(case hg=>rfl);(case hr=>first|(go_simp;done)|(go_simp;rfl));intro gb239 hg w5 hbox hb;have n0_:=am' (below_step (by repeat (first|(with_reducible first|exact HB.out|apply ba'|apply bd'|apply be')|exact HB.out)) hb);have n1_:=am' (hbox);have n2_:=am' ((by rw[hg];exact (below_size (by repeat (first|(with_reducible first|exact HB.out|apply ba'|apply bd'|apply be')|exact HB.out))):w.heap.size≤gb239));have n3_:=am' ((by rw[hg];exact (below_size (by repeat (first|(with_reducible first|exact HB.out|apply ba'|apply bd'|apply be')|exact HB.out))):w.heap.size≤gb239));clear HB;have HB:=n0_;have BK239:=n1_;have GW239:=n2_;have GE239:=n3_;clear n0_ n1_ n2_ n3_;clear hb hbox hg)|((with_reducible refine gate_dst (N:=5) rfl ?_);refine box_event ?hg (N:=5) ?hd (cs:=#[.slice A2_0 l2_0.length c2_0, .bool a2_1]) (t:=44) ?hr ?_;(case hd=>rfl);(case hg=>rfl);(case hr=>first|(go_simp;done)|(go_simp;rfl));intro gb240 hg w6 hbox hb;have n0_:=am' (blk_below (g:=gb239) (o := .cells #[.slice A0_0 l0_0.length c0_0, .int .i64 a0_1] 28 (0,0)) (by (with_reducible repeat (first|refine kn' ?_ _|refine kd' ?_|refine ka' ?_ _));exact BK239.out) hb);have n1_:=am' (below_step (by repeat (first|(with_reducible first|exact HB.out|apply ba'|apply bd'|apply be'|refine bs' ?_ GE239.out)|exact HB.out)) hb);have n2_:=am' (hbox);have n3_:=am' ((by rw[hg];exact (below_size (by repeat (first|(with_reducible first|exact HB.out|apply ba'|apply bd'|apply be'|refine bs' ?_ GE239.out)|exact HB.out))):w.heap.size≤gb240));have n4_:=am' ((by rw[hg];exact (below_size (by repeat (first|(with_reducible first|exact HB.out|apply ba'|apply bd'|apply be'|refine bs' ?_ GE239.out)|exact HB.out))):w.heap.size≤gb240));have n5_:=am' ((by rw[hg];exact Nat.ne_of_lt (blk_lt (g:=gb239) (o := .cells #[.slice A0_0 l0_0.length c0_0, .int .i64 a0_1] 28 (0,0)) (by (with_reducible repeat (first|refine kn' ?_ _|refine kd' ?_|refine ka' ?_ _));exact BK239.out)):gb239≠gb240));have n6_:=am' ((by rw[hg];exact Nat.ne_of_gt (blk_lt (g:=gb239) (o := .cells #[.slice A0_0 l0_0.length c0_0, .int .i64 a0_1] 28 (0,0)) (by (with_reducible repeat (first|refine kn' ?_ _|refine kd' ?_|refine ka' ?_ _));exact BK239.out)):gb240≠gb239));clear BK239;clear HB;have BK239:=n0_;have HB:=n1_;have BK240:=n2_;have GW240:=n3_;have GE240:=n4_;have NB239_240:=n5_;have NB240_239:=n6_;clear n0_ n1_ n2_ n3_ n4_ n5_ n6_;clear hb hbox hg;have hnb7:=NB239_240.out;have hnc7:=NB240_239.out;have hcz8_0:w6.cell? ⟨gb239,0,none⟩=some (.slice A0_0 l0_0.length c0_0):=(blk_cell BK239.out 0).trans rfl;have hcz8_1:w6.cell? ⟨gb239,1,none⟩=some (.int .i64 a0_1):=(blk_cell BK239.out 1).trans rfl;have hfz8_0:=blk_frozen BK239.out 0;have hfz8_1:=blk_frozen BK239.out 1;have hcz9_0:w6.cell? ⟨gb240,0,none⟩=some (.slice A2_0 l2_0.length c2_0):=(blk_cell BK240.out 0).trans rfl;have hcz9_1:w6.cell? ⟨gb240,1,none⟩=some (.bool a2_1):=(blk_cell BK240.out 1).trans rfl;have hfz9_0:=blk_frozen BK240.out 0;have hfz9_1:=blk_frozen BK240.out 1)|((with_reducible refine gate_callee (f:=100) rfl ?_);refine goesL_ (some 13) rfl rfl Try.func100 (by kernel_rfl) rfl #[.agg #[.slice A0_0 l0_0.length c0_0, .int .i64 a0_1], .agg #[.slice A2_0 l2_0.length c2_0, .bool a2_1]] rfl (by (try simp only[List.map_toArray,List.map_cons,List.map_nil]);first|done|rfl|(simp only[List.length_drop,List.length_take];rfl)) ?_;(with_reducible refine (spec_paTrips.calls k _ _ l0_0 a0_1 _ _ l2_0 a2_1 t241 _ ?side1 ?side2 ?side3 ?side4 A4.out).mono ?_);(case side1=>repeat (first|exact (Kd.C_below HR0_0.out HB.out)|(with_reducible refine ca' ?_ _)|(with_reducible refine cn' ?_ _)|(with_reducible refine cd' ?_)));(case side2=>exact HC0_0.out);(case side3=>repeat (first|exact (Kd.C_below HR2_0.out HB.out)|(with_reducible refine ca' ?_ _)|(with_reducible refine cn' ?_ _)|(with_reducible refine cd' ?_)));(case side4=>exact HC2_0.out);rintro e w10 ⟨v242,rfl,ho0,hb⟩;refine ⟨_,rfl,?_⟩;have n0_:=am' (Kd.N_lower (Kd.N_mono (ok':=fun k_=>(w.heap.size≤k_)∧k_≠gb239∧k_≠gb240) ho0 (fun k_ hk_=>⟨(Nat.le_trans (below_size (by repeat (first|(with_reducible first|exact HB.out|apply ba'|apply bd'|apply be'|refine bs' ?_ GE239.out|refine bs' ?_ GE240.out)|exact HB.out))) hk_),(Kd.freshB (g:=gb239) (o := .cells #[.slice A0_0 l0_0.length c0_0, .int .i64 a0_1] 28 (0,0)) (by (with_reducible repeat (first|refine kn' ?_ _|refine kd' ?_|refine ka' ?_ _));exact BK239.out) k_ hk_),(Kd.freshB (g:=gb240) (o := .cells #[.slice A2_0 l2_0.length c2_0, .bool a2_1] 44 (0,0)) (by (with_reducible repeat (first|refine kn' ?_ _|refine kd' ?_|refine ka' ?_ _));exact BK240.out) k_ hk_)⟩)) (below_size (by repeat (first|(with_reducible first|exact HB.out|apply ba'|apply bd'|apply be'|refine bs' ?_ GE239.out|refine bs' ?_ GE240.out)|exact HB.out))));have n1_:=am' (blk_below (g:=gb239) (o := .cells #[.slice A0_0 l0_0.length c0_0, .int .i64 a0_1] 28 (0,0)) (by (with_reducible repeat (first|refine kn' ?_ _|refine kd' ?_|refine ka' ?_ _));exact BK239.out) hb);have n2_:=am' (blk_below (g:=gb240) (o := .cells #[.slice A2_0 l2_0.length c2_0, .bool a2_1] 44 (0,0)) (by (with_reducible repeat (first|refine kn' ?_ _|refine kd' ?_|refine ka' ?_ _));exact BK240.out) hb);have n3_:=am' (below_step (by repeat (first|(with_reducible first|exact HB.out|apply ba'|apply bd'|apply be'|refine bs' ?_ GE239.out|refine bs' ?_ GE240.out)|exact HB.out)) hb);clear BK239;clear BK240;clear HB;have HO243:=n0_;have BK239:=n1_;have BK240:=n2_;have HB:=n3_;clear n0_ n1_ n2_ n3_;(try clear hb);(try clear hb2);(try clear hk);(try clear hi);(try clear ho0);obtain ⟨Ao11,co11,eo11⟩:=Kd.N_slice HO243.out;subst eo11))
 go_loopg [7,15] k (fun kq v7 v15 w'=>∃ (x7_1:List (List Int)) (x15_1:Int),v15 = .int .i64 x15_1∧Aside0 (spec_seNext.l0 kq l1 x7_1 t241 (t241.length:Int) x15_1 l0_0 a0_1 l2_0 a2_1=some r)∧Aside0 (kq≤k)∧Aside0 (Kd.N (Kd.slice 3 (Kd.int .i64)) 22 w' w.heap.size (fun k_=>(w.heap.size≤k_)∧some k_≠((.slice Ao11 t241.length co11):Value).ownBlock∧k_≠gb239∧k_≠gb240) v7 x7_1)∧Aside0 (Kd.N (Kd.slice 3 (Kd.int .i64)) 22 w' w.heap.size (fun k_=>(w.heap.size≤k_)∧some k_≠(v7:Value).ownBlock∧k_≠gb239∧k_≠gb240) (.slice Ao11 t241.length co11) t241)∧Aside0 (w'.heap[gb239]? = some (.cells #[(.slice A0_0 l0_0.length c0_0), .int .i64 a0_1] 28 (0,0)))∧Aside0 (w'.heap[gb240]? = some (.cells #[(.slice A2_0 l2_0.length c2_0), .bool a2_1] 44 (0,0)))∧Aside0 (Below w.heap.size w w'))
 case atStart=>exact ⟨(([]:List (List Int))),(0),(by first|rfl|(simp;done)|(simp[*];done)),H',⟨Nat.le_refl _⟩,⟨by first|exact Kd.S_nil _ _ _ _ _|exact Kd.N_nil _ _ _ _ _|exact Kd.V_nil _ _ _ _ _|exact Kd.Q_nil _ _ _ _ _|exact Kd.R_nil _ _ _ _ _⟩,⟨by (with_reducible repeat (first|apply Kd.N_alloc|apply Kd.N_drewN|apply Kd.N_drew));exact Kd.N_mono HO243.out (fun _ hk=>⟨hk.1,⟨(by simp[Value.ownBlock]),⟨hk.2.1,hk.2.2⟩⟩⟩)⟩,⟨by (with_reducible repeat (first|refine kn' ?_ _|refine kd' ?_|refine ka' ?_ _));exact BK239.out⟩,⟨by (with_reducible repeat (first|refine kn' ?_ _|refine kd' ?_|refine ka' ?_ _));exact BK240.out⟩,⟨by repeat (first|(with_reducible first|exact HB.out|apply ba'|apply bd'|apply be'|refine bs' ?_ GE239.out|refine bs' ?_ GE240.out)|exact HB.out)⟩⟩
 case round =>
  clear H';try clear c1
  try clear c2
  try clear p2
  try clear c7
  try clear c8
  try clear c10
  try clear hcz8_0
  try clear hcz8_1
  try clear hcz9_0
  try clear hcz9_1
  try clear hfz8_0
  try clear hfz8_1
  try clear hfz9_0
  try clear hfz9_1
  obtain ⟨x7_1,x15_1,rfl,HA,HK1,HO_7,HO_13,BK239,BK240,HB⟩:=hrel;cases gk with
  | zero=>exact absurd HA.out (by simp[spec_seNext.l0])
  | succ k1 =>
   have H:=HA.out;clear HA;simp only[spec_seNext.l0] at H;by_cases c12:x15_1 < (t241.length:Int)
   ·
    rw[if_pos c12] at H;have c12b0:decide (x15_1 < (t241.length:Int))=true:=decide_eq_true c12;clear c12;by_cases c13:0≤x15_1
    ·
     rw[if_pos c13] at H;have c13b0:decide (0≤x15_1)=true:=decide_eq_true c13;clear c13;by_cases c14:x15_1 < (t241.length:Int)
     ·
      rw[if_pos c14] at H;have c14b0:decide (x15_1 < (t241.length:Int))=true:=decide_eq_true c14;clear c14;replace H:=Option.bind_eq_some_iff.mp H;obtain ⟨⟨t245,t248⟩,A150,H⟩:=H;replace H:((spec_seIndex.f k1 t245 t248).bind fun t249=>(if 0≤t249 then (if t249 < (l1.length:Int) then (if (rd l1 t249) ≥ 0 then ((spec_paTime.f k1 l0_0 a0_1 (rd_L2 t241 x15_1)).bind fun t251=>((spec_seIndex.f k1 l2_0 a2_1).bind fun t252=>(if 0≤t252 then (if t252 < (l1.length:Int) then (if (wrap64 ((rd l1 t249)+t251))=(rd l1 t252) then (if x7_1.length < 5864062014805 then (spec_seNext.l0 k1 l1 (x7_1 ++ [rd_L2 t241 x15_1]) t241 (t241.length:Int) (wrap64 (x15_1+1)) l0_0 a0_1 l2_0 a2_1) else (none)) else (spec_seNext.l0 k1 l1 x7_1 t241 (t241.length:Int) (wrap64 (x15_1+1)) l0_0 a0_1 l2_0 a2_1)) else (none)) else (none)))) else (spec_seNext.l0 k1 l1 x7_1 t241 (t241.length:Int) (wrap64 (x15_1+1)) l0_0 a0_1 l2_0 a2_1)) else (none)) else (none)))=some r:=H;have A15:=am' A150;clear A150;replace H:=Option.bind_eq_some_iff.mp H;obtain ⟨t249,A160,H⟩:=H;replace H:(if 0≤t249 then (if t249 < (l1.length:Int) then (if (rd l1 t249) ≥ 0 then ((spec_paTime.f k1 l0_0 a0_1 (rd_L2 t241 x15_1)).bind fun t251=>((spec_seIndex.f k1 l2_0 a2_1).bind fun t252=>(if 0≤t252 then (if t252 < (l1.length:Int) then (if (wrap64 ((rd l1 t249)+t251))=(rd l1 t252) then (if x7_1.length < 5864062014805 then (spec_seNext.l0 k1 l1 (x7_1 ++ [rd_L2 t241 x15_1]) t241 (t241.length:Int) (wrap64 (x15_1+1)) l0_0 a0_1 l2_0 a2_1) else (none)) else (spec_seNext.l0 k1 l1 x7_1 t241 (t241.length:Int) (wrap64 (x15_1+1)) l0_0 a0_1 l2_0 a2_1)) else (none)) else (none)))) else (spec_seNext.l0 k1 l1 x7_1 t241 (t241.length:Int) (wrap64 (x15_1+1)) l0_0 a0_1 l2_0 a2_1)) else (none)) else (none))=some r:=H;have A16:=am' A160;clear A160;by_cases c17:0≤t249
      ·
       rw[if_pos c17] at H;have c17b0:decide (0≤t249)=true:=decide_eq_true c17;clear c17;by_cases c18:t249 < (l1.length:Int)
       ·
        rw[if_pos c18] at H;have c18b0:decide (t249 < (l1.length:Int))=true:=decide_eq_true c18;clear c18;by_cases c19:(rd l1 t249) ≥ 0
        ·
         rw[if_pos c19] at H;have c19b0:decide (0≤(rd l1 t249))=true:=decide_eq_true c19;clear c19;replace H:=Option.bind_eq_some_iff.mp H;obtain ⟨t251,A200,H⟩:=H;replace H:((spec_seIndex.f k1 l2_0 a2_1).bind fun t252=>(if 0≤t252 then (if t252 < (l1.length:Int) then (if (wrap64 ((rd l1 t249)+t251))=(rd l1 t252) then (if x7_1.length < 5864062014805 then (spec_seNext.l0 k1 l1 (x7_1 ++ [rd_L2 t241 x15_1]) t241 (t241.length:Int) (wrap64 (x15_1+1)) l0_0 a0_1 l2_0 a2_1) else (none)) else (spec_seNext.l0 k1 l1 x7_1 t241 (t241.length:Int) (wrap64 (x15_1+1)) l0_0 a0_1 l2_0 a2_1)) else (none)) else (none)))=some r:=H;have A20:=am' A200;clear A200;replace H:=Option.bind_eq_some_iff.mp H;obtain ⟨t252,A210,H⟩:=H;replace H:(if 0≤t252 then (if t252 < (l1.length:Int) then (if (wrap64 ((rd l1 t249)+t251))=(rd l1 t252) then (if x7_1.length < 5864062014805 then (spec_seNext.l0 k1 l1 (x7_1 ++ [rd_L2 t241 x15_1]) t241 (t241.length:Int) (wrap64 (x15_1+1)) l0_0 a0_1 l2_0 a2_1) else (none)) else (spec_seNext.l0 k1 l1 x7_1 t241 (t241.length:Int) (wrap64 (x15_1+1)) l0_0 a0_1 l2_0 a2_1)) else (none)) else (none))=some r:=H;have A21:=am' A210;clear A210;by_cases c22:0≤t252
         ·
          rw[if_pos c22] at H;have c22b0:decide (0≤t252)=true:=decide_eq_true c22;clear c22;by_cases c23:t252 < (l1.length:Int)
          ·
           rw[if_pos c23] at H;have c23b0:decide (t252 < (l1.length:Int))=true:=decide_eq_true c23;clear c23;by_cases c24:(wrap64 ((rd l1 t249)+t251))=(rd l1 t252)
           ·
            rw[if_pos c24] at H;have c24b0:((wrap64 ((rd l1 t249)+t251)) == (rd l1 t252))=true:=beq_iff_eq.mpr c24;have c24b1:((wrap64 ((rd l1 t249)+t251)) != (rd l1 t252))=false:=bne_eq_false_iff_eq.mpr c24;clear c24;by_cases c25:x7_1.length < 5864062014805
            ·
             rw[if_pos c25] at H;have LMc25:=am' c25;clear c25;obtain ⟨y254,hy254⟩:∃ y_:List (List Int),y_=(x7_1 ++ [rd_L2 t241 x15_1]):=⟨_,rfl⟩
             replace H:(spec_seNext.l0 k1 l1 y254 t241 (t241.length:Int) (wrap64 (x15_1+1)) l0_0 a0_1 l2_0 a2_1)=some r:=by first|(rw[hy254];with_reducible exact H)|(have H2_:=(Option.bind_some _ _).symm.trans H;rw[hy254];with_reducible exact H2_)|(have H2_:=(Option.bind_some _ _).symm.trans H;with_reducible exact H2_)|with_reducible exact H|(rw[hy254];exact H)|exact H
             have Ny254:=am' hy254;clear hy254;have H':=am' H;clear H;have p244:0≤(x15_1:Int):=of_decide_eq_true (by first|(with_reducible assumption)|assumption);have q244:x15_1 < (t241.length:Int):=of_decide_eq_true (by first|(with_reducible assumption)|assumption);obtain ⟨ad244,A244_0,c244_0,e244,hx244_0,hl244_0,hi244_0⟩:=at_L2 (Kd.N_reads' HO_13.out).2.2 x15_1 p244 q244;cases e244;obtain ⟨ce244,hce244,hMe244,hcc244⟩:=Kd.N_get HO_13.out [] x15_1 p244 (by first|exact q244|exact of_decide_eq_true (by first|(with_reducible assumption)|assumption)|(have e_:=(Kd.N_reads' HO_13.out).1;omega));obtain ⟨ua244_0,uc244_0,rfl,ul244_0,ge244_0⟩:=Kd.FK_slice_open hMe244;have hv244_0:=hcc244 0 _ rfl;rw[Nat.add_zero,show ((Kd.slice 3 (Kd.int .i64))).sz=1 from rfl,Nat.mul_one] at hv244_0;replace hv244_0:=Option.some.inj (hv244_0.symm.trans hx244_0);injection hv244_0 with hva_ hvn_ hvc_
             rw[hva_] at ge244_0;rw[hvc_] at ul244_0;have HL244_0:=am' (show Kd.V (Kd.int .i64) 3 _ w.heap.size _ _ (rd_L2 t241 x15_1) from Kd.V_mk ul244_0 ge244_0);clear hva_ hvn_ hvc_ ge244_0 ul244_0;clear hcc244 hce244;have HR244_0:=am' hi244_0;have HC244_0:=am' hl244_0;clear hi244_0 hl244_0;replace p244:=eq_true p244;replace q244:=eq_true q244;have hnb26:=NB240_239.out;have hnc26:=NB239_240.out;have hcz27_0:wr.cell? ⟨gb240,0,none⟩=some (.slice A2_0 l2_0.length c2_0):=(blk_cell BK240.out 0).trans rfl;have hcz27_1:wr.cell? ⟨gb240,1,none⟩=some (.bool a2_1):=(blk_cell BK240.out 1).trans rfl;have hfz27_0:=blk_frozen BK240.out 0;have hfz27_1:=blk_frozen BK240.out 1
             try go_wp2_with (first|((with_reducible refine gate_callee (f:=101) rfl ?_);refine goesL_ (some 22) rfl rfl Try.func101 (by kernel_rfl) rfl #[.agg #[.slice A2_0 l2_0.length c2_0, .bool a2_1], .slice A244_0 (rd_L2 t241 x15_1).length c244_0] rfl (by (try simp only[List.map_toArray,List.map_cons,List.map_nil]);first|done|rfl|(simp only[List.length_drop,List.length_take];rfl)) ?_;(with_reducible refine (spec_paCross.calls k1 _ _ l2_0 a2_1 _ _ (rd_L2 t241 x15_1) t245 t248 _ ?side1 ?side2 ?side3 ?side4 A15.out).mono ?_);(case side1=>repeat (first|exact (Kd.C_below HR2_0.out HB.out)|(with_reducible refine ca' ?_ _)|(with_reducible refine cn' ?_ _)|(with_reducible refine cd' ?_)));(case side2=>exact HC2_0.out);(case side3=>repeat (first|exact (by repeat (first|(with_reducible exact HR244_0.out)|(with_reducible refine ca' ?_ _)|(with_reducible refine cn' ?_ _)|(with_reducible refine cd' ?_)|exact HR244_0.out))|(with_reducible refine ca' ?_ _)|(with_reducible refine cn' ?_ _)|(with_reducible refine cd' ?_)));(case side4=>exact HC244_0.out);rintro e w28 ⟨v246,rfl,ho0,hb⟩;refine ⟨_,rfl,?_⟩;have n0_:=am' (Kd.N_elder' (by (with_reducible repeat (first|apply Kd.N_alloc|apply Kd.N_drewN|apply Kd.N_drew));exact HO_7.out) (Kd.R_base ho0) hb);have n1_:=am' (Kd.N_elder' (by (with_reducible repeat (first|apply Kd.N_alloc|apply Kd.N_drewN|apply Kd.N_drew));exact HO_13.out) (Kd.R_base ho0) hb);have n2_:=am' (Kd.V_elder' (by (with_reducible repeat (first|apply Kd.V_alloc|apply Kd.V_drewN|apply Kd.V_drew));exact HL244_0.out) (Kd.R_base ho0) hb);have n3_:=am' (Kd.R_lower (Kd.R_newM (M:=fun k_=>(w.heap.size≤k_)) ho0 (below_size (by repeat (first|(with_reducible first|exact HB.out|apply ba'|apply bd'|apply be'|refine bs' ?_ GE239.out|refine bs' ?_ GE240.out)|exact HB.out))) (fun k_ h_=>h_)) (below_size (by repeat (first|(with_reducible first|exact HB.out|apply ba'|apply bd'|apply be'|refine bs' ?_ GE239.out|refine bs' ?_ GE240.out)|exact HB.out))));have n4_:=am' (blk_below (g:=gb239) (o := .cells #[.slice A0_0 l0_0.length c0_0, .int .i64 a0_1] 28 (0,0)) (by (with_reducible repeat (first|refine kn' ?_ _|refine kd' ?_|refine ka' ?_ _));exact BK239.out) hb);have n5_:=am' (blk_below (g:=gb240) (o := .cells #[.slice A2_0 l2_0.length c2_0, .bool a2_1] 44 (0,0)) (by (with_reducible repeat (first|refine kn' ?_ _|refine kd' ?_|refine ka' ?_ _));exact BK240.out) hb);have n6_:=am' (Kd.C_below (by repeat (first|(with_reducible exact HR244_0.out)|(with_reducible refine ca' ?_ _)|(with_reducible refine cn' ?_ _)|(with_reducible refine cd' ?_)|exact HR244_0.out)) hb);have n7_:=am' (below_step (by repeat (first|(with_reducible first|exact HB.out|apply ba'|apply bd'|apply be'|refine bs' ?_ GE239.out|refine bs' ?_ GE240.out)|exact HB.out)) hb);clear HO_7;clear HO_13;clear HL244_0;clear BK239;clear BK240;clear HR244_0;clear HB;have HO_7:=n0_;have HO_13:=n1_;have HL244_0:=n2_;have HO247:=n3_;have BK239:=n4_;have BK240:=n5_;have HR244_0:=n6_;have HB:=n7_;clear n0_ n1_ n2_ n3_ n4_ n5_ n6_ n7_;(try clear hb);(try clear hb2);(try clear hk);(try clear hi);(try clear ho0);obtain ⟨Ao29,co29,eo29⟩:=Kd.R_slice HO247.out;subst eo29)|((with_reducible refine gate_callee (f:=78) rfl ?_);refine goesL_ (some 23) rfl rfl Try.func78 (by kernel_rfl) rfl #[.agg #[.slice Ao29 t245.length co29, .bool t248]] rfl (by (try simp only[List.map_toArray,List.map_cons,List.map_nil]);first|done|rfl|(simp only[List.length_drop,List.length_take];rfl)) ?_;(with_reducible refine (spec_seIndex.calls k1 _ _ t245 t248 t249 _ ?side1 ?side2 A16.out).mono ?_);(case side1=>repeat (first|exact (Kd.R_reads' HO247.out).2.2|(with_reducible refine ca' ?_ _)|(with_reducible refine cn' ?_ _)|(with_reducible refine cd' ?_)));(case side2=>exact (Kd.R_reads' HO247.out).2.1);rintro e w30 ⟨rfl,hb⟩;refine ⟨_,rfl,?_⟩;have n0_:=am' (Kd.N_below (by (with_reducible repeat (first|apply Kd.N_alloc|apply Kd.N_drewN|apply Kd.N_drew));exact HO_7.out) hb);have n1_:=am' (Kd.N_below (by (with_reducible repeat (first|apply Kd.N_alloc|apply Kd.N_drewN|apply Kd.N_drew));exact HO_13.out) hb);have n2_:=am' (Kd.V_below (by (with_reducible repeat (first|apply Kd.V_alloc|apply Kd.V_drewN|apply Kd.V_drew));exact HL244_0.out) hb);have n3_:=am' (Kd.R_below (by (with_reducible repeat (first|apply ra'|apply rn'|apply rw'));exact HO247.out) hb);have n4_:=am' (blk_below (g:=gb239) (o := .cells #[.slice A0_0 l0_0.length c0_0, .int .i64 a0_1] 28 (0,0)) (by (with_reducible repeat (first|refine kn' ?_ _|refine kd' ?_|refine ka' ?_ _));exact BK239.out) hb);have n5_:=am' (blk_below (g:=gb240) (o := .cells #[.slice A2_0 l2_0.length c2_0, .bool a2_1] 44 (0,0)) (by (with_reducible repeat (first|refine kn' ?_ _|refine kd' ?_|refine ka' ?_ _));exact BK240.out) hb);have n6_:=am' (Kd.C_below (by repeat (first|(with_reducible exact HR244_0.out)|(with_reducible refine ca' ?_ _)|(with_reducible refine cn' ?_ _)|(with_reducible refine cd' ?_)|exact HR244_0.out)) hb);have n7_:=am' (below_step (by repeat (first|(with_reducible first|exact HB.out|apply ba'|apply bd'|apply be'|refine bs' ?_ GE239.out|refine bs' ?_ GE240.out)|exact HB.out)) hb);clear HO_7;clear HO_13;clear HL244_0;clear HO247;clear BK239;clear BK240;clear HR244_0;clear HB;have HO_7:=n0_;have HO_13:=n1_;have HL244_0:=n2_;have HO247:=n3_;have BK239:=n4_;have BK240:=n5_;have HR244_0:=n6_;have HB:=n7_;clear n0_ n1_ n2_ n3_ n4_ n5_ n6_ n7_;(try clear hb);(try clear hb2);(try clear hk);(try clear hi);have p250:0≤(t249:Int):=of_decide_eq_true (by first|(with_reducible assumption)|assumption);have q250:t249 < (l1.length:Int):=of_decide_eq_true (by first|(with_reducible assumption)|assumption);obtain ⟨ad250,e250,hx250_0⟩:=Kd.at_int HR1.out t249 p250 q250;cases e250;replace hx250_0:=(HB.out.cell (bl' w _ hx250_0)).trans hx250_0;replace p250:=eq_true p250;replace q250:=eq_true q250))
             have n0_:=am' (Kd.N_drew HO_7.out);have n1_:=am' (Kd.N_drew HO_13.out);have n2_:=am' (Kd.V_drew HL244_0.out);have n3_:=am' (rw' HO247.out);have n4_:=am' (kd' BK239.out);have n5_:=am' (kd' BK240.out);have n6_:=am' (cd' HR244_0.out);have n7_:=am' (be' HB.out);clear HO_7;clear HO_13;clear HL244_0;clear HO247;clear BK239;clear BK240;clear HR244_0;clear HB;have HO_7:=n0_;have HO_13:=n1_;have HL244_0:=n2_;have HO247:=n3_;have BK239:=n4_;have BK240:=n5_;have HR244_0:=n6_;have HB:=n7_;clear n0_ n1_ n2_ n3_ n4_ n5_ n6_ n7_;have p253:0≤(t252:Int):=of_decide_eq_true (by first|(with_reducible assumption)|assumption);have q253:t252 < (l1.length:Int):=of_decide_eq_true (by first|(with_reducible assumption)|assumption);obtain ⟨ad253,e253,hx253_0⟩:=Kd.at_int HR1.out t252 p253 q253;have hw253_0:=hx253_0;obtain rfl:ad250=ad253:=(by injection e253)
             replace hx253_0:=(HB.out.cell (bl' w _ hx253_0)).trans hx253_0;replace p253:=eq_true p253;replace q253:=eq_true q253;refine start_ (n:=15) (S:=fun w'=>w'.cell? ⟨gb239,0,none⟩=some (.slice A0_0 l0_0.length c0_0)∧w'.cell? ⟨gb239,1,none⟩=some (.int .i64 a0_1)∧w'.cell? ⟨gb240,0,none⟩=some (.slice A2_0 l2_0.length c2_0)∧w'.cell? ⟨gb240,1,none⟩=some (.bool a2_1)∧w'.cell? (ad250.add (t252).toNat)=some (.int .i64 (rd l1 t252))) (ds:=[]) #[false,false,false,false,false,false,false,false,false,false,false,false,false,false,false] (by kernel_rfl) rfl rfl ⟨(blk_cell BK239.out 0).trans rfl,(blk_cell BK239.out 1).trans rfl,(blk_cell BK240.out 0).trans rfl,(blk_cell BK240.out 1).trans rfl,((HB.out.cell (bl' w _ hw253_0)).trans hw253_0)⟩ (fun hHeld=>?_);refine with_tabW spec_seNext.tab6 spec_seNext.bits6 (fun HT_ HW_=>?_);generalize w30.drew=w31 at HO_7 HO_13 HL244_0 HO247 BK239 BK240 HR244_0 HB hx253_0 hHeld ⊢
             refine pure_ (i:=0) (N:=some 26) (v:=?_) (a':=?_) #[true,false,false,false,false,false,false,false,false,false,false,false,false,false,false] rfl rfl (any_of HT_.out (by kernel_rfl)) (fun _ _ _ h=>h) (Or.inl ⟨by rfl,?_⟩) ?_ ?_
             rotate_left
             ·
              intro w';go_simp;with_reducible rfl
             rotate_left
             ·
              simp only[Act.put,sa',sb',sc',i64_w,i32_w];rfl
             refine pure_ (i:=1) (N:=some 27) (v:=?_) (a':=?_) #[true,true,false,false,false,false,false,false,false,false,false,false,false,false,false] rfl rfl (any_of HT_.out (by kernel_rfl)) (fun _ _ _ h=>h) (Or.inl ⟨by rfl,?_⟩) ?_ ?_
             rotate_left
             ·
              intro w';go_simp;with_reducible rfl
             rotate_left
             ·
              simp only[Act.put,sa',sb',sc',i64_w,i32_w];rfl
             refine pure_ (i:=2) (N:=some 28) (v:=?_) (a':=?_) #[true,true,true,false,false,false,false,false,false,false,false,false,false,false,false] rfl rfl (any_of HT_.out (by kernel_rfl)) (fun _ _ _ h=>h) (Or.inl ⟨by rfl,?_⟩) ?_ ?_
             rotate_left
             ·
              intro w';go_simp;with_reducible rfl
             rotate_left
             ·
              simp only[Act.put,sa',sb',sc',i64_w,i32_w];rfl
             refine pure_ (i:=3) (N:=some 29) (v:=?_) (a':=?_) #[true,true,true,true,false,false,false,false,false,false,false,false,false,false,false] rfl rfl (any_of HT_.out (by kernel_rfl)) (fun _ _ _ h=>h) (Or.inl ⟨by rfl,?_⟩) ?_ ?_
             rotate_left
             ·
              intro w';go_simp;with_reducible rfl
             rotate_left
             ·
              simp only[Act.put,sa',sb',sc',i64_w,i32_w];rfl
             refine pure_ (i:=5) (N:=some 31) (v:=?_) (a':=?_) #[true,true,true,true,false,true,false,false,false,false,false,false,false,false,false] rfl rfl (any_of HT_.out (by kernel_rfl)) (fun _ _ _ h=>h) (Or.inl ⟨by rfl,?_⟩) ?_ ?_
             rotate_left
             ·
              intro w';go_simp;with_reducible rfl
             rotate_left
             ·
              simp only[Act.put,sa',sb',sc',i64_w,i32_w];rfl
             refine pure_ (i:=8) (N:=some 34) (v:=?_) (a':=?_) #[true,true,true,true,false,true,false,false,true,false,false,false,false,false,false] rfl rfl (any_of HT_.out (by kernel_rfl)) (fun _ _ _ h=>h) (Or.inl ⟨by rfl,?_⟩) ?_ ?_
             rotate_left
             ·
              intro w';go_simp;with_reducible rfl
             rotate_left
             ·
              simp only[Act.put,sa',sb',sc',i64_w,i32_w];rfl
             refine take_ (i:=4) (N:=some 30) (v:=?_) (a':=?_) #[true,true,true,true,true,true,false,false,true,false,false,false,false,false,false] rfl rfl (take_ofW HT_.out HW_.out (by kernel_rfl)) (fun _ _ _ h=>h) (Or.inl ⟨by rfl,?_⟩) hHeld ?_ ?_
             rotate_left
             ·
              rintro w' ⟨s0,s1,s2,s3,s4⟩
              go_simp;with_reducible rfl
             rotate_left
             ·
              simp only[Act.put,sa',sb',sc',i64_w,i32_w];rfl
             refine take_ (i:=9) (N:=some 35) (v:=?_) (a':=?_) #[true,true,true,true,true,true,false,false,true,true,false,false,false,false,false] rfl rfl (take_ofW HT_.out HW_.out (by kernel_rfl)) (fun _ _ _ h=>h) (Or.inl ⟨by rfl,?_⟩) hHeld ?_ ?_
             rotate_left
             ·
              rintro w' ⟨s0,s1,s2,s3,s4⟩
              go_simp;with_reducible rfl
             rotate_left
             ·
              simp only[Act.put,sa',sb',sc',i64_w,i32_w];rfl
             refine one_ (i:=6) (N:=some 32) #[true,true,true,true,true,true,true,false,true,true,false,false,false,false,false] rfl rfl (one_of HT_.out (by kernel_rfl)) (by decide) (fun K hK=>?_);refine goes_ Try.func102 (by kernel_rfl) rfl #[.agg #[.slice A0_0 l0_0.length c0_0, .int .i64 a0_1], .slice A244_0 (rd_L2 t241 x15_1).length c244_0] (by rfl) rfl rfl (by (try simp only[List.map_toArray,List.map_cons,List.map_nil]);first|done|rfl|(simp only[List.length_drop,List.length_take];rfl)) ?_
             with_reducible refine (spec_paTime.calls k1 _ _ l0_0 a0_1 _ _ (rd_L2 t241 x15_1) t251 _ ?side1 ?side2 ?side3 ?side4 A20.out).mono ?_
             (case side1=>repeat (first|exact (Kd.C_below HR0_0.out HB.out)|(with_reducible refine ca' ?_ _)|(with_reducible refine cn' ?_ _)|(with_reducible refine cd' ?_)))
             (case side2=>exact HC0_0.out)
             (case side3=>repeat (first|exact (by repeat (first|(with_reducible exact HR244_0.out)|(with_reducible refine ca' ?_ _)|(with_reducible refine cn' ?_ _)|(with_reducible refine cd' ?_)|exact HR244_0.out))|(with_reducible refine ca' ?_ _)|(with_reducible refine cn' ?_ _)|(with_reducible refine cd' ?_)))
             (case side4=>exact HC244_0.out)
             rintro e w32 ⟨rfl,hb⟩
             refine ⟨_,rfl,?_⟩;have n0_:=am' (Kd.N_below (by (with_reducible repeat (first|apply Kd.N_alloc|apply Kd.N_drewN|apply Kd.N_drew));exact HO_7.out) hb);have n1_:=am' (Kd.N_below (by (with_reducible repeat (first|apply Kd.N_alloc|apply Kd.N_drewN|apply Kd.N_drew));exact HO_13.out) hb);have n2_:=am' (Kd.V_below (by (with_reducible repeat (first|apply Kd.V_alloc|apply Kd.V_drewN|apply Kd.V_drew));exact HL244_0.out) hb);have n3_:=am' (Kd.R_below (by (with_reducible repeat (first|apply ra'|apply rn'|apply rw'));exact HO247.out) hb);have n4_:=am' (blk_below (g:=gb239) (o := .cells #[.slice A0_0 l0_0.length c0_0, .int .i64 a0_1] 28 (0,0)) (by (with_reducible repeat (first|refine kn' ?_ _|refine kd' ?_|refine ka' ?_ _));exact BK239.out) hb);have n5_:=am' (blk_below (g:=gb240) (o := .cells #[.slice A2_0 l2_0.length c2_0, .bool a2_1] 44 (0,0)) (by (with_reducible repeat (first|refine kn' ?_ _|refine kd' ?_|refine ka' ?_ _));exact BK240.out) hb);have n6_:=am' (Kd.C_below (by repeat (first|(with_reducible exact HR244_0.out)|(with_reducible refine ca' ?_ _)|(with_reducible refine cn' ?_ _)|(with_reducible refine cd' ?_)|exact HR244_0.out)) hb);have n7_:=am' (below_step (by repeat (first|(with_reducible first|exact HB.out|apply ba'|apply bd'|apply be'|refine bs' ?_ GE239.out|refine bs' ?_ GE240.out)|exact HB.out)) hb);clear HO_7;clear HO_13;clear HL244_0;clear HO247;clear BK239;clear BK240;clear HR244_0;clear HB;have HO_7:=n0_;have HO_13:=n1_;have HL244_0:=n2_;have HO247:=n3_;have BK239:=n4_;have BK240:=n5_;have HR244_0:=n6_;have HB:=n7_;clear n0_ n1_ n2_ n3_ n4_ n5_ n6_ n7_;(try clear hb)
             (try clear hb2)
             (try clear hk)
             (try clear hi)
             refine hK.out _ _ ⟨(blk_cell BK239.out 0).trans rfl,(blk_cell BK239.out 1).trans rfl,(blk_cell BK240.out 0).trans rfl,(blk_cell BK240.out 1).trans rfl,((HB.out.cell (bl' w _ hw253_0)).trans hw253_0)⟩ (fun hHeld=>?_);clear hK K;refine norm_ (a':=?_) ?_ ?_
             rotate_left
             ·
              show Act.put _ (some 32) _=_
              simp only[Act.put,sa',sb',sc',i64_w,i32_w];rfl
             refine pure_ (i:=7) (N:=some 33) (v:=?_) (a':=?_) #[true,true,true,true,true,true,true,true,true,true,false,false,false,false,false] rfl rfl (any_of HT_.out (by kernel_rfl)) (fun _ _ _ h=>h) (Or.inl ⟨by rfl,?_⟩) ?_ ?_
             rotate_left
             ·
              intro w';go_simp;with_reducible rfl
             rotate_left
             ·
              simp only[Act.put,sa',sb',sc',i64_w,i32_w];rfl
             refine one_ (i:=10) (N:=some 36) #[true,true,true,true,true,true,true,true,true,true,true,false,false,false,false] rfl rfl (one_of HT_.out (by kernel_rfl)) (by decide) (fun K hK=>?_);refine goes_ Try.func78 (by kernel_rfl) rfl #[.agg #[.slice A2_0 l2_0.length c2_0, .bool a2_1]] (by rfl) rfl rfl (by (try simp only[List.map_toArray,List.map_cons,List.map_nil]);first|done|rfl|(simp only[List.length_drop,List.length_take];rfl)) ?_
             with_reducible refine (spec_seIndex.calls k1 _ _ l2_0 a2_1 t252 _ ?side1 ?side2 A21.out).mono ?_
             (case side1=>repeat (first|exact (Kd.C_below HR2_0.out HB.out)|(with_reducible refine ca' ?_ _)|(with_reducible refine cn' ?_ _)|(with_reducible refine cd' ?_)))
             (case side2=>exact HC2_0.out)
             rintro e w33 ⟨rfl,hb⟩
             refine ⟨_,rfl,?_⟩;have n0_:=am' (Kd.N_below (by (with_reducible repeat (first|apply Kd.N_alloc|apply Kd.N_drewN|apply Kd.N_drew));exact HO_7.out) hb);have n1_:=am' (Kd.N_below (by (with_reducible repeat (first|apply Kd.N_alloc|apply Kd.N_drewN|apply Kd.N_drew));exact HO_13.out) hb);have n2_:=am' (Kd.V_below (by (with_reducible repeat (first|apply Kd.V_alloc|apply Kd.V_drewN|apply Kd.V_drew));exact HL244_0.out) hb);have n3_:=am' (Kd.R_below (by (with_reducible repeat (first|apply ra'|apply rn'|apply rw'));exact HO247.out) hb);have n4_:=am' (blk_below (g:=gb239) (o := .cells #[.slice A0_0 l0_0.length c0_0, .int .i64 a0_1] 28 (0,0)) (by (with_reducible repeat (first|refine kn' ?_ _|refine kd' ?_|refine ka' ?_ _));exact BK239.out) hb);have n5_:=am' (blk_below (g:=gb240) (o := .cells #[.slice A2_0 l2_0.length c2_0, .bool a2_1] 44 (0,0)) (by (with_reducible repeat (first|refine kn' ?_ _|refine kd' ?_|refine ka' ?_ _));exact BK240.out) hb);have n6_:=am' (Kd.C_below (by repeat (first|(with_reducible exact HR244_0.out)|(with_reducible refine ca' ?_ _)|(with_reducible refine cn' ?_ _)|(with_reducible refine cd' ?_)|exact HR244_0.out)) hb);have n7_:=am' (below_step (by repeat (first|(with_reducible first|exact HB.out|apply ba'|apply bd'|apply be'|refine bs' ?_ GE239.out|refine bs' ?_ GE240.out)|exact HB.out)) hb);clear HO_7;clear HO_13;clear HL244_0;clear HO247;clear BK239;clear BK240;clear HR244_0;clear HB;have HO_7:=n0_;have HO_13:=n1_;have HL244_0:=n2_;have HO247:=n3_;have BK239:=n4_;have BK240:=n5_;have HR244_0:=n6_;have HB:=n7_;clear n0_ n1_ n2_ n3_ n4_ n5_ n6_ n7_;(try clear hb)
             (try clear hb2)
             (try clear hk)
             (try clear hi)
             refine hK.out _ _ ⟨(blk_cell BK239.out 0).trans rfl,(blk_cell BK239.out 1).trans rfl,(blk_cell BK240.out 0).trans rfl,(blk_cell BK240.out 1).trans rfl,((HB.out.cell (bl' w _ hw253_0)).trans hw253_0)⟩ (fun hHeld=>?_);clear hK K;refine norm_ (a':=?_) ?_ ?_
             rotate_left
             ·
              show Act.put _ (some 36) _=_
              simp only[Act.put,sa',sb',sc',i64_w,i32_w];rfl
             refine pure_ (i:=11) (N:=some 37) (v:=?_) (a':=?_) #[true,true,true,true,true,true,true,true,true,true,true,true,false,false,false] rfl rfl (any_of HT_.out (by kernel_rfl)) (fun _ _ _ h=>h) (Or.inl ⟨by rfl,?_⟩) ?_ ?_
             rotate_left
             ·
              intro w';go_simp;with_reducible rfl
             rotate_left
             ·
              simp only[Act.put,sa',sb',sc',i64_w,i32_w];rfl
             refine take_ (i:=12) (N:=some 38) (v:=?_) (a':=?_) #[true,true,true,true,true,true,true,true,true,true,true,true,true,false,false] rfl rfl (take_ofW HT_.out HW_.out (by kernel_rfl)) (fun _ _ _ h=>h) (Or.inl ⟨by rfl,?_⟩) hHeld ?_ ?_
             rotate_left
             ·
              rintro w' ⟨s0,s1,s2,s3,s4⟩
              go_simp;with_reducible rfl
             rotate_left
             ·
              simp only[Act.put,sa',sb',sc',i64_w,i32_w];rfl
             refine pure_ (i:=13) (N:=some 39) (v:=?_) (a':=?_) #[true,true,true,true,true,true,true,true,true,true,true,true,true,true,false] rfl rfl (any_of HT_.out (by kernel_rfl)) (fun _ _ _ h=>h) (Or.inl ⟨by rfl,?_⟩) ?_ ?_
             rotate_left
             ·
              intro w';go_simp;with_reducible rfl
             rotate_left
             ·
              simp only[Act.put,sa',sb',sc',i64_w,i32_w];rfl
             refine pure_ (i:=14) (N:=some 40) (v:=?_) (a':=?_) #[true,true,true,true,true,true,true,true,true,true,true,true,true,true,true] rfl rfl (any_of HT_.out (by kernel_rfl)) (fun _ _ _ h=>h) (Or.inl ⟨by rfl,?_⟩) ?_ ?_
             rotate_left
             ·
              intro w';go_simp;with_reducible rfl
             rotate_left
             ·
              simp only[Act.put,sa',sb',sc',i64_w,i32_w];rfl
             refine done_ (done_of HT_.out (by kernel_rfl)) ?_
             try go_wp2_with (first|((with_reducible refine gate_builtin (b := .append) (xs:=#[.tmp 41, .tmp 43]) rfl ?_);at_builtin;refine Kd.N_append (Kd.slice 3 (Kd.int .i64)) (w0:=w) w.heap.size rfl (.tmp 41) (.tmp 43) 48 22 (.slice none 0 0) 24 rfl Try.underlying48 info22 rfl (by decide) (by omega) u7 x7_1 (rd_L2 t241 x15_1) [.slice A244_0 (rd_L2 t241 x15_1).length c244_0] (fun k_=>(w.heap.size≤k_)∧some k_≠(.slice (some ad244) t241.length co11:Value).ownBlock∧some k_≠(.slice Ao29 t245.length co29:Value).ownBlock∧k_≠gb239∧k_≠gb240) (fun k_=>((fun k_=>(w.heap.size≤k_)∧some k_≠(.slice (some ad244) t241.length co11:Value).ownBlock∧some k_≠(.slice Ao29 t245.length co29:Value).ownBlock∧k_≠gb239∧k_≠gb240)) k_∧some k_≠(u7:Value).ownBlock) rfl rfl ?aP (fun _ hk=>hk) ?aF ?aO ?aB ?aS ?aL ?_;(case aP=>exact (Kd.FK_slice_mk (Kd.V_reads' (Kd.V_mono (ok':=(fun k_=>((fun k_=>(w.heap.size≤k_)∧some k_≠(.slice (some ad244) t241.length co11:Value).ownBlock∧some k_≠(.slice Ao29 t245.length co29:Value).ownBlock∧k_≠gb239∧k_≠gb240)) k_∧some k_≠(u7:Value).ownBlock)) (HL244_0.out) (fun k_ hk=>⟨⟨hk.1.1.1,⟨hk.1.2,⟨hk.2,⟨hk.1.1.2.2.1,hk.1.1.2.2.2⟩⟩⟩⟩,hk.1.1.2.1⟩))).2.1 (Kd.V_F (Kd.V_mono (ok':=(fun k_=>((fun k_=>(w.heap.size≤k_)∧some k_≠(.slice (some ad244) t241.length co11:Value).ownBlock∧some k_≠(.slice Ao29 t245.length co29:Value).ownBlock∧k_≠gb239∧k_≠gb240)) k_∧some k_≠(u7:Value).ownBlock)) (HL244_0.out) (fun k_ hk=>⟨⟨hk.1.1.1,⟨hk.1.2,⟨hk.2,⟨hk.1.1.2.2.1,hk.1.1.2.2.2⟩⟩⟩⟩,hk.1.1.2.1⟩)))));(case aB=>exact (by repeat (first|(with_reducible first|exact HB.out|apply ba'|apply bd'|apply be'|refine bs' ?_ GE239.out|refine bs' ?_ GE240.out)|exact HB.out)));(case aF=>exact (fun k_ hk=>⟨(Nat.le_trans (below_size (by repeat (first|(with_reducible first|exact HB.out|apply ba'|apply bd'|apply be'|refine bs' ?_ GE239.out|refine bs' ?_ GE240.out)|exact HB.out))) hk),Kd.fresh' (Kd.N_lt (by (with_reducible repeat (first|apply Kd.N_alloc|apply Kd.N_drewN|apply Kd.N_drew));exact HO_13.out)) k_ hk,Kd.fresh' (Kd.R_lt (by (with_reducible repeat (first|apply ra'|apply rn'|apply rw'));exact HO247.out)) k_ hk,Kd.freshB (g:=gb239) (o := .cells #[.slice A0_0 l0_0.length c0_0, .int .i64 a0_1] 28 (0,0)) (by (with_reducible repeat (first|refine kn' ?_ _|refine kd' ?_|refine ka' ?_ _));exact BK239.out) k_ hk,Kd.freshB (g:=gb240) (o := .cells #[.slice A2_0 l2_0.length c2_0, .bool a2_1] 44 (0,0)) (by (with_reducible repeat (first|refine kn' ?_ _|refine kd' ?_|refine ka' ?_ _));exact BK240.out) k_ hk⟩));(case aO=>exact (by (with_reducible repeat (first|apply Kd.N_alloc|apply Kd.N_drewN|apply Kd.N_drew));exact Kd.N_mono HO_7.out (fun _ hk=>⟨hk.1.1,⟨hk.1.2.1,⟨hk.2,⟨hk.1.2.2.1,hk.1.2.2.2⟩⟩⟩⟩)));(case aS=>exact (below_size (by repeat (first|(with_reducible first|exact HB.out|apply ba'|apply bd'|apply be'|refine bs' ?_ GE239.out|refine bs' ?_ GE240.out)|exact HB.out))));(case aL=>have:=LMc25.out;omega);intro v255 w34 ho hb hg hat;rw[← Ny254.out] at ho;have n0_:=am' (Kd.N_afterv (ok:=(fun k_=>(w.heap.size≤k_)∧some k_≠(.slice Ao29 t245.length co29:Value).ownBlock∧k_≠gb239∧k_≠gb240)) (by (with_reducible repeat (first|apply Kd.N_alloc|apply Kd.N_drewN|apply Kd.N_drew));exact Kd.N_mono HO_13.out (fun _ hk=>⟨⟨hk.1.1,⟨hk.2,⟨hk.1.2.2.1,hk.1.2.2.2⟩⟩⟩,hk.1.2.1⟩)) hg hat);have n1_:=am' (blk_grown (g:=gb239) (o := .cells #[.slice A0_0 l0_0.length c0_0, .int .i64 a0_1] 28 (0,0)) (by (with_reducible repeat (first|refine kn' ?_ _|refine kd' ?_|refine ka' ?_ _));exact BK239.out) hg (Kd.N_ne HO_7.out BK239.out (by decide)));have n2_:=am' (blk_grown (g:=gb240) (o := .cells #[.slice A2_0 l2_0.length c2_0, .bool a2_1] 44 (0,0)) (by (with_reducible repeat (first|refine kn' ?_ _|refine kd' ?_|refine ka' ?_ _));exact BK240.out) hg (Kd.N_ne HO_7.out BK240.out (by decide)));have n3_:=am' (Kd.V_afterv (ok:=(fun k_=>(w.heap.size≤k_)∧some k_≠(.slice (some ad244) t241.length co11:Value).ownBlock∧some k_≠(.slice Ao29 t245.length co29:Value).ownBlock∧k_≠gb239∧k_≠gb240)) (by (with_reducible repeat (first|apply Kd.V_alloc|apply Kd.V_drewN|apply Kd.V_drew));exact Kd.V_mono HL244_0.out (fun _ hk=>⟨⟨hk.1.1.1,⟨hk.1.2,⟨hk.2,⟨hk.1.1.2.2.1,hk.1.1.2.2.2⟩⟩⟩⟩,hk.1.1.2.1⟩)) hg hat);have n4_:=am' (Kd.R_over' (by (with_reducible repeat (first|apply ra'|apply rn'|apply rw'));exact HO247.out) (Kd.N_typed (by (with_reducible repeat (first|apply Kd.N_alloc|apply Kd.N_drewN|apply Kd.N_drew));exact HO_7.out)) (by decide) hg);have n5_:=am' (hb);have n6_:=am' (ho);clear HO_13;clear BK239;clear BK240;clear HL244_0;clear HO247;clear HB;clear HO_7;have HO_13:=n0_;have BK239:=n1_;have BK240:=n2_;have HL244_0:=n3_;have HO247:=n4_;have HB:=n5_;have HO256:=n6_;clear n0_ n1_ n2_ n3_ n4_ n5_ n6_;clear ho hb hg hat))
             go_roundg k1
             case measure=>have:=HK1.out;omega
             case rel=>exact ⟨(y254),(wrap64 (x15_1+1)),(by first|rfl|(simp;done)|(simp[*];done)),H',⟨by have:=HK1.out;omega⟩,⟨by (with_reducible repeat (first|apply Kd.N_alloc|apply Kd.N_drewN|apply Kd.N_drew));exact Kd.N_mono HO256.out (fun _ hk=>⟨hk.1,⟨hk.2.1,⟨hk.2.2.2.1,hk.2.2.2.2⟩⟩⟩)⟩,⟨by (with_reducible repeat (first|apply Kd.N_alloc|apply Kd.N_drewN|apply Kd.N_drew));exact Kd.N_mono HO_13.out (fun _ hk=>⟨hk.1.1,⟨hk.2,⟨hk.1.2.2.1,hk.1.2.2.2⟩⟩⟩)⟩,⟨by (with_reducible repeat (first|refine kn' ?_ _|refine kd' ?_|refine ka' ?_ _));exact BK239.out⟩,⟨by (with_reducible repeat (first|refine kn' ?_ _|refine kd' ?_|refine ka' ?_ _));exact BK240.out⟩,⟨by repeat (first|(with_reducible first|exact HB.out|apply ba'|apply bd'|apply be'|refine bs' ?_ GE239.out|refine bs' ?_ GE240.out)|exact HB.out)⟩⟩
            ·
             rw[if_neg c25] at H;exact absurd H (by simp)
           ·
            rw[if_neg c24] at H;have c24b0:((wrap64 ((rd l1 t249)+t251)) == (rd l1 t252))=false:=beq_eq_false_iff_ne.mpr c24;have c24b1:((wrap64 ((rd l1 t249)+t251)) != (rd l1 t252))=true:=bne_iff_ne.mpr c24;have H':=am' H;clear H;have p244:0≤(x15_1:Int):=of_decide_eq_true (by first|(with_reducible assumption)|assumption);have q244:x15_1 < (t241.length:Int):=of_decide_eq_true (by first|(with_reducible assumption)|assumption);obtain ⟨ad244,A244_0,c244_0,e244,hx244_0,hl244_0,hi244_0⟩:=at_L2 (Kd.N_reads' HO_13.out).2.2 x15_1 p244 q244;cases e244;obtain ⟨ce244,hce244,hMe244,hcc244⟩:=Kd.N_get HO_13.out [] x15_1 p244 (by first|exact q244|exact of_decide_eq_true (by first|(with_reducible assumption)|assumption)|(have e_:=(Kd.N_reads' HO_13.out).1;omega));obtain ⟨ua244_0,uc244_0,rfl,ul244_0,ge244_0⟩:=Kd.FK_slice_open hMe244;have hv244_0:=hcc244 0 _ rfl;rw[Nat.add_zero,show ((Kd.slice 3 (Kd.int .i64))).sz=1 from rfl,Nat.mul_one] at hv244_0;replace hv244_0:=Option.some.inj (hv244_0.symm.trans hx244_0);injection hv244_0 with hva_ hvn_ hvc_
            rw[hva_] at ge244_0;rw[hvc_] at ul244_0;have HL244_0:=am' (show Kd.V (Kd.int .i64) 3 _ w.heap.size _ _ (rd_L2 t241 x15_1) from Kd.V_mk ul244_0 ge244_0);clear hva_ hvn_ hvc_ ge244_0 ul244_0;clear hcc244 hce244;have HR244_0:=am' hi244_0;have HC244_0:=am' hl244_0;clear hi244_0 hl244_0;replace p244:=eq_true p244;replace q244:=eq_true q244;have hnb35:=NB240_239.out;have hnc35:=NB239_240.out;have hcz36_0:wr.cell? ⟨gb240,0,none⟩=some (.slice A2_0 l2_0.length c2_0):=(blk_cell BK240.out 0).trans rfl;have hcz36_1:wr.cell? ⟨gb240,1,none⟩=some (.bool a2_1):=(blk_cell BK240.out 1).trans rfl;have hfz36_0:=blk_frozen BK240.out 0;have hfz36_1:=blk_frozen BK240.out 1
            try go_wp2_with (first|((with_reducible refine gate_callee (f:=101) rfl ?_);refine goesL_ (some 22) rfl rfl Try.func101 (by kernel_rfl) rfl #[.agg #[.slice A2_0 l2_0.length c2_0, .bool a2_1], .slice A244_0 (rd_L2 t241 x15_1).length c244_0] rfl (by (try simp only[List.map_toArray,List.map_cons,List.map_nil]);first|done|rfl|(simp only[List.length_drop,List.length_take];rfl)) ?_;(with_reducible refine (spec_paCross.calls k1 _ _ l2_0 a2_1 _ _ (rd_L2 t241 x15_1) t245 t248 _ ?side1 ?side2 ?side3 ?side4 A15.out).mono ?_);(case side1=>repeat (first|exact (Kd.C_below HR2_0.out HB.out)|(with_reducible refine ca' ?_ _)|(with_reducible refine cn' ?_ _)|(with_reducible refine cd' ?_)));(case side2=>exact HC2_0.out);(case side3=>repeat (first|exact (by repeat (first|(with_reducible exact HR244_0.out)|(with_reducible refine ca' ?_ _)|(with_reducible refine cn' ?_ _)|(with_reducible refine cd' ?_)|exact HR244_0.out))|(with_reducible refine ca' ?_ _)|(with_reducible refine cn' ?_ _)|(with_reducible refine cd' ?_)));(case side4=>exact HC244_0.out);rintro e w37 ⟨v246,rfl,ho0,hb⟩;refine ⟨_,rfl,?_⟩;have n0_:=am' (Kd.N_elder' (by (with_reducible repeat (first|apply Kd.N_alloc|apply Kd.N_drewN|apply Kd.N_drew));exact HO_7.out) (Kd.R_base ho0) hb);have n1_:=am' (Kd.N_elder' (by (with_reducible repeat (first|apply Kd.N_alloc|apply Kd.N_drewN|apply Kd.N_drew));exact HO_13.out) (Kd.R_base ho0) hb);have n2_:=am' (Kd.V_elder' (by (with_reducible repeat (first|apply Kd.V_alloc|apply Kd.V_drewN|apply Kd.V_drew));exact HL244_0.out) (Kd.R_base ho0) hb);have n3_:=am' (Kd.R_lower (Kd.R_newM (M:=fun k_=>(w.heap.size≤k_)) ho0 (below_size (by repeat (first|(with_reducible first|exact HB.out|apply ba'|apply bd'|apply be'|refine bs' ?_ GE239.out|refine bs' ?_ GE240.out)|exact HB.out))) (fun k_ h_=>h_)) (below_size (by repeat (first|(with_reducible first|exact HB.out|apply ba'|apply bd'|apply be'|refine bs' ?_ GE239.out|refine bs' ?_ GE240.out)|exact HB.out))));have n4_:=am' (blk_below (g:=gb239) (o := .cells #[.slice A0_0 l0_0.length c0_0, .int .i64 a0_1] 28 (0,0)) (by (with_reducible repeat (first|refine kn' ?_ _|refine kd' ?_|refine ka' ?_ _));exact BK239.out) hb);have n5_:=am' (blk_below (g:=gb240) (o := .cells #[.slice A2_0 l2_0.length c2_0, .bool a2_1] 44 (0,0)) (by (with_reducible repeat (first|refine kn' ?_ _|refine kd' ?_|refine ka' ?_ _));exact BK240.out) hb);have n6_:=am' (Kd.C_below (by repeat (first|(with_reducible exact HR244_0.out)|(with_reducible refine ca' ?_ _)|(with_reducible refine cn' ?_ _)|(with_reducible refine cd' ?_)|exact HR244_0.out)) hb);have n7_:=am' (below_step (by repeat (first|(with_reducible first|exact HB.out|apply ba'|apply bd'|apply be'|refine bs' ?_ GE239.out|refine bs' ?_ GE240.out)|exact HB.out)) hb);clear HO_7;clear HO_13;clear HL244_0;clear BK239;clear BK240;clear HR244_0;clear HB;have HO_7:=n0_;have HO_13:=n1_;have HL244_0:=n2_;have HO247:=n3_;have BK239:=n4_;have BK240:=n5_;have HR244_0:=n6_;have HB:=n7_;clear n0_ n1_ n2_ n3_ n4_ n5_ n6_ n7_;(try clear hb);(try clear hb2);(try clear hk);(try clear hi);(try clear ho0);obtain ⟨Ao38,co38,eo38⟩:=Kd.R_slice HO247.out;subst eo38)|((with_reducible refine gate_callee (f:=78) rfl ?_);refine goesL_ (some 23) rfl rfl Try.func78 (by kernel_rfl) rfl #[.agg #[.slice Ao38 t245.length co38, .bool t248]] rfl (by (try simp only[List.map_toArray,List.map_cons,List.map_nil]);first|done|rfl|(simp only[List.length_drop,List.length_take];rfl)) ?_;(with_reducible refine (spec_seIndex.calls k1 _ _ t245 t248 t249 _ ?side1 ?side2 A16.out).mono ?_);(case side1=>repeat (first|exact (Kd.R_reads' HO247.out).2.2|(with_reducible refine ca' ?_ _)|(with_reducible refine cn' ?_ _)|(with_reducible refine cd' ?_)));(case side2=>exact (Kd.R_reads' HO247.out).2.1);rintro e w39 ⟨rfl,hb⟩;refine ⟨_,rfl,?_⟩;have n0_:=am' (Kd.N_below (by (with_reducible repeat (first|apply Kd.N_alloc|apply Kd.N_drewN|apply Kd.N_drew));exact HO_7.out) hb);have n1_:=am' (Kd.N_below (by (with_reducible repeat (first|apply Kd.N_alloc|apply Kd.N_drewN|apply Kd.N_drew));exact HO_13.out) hb);have n2_:=am' (Kd.V_below (by (with_reducible repeat (first|apply Kd.V_alloc|apply Kd.V_drewN|apply Kd.V_drew));exact HL244_0.out) hb);have n3_:=am' (Kd.R_below (by (with_reducible repeat (first|apply ra'|apply rn'|apply rw'));exact HO247.out) hb);have n4_:=am' (blk_below (g:=gb239) (o := .cells #[.slice A0_0 l0_0.length c0_0, .int .i64 a0_1] 28 (0,0)) (by (with_reducible repeat (first|refine kn' ?_ _|refine kd' ?_|refine ka' ?_ _));exact BK239.out) hb);have n5_:=am' (blk_below (g:=gb240) (o := .cells #[.slice A2_0 l2_0.length c2_0, .bool a2_1] 44 (0,0)) (by (with_reducible repeat (first|refine kn' ?_ _|refine kd' ?_|refine ka' ?_ _));exact BK240.out) hb);have n6_:=am' (Kd.C_below (by repeat (first|(with_reducible exact HR244_0.out)|(with_reducible refine ca' ?_ _)|(with_reducible refine cn' ?_ _)|(with_reducible refine cd' ?_)|exact HR244_0.out)) hb);have n7_:=am' (below_step (by repeat (first|(with_reducible first|exact HB.out|apply ba'|apply bd'|apply be'|refine bs' ?_ GE239.out|refine bs' ?_ GE240.out)|exact HB.out)) hb);clear HO_7;clear HO_13;clear HL244_0;clear HO247;clear BK239;clear BK240;clear HR244_0;clear HB;have HO_7:=n0_;have HO_13:=n1_;have HL244_0:=n2_;have HO247:=n3_;have BK239:=n4_;have BK240:=n5_;have HR244_0:=n6_;have HB:=n7_;clear n0_ n1_ n2_ n3_ n4_ n5_ n6_ n7_;(try clear hb);(try clear hb2);(try clear hk);(try clear hi);have p250:0≤(t249:Int):=of_decide_eq_true (by first|(with_reducible assumption)|assumption);have q250:t249 < (l1.length:Int):=of_decide_eq_true (by first|(with_reducible assumption)|assumption);obtain ⟨ad250,e250,hx250_0⟩:=Kd.at_int HR1.out t249 p250 q250;cases e250;replace hx250_0:=(HB.out.cell (bl' w _ hx250_0)).trans hx250_0;replace p250:=eq_true p250;replace q250:=eq_true q250))
            have n0_:=am' (Kd.N_drew HO_7.out);have n1_:=am' (Kd.N_drew HO_13.out);have n2_:=am' (Kd.V_drew HL244_0.out);have n3_:=am' (rw' HO247.out);have n4_:=am' (kd' BK239.out);have n5_:=am' (kd' BK240.out);have n6_:=am' (cd' HR244_0.out);have n7_:=am' (be' HB.out);clear HO_7;clear HO_13;clear HL244_0;clear HO247;clear BK239;clear BK240;clear HR244_0;clear HB;have HO_7:=n0_;have HO_13:=n1_;have HL244_0:=n2_;have HO247:=n3_;have BK239:=n4_;have BK240:=n5_;have HR244_0:=n6_;have HB:=n7_;clear n0_ n1_ n2_ n3_ n4_ n5_ n6_ n7_;have p253:0≤(t252:Int):=of_decide_eq_true (by first|(with_reducible assumption)|assumption);have q253:t252 < (l1.length:Int):=of_decide_eq_true (by first|(with_reducible assumption)|assumption);obtain ⟨ad253,e253,hx253_0⟩:=Kd.at_int HR1.out t252 p253 q253;have hw253_0:=hx253_0;obtain rfl:ad250=ad253:=(by injection e253)
            replace hx253_0:=(HB.out.cell (bl' w _ hx253_0)).trans hx253_0;replace p253:=eq_true p253;replace q253:=eq_true q253;refine start_ (n:=15) (S:=fun w'=>w'.cell? ⟨gb239,0,none⟩=some (.slice A0_0 l0_0.length c0_0)∧w'.cell? ⟨gb239,1,none⟩=some (.int .i64 a0_1)∧w'.cell? ⟨gb240,0,none⟩=some (.slice A2_0 l2_0.length c2_0)∧w'.cell? ⟨gb240,1,none⟩=some (.bool a2_1)∧w'.cell? (ad250.add (t252).toNat)=some (.int .i64 (rd l1 t252))) (ds:=[]) #[false,false,false,false,false,false,false,false,false,false,false,false,false,false,false] (by kernel_rfl) rfl rfl ⟨(blk_cell BK239.out 0).trans rfl,(blk_cell BK239.out 1).trans rfl,(blk_cell BK240.out 0).trans rfl,(blk_cell BK240.out 1).trans rfl,((HB.out.cell (bl' w _ hw253_0)).trans hw253_0)⟩ (fun hHeld=>?_);refine with_tabW spec_seNext.tab6 spec_seNext.bits6 (fun HT_ HW_=>?_);generalize w39.drew=w40 at HO_7 HO_13 HL244_0 HO247 BK239 BK240 HR244_0 HB hx253_0 hHeld ⊢
            refine pure_ (i:=0) (N:=some 26) (v:=?_) (a':=?_) #[true,false,false,false,false,false,false,false,false,false,false,false,false,false,false] rfl rfl (any_of HT_.out (by kernel_rfl)) (fun _ _ _ h=>h) (Or.inl ⟨by rfl,?_⟩) ?_ ?_
            rotate_left
            ·
             intro w';go_simp;with_reducible rfl
            rotate_left
            ·
             simp only[Act.put,sa',sb',sc',i64_w,i32_w];rfl
            refine pure_ (i:=1) (N:=some 27) (v:=?_) (a':=?_) #[true,true,false,false,false,false,false,false,false,false,false,false,false,false,false] rfl rfl (any_of HT_.out (by kernel_rfl)) (fun _ _ _ h=>h) (Or.inl ⟨by rfl,?_⟩) ?_ ?_
            rotate_left
            ·
             intro w';go_simp;with_reducible rfl
            rotate_left
            ·
             simp only[Act.put,sa',sb',sc',i64_w,i32_w];rfl
            refine pure_ (i:=2) (N:=some 28) (v:=?_) (a':=?_) #[true,true,true,false,false,false,false,false,false,false,false,false,false,false,false] rfl rfl (any_of HT_.out (by kernel_rfl)) (fun _ _ _ h=>h) (Or.inl ⟨by rfl,?_⟩) ?_ ?_
            rotate_left
            ·
             intro w';go_simp;with_reducible rfl
            rotate_left
            ·
             simp only[Act.put,sa',sb',sc',i64_w,i32_w];rfl
            refine pure_ (i:=3) (N:=some 29) (v:=?_) (a':=?_) #[true,true,true,true,false,false,false,false,false,false,false,false,false,false,false] rfl rfl (any_of HT_.out (by kernel_rfl)) (fun _ _ _ h=>h) (Or.inl ⟨by rfl,?_⟩) ?_ ?_
            rotate_left
            ·
             intro w';go_simp;with_reducible rfl
            rotate_left
            ·
             simp only[Act.put,sa',sb',sc',i64_w,i32_w];rfl
            refine pure_ (i:=5) (N:=some 31) (v:=?_) (a':=?_) #[true,true,true,true,false,true,false,false,false,false,false,false,false,false,false] rfl rfl (any_of HT_.out (by kernel_rfl)) (fun _ _ _ h=>h) (Or.inl ⟨by rfl,?_⟩) ?_ ?_
            rotate_left
            ·
             intro w';go_simp;with_reducible rfl
            rotate_left
            ·
             simp only[Act.put,sa',sb',sc',i64_w,i32_w];rfl
            refine pure_ (i:=8) (N:=some 34) (v:=?_) (a':=?_) #[true,true,true,true,false,true,false,false,true,false,false,false,false,false,false] rfl rfl (any_of HT_.out (by kernel_rfl)) (fun _ _ _ h=>h) (Or.inl ⟨by rfl,?_⟩) ?_ ?_
            rotate_left
            ·
             intro w';go_simp;with_reducible rfl
            rotate_left
            ·
             simp only[Act.put,sa',sb',sc',i64_w,i32_w];rfl
            refine take_ (i:=4) (N:=some 30) (v:=?_) (a':=?_) #[true,true,true,true,true,true,false,false,true,false,false,false,false,false,false] rfl rfl (take_ofW HT_.out HW_.out (by kernel_rfl)) (fun _ _ _ h=>h) (Or.inl ⟨by rfl,?_⟩) hHeld ?_ ?_
            rotate_left
            ·
             rintro w' ⟨s0,s1,s2,s3,s4⟩
             go_simp;with_reducible rfl
            rotate_left
            ·
             simp only[Act.put,sa',sb',sc',i64_w,i32_w];rfl
            refine take_ (i:=9) (N:=some 35) (v:=?_) (a':=?_) #[true,true,true,true,true,true,false,false,true,true,false,false,false,false,false] rfl rfl (take_ofW HT_.out HW_.out (by kernel_rfl)) (fun _ _ _ h=>h) (Or.inl ⟨by rfl,?_⟩) hHeld ?_ ?_
            rotate_left
            ·
             rintro w' ⟨s0,s1,s2,s3,s4⟩
             go_simp;with_reducible rfl
            rotate_left
            ·
             simp only[Act.put,sa',sb',sc',i64_w,i32_w];rfl
            refine one_ (i:=6) (N:=some 32) #[true,true,true,true,true,true,true,false,true,true,false,false,false,false,false] rfl rfl (one_of HT_.out (by kernel_rfl)) (by decide) (fun K hK=>?_);refine goes_ Try.func102 (by kernel_rfl) rfl #[.agg #[.slice A0_0 l0_0.length c0_0, .int .i64 a0_1], .slice A244_0 (rd_L2 t241 x15_1).length c244_0] (by rfl) rfl rfl (by (try simp only[List.map_toArray,List.map_cons,List.map_nil]);first|done|rfl|(simp only[List.length_drop,List.length_take];rfl)) ?_
            with_reducible refine (spec_paTime.calls k1 _ _ l0_0 a0_1 _ _ (rd_L2 t241 x15_1) t251 _ ?side1 ?side2 ?side3 ?side4 A20.out).mono ?_
            (case side1=>repeat (first|exact (Kd.C_below HR0_0.out HB.out)|(with_reducible refine ca' ?_ _)|(with_reducible refine cn' ?_ _)|(with_reducible refine cd' ?_)))
            (case side2=>exact HC0_0.out)
            (case side3=>repeat (first|exact (by repeat (first|(with_reducible exact HR244_0.out)|(with_reducible refine ca' ?_ _)|(with_reducible refine cn' ?_ _)|(with_reducible refine cd' ?_)|exact HR244_0.out))|(with_reducible refine ca' ?_ _)|(with_reducible refine cn' ?_ _)|(with_reducible refine cd' ?_)))
            (case side4=>exact HC244_0.out)
            rintro e w41 ⟨rfl,hb⟩
            refine ⟨_,rfl,?_⟩;have n0_:=am' (Kd.N_below (by (with_reducible repeat (first|apply Kd.N_alloc|apply Kd.N_drewN|apply Kd.N_drew));exact HO_7.out) hb);have n1_:=am' (Kd.N_below (by (with_reducible repeat (first|apply Kd.N_alloc|apply Kd.N_drewN|apply Kd.N_drew));exact HO_13.out) hb);have n2_:=am' (Kd.V_below (by (with_reducible repeat (first|apply Kd.V_alloc|apply Kd.V_drewN|apply Kd.V_drew));exact HL244_0.out) hb);have n3_:=am' (Kd.R_below (by (with_reducible repeat (first|apply ra'|apply rn'|apply rw'));exact HO247.out) hb);have n4_:=am' (blk_below (g:=gb239) (o := .cells #[.slice A0_0 l0_0.length c0_0, .int .i64 a0_1] 28 (0,0)) (by (with_reducible repeat (first|refine kn' ?_ _|refine kd' ?_|refine ka' ?_ _));exact BK239.out) hb);have n5_:=am' (blk_below (g:=gb240) (o := .cells #[.slice A2_0 l2_0.length c2_0, .bool a2_1] 44 (0,0)) (by (with_reducible repeat (first|refine kn' ?_ _|refine kd' ?_|refine ka' ?_ _));exact BK240.out) hb);have n6_:=am' (Kd.C_below (by repeat (first|(with_reducible exact HR244_0.out)|(with_reducible refine ca' ?_ _)|(with_reducible refine cn' ?_ _)|(with_reducible refine cd' ?_)|exact HR244_0.out)) hb);have n7_:=am' (below_step (by repeat (first|(with_reducible first|exact HB.out|apply ba'|apply bd'|apply be'|refine bs' ?_ GE239.out|refine bs' ?_ GE240.out)|exact HB.out)) hb);clear HO_7;clear HO_13;clear HL244_0;clear HO247;clear BK239;clear BK240;clear HR244_0;clear HB;have HO_7:=n0_;have HO_13:=n1_;have HL244_0:=n2_;have HO247:=n3_;have BK239:=n4_;have BK240:=n5_;have HR244_0:=n6_;have HB:=n7_;clear n0_ n1_ n2_ n3_ n4_ n5_ n6_ n7_;(try clear hb)
            (try clear hb2)
            (try clear hk)
            (try clear hi)
            refine hK.out _ _ ⟨(blk_cell BK239.out 0).trans rfl,(blk_cell BK239.out 1).trans rfl,(blk_cell BK240.out 0).trans rfl,(blk_cell BK240.out 1).trans rfl,((HB.out.cell (bl' w _ hw253_0)).trans hw253_0)⟩ (fun hHeld=>?_);clear hK K;refine norm_ (a':=?_) ?_ ?_
            rotate_left
            ·
             show Act.put _ (some 32) _=_
             simp only[Act.put,sa',sb',sc',i64_w,i32_w];rfl
            refine pure_ (i:=7) (N:=some 33) (v:=?_) (a':=?_) #[true,true,true,true,true,true,true,true,true,true,false,false,false,false,false] rfl rfl (any_of HT_.out (by kernel_rfl)) (fun _ _ _ h=>h) (Or.inl ⟨by rfl,?_⟩) ?_ ?_
            rotate_left
            ·
             intro w';go_simp;with_reducible rfl
            rotate_left
            ·
             simp only[Act.put,sa',sb',sc',i64_w,i32_w];rfl
            refine one_ (i:=10) (N:=some 36) #[true,true,true,true,true,true,true,true,true,true,true,false,false,false,false] rfl rfl (one_of HT_.out (by kernel_rfl)) (by decide) (fun K hK=>?_);refine goes_ Try.func78 (by kernel_rfl) rfl #[.agg #[.slice A2_0 l2_0.length c2_0, .bool a2_1]] (by rfl) rfl rfl (by (try simp only[List.map_toArray,List.map_cons,List.map_nil]);first|done|rfl|(simp only[List.length_drop,List.length_take];rfl)) ?_
            with_reducible refine (spec_seIndex.calls k1 _ _ l2_0 a2_1 t252 _ ?side1 ?side2 A21.out).mono ?_
            (case side1=>repeat (first|exact (Kd.C_below HR2_0.out HB.out)|(with_reducible refine ca' ?_ _)|(with_reducible refine cn' ?_ _)|(with_reducible refine cd' ?_)))
            (case side2=>exact HC2_0.out)
            rintro e w42 ⟨rfl,hb⟩
            refine ⟨_,rfl,?_⟩;have n0_:=am' (Kd.N_below (by (with_reducible repeat (first|apply Kd.N_alloc|apply Kd.N_drewN|apply Kd.N_drew));exact HO_7.out) hb);have n1_:=am' (Kd.N_below (by (with_reducible repeat (first|apply Kd.N_alloc|apply Kd.N_drewN|apply Kd.N_drew));exact HO_13.out) hb);have n2_:=am' (Kd.V_below (by (with_reducible repeat (first|apply Kd.V_alloc|apply Kd.V_drewN|apply Kd.V_drew));exact HL244_0.out) hb);have n3_:=am' (Kd.R_below (by (with_reducible repeat (first|apply ra'|apply rn'|apply rw'));exact HO247.out) hb);have n4_:=am' (blk_below (g:=gb239) (o := .cells #[.slice A0_0 l0_0.length c0_0, .int .i64 a0_1] 28 (0,0)) (by (with_reducible repeat (first|refine kn' ?_ _|refine kd' ?_|refine ka' ?_ _));exact BK239.out) hb);have n5_:=am' (blk_below (g:=gb240) (o := .cells #[.slice A2_0 l2_0.length c2_0, .bool a2_1] 44 (0,0)) (by (with_reducible repeat (first|refine kn' ?_ _|refine kd' ?_|refine ka' ?_ _));exact BK240.out) hb);have n6_:=am' (Kd.C_below (by repeat (first|(with_reducible exact HR244_0.out)|(with_reducible refine ca' ?_ _)|(with_reducible refine cn' ?_ _)|(with_reducible refine cd' ?_)|exact HR244_0.out)) hb);have n7_:=am' (below_step (by repeat (first|(with_reducible first|exact HB.out|apply ba'|apply bd'|apply be'|refine bs' ?_ GE239.out|refine bs' ?_ GE240.out)|exact HB.out)) hb);clear HO_7;clear HO_13;clear HL244_0;clear HO247;clear BK239;clear BK240;clear HR244_0;clear HB;have HO_7:=n0_;have HO_13:=n1_;have HL244_0:=n2_;have HO247:=n3_;have BK239:=n4_;have BK240:=n5_;have HR244_0:=n6_;have HB:=n7_;clear n0_ n1_ n2_ n3_ n4_ n5_ n6_ n7_;(try clear hb)
            (try clear hb2)
            (try clear hk)
            (try clear hi)
            refine hK.out _ _ ⟨(blk_cell BK239.out 0).trans rfl,(blk_cell BK239.out 1).trans rfl,(blk_cell BK240.out 0).trans rfl,(blk_cell BK240.out 1).trans rfl,((HB.out.cell (bl' w _ hw253_0)).trans hw253_0)⟩ (fun hHeld=>?_);clear hK K;refine norm_ (a':=?_) ?_ ?_
            rotate_left
            ·
             show Act.put _ (some 36) _=_
             simp only[Act.put,sa',sb',sc',i64_w,i32_w];rfl
            refine pure_ (i:=11) (N:=some 37) (v:=?_) (a':=?_) #[true,true,true,true,true,true,true,true,true,true,true,true,false,false,false] rfl rfl (any_of HT_.out (by kernel_rfl)) (fun _ _ _ h=>h) (Or.inl ⟨by rfl,?_⟩) ?_ ?_
            rotate_left
            ·
             intro w';go_simp;with_reducible rfl
            rotate_left
            ·
             simp only[Act.put,sa',sb',sc',i64_w,i32_w];rfl
            refine take_ (i:=12) (N:=some 38) (v:=?_) (a':=?_) #[true,true,true,true,true,true,true,true,true,true,true,true,true,false,false] rfl rfl (take_ofW HT_.out HW_.out (by kernel_rfl)) (fun _ _ _ h=>h) (Or.inl ⟨by rfl,?_⟩) hHeld ?_ ?_
            rotate_left
            ·
             rintro w' ⟨s0,s1,s2,s3,s4⟩
             go_simp;with_reducible rfl
            rotate_left
            ·
             simp only[Act.put,sa',sb',sc',i64_w,i32_w];rfl
            refine pure_ (i:=13) (N:=some 39) (v:=?_) (a':=?_) #[true,true,true,true,true,true,true,true,true,true,true,true,true,true,false] rfl rfl (any_of HT_.out (by kernel_rfl)) (fun _ _ _ h=>h) (Or.inl ⟨by rfl,?_⟩) ?_ ?_
            rotate_left
            ·
             intro w';go_simp;with_reducible rfl
            rotate_left
            ·
             simp only[Act.put,sa',sb',sc',i64_w,i32_w];rfl
            refine pure_ (i:=14) (N:=some 40) (v:=?_) (a':=?_) #[true,true,true,true,true,true,true,true,true,true,true,true,true,true,true] rfl rfl (any_of HT_.out (by kernel_rfl)) (fun _ _ _ h=>h) (Or.inl ⟨by rfl,?_⟩) ?_ ?_
            rotate_left
            ·
             intro w';go_simp;with_reducible rfl
            rotate_left
            ·
             simp only[Act.put,sa',sb',sc',i64_w,i32_w];rfl
            refine done_ (done_of HT_.out (by kernel_rfl)) ?_
            try go_wp2
            go_roundg k1
            case measure=>have:=HK1.out;omega
            case rel=>exact ⟨(x7_1),(wrap64 (x15_1+1)),(by first|rfl|(simp;done)|(simp[*];done)),H',⟨by have:=HK1.out;omega⟩,⟨by (with_reducible repeat (first|apply Kd.N_alloc|apply Kd.N_drewN|apply Kd.N_drew));exact Kd.N_mono HO_7.out (fun _ hk=>⟨hk.1.1,⟨hk.1.2.1,⟨hk.1.2.2.1,hk.1.2.2.2⟩⟩⟩)⟩,⟨by (with_reducible repeat (first|apply Kd.N_alloc|apply Kd.N_drewN|apply Kd.N_drew));exact Kd.N_mono HO_13.out (fun _ hk=>⟨hk.1.1,⟨hk.1.2.1,⟨hk.1.2.2.1,hk.1.2.2.2⟩⟩⟩)⟩,⟨by (with_reducible repeat (first|refine kn' ?_ _|refine kd' ?_|refine ka' ?_ _));exact BK239.out⟩,⟨by (with_reducible repeat (first|refine kn' ?_ _|refine kd' ?_|refine ka' ?_ _));exact BK240.out⟩,⟨by repeat (first|(with_reducible first|exact HB.out|apply ba'|apply bd'|apply be'|refine bs' ?_ GE239.out|refine bs' ?_ GE240.out)|exact HB.out)⟩⟩
          ·
           rw[if_neg c23] at H;exact absurd H (by simp)
         ·
          rw[if_neg c22] at H;exact absurd H (by simp)
        ·
         rw[if_neg c19] at H;have c19b0:decide (0≤(rd l1 t249))=false:=decide_eq_false c19;clear c19;have H':=am' H;clear H;have p244:0≤(x15_1:Int):=of_decide_eq_true (by first|(with_reducible assumption)|assumption);have q244:x15_1 < (t241.length:Int):=of_decide_eq_true (by first|(with_reducible assumption)|assumption);obtain ⟨ad244,A244_0,c244_0,e244,hx244_0,hl244_0,hi244_0⟩:=at_L2 (Kd.N_reads' HO_13.out).2.2 x15_1 p244 q244;cases e244;obtain ⟨ce244,hce244,hMe244,hcc244⟩:=Kd.N_get HO_13.out [] x15_1 p244 (by first|exact q244|exact of_decide_eq_true (by first|(with_reducible assumption)|assumption)|(have e_:=(Kd.N_reads' HO_13.out).1;omega));obtain ⟨ua244_0,uc244_0,rfl,ul244_0,ge244_0⟩:=Kd.FK_slice_open hMe244;have hv244_0:=hcc244 0 _ rfl;rw[Nat.add_zero,show ((Kd.slice 3 (Kd.int .i64))).sz=1 from rfl,Nat.mul_one] at hv244_0;replace hv244_0:=Option.some.inj (hv244_0.symm.trans hx244_0);injection hv244_0 with hva_ hvn_ hvc_
         rw[hva_] at ge244_0;rw[hvc_] at ul244_0;have HL244_0:=am' (show Kd.V (Kd.int .i64) 3 _ w.heap.size _ _ (rd_L2 t241 x15_1) from Kd.V_mk ul244_0 ge244_0);clear hva_ hvn_ hvc_ ge244_0 ul244_0;clear hcc244 hce244;have HR244_0:=am' hi244_0;have HC244_0:=am' hl244_0;clear hi244_0 hl244_0;replace p244:=eq_true p244;replace q244:=eq_true q244;have hnb43:=NB240_239.out;have hnc43:=NB239_240.out;have hcz44_0:wr.cell? ⟨gb240,0,none⟩=some (.slice A2_0 l2_0.length c2_0):=(blk_cell BK240.out 0).trans rfl;have hcz44_1:wr.cell? ⟨gb240,1,none⟩=some (.bool a2_1):=(blk_cell BK240.out 1).trans rfl;have hfz44_0:=blk_frozen BK240.out 0;have hfz44_1:=blk_frozen BK240.out 1
         try go_wp2_with (first|((with_reducible refine gate_callee (f:=101) rfl ?_);refine goesL_ (some 22) rfl rfl Try.func101 (by kernel_rfl) rfl #[.agg #[.slice A2_0 l2_0.length c2_0, .bool a2_1], .slice A244_0 (rd_L2 t241 x15_1).length c244_0] rfl (by (try simp only[List.map_toArray,List.map_cons,List.map_nil]);first|done|rfl|(simp only[List.length_drop,List.length_take];rfl)) ?_;(with_reducible refine (spec_paCross.calls k1 _ _ l2_0 a2_1 _ _ (rd_L2 t241 x15_1) t245 t248 _ ?side1 ?side2 ?side3 ?side4 A15.out).mono ?_);(case side1=>repeat (first|exact (Kd.C_below HR2_0.out HB.out)|(with_reducible refine ca' ?_ _)|(with_reducible refine cn' ?_ _)|(with_reducible refine cd' ?_)));(case side2=>exact HC2_0.out);(case side3=>repeat (first|exact (by repeat (first|(with_reducible exact HR244_0.out)|(with_reducible refine ca' ?_ _)|(with_reducible refine cn' ?_ _)|(with_reducible refine cd' ?_)|exact HR244_0.out))|(with_reducible refine ca' ?_ _)|(with_reducible refine cn' ?_ _)|(with_reducible refine cd' ?_)));(case side4=>exact HC244_0.out);rintro e w45 ⟨v246,rfl,ho0,hb⟩;refine ⟨_,rfl,?_⟩;have n0_:=am' (Kd.N_elder' (by (with_reducible repeat (first|apply Kd.N_alloc|apply Kd.N_drewN|apply Kd.N_drew));exact HO_7.out) (Kd.R_base ho0) hb);have n1_:=am' (Kd.N_elder' (by (with_reducible repeat (first|apply Kd.N_alloc|apply Kd.N_drewN|apply Kd.N_drew));exact HO_13.out) (Kd.R_base ho0) hb);have n2_:=am' (Kd.V_elder' (by (with_reducible repeat (first|apply Kd.V_alloc|apply Kd.V_drewN|apply Kd.V_drew));exact HL244_0.out) (Kd.R_base ho0) hb);have n3_:=am' (Kd.R_lower (Kd.R_newM (M:=fun k_=>(w.heap.size≤k_)) ho0 (below_size (by repeat (first|(with_reducible first|exact HB.out|apply ba'|apply bd'|apply be'|refine bs' ?_ GE239.out|refine bs' ?_ GE240.out)|exact HB.out))) (fun k_ h_=>h_)) (below_size (by repeat (first|(with_reducible first|exact HB.out|apply ba'|apply bd'|apply be'|refine bs' ?_ GE239.out|refine bs' ?_ GE240.out)|exact HB.out))));have n4_:=am' (blk_below (g:=gb239) (o := .cells #[.slice A0_0 l0_0.length c0_0, .int .i64 a0_1] 28 (0,0)) (by (with_reducible repeat (first|refine kn' ?_ _|refine kd' ?_|refine ka' ?_ _));exact BK239.out) hb);have n5_:=am' (blk_below (g:=gb240) (o := .cells #[.slice A2_0 l2_0.length c2_0, .bool a2_1] 44 (0,0)) (by (with_reducible repeat (first|refine kn' ?_ _|refine kd' ?_|refine ka' ?_ _));exact BK240.out) hb);have n6_:=am' (Kd.C_below (by repeat (first|(with_reducible exact HR244_0.out)|(with_reducible refine ca' ?_ _)|(with_reducible refine cn' ?_ _)|(with_reducible refine cd' ?_)|exact HR244_0.out)) hb);have n7_:=am' (below_step (by repeat (first|(with_reducible first|exact HB.out|apply ba'|apply bd'|apply be'|refine bs' ?_ GE239.out|refine bs' ?_ GE240.out)|exact HB.out)) hb);clear HO_7;clear HO_13;clear HL244_0;clear BK239;clear BK240;clear HR244_0;clear HB;have HO_7:=n0_;have HO_13:=n1_;have HL244_0:=n2_;have HO247:=n3_;have BK239:=n4_;have BK240:=n5_;have HR244_0:=n6_;have HB:=n7_;clear n0_ n1_ n2_ n3_ n4_ n5_ n6_ n7_;(try clear hb);(try clear hb2);(try clear hk);(try clear hi);(try clear ho0);obtain ⟨Ao46,co46,eo46⟩:=Kd.R_slice HO247.out;subst eo46)|((with_reducible refine gate_callee (f:=78) rfl ?_);refine goesL_ (some 23) rfl rfl Try.func78 (by kernel_rfl) rfl #[.agg #[.slice Ao46 t245.length co46, .bool t248]] rfl (by (try simp only[List.map_toArray,List.map_cons,List.map_nil]);first|done|rfl|(simp only[List.length_drop,List.length_take];rfl)) ?_;(with_reducible refine (spec_seIndex.calls k1 _ _ t245 t248 t249 _ ?side1 ?side2 A16.out).mono ?_);(case side1=>repeat (first|exact (Kd.R_reads' HO247.out).2.2|(with_reducible refine ca' ?_ _)|(with_reducible refine cn' ?_ _)|(with_reducible refine cd' ?_)));(case side2=>exact (Kd.R_reads' HO247.out).2.1);rintro e w47 ⟨rfl,hb⟩;refine ⟨_,rfl,?_⟩;have n0_:=am' (Kd.N_below (by (with_reducible repeat (first|apply Kd.N_alloc|apply Kd.N_drewN|apply Kd.N_drew));exact HO_7.out) hb);have n1_:=am' (Kd.N_below (by (with_reducible repeat (first|apply Kd.N_alloc|apply Kd.N_drewN|apply Kd.N_drew));exact HO_13.out) hb);have n2_:=am' (Kd.V_below (by (with_reducible repeat (first|apply Kd.V_alloc|apply Kd.V_drewN|apply Kd.V_drew));exact HL244_0.out) hb);have n3_:=am' (Kd.R_below (by (with_reducible repeat (first|apply ra'|apply rn'|apply rw'));exact HO247.out) hb);have n4_:=am' (blk_below (g:=gb239) (o := .cells #[.slice A0_0 l0_0.length c0_0, .int .i64 a0_1] 28 (0,0)) (by (with_reducible repeat (first|refine kn' ?_ _|refine kd' ?_|refine ka' ?_ _));exact BK239.out) hb);have n5_:=am' (blk_below (g:=gb240) (o := .cells #[.slice A2_0 l2_0.length c2_0, .bool a2_1] 44 (0,0)) (by (with_reducible repeat (first|refine kn' ?_ _|refine kd' ?_|refine ka' ?_ _));exact BK240.out) hb);have n6_:=am' (Kd.C_below (by repeat (first|(with_reducible exact HR244_0.out)|(with_reducible refine ca' ?_ _)|(with_reducible refine cn' ?_ _)|(with_reducible refine cd' ?_)|exact HR244_0.out)) hb);have n7_:=am' (below_step (by repeat (first|(with_reducible first|exact HB.out|apply ba'|apply bd'|apply be'|refine bs' ?_ GE239.out|refine bs' ?_ GE240.out)|exact HB.out)) hb);clear HO_7;clear HO_13;clear HL244_0;clear HO247;clear BK239;clear BK240;clear HR244_0;clear HB;have HO_7:=n0_;have HO_13:=n1_;have HL244_0:=n2_;have HO247:=n3_;have BK239:=n4_;have BK240:=n5_;have HR244_0:=n6_;have HB:=n7_;clear n0_ n1_ n2_ n3_ n4_ n5_ n6_ n7_;(try clear hb);(try clear hb2);(try clear hk);(try clear hi);have p250:0≤(t249:Int):=of_decide_eq_true (by first|(with_reducible assumption)|assumption);have q250:t249 < (l1.length:Int):=of_decide_eq_true (by first|(with_reducible assumption)|assumption);obtain ⟨ad250,e250,hx250_0⟩:=Kd.at_int HR1.out t249 p250 q250;cases e250;replace hx250_0:=(HB.out.cell (bl' w _ hx250_0)).trans hx250_0;replace p250:=eq_true p250;replace q250:=eq_true q250))
         have n0_:=am' (Kd.N_drew HO_7.out);have n1_:=am' (Kd.N_drew HO_13.out);have n2_:=am' (Kd.V_drew HL244_0.out);have n3_:=am' (rw' HO247.out);have n4_:=am' (kd' BK239.out);have n5_:=am' (kd' BK240.out);have n6_:=am' (cd' HR244_0.out);have n7_:=am' (be' HB.out);clear HO_7;clear HO_13;clear HL244_0;clear HO247;clear BK239;clear BK240;clear HR244_0;clear HB;have HO_7:=n0_;have HO_13:=n1_;have HL244_0:=n2_;have HO247:=n3_;have BK239:=n4_;have BK240:=n5_;have HR244_0:=n6_;have HB:=n7_;clear n0_ n1_ n2_ n3_ n4_ n5_ n6_ n7_;refine start_ (n:=15) (S:=fun w'=>True) (ds:=[]) #[false,false,false,false,false,false,false,false,false,false,false,false,false,false,false] (by kernel_rfl) rfl rfl trivial (fun hHeld=>?_);refine with_tabW spec_seNext.tab6 spec_seNext.bits6 (fun HT_ HW_=>?_);generalize w47.drew=w48 at HO_7 HO_13 HL244_0 HO247 BK239 BK240 HR244_0 HB hHeld ⊢
         refine pure_ (i:=0) (N:=some 26) (v:=?_) (a':=?_) #[true,false,false,false,false,false,false,false,false,false,false,false,false,false,false] rfl rfl (any_of HT_.out (by kernel_rfl)) (fun _ _ _ h=>h) (Or.inl ⟨by rfl,?_⟩) ?_ ?_
         rotate_left
         ·
          intro w';go_simp;with_reducible rfl
         rotate_left
         ·
          simp only[Act.put,sa',sb',sc',i64_w,i32_w];rfl
         refine pure_ (i:=1) (N:=some 27) (v:=?_) (a':=?_) #[true,true,false,false,false,false,false,false,false,false,false,false,false,false,false] rfl rfl (any_of HT_.out (by kernel_rfl)) (fun _ _ _ h=>h) (Or.inl ⟨by rfl,?_⟩) ?_ ?_
         rotate_left
         ·
          intro w';go_simp;with_reducible rfl
         rotate_left
         ·
          simp only[Act.put,sa',sb',sc',i64_w,i32_w];rfl
         refine pure_ (i:=2) (N:=some 28) (v:=?_) (a':=?_) #[true,true,true,false,false,false,false,false,false,false,false,false,false,false,false] rfl rfl (any_of HT_.out (by kernel_rfl)) (fun _ _ _ h=>h) (Or.inl ⟨by rfl,?_⟩) ?_ ?_
         rotate_left
         ·
          intro w';go_simp;with_reducible rfl
         rotate_left
         ·
          simp only[Act.put,sa',sb',sc',i64_w,i32_w];rfl
         refine pure_ (i:=3) (N:=some 29) (v:=undef) (a':=?_) #[true,true,true,true,false,false,false,false,false,false,false,false,false,false,false] rfl rfl (any_of HT_.out (by kernel_rfl)) (fun _ _ _ h=>h) (Or.inr ⟨by rfl,rfl⟩) ?_ ?_
         rotate_left
         ·
          simp only[Act.put,sa',sb',sc',i64_w,i32_w];rfl
         refine pure_ (i:=4) (N:=some 30) (v:=undef) (a':=?_) #[true,true,true,true,true,false,false,false,false,false,false,false,false,false,false] rfl rfl (any_of HT_.out (by kernel_rfl)) (fun _ _ _ h=>h) (Or.inr ⟨by rfl,rfl⟩) ?_ ?_
         rotate_left
         ·
          simp only[Act.put,sa',sb',sc',i64_w,i32_w];rfl
         refine pure_ (i:=5) (N:=some 31) (v:=undef) (a':=?_) #[true,true,true,true,true,true,false,false,false,false,false,false,false,false,false] rfl rfl (any_of HT_.out (by kernel_rfl)) (fun _ _ _ h=>h) (Or.inr ⟨by rfl,rfl⟩) ?_ ?_
         rotate_left
         ·
          simp only[Act.put,sa',sb',sc',i64_w,i32_w];rfl
         refine pure_ (i:=6) (N:=some 32) (v:=undef) (a':=?_) #[true,true,true,true,true,true,true,false,false,false,false,false,false,false,false] rfl rfl (any_of HT_.out (by kernel_rfl)) (fun _ _ _ h=>h) (Or.inr ⟨by rfl,rfl⟩) ?_ ?_
         rotate_left
         ·
          simp only[Act.put,sa',sb',sc',i64_w,i32_w];rfl
         refine pure_ (i:=7) (N:=some 33) (v:=undef) (a':=?_) #[true,true,true,true,true,true,true,true,false,false,false,false,false,false,false] rfl rfl (any_of HT_.out (by kernel_rfl)) (fun _ _ _ h=>h) (Or.inr ⟨by rfl,rfl⟩) ?_ ?_
         rotate_left
         ·
          simp only[Act.put,sa',sb',sc',i64_w,i32_w];rfl
         refine pure_ (i:=8) (N:=some 34) (v:=undef) (a':=?_) #[true,true,true,true,true,true,true,true,true,false,false,false,false,false,false] rfl rfl (any_of HT_.out (by kernel_rfl)) (fun _ _ _ h=>h) (Or.inr ⟨by rfl,rfl⟩) ?_ ?_
         rotate_left
         ·
          simp only[Act.put,sa',sb',sc',i64_w,i32_w];rfl
         refine pure_ (i:=9) (N:=some 35) (v:=undef) (a':=?_) #[true,true,true,true,true,true,true,true,true,true,false,false,false,false,false] rfl rfl (any_of HT_.out (by kernel_rfl)) (fun _ _ _ h=>h) (Or.inr ⟨by rfl,rfl⟩) ?_ ?_
         rotate_left
         ·
          simp only[Act.put,sa',sb',sc',i64_w,i32_w];rfl
         refine pure_ (i:=10) (N:=some 36) (v:=undef) (a':=?_) #[true,true,true,true,true,true,true,true,true,true,true,false,false,false,false] rfl rfl (any_of HT_.out (by kernel_rfl)) (fun _ _ _ h=>h) (Or.inr ⟨by rfl,rfl⟩) ?_ ?_
         rotate_left
         ·
          simp only[Act.put,sa',sb',sc',i64_w,i32_w];rfl
         refine pure_ (i:=11) (N:=some 37) (v:=undef) (a':=?_) #[true,true,true,true,true,true,true,true,true,true,true,true,false,false,false] rfl rfl (any_of HT_.out (by kernel_rfl)) (fun _ _ _ h=>h) (Or.inr ⟨by rfl,rfl⟩) ?_ ?_
         rotate_left
         ·
          simp only[Act.put,sa',sb',sc',i64_w,i32_w];rfl
         refine pure_ (i:=12) (N:=some 38) (v:=undef) (a':=?_) #[true,true,true,true,true,true,true,true,true,true,true,true,true,false,false] rfl rfl (any_of HT_.out (by kernel_rfl)) (fun _ _ _ h=>h) (Or.inr ⟨by rfl,rfl⟩) ?_ ?_
         rotate_left
         ·
          simp only[Act.put,sa',sb',sc',i64_w,i32_w];rfl
         refine pure_ (i:=13) (N:=some 39) (v:=undef) (a':=?_) #[true,true,true,true,true,true,true,true,true,true,true,true,true,true,false] rfl rfl (any_of HT_.out (by kernel_rfl)) (fun _ _ _ h=>h) (Or.inr ⟨by rfl,rfl⟩) ?_ ?_
         rotate_left
         ·
          simp only[Act.put,sa',sb',sc',i64_w,i32_w];rfl
         refine pure_ (i:=14) (N:=some 40) (v:=?_) (a':=?_) #[true,true,true,true,true,true,true,true,true,true,true,true,true,true,true] rfl rfl (any_of HT_.out (by kernel_rfl)) (fun _ _ _ h=>h) (Or.inl ⟨by rfl,?_⟩) ?_ ?_
         rotate_left
         ·
          intro w';go_simp;with_reducible rfl
         rotate_left
         ·
          simp only[Act.put,sa',sb',sc',i64_w,i32_w];rfl
         refine done_ (done_of HT_.out (by kernel_rfl)) ?_
         try go_wp2
         go_roundg k1
         case measure=>have:=HK1.out;omega
         case rel=>exact ⟨(x7_1),(wrap64 (x15_1+1)),(by first|rfl|(simp;done)|(simp[*];done)),H',⟨by have:=HK1.out;omega⟩,⟨by (with_reducible repeat (first|apply Kd.N_alloc|apply Kd.N_drewN|apply Kd.N_drew));exact Kd.N_mono HO_7.out (fun _ hk=>⟨hk.1.1,⟨hk.1.2.1,⟨hk.1.2.2.1,hk.1.2.2.2⟩⟩⟩)⟩,⟨by (with_reducible repeat (first|apply Kd.N_alloc|apply Kd.N_drewN|apply Kd.N_drew));exact Kd.N_mono HO_13.out (fun _ hk=>⟨hk.1.1,⟨hk.1.2.1,⟨hk.1.2.2.1,hk.1.2.2.2⟩⟩⟩)⟩,⟨by (with_reducible repeat (first|refine kn' ?_ _|refine kd' ?_|refine ka' ?_ _));exact BK239.out⟩,⟨by (with_reducible repeat (first|refine kn' ?_ _|refine kd' ?_|refine ka' ?_ _));exact BK240.out⟩,⟨by repeat (first|(with_reducible first|exact HB.out|apply ba'|apply bd'|apply be'|refine bs' ?_ GE239.out|refine bs' ?_ GE240.out)|exact HB.out)⟩⟩
       ·
        rw[if_neg c18] at H;exact absurd H (by simp)
      ·
       rw[if_neg c17] at H;exact absurd H (by simp)
     ·
      rw[if_neg c14] at H;exact absurd H (by simp)
    ·
     rw[if_neg c13] at H;exact absurd H (by simp)
   ·
    rw[if_neg c12] at H;have c12b0:decide (x15_1 < (t241.length:Int))=false:=decide_eq_false c12;clear c12;obtain rfl:=Option.some.inj H;go_wp2;go_ret
    exact ⟨_,by first|rfl|(simp[errW_none,errW_some] <;> rfl)|(simp[*,errW_none,errW_some] <;> rfl),by (with_reducible repeat (first|apply Kd.N_alloc|apply Kd.N_drewN|apply Kd.N_drew));exact Kd.N_mono HO_7.out (fun _ hk=>hk.1),by repeat (first|(with_reducible first|exact HB.out|apply ba'|apply bd'|apply be'|refine bs' ?_ GE239.out|refine bs' ?_ GE240.out)|exact HB.out)⟩
end Go.Proofs.Ytamljjfhkolflaa.C14
