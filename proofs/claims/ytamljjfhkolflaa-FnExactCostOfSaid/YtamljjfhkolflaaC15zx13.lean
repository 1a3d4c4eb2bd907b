import Derived.Test.YtamljjfhkolflaaC15zx0
import Derived.Test.YtamljjfhkolflaaC15zx1
import Derived.Test.YtamljjfhkolflaaC15zx7
import Derived.Test.YtamljjfhkolflaaC15zx12
import Derived.Test.YtamljjfhkolflaaC15zAl
namespace Go.Proofs.Ytamljjfhkolflaa.C15
open Go.RowKit Go.Proofs.YtamljjfhkolflaaW.PrintWords Go.Proofs.YtamljjfhkolflaaW.PrintLast Go.Proofs.YtamljjfhkolflaaW.PrintMore Go.Proofs.Ytamljjfhkolflaa.H
attribute [local go_sem] max2_int min2_int max_two min_two max_three min_three max_four min_four
set_option linter.unusedVariables false
set_option linter.unusedSimpArgs false
mutual
def laws_FnExactCostOf.j0:Nat→Int→List Int→Int→Option (Bool)
 | 0,_,_,_=>none
 | k+1,x1,x313000,x313001=>(laws_toParty.f k x313000 x313001).bind fun bt314=>((spec_CostOf.f k bt314.1 bt314.2 x1).bind fun bt318=>((laws_toParty.f k x313000 x313001).bind fun bt320=>((impl_CostOf.f k bt320.1 bt320.2 x1).bind fun bt325=>(if bt325.1=bt318.1 then (laws_FnExactCostOf.j1 k (bt325.2 != bt318.2) x313000 x313001 bt320.1 bt320.2) else (laws_FnExactCostOf.j1 k true x313000 x313001 bt320.1 bt320.2)))))
def laws_FnExactCostOf.j1:Nat→Bool→List Int→Int→List Int→Int→Option (Bool)
 | 0,_,_,_,_,_=>none
 | k+1,x38,x313000,x313001,x325000,x325001=>if x38=true then (some false) else (laws_FnExactCostOf.j2 k x313000 x313001 x325000 x325001)
def laws_FnExactCostOf.j2:Nat→List Int→Int→List Int→Int→Option (Bool)
 | 0,_,_,_,_=>none
 | k+1,x313000,x313001,x325000,x325001=>(laws_toParty.f k x313000 x313001).bind fun bt327=>((laws_eqParty.f k x325000 x325001 bt327.1 bt327.2).bind fun t331=>(if t331=true then (some true) else (some false)))
end
def laws_FnExactCostOf.f (k:Nat) (l0_0:List Int) (a0_1:Int) (a1:Int):Option (Bool):=(laws_szParty.f l0_0 a0_1 1048576).bind fun t313=>(if t313 < 0 then (some true) else (laws_FnExactCostOf.j0 k a1 l0_0 a0_1))
set_option maxHeartbeats 8000000 in
set_option maxRecDepth 100000 in
theorem laws_FnExactCostOf.calls (k:Nat) (A0_0:Option Addr) (c0_0:Nat) (l0_0:List Int) (a0_1:Int) (a1:Int) (r:Bool) (w:World) (hr0_0:Kd.C (Kd.int .i64) w A0_0 l0_0.length l0_0) (hc0_0:l0_0.length≤c0_0) (h:laws_FnExactCostOf.f k l0_0 a0_1 a1=some r) :
  Calls Try.prog 7 #[.agg #[.slice A0_0 l0_0.length c0_0, .int .i64 a0_1], .int .i64 a1] w fun e w'=>e = .returned (.bool r)∧Below w.heap.size w w':=by
 have hu24:=Try.underlying24
 have hu28:=Try.underlying28
 have HR0_0:=am' hr0_0
 have HC0_0:=am' hc0_0
 clear hr0_0 hc0_0;have HB:=am' (Below.refl w.heap.size w)
 have H:((laws_szParty.f l0_0 a0_1 1048576).bind fun t313=>(if t313 < 0 then (some true) else (laws_FnExactCostOf.j0 k a1 l0_0 a0_1)))=some r:=h
 clear h;replace H:=Option.bind_eq_some_iff.mp H
 obtain ⟨t313,A30,H⟩:=H
 replace H:(if t313 < 0 then (some true) else (laws_FnExactCostOf.j0 k a1 l0_0 a0_1))=some r:=H
 have A3:=am' A30
 clear A30;have HC4:=am' H
 clear H;go_enter Try.func7,Try.ntmps7
 go_upto_if 15 with (first|((with_reducible refine gate_dst (N:=2) rfl ?_);refine box_event ?hg (N:=2) ?hd (cs:=#[.slice A0_0 l0_0.length c0_0, .int .i64 a0_1]) (t:=24) ?hr ?_;(case hd=>rfl);(case hg=>rfl);(case hr=>first|(go_simp;done)|(go_simp;rfl));intro gb312 hg w5 hbox hb;have n0_:=am' (below_step (by repeat (first|(with_reducible first|exact HB.out|apply ba'|apply bd'|apply be')|exact HB.out)) hb);have n1_:=am' (hbox);have n2_:=am' ((by rw[hg];exact (below_size (by repeat (first|(with_reducible first|exact HB.out|apply ba'|apply bd'|apply be')|exact HB.out))):w.heap.size≤gb312));have n3_:=am' ((by rw[hg];exact (below_size (by repeat (first|(with_reducible first|exact HB.out|apply ba'|apply bd'|apply be')|exact HB.out))):w.heap.size≤gb312));clear HB;have HB:=n0_;have BK312:=n1_;have GW312:=n2_;have GE312:=n3_;clear n0_ n1_ n2_ n3_;clear hb hbox hg;have hcz6_0:w5.cell? ⟨gb312,0,none⟩=some (.slice A0_0 l0_0.length c0_0):=(blk_cell BK312.out 0).trans rfl;have hcz6_1:w5.cell? ⟨gb312,1,none⟩=some (.int .i64 a0_1):=(blk_cell BK312.out 1).trans rfl;have hfz6_0:=blk_frozen BK312.out 0;have hfz6_1:=blk_frozen BK312.out 1)|((with_reducible refine gate_callee (f:=16) rfl ?_);refine goesL_ (some 13) rfl rfl Try.func16 (by kernel_rfl) rfl #[.agg #[.slice A0_0 l0_0.length c0_0, .int .i64 a0_1], .int .i64 1048576] rfl (by (try simp only[List.map_toArray,List.map_cons,List.map_nil]);first|done|rfl|(simp only[List.length_drop,List.length_take];rfl)) ?_;(with_reducible refine (laws_szParty.calls _ _ l0_0 a0_1 1048576 t313 _ ?side1 ?side2 A3.out).mono ?_);(case side1=>repeat (first|exact (Kd.C_below HR0_0.out HB.out)|(with_reducible refine ca' ?_ _)|(with_reducible refine cn' ?_ _)|(with_reducible refine cd' ?_)));(case side2=>exact HC0_0.out);rintro e w7 ⟨rfl,hb⟩;refine ⟨_,rfl,?_⟩;have n0_:=am' (blk_below (g:=gb312) (o := .cells #[.slice A0_0 l0_0.length c0_0, .int .i64 a0_1] 24 (0,0)) (by (with_reducible repeat (first|refine kn' ?_ _|refine kd' ?_|refine ka' ?_ _));exact BK312.out) hb);have n1_:=am' (below_step (by repeat (first|(with_reducible first|exact HB.out|apply ba'|apply bd'|apply be'|refine bs' ?_ GE312.out)|exact HB.out)) hb);clear BK312;clear HB;have BK312:=n0_;have HB:=n1_;clear n0_ n1_;(try clear hb);(try clear hb2);(try clear hk);(try clear hi)))
 (try simp only[Act.put,sa',sb',sc'])
 go_cut [] (fun wc=>∃ (kq:Nat),Aside0 (laws_FnExactCostOf.j0 kq a1 l0_0 a0_1=some r)∧Aside0 (kq≤k)∧Aside0 (wc.heap[gb312]? = some (.cells #[(.slice A0_0 l0_0.length c0_0), .int .i64 a0_1] 24 (0,0)))∧Aside0 (Below w.heap.size w wc))
 case first =>
  have H:=HC4.out;clear HC4;by_cases c8:t313 < 0
  ·
   rw[if_pos c8] at H;have c8b0:decide (t313 < 0)=true:=decide_eq_true c8;clear c8;(first|rw[c8b0]|(simp only[i64_w,i32_w];rw[c8b0])|skip)
   obtain rfl:=Option.some.inj H;go_wp2;go_ret
   exact ⟨by first|rfl|(simp[errW_none,errW_some] <;> rfl)|(simp[*,errW_none,errW_some] <;> rfl),by repeat (first|(with_reducible first|exact HB.out|apply ba'|apply bd'|apply be'|refine bs' ?_ GE312.out)|exact HB.out)⟩
  ·
   rw[if_neg c8] at H;have c8b0:decide (t313 < 0)=false:=decide_eq_false c8;clear c8;(first|rw[c8b0]|(simp only[i64_w,i32_w];rw[c8b0])|skip)
   have H':=am' H;clear H;go_wp2;go_meet
   case rel=>exact ⟨_,H',⟨by first|omega|exact Nat.le_refl _⟩,⟨by (with_reducible repeat (first|refine kn' ?_ _|refine kd' ?_|refine ka' ?_ _));exact BK312.out⟩,⟨by repeat (first|(with_reducible first|exact HB.out|apply ba'|apply bd'|apply be'|refine bs' ?_ GE312.out)|exact HB.out)⟩⟩
 case rest =>
  clear HC4;try clear c1
  try clear p2
  try clear c7
  try clear c8
  try clear c8b0
  try clear hcz6_0
  try clear hcz6_1
  try clear hfz6_0
  try clear hfz6_1
  obtain ⟨kq,HA,HJ3,BK312,HB⟩:=hcut;cases kq with
  | zero=>exact absurd HA.out (by simp[laws_FnExactCostOf.j0])
  | succ kj3 =>
   have H:=HA.out;clear HA;simp only[laws_FnExactCostOf.j0] at H;replace H:=Option.bind_eq_some_iff.mp H;obtain ⟨⟨t314,t317⟩,A90,H⟩:=H;replace H:((spec_CostOf.f kj3 t314 t317 a1).bind fun bt318=>((laws_toParty.f kj3 l0_0 a0_1).bind fun bt320=>((impl_CostOf.f kj3 bt320.1 bt320.2 a1).bind fun bt325=>(if bt325.1=bt318.1 then (laws_FnExactCostOf.j1 kj3 (bt325.2 != bt318.2) l0_0 a0_1 bt320.1 bt320.2) else (laws_FnExactCostOf.j1 kj3 true l0_0 a0_1 bt320.1 bt320.2)))))=some r:=H;have A9:=am' A90;clear A90;replace H:=Option.bind_eq_some_iff.mp H;obtain ⟨⟨t318,t319⟩,A100,H⟩:=H;replace H:((laws_toParty.f kj3 l0_0 a0_1).bind fun bt320=>((impl_CostOf.f kj3 bt320.1 bt320.2 a1).bind fun bt325=>(if bt325.1=t318 then (laws_FnExactCostOf.j1 kj3 (bt325.2 != t319) l0_0 a0_1 bt320.1 bt320.2) else (laws_FnExactCostOf.j1 kj3 true l0_0 a0_1 bt320.1 bt320.2))))=some r:=H;have A10:=am' A100;clear A100;replace H:=Option.bind_eq_some_iff.mp H;obtain ⟨⟨t320,t323⟩,A110,H⟩:=H;replace H:((impl_CostOf.f kj3 t320 t323 a1).bind fun bt325=>(if bt325.1=t318 then (laws_FnExactCostOf.j1 kj3 (bt325.2 != t319) l0_0 a0_1 t320 t323) else (laws_FnExactCostOf.j1 kj3 true l0_0 a0_1 t320 t323)))=some r:=H;have A11:=am' A110;clear A110;replace H:=Option.bind_eq_some_iff.mp H;obtain ⟨⟨t325,t326⟩,A120,H⟩:=H;replace H:(if t325=t318 then (laws_FnExactCostOf.j1 kj3 (t326 != t319) l0_0 a0_1 t320 t323) else (laws_FnExactCostOf.j1 kj3 true l0_0 a0_1 t320 t323))=some r:=H;have A12:=am' A120;clear A120;have HC13:=am' H;clear H;have hcz14_0:wc.cell? ⟨gb312,0,none⟩=some (.slice A0_0 l0_0.length c0_0):=(blk_cell BK312.out 0).trans rfl;have hcz14_1:wc.cell? ⟨gb312,1,none⟩=some (.int .i64 a0_1):=(blk_cell BK312.out 1).trans rfl;have hfz14_0:=blk_frozen BK312.out 0;have hfz14_1:=blk_frozen BK312.out 1;go_upto_region 8 with (first|((with_reducible refine gate_callee (f:=18) rfl ?_);refine goesL_ (some 18) rfl rfl Try.func18 (by kernel_rfl) rfl #[.agg #[.slice A0_0 l0_0.length c0_0, .int .i64 a0_1]] rfl (by (try simp only[List.map_toArray,List.map_cons,List.map_nil]);first|done|rfl|(simp only[List.length_drop,List.length_take];rfl)) ?_;(with_reducible refine (laws_toParty.calls kj3 _ _ l0_0 a0_1 t314 t317 _ ?side1 ?side2 A9.out).mono ?_);(case side1=>repeat (first|exact (Kd.C_below HR0_0.out HB.out)|(with_reducible refine ca' ?_ _)|(with_reducible refine cn' ?_ _)|(with_reducible refine cd' ?_)));(case side2=>exact HC0_0.out);rintro e w15 ⟨v315,rfl,ho0,hb⟩;refine ⟨_,rfl,?_⟩;obtain ⟨D332_,hdl_,hdg_⟩:=dlt_of hb;have D332_lt:=am' hdl_;have D332_ge:=am' hdg_;clear hdl_ hdg_;have n0_:=am' (Kd.R_lower (Kd.R_dge ho0 D332_ge.out) (below_size (by repeat (first|(with_reducible first|exact HB.out|apply ba'|apply bd'|apply be'|refine bs' ?_ GE312.out)|exact HB.out))));have n1_:=am' (blk_below (g:=gb312) (o := .cells #[.slice A0_0 l0_0.length c0_0, .int .i64 a0_1] 24 (0,0)) (by (with_reducible repeat (first|refine kn' ?_ _|refine kd' ?_|refine ka' ?_ _));exact BK312.out) hb);have n2_:=am' (below_step (by repeat (first|(with_reducible first|exact HB.out|apply ba'|apply bd'|apply be'|refine bs' ?_ GE312.out)|exact HB.out)) hb);clear BK312;clear HB;have HO316:=n0_;have BK312:=n1_;have HB:=n2_;clear n0_ n1_ n2_;(try clear hb);(try clear hb2);(try clear hk);(try clear hi);(try clear ho0);obtain ⟨Ao16,co16,eo16⟩:=Kd.R_slice HO316.out;subst eo16)|((with_reducible refine gate_callee (f:=27) rfl ?_);refine goesL_ (some 20) rfl rfl Try.func27 (by kernel_rfl) rfl #[.agg #[.slice Ao16 t314.length co16, .int .i64 t317], .int .i64 a1] rfl (by (try simp only[List.map_toArray,List.map_cons,List.map_nil]);first|done|rfl|(simp only[List.length_drop,List.length_take];rfl)) ?_;(with_reducible refine (spec_CostOf.calls kj3 _ _ t314 t317 a1 t318 t319 _ ?side1 ?side2 A10.out).mono ?_);(case side1=>repeat (first|exact (Kd.R_reads' HO316.out).2.2|(with_reducible refine ca' ?_ _)|(with_reducible refine cn' ?_ _)|(with_reducible refine cd' ?_)));(case side2=>exact (Kd.R_reads' HO316.out).2.1);rintro e w17 ⟨rfl,hb⟩;refine ⟨_,rfl,?_⟩;have n0_:=am' (Kd.R_below (by (with_reducible repeat (first|apply ra'|apply rn'|apply rw'));exact HO316.out) hb);have n1_:=am' (blk_below (g:=gb312) (o := .cells #[.slice A0_0 l0_0.length c0_0, .int .i64 a0_1] 24 (0,0)) (by (with_reducible repeat (first|refine kn' ?_ _|refine kd' ?_|refine ka' ?_ _));exact BK312.out) hb);have n2_:=am' (below_step (by repeat (first|(with_reducible first|exact HB.out|apply ba'|apply bd'|apply be'|refine bs' ?_ GE312.out)|exact HB.out)) hb);clear HO316;clear BK312;clear HB;have HO316:=n0_;have BK312:=n1_;have HB:=n2_;clear n0_ n1_ n2_;(try clear hb);(try clear hb2);(try clear hk);(try clear hi);have hcz18_0:w17.cell? ⟨gb312,0,none⟩=some (.slice A0_0 l0_0.length c0_0):=(blk_cell BK312.out 0).trans rfl;have hcz18_1:w17.cell? ⟨gb312,1,none⟩=some (.int .i64 a0_1):=(blk_cell BK312.out 1).trans rfl;have hfz18_0:=blk_frozen BK312.out 0;have hfz18_1:=blk_frozen BK312.out 1)|((with_reducible refine gate_callee (f:=18) rfl ?_);refine goesL_ (some 24) rfl rfl Try.func18 (by kernel_rfl) rfl #[.agg #[.slice A0_0 l0_0.length c0_0, .int .i64 a0_1]] rfl (by (try simp only[List.map_toArray,List.map_cons,List.map_nil]);first|done|rfl|(simp only[List.length_drop,List.length_take];rfl)) ?_;(with_reducible refine (laws_toParty.calls kj3 _ _ l0_0 a0_1 t320 t323 _ ?side1 ?side2 A11.out).mono ?_);(case side1=>repeat (first|exact (Kd.C_below HR0_0.out HB.out)|(with_reducible refine ca' ?_ _)|(with_reducible refine cn' ?_ _)|(with_reducible refine cd' ?_)));(case side2=>exact HC0_0.out);rintro e w19 ⟨v321,rfl,ho0,hb⟩;refine ⟨_,rfl,?_⟩;obtain ⟨D333_,hdl_,hdg_⟩:=dlt_of hb;have D333_lt:=am' hdl_;have D333_ge:=am' hdg_;clear hdl_ hdg_;have n0_:=am' (Kd.R_elder' (Kd.R_dlt (by (with_reducible repeat (first|apply ra'|apply rn'|apply rw'));exact HO316.out) D333_lt.out) (Kd.R_base ho0) hb);have n1_:=am' (Kd.R_lower (Kd.R_new' (Kd.R_dge ho0 D333_ge.out) (Kd.R_lt (by (with_reducible repeat (first|apply ra'|apply rn'|apply rw'));exact HO316.out))) (below_size (by repeat (first|(with_reducible first|exact HB.out|apply ba'|apply bd'|apply be'|refine bs' ?_ GE312.out)|exact HB.out))));have n2_:=am' (blk_below (g:=gb312) (o := .cells #[.slice A0_0 l0_0.length c0_0, .int .i64 a0_1] 24 (0,0)) (by (with_reducible repeat (first|refine kn' ?_ _|refine kd' ?_|refine ka' ?_ _));exact BK312.out) hb);have n3_:=am' (below_step (by repeat (first|(with_reducible first|exact HB.out|apply ba'|apply bd'|apply be'|refine bs' ?_ GE312.out)|exact HB.out)) hb);clear HO316;clear BK312;clear HB;have HO316:=n0_;have HO322:=n1_;have BK312:=n2_;have HB:=n3_;clear n0_ n1_ n2_ n3_;(try clear hb);(try clear hb2);(try clear hk);(try clear hi);(try clear ho0))|((with_reducible refine gate_dst (N:=8) rfl ?_);refine box_event ?hg (N:=8) ?hd (cs:=#[.slice none 0 0, .int .i64 0]) (t:=28) ?hr ?_;(case hd=>rfl);(case hg=>rfl);(case hr=>first|(go_simp;done)|(go_simp;rfl));intro gb324 hg w20 hbox hb;have n0_:=am' (Kd.R_below (by (with_reducible repeat (first|apply ra'|apply rn'|apply rw'));exact HO316.out) hb);have n1_:=am' (Kd.R_below (by (with_reducible repeat (first|apply ra'|apply rn'|apply rw'));exact HO322.out) hb);have n2_:=am' (blk_below (g:=gb312) (o := .cells #[.slice A0_0 l0_0.length c0_0, .int .i64 a0_1] 24 (0,0)) (by (with_reducible repeat (first|refine kn' ?_ _|refine kd' ?_|refine ka' ?_ _));exact BK312.out) hb);have n3_:=am' (below_step (by repeat (first|(with_reducible first|exact HB.out|apply ba'|apply bd'|apply be'|refine bs' ?_ GE312.out)|exact HB.out)) hb);have n4_:=am' (hbox);have n5_:=am' ((by rw[hg];exact (below_size (by repeat (first|(with_reducible first|exact HB.out|apply ba'|apply bd'|apply be'|refine bs' ?_ GE312.out)|exact HB.out))):w.heap.size≤gb324));have n6_:=am' ((by rw[hg];exact (below_size (by repeat (first|(with_reducible first|exact HB.out|apply ba'|apply bd'|apply be'|refine bs' ?_ GE312.out)|exact HB.out))):w.heap.size≤gb324));have n7_:=am' ((by rw[hg];exact Nat.ne_of_lt (blk_lt (g:=gb312) (o := .cells #[.slice A0_0 l0_0.length c0_0, .int .i64 a0_1] 24 (0,0)) (by (with_reducible repeat (first|refine kn' ?_ _|refine kd' ?_|refine ka' ?_ _));exact BK312.out)):gb312≠gb324));have n8_:=am' ((by rw[hg];exact Nat.ne_of_gt (blk_lt (g:=gb312) (o := .cells #[.slice A0_0 l0_0.length c0_0, .int .i64 a0_1] 24 (0,0)) (by (with_reducible repeat (first|refine kn' ?_ _|refine kd' ?_|refine ka' ?_ _));exact BK312.out)):gb324≠gb312));clear HO316;clear HO322;clear BK312;clear HB;have HO316:=n0_;have HO322:=n1_;have BK312:=n2_;have HB:=n3_;have BK324:=n4_;have GW324:=n5_;have GE324:=n6_;have NB312_324:=n7_;have NB324_312:=n8_;clear n0_ n1_ n2_ n3_ n4_ n5_ n6_ n7_ n8_;clear hb hbox hg;obtain ⟨Ao21,co21,eo21⟩:=Kd.R_slice HO322.out;subst eo21;have hnb22:=NB324_312.out;have hnc22:=NB312_324.out;have hcz23_0:w20.cell? ⟨gb324,0,none⟩=some (.slice none 0 0):=(blk_cell BK324.out 0).trans rfl;have hcz23_1:w20.cell? ⟨gb324,1,none⟩=some (.int .i64 0):=(blk_cell BK324.out 1).trans rfl;have hfz23_0:=blk_frozen BK324.out 0;have hfz23_1:=blk_frozen BK324.out 1)|((with_reducible refine gate_callee (f:=28) rfl ?_);refine goesL_ (some 28) rfl rfl Try.func28 (by kernel_rfl) rfl #[.agg #[.slice Ao21 t320.length co21, .int .i64 t323], .int .i64 a1] rfl (by (try simp only[List.map_toArray,List.map_cons,List.map_nil]);first|done|rfl|(simp only[List.length_drop,List.length_take];rfl)) ?_;(with_reducible refine (impl_CostOf.calls kj3 _ _ t320 t323 a1 t325 t326 _ ?side1 ?side2 A12.out).mono ?_);(case side1=>refine (Kd.R_reads' (e:=3) (base:=w.heap.size) (ok:=fun k_=>((True∧¬ D333_ k_)∧some k_≠(.slice Ao16 t314.length co16:Value).ownBlock)) (n:=t320.length) (c:=co21) ?_).2.2;exact (by (with_reducible repeat (first|apply ra'|apply rn'|apply rw'));exact (Kd.R_mono (Kd.R_far (p:=⟨gb324,1,none⟩) (Kd.R_far (p:=⟨gb324,0,none⟩) (Kd.R_types HO322.out BK324.out (by decide)) (fun _ hk=>hk.2) (.slice Ao21 t320.length co21)) (fun _ hk=>hk.2) (.int .i64 t323)) (fun _ h_=>h_.1))));(case side2=>exact (Kd.R_reads' HO322.out).2.1);rintro e w24 ⟨rfl,hb⟩;refine ⟨_,rfl,?_⟩;have n0_:=am' (Kd.R_below (by (with_reducible repeat (first|apply ra'|apply rn'|apply rw'));exact (Kd.R_mono (Kd.R_far (p:=⟨gb324,1,none⟩) (Kd.R_far (p:=⟨gb324,0,none⟩) (Kd.R_types HO316.out BK324.out (by decide)) (fun _ hk=>hk.2) (.slice Ao21 t320.length co21)) (fun _ hk=>hk.2) (.int .i64 t323)) (fun _ h_=>h_.1))) hb);have n1_:=am' (Kd.R_below (by (with_reducible repeat (first|apply ra'|apply rn'|apply rw'));exact (Kd.R_mono (Kd.R_far (p:=⟨gb324,1,none⟩) (Kd.R_far (p:=⟨gb324,0,none⟩) (Kd.R_types HO322.out BK324.out (by decide)) (fun _ hk=>hk.2) (.slice Ao21 t320.length co21)) (fun _ hk=>hk.2) (.int .i64 t323)) (fun _ h_=>h_.1))) hb);have n2_:=am' (blk_below (g:=gb312) (o := .cells #[.slice A0_0 l0_0.length c0_0, .int .i64 a0_1] 24 (0,0)) (by (with_reducible repeat (first|refine kn' ?_ _|refine kd' ?_|refine ka' ?_ _));refine blk_far ?_ NB312_324.out _;(with_reducible repeat (first|refine kn' ?_ _|refine kd' ?_|refine ka' ?_ _));refine blk_far ?_ NB312_324.out _;(with_reducible repeat (first|refine kn' ?_ _|refine kd' ?_|refine ka' ?_ _));exact BK312.out) hb);have n3_:=am' (blk_below (g:=gb324) (o := .cells #[.slice Ao21 t320.length co21, .int .i64 t323] 28 (0,0)) (by (with_reducible repeat (first|refine kn' ?_ _|refine kd' ?_|refine ka' ?_ _));refine blk_put (cs:=#[.slice Ao21 t320.length co21, .int .i64 0]) ?_ 1 _ rfl;(with_reducible repeat (first|refine kn' ?_ _|refine kd' ?_|refine ka' ?_ _));refine blk_put (cs:=#[.slice none 0 0, .int .i64 0]) ?_ 0 _ rfl;(with_reducible repeat (first|refine kn' ?_ _|refine kd' ?_|refine ka' ?_ _));exact BK324.out) hb);have n4_:=am' (below_step (by repeat (first|(with_reducible first|exact HB.out|apply ba'|apply bd'|apply be'|refine bs' ?_ GE312.out|refine bs' ?_ GE324.out)|exact HB.out)) hb);clear HO316;clear HO322;clear BK312;clear BK324;clear HB;have HO316:=n0_;have HO322:=n1_;have BK312:=n2_;have BK324:=n3_;have HB:=n4_;clear n0_ n1_ n2_ n3_ n4_;(try clear hb);(try clear hb2);(try clear hk);(try clear hi)))
   (try simp only[Act.put,sa',sb',sc'])
   go_cut [38] (fun v38 wc=>∃ (kq:Nat) (x38_12:Bool),v38 = .bool x38_12∧Aside0 (laws_FnExactCostOf.j1 kq x38_12 l0_0 a0_1 t320 t323=some r)∧Aside0 (kq≤kj3)∧Aside0 (Kd.R (Kd.int .i64) 3 wc w.heap.size (fun k_=>¬ D333_ k_) (.slice Ao21 t320.length co21) t320)∧Aside0 (wc.heap[gb312]? = some (.cells #[(.slice A0_0 l0_0.length c0_0), .int .i64 a0_1] 24 (0,0)))∧Aside0 (wc.heap[gb324]? = some (.cells #[(.slice Ao21 t320.length co21), .int .i64 t323] 28 (0,0)))∧Aside0 (Below w.heap.size w wc))
   case first =>
    have H:=HC13.out;clear HC13;by_cases c25:t325=t318
    ·
     rw[if_pos c25] at H;have c25b0:(t325 == t318)=true:=beq_iff_eq.mpr c25;have c25b1:(t325 != t318)=false:=bne_eq_false_iff_eq.mpr c25;clear c25;(first|rw[c25b0]|(simp only[i64_w,i32_w];rw[c25b0])|skip)
     have H':=am' H;clear H;go_wp2;go_meet
     case rel=>exact ⟨_,((t326 != t319)),(by first|rfl|(simp;done)|(simp[*];done)),H',⟨by have:=HJ3.out;first|omega|exact Nat.le_refl _⟩,⟨by (with_reducible repeat (first|apply ra'|apply rn'|apply rw'));exact Kd.R_mono HO322.out (fun _ hk=>hk.1.2)⟩,⟨by (with_reducible repeat (first|refine kn' ?_ _|refine kd' ?_|refine ka' ?_ _));exact BK312.out⟩,⟨by (with_reducible repeat (first|refine kn' ?_ _|refine kd' ?_|refine ka' ?_ _));exact BK324.out⟩,⟨by repeat (first|(with_reducible first|exact HB.out|apply ba'|apply bd'|apply be'|refine bs' ?_ GE312.out|refine bs' ?_ GE324.out)|exact HB.out)⟩⟩
    ·
     rw[if_neg c25] at H;have c25b0:(t325 == t318)=false:=beq_eq_false_iff_ne.mpr c25;have c25b1:(t325 != t318)=true:=bne_iff_ne.mpr c25
     (first|rw[c25b0]|(simp only[i64_w,i32_w];rw[c25b0])|skip)
     have H':=am' H;clear H;go_wp2;go_meet
     case rel=>exact ⟨_,(true),(by first|rfl|(simp;done)|(simp[*];done)),H',⟨by have:=HJ3.out;first|omega|exact Nat.le_refl _⟩,⟨by (with_reducible repeat (first|apply ra'|apply rn'|apply rw'));exact Kd.R_mono HO322.out (fun _ hk=>hk.1.2)⟩,⟨by (with_reducible repeat (first|refine kn' ?_ _|refine kd' ?_|refine ka' ?_ _));exact BK312.out⟩,⟨by (with_reducible repeat (first|refine kn' ?_ _|refine kd' ?_|refine ka' ?_ _));exact BK324.out⟩,⟨by repeat (first|(with_reducible first|exact HB.out|apply ba'|apply bd'|apply be'|refine bs' ?_ GE312.out|refine bs' ?_ GE324.out)|exact HB.out)⟩⟩
   case rest =>
    clear HC13;try clear c1
    try clear c2
    try clear p2
    try clear c7
    try clear c8
    try clear c8b0
    try clear c16
    try clear c18
    try clear c22
    try clear c25
    try clear c25b0
    try clear c25b1
    try clear hcz14_0
    try clear hcz14_1
    try clear hcz18_0
    try clear hcz18_1
    try clear hcz23_0
    try clear hcz23_1
    try clear hcz6_0
    try clear hcz6_1
    try clear hfz14_0
    try clear hfz14_1
    try clear hfz18_0
    try clear hfz18_1
    try clear hfz23_0
    try clear hfz23_1
    try clear hfz6_0
    try clear hfz6_1
    try clear p2
    obtain ⟨kq,x38_12,rfl,HA,HJ12,HO_325000,BK312,BK324,HB⟩:=hcut;cases kq with
    | zero=>exact absurd HA.out (by simp[laws_FnExactCostOf.j1])
    | succ kj12 =>
     have H:=HA.out;clear HA;simp only[laws_FnExactCostOf.j1] at H;have HC26:=am' H;clear H;go_upto_if 38 with (fail)
     go_cut [] (fun wc=>∃ (kq:Nat),Aside0 (laws_FnExactCostOf.j2 kq l0_0 a0_1 t320 t323=some r)∧Aside0 (kq≤kj12)∧Aside0 (Kd.R (Kd.int .i64) 3 wc w.heap.size (fun k_=>¬ D333_ k_) (.slice Ao21 t320.length co21) t320)∧Aside0 (wc.heap[gb312]? = some (.cells #[(.slice A0_0 l0_0.length c0_0), .int .i64 a0_1] 24 (0,0)))∧Aside0 (wc.heap[gb324]? = some (.cells #[(.slice Ao21 t320.length co21), .int .i64 t323] 28 (0,0)))∧Aside0 (Below w.heap.size w wc))
     case first =>
      have H:=HC26.out;clear HC26;by_cases c27:x38_12=true
      ·
       subst c27;have H1:(some false)=some r:=by rw[if_pos rfl] at H;exact H
       clear H;have H:=H1;clear H1;obtain rfl:=Option.some.inj H;go_wp2;go_ret
       exact ⟨by first|rfl|(simp[errW_none,errW_some] <;> rfl)|(simp[*,errW_none,errW_some] <;> rfl),by repeat (first|(with_reducible first|exact HB.out|apply ba'|apply bd'|apply be'|refine bs' ?_ GE312.out|refine bs' ?_ GE324.out)|exact HB.out)⟩
      ·
       replace c27:=Bool.eq_false_iff.mpr c27;subst c27;have H1:(laws_FnExactCostOf.j2 kj12 l0_0 a0_1 t320 t323)=some r:=by rw[if_neg (show ¬ (false=true) by decide)] at H;exact H
       clear H;have H:=H1;clear H1;have H':=am' H;clear H;go_wp2;go_meet
       case rel=>exact ⟨_,H',⟨by have:=HJ3.out;have:=HJ12.out;first|omega|exact Nat.le_refl _⟩,⟨by (with_reducible repeat (first|apply ra'|apply rn'|apply rw'));exact HO_325000.out⟩,⟨by (with_reducible repeat (first|refine kn' ?_ _|refine kd' ?_|refine ka' ?_ _));exact BK312.out⟩,⟨by (with_reducible repeat (first|refine kn' ?_ _|refine kd' ?_|refine ka' ?_ _));exact BK324.out⟩,⟨by repeat (first|(with_reducible first|exact HB.out|apply ba'|apply bd'|apply be'|refine bs' ?_ GE312.out|refine bs' ?_ GE324.out)|exact HB.out)⟩⟩
     case rest =>
      clear HC26;try clear c1
      try clear c2
      try clear p2
      try clear c7
      try clear c8
      try clear c8b0
      try clear c16
      try clear c18
      try clear c22
      try clear c25
      try clear c25b0
      try clear c25b1
      try clear c27
      try clear hcz14_0
      try clear hcz14_1
      try clear hcz18_0
      try clear hcz18_1
      try clear hcz23_0
      try clear hcz23_1
      try clear hcz6_0
      try clear hcz6_1
      try clear hfz14_0
      try clear hfz14_1
      try clear hfz18_0
      try clear hfz18_1
      try clear hfz23_0
      try clear hfz23_1
      try clear hfz6_0
      try clear hfz6_1
      try clear p2
      obtain ⟨kq,HA,HJ25,HO_325000,BK312,BK324,HB⟩:=hcut;cases kq with
      | zero=>exact absurd HA.out (by simp[laws_FnExactCostOf.j2])
      | succ kj25 =>
       have H:=HA.out;clear HA;simp only[laws_FnExactCostOf.j2] at H;replace H:=Option.bind_eq_some_iff.mp H;obtain ⟨⟨t327,t330⟩,A280,H⟩:=H;replace H:((laws_eqParty.f kj25 t320 t323 t327 t330).bind fun t331=>(if t331=true then (some true) else (some false)))=some r:=H;have A28:=am' A280;clear A280;replace H:=Option.bind_eq_some_iff.mp H;obtain ⟨t331,A290,H⟩:=H;replace H:(if t331=true then (some true) else (some false))=some r:=H;have A29:=am' A290;clear A290;by_cases c30:t331=true
       ·
        subst c30;have H1:(some true)=some r:=by rw[if_pos rfl] at H;exact H
        clear H;have H:=H1;clear H1;obtain rfl:=Option.some.inj H
        try go_wp2
        have n0_:=am' (rw' HO_325000.out);have n1_:=am' (kd' BK312.out);have n2_:=am' (kd' BK324.out);have n3_:=am' (be' HB.out);clear HO_325000;clear BK312;clear BK324;clear HB;have HO_325000:=n0_;have BK312:=n1_;have BK324:=n2_;have HB:=n3_;clear n0_ n1_ n2_ n3_;refine start_ (n:=5) (S:=fun w'=>w'.cell? ⟨gb324,0,none⟩=some (.slice Ao21 t320.length co21)∧w'.cell? ⟨gb324,1,none⟩=some (.int .i64 t323)∧w'.cell? ⟨gb312,0,none⟩=some (.slice A0_0 l0_0.length c0_0)∧w'.cell? ⟨gb312,1,none⟩=some (.int .i64 a0_1)) (ds:=[]) #[false,false,false,false,false] (by kernel_rfl) rfl rfl ⟨(blk_cell BK324.out 0).trans rfl,(blk_cell BK324.out 1).trans rfl,(blk_cell BK312.out 0).trans rfl,(blk_cell BK312.out 1).trans rfl⟩ (fun hHeld=>?_);generalize wc.drew=w31 at HO_325000 BK312 BK324 HB hHeld ⊢
        refine take_ (i:=0) (N:=some 39) (v:=?_) (a':=?_) #[true,false,false,false,false] rfl rfl (by kernel_rfl) (fun _ _ _ h=>h) (Or.inl ⟨by rfl,?_⟩) hHeld ?_ ?_
        rotate_left
        ·
         rintro w' ⟨s0,s1,s2,s3⟩
         go_simp;with_reducible rfl
        rotate_left
        ·
         simp only[Act.put,sa',sb',sc',i64_w,i32_w];rfl
        refine take_ (i:=1) (N:=some 40) (v:=?_) (a':=?_) #[true,true,false,false,false] rfl rfl (by kernel_rfl) (fun _ _ _ h=>h) (Or.inl ⟨by rfl,?_⟩) hHeld ?_ ?_
        rotate_left
        ·
         rintro w' ⟨s0,s1,s2,s3⟩
         go_simp;with_reducible rfl
        rotate_left
        ·
         simp only[Act.put,sa',sb',sc',i64_w,i32_w];rfl
        refine one_ (i:=2) (N:=some 41) #[true,true,true,false,false] rfl rfl (by kernel_rfl) (by decide) (fun K hK=>?_);refine goes_ Try.func18 (by kernel_rfl) rfl #[.agg #[.slice A0_0 l0_0.length c0_0, .int .i64 a0_1]] (by rfl) rfl rfl (by (try simp only[List.map_toArray,List.map_cons,List.map_nil]);first|done|rfl|(simp only[List.length_drop,List.length_take];rfl)) ?_
        with_reducible refine (laws_toParty.calls kj25 _ _ l0_0 a0_1 t327 t330 _ ?side1 ?side2 A28.out).mono ?_
        (case side1=>repeat (first|exact (Kd.C_below HR0_0.out HB.out)|(with_reducible refine ca' ?_ _)|(with_reducible refine cn' ?_ _)|(with_reducible refine cd' ?_)))
        (case side2=>exact HC0_0.out)
        rintro e w32 ⟨v328,rfl,ho0,hb⟩
        refine ⟨_,rfl,?_⟩;have n0_:=am' (Kd.R_elder' (by (with_reducible repeat (first|apply ra'|apply rn'|apply rw'));exact HO_325000.out) (Kd.R_base ho0) hb);have n1_:=am' (Kd.R_lower (Kd.R_new' ho0 (Kd.R_lt (by (with_reducible repeat (first|apply ra'|apply rn'|apply rw'));exact HO_325000.out))) (below_size (by repeat (first|(with_reducible first|exact HB.out|apply ba'|apply bd'|apply be'|refine bs' ?_ GE312.out|refine bs' ?_ GE324.out)|exact HB.out))));have n2_:=am' (blk_below (g:=gb312) (o := .cells #[.slice A0_0 l0_0.length c0_0, .int .i64 a0_1] 24 (0,0)) (by (with_reducible repeat (first|refine kn' ?_ _|refine kd' ?_|refine ka' ?_ _));exact BK312.out) hb);have n3_:=am' (blk_below (g:=gb324) (o := .cells #[.slice Ao21 t320.length co21, .int .i64 t323] 28 (0,0)) (by (with_reducible repeat (first|refine kn' ?_ _|refine kd' ?_|refine ka' ?_ _));exact BK324.out) hb);have n4_:=am' (below_step (by repeat (first|(with_reducible first|exact HB.out|apply ba'|apply bd'|apply be'|refine bs' ?_ GE312.out|refine bs' ?_ GE324.out)|exact HB.out)) hb);clear HO_325000;clear BK312;clear BK324;clear HB;have HO_325000:=n0_;have HO329:=n1_;have BK312:=n2_;have BK324:=n3_;have HB:=n4_;clear n0_ n1_ n2_ n3_ n4_;(try clear hb)
        (try clear hb2)
        (try clear hk)
        (try clear hi)
        (try clear ho0)
        obtain ⟨Ao33,co33,eo33⟩:=Kd.R_slice HO329.out
        (first|subst eo33|(injection eo33 with f1_ f2_ f3_;have f4_:=f1_.symm;have f5_:=f3_.symm;clear f1_ f2_ f3_;subst f4_;subst f5_))
        refine hK.out _ _ ⟨(blk_cell BK324.out 0).trans rfl,(blk_cell BK324.out 1).trans rfl,(blk_cell BK312.out 0).trans rfl,(blk_cell BK312.out 1).trans rfl⟩ (fun hHeld=>?_);clear hK K;refine norm_ (a':=?_) ?_ ?_
        rotate_left
        ·
         show Act.put _ (some 41) _=_
         simp only[Act.put,sa',sb',sc',i64_w,i32_w];rfl
        refine one_ (i:=3) (N:=some 42) #[true,true,true,true,false] rfl rfl (by kernel_rfl) (by decide) (fun K hK=>?_);refine goes_ Try.func20 (by kernel_rfl) rfl #[.agg #[.slice Ao21 t320.length co21, .int .i64 t323], .agg #[.slice Ao33 t327.length co33, .int .i64 t330]] (by rfl) rfl rfl (by (try simp only[List.map_toArray,List.map_cons,List.map_nil]);first|done|rfl|(simp only[List.length_drop,List.length_take];rfl)) ?_
        with_reducible refine (laws_eqParty.calls kj25 _ _ t320 t323 _ _ t327 t330 true _ ?side1 ?side2 ?side3 ?side4 A29.out).mono ?_
        (case side1=>repeat (first|exact (Kd.R_reads' HO_325000.out).2.2|(with_reducible refine ca' ?_ _)|(with_reducible refine cn' ?_ _)|(with_reducible refine cd' ?_)))
        (case side2=>exact (Kd.R_reads' HO_325000.out).2.1)
        (case side3=>repeat (first|exact (Kd.R_reads' HO329.out).2.2|(with_reducible refine ca' ?_ _)|(with_reducible refine cn' ?_ _)|(with_reducible refine cd' ?_)))
        (case side4=>exact (Kd.R_reads' HO329.out).2.1)
        rintro e w34 ⟨rfl,hb⟩
        refine ⟨_,rfl,?_⟩;have n0_:=am' (Kd.R_below (by (with_reducible repeat (first|apply ra'|apply rn'|apply rw'));exact HO_325000.out) hb);have n1_:=am' (Kd.R_below (by (with_reducible repeat (first|apply ra'|apply rn'|apply rw'));exact HO329.out) hb);have n2_:=am' (blk_below (g:=gb312) (o := .cells #[.slice A0_0 l0_0.length c0_0, .int .i64 a0_1] 24 (0,0)) (by (with_reducible repeat (first|refine kn' ?_ _|refine kd' ?_|refine ka' ?_ _));exact BK312.out) hb);have n3_:=am' (blk_below (g:=gb324) (o := .cells #[.slice Ao21 t320.length co21, .int .i64 t323] 28 (0,0)) (by (with_reducible repeat (first|refine kn' ?_ _|refine kd' ?_|refine ka' ?_ _));exact BK324.out) hb);have n4_:=am' (below_step (by repeat (first|(with_reducible first|exact HB.out|apply ba'|apply bd'|apply be'|refine bs' ?_ GE312.out|refine bs' ?_ GE324.out)|exact HB.out)) hb);clear HO_325000;clear HO329;clear BK312;clear BK324;clear HB;have HO_325000:=n0_;have HO329:=n1_;have BK312:=n2_;have BK324:=n3_;have HB:=n4_;clear n0_ n1_ n2_ n3_ n4_;(try clear hb)
        (try clear hb2)
        (try clear hk)
        (try clear hi)
        refine hK.out _ _ ⟨(blk_cell BK324.out 0).trans rfl,(blk_cell BK324.out 1).trans rfl,(blk_cell BK312.out 0).trans rfl,(blk_cell BK312.out 1).trans rfl⟩ (fun hHeld=>?_);clear hK K;refine norm_ (a':=?_) ?_ ?_
        rotate_left
        ·
         show Act.put _ (some 42) _=_
         simp only[Act.put,sa',sb',sc',i64_w,i32_w];rfl
        refine pure_ (i:=4) (N:=some 43) (v:=?_) (a':=?_) #[true,true,true,true,true] rfl rfl (by kernel_rfl) (fun _ _ _ h=>h) (Or.inl ⟨by rfl,?_⟩) ?_ ?_
        rotate_left
        ·
         intro w';go_simp;with_reducible rfl
        rotate_left
        ·
         simp only[Act.put,sa',sb',sc',i64_w,i32_w];rfl
        refine done_ (by kernel_rfl) ?_
        try go_wp2
        go_ret
        exact ⟨by first|rfl|(simp[errW_none,errW_some] <;> rfl)|(simp[*,errW_none,errW_some] <;> rfl),by repeat (first|(with_reducible first|exact HB.out|apply ba'|apply bd'|apply be'|refine bs' ?_ GE312.out|refine bs' ?_ GE324.out)|exact HB.out)⟩
       ·
        replace c30:=Bool.eq_false_iff.mpr c30;subst c30;have H1:(some false)=some r:=by rw[if_neg (show ¬ (false=true) by decide)] at H;exact H
        clear H;have H:=H1;clear H1;obtain rfl:=Option.some.inj H
        try go_wp2
        have n0_:=am' (rw' HO_325000.out);have n1_:=am' (kd' BK312.out);have n2_:=am' (kd' BK324.out);have n3_:=am' (be' HB.out);clear HO_325000;clear BK312;clear BK324;clear HB;have HO_325000:=n0_;have BK312:=n1_;have BK324:=n2_;have HB:=n3_;clear n0_ n1_ n2_ n3_;refine start_ (n:=5) (S:=fun w'=>w'.cell? ⟨gb324,0,none⟩=some (.slice Ao21 t320.length co21)∧w'.cell? ⟨gb324,1,none⟩=some (.int .i64 t323)∧w'.cell? ⟨gb312,0,none⟩=some (.slice A0_0 l0_0.length c0_0)∧w'.cell? ⟨gb312,1,none⟩=some (.int .i64 a0_1)) (ds:=[]) #[false,false,false,false,false] (by kernel_rfl) rfl rfl ⟨(blk_cell BK324.out 0).trans rfl,(blk_cell BK324.out 1).trans rfl,(blk_cell BK312.out 0).trans rfl,(blk_cell BK312.out 1).trans rfl⟩ (fun hHeld=>?_);generalize wc.drew=w35 at HO_325000 BK312 BK324 HB hHeld ⊢
        refine take_ (i:=0) (N:=some 39) (v:=?_) (a':=?_) #[true,false,false,false,false] rfl rfl (by kernel_rfl) (fun _ _ _ h=>h) (Or.inl ⟨by rfl,?_⟩) hHeld ?_ ?_
        rotate_left
        ·
         rintro w' ⟨s0,s1,s2,s3⟩
         go_simp;with_reducible rfl
        rotate_left
        ·
         simp only[Act.put,sa',sb',sc',i64_w,i32_w];rfl
        refine take_ (i:=1) (N:=some 40) (v:=?_) (a':=?_) #[true,true,false,false,false] rfl rfl (by kernel_rfl) (fun _ _ _ h=>h) (Or.inl ⟨by rfl,?_⟩) hHeld ?_ ?_
        rotate_left
        ·
         rintro w' ⟨s0,s1,s2,s3⟩
         go_simp;with_reducible rfl
        rotate_left
        ·
         simp only[Act.put,sa',sb',sc',i64_w,i32_w];rfl
        refine one_ (i:=2) (N:=some 41) #[true,true,true,false,false] rfl rfl (by kernel_rfl) (by decide) (fun K hK=>?_);refine goes_ Try.func18 (by kernel_rfl) rfl #[.agg #[.slice A0_0 l0_0.length c0_0, .int .i64 a0_1]] (by rfl) rfl rfl (by (try simp only[List.map_toArray,List.map_cons,List.map_nil]);first|done|rfl|(simp only[List.length_drop,List.length_take];rfl)) ?_
        with_reducible refine (laws_toParty.calls kj25 _ _ l0_0 a0_1 t327 t330 _ ?side1 ?side2 A28.out).mono ?_
        (case side1=>repeat (first|exact (Kd.C_below HR0_0.out HB.out)|(with_reducible refine ca' ?_ _)|(with_reducible refine cn' ?_ _)|(with_reducible refine cd' ?_)))
        (case side2=>exact HC0_0.out)
        rintro e w36 ⟨v328,rfl,ho0,hb⟩
        refine ⟨_,rfl,?_⟩;have n0_:=am' (Kd.R_elder' (by (with_reducible repeat (first|apply ra'|apply rn'|apply rw'));exact HO_325000.out) (Kd.R_base ho0) hb);have n1_:=am' (Kd.R_lower (Kd.R_new' ho0 (Kd.R_lt (by (with_reducible repeat (first|apply ra'|apply rn'|apply rw'));exact HO_325000.out))) (below_size (by repeat (first|(with_reducible first|exact HB.out|apply ba'|apply bd'|apply be'|refine bs' ?_ GE312.out|refine bs' ?_ GE324.out)|exact HB.out))));have n2_:=am' (blk_below (g:=gb312) (o := .cells #[.slice A0_0 l0_0.length c0_0, .int .i64 a0_1] 24 (0,0)) (by (with_reducible repeat (first|refine kn' ?_ _|refine kd' ?_|refine ka' ?_ _));exact BK312.out) hb);have n3_:=am' (blk_below (g:=gb324) (o := .cells #[.slice Ao21 t320.length co21, .int .i64 t323] 28 (0,0)) (by (with_reducible repeat (first|refine kn' ?_ _|refine kd' ?_|refine ka' ?_ _));exact BK324.out) hb);have n4_:=am' (below_step (by repeat (first|(with_reducible first|exact HB.out|apply ba'|apply bd'|apply be'|refine bs' ?_ GE312.out|refine bs' ?_ GE324.out)|exact HB.out)) hb);clear HO_325000;clear BK312;clear BK324;clear HB;have HO_325000:=n0_;have HO329:=n1_;have BK312:=n2_;have BK324:=n3_;have HB:=n4_;clear n0_ n1_ n2_ n3_ n4_;(try clear hb)
        (try clear hb2)
        (try clear hk)
        (try clear hi)
        (try clear ho0)
        obtain ⟨Ao37,co37,eo37⟩:=Kd.R_slice HO329.out
        (first|subst eo37|(injection eo37 with f1_ f2_ f3_;have f4_:=f1_.symm;have f5_:=f3_.symm;clear f1_ f2_ f3_;subst f4_;subst f5_))
        refine hK.out _ _ ⟨(blk_cell BK324.out 0).trans rfl,(blk_cell BK324.out 1).trans rfl,(blk_cell BK312.out 0).trans rfl,(blk_cell BK312.out 1).trans rfl⟩ (fun hHeld=>?_);clear hK K;refine norm_ (a':=?_) ?_ ?_
        rotate_left
        ·
         show Act.put _ (some 41) _=_
         simp only[Act.put,sa',sb',sc',i64_w,i32_w];rfl
        refine one_ (i:=3) (N:=some 42) #[true,true,true,true,false] rfl rfl (by kernel_rfl) (by decide) (fun K hK=>?_);refine goes_ Try.func20 (by kernel_rfl) rfl #[.agg #[.slice Ao21 t320.length co21, .int .i64 t323], .agg #[.slice Ao37 t327.length co37, .int .i64 t330]] (by rfl) rfl rfl (by (try simp only[List.map_toArray,List.map_cons,List.map_nil]);first|done|rfl|(simp only[List.length_drop,List.length_take];rfl)) ?_
        with_reducible refine (laws_eqParty.calls kj25 _ _ t320 t323 _ _ t327 t330 false _ ?side1 ?side2 ?side3 ?side4 A29.out).mono ?_
        (case side1=>repeat (first|exact (Kd.R_reads' HO_325000.out).2.2|(with_reducible refine ca' ?_ _)|(with_reducible refine cn' ?_ _)|(with_reducible refine cd' ?_)))
        (case side2=>exact (Kd.R_reads' HO_325000.out).2.1)
        (case side3=>repeat (first|exact (Kd.R_reads' HO329.out).2.2|(with_reducible refine ca' ?_ _)|(with_reducible refine cn' ?_ _)|(with_reducible refine cd' ?_)))
        (case side4=>exact (Kd.R_reads' HO329.out).2.1)
        rintro e w38 ⟨rfl,hb⟩
        refine ⟨_,rfl,?_⟩;have n0_:=am' (Kd.R_below (by (with_reducible repeat (first|apply ra'|apply rn'|apply rw'));exact HO_325000.out) hb);have n1_:=am' (Kd.R_below (by (with_reducible repeat (first|apply ra'|apply rn'|apply rw'));exact HO329.out) hb);have n2_:=am' (blk_below (g:=gb312) (o := .cells #[.slice A0_0 l0_0.length c0_0, .int .i64 a0_1] 24 (0,0)) (by (with_reducible repeat (first|refine kn' ?_ _|refine kd' ?_|refine ka' ?_ _));exact BK312.out) hb);have n3_:=am' (blk_below (g:=gb324) (o := .cells #[.slice Ao21 t320.length co21, .int .i64 t323] 28 (0,0)) (by (with_reducible repeat (first|refine kn' ?_ _|refine kd' ?_|refine ka' ?_ _));exact BK324.out) hb);have n4_:=am' (below_step (by repeat (first|(with_reducible first|exact HB.out|apply ba'|apply bd'|apply be'|refine bs' ?_ GE312.out|refine bs' ?_ GE324.out)|exact HB.out)) hb);clear HO_325000;clear HO329;clear BK312;clear BK324;clear HB;have HO_325000:=n0_;have HO329:=n1_;have BK312:=n2_;have BK324:=n3_;have HB:=n4_;clear n0_ n1_ n2_ n3_ n4_;(try clear hb)
        (try clear hb2)
        (try clear hk)
        (try clear hi)
        refine hK.out _ _ ⟨(blk_cell BK324.out 0).trans rfl,(blk_cell BK324.out 1).trans rfl,(blk_cell BK312.out 0).trans rfl,(blk_cell BK312.out 1).trans rfl⟩ (fun hHeld=>?_);clear hK K;refine norm_ (a':=?_) ?_ ?_
        rotate_left
        ·
         show Act.put _ (some 42) _=_
         simp only[Act.put,sa',sb',sc',i64_w,i32_w];rfl
        refine pure_ (i:=4) (N:=some 43) (v:=?_) (a':=?_) #[true,true,true,true,true] rfl rfl (by kernel_rfl) (fun _ _ _ h=>h) (Or.inl ⟨by rfl,?_⟩) ?_ ?_
        rotate_left
        ·
         intro w';go_simp;with_reducible rfl
        rotate_left
        ·
         simp only[Act.put,sa',sb',sc',i64_w,i32_w];rfl
        refine done_ (by kernel_rfl) ?_
        try go_wp2
        go_ret
        exact ⟨by first|rfl|(simp[errW_none,errW_some] <;> rfl)|(simp[*,errW_none,errW_some] <;> rfl),by repeat (first|(with_reducible first|exact HB.out|apply ba'|apply bd'|apply be'|refine bs' ?_ GE312.out|refine bs' ?_ GE324.out)|exact HB.out)⟩
end Go.Proofs.Ytamljjfhkolflaa.C15
