import Derived.Test.YtibdeohiimjocaaC19zx0
import Derived.Test.YtibdeohiimjocaaC19zx1
import Derived.Test.YtibdeohiimjocaaC19zx7
import Derived.Test.YtibdeohiimjocaaC19zx14
import Derived.Test.YtibdeohiimjocaaC19zAl
namespace Go.Proofs.Ytibdeohiimjocaa.C19
open Go.RowKit Go.Proofs.YtibdeohiimjocaaW.PrintWords Go.Proofs.YtibdeohiimjocaaW.PrintLast Go.Proofs.YtibdeohiimjocaaW.PrintMore Go.Proofs.Ytibdeohiimjocaa.H
attribute [local go_sem] max2_int min2_int max_two min_two max_three min_three max_four min_four
set_option linter.unusedVariables false
set_option linter.unusedSimpArgs false
mutual
def laws_FnExactFirstRows.j0:Nat→List (List Int)→Bool→List (List Int)→Bool→Int→Int→Option (Bool)
 | 0,_,_,_,_,_,_=>none
 | k+1,x3,x4,x5,x31,x286000,x286001=>if x31=true then (some false) else (laws_FnExactFirstRows.j1 k x3 x4 x5 x286000 x286001)
def laws_FnExactFirstRows.j1:Nat→List (List Int)→Bool→List (List Int)→Int→Int→Option (Bool)
 | 0,_,_,_,_,_=>none
 | k+1,x3,x4,x5,x286000,x286001=>(laws_markIntSS.f x5 1).bind fun bt299=>((laws_heldIntSS.f k bt299.2 1).bind fun t301=>(if t301 < 0 then (some false) else (laws_FnExactFirstRows.j2 k x3 x4 bt299.2 bt299.1 t301 x286000 x286001)))
def laws_FnExactFirstRows.j2:Nat→List (List Int)→Bool→List (List Int)→Int→Int→Int→Int→Option (Bool)
 | 0,_,_,_,_,_,_,_=>none
 | k+1,x3,x4,x5,x7,x8,x286000,x286001=>if x8=x7 then (laws_FnExactFirstRows.j3 k x3 x4 x5 x7 x286000 x286001) else (some false)
def laws_FnExactFirstRows.j3:Nat→List (List Int)→Bool→List (List Int)→Int→Int→Int→Option (Bool)
 | 0,_,_,_,_,_,_=>none
 | k+1,x3,x4,x5,x7,x286000,x286001=>(laws_toCompany.f x286000 x286001).bind fun bt302=>((impl_FirstRows.f k bt302.1 bt302.2).bind fun bt304=>((laws_eqIntSS.f k bt304.1 x3).bind fun t308=>(if t308=true then (laws_FnExactFirstRows.j4 k x5 x7 (bt304.2 != x4)) else (laws_FnExactFirstRows.j4 k x5 x7 true))))
def laws_FnExactFirstRows.j4:Nat→List (List Int)→Int→Bool→Option (Bool)
 | 0,_,_,_=>none
 | k+1,x5,x7,x57=>if x57=true then (some false) else (laws_FnExactFirstRows.j5 k x5 x7)
def laws_FnExactFirstRows.j5:Nat→List (List Int)→Int→Option (Bool)
 | 0,_,_=>none
 | k+1,x5,x7=>(laws_heldIntSS.f k x5 1).bind fun t309=>(if t309 < 0 then (some false) else (if t309=x7 then (some true) else (some false)))
end
def laws_FnExactFirstRows.f (k:Nat) (a0_0:Int) (a0_1:Int):Option (Bool):=(laws_toCompany.f a0_0 a0_1).bind fun bt286=>((spec_FirstRows.f k bt286.1 bt286.2).bind fun bt288=>((laws_toCompany.f a0_0 a0_1).bind fun bt292=>((impl_FirstRows.f k bt292.1 bt292.2).bind fun bt294=>((laws_eqIntSS.f k bt294.1 bt288.1).bind fun t298=>(if t298=true then (laws_FnExactFirstRows.j0 k bt288.1 bt288.2 bt294.1 (bt294.2 != bt288.2) a0_0 a0_1) else (laws_FnExactFirstRows.j0 k bt288.1 bt288.2 bt294.1 true a0_0 a0_1))))))
set_option maxHeartbeats 8000000 in
set_option maxRecDepth 100000 in
theorem laws_FnExactFirstRows.calls (k:Nat) (a0_0:Int) (a0_1:Int) (r:Bool) (w:World) (h:laws_FnExactFirstRows.f k a0_0 a0_1=some r) :
  Calls Try.prog 13 #[.agg #[.int .i64 a0_0, .int .i64 a0_1]] w fun e w'=>e = .returned (.bool r)∧Below w.heap.size w w':=by
 have hu37:=Try.underlying37
 have HB:=am' (Below.refl w.heap.size w)
 have H:((laws_toCompany.f a0_0 a0_1).bind fun bt286=>((spec_FirstRows.f k bt286.1 bt286.2).bind fun bt288=>((laws_toCompany.f a0_0 a0_1).bind fun bt292=>((impl_FirstRows.f k bt292.1 bt292.2).bind fun bt294=>((laws_eqIntSS.f k bt294.1 bt288.1).bind fun t298=>(if t298=true then (laws_FnExactFirstRows.j0 k bt288.1 bt288.2 bt294.1 (bt294.2 != bt288.2) a0_0 a0_1) else (laws_FnExactFirstRows.j0 k bt288.1 bt288.2 bt294.1 true a0_0 a0_1)))))))=some r:=h
 clear h;replace H:=Option.bind_eq_some_iff.mp H
 obtain ⟨⟨t286,t287⟩,A20,H⟩:=H
 replace H:((spec_FirstRows.f k t286 t287).bind fun bt288=>((laws_toCompany.f a0_0 a0_1).bind fun bt292=>((impl_FirstRows.f k bt292.1 bt292.2).bind fun bt294=>((laws_eqIntSS.f k bt294.1 bt288.1).bind fun t298=>(if t298=true then (laws_FnExactFirstRows.j0 k bt288.1 bt288.2 bt294.1 (bt294.2 != bt288.2) a0_0 a0_1) else (laws_FnExactFirstRows.j0 k bt288.1 bt288.2 bt294.1 true a0_0 a0_1))))))=some r:=H
 have A2:=am' A20
 clear A20;replace H:=Option.bind_eq_some_iff.mp H
 obtain ⟨⟨t288,t291⟩,A30,H⟩:=H
 replace H:((laws_toCompany.f a0_0 a0_1).bind fun bt292=>((impl_FirstRows.f k bt292.1 bt292.2).bind fun bt294=>((laws_eqIntSS.f k bt294.1 t288).bind fun t298=>(if t298=true then (laws_FnExactFirstRows.j0 k t288 t291 bt294.1 (bt294.2 != t291) a0_0 a0_1) else (laws_FnExactFirstRows.j0 k t288 t291 bt294.1 true a0_0 a0_1)))))=some r:=H
 have A3:=am' A30
 clear A30;replace H:=Option.bind_eq_some_iff.mp H
 obtain ⟨⟨t292,t293⟩,A40,H⟩:=H
 replace H:((impl_FirstRows.f k t292 t293).bind fun bt294=>((laws_eqIntSS.f k bt294.1 t288).bind fun t298=>(if t298=true then (laws_FnExactFirstRows.j0 k t288 t291 bt294.1 (bt294.2 != t291) a0_0 a0_1) else (laws_FnExactFirstRows.j0 k t288 t291 bt294.1 true a0_0 a0_1))))=some r:=H
 have A4:=am' A40
 clear A40;replace H:=Option.bind_eq_some_iff.mp H
 obtain ⟨⟨t294,t297⟩,A50,H⟩:=H
 replace H:((laws_eqIntSS.f k t294 t288).bind fun t298=>(if t298=true then (laws_FnExactFirstRows.j0 k t288 t291 t294 (t297 != t291) a0_0 a0_1) else (laws_FnExactFirstRows.j0 k t288 t291 t294 true a0_0 a0_1)))=some r:=H
 have A5:=am' A50
 clear A50;have HC6:=am' H
 clear H;go_enter Try.func13,Try.ntmps13
 go_upto_region 3 with (first|((with_reducible refine gate_dst (N:=1) rfl ?_);refine box_event ?hg (N:=1) ?hd (cs:=#[.int .i64 a0_0, .int .i64 a0_1]) (t:=37) ?hr ?_;(case hd=>rfl);(case hg=>rfl);(case hr=>first|(go_simp;done)|(go_simp;rfl));intro gb285 hg w7 hbox hb;have n0_:=am' (below_step (by repeat (first|(with_reducible first|exact HB.out|apply ba'|apply bd'|apply be')|exact HB.out)) hb);have n1_:=am' (hbox);have n2_:=am' ((by rw[hg];exact (below_size (by repeat (first|(with_reducible first|exact HB.out|apply ba'|apply bd'|apply be')|exact HB.out))):w.heap.size≤gb285));have n3_:=am' ((by rw[hg];exact (below_size (by repeat (first|(with_reducible first|exact HB.out|apply ba'|apply bd'|apply be')|exact HB.out))):w.heap.size≤gb285));clear HB;have HB:=n0_;have BK285:=n1_;have GW285:=n2_;have GE285:=n3_;clear n0_ n1_ n2_ n3_;clear hb hbox hg;have hcz8_0:w7.cell? ⟨gb285,0,none⟩=some (.int .i64 a0_0):=(blk_cell BK285.out 0).trans rfl;have hcz8_1:w7.cell? ⟨gb285,1,none⟩=some (.int .i64 a0_1):=(blk_cell BK285.out 1).trans rfl;have hfz8_0:=blk_frozen BK285.out 0;have hfz8_1:=blk_frozen BK285.out 1)|((with_reducible refine gate_callee (f:=30) rfl ?_);refine goesL_ (some 13) rfl rfl Try.func30 (by kernel_rfl) rfl #[.agg #[.int .i64 a0_0, .int .i64 a0_1]] rfl (by (try simp only[List.map_toArray,List.map_cons,List.map_nil]);first|done|rfl|(simp only[List.length_drop,List.length_take];rfl)) ?_;(with_reducible refine (laws_toCompany.calls a0_0 a0_1 t286 t287 _ A2.out).mono ?_);rintro e w9 ⟨rfl,hb⟩;refine ⟨_,rfl,?_⟩;have n0_:=am' (blk_below (g:=gb285) (o := .cells #[.int .i64 a0_0, .int .i64 a0_1] 37 (0,0)) (by (with_reducible repeat (first|refine kn' ?_ _|refine kd' ?_|refine ka' ?_ _));exact BK285.out) hb);have n1_:=am' (below_step (by repeat (first|(with_reducible first|exact HB.out|apply ba'|apply bd'|apply be'|refine bs' ?_ GE285.out)|exact HB.out)) hb);clear BK285;clear HB;have BK285:=n0_;have HB:=n1_;clear n0_ n1_;(try clear hb);(try clear hb2);(try clear hk);(try clear hi))|((with_reducible refine gate_callee (f:=55) rfl ?_);refine goesL_ (some 14) rfl rfl Try.func55 (by kernel_rfl) rfl #[.agg #[.int .i64 t286, .int .i64 t287]] rfl (by (try simp only[List.map_toArray,List.map_cons,List.map_nil]);first|done|rfl|(simp only[List.length_drop,List.length_take];rfl)) ?_;(with_reducible refine (spec_FirstRows.calls k t286 t287 t288 t291 _ A3.out).mono ?_);rintro e w10 ⟨v289,rfl,ho0,hb⟩;refine ⟨_,rfl,?_⟩;obtain ⟨D310_,hdl_,hdg_⟩:=dlt_of hb;have D310_lt:=am' hdl_;have D310_ge:=am' hdg_;clear hdl_ hdg_;have n0_:=am' (Kd.S_lower (Kd.S_dge ho0 D310_ge.out) (below_size (by repeat (first|(with_reducible first|exact HB.out|apply ba'|apply bd'|apply be'|refine bs' ?_ GE285.out)|exact HB.out))));have n1_:=am' (blk_below (g:=gb285) (o := .cells #[.int .i64 a0_0, .int .i64 a0_1] 37 (0,0)) (by (with_reducible repeat (first|refine kn' ?_ _|refine kd' ?_|refine ka' ?_ _));exact BK285.out) hb);have n2_:=am' (below_step (by repeat (first|(with_reducible first|exact HB.out|apply ba'|apply bd'|apply be'|refine bs' ?_ GE285.out)|exact HB.out)) hb);clear BK285;clear HB;have HO290:=n0_;have BK285:=n1_;have HB:=n2_;clear n0_ n1_ n2_;(try clear hb);(try clear hb2);(try clear hk);(try clear hi);(try clear ho0);have hcz11_0:w10.cell? ⟨gb285,0,none⟩=some (.int .i64 a0_0):=(blk_cell BK285.out 0).trans rfl;have hcz11_1:w10.cell? ⟨gb285,1,none⟩=some (.int .i64 a0_1):=(blk_cell BK285.out 1).trans rfl;have hfz11_0:=blk_frozen BK285.out 0;have hfz11_1:=blk_frozen BK285.out 1)|((with_reducible refine gate_callee (f:=30) rfl ?_);refine goesL_ (some 19) rfl rfl Try.func30 (by kernel_rfl) rfl #[.agg #[.int .i64 a0_0, .int .i64 a0_1]] rfl (by (try simp only[List.map_toArray,List.map_cons,List.map_nil]);first|done|rfl|(simp only[List.length_drop,List.length_take];rfl)) ?_;(with_reducible refine (laws_toCompany.calls a0_0 a0_1 t292 t293 _ A4.out).mono ?_);rintro e w12 ⟨rfl,hb⟩;refine ⟨_,rfl,?_⟩;have n0_:=am' (Kd.S_below (by (with_reducible repeat (first|apply Kd.S_alloc|apply Kd.S_drewN|apply Kd.S_drew));exact HO290.out) hb);have n1_:=am' (blk_below (g:=gb285) (o := .cells #[.int .i64 a0_0, .int .i64 a0_1] 37 (0,0)) (by (with_reducible repeat (first|refine kn' ?_ _|refine kd' ?_|refine ka' ?_ _));exact BK285.out) hb);have n2_:=am' (below_step (by repeat (first|(with_reducible first|exact HB.out|apply ba'|apply bd'|apply be'|refine bs' ?_ GE285.out)|exact HB.out)) hb);clear HO290;clear BK285;clear HB;have HO290:=n0_;have BK285:=n1_;have HB:=n2_;clear n0_ n1_ n2_;(try clear hb);(try clear hb2);(try clear hk);(try clear hi))|((with_reducible refine gate_callee (f:=56) rfl ?_);refine goesL_ (some 20) rfl rfl Try.func56 (by kernel_rfl) rfl #[.agg #[.int .i64 t292, .int .i64 t293]] rfl (by (try simp only[List.map_toArray,List.map_cons,List.map_nil]);first|done|rfl|(simp only[List.length_drop,List.length_take];rfl)) ?_;(with_reducible refine (impl_FirstRows.calls k t292 t293 t294 t297 _ A5.out).mono ?_);rintro e w13 ⟨v295,rfl,ho0,hb⟩;refine ⟨_,rfl,?_⟩;obtain ⟨D311_,hdl_,hdg_⟩:=dlt_of hb;have D311_lt:=am' hdl_;have D311_ge:=am' hdg_;clear hdl_ hdg_;have n0_:=am' (Kd.S_elder' (Kd.S_dlt (by (with_reducible repeat (first|apply Kd.S_alloc|apply Kd.S_drewN|apply Kd.S_drew));exact HO290.out) D311_lt.out) (Kd.S_base ho0) hb);have n1_:=am' (Kd.S_lower (Kd.S_new' (Kd.S_dge ho0 D311_ge.out) (Kd.S_lt (by (with_reducible repeat (first|apply Kd.S_alloc|apply Kd.S_drewN|apply Kd.S_drew));exact HO290.out))) (below_size (by repeat (first|(with_reducible first|exact HB.out|apply ba'|apply bd'|apply be'|refine bs' ?_ GE285.out)|exact HB.out))));have n2_:=am' (blk_below (g:=gb285) (o := .cells #[.int .i64 a0_0, .int .i64 a0_1] 37 (0,0)) (by (with_reducible repeat (first|refine kn' ?_ _|refine kd' ?_|refine ka' ?_ _));exact BK285.out) hb);have n3_:=am' (below_step (by repeat (first|(with_reducible first|exact HB.out|apply ba'|apply bd'|apply be'|refine bs' ?_ GE285.out)|exact HB.out)) hb);clear HO290;clear BK285;clear HB;have HO290:=n0_;have HO296:=n1_;have BK285:=n2_;have HB:=n3_;clear n0_ n1_ n2_ n3_;(try clear hb);(try clear hb2);(try clear hk);(try clear hi);(try clear ho0)))
 (try simp only[Act.put,sa',sb',sc'])
 go_cut [31] (fun v31 wc=>∃ (kq:Nat) (x31_5:Bool),v31 = .bool x31_5∧Aside0 (laws_FnExactFirstRows.j0 kq t288 t291 t294 x31_5 a0_0 a0_1=some r)∧Aside0 (kq≤k)∧Aside0 (Kd.S (Kd.slice 3 (Kd.int .i64)) 32 wc w.heap.size (fun k_=>some k_≠(v295:Value).ownBlock∧¬ D310_ k_∧D311_ k_) v289 t288)∧Aside0 (Kd.S (Kd.slice 3 (Kd.int .i64)) 32 wc w.heap.size (fun k_=>some k_≠(v289:Value).ownBlock∧¬ D311_ k_) v295 t294)∧Aside0 (wc.heap[gb285]? = some (.cells #[.int .i64 a0_0, .int .i64 a0_1] 37 (0,0)))∧Aside0 (Below w.heap.size w wc))
 case first =>
  have H:=HC6.out;clear HC6;replace H:=Option.bind_eq_some_iff.mp H;obtain ⟨t298,A140,H⟩:=H;replace H:(if t298=true then (laws_FnExactFirstRows.j0 k t288 t291 t294 (t297 != t291) a0_0 a0_1) else (laws_FnExactFirstRows.j0 k t288 t291 t294 true a0_0 a0_1))=some r:=H;have A14:=am' A140;clear A140;by_cases c15:t298=true
  ·
   subst c15;have H1:(laws_FnExactFirstRows.j0 k t288 t291 t294 (t297 != t291) a0_0 a0_1)=some r:=by rw[if_pos rfl] at H;exact H
   clear H;have H:=H1;clear H1;have H':=am' H;clear H;obtain ⟨Ao16,co16,eo16⟩:=Kd.S_slice HO296.out;subst eo16;obtain ⟨Ao17,co17,eo17⟩:=Kd.S_slice HO290.out;subst eo17;go_wp2_with (first|((with_reducible refine gate_callee (f:=20) rfl ?_);refine goesL_ (some 25) rfl rfl Try.func20 (by kernel_rfl) rfl #[.slice Ao16 t294.length co16, .slice Ao17 t288.length co17] rfl (by (try simp only[List.map_toArray,List.map_cons,List.map_nil]);first|done|rfl|(simp only[List.length_drop,List.length_take];rfl)) ?_;(with_reducible refine (laws_eqIntSS.calls k _ _ t294 _ _ t288 true _ ?side1 ?side2 ?side3 ?side4 A14.out).mono ?_);(case side1=>repeat (first|exact (Kd.S_reads' HO296.out).2.2|(with_reducible refine ca' ?_ _)|(with_reducible refine cn' ?_ _)|(with_reducible refine cd' ?_)));(case side2=>exact (Kd.S_reads' HO296.out).2.1);(case side3=>repeat (first|exact (Kd.S_reads' HO290.out).2.2|(with_reducible refine ca' ?_ _)|(with_reducible refine cn' ?_ _)|(with_reducible refine cd' ?_)));(case side4=>exact (Kd.S_reads' HO290.out).2.1);rintro e w' ⟨rfl,⟨nd,rfl⟩⟩;refine ⟨_,rfl,?_⟩));go_meet
   case rel=>exact ⟨_,((t297 != t291)),(by first|rfl|(simp;done)|(simp[*];done)),H',⟨by first|omega|exact Nat.le_refl _⟩,⟨by (with_reducible repeat (first|apply Kd.S_alloc|apply Kd.S_drewN|apply Kd.S_drew));exact Kd.S_mono HO290.out (fun _ hk=>⟨hk.2,⟨hk.1.1.2,hk.1.2⟩⟩)⟩,⟨by (with_reducible repeat (first|apply Kd.S_alloc|apply Kd.S_drewN|apply Kd.S_drew));exact Kd.S_mono HO296.out (fun _ hk=>⟨hk.2,hk.1.2⟩)⟩,⟨by (with_reducible repeat (first|refine kn' ?_ _|refine kd' ?_|refine ka' ?_ _));exact BK285.out⟩,⟨by repeat (first|(with_reducible first|exact HB.out|apply ba'|apply bd'|apply be'|refine bs' ?_ GE285.out)|exact HB.out)⟩⟩
  ·
   replace c15:=Bool.eq_false_iff.mpr c15;subst c15;have H1:(laws_FnExactFirstRows.j0 k t288 t291 t294 true a0_0 a0_1)=some r:=by rw[if_neg (show ¬ (false=true) by decide)] at H;exact H
   clear H;have H:=H1;clear H1;have H':=am' H;clear H;obtain ⟨Ao18,co18,eo18⟩:=Kd.S_slice HO296.out;subst eo18;obtain ⟨Ao19,co19,eo19⟩:=Kd.S_slice HO290.out;subst eo19;go_wp2_with (first|((with_reducible refine gate_callee (f:=20) rfl ?_);refine goesL_ (some 25) rfl rfl Try.func20 (by kernel_rfl) rfl #[.slice Ao18 t294.length co18, .slice Ao19 t288.length co19] rfl (by (try simp only[List.map_toArray,List.map_cons,List.map_nil]);first|done|rfl|(simp only[List.length_drop,List.length_take];rfl)) ?_;(with_reducible refine (laws_eqIntSS.calls k _ _ t294 _ _ t288 false _ ?side1 ?side2 ?side3 ?side4 A14.out).mono ?_);(case side1=>repeat (first|exact (Kd.S_reads' HO296.out).2.2|(with_reducible refine ca' ?_ _)|(with_reducible refine cn' ?_ _)|(with_reducible refine cd' ?_)));(case side2=>exact (Kd.S_reads' HO296.out).2.1);(case side3=>repeat (first|exact (Kd.S_reads' HO290.out).2.2|(with_reducible refine ca' ?_ _)|(with_reducible refine cn' ?_ _)|(with_reducible refine cd' ?_)));(case side4=>exact (Kd.S_reads' HO290.out).2.1);rintro e w' ⟨rfl,⟨nd,rfl⟩⟩;refine ⟨_,rfl,?_⟩));go_meet
   case rel=>exact ⟨_,(true),(by first|rfl|(simp;done)|(simp[*];done)),H',⟨by first|omega|exact Nat.le_refl _⟩,⟨by (with_reducible repeat (first|apply Kd.S_alloc|apply Kd.S_drewN|apply Kd.S_drew));exact Kd.S_mono HO290.out (fun _ hk=>⟨hk.2,⟨hk.1.1.2,hk.1.2⟩⟩)⟩,⟨by (with_reducible repeat (first|apply Kd.S_alloc|apply Kd.S_drewN|apply Kd.S_drew));exact Kd.S_mono HO296.out (fun _ hk=>⟨hk.2,hk.1.2⟩)⟩,⟨by (with_reducible repeat (first|refine kn' ?_ _|refine kd' ?_|refine ka' ?_ _));exact BK285.out⟩,⟨by repeat (first|(with_reducible first|exact HB.out|apply ba'|apply bd'|apply be'|refine bs' ?_ GE285.out)|exact HB.out)⟩⟩
 case rest =>
  clear HC6;try clear c1
  try clear c2
  try clear p2
  try clear c3
  try clear c5
  try clear c13
  try clear c15
  try clear hcz11_0
  try clear hcz11_1
  try clear hcz8_0
  try clear hcz8_1
  try clear hfz11_0
  try clear hfz11_1
  try clear hfz8_0
  try clear hfz8_1
  obtain ⟨kq,x31_5,rfl,HA,HJ5,HO_3,HO_5,BK285,HB⟩:=hcut;cases kq with
  | zero=>exact absurd HA.out (by simp[laws_FnExactFirstRows.j0])
  | succ kj5 =>
   have H:=HA.out;clear HA;simp only[laws_FnExactFirstRows.j0] at H;have HC20:=am' H;clear H;go_upto_if 31 with (fail)
   go_cut [] (fun wc=>∃ (kq:Nat),Aside0 (laws_FnExactFirstRows.j1 kq t288 t291 t294 a0_0 a0_1=some r)∧Aside0 (kq≤kj5)∧Aside0 (Kd.S (Kd.slice 3 (Kd.int .i64)) 32 wc w.heap.size (fun k_=>some k_≠(v295:Value).ownBlock∧¬ D310_ k_∧D311_ k_) v289 t288)∧Aside0 (Kd.S (Kd.slice 3 (Kd.int .i64)) 32 wc w.heap.size (fun k_=>some k_≠(v289:Value).ownBlock∧¬ D311_ k_) v295 t294)∧Aside0 (wc.heap[gb285]? = some (.cells #[.int .i64 a0_0, .int .i64 a0_1] 37 (0,0)))∧Aside0 (Below w.heap.size w wc))
   case first =>
    have H:=HC20.out;clear HC20;by_cases c21:x31_5=true
    ·
     subst c21;have H1:(some false)=some r:=by rw[if_pos rfl] at H;exact H
     clear H;have H:=H1;clear H1;obtain rfl:=Option.some.inj H;go_wp2;go_ret
     exact ⟨by first|rfl|(simp[errW_none,errW_some] <;> rfl)|(simp[*,errW_none,errW_some] <;> rfl),by repeat (first|(with_reducible first|exact HB.out|apply ba'|apply bd'|apply be'|refine bs' ?_ GE285.out)|exact HB.out)⟩
    ·
     replace c21:=Bool.eq_false_iff.mpr c21;subst c21;have H1:(laws_FnExactFirstRows.j1 kj5 t288 t291 t294 a0_0 a0_1)=some r:=by rw[if_neg (show ¬ (false=true) by decide)] at H;exact H
     clear H;have H:=H1;clear H1;have H':=am' H;clear H;go_wp2;go_meet
     case rel=>exact ⟨_,H',⟨by have:=HJ5.out;first|omega|exact Nat.le_refl _⟩,⟨by (with_reducible repeat (first|apply Kd.S_alloc|apply Kd.S_drewN|apply Kd.S_drew));exact HO_3.out⟩,⟨by (with_reducible repeat (first|apply Kd.S_alloc|apply Kd.S_drewN|apply Kd.S_drew));exact HO_5.out⟩,⟨by (with_reducible repeat (first|refine kn' ?_ _|refine kd' ?_|refine ka' ?_ _));exact BK285.out⟩,⟨by repeat (first|(with_reducible first|exact HB.out|apply ba'|apply bd'|apply be'|refine bs' ?_ GE285.out)|exact HB.out)⟩⟩
   case rest =>
    clear HC20;try clear c1
    try clear c2
    try clear p2
    try clear c3
    try clear c5
    try clear c13
    try clear c15
    try clear c20
    try clear c21
    try clear hcz11_0
    try clear hcz11_1
    try clear hcz8_0
    try clear hcz8_1
    try clear hfz11_0
    try clear hfz11_1
    try clear hfz8_0
    try clear hfz8_1
    try clear p2
    obtain ⟨kq,HA,HJ19,HO_3,HO_5,BK285,HB⟩:=hcut;cases kq with
    | zero=>exact absurd HA.out (by simp[laws_FnExactFirstRows.j1])
    | succ kj19 =>
     have H:=HA.out;clear HA;simp only[laws_FnExactFirstRows.j1] at H;replace H:=Option.bind_eq_some_iff.mp H;obtain ⟨⟨t299,t300⟩,A220,H⟩:=H;replace H:((laws_heldIntSS.f kj19 t300 1).bind fun t301=>(if t301 < 0 then (some false) else (laws_FnExactFirstRows.j2 kj19 t288 t291 t300 t299 t301 a0_0 a0_1)))=some r:=H;have A22:=am' A220;clear A220;replace H:=Option.bind_eq_some_iff.mp H;obtain ⟨t301,A230,H⟩:=H;replace H:(if t301 < 0 then (some false) else (laws_FnExactFirstRows.j2 kj19 t288 t291 t300 t299 t301 a0_0 a0_1))=some r:=H;have A23:=am' A230;clear A230;have HC24:=am' H;clear H;obtain ⟨Ao25,co25,eo25⟩:=Kd.S_slice HO_5.out;subst eo25;go_upto_if 39 with (first|((with_reducible refine gate_callee (f:=21) rfl ?_);refine goesL_ (some 34) rfl rfl Try.func21 (by kernel_rfl) rfl #[.slice Ao25 t294.length co25, .int .i64 1] rfl (by (try simp only[List.map_toArray,List.map_cons,List.map_nil]);first|done|rfl|(simp only[List.length_drop,List.length_take];rfl)) ?_;(with_reducible refine (laws_markIntSS.calls (fun k_=>(some k_≠(v289:Value).ownBlock∧(¬ D311_ k_∧k_≠gb285))) (.slice Ao25 t294.length co25) t294 1 t299 t300 w _ ?side1 ?side2 A22.out).mono ?_);(case side1=>repeat (first|(with_reducible first|exact HB.out|apply ba'|apply bd'|apply be'|refine bs' ?_ GE285.out)|exact HB.out));(case side2=>exact (by (with_reducible repeat (first|apply Kd.S_alloc|apply Kd.S_drewN|apply Kd.S_drew));exact (Kd.S_mono (ok':=fun k_=>(some k_≠(v289:Value).ownBlock∧(¬ D311_ k_∧k_≠gb285))) (Kd.S_types HO_5.out BK285.out (by decide)) (fun k_ hk_=>⟨hk_.1.1,⟨hk_.1.2,hk_.2⟩⟩))));rintro e w26 ⟨rfl,hy0,hb,hkp⟩;refine ⟨_,rfl,?_⟩;have n0_:=am' (Kd.S_mono (ok':=fun k_=>some k_≠(.slice Ao25 t294.length co25:Value).ownBlock∧¬ D310_ k_∧D311_ k_) (Kd.S_keptB (HO_3.out) hkp (fun k_ hk_ hs_=>(fun e_=>(e_.2.1) (hk_.2.2)) hs_)) (fun k_ hk_=>⟨hk_.1.1,hk_.1.2.1,hk_.1.2.2⟩));have n1_:=am' (hy0);have n2_:=am' (blk_kept (by (with_reducible repeat (first|refine kn' ?_ _|refine kd' ?_|refine ka' ?_ _));exact BK285.out) hkp (fun hs_=>(fun e_=>(e_.2.2) rfl) hs_));have n3_:=am' (hb);clear HO_3;clear HO_5;clear BK285;clear HB;have HO_3:=n0_;have HO_5:=n1_;have BK285:=n2_;have HB:=n3_;clear n0_ n1_ n2_ n3_;(try clear hb);(try clear hkp);(try clear hy0))|((with_reducible refine gate_callee (f:=22) rfl ?_);refine goesL_ (some 37) rfl rfl Try.func22 (by kernel_rfl) rfl #[.slice Ao25 t300.length co25, .int .i64 1] rfl (by (try simp only[List.map_toArray,List.map_cons,List.map_nil]);first|done|(rw[show t300.length=t294.length from (Kd.S_reads' HO_5.out).1.symm] <;> rfl)|rfl|(simp only[List.length_drop,List.length_take];rfl)) ?_;(with_reducible refine (laws_heldIntSS.calls kj19 _ _ t300 1 t301 _ ?side1 ?side2 A23.out).mono ?_);(case side1=>repeat (first|exact (Kd.S_reads' HO_5.out).2.2|(with_reducible refine ca' ?_ _)|(with_reducible refine cn' ?_ _)|(with_reducible refine cd' ?_)));(case side2=>rw [show t300.length=t294.length from (Kd.S_reads' HO_5.out).1.symm];exact (Kd.S_reads' HO_5.out).2.1);rintro e w' ⟨rfl,⟨nd,rfl⟩⟩;refine ⟨_,rfl,?_⟩))
     (try simp only[Act.put,sa',sb',sc'])
     go_cut [] (fun wc=>∃ (kq:Nat),Aside0 (laws_FnExactFirstRows.j2 kq t288 t291 t300 t299 t301 a0_0 a0_1=some r)∧Aside0 (kq≤kj19)∧Aside0 (Kd.S (Kd.slice 3 (Kd.int .i64)) 32 wc w.heap.size (fun k_=>some k_≠((.slice Ao25 t294.length co25):Value).ownBlock∧¬ D310_ k_∧D311_ k_) v289 t288)∧Aside0 (Kd.S (Kd.slice 3 (Kd.int .i64)) 32 wc w.heap.size (fun k_=>some k_≠(v289:Value).ownBlock∧¬ D311_ k_) (.slice Ao25 t294.length co25) t300)∧Aside0 (wc.heap[gb285]? = some (.cells #[.int .i64 a0_0, .int .i64 a0_1] 37 (0,0)))∧Aside0 (Below w.heap.size w wc))
     case first =>
      have H:=HC24.out;clear HC24;by_cases c27:t301 < 0
      ·
       rw[if_pos c27] at H;have c27b0:decide (t301 < 0)=true:=decide_eq_true c27;clear c27;(first|rw[c27b0]|(simp only[i64_w,i32_w];rw[c27b0])|skip)
       obtain rfl:=Option.some.inj H;go_wp2;go_ret
       exact ⟨by first|rfl|(simp[errW_none,errW_some] <;> rfl)|(simp[*,errW_none,errW_some] <;> rfl),by repeat (first|(with_reducible first|exact HB.out|apply ba'|apply bd'|apply be'|refine bs' ?_ GE285.out)|exact HB.out)⟩
      ·
       rw[if_neg c27] at H;have c27b0:decide (t301 < 0)=false:=decide_eq_false c27;clear c27;(first|rw[c27b0]|(simp only[i64_w,i32_w];rw[c27b0])|skip)
       have H':=am' H;clear H;go_wp2;go_meet
       case rel=>exact ⟨_,H',⟨by have:=HJ5.out;have:=HJ19.out;first|omega|exact Nat.le_refl _⟩,⟨by (with_reducible repeat (first|apply Kd.S_alloc|apply Kd.S_drewN|apply Kd.S_drew));exact HO_3.out⟩,⟨by (with_reducible repeat (first|apply Kd.S_alloc|apply Kd.S_drewN|apply Kd.S_drew));exact Kd.S_mono HO_5.out (fun _ hk=>⟨hk.1,hk.2.1⟩)⟩,⟨by (with_reducible repeat (first|refine kn' ?_ _|refine kd' ?_|refine ka' ?_ _));exact BK285.out⟩,⟨by repeat (first|(with_reducible first|exact HB.out|apply ba'|apply bd'|apply be'|refine bs' ?_ GE285.out)|exact HB.out)⟩⟩
     case rest =>
      clear HC24;try clear c1
      try clear c2
      try clear p2
      try clear c3
      try clear c5
      try clear c13
      try clear c15
      try clear c20
      try clear c21
      try clear c22
      try clear c27
      try clear c27b0
      try clear hcz11_0
      try clear hcz11_1
      try clear hcz8_0
      try clear hcz8_1
      try clear hfz11_0
      try clear hfz11_1
      try clear hfz8_0
      try clear hfz8_1
      try clear p2
      obtain ⟨kq,HA,HJ23,HO_3,HO_5,BK285,HB⟩:=hcut;have hl5_23:=(Kd.S_reads' HO_5.out).1;rw[hl5_23] at HO_5
      (try simp only[hl5_23])
      (try simp only[hl5_23] at BK285)
      (try simp only[hl5_23] at HO_3)
      cases kq with
      | zero=>exact absurd HA.out (by simp[laws_FnExactFirstRows.j2])
      | succ kj23 =>
       have H:=HA.out;clear HA;simp only[laws_FnExactFirstRows.j2] at H;have HC28:=am' H;clear H;go_upto_if 42 with (fail)
       go_cut [] (fun wc=>∃ (kq:Nat),Aside0 (laws_FnExactFirstRows.j3 kq t288 t291 t300 t299 a0_0 a0_1=some r)∧Aside0 (kq≤kj23)∧Aside0 (Kd.S (Kd.slice 3 (Kd.int .i64)) 32 wc w.heap.size (fun k_=>some k_≠((.slice Ao25 t300.length co25):Value).ownBlock∧¬ D310_ k_∧D311_ k_) v289 t288)∧Aside0 (Kd.S (Kd.slice 3 (Kd.int .i64)) 32 wc w.heap.size (fun k_=>some k_≠(v289:Value).ownBlock∧¬ D311_ k_) (.slice Ao25 t300.length co25) t300)∧Aside0 (wc.heap[gb285]? = some (.cells #[.int .i64 a0_0, .int .i64 a0_1] 37 (0,0)))∧Aside0 (Below w.heap.size w wc))
       case first =>
        have H:=HC28.out;clear HC28;by_cases c29:t301=t299
        ·
         rw[if_pos c29] at H;have c29b0:(t301 == t299)=true:=beq_iff_eq.mpr c29;have c29b1:(t301 != t299)=false:=bne_eq_false_iff_eq.mpr c29;clear c29;(first|rw[c29b0]|(simp only[i64_w,i32_w];rw[c29b0])|skip)
         have H':=am' H;clear H;go_wp2;go_meet
         case rel=>exact ⟨_,H',⟨by have:=HJ5.out;have:=HJ19.out;have:=HJ23.out;first|omega|exact Nat.le_refl _⟩,⟨by (try simp only[hl5_23]);(with_reducible repeat (first|apply Kd.S_alloc|apply Kd.S_drewN|apply Kd.S_drew));exact HO_3.out⟩,⟨by (try simp only[hl5_23]);(with_reducible repeat (first|apply Kd.S_alloc|apply Kd.S_drewN|apply Kd.S_drew));exact HO_5.out⟩,⟨by (try simp only[hl5_23]);(with_reducible repeat (first|refine kn' ?_ _|refine kd' ?_|refine ka' ?_ _));exact BK285.out⟩,⟨by repeat (first|(with_reducible first|exact HB.out|apply ba'|apply bd'|apply be'|refine bs' ?_ GE285.out)|exact HB.out)⟩⟩
        ·
         rw[if_neg c29] at H;have c29b0:(t301 == t299)=false:=beq_eq_false_iff_ne.mpr c29;have c29b1:(t301 != t299)=true:=bne_iff_ne.mpr c29
         (first|rw[c29b0]|(simp only[i64_w,i32_w];rw[c29b0])|skip)
         obtain rfl:=Option.some.inj H;go_wp2;go_ret
         exact ⟨by first|rfl|(simp[errW_none,errW_some] <;> rfl)|(simp[*,errW_none,errW_some] <;> rfl),by repeat (first|(with_reducible first|exact HB.out|apply ba'|apply bd'|apply be'|refine bs' ?_ GE285.out)|exact HB.out)⟩
       case rest =>
        clear HC28;try clear c1
        try clear c2
        try clear p2
        try clear c3
        try clear c5
        try clear c13
        try clear c15
        try clear c20
        try clear c21
        try clear c22
        try clear c27
        try clear c27b0
        try clear c29
        try clear c29b0
        try clear c29b1
        try clear hcz11_0
        try clear hcz11_1
        try clear hcz8_0
        try clear hcz8_1
        try clear hfz11_0
        try clear hfz11_1
        try clear hfz8_0
        try clear hfz8_1
        try clear p2
        obtain ⟨kq,HA,HJ27,HO_3,HO_5,BK285,HB⟩:=hcut;cases kq with
        | zero=>exact absurd HA.out (by simp[laws_FnExactFirstRows.j3])
        | succ kj27 =>
         have H:=HA.out;clear HA;simp only[laws_FnExactFirstRows.j3] at H;replace H:=Option.bind_eq_some_iff.mp H;obtain ⟨⟨t302,t303⟩,A300,H⟩:=H;replace H:((impl_FirstRows.f kj27 t302 t303).bind fun bt304=>((laws_eqIntSS.f kj27 bt304.1 t288).bind fun t308=>(if t308=true then (laws_FnExactFirstRows.j4 kj27 t300 t299 (bt304.2 != t291)) else (laws_FnExactFirstRows.j4 kj27 t300 t299 true))))=some r:=H;have A30:=am' A300;clear A300;replace H:=Option.bind_eq_some_iff.mp H;obtain ⟨⟨t304,t307⟩,A310,H⟩:=H;replace H:((laws_eqIntSS.f kj27 t304 t288).bind fun t308=>(if t308=true then (laws_FnExactFirstRows.j4 kj27 t300 t299 (t307 != t291)) else (laws_FnExactFirstRows.j4 kj27 t300 t299 true)))=some r:=H;have A31:=am' A310;clear A310;have HC32:=am' H;clear H;have hcz33_0:wc.cell? ⟨gb285,0,none⟩=some (.int .i64 a0_0):=(blk_cell BK285.out 0).trans rfl;have hcz33_1:wc.cell? ⟨gb285,1,none⟩=some (.int .i64 a0_1):=(blk_cell BK285.out 1).trans rfl;have hfz33_0:=blk_frozen BK285.out 0;have hfz33_1:=blk_frozen BK285.out 1;go_upto_region 14 with (first|((with_reducible refine gate_callee (f:=30) rfl ?_);refine goesL_ (some 45) rfl rfl Try.func30 (by kernel_rfl) rfl #[.agg #[.int .i64 a0_0, .int .i64 a0_1]] rfl (by (try simp only[List.map_toArray,List.map_cons,List.map_nil]);first|done|rfl|(simp only[List.length_drop,List.length_take];rfl)) ?_;(with_reducible refine (laws_toCompany.calls a0_0 a0_1 t302 t303 _ A30.out).mono ?_);rintro e w34 ⟨rfl,hb⟩;refine ⟨_,rfl,?_⟩;have n0_:=am' (Kd.S_below (by (with_reducible repeat (first|apply Kd.S_alloc|apply Kd.S_drewN|apply Kd.S_drew));exact HO_3.out) hb);have n1_:=am' (Kd.S_below (by (with_reducible repeat (first|apply Kd.S_alloc|apply Kd.S_drewN|apply Kd.S_drew));exact HO_5.out) hb);have n2_:=am' (blk_below (g:=gb285) (o := .cells #[.int .i64 a0_0, .int .i64 a0_1] 37 (0,0)) (by (with_reducible repeat (first|refine kn' ?_ _|refine kd' ?_|refine ka' ?_ _));exact BK285.out) hb);have n3_:=am' (below_step (by repeat (first|(with_reducible first|exact HB.out|apply ba'|apply bd'|apply be'|refine bs' ?_ GE285.out)|exact HB.out)) hb);clear HO_3;clear HO_5;clear BK285;clear HB;have HO_3:=n0_;have HO_5:=n1_;have BK285:=n2_;have HB:=n3_;clear n0_ n1_ n2_ n3_;(try clear hb);(try clear hb2);(try clear hk);(try clear hi))|((with_reducible refine gate_callee (f:=56) rfl ?_);refine goesL_ (some 46) rfl rfl Try.func56 (by kernel_rfl) rfl #[.agg #[.int .i64 t302, .int .i64 t303]] rfl (by (try simp only[List.map_toArray,List.map_cons,List.map_nil]);first|done|rfl|(simp only[List.length_drop,List.length_take];rfl)) ?_;(with_reducible refine (impl_FirstRows.calls kj27 t302 t303 t304 t307 _ A31.out).mono ?_);rintro e w35 ⟨v305,rfl,ho0,hb⟩;refine ⟨_,rfl,?_⟩;obtain ⟨D312_,hdl_,hdg_⟩:=dlt_of hb;have D312_lt:=am' hdl_;have D312_ge:=am' hdg_;clear hdl_ hdg_;have n0_:=am' (Kd.S_elder' (Kd.S_dlt (by (with_reducible repeat (first|apply Kd.S_alloc|apply Kd.S_drewN|apply Kd.S_drew));exact HO_3.out) D312_lt.out) (Kd.S_base ho0) hb);have n1_:=am' (Kd.S_elder' (Kd.S_dlt (by (with_reducible repeat (first|apply Kd.S_alloc|apply Kd.S_drewN|apply Kd.S_drew));exact HO_5.out) D312_lt.out) (Kd.S_base ho0) hb);have n2_:=am' (Kd.S_lower (Kd.S_new' (Kd.S_new' (Kd.S_dge ho0 D312_ge.out) (Kd.S_lt (by (with_reducible repeat (first|apply Kd.S_alloc|apply Kd.S_drewN|apply Kd.S_drew));exact HO_3.out))) (Kd.S_lt (by (with_reducible repeat (first|apply Kd.S_alloc|apply Kd.S_drewN|apply Kd.S_drew));exact HO_5.out))) (below_size (by repeat (first|(with_reducible first|exact HB.out|apply ba'|apply bd'|apply be'|refine bs' ?_ GE285.out)|exact HB.out))));have n3_:=am' (blk_below (g:=gb285) (o := .cells #[.int .i64 a0_0, .int .i64 a0_1] 37 (0,0)) (by (with_reducible repeat (first|refine kn' ?_ _|refine kd' ?_|refine ka' ?_ _));exact BK285.out) hb);have n4_:=am' (below_step (by repeat (first|(with_reducible first|exact HB.out|apply ba'|apply bd'|apply be'|refine bs' ?_ GE285.out)|exact HB.out)) hb);clear HO_3;clear HO_5;clear BK285;clear HB;have HO_3:=n0_;have HO_5:=n1_;have HO306:=n2_;have BK285:=n3_;have HB:=n4_;clear n0_ n1_ n2_ n3_ n4_;(try clear hb);(try clear hb2);(try clear hk);(try clear hi);(try clear ho0)))
         (try simp only[Act.put,sa',sb',sc'])
         go_cut [57] (fun v57 wc=>∃ (kq:Nat) (x57_31:Bool),v57 = .bool x57_31∧Aside0 (laws_FnExactFirstRows.j4 kq t300 t299 x57_31=some r)∧Aside0 (kq≤kj27)∧Aside0 (Kd.S (Kd.slice 3 (Kd.int .i64)) 32 wc w.heap.size (fun k_=>¬ D311_ k_∧D312_ k_) (.slice Ao25 t300.length co25) t300)∧Aside0 (wc.heap[gb285]? = some (.cells #[.int .i64 a0_0, .int .i64 a0_1] 37 (0,0)))∧Aside0 (Below w.heap.size w wc))
         case first =>
          have H:=HC32.out;clear HC32;replace H:=Option.bind_eq_some_iff.mp H;obtain ⟨t308,A360,H⟩:=H;replace H:(if t308=true then (laws_FnExactFirstRows.j4 kj27 t300 t299 (t307 != t291)) else (laws_FnExactFirstRows.j4 kj27 t300 t299 true))=some r:=H;have A36:=am' A360;clear A360;by_cases c37:t308=true
          ·
           subst c37;have H1:(laws_FnExactFirstRows.j4 kj27 t300 t299 (t307 != t291))=some r:=by rw[if_pos rfl] at H;exact H
           clear H;have H:=H1;clear H1;have H':=am' H;clear H;obtain ⟨Ao38,co38,eo38⟩:=Kd.S_slice HO306.out;subst eo38;obtain ⟨Ao39,co39,eo39⟩:=Kd.S_slice HO_3.out;subst eo39;go_wp2_with (first|((with_reducible refine gate_callee (f:=20) rfl ?_);refine goesL_ (some 51) rfl rfl Try.func20 (by kernel_rfl) rfl #[.slice Ao38 t304.length co38, .slice Ao39 t288.length co39] rfl (by (try simp only[List.map_toArray,List.map_cons,List.map_nil]);first|done|rfl|(simp only[List.length_drop,List.length_take];rfl)) ?_;(with_reducible refine (laws_eqIntSS.calls kj27 _ _ t304 _ _ t288 true _ ?side1 ?side2 ?side3 ?side4 A36.out).mono ?_);(case side1=>repeat (first|exact (Kd.S_reads' HO306.out).2.2|(with_reducible refine ca' ?_ _)|(with_reducible refine cn' ?_ _)|(with_reducible refine cd' ?_)));(case side2=>exact (Kd.S_reads' HO306.out).2.1);(case side3=>repeat (first|exact (Kd.S_reads' HO_3.out).2.2|(with_reducible refine ca' ?_ _)|(with_reducible refine cn' ?_ _)|(with_reducible refine cd' ?_)));(case side4=>exact (Kd.S_reads' HO_3.out).2.1);rintro e w' ⟨rfl,⟨nd,rfl⟩⟩;refine ⟨_,rfl,?_⟩));go_meet
           case rel=>exact ⟨_,((t307 != t291)),(by first|rfl|(simp;done)|(simp[*];done)),H',⟨by have:=HJ5.out;have:=HJ19.out;have:=HJ23.out;have:=HJ27.out;first|omega|exact Nat.le_refl _⟩,⟨by (try simp only[hl5_23]);(with_reducible repeat (first|apply Kd.S_alloc|apply Kd.S_drewN|apply Kd.S_drew));exact Kd.S_mono HO_5.out (fun _ hk=>⟨hk.1.1.2,hk.1.2⟩)⟩,⟨by (try simp only[hl5_23]);(with_reducible repeat (first|refine kn' ?_ _|refine kd' ?_|refine ka' ?_ _));exact BK285.out⟩,⟨by repeat (first|(with_reducible first|exact HB.out|apply ba'|apply bd'|apply be'|refine bs' ?_ GE285.out)|exact HB.out)⟩⟩
          ·
           replace c37:=Bool.eq_false_iff.mpr c37;subst c37;have H1:(laws_FnExactFirstRows.j4 kj27 t300 t299 true)=some r:=by rw[if_neg (show ¬ (false=true) by decide)] at H;exact H
           clear H;have H:=H1;clear H1;have H':=am' H;clear H;obtain ⟨Ao40,co40,eo40⟩:=Kd.S_slice HO306.out;subst eo40;obtain ⟨Ao41,co41,eo41⟩:=Kd.S_slice HO_3.out;subst eo41;go_wp2_with (first|((with_reducible refine gate_callee (f:=20) rfl ?_);refine goesL_ (some 51) rfl rfl Try.func20 (by kernel_rfl) rfl #[.slice Ao40 t304.length co40, .slice Ao41 t288.length co41] rfl (by (try simp only[List.map_toArray,List.map_cons,List.map_nil]);first|done|rfl|(simp only[List.length_drop,List.length_take];rfl)) ?_;(with_reducible refine (laws_eqIntSS.calls kj27 _ _ t304 _ _ t288 false _ ?side1 ?side2 ?side3 ?side4 A36.out).mono ?_);(case side1=>repeat (first|exact (Kd.S_reads' HO306.out).2.2|(with_reducible refine ca' ?_ _)|(with_reducible refine cn' ?_ _)|(with_reducible refine cd' ?_)));(case side2=>exact (Kd.S_reads' HO306.out).2.1);(case side3=>repeat (first|exact (Kd.S_reads' HO_3.out).2.2|(with_reducible refine ca' ?_ _)|(with_reducible refine cn' ?_ _)|(with_reducible refine cd' ?_)));(case side4=>exact (Kd.S_reads' HO_3.out).2.1);rintro e w' ⟨rfl,⟨nd,rfl⟩⟩;refine ⟨_,rfl,?_⟩));go_meet
           case rel=>exact ⟨_,(true),(by first|rfl|(simp;done)|(simp[*];done)),H',⟨by have:=HJ5.out;have:=HJ19.out;have:=HJ23.out;have:=HJ27.out;first|omega|exact Nat.le_refl _⟩,⟨by (try simp only[hl5_23]);(with_reducible repeat (first|apply Kd.S_alloc|apply Kd.S_drewN|apply Kd.S_drew));exact Kd.S_mono HO_5.out (fun _ hk=>⟨hk.1.1.2,hk.1.2⟩)⟩,⟨by (try simp only[hl5_23]);(with_reducible repeat (first|refine kn' ?_ _|refine kd' ?_|refine ka' ?_ _));exact BK285.out⟩,⟨by repeat (first|(with_reducible first|exact HB.out|apply ba'|apply bd'|apply be'|refine bs' ?_ GE285.out)|exact HB.out)⟩⟩
         case rest =>
          clear HC32;try clear c1
          try clear c2
          try clear p2
          try clear c3
          try clear c5
          try clear c13
          try clear c15
          try clear c20
          try clear c21
          try clear c22
          try clear c27
          try clear c27b0
          try clear c29
          try clear c29b0
          try clear c29b1
          try clear c30
          try clear c37
          try clear hcz11_0
          try clear hcz11_1
          try clear hcz33_0
          try clear hcz33_1
          try clear hcz8_0
          try clear hcz8_1
          try clear hfz11_0
          try clear hfz11_1
          try clear hfz33_0
          try clear hfz33_1
          try clear hfz8_0
          try clear hfz8_1
          try clear p2
          obtain ⟨kq,x57_31,rfl,HA,HJ31,HO_5,BK285,HB⟩:=hcut;cases kq with
          | zero=>exact absurd HA.out (by simp[laws_FnExactFirstRows.j4])
          | succ kj31 =>
           have H:=HA.out;clear HA;simp only[laws_FnExactFirstRows.j4] at H;have HC42:=am' H;clear H;go_upto_if 57 with (fail)
           go_cut [] (fun wc=>∃ (kq:Nat),Aside0 (laws_FnExactFirstRows.j5 kq t300 t299=some r)∧Aside0 (kq≤kj31)∧Aside0 (Kd.S (Kd.slice 3 (Kd.int .i64)) 32 wc w.heap.size (fun k_=>¬ D311_ k_∧D312_ k_) (.slice Ao25 t300.length co25) t300)∧Aside0 (wc.heap[gb285]? = some (.cells #[.int .i64 a0_0, .int .i64 a0_1] 37 (0,0)))∧Aside0 (Below w.heap.size w wc))
           case first =>
            have H:=HC42.out;clear HC42;by_cases c43:x57_31=true
            ·
             subst c43;have H1:(some false)=some r:=by rw[if_pos rfl] at H;exact H
             clear H;have H:=H1;clear H1;obtain rfl:=Option.some.inj H;go_wp2;go_ret
             exact ⟨by first|rfl|(simp[errW_none,errW_some] <;> rfl)|(simp[*,errW_none,errW_some] <;> rfl),by repeat (first|(with_reducible first|exact HB.out|apply ba'|apply bd'|apply be'|refine bs' ?_ GE285.out)|exact HB.out)⟩
            ·
             replace c43:=Bool.eq_false_iff.mpr c43;subst c43;have H1:(laws_FnExactFirstRows.j5 kj31 t300 t299)=some r:=by rw[if_neg (show ¬ (false=true) by decide)] at H;exact H
             clear H;have H:=H1;clear H1;have H':=am' H;clear H;go_wp2;go_meet
             case rel=>exact ⟨_,H',⟨by have:=HJ5.out;have:=HJ19.out;have:=HJ23.out;have:=HJ27.out;have:=HJ31.out;first|omega|exact Nat.le_refl _⟩,⟨by (try simp only[hl5_23]);(with_reducible repeat (first|apply Kd.S_alloc|apply Kd.S_drewN|apply Kd.S_drew));exact HO_5.out⟩,⟨by (try simp only[hl5_23]);(with_reducible repeat (first|refine kn' ?_ _|refine kd' ?_|refine ka' ?_ _));exact BK285.out⟩,⟨by repeat (first|(with_reducible first|exact HB.out|apply ba'|apply bd'|apply be'|refine bs' ?_ GE285.out)|exact HB.out)⟩⟩
           case rest =>
            clear HC42;try clear c1
            try clear c2
            try clear p2
            try clear c3
            try clear c4
            try clear c5
            try clear c13
            try clear c15
            try clear c20
            try clear c21
            try clear c22
            try clear c27
            try clear c27b0
            try clear c29
            try clear c29b0
            try clear c29b1
            try clear c30
            try clear c37
            try clear c43
            try clear hcz11_0
            try clear hcz11_1
            try clear hcz33_0
            try clear hcz33_1
            try clear hcz8_0
            try clear hcz8_1
            try clear hfz11_0
            try clear hfz11_1
            try clear hfz33_0
            try clear hfz33_1
            try clear hfz8_0
            try clear hfz8_1
            try clear p2
            obtain ⟨kq,HA,HJ41,HO_5,BK285,HB⟩:=hcut;cases kq with
            | zero=>exact absurd HA.out (by simp[laws_FnExactFirstRows.j5])
            | succ kj41 =>
             have H:=HA.out;clear HA;simp only[laws_FnExactFirstRows.j5] at H;replace H:=Option.bind_eq_some_iff.mp H;obtain ⟨t309,A440,H⟩:=H;replace H:(if t309 < 0 then (some false) else (if t309=t299 then (some true) else (some false)))=some r:=H;have A44:=am' A440;clear A440;by_cases c45:t309 < 0
             ·
              rw[if_pos c45] at H;have c45b0:decide (t309 < 0)=true:=decide_eq_true c45;clear c45;obtain rfl:=Option.some.inj H;go_wp2_with (first|((with_reducible refine gate_callee (f:=22) rfl ?_);refine goesL_ (some 60) rfl rfl Try.func22 (by kernel_rfl) rfl #[.slice Ao25 t300.length co25, .int .i64 1] rfl (by (try simp only[List.map_toArray,List.map_cons,List.map_nil]);first|done|rfl|(simp only[List.length_drop,List.length_take];rfl)) ?_;(with_reducible refine (laws_heldIntSS.calls kj41 _ _ t300 1 t309 _ ?side1 ?side2 A44.out).mono ?_);(case side1=>repeat (first|exact (Kd.S_reads' HO_5.out).2.2|(with_reducible refine ca' ?_ _)|(with_reducible refine cn' ?_ _)|(with_reducible refine cd' ?_)));(case side2=>exact (Kd.S_reads' HO_5.out).2.1);rintro e w' ⟨rfl,⟨nd,rfl⟩⟩;refine ⟨_,rfl,?_⟩));go_ret
              exact ⟨by first|rfl|(simp[errW_none,errW_some] <;> rfl)|(simp[*,errW_none,errW_some] <;> rfl),by repeat (first|(with_reducible first|exact HB.out|apply ba'|apply bd'|apply be'|refine bs' ?_ GE285.out)|exact HB.out)⟩
             ·
              rw[if_neg c45] at H;have c45b0:decide (t309 < 0)=false:=decide_eq_false c45;clear c45;by_cases c46:t309=t299
              ·
               rw[if_pos c46] at H;have c46b0:(t309 == t299)=true:=beq_iff_eq.mpr c46;have c46b1:(t309 != t299)=false:=bne_eq_false_iff_eq.mpr c46;clear c46;obtain rfl:=Option.some.inj H;go_wp2_with (first|((with_reducible refine gate_callee (f:=22) rfl ?_);refine goesL_ (some 60) rfl rfl Try.func22 (by kernel_rfl) rfl #[.slice Ao25 t300.length co25, .int .i64 1] rfl (by (try simp only[List.map_toArray,List.map_cons,List.map_nil]);first|done|rfl|(simp only[List.length_drop,List.length_take];rfl)) ?_;(with_reducible refine (laws_heldIntSS.calls kj41 _ _ t300 1 t309 _ ?side1 ?side2 A44.out).mono ?_);(case side1=>repeat (first|exact (Kd.S_reads' HO_5.out).2.2|(with_reducible refine ca' ?_ _)|(with_reducible refine cn' ?_ _)|(with_reducible refine cd' ?_)));(case side2=>exact (Kd.S_reads' HO_5.out).2.1);rintro e w' ⟨rfl,⟨nd,rfl⟩⟩;refine ⟨_,rfl,?_⟩));go_ret
               exact ⟨by first|rfl|(simp[errW_none,errW_some] <;> rfl)|(simp[*,errW_none,errW_some] <;> rfl),by repeat (first|(with_reducible first|exact HB.out|apply ba'|apply bd'|apply be'|refine bs' ?_ GE285.out)|exact HB.out)⟩
              ·
               rw[if_neg c46] at H;have c46b0:(t309 == t299)=false:=beq_eq_false_iff_ne.mpr c46;have c46b1:(t309 != t299)=true:=bne_iff_ne.mpr c46;obtain rfl:=Option.some.inj H;go_wp2_with (first|((with_reducible refine gate_callee (f:=22) rfl ?_);refine goesL_ (some 60) rfl rfl Try.func22 (by kernel_rfl) rfl #[.slice Ao25 t300.length co25, .int .i64 1] rfl (by (try simp only[List.map_toArray,List.map_cons,List.map_nil]);first|done|rfl|(simp only[List.length_drop,List.length_take];rfl)) ?_;(with_reducible refine (laws_heldIntSS.calls kj41 _ _ t300 1 t309 _ ?side1 ?side2 A44.out).mono ?_);(case side1=>repeat (first|exact (Kd.S_reads' HO_5.out).2.2|(with_reducible refine ca' ?_ _)|(with_reducible refine cn' ?_ _)|(with_reducible refine cd' ?_)));(case side2=>exact (Kd.S_reads' HO_5.out).2.1);rintro e w' ⟨rfl,⟨nd,rfl⟩⟩;refine ⟨_,rfl,?_⟩));go_ret
               exact ⟨by first|rfl|(simp[errW_none,errW_some] <;> rfl)|(simp[*,errW_none,errW_some] <;> rfl),by repeat (first|(with_reducible first|exact HB.out|apply ba'|apply bd'|apply be'|refine bs' ?_ GE285.out)|exact HB.out)⟩
end Go.Proofs.Ytibdeohiimjocaa.C19
