import Derived.Test.YtmfofjloklafoaaC3zx0
import Derived.Test.YtmfofjloklafoaaC3zx1
import Derived.Test.YtmfofjloklafoaaC3zx2
import Derived.Test.YtmfofjloklafoaaC3zx9
import Derived.Test.YtmfofjloklafoaaC3zx16
import Derived.Test.YtmfofjloklafoaaC3zAl
namespace Go.Proofs.Ytmfofjloklafoaa.C3
open Go.RowKit Go.Proofs.YtmfofjloklafoaaW.PrintWords Go.Proofs.YtmfofjloklafoaaW.PrintLast Go.Proofs.YtmfofjloklafoaaW.PrintMore Go.Proofs.Ytmfofjloklafoaa.H
attribute [local go_sem] max2_int min2_int max_two min_two max_three min_three max_four min_four
set_option linter.unusedVariables false
set_option linter.unusedSimpArgs false
mutual
def laws_FnExactCountReachedBanks.j0:Nat→Int→List (List Int)→Int→Option (Bool)
 | 0,_,_,_=>none
 | k+1,x362000,x362001,x362002=>(laws_toKeep.f k x362000 x362001 x362002).bind fun bt363=>((spec_CountReachedBanks.f k bt363.1 bt363.2.1 bt363.2.2).bind fun bt368=>((laws_toKeep.f k x362000 x362001 x362002).bind fun bt370=>((impl_CountReachedBanks.f k bt370.1 bt370.2.1 bt370.2.2).bind fun bt376=>(if bt376.1=bt368.1 then (laws_FnExactCountReachedBanks.j1 k (bt376.2 != bt368.2) x362000 x362001 x362002 bt370.1 bt370.2.1 bt370.2.2) else (laws_FnExactCountReachedBanks.j1 k true x362000 x362001 x362002 bt370.1 bt370.2.1 bt370.2.2)))))
def laws_FnExactCountReachedBanks.j1:Nat→Bool→Int→List (List Int)→Int→Int→List (List Int)→Int→Option (Bool)
 | 0,_,_,_,_,_,_,_=>none
 | k+1,x34,x362000,x362001,x362002,x376000,x376001,x376002=>if x34=true then (some false) else (laws_FnExactCountReachedBanks.j2 k x362000 x362001 x362002 x376000 x376001 x376002)
def laws_FnExactCountReachedBanks.j2:Nat→Int→List (List Int)→Int→Int→List (List Int)→Int→Option (Bool)
 | 0,_,_,_,_,_,_=>none
 | k+1,x362000,x362001,x362002,x376000,x376001,x376002=>(laws_toKeep.f k x362000 x362001 x362002).bind fun bt378=>((laws_eqKeep.f k x376000 x376001 x376002 bt378.1 bt378.2.1 bt378.2.2).bind fun t383=>(if t383=true then (some true) else (some false)))
end
def laws_FnExactCountReachedBanks.f (k:Nat) (a0_0:Int) (l0_1:List (List Int)) (a0_2:Int):Option (Bool):=(laws_szKeep.f k a0_0 l0_1 a0_2 1048576).bind fun t362=>(if t362 < 0 then (some true) else (laws_FnExactCountReachedBanks.j0 k a0_0 l0_1 a0_2))
set_option maxHeartbeats 8000000 in
set_option maxRecDepth 100000 in
theorem laws_FnExactCountReachedBanks.calls (k:Nat) (a0_0:Int) (A0_1:Option Addr) (c0_1:Nat) (l0_1:List (List Int)) (a0_2:Int) (r:Bool) (w:World) (hr0_1:Kd.C (Kd.slice 3 (Kd.int .i64)) w A0_1 l0_1.length l0_1) (hc0_1:l0_1.length≤c0_1) (h:laws_FnExactCountReachedBanks.f k a0_0 l0_1 a0_2=some r) :
  Calls Try.prog 7 #[.agg #[.int .i64 a0_0, .slice A0_1 l0_1.length c0_1, .int .i64 a0_2]] w fun e w'=>e = .returned (.bool r)∧Below w.heap.size w w':=by
 have hu24:=Try.underlying24
 have hu32:=Try.underlying32
 have HR0_1:=am' hr0_1
 have HC0_1:=am' hc0_1
 clear hr0_1 hc0_1;have HB:=am' (Below.refl w.heap.size w)
 have H:((laws_szKeep.f k a0_0 l0_1 a0_2 1048576).bind fun t362=>(if t362 < 0 then (some true) else (laws_FnExactCountReachedBanks.j0 k a0_0 l0_1 a0_2)))=some r:=h
 clear h;replace H:=Option.bind_eq_some_iff.mp H
 obtain ⟨t362,A20,H⟩:=H
 replace H:(if t362 < 0 then (some true) else (laws_FnExactCountReachedBanks.j0 k a0_0 l0_1 a0_2))=some r:=H
 have A2:=am' A20
 clear A20;have HC3:=am' H
 clear H;go_enter Try.func7,Try.ntmps7
 go_upto_if 13 with (first|((with_reducible refine gate_dst (N:=1) rfl ?_);refine box_event ?hg (N:=1) ?hd (cs:=#[.int .i64 a0_0, .slice A0_1 l0_1.length c0_1, .int .i64 a0_2]) (t:=24) ?hr ?_;(case hd=>rfl);(case hg=>rfl);(case hr=>first|(go_simp;done)|(go_simp;rfl));intro gb361 hg w4 hbox hb;have n0_:=am' (below_step (by repeat (first|(with_reducible first|exact HB.out|apply ba'|apply bd'|apply be')|exact HB.out)) hb);have n1_:=am' (hbox);have n2_:=am' ((by rw[hg];exact (below_size (by repeat (first|(with_reducible first|exact HB.out|apply ba'|apply bd'|apply be')|exact HB.out))):w.heap.size≤gb361));have n3_:=am' ((by rw[hg];exact (below_size (by repeat (first|(with_reducible first|exact HB.out|apply ba'|apply bd'|apply be')|exact HB.out))):w.heap.size≤gb361));clear HB;have HB:=n0_;have BK361:=n1_;have GW361:=n2_;have GE361:=n3_;clear n0_ n1_ n2_ n3_;clear hb hbox hg;have hcz5_0:w4.cell? ⟨gb361,0,none⟩=some (.int .i64 a0_0):=(blk_cell BK361.out 0).trans rfl;have hcz5_1:w4.cell? ⟨gb361,1,none⟩=some (.slice A0_1 l0_1.length c0_1):=(blk_cell BK361.out 1).trans rfl;have hcz5_2:w4.cell? ⟨gb361,2,none⟩=some (.int .i64 a0_2):=(blk_cell BK361.out 2).trans rfl;have hfz5_0:=blk_frozen BK361.out 0;have hfz5_1:=blk_frozen BK361.out 1;have hfz5_2:=blk_frozen BK361.out 2)|((with_reducible refine gate_callee (f:=9) rfl ?_);refine goesL_ (some 11) rfl rfl Try.func9 (by kernel_rfl) rfl #[.agg #[.int .i64 a0_0, .slice A0_1 l0_1.length c0_1, .int .i64 a0_2], .int .i64 1048576] rfl (by (try simp only[List.map_toArray,List.map_cons,List.map_nil]);first|done|rfl|(simp only[List.length_drop,List.length_take];rfl)) ?_;(with_reducible refine (laws_szKeep.calls k a0_0 _ _ l0_1 a0_2 1048576 t362 _ ?side1 ?side2 A2.out).mono ?_);(case side1=>repeat (first|exact (Kd.C_below HR0_1.out HB.out)|(with_reducible refine ca' ?_ _)|(with_reducible refine cn' ?_ _)|(with_reducible refine cd' ?_)));(case side2=>exact HC0_1.out);rintro e w6 ⟨rfl,hb⟩;refine ⟨_,rfl,?_⟩;have n0_:=am' (blk_below (g:=gb361) (o := .cells #[.int .i64 a0_0, .slice A0_1 l0_1.length c0_1, .int .i64 a0_2] 24 (0,0)) (by (with_reducible repeat (first|refine kn' ?_ _|refine kd' ?_|refine ka' ?_ _));exact BK361.out) hb);have n1_:=am' (below_step (by repeat (first|(with_reducible first|exact HB.out|apply ba'|apply bd'|apply be'|refine bs' ?_ GE361.out)|exact HB.out)) hb);clear BK361;clear HB;have BK361:=n0_;have HB:=n1_;clear n0_ n1_;(try clear hb);(try clear hb2);(try clear hk);(try clear hi)))
 (try simp only[Act.put,sa',sb',sc'])
 go_cut [] (fun wc=>∃ (kq:Nat),Aside0 (laws_FnExactCountReachedBanks.j0 kq a0_0 l0_1 a0_2=some r)∧Aside0 (kq≤k)∧Aside0 (wc.heap[gb361]? = some (.cells #[.int .i64 a0_0,(.slice A0_1 l0_1.length c0_1), .int .i64 a0_2] 24 (0,0)))∧Aside0 (Below w.heap.size w wc))
 case first =>
  have H:=HC3.out;clear HC3;by_cases c7:t362 < 0
  ·
   rw[if_pos c7] at H;have c7b0:decide (t362 < 0)=true:=decide_eq_true c7;clear c7;(first|rw[c7b0]|(simp only[i64_w,i32_w];rw[c7b0])|skip)
   obtain rfl:=Option.some.inj H;go_wp2;go_ret
   exact ⟨by first|rfl|(simp[errW_none,errW_some] <;> rfl)|(simp[*,errW_none,errW_some] <;> rfl),by repeat (first|(with_reducible first|exact HB.out|apply ba'|apply bd'|apply be'|refine bs' ?_ GE361.out)|exact HB.out)⟩
  ·
   rw[if_neg c7] at H;have c7b0:decide (t362 < 0)=false:=decide_eq_false c7;clear c7;(first|rw[c7b0]|(simp only[i64_w,i32_w];rw[c7b0])|skip)
   have H':=am' H;clear H;go_wp2;go_meet
   case rel=>exact ⟨_,H',⟨by first|omega|exact Nat.le_refl _⟩,⟨by (with_reducible repeat (first|refine kn' ?_ _|refine kd' ?_|refine ka' ?_ _));exact BK361.out⟩,⟨by repeat (first|(with_reducible first|exact HB.out|apply ba'|apply bd'|apply be'|refine bs' ?_ GE361.out)|exact HB.out)⟩⟩
 case rest =>
  clear HC3;try clear p2
  try clear c7
  try clear c7b0
  try clear hcz5_0
  try clear hcz5_1
  try clear hcz5_2
  try clear hfz5_0
  try clear hfz5_1
  try clear hfz5_2
  obtain ⟨kq,HA,HJ2,BK361,HB⟩:=hcut;cases kq with
  | zero=>exact absurd HA.out (by simp[laws_FnExactCountReachedBanks.j0])
  | succ kj2 =>
   have H:=HA.out;clear HA;simp only[laws_FnExactCountReachedBanks.j0] at H;replace H:=Option.bind_eq_some_iff.mp H;obtain ⟨⟨t363,t364,t367⟩,A80,H⟩:=H;replace H:((spec_CountReachedBanks.f kj2 t363 t364 t367).bind fun bt368=>((laws_toKeep.f kj2 a0_0 l0_1 a0_2).bind fun bt370=>((impl_CountReachedBanks.f kj2 bt370.1 bt370.2.1 bt370.2.2).bind fun bt376=>(if bt376.1=bt368.1 then (laws_FnExactCountReachedBanks.j1 kj2 (bt376.2 != bt368.2) a0_0 l0_1 a0_2 bt370.1 bt370.2.1 bt370.2.2) else (laws_FnExactCountReachedBanks.j1 kj2 true a0_0 l0_1 a0_2 bt370.1 bt370.2.1 bt370.2.2)))))=some r:=H;have A8:=am' A80;clear A80;replace H:=Option.bind_eq_some_iff.mp H;obtain ⟨⟨t368,t369⟩,A90,H⟩:=H;replace H:((laws_toKeep.f kj2 a0_0 l0_1 a0_2).bind fun bt370=>((impl_CountReachedBanks.f kj2 bt370.1 bt370.2.1 bt370.2.2).bind fun bt376=>(if bt376.1=t368 then (laws_FnExactCountReachedBanks.j1 kj2 (bt376.2 != t369) a0_0 l0_1 a0_2 bt370.1 bt370.2.1 bt370.2.2) else (laws_FnExactCountReachedBanks.j1 kj2 true a0_0 l0_1 a0_2 bt370.1 bt370.2.1 bt370.2.2))))=some r:=H;have A9:=am' A90;clear A90;replace H:=Option.bind_eq_some_iff.mp H;obtain ⟨⟨t370,t371,t374⟩,A100,H⟩:=H;replace H:((impl_CountReachedBanks.f kj2 t370 t371 t374).bind fun bt376=>(if bt376.1=t368 then (laws_FnExactCountReachedBanks.j1 kj2 (bt376.2 != t369) a0_0 l0_1 a0_2 t370 t371 t374) else (laws_FnExactCountReachedBanks.j1 kj2 true a0_0 l0_1 a0_2 t370 t371 t374)))=some r:=H;have A10:=am' A100;clear A100;replace H:=Option.bind_eq_some_iff.mp H;obtain ⟨⟨t376,t377⟩,A110,H⟩:=H;replace H:(if t376=t368 then (laws_FnExactCountReachedBanks.j1 kj2 (t377 != t369) a0_0 l0_1 a0_2 t370 t371 t374) else (laws_FnExactCountReachedBanks.j1 kj2 true a0_0 l0_1 a0_2 t370 t371 t374))=some r:=H;have A11:=am' A110;clear A110;have HC12:=am' H;clear H;have hcz13_0:wc.cell? ⟨gb361,0,none⟩=some (.int .i64 a0_0):=(blk_cell BK361.out 0).trans rfl;have hcz13_1:wc.cell? ⟨gb361,1,none⟩=some (.slice A0_1 l0_1.length c0_1):=(blk_cell BK361.out 1).trans rfl;have hcz13_2:wc.cell? ⟨gb361,2,none⟩=some (.int .i64 a0_2):=(blk_cell BK361.out 2).trans rfl;have hfz13_0:=blk_frozen BK361.out 0;have hfz13_1:=blk_frozen BK361.out 1;have hfz13_2:=blk_frozen BK361.out 2;go_upto_region 8 with (first|((with_reducible refine gate_callee (f:=12) rfl ?_);refine goesL_ (some 16) rfl rfl Try.func12 (by kernel_rfl) rfl #[.agg #[.int .i64 a0_0, .slice A0_1 l0_1.length c0_1, .int .i64 a0_2]] rfl (by (try simp only[List.map_toArray,List.map_cons,List.map_nil]);first|done|rfl|(simp only[List.length_drop,List.length_take];rfl)) ?_;(with_reducible refine (laws_toKeep.calls kj2 a0_0 _ _ l0_1 a0_2 t363 t364 t367 _ ?side1 ?side2 A8.out).mono ?_);(case side1=>repeat (first|exact (Kd.C_below HR0_1.out HB.out)|(with_reducible refine ca' ?_ _)|(with_reducible refine cn' ?_ _)|(with_reducible refine cd' ?_)));(case side2=>exact HC0_1.out);rintro e w14 ⟨v365,rfl,ho0,hb⟩;refine ⟨_,rfl,?_⟩;obtain ⟨D384_,hdl_,hdg_⟩:=dlt_of hb;have D384_lt:=am' hdl_;have D384_ge:=am' hdg_;clear hdl_ hdg_;have n0_:=am' (Kd.S_lower (Kd.S_dge ho0 D384_ge.out) (below_size (by repeat (first|(with_reducible first|exact HB.out|apply ba'|apply bd'|apply be'|refine bs' ?_ GE361.out)|exact HB.out))));have n1_:=am' (blk_below (g:=gb361) (o := .cells #[.int .i64 a0_0, .slice A0_1 l0_1.length c0_1, .int .i64 a0_2] 24 (0,0)) (by (with_reducible repeat (first|refine kn' ?_ _|refine kd' ?_|refine ka' ?_ _));exact BK361.out) hb);have n2_:=am' (below_step (by repeat (first|(with_reducible first|exact HB.out|apply ba'|apply bd'|apply be'|refine bs' ?_ GE361.out)|exact HB.out)) hb);clear BK361;clear HB;have HO366:=n0_;have BK361:=n1_;have HB:=n2_;clear n0_ n1_ n2_;(try clear hb);(try clear hb2);(try clear hk);(try clear hi);(try clear ho0);obtain ⟨Ao15,co15,eo15⟩:=Kd.S_slice HO366.out;subst eo15)|((with_reducible refine gate_callee (f:=47) rfl ?_);refine goesL_ (some 17) rfl rfl Try.func47 (by kernel_rfl) rfl #[.agg #[.int .i64 t363, .slice Ao15 t364.length co15, .int .i64 t367]] rfl (by (try simp only[List.map_toArray,List.map_cons,List.map_nil]);first|done|rfl|(simp only[List.length_drop,List.length_take];rfl)) ?_;(with_reducible refine (spec_CountReachedBanks.calls kj2 t363 _ _ t364 t367 t368 t369 _ ?side1 ?side2 A9.out).mono ?_);(case side1=>repeat (first|exact (Kd.S_reads' HO366.out).2.2|(with_reducible refine ca' ?_ _)|(with_reducible refine cn' ?_ _)|(with_reducible refine cd' ?_)));(case side2=>exact (Kd.S_reads' HO366.out).2.1);rintro e w16 ⟨rfl,hb⟩;refine ⟨_,rfl,?_⟩;have n0_:=am' (Kd.S_below (by (with_reducible repeat (first|apply Kd.S_alloc|apply Kd.S_drewN|apply Kd.S_drew));exact HO366.out) hb);have n1_:=am' (blk_below (g:=gb361) (o := .cells #[.int .i64 a0_0, .slice A0_1 l0_1.length c0_1, .int .i64 a0_2] 24 (0,0)) (by (with_reducible repeat (first|refine kn' ?_ _|refine kd' ?_|refine ka' ?_ _));exact BK361.out) hb);have n2_:=am' (below_step (by repeat (first|(with_reducible first|exact HB.out|apply ba'|apply bd'|apply be'|refine bs' ?_ GE361.out)|exact HB.out)) hb);clear HO366;clear BK361;clear HB;have HO366:=n0_;have BK361:=n1_;have HB:=n2_;clear n0_ n1_ n2_;(try clear hb);(try clear hb2);(try clear hk);(try clear hi);have hcz17_0:w16.cell? ⟨gb361,0,none⟩=some (.int .i64 a0_0):=(blk_cell BK361.out 0).trans rfl;have hcz17_1:w16.cell? ⟨gb361,1,none⟩=some (.slice A0_1 l0_1.length c0_1):=(blk_cell BK361.out 1).trans rfl;have hcz17_2:w16.cell? ⟨gb361,2,none⟩=some (.int .i64 a0_2):=(blk_cell BK361.out 2).trans rfl;have hfz17_0:=blk_frozen BK361.out 0;have hfz17_1:=blk_frozen BK361.out 1;have hfz17_2:=blk_frozen BK361.out 2)|((with_reducible refine gate_callee (f:=12) rfl ?_);refine goesL_ (some 21) rfl rfl Try.func12 (by kernel_rfl) rfl #[.agg #[.int .i64 a0_0, .slice A0_1 l0_1.length c0_1, .int .i64 a0_2]] rfl (by (try simp only[List.map_toArray,List.map_cons,List.map_nil]);first|done|rfl|(simp only[List.length_drop,List.length_take];rfl)) ?_;(with_reducible refine (laws_toKeep.calls kj2 a0_0 _ _ l0_1 a0_2 t370 t371 t374 _ ?side1 ?side2 A10.out).mono ?_);(case side1=>repeat (first|exact (Kd.C_below HR0_1.out HB.out)|(with_reducible refine ca' ?_ _)|(with_reducible refine cn' ?_ _)|(with_reducible refine cd' ?_)));(case side2=>exact HC0_1.out);rintro e w18 ⟨v372,rfl,ho0,hb⟩;refine ⟨_,rfl,?_⟩;obtain ⟨D385_,hdl_,hdg_⟩:=dlt_of hb;have D385_lt:=am' hdl_;have D385_ge:=am' hdg_;clear hdl_ hdg_;have n0_:=am' (Kd.S_elder' (Kd.S_dlt (by (with_reducible repeat (first|apply Kd.S_alloc|apply Kd.S_drewN|apply Kd.S_drew));exact HO366.out) D385_lt.out) (Kd.S_base ho0) hb);have n1_:=am' (Kd.S_lower (Kd.S_new' (Kd.S_dge ho0 D385_ge.out) (Kd.S_lt (by (with_reducible repeat (first|apply Kd.S_alloc|apply Kd.S_drewN|apply Kd.S_drew));exact HO366.out))) (below_size (by repeat (first|(with_reducible first|exact HB.out|apply ba'|apply bd'|apply be'|refine bs' ?_ GE361.out)|exact HB.out))));have n2_:=am' (blk_below (g:=gb361) (o := .cells #[.int .i64 a0_0, .slice A0_1 l0_1.length c0_1, .int .i64 a0_2] 24 (0,0)) (by (with_reducible repeat (first|refine kn' ?_ _|refine kd' ?_|refine ka' ?_ _));exact BK361.out) hb);have n3_:=am' (below_step (by repeat (first|(with_reducible first|exact HB.out|apply ba'|apply bd'|apply be'|refine bs' ?_ GE361.out)|exact HB.out)) hb);clear HO366;clear BK361;clear HB;have HO366:=n0_;have HO373:=n1_;have BK361:=n2_;have HB:=n3_;clear n0_ n1_ n2_ n3_;(try clear hb);(try clear hb2);(try clear hk);(try clear hi);(try clear ho0))|((with_reducible refine gate_dst (N:=6) rfl ?_);refine box_event ?hg (N:=6) ?hd (cs:=#[.int .i64 0, .slice none 0 0, .int .i64 0]) (t:=32) ?hr ?_;(case hd=>rfl);(case hg=>rfl);(case hr=>first|(go_simp;done)|(go_simp;rfl));intro gb375 hg w19 hbox hb;have n0_:=am' (Kd.S_below (by (with_reducible repeat (first|apply Kd.S_alloc|apply Kd.S_drewN|apply Kd.S_drew));exact HO366.out) hb);have n1_:=am' (Kd.S_below (by (with_reducible repeat (first|apply Kd.S_alloc|apply Kd.S_drewN|apply Kd.S_drew));exact HO373.out) hb);have n2_:=am' (blk_below (g:=gb361) (o := .cells #[.int .i64 a0_0, .slice A0_1 l0_1.length c0_1, .int .i64 a0_2] 24 (0,0)) (by (with_reducible repeat (first|refine kn' ?_ _|refine kd' ?_|refine ka' ?_ _));exact BK361.out) hb);have n3_:=am' (below_step (by repeat (first|(with_reducible first|exact HB.out|apply ba'|apply bd'|apply be'|refine bs' ?_ GE361.out)|exact HB.out)) hb);have n4_:=am' (hbox);have n5_:=am' ((by rw[hg];exact (below_size (by repeat (first|(with_reducible first|exact HB.out|apply ba'|apply bd'|apply be'|refine bs' ?_ GE361.out)|exact HB.out))):w.heap.size≤gb375));have n6_:=am' ((by rw[hg];exact (below_size (by repeat (first|(with_reducible first|exact HB.out|apply ba'|apply bd'|apply be'|refine bs' ?_ GE361.out)|exact HB.out))):w.heap.size≤gb375));have n7_:=am' ((by rw[hg];exact Nat.ne_of_lt (blk_lt (g:=gb361) (o := .cells #[.int .i64 a0_0, .slice A0_1 l0_1.length c0_1, .int .i64 a0_2] 24 (0,0)) (by (with_reducible repeat (first|refine kn' ?_ _|refine kd' ?_|refine ka' ?_ _));exact BK361.out)):gb361≠gb375));have n8_:=am' ((by rw[hg];exact Nat.ne_of_gt (blk_lt (g:=gb361) (o := .cells #[.int .i64 a0_0, .slice A0_1 l0_1.length c0_1, .int .i64 a0_2] 24 (0,0)) (by (with_reducible repeat (first|refine kn' ?_ _|refine kd' ?_|refine ka' ?_ _));exact BK361.out)):gb375≠gb361));clear HO366;clear HO373;clear BK361;clear HB;have HO366:=n0_;have HO373:=n1_;have BK361:=n2_;have HB:=n3_;have BK375:=n4_;have GW375:=n5_;have GE375:=n6_;have NB361_375:=n7_;have NB375_361:=n8_;clear n0_ n1_ n2_ n3_ n4_ n5_ n6_ n7_ n8_;clear hb hbox hg;have hnb20:=NB375_361.out;have hnc20:=NB361_375.out;have hcz21_0:w19.cell? ⟨gb375,0,none⟩=some (.int .i64 0):=(blk_cell BK375.out 0).trans rfl;have hcz21_1:w19.cell? ⟨gb375,1,none⟩=some (.slice none 0 0):=(blk_cell BK375.out 1).trans rfl;have hcz21_2:w19.cell? ⟨gb375,2,none⟩=some (.int .i64 0):=(blk_cell BK375.out 2).trans rfl;have hfz21_0:=blk_frozen BK375.out 0;have hfz21_1:=blk_frozen BK375.out 1;have hfz21_2:=blk_frozen BK375.out 2;obtain ⟨Ao22,co22,eo22⟩:=Kd.S_slice HO373.out;subst eo22)|((with_reducible refine gate_callee (f:=48) rfl ?_);refine goesL_ (some 24) rfl rfl Try.func48 (by kernel_rfl) rfl #[.agg #[.int .i64 t370, .slice Ao22 t371.length co22, .int .i64 t374]] rfl (by (try simp only[List.map_toArray,List.map_cons,List.map_nil]);first|done|rfl|(simp only[List.length_drop,List.length_take];rfl)) ?_;(with_reducible refine (impl_CountReachedBanks.calls kj2 t370 _ _ t371 t374 t376 t377 _ ?side1 ?side2 A11.out).mono ?_);(case side1=>refine (Kd.S_reads' (e:=43) (base:=w.heap.size) (ok:=fun k_=>((True∧¬ D385_ k_)∧some k_≠(.slice Ao15 t364.length co15:Value).ownBlock)) (n:=t371.length) (c:=co22) ?_).2.2;exact (by (with_reducible repeat (first|apply Kd.S_alloc|apply Kd.S_drewN|apply Kd.S_drew));exact (Kd.S_mono (Kd.S_far (p:=⟨gb375,2,none⟩) (Kd.S_far (p:=⟨gb375,1,none⟩) (Kd.S_far (p:=⟨gb375,0,none⟩) (Kd.S_types HO373.out BK375.out (by decide)) (fun _ hk=>hk.2) (.int .i64 t370)) (fun _ hk=>hk.2) (.slice Ao22 t371.length co22)) (fun _ hk=>hk.2) (.int .i64 t374)) (fun _ h_=>h_.1))));(case side2=>exact (Kd.S_reads' HO373.out).2.1);rintro e w23 ⟨rfl,hb⟩;refine ⟨_,rfl,?_⟩;have n0_:=am' (Kd.S_below (by (with_reducible repeat (first|apply Kd.S_alloc|apply Kd.S_drewN|apply Kd.S_drew));exact (Kd.S_mono (Kd.S_far (p:=⟨gb375,2,none⟩) (Kd.S_far (p:=⟨gb375,1,none⟩) (Kd.S_far (p:=⟨gb375,0,none⟩) (Kd.S_types HO366.out BK375.out (by decide)) (fun _ hk=>hk.2) (.int .i64 t370)) (fun _ hk=>hk.2) (.slice Ao22 t371.length co22)) (fun _ hk=>hk.2) (.int .i64 t374)) (fun _ h_=>h_.1))) hb);have n1_:=am' (Kd.S_below (by (with_reducible repeat (first|apply Kd.S_alloc|apply Kd.S_drewN|apply Kd.S_drew));exact (Kd.S_mono (Kd.S_far (p:=⟨gb375,2,none⟩) (Kd.S_far (p:=⟨gb375,1,none⟩) (Kd.S_far (p:=⟨gb375,0,none⟩) (Kd.S_types HO373.out BK375.out (by decide)) (fun _ hk=>hk.2) (.int .i64 t370)) (fun _ hk=>hk.2) (.slice Ao22 t371.length co22)) (fun _ hk=>hk.2) (.int .i64 t374)) (fun _ h_=>h_.1))) hb);have n2_:=am' (blk_below (g:=gb361) (o := .cells #[.int .i64 a0_0, .slice A0_1 l0_1.length c0_1, .int .i64 a0_2] 24 (0,0)) (by (with_reducible repeat (first|refine kn' ?_ _|refine kd' ?_|refine ka' ?_ _));refine blk_far ?_ NB361_375.out _;(with_reducible repeat (first|refine kn' ?_ _|refine kd' ?_|refine ka' ?_ _));refine blk_far ?_ NB361_375.out _;(with_reducible repeat (first|refine kn' ?_ _|refine kd' ?_|refine ka' ?_ _));refine blk_far ?_ NB361_375.out _;(with_reducible repeat (first|refine kn' ?_ _|refine kd' ?_|refine ka' ?_ _));exact BK361.out) hb);have n3_:=am' (blk_below (g:=gb375) (o := .cells #[.int .i64 t370, .slice Ao22 t371.length co22, .int .i64 t374] 32 (0,0)) (by (with_reducible repeat (first|refine kn' ?_ _|refine kd' ?_|refine ka' ?_ _));refine blk_put (cs:=#[.int .i64 t370, .slice Ao22 t371.length co22, .int .i64 0]) ?_ 2 _ rfl;(with_reducible repeat (first|refine kn' ?_ _|refine kd' ?_|refine ka' ?_ _));refine blk_put (cs:=#[.int .i64 t370, .slice none 0 0, .int .i64 0]) ?_ 1 _ rfl;(with_reducible repeat (first|refine kn' ?_ _|refine kd' ?_|refine ka' ?_ _));refine blk_put (cs:=#[.int .i64 0, .slice none 0 0, .int .i64 0]) ?_ 0 _ rfl;(with_reducible repeat (first|refine kn' ?_ _|refine kd' ?_|refine ka' ?_ _));exact BK375.out) hb);have n4_:=am' (below_step (by repeat (first|(with_reducible first|exact HB.out|apply ba'|apply bd'|apply be'|refine bs' ?_ GE361.out|refine bs' ?_ GE375.out)|exact HB.out)) hb);clear HO366;clear HO373;clear BK361;clear BK375;clear HB;have HO366:=n0_;have HO373:=n1_;have BK361:=n2_;have BK375:=n3_;have HB:=n4_;clear n0_ n1_ n2_ n3_ n4_;(try clear hb);(try clear hb2);(try clear hk);(try clear hi)))
   (try simp only[Act.put,sa',sb',sc'])
   go_cut [34] (fun v34 wc=>∃ (kq:Nat) (x34_11:Bool),v34 = .bool x34_11∧Aside0 (laws_FnExactCountReachedBanks.j1 kq x34_11 a0_0 l0_1 a0_2 t370 t371 t374=some r)∧Aside0 (kq≤kj2)∧Aside0 (Kd.S (Kd.slice 3 (Kd.int .i64)) 43 wc w.heap.size (fun k_=>¬ D385_ k_) (.slice Ao22 t371.length co22) t371)∧Aside0 (wc.heap[gb361]? = some (.cells #[.int .i64 a0_0,(.slice A0_1 l0_1.length c0_1), .int .i64 a0_2] 24 (0,0)))∧Aside0 (wc.heap[gb375]? = some (.cells #[.int .i64 t370,(.slice Ao22 t371.length co22), .int .i64 t374] 32 (0,0)))∧Aside0 (Below w.heap.size w wc))
   case first =>
    have H:=HC12.out;clear HC12;by_cases c24:t376=t368
    ·
     rw[if_pos c24] at H;have c24b0:(t376 == t368)=true:=beq_iff_eq.mpr c24;have c24b1:(t376 != t368)=false:=bne_eq_false_iff_eq.mpr c24;clear c24;(first|rw[c24b0]|(simp only[i64_w,i32_w];rw[c24b0])|skip)
     have H':=am' H;clear H;go_wp2;go_meet
     case rel=>exact ⟨_,((t377 != t369)),(by first|rfl|(simp;done)|(simp[*];done)),H',⟨by have:=HJ2.out;first|omega|exact Nat.le_refl _⟩,⟨by (with_reducible repeat (first|apply Kd.S_alloc|apply Kd.S_drewN|apply Kd.S_drew));exact Kd.S_mono HO373.out (fun _ hk=>hk.1.2)⟩,⟨by (with_reducible repeat (first|refine kn' ?_ _|refine kd' ?_|refine ka' ?_ _));exact BK361.out⟩,⟨by (with_reducible repeat (first|refine kn' ?_ _|refine kd' ?_|refine ka' ?_ _));exact BK375.out⟩,⟨by repeat (first|(with_reducible first|exact HB.out|apply ba'|apply bd'|apply be'|refine bs' ?_ GE361.out|refine bs' ?_ GE375.out)|exact HB.out)⟩⟩
    ·
     rw[if_neg c24] at H;have c24b0:(t376 == t368)=false:=beq_eq_false_iff_ne.mpr c24;have c24b1:(t376 != t368)=true:=bne_iff_ne.mpr c24
     (first|rw[c24b0]|(simp only[i64_w,i32_w];rw[c24b0])|skip)
     have H':=am' H;clear H;go_wp2;go_meet
     case rel=>exact ⟨_,(true),(by first|rfl|(simp;done)|(simp[*];done)),H',⟨by have:=HJ2.out;first|omega|exact Nat.le_refl _⟩,⟨by (with_reducible repeat (first|apply Kd.S_alloc|apply Kd.S_drewN|apply Kd.S_drew));exact Kd.S_mono HO373.out (fun _ hk=>hk.1.2)⟩,⟨by (with_reducible repeat (first|refine kn' ?_ _|refine kd' ?_|refine ka' ?_ _));exact BK361.out⟩,⟨by (with_reducible repeat (first|refine kn' ?_ _|refine kd' ?_|refine ka' ?_ _));exact BK375.out⟩,⟨by repeat (first|(with_reducible first|exact HB.out|apply ba'|apply bd'|apply be'|refine bs' ?_ GE361.out|refine bs' ?_ GE375.out)|exact HB.out)⟩⟩
   case rest =>
    clear HC12;try clear c1
    try clear c2
    try clear p2
    try clear c4
    try clear c7
    try clear c7b0
    try clear c9
    try clear c12
    try clear c20
    try clear c24
    try clear c24b0
    try clear c24b1
    try clear hcz13_0
    try clear hcz13_1
    try clear hcz13_2
    try clear hcz17_0
    try clear hcz17_1
    try clear hcz17_2
    try clear hcz21_0
    try clear hcz21_1
    try clear hcz21_2
    try clear hcz5_0
    try clear hcz5_1
    try clear hcz5_2
    try clear hfz13_0
    try clear hfz13_1
    try clear hfz13_2
    try clear hfz17_0
    try clear hfz17_1
    try clear hfz17_2
    try clear hfz21_0
    try clear hfz21_1
    try clear hfz21_2
    try clear hfz5_0
    try clear hfz5_1
    try clear hfz5_2
    try clear p2
    obtain ⟨kq,x34_11,rfl,HA,HJ11,HO_376001,BK361,BK375,HB⟩:=hcut;cases kq with
    | zero=>exact absurd HA.out (by simp[laws_FnExactCountReachedBanks.j1])
    | succ kj11 =>
     have H:=HA.out;clear HA;simp only[laws_FnExactCountReachedBanks.j1] at H;have HC25:=am' H;clear H;go_upto_if 34 with (fail)
     go_cut [] (fun wc=>∃ (kq:Nat),Aside0 (laws_FnExactCountReachedBanks.j2 kq a0_0 l0_1 a0_2 t370 t371 t374=some r)∧Aside0 (kq≤kj11)∧Aside0 (Kd.S (Kd.slice 3 (Kd.int .i64)) 43 wc w.heap.size (fun k_=>¬ D385_ k_) (.slice Ao22 t371.length co22) t371)∧Aside0 (wc.heap[gb361]? = some (.cells #[.int .i64 a0_0,(.slice A0_1 l0_1.length c0_1), .int .i64 a0_2] 24 (0,0)))∧Aside0 (wc.heap[gb375]? = some (.cells #[.int .i64 t370,(.slice Ao22 t371.length co22), .int .i64 t374] 32 (0,0)))∧Aside0 (Below w.heap.size w wc))
     case first =>
      have H:=HC25.out;clear HC25;by_cases c26:x34_11=true
      ·
       subst c26;have H1:(some false)=some r:=by rw[if_pos rfl] at H;exact H
       clear H;have H:=H1;clear H1;obtain rfl:=Option.some.inj H;go_wp2;go_ret
       exact ⟨by first|rfl|(simp[errW_none,errW_some] <;> rfl)|(simp[*,errW_none,errW_some] <;> rfl),by repeat (first|(with_reducible first|exact HB.out|apply ba'|apply bd'|apply be'|refine bs' ?_ GE361.out|refine bs' ?_ GE375.out)|exact HB.out)⟩
      ·
       replace c26:=Bool.eq_false_iff.mpr c26;subst c26;have H1:(laws_FnExactCountReachedBanks.j2 kj11 a0_0 l0_1 a0_2 t370 t371 t374)=some r:=by rw[if_neg (show ¬ (false=true) by decide)] at H;exact H
       clear H;have H:=H1;clear H1;have H':=am' H;clear H;go_wp2;go_meet
       case rel=>exact ⟨_,H',⟨by have:=HJ2.out;have:=HJ11.out;first|omega|exact Nat.le_refl _⟩,⟨by (with_reducible repeat (first|apply Kd.S_alloc|apply Kd.S_drewN|apply Kd.S_drew));exact HO_376001.out⟩,⟨by (with_reducible repeat (first|refine kn' ?_ _|refine kd' ?_|refine ka' ?_ _));exact BK361.out⟩,⟨by (with_reducible repeat (first|refine kn' ?_ _|refine kd' ?_|refine ka' ?_ _));exact BK375.out⟩,⟨by repeat (first|(with_reducible first|exact HB.out|apply ba'|apply bd'|apply be'|refine bs' ?_ GE361.out|refine bs' ?_ GE375.out)|exact HB.out)⟩⟩
     case rest =>
      clear HC25;try clear c1
      try clear c2
      try clear p2
      try clear c4
      try clear c7
      try clear c7b0
      try clear c9
      try clear c12
      try clear c20
      try clear c24
      try clear c24b0
      try clear c24b1
      try clear c26
      try clear hcz13_0
      try clear hcz13_1
      try clear hcz13_2
      try clear hcz17_0
      try clear hcz17_1
      try clear hcz17_2
      try clear hcz21_0
      try clear hcz21_1
      try clear hcz21_2
      try clear hcz5_0
      try clear hcz5_1
      try clear hcz5_2
      try clear hfz13_0
      try clear hfz13_1
      try clear hfz13_2
      try clear hfz17_0
      try clear hfz17_1
      try clear hfz17_2
      try clear hfz21_0
      try clear hfz21_1
      try clear hfz21_2
      try clear hfz5_0
      try clear hfz5_1
      try clear hfz5_2
      try clear p2
      obtain ⟨kq,HA,HJ24,HO_376001,BK361,BK375,HB⟩:=hcut;cases kq with
      | zero=>exact absurd HA.out (by simp[laws_FnExactCountReachedBanks.j2])
      | succ kj24 =>
       have H:=HA.out;clear HA;simp only[laws_FnExactCountReachedBanks.j2] at H;replace H:=Option.bind_eq_some_iff.mp H;obtain ⟨⟨t378,t379,t382⟩,A270,H⟩:=H;replace H:((laws_eqKeep.f kj24 t370 t371 t374 t378 t379 t382).bind fun t383=>(if t383=true then (some true) else (some false)))=some r:=H;have A27:=am' A270;clear A270;replace H:=Option.bind_eq_some_iff.mp H;obtain ⟨t383,A280,H⟩:=H;replace H:(if t383=true then (some true) else (some false))=some r:=H;have A28:=am' A280;clear A280;by_cases c29:t383=true
       ·
        subst c29;have H1:(some true)=some r:=by rw[if_pos rfl] at H;exact H
        clear H;have H:=H1;clear H1;obtain rfl:=Option.some.inj H
        try go_wp2
        have n0_:=am' (Kd.S_drew HO_376001.out);have n1_:=am' (kd' BK361.out);have n2_:=am' (kd' BK375.out);have n3_:=am' (be' HB.out);clear HO_376001;clear BK361;clear BK375;clear HB;have HO_376001:=n0_;have BK361:=n1_;have BK375:=n2_;have HB:=n3_;clear n0_ n1_ n2_ n3_;refine start_ (n:=5) (S:=fun w'=>w'.cell? ⟨gb375,0,none⟩=some (.int .i64 t370)∧w'.cell? ⟨gb375,1,none⟩=some (.slice Ao22 t371.length co22)∧w'.cell? ⟨gb375,2,none⟩=some (.int .i64 t374)∧w'.cell? ⟨gb361,0,none⟩=some (.int .i64 a0_0)∧w'.cell? ⟨gb361,1,none⟩=some (.slice A0_1 l0_1.length c0_1)∧w'.cell? ⟨gb361,2,none⟩=some (.int .i64 a0_2)) (ds:=[]) #[false,false,false,false,false] (by kernel_rfl) rfl rfl ⟨(blk_cell BK375.out 0).trans rfl,(blk_cell BK375.out 1).trans rfl,(blk_cell BK375.out 2).trans rfl,(blk_cell BK361.out 0).trans rfl,(blk_cell BK361.out 1).trans rfl,(blk_cell BK361.out 2).trans rfl⟩ (fun hHeld=>?_);generalize wc.drew=w30 at HO_376001 BK361 BK375 HB hHeld ⊢
        refine take_ (i:=0) (N:=some 35) (v:=?_) (a':=?_) #[true,false,false,false,false] rfl rfl (by kernel_rfl) (fun _ _ _ h=>h) (Or.inl ⟨by rfl,?_⟩) hHeld ?_ ?_
        rotate_left
        ·
         rintro w' ⟨s0,s1,s2,s3,s4,s5⟩
         go_simp;with_reducible rfl
        rotate_left
        ·
         simp only[Act.put,sa',sb',sc',i64_w,i32_w];rfl
        refine take_ (i:=1) (N:=some 36) (v:=?_) (a':=?_) #[true,true,false,false,false] rfl rfl (by kernel_rfl) (fun _ _ _ h=>h) (Or.inl ⟨by rfl,?_⟩) hHeld ?_ ?_
        rotate_left
        ·
         rintro w' ⟨s0,s1,s2,s3,s4,s5⟩
         go_simp;with_reducible rfl
        rotate_left
        ·
         simp only[Act.put,sa',sb',sc',i64_w,i32_w];rfl
        refine one_ (i:=2) (N:=some 37) #[true,true,true,false,false] rfl rfl (by kernel_rfl) (by decide) (fun K hK=>?_);refine goes_ Try.func12 (by kernel_rfl) rfl #[.agg #[.int .i64 a0_0, .slice A0_1 l0_1.length c0_1, .int .i64 a0_2]] (by rfl) rfl rfl (by (try simp only[List.map_toArray,List.map_cons,List.map_nil]);first|done|rfl|(simp only[List.length_drop,List.length_take];rfl)) ?_
        with_reducible refine (laws_toKeep.calls kj24 a0_0 _ _ l0_1 a0_2 t378 t379 t382 _ ?side1 ?side2 A27.out).mono ?_
        (case side1=>repeat (first|exact (Kd.C_below HR0_1.out HB.out)|(with_reducible refine ca' ?_ _)|(with_reducible refine cn' ?_ _)|(with_reducible refine cd' ?_)))
        (case side2=>exact HC0_1.out)
        rintro e w31 ⟨v380,rfl,ho0,hb⟩
        refine ⟨_,rfl,?_⟩;have n0_:=am' (Kd.S_elder' (by (with_reducible repeat (first|apply Kd.S_alloc|apply Kd.S_drewN|apply Kd.S_drew));exact HO_376001.out) (Kd.S_base ho0) hb);have n1_:=am' (Kd.S_lower (Kd.S_new' ho0 (Kd.S_lt (by (with_reducible repeat (first|apply Kd.S_alloc|apply Kd.S_drewN|apply Kd.S_drew));exact HO_376001.out))) (below_size (by repeat (first|(with_reducible first|exact HB.out|apply ba'|apply bd'|apply be'|refine bs' ?_ GE361.out|refine bs' ?_ GE375.out)|exact HB.out))));have n2_:=am' (blk_below (g:=gb361) (o := .cells #[.int .i64 a0_0, .slice A0_1 l0_1.length c0_1, .int .i64 a0_2] 24 (0,0)) (by (with_reducible repeat (first|refine kn' ?_ _|refine kd' ?_|refine ka' ?_ _));exact BK361.out) hb);have n3_:=am' (blk_below (g:=gb375) (o := .cells #[.int .i64 t370, .slice Ao22 t371.length co22, .int .i64 t374] 32 (0,0)) (by (with_reducible repeat (first|refine kn' ?_ _|refine kd' ?_|refine ka' ?_ _));exact BK375.out) hb);have n4_:=am' (below_step (by repeat (first|(with_reducible first|exact HB.out|apply ba'|apply bd'|apply be'|refine bs' ?_ GE361.out|refine bs' ?_ GE375.out)|exact HB.out)) hb);clear HO_376001;clear BK361;clear BK375;clear HB;have HO_376001:=n0_;have HO381:=n1_;have BK361:=n2_;have BK375:=n3_;have HB:=n4_;clear n0_ n1_ n2_ n3_ n4_;(try clear hb)
        (try clear hb2)
        (try clear hk)
        (try clear hi)
        (try clear ho0)
        obtain ⟨Ao32,co32,eo32⟩:=Kd.S_slice HO381.out
        (first|subst eo32|(injection eo32 with f1_ f2_ f3_;have f4_:=f1_.symm;have f5_:=f3_.symm;clear f1_ f2_ f3_;subst f4_;subst f5_))
        refine hK.out _ _ ⟨(blk_cell BK375.out 0).trans rfl,(blk_cell BK375.out 1).trans rfl,(blk_cell BK375.out 2).trans rfl,(blk_cell BK361.out 0).trans rfl,(blk_cell BK361.out 1).trans rfl,(blk_cell BK361.out 2).trans rfl⟩ (fun hHeld=>?_);clear hK K;refine norm_ (a':=?_) ?_ ?_
        rotate_left
        ·
         show Act.put _ (some 37) _=_
         simp only[Act.put,sa',sb',sc',i64_w,i32_w];rfl
        refine one_ (i:=3) (N:=some 38) #[true,true,true,true,false] rfl rfl (by kernel_rfl) (by decide) (fun K hK=>?_);refine goes_ Try.func16 (by kernel_rfl) rfl #[.agg #[.int .i64 t370, .slice Ao22 t371.length co22, .int .i64 t374], .agg #[.int .i64 t378, .slice Ao32 t379.length co32, .int .i64 t382]] (by rfl) rfl rfl (by (try simp only[List.map_toArray,List.map_cons,List.map_nil]);first|done|rfl|(simp only[List.length_drop,List.length_take];rfl)) ?_
        with_reducible refine (laws_eqKeep.calls kj24 t370 _ _ t371 t374 t378 _ _ t379 t382 true _ ?side1 ?side2 ?side3 ?side4 A28.out).mono ?_
        (case side1=>repeat (first|exact (Kd.S_reads' HO_376001.out).2.2|(with_reducible refine ca' ?_ _)|(with_reducible refine cn' ?_ _)|(with_reducible refine cd' ?_)))
        (case side2=>exact (Kd.S_reads' HO_376001.out).2.1)
        (case side3=>repeat (first|exact (Kd.S_reads' HO381.out).2.2|(with_reducible refine ca' ?_ _)|(with_reducible refine cn' ?_ _)|(with_reducible refine cd' ?_)))
        (case side4=>exact (Kd.S_reads' HO381.out).2.1)
        rintro e w33 ⟨rfl,hb⟩
        refine ⟨_,rfl,?_⟩;have n0_:=am' (Kd.S_below (by (with_reducible repeat (first|apply Kd.S_alloc|apply Kd.S_drewN|apply Kd.S_drew));exact HO_376001.out) hb);have n1_:=am' (Kd.S_below (by (with_reducible repeat (first|apply Kd.S_alloc|apply Kd.S_drewN|apply Kd.S_drew));exact HO381.out) hb);have n2_:=am' (blk_below (g:=gb361) (o := .cells #[.int .i64 a0_0, .slice A0_1 l0_1.length c0_1, .int .i64 a0_2] 24 (0,0)) (by (with_reducible repeat (first|refine kn' ?_ _|refine kd' ?_|refine ka' ?_ _));exact BK361.out) hb);have n3_:=am' (blk_below (g:=gb375) (o := .cells #[.int .i64 t370, .slice Ao22 t371.length co22, .int .i64 t374] 32 (0,0)) (by (with_reducible repeat (first|refine kn' ?_ _|refine kd' ?_|refine ka' ?_ _));exact BK375.out) hb);have n4_:=am' (below_step (by repeat (first|(with_reducible first|exact HB.out|apply ba'|apply bd'|apply be'|refine bs' ?_ GE361.out|refine bs' ?_ GE375.out)|exact HB.out)) hb);clear HO_376001;clear HO381;clear BK361;clear BK375;clear HB;have HO_376001:=n0_;have HO381:=n1_;have BK361:=n2_;have BK375:=n3_;have HB:=n4_;clear n0_ n1_ n2_ n3_ n4_;(try clear hb)
        (try clear hb2)
        (try clear hk)
        (try clear hi)
        refine hK.out _ _ ⟨(blk_cell BK375.out 0).trans rfl,(blk_cell BK375.out 1).trans rfl,(blk_cell BK375.out 2).trans rfl,(blk_cell BK361.out 0).trans rfl,(blk_cell BK361.out 1).trans rfl,(blk_cell BK361.out 2).trans rfl⟩ (fun hHeld=>?_);clear hK K;refine norm_ (a':=?_) ?_ ?_
        rotate_left
        ·
         show Act.put _ (some 38) _=_
         simp only[Act.put,sa',sb',sc',i64_w,i32_w];rfl
        refine pure_ (i:=4) (N:=some 39) (v:=?_) (a':=?_) #[true,true,true,true,true] rfl rfl (by kernel_rfl) (fun _ _ _ h=>h) (Or.inl ⟨by rfl,?_⟩) ?_ ?_
        rotate_left
        ·
         intro w';go_simp;with_reducible rfl
        rotate_left
        ·
         simp only[Act.put,sa',sb',sc',i64_w,i32_w];rfl
        refine done_ (by kernel_rfl) ?_
        try go_wp2
        go_ret
        exact ⟨by first|rfl|(simp[errW_none,errW_some] <;> rfl)|(simp[*,errW_none,errW_some] <;> rfl),by repeat (first|(with_reducible first|exact HB.out|apply ba'|apply bd'|apply be'|refine bs' ?_ GE361.out|refine bs' ?_ GE375.out)|exact HB.out)⟩
       ·
        replace c29:=Bool.eq_false_iff.mpr c29;subst c29;have H1:(some false)=some r:=by rw[if_neg (show ¬ (false=true) by decide)] at H;exact H
        clear H;have H:=H1;clear H1;obtain rfl:=Option.some.inj H
        try go_wp2
        have n0_:=am' (Kd.S_drew HO_376001.out);have n1_:=am' (kd' BK361.out);have n2_:=am' (kd' BK375.out);have n3_:=am' (be' HB.out);clear HO_376001;clear BK361;clear BK375;clear HB;have HO_376001:=n0_;have BK361:=n1_;have BK375:=n2_;have HB:=n3_;clear n0_ n1_ n2_ n3_;refine start_ (n:=5) (S:=fun w'=>w'.cell? ⟨gb375,0,none⟩=some (.int .i64 t370)∧w'.cell? ⟨gb375,1,none⟩=some (.slice Ao22 t371.length co22)∧w'.cell? ⟨gb375,2,none⟩=some (.int .i64 t374)∧w'.cell? ⟨gb361,0,none⟩=some (.int .i64 a0_0)∧w'.cell? ⟨gb361,1,none⟩=some (.slice A0_1 l0_1.length c0_1)∧w'.cell? ⟨gb361,2,none⟩=some (.int .i64 a0_2)) (ds:=[]) #[false,false,false,false,false] (by kernel_rfl) rfl rfl ⟨(blk_cell BK375.out 0).trans rfl,(blk_cell BK375.out 1).trans rfl,(blk_cell BK375.out 2).trans rfl,(blk_cell BK361.out 0).trans rfl,(blk_cell BK361.out 1).trans rfl,(blk_cell BK361.out 2).trans rfl⟩ (fun hHeld=>?_);generalize wc.drew=w34 at HO_376001 BK361 BK375 HB hHeld ⊢
        refine take_ (i:=0) (N:=some 35) (v:=?_) (a':=?_) #[true,false,false,false,false] rfl rfl (by kernel_rfl) (fun _ _ _ h=>h) (Or.inl ⟨by rfl,?_⟩) hHeld ?_ ?_
        rotate_left
        ·
         rintro w' ⟨s0,s1,s2,s3,s4,s5⟩
         go_simp;with_reducible rfl
        rotate_left
        ·
         simp only[Act.put,sa',sb',sc',i64_w,i32_w];rfl
        refine take_ (i:=1) (N:=some 36) (v:=?_) (a':=?_) #[true,true,false,false,false] rfl rfl (by kernel_rfl) (fun _ _ _ h=>h) (Or.inl ⟨by rfl,?_⟩) hHeld ?_ ?_
        rotate_left
        ·
         rintro w' ⟨s0,s1,s2,s3,s4,s5⟩
         go_simp;with_reducible rfl
        rotate_left
        ·
         simp only[Act.put,sa',sb',sc',i64_w,i32_w];rfl
        refine one_ (i:=2) (N:=some 37) #[true,true,true,false,false] rfl rfl (by kernel_rfl) (by decide) (fun K hK=>?_);refine goes_ Try.func12 (by kernel_rfl) rfl #[.agg #[.int .i64 a0_0, .slice A0_1 l0_1.length c0_1, .int .i64 a0_2]] (by rfl) rfl rfl (by (try simp only[List.map_toArray,List.map_cons,List.map_nil]);first|done|rfl|(simp only[List.length_drop,List.length_take];rfl)) ?_
        with_reducible refine (laws_toKeep.calls kj24 a0_0 _ _ l0_1 a0_2 t378 t379 t382 _ ?side1 ?side2 A27.out).mono ?_
        (case side1=>repeat (first|exact (Kd.C_below HR0_1.out HB.out)|(with_reducible refine ca' ?_ _)|(with_reducible refine cn' ?_ _)|(with_reducible refine cd' ?_)))
        (case side2=>exact HC0_1.out)
        rintro e w35 ⟨v380,rfl,ho0,hb⟩
        refine ⟨_,rfl,?_⟩;have n0_:=am' (Kd.S_elder' (by (with_reducible repeat (first|apply Kd.S_alloc|apply Kd.S_drewN|apply Kd.S_drew));exact HO_376001.out) (Kd.S_base ho0) hb);have n1_:=am' (Kd.S_lower (Kd.S_new' ho0 (Kd.S_lt (by (with_reducible repeat (first|apply Kd.S_alloc|apply Kd.S_drewN|apply Kd.S_drew));exact HO_376001.out))) (below_size (by repeat (first|(with_reducible first|exact HB.out|apply ba'|apply bd'|apply be'|refine bs' ?_ GE361.out|refine bs' ?_ GE375.out)|exact HB.out))));have n2_:=am' (blk_below (g:=gb361) (o := .cells #[.int .i64 a0_0, .slice A0_1 l0_1.length c0_1, .int .i64 a0_2] 24 (0,0)) (by (with_reducible repeat (first|refine kn' ?_ _|refine kd' ?_|refine ka' ?_ _));exact BK361.out) hb);have n3_:=am' (blk_below (g:=gb375) (o := .cells #[.int .i64 t370, .slice Ao22 t371.length co22, .int .i64 t374] 32 (0,0)) (by (with_reducible repeat (first|refine kn' ?_ _|refine kd' ?_|refine ka' ?_ _));exact BK375.out) hb);have n4_:=am' (below_step (by repeat (first|(with_reducible first|exact HB.out|apply ba'|apply bd'|apply be'|refine bs' ?_ GE361.out|refine bs' ?_ GE375.out)|exact HB.out)) hb);clear HO_376001;clear BK361;clear BK375;clear HB;have HO_376001:=n0_;have HO381:=n1_;have BK361:=n2_;have BK375:=n3_;have HB:=n4_;clear n0_ n1_ n2_ n3_ n4_;(try clear hb)
        (try clear hb2)
        (try clear hk)
        (try clear hi)
        (try clear ho0)
        obtain ⟨Ao36,co36,eo36⟩:=Kd.S_slice HO381.out
        (first|subst eo36|(injection eo36 with f1_ f2_ f3_;have f4_:=f1_.symm;have f5_:=f3_.symm;clear f1_ f2_ f3_;subst f4_;subst f5_))
        refine hK.out _ _ ⟨(blk_cell BK375.out 0).trans rfl,(blk_cell BK375.out 1).trans rfl,(blk_cell BK375.out 2).trans rfl,(blk_cell BK361.out 0).trans rfl,(blk_cell BK361.out 1).trans rfl,(blk_cell BK361.out 2).trans rfl⟩ (fun hHeld=>?_);clear hK K;refine norm_ (a':=?_) ?_ ?_
        rotate_left
        ·
         show Act.put _ (some 37) _=_
         simp only[Act.put,sa',sb',sc',i64_w,i32_w];rfl
        refine one_ (i:=3) (N:=some 38) #[true,true,true,true,false] rfl rfl (by kernel_rfl) (by decide) (fun K hK=>?_);refine goes_ Try.func16 (by kernel_rfl) rfl #[.agg #[.int .i64 t370, .slice Ao22 t371.length co22, .int .i64 t374], .agg #[.int .i64 t378, .slice Ao36 t379.length co36, .int .i64 t382]] (by rfl) rfl rfl (by (try simp only[List.map_toArray,List.map_cons,List.map_nil]);first|done|rfl|(simp only[List.length_drop,List.length_take];rfl)) ?_
        with_reducible refine (laws_eqKeep.calls kj24 t370 _ _ t371 t374 t378 _ _ t379 t382 false _ ?side1 ?side2 ?side3 ?side4 A28.out).mono ?_
        (case side1=>repeat (first|exact (Kd.S_reads' HO_376001.out).2.2|(with_reducible refine ca' ?_ _)|(with_reducible refine cn' ?_ _)|(with_reducible refine cd' ?_)))
        (case side2=>exact (Kd.S_reads' HO_376001.out).2.1)
        (case side3=>repeat (first|exact (Kd.S_reads' HO381.out).2.2|(with_reducible refine ca' ?_ _)|(with_reducible refine cn' ?_ _)|(with_reducible refine cd' ?_)))
        (case side4=>exact (Kd.S_reads' HO381.out).2.1)
        rintro e w37 ⟨rfl,hb⟩
        refine ⟨_,rfl,?_⟩;have n0_:=am' (Kd.S_below (by (with_reducible repeat (first|apply Kd.S_alloc|apply Kd.S_drewN|apply Kd.S_drew));exact HO_376001.out) hb);have n1_:=am' (Kd.S_below (by (with_reducible repeat (first|apply Kd.S_alloc|apply Kd.S_drewN|apply Kd.S_drew));exact HO381.out) hb);have n2_:=am' (blk_below (g:=gb361) (o := .cells #[.int .i64 a0_0, .slice A0_1 l0_1.length c0_1, .int .i64 a0_2] 24 (0,0)) (by (with_reducible repeat (first|refine kn' ?_ _|refine kd' ?_|refine ka' ?_ _));exact BK361.out) hb);have n3_:=am' (blk_below (g:=gb375) (o := .cells #[.int .i64 t370, .slice Ao22 t371.length co22, .int .i64 t374] 32 (0,0)) (by (with_reducible repeat (first|refine kn' ?_ _|refine kd' ?_|refine ka' ?_ _));exact BK375.out) hb);have n4_:=am' (below_step (by repeat (first|(with_reducible first|exact HB.out|apply ba'|apply bd'|apply be'|refine bs' ?_ GE361.out|refine bs' ?_ GE375.out)|exact HB.out)) hb);clear HO_376001;clear HO381;clear BK361;clear BK375;clear HB;have HO_376001:=n0_;have HO381:=n1_;have BK361:=n2_;have BK375:=n3_;have HB:=n4_;clear n0_ n1_ n2_ n3_ n4_;(try clear hb)
        (try clear hb2)
        (try clear hk)
        (try clear hi)
        refine hK.out _ _ ⟨(blk_cell BK375.out 0).trans rfl,(blk_cell BK375.out 1).trans rfl,(blk_cell BK375.out 2).trans rfl,(blk_cell BK361.out 0).trans rfl,(blk_cell BK361.out 1).trans rfl,(blk_cell BK361.out 2).trans rfl⟩ (fun hHeld=>?_);clear hK K;refine norm_ (a':=?_) ?_ ?_
        rotate_left
        ·
         show Act.put _ (some 38) _=_
         simp only[Act.put,sa',sb',sc',i64_w,i32_w];rfl
        refine pure_ (i:=4) (N:=some 39) (v:=?_) (a':=?_) #[true,true,true,true,true] rfl rfl (by kernel_rfl) (fun _ _ _ h=>h) (Or.inl ⟨by rfl,?_⟩) ?_ ?_
        rotate_left
        ·
         intro w';go_simp;with_reducible rfl
        rotate_left
        ·
         simp only[Act.put,sa',sb',sc',i64_w,i32_w];rfl
        refine done_ (by kernel_rfl) ?_
        try go_wp2
        go_ret
        exact ⟨by first|rfl|(simp[errW_none,errW_some] <;> rfl)|(simp[*,errW_none,errW_some] <;> rfl),by repeat (first|(with_reducible first|exact HB.out|apply ba'|apply bd'|apply be'|refine bs' ?_ GE361.out|refine bs' ?_ GE375.out)|exact HB.out)⟩
end Go.Proofs.Ytmfofjloklafoaa.C3
