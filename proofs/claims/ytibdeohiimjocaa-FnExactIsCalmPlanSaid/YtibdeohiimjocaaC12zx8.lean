import Derived.Test.YtibdeohiimjocaaC12zx0
import Derived.Test.YtibdeohiimjocaaC12zx1
import Derived.Test.YtibdeohiimjocaaC12zx4
import Derived.Test.YtibdeohiimjocaaC12zx5
import Derived.Test.YtibdeohiimjocaaC12zx7
import Derived.Test.YtibdeohiimjocaaC12zAl
namespace Go.Proofs.Ytibdeohiimjocaa.C12
open Go.RowKit Go.Proofs.YtibdeohiimjocaaW.PrintWords Go.Proofs.YtibdeohiimjocaaW.PrintLast Go.Proofs.YtibdeohiimjocaaW.PrintMore Go.Proofs.Ytibdeohiimjocaa.H
attribute [local go_sem] max2_int min2_int max_two min_two max_three min_three max_four min_four
set_option linter.unusedVariables false
set_option linter.unusedSimpArgs false
mutual
def laws_FnExactIsCalmPlan.j0:Nat→List (List Int)→Int→Int→Option (Bool)
 | 0,_,_,_=>none
 | k+1,x1,x231000,x231001=>(laws_toCompany.f x231000 x231001).bind fun bt232=>((laws_toIntSS.f k x1).bind fun t234=>((spec_IsCalmPlan.f k bt232.1 bt232.2 t234).bind fun bt237=>((laws_toIntSS.f k x1).bind fun t239=>((laws_toCompany.f x231000 x231001).bind fun bt242=>((impl_IsCalmPlan.f k bt242.1 bt242.2 t239).bind fun bt244=>(if (bt244.1 != bt237.1)=true then (laws_FnExactIsCalmPlan.j1 k x1 t239 true) else (laws_FnExactIsCalmPlan.j1 k x1 t239 (bt244.2 != bt237.2))))))))
def laws_FnExactIsCalmPlan.j1:Nat→List (List Int)→List (List Int)→Bool→Option (Bool)
 | 0,_,_,_=>none
 | k+1,x1,x8,x40=>if x40=true then (some false) else (laws_FnExactIsCalmPlan.j2 k x1 x8)
def laws_FnExactIsCalmPlan.j2:Nat→List (List Int)→List (List Int)→Option (Bool)
 | 0,_,_=>none
 | k+1,x1,x8=>(laws_toIntSS.f k x1).bind fun t246=>((laws_eqIntSS.f k x8 t246).bind fun t249=>(if t249=true then (some true) else (some false)))
end
def laws_FnExactIsCalmPlan.f (k:Nat) (a0_0:Int) (a0_1:Int) (l1:List (List Int)):Option (Bool):=(laws_szIntSS.f k l1 1048576).bind fun t231=>(if t231 < 0 then (some true) else (laws_FnExactIsCalmPlan.j0 k l1 a0_0 a0_1))
set_option maxHeartbeats 8000000 in
set_option maxRecDepth 100000 in
theorem laws_FnExactIsCalmPlan.calls (k:Nat) (a0_0:Int) (a0_1:Int) (A1:Option Addr) (c1:Nat) (l1:List (List Int)) (r:Bool) (w:World) (hr1:Kd.C (Kd.slice 3 (Kd.int .i64)) w A1 l1.length l1) (hc1:l1.length≤c1) (h:laws_FnExactIsCalmPlan.f k a0_0 a0_1 l1=some r) :
  Calls Try.prog 8 #[.agg #[.int .i64 a0_0, .int .i64 a0_1], .slice A1 l1.length c1] w fun e w'=>e = .returned (.bool r)∧Below w.heap.size w w':=by
 have hu37:=Try.underlying37
 have HR1:=am' hr1
 have HC1:=am' hc1
 clear hr1 hc1;have HB:=am' (Below.refl w.heap.size w)
 have H:((laws_szIntSS.f k l1 1048576).bind fun t231=>(if t231 < 0 then (some true) else (laws_FnExactIsCalmPlan.j0 k l1 a0_0 a0_1)))=some r:=h
 clear h;replace H:=Option.bind_eq_some_iff.mp H
 obtain ⟨t231,A30,H⟩:=H
 replace H:(if t231 < 0 then (some true) else (laws_FnExactIsCalmPlan.j0 k l1 a0_0 a0_1))=some r:=H
 have A3:=am' A30
 clear A30;have HC4:=am' H
 clear H;go_enter Try.func8,Try.ntmps8
 go_upto_if 15 with (first|((with_reducible refine gate_dst (N:=2) rfl ?_);refine box_event ?hg (N:=2) ?hd (cs:=#[.int .i64 a0_0, .int .i64 a0_1]) (t:=37) ?hr ?_;(case hd=>rfl);(case hg=>rfl);(case hr=>first|(go_simp;done)|(go_simp;rfl));intro gb230 hg w5 hbox hb;have n0_:=am' (below_step (by repeat (first|(with_reducible first|exact HB.out|apply ba'|apply bd'|apply be')|exact HB.out)) hb);have n1_:=am' (hbox);have n2_:=am' ((by rw[hg];exact (below_size (by repeat (first|(with_reducible first|exact HB.out|apply ba'|apply bd'|apply be')|exact HB.out))):w.heap.size≤gb230));have n3_:=am' ((by rw[hg];exact (below_size (by repeat (first|(with_reducible first|exact HB.out|apply ba'|apply bd'|apply be')|exact HB.out))):w.heap.size≤gb230));clear HB;have HB:=n0_;have BK230:=n1_;have GW230:=n2_;have GE230:=n3_;clear n0_ n1_ n2_ n3_;clear hb hbox hg)|((with_reducible refine gate_callee (f:=28) rfl ?_);refine goesL_ (some 13) rfl rfl Try.func28 (by kernel_rfl) rfl #[.slice A1 l1.length c1, .int .i64 1048576] rfl (by (try simp only[List.map_toArray,List.map_cons,List.map_nil]);first|done|rfl|(simp only[List.length_drop,List.length_take];rfl)) ?_;(with_reducible refine (laws_szIntSS.calls k _ _ l1 1048576 t231 _ ?side1 ?side2 A3.out).mono ?_);(case side1=>repeat (first|exact (Kd.C_below HR1.out HB.out)|(with_reducible refine ca' ?_ _)|(with_reducible refine cn' ?_ _)|(with_reducible refine cd' ?_)));(case side2=>exact HC1.out);rintro e w' ⟨rfl,⟨nd,rfl⟩⟩;refine ⟨_,rfl,?_⟩))
 (try simp only[Act.put,sa',sb',sc'])
 go_cut [] (fun wc=>∃ (kq:Nat),Aside0 (laws_FnExactIsCalmPlan.j0 kq l1 a0_0 a0_1=some r)∧Aside0 (kq≤k)∧Aside0 (wc.heap[gb230]? = some (.cells #[.int .i64 a0_0, .int .i64 a0_1] 37 (0,0)))∧Aside0 (Below w.heap.size w wc))
 case first =>
  have H:=HC4.out;clear HC4;by_cases c6:t231 < 0
  ·
   rw[if_pos c6] at H;have c6b0:decide (t231 < 0)=true:=decide_eq_true c6;clear c6;(first|rw[c6b0]|(simp only[i64_w,i32_w];rw[c6b0])|skip)
   obtain rfl:=Option.some.inj H;go_wp2;go_ret
   exact ⟨by first|rfl|(simp[errW_none,errW_some] <;> rfl)|(simp[*,errW_none,errW_some] <;> rfl),by repeat (first|(with_reducible first|exact HB.out|apply ba'|apply bd'|apply be'|refine bs' ?_ GE230.out)|exact HB.out)⟩
  ·
   rw[if_neg c6] at H;have c6b0:decide (t231 < 0)=false:=decide_eq_false c6;clear c6;(first|rw[c6b0]|(simp only[i64_w,i32_w];rw[c6b0])|skip)
   have H':=am' H;clear H;go_wp2;go_meet
   case rel=>exact ⟨_,H',⟨by first|omega|exact Nat.le_refl _⟩,⟨by (with_reducible repeat (first|refine kn' ?_ _|refine kd' ?_|refine ka' ?_ _));exact BK230.out⟩,⟨by repeat (first|(with_reducible first|exact HB.out|apply ba'|apply bd'|apply be'|refine bs' ?_ GE230.out)|exact HB.out)⟩⟩
 case rest =>
  clear HC4;try clear c1
  try clear c2
  try clear p2
  try clear c6
  try clear c6b0
  obtain ⟨kq,HA,HJ3,BK230,HB⟩:=hcut;cases kq with
  | zero=>exact absurd HA.out (by simp[laws_FnExactIsCalmPlan.j0])
  | succ kj3 =>
   have H:=HA.out;clear HA;simp only[laws_FnExactIsCalmPlan.j0] at H;replace H:=Option.bind_eq_some_iff.mp H;obtain ⟨⟨t232,t233⟩,A70,H⟩:=H;replace H:((laws_toIntSS.f kj3 l1).bind fun t234=>((spec_IsCalmPlan.f kj3 t232 t233 t234).bind fun bt237=>((laws_toIntSS.f kj3 l1).bind fun t239=>((laws_toCompany.f a0_0 a0_1).bind fun bt242=>((impl_IsCalmPlan.f kj3 bt242.1 bt242.2 t239).bind fun bt244=>(if (bt244.1 != bt237.1)=true then (laws_FnExactIsCalmPlan.j1 kj3 l1 t239 true) else (laws_FnExactIsCalmPlan.j1 kj3 l1 t239 (bt244.2 != bt237.2))))))))=some r:=H;have A7:=am' A70;clear A70;replace H:=Option.bind_eq_some_iff.mp H;obtain ⟨t234,A80,H⟩:=H;replace H:((spec_IsCalmPlan.f kj3 t232 t233 t234).bind fun bt237=>((laws_toIntSS.f kj3 l1).bind fun t239=>((laws_toCompany.f a0_0 a0_1).bind fun bt242=>((impl_IsCalmPlan.f kj3 bt242.1 bt242.2 t239).bind fun bt244=>(if (bt244.1 != bt237.1)=true then (laws_FnExactIsCalmPlan.j1 kj3 l1 t239 true) else (laws_FnExactIsCalmPlan.j1 kj3 l1 t239 (bt244.2 != bt237.2)))))))=some r:=H;have A8:=am' A80;clear A80;replace H:=Option.bind_eq_some_iff.mp H;obtain ⟨⟨t237,t238⟩,A90,H⟩:=H;replace H:((laws_toIntSS.f kj3 l1).bind fun t239=>((laws_toCompany.f a0_0 a0_1).bind fun bt242=>((impl_IsCalmPlan.f kj3 bt242.1 bt242.2 t239).bind fun bt244=>(if (bt244.1 != t237)=true then (laws_FnExactIsCalmPlan.j1 kj3 l1 t239 true) else (laws_FnExactIsCalmPlan.j1 kj3 l1 t239 (bt244.2 != t238))))))=some r:=H;have A9:=am' A90;clear A90;replace H:=Option.bind_eq_some_iff.mp H;obtain ⟨t239,A100,H⟩:=H;replace H:((laws_toCompany.f a0_0 a0_1).bind fun bt242=>((impl_IsCalmPlan.f kj3 bt242.1 bt242.2 t239).bind fun bt244=>(if (bt244.1 != t237)=true then (laws_FnExactIsCalmPlan.j1 kj3 l1 t239 true) else (laws_FnExactIsCalmPlan.j1 kj3 l1 t239 (bt244.2 != t238)))))=some r:=H;have A10:=am' A100;clear A100;replace H:=Option.bind_eq_some_iff.mp H;obtain ⟨⟨t242,t243⟩,A110,H⟩:=H;replace H:((impl_IsCalmPlan.f kj3 t242 t243 t239).bind fun bt244=>(if (bt244.1 != t237)=true then (laws_FnExactIsCalmPlan.j1 kj3 l1 t239 true) else (laws_FnExactIsCalmPlan.j1 kj3 l1 t239 (bt244.2 != t238))))=some r:=H;have A11:=am' A110;clear A110;replace H:=Option.bind_eq_some_iff.mp H;obtain ⟨⟨t244,t245⟩,A120,H⟩:=H;replace H:(if (t244 != t237)=true then (laws_FnExactIsCalmPlan.j1 kj3 l1 t239 true) else (laws_FnExactIsCalmPlan.j1 kj3 l1 t239 (t245 != t238)))=some r:=H;have A12:=am' A120;clear A120;have HC13:=am' H;clear H;have hcz14_0:wc.cell? ⟨gb230,0,none⟩=some (.int .i64 a0_0):=(blk_cell BK230.out 0).trans rfl;have hcz14_1:wc.cell? ⟨gb230,1,none⟩=some (.int .i64 a0_1):=(blk_cell BK230.out 1).trans rfl;have hfz14_0:=blk_frozen BK230.out 0;have hfz14_1:=blk_frozen BK230.out 1;go_upto_region 8 with (first|((with_reducible refine gate_callee (f:=30) rfl ?_);refine goesL_ (some 18) rfl rfl Try.func30 (by kernel_rfl) rfl #[.agg #[.int .i64 a0_0, .int .i64 a0_1]] rfl (by (try simp only[List.map_toArray,List.map_cons,List.map_nil]);first|done|rfl|(simp only[List.length_drop,List.length_take];rfl)) ?_;(with_reducible refine (laws_toCompany.calls a0_0 a0_1 t232 t233 _ A7.out).mono ?_);rintro e w15 ⟨rfl,hb⟩;refine ⟨_,rfl,?_⟩;have n0_:=am' (blk_below (g:=gb230) (o := .cells #[.int .i64 a0_0, .int .i64 a0_1] 37 (0,0)) (by (with_reducible repeat (first|refine kn' ?_ _|refine kd' ?_|refine ka' ?_ _));exact BK230.out) hb);have n1_:=am' (below_step (by repeat (first|(with_reducible first|exact HB.out|apply ba'|apply bd'|apply be'|refine bs' ?_ GE230.out)|exact HB.out)) hb);clear BK230;clear HB;have BK230:=n0_;have HB:=n1_;clear n0_ n1_;(try clear hb);(try clear hb2);(try clear hk);(try clear hi))|((with_reducible refine gate_callee (f:=31) rfl ?_);refine goesL_ (some 20) rfl rfl Try.func31 (by kernel_rfl) rfl #[.slice A1 l1.length c1] rfl (by (try simp only[List.map_toArray,List.map_cons,List.map_nil]);first|done|rfl|(simp only[List.length_drop,List.length_take];rfl)) ?_;(with_reducible refine (laws_toIntSS.calls kj3 _ _ l1 t234 _ ?side1 ?side2 A8.out).mono ?_);(case side1=>repeat (first|exact (Kd.C_below HR1.out HB.out)|(with_reducible refine ca' ?_ _)|(with_reducible refine cn' ?_ _)|(with_reducible refine cd' ?_)));(case side2=>exact HC1.out);rintro e w16 ⟨v235,rfl,ho0,hb⟩;refine ⟨_,rfl,?_⟩;obtain ⟨D250_,hdl_,hdg_⟩:=dlt_of hb;have D250_lt:=am' hdl_;have D250_ge:=am' hdg_;clear hdl_ hdg_;have n0_:=am' (Kd.S_lower (Kd.S_dge ho0 D250_ge.out) (below_size (by repeat (first|(with_reducible first|exact HB.out|apply ba'|apply bd'|apply be'|refine bs' ?_ GE230.out)|exact HB.out))));have n1_:=am' (blk_below (g:=gb230) (o := .cells #[.int .i64 a0_0, .int .i64 a0_1] 37 (0,0)) (by (with_reducible repeat (first|refine kn' ?_ _|refine kd' ?_|refine ka' ?_ _));exact BK230.out) hb);have n2_:=am' (below_step (by repeat (first|(with_reducible first|exact HB.out|apply ba'|apply bd'|apply be'|refine bs' ?_ GE230.out)|exact HB.out)) hb);clear BK230;clear HB;have HO236:=n0_;have BK230:=n1_;have HB:=n2_;clear n0_ n1_ n2_;(try clear hb);(try clear hb2);(try clear hk);(try clear hi);(try clear ho0);obtain ⟨Ao17,co17,eo17⟩:=Kd.S_slice HO236.out;subst eo17)|((with_reducible refine gate_callee (f:=29) rfl ?_);refine goesL_ (some 21) rfl rfl Try.func29 (by kernel_rfl) rfl #[.agg #[.int .i64 t232, .int .i64 t233], .slice Ao17 t234.length co17] rfl (by (try simp only[List.map_toArray,List.map_cons,List.map_nil]);first|done|rfl|(simp only[List.length_drop,List.length_take];rfl)) ?_;(with_reducible refine (spec_IsCalmPlan.calls kj3 t232 t233 _ _ t234 t237 t238 _ ?side1 ?side2 A9.out).mono ?_);(case side1=>repeat (first|exact (Kd.S_reads' HO236.out).2.2|(with_reducible refine ca' ?_ _)|(with_reducible refine cn' ?_ _)|(with_reducible refine cd' ?_)));(case side2=>exact (Kd.S_reads' HO236.out).2.1);rintro e w18 ⟨rfl,hb⟩;refine ⟨_,rfl,?_⟩;have n0_:=am' (Kd.S_below (by (with_reducible repeat (first|apply Kd.S_alloc|apply Kd.S_drewN|apply Kd.S_drew));exact HO236.out) hb);have n1_:=am' (blk_below (g:=gb230) (o := .cells #[.int .i64 a0_0, .int .i64 a0_1] 37 (0,0)) (by (with_reducible repeat (first|refine kn' ?_ _|refine kd' ?_|refine ka' ?_ _));exact BK230.out) hb);have n2_:=am' (below_step (by repeat (first|(with_reducible first|exact HB.out|apply ba'|apply bd'|apply be'|refine bs' ?_ GE230.out)|exact HB.out)) hb);clear HO236;clear BK230;clear HB;have HO236:=n0_;have BK230:=n1_;have HB:=n2_;clear n0_ n1_ n2_;(try clear hb);(try clear hb2);(try clear hk);(try clear hi))|((with_reducible refine gate_callee (f:=31) rfl ?_);refine goesL_ (some 25) rfl rfl Try.func31 (by kernel_rfl) rfl #[.slice A1 l1.length c1] rfl (by (try simp only[List.map_toArray,List.map_cons,List.map_nil]);first|done|rfl|(simp only[List.length_drop,List.length_take];rfl)) ?_;(with_reducible refine (laws_toIntSS.calls kj3 _ _ l1 t239 _ ?side1 ?side2 A10.out).mono ?_);(case side1=>repeat (first|exact (Kd.C_below HR1.out HB.out)|(with_reducible refine ca' ?_ _)|(with_reducible refine cn' ?_ _)|(with_reducible refine cd' ?_)));(case side2=>exact HC1.out);rintro e w19 ⟨v240,rfl,ho0,hb⟩;refine ⟨_,rfl,?_⟩;obtain ⟨D251_,hdl_,hdg_⟩:=dlt_of hb;have D251_lt:=am' hdl_;have D251_ge:=am' hdg_;clear hdl_ hdg_;have n0_:=am' (Kd.S_elder' (Kd.S_dlt (by (with_reducible repeat (first|apply Kd.S_alloc|apply Kd.S_drewN|apply Kd.S_drew));exact HO236.out) D251_lt.out) (Kd.S_base ho0) hb);have n1_:=am' (Kd.S_lower (Kd.S_new' (Kd.S_dge ho0 D251_ge.out) (Kd.S_lt (by (with_reducible repeat (first|apply Kd.S_alloc|apply Kd.S_drewN|apply Kd.S_drew));exact HO236.out))) (below_size (by repeat (first|(with_reducible first|exact HB.out|apply ba'|apply bd'|apply be'|refine bs' ?_ GE230.out)|exact HB.out))));have n2_:=am' (blk_below (g:=gb230) (o := .cells #[.int .i64 a0_0, .int .i64 a0_1] 37 (0,0)) (by (with_reducible repeat (first|refine kn' ?_ _|refine kd' ?_|refine ka' ?_ _));exact BK230.out) hb);have n3_:=am' (below_step (by repeat (first|(with_reducible first|exact HB.out|apply ba'|apply bd'|apply be'|refine bs' ?_ GE230.out)|exact HB.out)) hb);clear HO236;clear BK230;clear HB;have HO236:=n0_;have HO241:=n1_;have BK230:=n2_;have HB:=n3_;clear n0_ n1_ n2_ n3_;(try clear hb);(try clear hb2);(try clear hk);(try clear hi);(try clear ho0);have hcz20_0:w19.cell? ⟨gb230,0,none⟩=some (.int .i64 a0_0):=(blk_cell BK230.out 0).trans rfl;have hcz20_1:w19.cell? ⟨gb230,1,none⟩=some (.int .i64 a0_1):=(blk_cell BK230.out 1).trans rfl;have hfz20_0:=blk_frozen BK230.out 0;have hfz20_1:=blk_frozen BK230.out 1)|((with_reducible refine gate_callee (f:=30) rfl ?_);refine goesL_ (some 28) rfl rfl Try.func30 (by kernel_rfl) rfl #[.agg #[.int .i64 a0_0, .int .i64 a0_1]] rfl (by (try simp only[List.map_toArray,List.map_cons,List.map_nil]);first|done|rfl|(simp only[List.length_drop,List.length_take];rfl)) ?_;(with_reducible refine (laws_toCompany.calls a0_0 a0_1 t242 t243 _ A11.out).mono ?_);rintro e w21 ⟨rfl,hb⟩;refine ⟨_,rfl,?_⟩;have n0_:=am' (Kd.S_below (by (with_reducible repeat (first|apply Kd.S_alloc|apply Kd.S_drewN|apply Kd.S_drew));exact HO236.out) hb);have n1_:=am' (Kd.S_below (by (with_reducible repeat (first|apply Kd.S_alloc|apply Kd.S_drewN|apply Kd.S_drew));exact HO241.out) hb);have n2_:=am' (blk_below (g:=gb230) (o := .cells #[.int .i64 a0_0, .int .i64 a0_1] 37 (0,0)) (by (with_reducible repeat (first|refine kn' ?_ _|refine kd' ?_|refine ka' ?_ _));exact BK230.out) hb);have n3_:=am' (below_step (by repeat (first|(with_reducible first|exact HB.out|apply ba'|apply bd'|apply be'|refine bs' ?_ GE230.out)|exact HB.out)) hb);clear HO236;clear HO241;clear BK230;clear HB;have HO236:=n0_;have HO241:=n1_;have BK230:=n2_;have HB:=n3_;clear n0_ n1_ n2_ n3_;(try clear hb);(try clear hb2);(try clear hk);(try clear hi);obtain ⟨Ao22,co22,eo22⟩:=Kd.S_slice HO241.out;subst eo22)|((with_reducible refine gate_callee (f:=32) rfl ?_);refine goesL_ (some 30) rfl rfl Try.func32 (by kernel_rfl) rfl #[.agg #[.int .i64 t242, .int .i64 t243], .slice Ao22 t239.length co22] rfl (by (try simp only[List.map_toArray,List.map_cons,List.map_nil]);first|done|rfl|(simp only[List.length_drop,List.length_take];rfl)) ?_;(with_reducible refine (impl_IsCalmPlan.calls kj3 t242 t243 _ _ t239 t244 t245 _ ?side1 ?side2 A12.out).mono ?_);(case side1=>repeat (first|exact (Kd.S_reads' HO241.out).2.2|(with_reducible refine ca' ?_ _)|(with_reducible refine cn' ?_ _)|(with_reducible refine cd' ?_)));(case side2=>exact (Kd.S_reads' HO241.out).2.1);rintro e w23 ⟨rfl,hb⟩;refine ⟨_,rfl,?_⟩;have n0_:=am' (Kd.S_below (by (with_reducible repeat (first|apply Kd.S_alloc|apply Kd.S_drewN|apply Kd.S_drew));exact HO236.out) hb);have n1_:=am' (Kd.S_below (by (with_reducible repeat (first|apply Kd.S_alloc|apply Kd.S_drewN|apply Kd.S_drew));exact HO241.out) hb);have n2_:=am' (blk_below (g:=gb230) (o := .cells #[.int .i64 a0_0, .int .i64 a0_1] 37 (0,0)) (by (with_reducible repeat (first|refine kn' ?_ _|refine kd' ?_|refine ka' ?_ _));exact BK230.out) hb);have n3_:=am' (below_step (by repeat (first|(with_reducible first|exact HB.out|apply ba'|apply bd'|apply be'|refine bs' ?_ GE230.out)|exact HB.out)) hb);clear HO236;clear HO241;clear BK230;clear HB;have HO236:=n0_;have HO241:=n1_;have BK230:=n2_;have HB:=n3_;clear n0_ n1_ n2_ n3_;(try clear hb);(try clear hb2);(try clear hk);(try clear hi)))
   (try simp only[Act.put,sa',sb',sc'])
   go_cut [40] (fun v40 wc=>∃ (kq:Nat) (x40_12:Bool),v40 = .bool x40_12∧Aside0 (laws_FnExactIsCalmPlan.j1 kq l1 t239 x40_12=some r)∧Aside0 (kq≤kj3)∧Aside0 (Kd.S (Kd.slice 3 (Kd.int .i64)) 32 wc w.heap.size (fun k_=>¬ D251_ k_) (.slice Ao22 t239.length co22) t239)∧Aside0 (wc.heap[gb230]? = some (.cells #[.int .i64 a0_0, .int .i64 a0_1] 37 (0,0)))∧Aside0 (Below w.heap.size w wc))
   case first =>
    have H:=HC13.out;clear HC13;by_cases c24:(t244 != t237)=true
    ·
     rw[if_pos c24] at H;have c24b0:(t244 != t237)=true:=c24
     (try (have c24b1:decide (t244=t237)=false:=by simpa using c24))
     (try (have c24b2:(t244 == t237)=false:=by simpa using c24))
     (try (have c24b3:¬ (t244=t237):=by simpa using c24))
     clear c24;(first|rw[c24b0]|(simp only[i64_w,i32_w];rw[c24b0])|rw[c24b1]|skip)
     have H':=am' H;clear H;go_wp2;go_meet
     case rel=>exact ⟨_,(true),(by first|rfl|(simp;done)|(simp[*];done)),H',⟨by have:=HJ3.out;first|omega|exact Nat.le_refl _⟩,⟨by (with_reducible repeat (first|apply Kd.S_alloc|apply Kd.S_drewN|apply Kd.S_drew));exact Kd.S_mono HO241.out (fun _ hk=>hk.1.2)⟩,⟨by (with_reducible repeat (first|refine kn' ?_ _|refine kd' ?_|refine ka' ?_ _));exact BK230.out⟩,⟨by repeat (first|(with_reducible first|exact HB.out|apply ba'|apply bd'|apply be'|refine bs' ?_ GE230.out)|exact HB.out)⟩⟩
    ·
     rw[if_neg c24] at H;have c24b0:(t244 != t237)=false:=by simpa using c24
     (try (have c24b1:decide (t244=t237)=true:=by simpa using c24))
     (try (have c24b2:(t244 == t237)=true:=by simpa using c24))
     clear c24;(first|rw[c24b0]|(simp only[i64_w,i32_w];rw[c24b0])|rw[c24b1]|skip)
     have H':=am' H;clear H;go_wp2;go_meet
     case rel=>exact ⟨_,((t245 != t238)),(by first|rfl|(simp;done)|(simp[*];done)),H',⟨by have:=HJ3.out;first|omega|exact Nat.le_refl _⟩,⟨by (with_reducible repeat (first|apply Kd.S_alloc|apply Kd.S_drewN|apply Kd.S_drew));exact Kd.S_mono HO241.out (fun _ hk=>hk.1.2)⟩,⟨by (with_reducible repeat (first|refine kn' ?_ _|refine kd' ?_|refine ka' ?_ _));exact BK230.out⟩,⟨by repeat (first|(with_reducible first|exact HB.out|apply ba'|apply bd'|apply be'|refine bs' ?_ GE230.out)|exact HB.out)⟩⟩
   case rest =>
    clear HC13;try clear c1
    try clear c2
    try clear p2
    try clear c3
    try clear c6
    try clear c6b0
    try clear c8
    try clear c24
    try clear c24b0
    try clear c24b1
    try clear c24b2
    try clear hcz14_0
    try clear hcz14_1
    try clear hcz20_0
    try clear hcz20_1
    try clear hfz14_0
    try clear hfz14_1
    try clear hfz20_0
    try clear hfz20_1
    try clear p2
    obtain ⟨kq,x40_12,rfl,HA,HJ12,HO_8,BK230,HB⟩:=hcut;cases kq with
    | zero=>exact absurd HA.out (by simp[laws_FnExactIsCalmPlan.j1])
    | succ kj12 =>
     have H:=HA.out;clear HA;simp only[laws_FnExactIsCalmPlan.j1] at H;have HC25:=am' H;clear H;go_upto_if 40 with (fail)
     go_cut [] (fun wc=>∃ (kq:Nat),Aside0 (laws_FnExactIsCalmPlan.j2 kq l1 t239=some r)∧Aside0 (kq≤kj12)∧Aside0 (Kd.S (Kd.slice 3 (Kd.int .i64)) 32 wc w.heap.size (fun k_=>¬ D251_ k_) (.slice Ao22 t239.length co22) t239)∧Aside0 (wc.heap[gb230]? = some (.cells #[.int .i64 a0_0, .int .i64 a0_1] 37 (0,0)))∧Aside0 (Below w.heap.size w wc))
     case first =>
      have H:=HC25.out;clear HC25;by_cases c26:x40_12=true
      ·
       subst c26;have H1:(some false)=some r:=by rw[if_pos rfl] at H;exact H
       clear H;have H:=H1;clear H1;obtain rfl:=Option.some.inj H;go_wp2;go_ret
       exact ⟨by first|rfl|(simp[errW_none,errW_some] <;> rfl)|(simp[*,errW_none,errW_some] <;> rfl),by repeat (first|(with_reducible first|exact HB.out|apply ba'|apply bd'|apply be'|refine bs' ?_ GE230.out)|exact HB.out)⟩
      ·
       replace c26:=Bool.eq_false_iff.mpr c26;subst c26;have H1:(laws_FnExactIsCalmPlan.j2 kj12 l1 t239)=some r:=by rw[if_neg (show ¬ (false=true) by decide)] at H;exact H
       clear H;have H:=H1;clear H1;have H':=am' H;clear H;go_wp2;go_meet
       case rel=>exact ⟨_,H',⟨by have:=HJ3.out;have:=HJ12.out;first|omega|exact Nat.le_refl _⟩,⟨by (with_reducible repeat (first|apply Kd.S_alloc|apply Kd.S_drewN|apply Kd.S_drew));exact HO_8.out⟩,⟨by (with_reducible repeat (first|refine kn' ?_ _|refine kd' ?_|refine ka' ?_ _));exact BK230.out⟩,⟨by repeat (first|(with_reducible first|exact HB.out|apply ba'|apply bd'|apply be'|refine bs' ?_ GE230.out)|exact HB.out)⟩⟩
     case rest =>
      clear HC25;try clear c1
      try clear c2
      try clear p2
      try clear c3
      try clear c6
      try clear c6b0
      try clear c8
      try clear c24
      try clear c24b0
      try clear c24b1
      try clear c24b2
      try clear c26
      try clear hcz14_0
      try clear hcz14_1
      try clear hcz20_0
      try clear hcz20_1
      try clear hfz14_0
      try clear hfz14_1
      try clear hfz20_0
      try clear hfz20_1
      try clear p2
      obtain ⟨kq,HA,HJ24,HO_8,BK230,HB⟩:=hcut;cases kq with
      | zero=>exact absurd HA.out (by simp[laws_FnExactIsCalmPlan.j2])
      | succ kj24 =>
       have H:=HA.out;clear HA;simp only[laws_FnExactIsCalmPlan.j2] at H;replace H:=Option.bind_eq_some_iff.mp H;obtain ⟨t246,A270,H⟩:=H;replace H:((laws_eqIntSS.f kj24 t239 t246).bind fun t249=>(if t249=true then (some true) else (some false)))=some r:=H;have A27:=am' A270;clear A270;replace H:=Option.bind_eq_some_iff.mp H;obtain ⟨t249,A280,H⟩:=H;replace H:(if t249=true then (some true) else (some false))=some r:=H;have A28:=am' A280;clear A280;by_cases c29:t249=true
       ·
        subst c29;have H1:(some true)=some r:=by rw[if_pos rfl] at H;exact H
        clear H;have H:=H1;clear H1;obtain rfl:=Option.some.inj H;go_wp2_with (first|((with_reducible refine gate_callee (f:=31) rfl ?_);refine goesL_ (some 43) rfl rfl Try.func31 (by kernel_rfl) rfl #[.slice A1 l1.length c1] rfl (by (try simp only[List.map_toArray,List.map_cons,List.map_nil]);first|done|rfl|(simp only[List.length_drop,List.length_take];rfl)) ?_;(with_reducible refine (laws_toIntSS.calls kj24 _ _ l1 t246 _ ?side1 ?side2 A27.out).mono ?_);(case side1=>repeat (first|exact (Kd.C_below HR1.out HB.out)|(with_reducible refine ca' ?_ _)|(with_reducible refine cn' ?_ _)|(with_reducible refine cd' ?_)));(case side2=>exact HC1.out);rintro e w30 ⟨v247,rfl,ho0,hb⟩;refine ⟨_,rfl,?_⟩;obtain ⟨D252_,hdl_,hdg_⟩:=dlt_of hb;have D252_lt:=am' hdl_;have D252_ge:=am' hdg_;clear hdl_ hdg_;have n0_:=am' (Kd.S_elder' (Kd.S_dlt (by (with_reducible repeat (first|apply Kd.S_alloc|apply Kd.S_drewN|apply Kd.S_drew));exact HO_8.out) D252_lt.out) (Kd.S_base ho0) hb);have n1_:=am' (Kd.S_lower (Kd.S_new' (Kd.S_dge ho0 D252_ge.out) (Kd.S_lt (by (with_reducible repeat (first|apply Kd.S_alloc|apply Kd.S_drewN|apply Kd.S_drew));exact HO_8.out))) (below_size (by repeat (first|(with_reducible first|exact HB.out|apply ba'|apply bd'|apply be'|refine bs' ?_ GE230.out)|exact HB.out))));have n2_:=am' (blk_below (g:=gb230) (o := .cells #[.int .i64 a0_0, .int .i64 a0_1] 37 (0,0)) (by (with_reducible repeat (first|refine kn' ?_ _|refine kd' ?_|refine ka' ?_ _));exact BK230.out) hb);have n3_:=am' (below_step (by repeat (first|(with_reducible first|exact HB.out|apply ba'|apply bd'|apply be'|refine bs' ?_ GE230.out)|exact HB.out)) hb);clear HO_8;clear BK230;clear HB;have HO_8:=n0_;have HO248:=n1_;have BK230:=n2_;have HB:=n3_;clear n0_ n1_ n2_ n3_;(try clear hb);(try clear hb2);(try clear hk);(try clear hi);(try clear ho0);obtain ⟨Ao31,co31,eo31⟩:=Kd.S_slice HO248.out;subst eo31)|((with_reducible refine gate_callee (f:=20) rfl ?_);refine goesL_ (some 44) rfl rfl Try.func20 (by kernel_rfl) rfl #[.slice Ao22 t239.length co22, .slice Ao31 t246.length co31] rfl (by (try simp only[List.map_toArray,List.map_cons,List.map_nil]);first|done|rfl|(simp only[List.length_drop,List.length_take];rfl)) ?_;(with_reducible refine (laws_eqIntSS.calls kj24 _ _ t239 _ _ t246 true _ ?side1 ?side2 ?side3 ?side4 A28.out).mono ?_);(case side1=>repeat (first|exact (Kd.S_reads' HO_8.out).2.2|(with_reducible refine ca' ?_ _)|(with_reducible refine cn' ?_ _)|(with_reducible refine cd' ?_)));(case side2=>exact (Kd.S_reads' HO_8.out).2.1);(case side3=>repeat (first|exact (Kd.S_reads' HO248.out).2.2|(with_reducible refine ca' ?_ _)|(with_reducible refine cn' ?_ _)|(with_reducible refine cd' ?_)));(case side4=>exact (Kd.S_reads' HO248.out).2.1);rintro e w' ⟨rfl,⟨nd,rfl⟩⟩;refine ⟨_,rfl,?_⟩));go_ret
        exact ⟨by first|rfl|(simp[errW_none,errW_some] <;> rfl)|(simp[*,errW_none,errW_some] <;> rfl),by repeat (first|(with_reducible first|exact HB.out|apply ba'|apply bd'|apply be'|refine bs' ?_ GE230.out)|exact HB.out)⟩
       ·
        replace c29:=Bool.eq_false_iff.mpr c29;subst c29;have H1:(some false)=some r:=by rw[if_neg (show ¬ (false=true) by decide)] at H;exact H
        clear H;have H:=H1;clear H1;obtain rfl:=Option.some.inj H;go_wp2_with (first|((with_reducible refine gate_callee (f:=31) rfl ?_);refine goesL_ (some 43) rfl rfl Try.func31 (by kernel_rfl) rfl #[.slice A1 l1.length c1] rfl (by (try simp only[List.map_toArray,List.map_cons,List.map_nil]);first|done|rfl|(simp only[List.length_drop,List.length_take];rfl)) ?_;(with_reducible refine (laws_toIntSS.calls kj24 _ _ l1 t246 _ ?side1 ?side2 A27.out).mono ?_);(case side1=>repeat (first|exact (Kd.C_below HR1.out HB.out)|(with_reducible refine ca' ?_ _)|(with_reducible refine cn' ?_ _)|(with_reducible refine cd' ?_)));(case side2=>exact HC1.out);rintro e w32 ⟨v247,rfl,ho0,hb⟩;refine ⟨_,rfl,?_⟩;obtain ⟨D253_,hdl_,hdg_⟩:=dlt_of hb;have D253_lt:=am' hdl_;have D253_ge:=am' hdg_;clear hdl_ hdg_;have n0_:=am' (Kd.S_elder' (Kd.S_dlt (by (with_reducible repeat (first|apply Kd.S_alloc|apply Kd.S_drewN|apply Kd.S_drew));exact HO_8.out) D253_lt.out) (Kd.S_base ho0) hb);have n1_:=am' (Kd.S_lower (Kd.S_new' (Kd.S_dge ho0 D253_ge.out) (Kd.S_lt (by (with_reducible repeat (first|apply Kd.S_alloc|apply Kd.S_drewN|apply Kd.S_drew));exact HO_8.out))) (below_size (by repeat (first|(with_reducible first|exact HB.out|apply ba'|apply bd'|apply be'|refine bs' ?_ GE230.out)|exact HB.out))));have n2_:=am' (blk_below (g:=gb230) (o := .cells #[.int .i64 a0_0, .int .i64 a0_1] 37 (0,0)) (by (with_reducible repeat (first|refine kn' ?_ _|refine kd' ?_|refine ka' ?_ _));exact BK230.out) hb);have n3_:=am' (below_step (by repeat (first|(with_reducible first|exact HB.out|apply ba'|apply bd'|apply be'|refine bs' ?_ GE230.out)|exact HB.out)) hb);clear HO_8;clear BK230;clear HB;have HO_8:=n0_;have HO248:=n1_;have BK230:=n2_;have HB:=n3_;clear n0_ n1_ n2_ n3_;(try clear hb);(try clear hb2);(try clear hk);(try clear hi);(try clear ho0);obtain ⟨Ao33,co33,eo33⟩:=Kd.S_slice HO248.out;subst eo33)|((with_reducible refine gate_callee (f:=20) rfl ?_);refine goesL_ (some 44) rfl rfl Try.func20 (by kernel_rfl) rfl #[.slice Ao22 t239.length co22, .slice Ao33 t246.length co33] rfl (by (try simp only[List.map_toArray,List.map_cons,List.map_nil]);first|done|rfl|(simp only[List.length_drop,List.length_take];rfl)) ?_;(with_reducible refine (laws_eqIntSS.calls kj24 _ _ t239 _ _ t246 false _ ?side1 ?side2 ?side3 ?side4 A28.out).mono ?_);(case side1=>repeat (first|exact (Kd.S_reads' HO_8.out).2.2|(with_reducible refine ca' ?_ _)|(with_reducible refine cn' ?_ _)|(with_reducible refine cd' ?_)));(case side2=>exact (Kd.S_reads' HO_8.out).2.1);(case side3=>repeat (first|exact (Kd.S_reads' HO248.out).2.2|(with_reducible refine ca' ?_ _)|(with_reducible refine cn' ?_ _)|(with_reducible refine cd' ?_)));(case side4=>exact (Kd.S_reads' HO248.out).2.1);rintro e w' ⟨rfl,⟨nd,rfl⟩⟩;refine ⟨_,rfl,?_⟩));go_ret
        exact ⟨by first|rfl|(simp[errW_none,errW_some] <;> rfl)|(simp[*,errW_none,errW_some] <;> rfl),by repeat (first|(with_reducible first|exact HB.out|apply ba'|apply bd'|apply be'|refine bs' ?_ GE230.out)|exact HB.out)⟩
end Go.Proofs.Ytibdeohiimjocaa.C12
