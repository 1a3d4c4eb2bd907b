import Derived.Test.YtikjdmiohpdnaaaC16zx0
import Derived.Test.YtikjdmiohpdnaaaC16zx1
import Derived.Test.YtikjdmiohpdnaaaC16zx2
import Derived.Test.YtikjdmiohpdnaaaC16zx10
import Derived.Test.YtikjdmiohpdnaaaC16zx15
import Derived.Test.YtikjdmiohpdnaaaC16zx16
import Derived.Test.YtikjdmiohpdnaaaC16zAl
namespace Go.Proofs.Ytikjdmiohpdnaaa.C16
open Go.RowKit Go.Proofs.YtikjdmiohpdnaaaW.PrintWords Go.Proofs.YtikjdmiohpdnaaaW.PrintLast Go.Proofs.YtikjdmiohpdnaaaW.PrintMore Go.Proofs.Ytikjdmiohpdnaaa.H
attribute [local go_sem] max2_int min2_int max_two min_two max_three min_three max_four min_four
set_option linter.unusedVariables false
set_option linter.unusedSimpArgs false
mutual
def laws_FnExactNeededRowers.j0:Nat→List Int→List Bool→Int→Option (Bool)
 | 0,_,_,_=>none
 | k+1,x391000,x391001,x391002=>(laws_toCrew.f k x391000 x391001 x391002).bind fun bt392=>((spec_NeededRowers.f k bt392.1 bt392.2.1 bt392.2.2).bind fun bt399=>((laws_toCrew.f k x391000 x391001 x391002).bind fun bt403=>((impl_NeededRowers.f k bt403.1 bt403.2.1 bt403.2.2).bind fun bt411=>((laws_eqIntS.f k bt411.1 bt399.1).bind fun t415=>(if t415=true then (laws_FnExactNeededRowers.j1 k bt399.1 bt399.2 bt411.1 bt411.2 (bt411.2 != bt399.2) x391000 x391001 x391002 bt403.1 bt403.2.1 bt403.2.2) else (laws_FnExactNeededRowers.j1 k bt399.1 bt399.2 bt411.1 bt411.2 true x391000 x391001 x391002 bt403.1 bt403.2.1 bt403.2.2))))))
def laws_FnExactNeededRowers.j1:Nat→List Int→Bool→List Int→Bool→Bool→List Int→List Bool→Int→List Int→List Bool→Int→Option (Bool)
 | 0,_,_,_,_,_,_,_,_,_,_,_=>none
 | k+1,x4,x5,x7,x8,x40,x391000,x391001,x391002,x411000,x411001,x411002=>if x40=true then (some false) else (laws_FnExactNeededRowers.j2 k x4 x5 x7 x8 x391000 x391001 x391002 x411000 x411001 x411002)
def laws_FnExactNeededRowers.j2:Nat→List Int→Bool→List Int→Bool→List Int→List Bool→Int→List Int→List Bool→Int→Option (Bool)
 | 0,_,_,_,_,_,_,_,_,_,_=>none
 | k+1,x4,x5,x7,x8,x391000,x391001,x391002,x411000,x411001,x411002=>(laws_toCrew.f k x391000 x391001 x391002).bind fun bt416=>((laws_eqCrew.f k x411000 x411001 x411002 bt416.1 bt416.2.1 bt416.2.2).bind fun t423=>(if t423=true then (laws_FnExactNeededRowers.j3 k x4 x5 x7 x8 x391000 x391001 x391002 x411000 x411001 x411002) else (some false)))
def laws_FnExactNeededRowers.j3:Nat→List Int→Bool→List Int→Bool→List Int→List Bool→Int→List Int→List Bool→Int→Option (Bool)
 | 0,_,_,_,_,_,_,_,_,_,_=>none
 | k+1,x4,x5,x7,x8,x391000,x391001,x391002,x411000,x411001,x411002=>(laws_markCrew.f k x411000 x411001 x411002 1).bind fun bt424=>(if bt424.1 < 0 then (laws_FnExactNeededRowers.j4 k x4 x5 x7 true x391000 x391001 x391002) else ((laws_eqIntS.f k x7 x4).bind fun t427=>(if t427=true then (laws_FnExactNeededRowers.j4 k x4 x5 x7 (x8 != x5) x391000 x391001 x391002) else (laws_FnExactNeededRowers.j4 k x4 x5 x7 true x391000 x391001 x391002))))
def laws_FnExactNeededRowers.j4:Nat→List Int→Bool→List Int→Bool→List Int→List Bool→Int→Option (Bool)
 | 0,_,_,_,_,_,_,_=>none
 | k+1,x4,x5,x7,x61,x391000,x391001,x391002=>if x61=true then (some false) else (laws_FnExactNeededRowers.j5 k x4 x5 x7 x391000 x391001 x391002)
def laws_FnExactNeededRowers.j5:Nat→List Int→Bool→List Int→List Int→List Bool→Int→Option (Bool)
 | 0,_,_,_,_,_,_=>none
 | k+1,x4,x5,x7,x391000,x391001,x391002=>(laws_markIntS.f k x7 1).bind fun bt428=>((laws_heldIntS.f k bt428.2 1).bind fun t430=>(if t430 < 0 then (some false) else (laws_FnExactNeededRowers.j6 k x4 x5 bt428.2 bt428.1 t430 x391000 x391001 x391002)))
def laws_FnExactNeededRowers.j6:Nat→List Int→Bool→List Int→Int→Int→List Int→List Bool→Int→Option (Bool)
 | 0,_,_,_,_,_,_,_,_=>none
 | k+1,x4,x5,x7,x10,x11,x391000,x391001,x391002=>if x11=x10 then (laws_FnExactNeededRowers.j7 k x4 x5 x7 x10 x391000 x391001 x391002) else (some false)
def laws_FnExactNeededRowers.j7:Nat→List Int→Bool→List Int→Int→List Int→List Bool→Int→Option (Bool)
 | 0,_,_,_,_,_,_,_=>none
 | k+1,x4,x5,x7,x10,x391000,x391001,x391002=>(laws_toCrew.f k x391000 x391001 x391002).bind fun bt431=>((impl_NeededRowers.f k bt431.1 bt431.2.1 bt431.2.2).bind fun bt438=>((laws_eqIntS.f k bt438.1 x4).bind fun t442=>(if t442=true then (laws_FnExactNeededRowers.j8 k x7 x10 (bt438.2 != x5)) else (laws_FnExactNeededRowers.j8 k x7 x10 true))))
def laws_FnExactNeededRowers.j8:Nat→List Int→Int→Bool→Option (Bool)
 | 0,_,_,_=>none
 | k+1,x7,x10,x87=>if x87=true then (some false) else (laws_FnExactNeededRowers.j9 k x7 x10)
def laws_FnExactNeededRowers.j9:Nat→List Int→Int→Option (Bool)
 | 0,_,_=>none
 | k+1,x7,x10=>(laws_heldIntS.f k x7 1).bind fun t443=>(if t443 < 0 then (some false) else (if t443=x10 then (some true) else (some false)))
end
def laws_FnExactNeededRowers.f (k:Nat) (l0_0:List Int) (l0_1:List Bool) (a0_2:Int):Option (Bool):=(laws_szCrew.f l0_0 l0_1 a0_2 1048576).bind fun t391=>(if t391 < 0 then (some true) else (laws_FnExactNeededRowers.j0 k l0_0 l0_1 a0_2))
set_option maxHeartbeats 8000000 in
set_option maxRecDepth 100000 in
theorem laws_FnExactNeededRowers.calls (k:Nat) (A0_0:Option Addr) (c0_0:Nat) (l0_0:List Int) (A0_1:Option Addr) (c0_1:Nat) (l0_1:List Bool) (a0_2:Int) (r:Bool) (w:World) (hr0_0:Kd.C (Kd.int .i64) w A0_0 l0_0.length l0_0) (hc0_0:l0_0.length≤c0_0) (hr0_1:Kd.C Kd.bool w A0_1 l0_1.length l0_1) (hc0_1:l0_1.length≤c0_1) (h:laws_FnExactNeededRowers.f k l0_0 l0_1 a0_2=some r) :
  Calls Try.prog 7 #[.agg #[.slice A0_0 l0_0.length c0_0, .slice A0_1 l0_1.length c0_1, .int .i64 a0_2]] w fun e w'=>e = .returned (.bool r)∧Below w.heap.size w w':=by
 have hu25:=Try.underlying25
 have hu29:=Try.underlying29
 have HR0_0:=am' hr0_0
 have HC0_0:=am' hc0_0
 clear hr0_0 hc0_0;have HR0_1:=am' hr0_1
 have HC0_1:=am' hc0_1
 clear hr0_1 hc0_1;have HB:=am' (Below.refl w.heap.size w)
 have H:((laws_szCrew.f l0_0 l0_1 a0_2 1048576).bind fun t391=>(if t391 < 0 then (some true) else (laws_FnExactNeededRowers.j0 k l0_0 l0_1 a0_2)))=some r:=h
 clear h;replace H:=Option.bind_eq_some_iff.mp H
 obtain ⟨t391,A20,H⟩:=H
 replace H:(if t391 < 0 then (some true) else (laws_FnExactNeededRowers.j0 k l0_0 l0_1 a0_2))=some r:=H
 have A2:=am' A20
 clear A20;have HC3:=am' H
 clear H;go_enter Try.func7,Try.ntmps7
 go_upto_if 18 with (first|((with_reducible refine gate_dst (N:=1) rfl ?_);refine box_event ?hg (N:=1) ?hd (cs:=#[.slice A0_0 l0_0.length c0_0, .slice A0_1 l0_1.length c0_1, .int .i64 a0_2]) (t:=25) ?hr ?_;(case hd=>rfl);(case hg=>rfl);(case hr=>first|(go_simp;done)|(go_simp;rfl));intro gb390 hg w4 hbox hb;have n0_:=am' (below_step xb' hb);have n1_:=am' (hbox);have n2_:=am' ((by rw[hg];exact (below_size xb'):w.heap.size≤gb390));have n3_:=am' ((by rw[hg];exact (below_size xb'):w.heap.size≤gb390));clear HB;have HB:=n0_;have BK390:=n1_;have GW390:=n2_;have GE390:=n3_;clear n0_ n1_ n2_ n3_;clear hb hbox hg;have hcz5_0:w4.cell? ⟨gb390,0,none⟩=some (.slice A0_0 l0_0.length c0_0):=(blk_cell BK390.out 0).trans rfl;have hcz5_1:w4.cell? ⟨gb390,1,none⟩=some (.slice A0_1 l0_1.length c0_1):=(blk_cell BK390.out 1).trans rfl;have hcz5_2:w4.cell? ⟨gb390,2,none⟩=some (.int .i64 a0_2):=(blk_cell BK390.out 2).trans rfl;have hfz5_0:=blk_frozen BK390.out 0;have hfz5_1:=blk_frozen BK390.out 1;have hfz5_2:=blk_frozen BK390.out 2)|((with_reducible refine gate_callee (f:=12) rfl ?_);refine goesL_ (some 16) rfl rfl Try.func12 xk' rfl #[.agg #[.slice A0_0 l0_0.length c0_0, .slice A0_1 l0_1.length c0_1, .int .i64 a0_2], .int .i64 1048576] rfl xl' ?_;(with_reducible refine (laws_szCrew.calls _ _ l0_0 _ _ l0_1 a0_2 1048576 t391 _ ?side1 ?side2 ?side3 ?side4 A2.out).mono ?_);(case side1=>repeat (first|exact (Kd.C_below HR0_0.out HB.out)|(with_reducible refine ca' ?_ _)|(with_reducible refine cn' ?_ _)|(with_reducible refine cd' ?_)));(case side2=>exact HC0_0.out);(case side3=>repeat (first|exact (Kd.C_below HR0_1.out HB.out)|(with_reducible refine ca' ?_ _)|(with_reducible refine cn' ?_ _)|(with_reducible refine cd' ?_)));(case side4=>exact HC0_1.out);rintro e w6 ⟨rfl,hb⟩;refine ⟨_,rfl,?_⟩;have n0_:=am' (blk_below (g:=gb390) (o := .cells #[.slice A0_0 l0_0.length c0_0, .slice A0_1 l0_1.length c0_1, .int .i64 a0_2] 25 (0,0)) (kk' BK390.out) hb);have n1_:=am' (below_step (yb' GE390.out) hb);clear BK390;clear HB;have BK390:=n0_;have HB:=n1_;clear n0_ n1_;(try clear hb);(try clear hb2);(try clear hk);(try clear hi)))
 (try simp only[Act.put,sa',sb',sc'])
 go_cut [] (fun wc=>∃ (kq:Nat),Aside0 (laws_FnExactNeededRowers.j0 kq l0_0 l0_1 a0_2=some r)∧Aside0 (kq≤k)∧Aside0 (wc.heap[gb390]? = some (.cells #[(.slice A0_0 l0_0.length c0_0),(.slice A0_1 l0_1.length c0_1), .int .i64 a0_2] 25 (0,0)))∧Aside0 (Below w.heap.size w wc))
 case first =>
  have H:=HC3.out;clear HC3;by_cases c7:t391 < 0
  ·
   rw[if_pos c7] at H;have c7b0:decide (t391 < 0)=true:=decide_eq_true c7;clear c7;(first|rw[c7b0]|(simp only[i64_w,i32_w];rw[c7b0])|skip)
   obtain rfl:=Option.some.inj H;go_wp2;go_ret
   exact ⟨by first|rfl|(simp[errW_none,errW_some] <;> rfl)|(simp[*,errW_none,errW_some] <;> rfl),by repeat (first|(with_reducible first|exact HB.out|apply ba'|apply bd'|apply be'|refine bs' ?_ GE390.out)|exact HB.out)⟩
  ·
   rw[if_neg c7] at H;have c7b0:decide (t391 < 0)=false:=decide_eq_false c7;clear c7;(first|rw[c7b0]|(simp only[i64_w,i32_w];rw[c7b0])|skip)
   have H':=am' H;clear H;go_wp2;go_meet
   case rel=>exact ⟨_,H',⟨by first|omega|exact Nat.le_refl _⟩,⟨by (with_reducible repeat (first|refine kn' ?_ _|refine kd' ?_|refine ka' ?_ _));exact BK390.out⟩,⟨by repeat (first|(with_reducible first|exact HB.out|apply ba'|apply bd'|apply be'|refine bs' ?_ GE390.out)|exact HB.out)⟩⟩
 case rest =>
  clear HC3;try clear c1
  try clear p2
  try clear c7
  try clear c7b0
  try clear hcz5_0
  try clear hcz5_1
  try clear hcz5_2
  try clear hfz5_0
  try clear hfz5_1
  try clear hfz5_2
  obtain ⟨kq,HA,HJ2,BK390,HB⟩:=hcut;cases kq with
  | zero=>exact absurd HA.out (by simp[laws_FnExactNeededRowers.j0])
  | succ kj2 =>
   have H:=HA.out;clear HA;simp only[laws_FnExactNeededRowers.j0] at H;replace H:=Option.bind_eq_some_iff.mp H;obtain ⟨⟨t392,t395,t398⟩,A80,H⟩:=H;replace H:((spec_NeededRowers.f kj2 t392 t395 t398).bind fun bt399=>((laws_toCrew.f kj2 l0_0 l0_1 a0_2).bind fun bt403=>((impl_NeededRowers.f kj2 bt403.1 bt403.2.1 bt403.2.2).bind fun bt411=>((laws_eqIntS.f kj2 bt411.1 bt399.1).bind fun t415=>(if t415=true then (laws_FnExactNeededRowers.j1 kj2 bt399.1 bt399.2 bt411.1 bt411.2 (bt411.2 != bt399.2) l0_0 l0_1 a0_2 bt403.1 bt403.2.1 bt403.2.2) else (laws_FnExactNeededRowers.j1 kj2 bt399.1 bt399.2 bt411.1 bt411.2 true l0_0 l0_1 a0_2 bt403.1 bt403.2.1 bt403.2.2))))))=some r:=H;have A8:=am' A80;clear A80;replace H:=Option.bind_eq_some_iff.mp H;obtain ⟨⟨t399,t402⟩,A90,H⟩:=H;replace H:((laws_toCrew.f kj2 l0_0 l0_1 a0_2).bind fun bt403=>((impl_NeededRowers.f kj2 bt403.1 bt403.2.1 bt403.2.2).bind fun bt411=>((laws_eqIntS.f kj2 bt411.1 t399).bind fun t415=>(if t415=true then (laws_FnExactNeededRowers.j1 kj2 t399 t402 bt411.1 bt411.2 (bt411.2 != t402) l0_0 l0_1 a0_2 bt403.1 bt403.2.1 bt403.2.2) else (laws_FnExactNeededRowers.j1 kj2 t399 t402 bt411.1 bt411.2 true l0_0 l0_1 a0_2 bt403.1 bt403.2.1 bt403.2.2)))))=some r:=H;have A9:=am' A90;clear A90;replace H:=Option.bind_eq_some_iff.mp H;obtain ⟨⟨t403,t406,t409⟩,A100,H⟩:=H;replace H:((impl_NeededRowers.f kj2 t403 t406 t409).bind fun bt411=>((laws_eqIntS.f kj2 bt411.1 t399).bind fun t415=>(if t415=true then (laws_FnExactNeededRowers.j1 kj2 t399 t402 bt411.1 bt411.2 (bt411.2 != t402) l0_0 l0_1 a0_2 t403 t406 t409) else (laws_FnExactNeededRowers.j1 kj2 t399 t402 bt411.1 bt411.2 true l0_0 l0_1 a0_2 t403 t406 t409))))=some r:=H;have A10:=am' A100;clear A100;replace H:=Option.bind_eq_some_iff.mp H;obtain ⟨⟨t411,t414⟩,A110,H⟩:=H;replace H:((laws_eqIntS.f kj2 t411 t399).bind fun t415=>(if t415=true then (laws_FnExactNeededRowers.j1 kj2 t399 t402 t411 t414 (t414 != t402) l0_0 l0_1 a0_2 t403 t406 t409) else (laws_FnExactNeededRowers.j1 kj2 t399 t402 t411 t414 true l0_0 l0_1 a0_2 t403 t406 t409)))=some r:=H;have A11:=am' A110;clear A110;have HC12:=am' H;clear H;have hcz13_0:wc.cell? ⟨gb390,0,none⟩=some (.slice A0_0 l0_0.length c0_0):=(blk_cell BK390.out 0).trans rfl;have hcz13_1:wc.cell? ⟨gb390,1,none⟩=some (.slice A0_1 l0_1.length c0_1):=(blk_cell BK390.out 1).trans rfl;have hcz13_2:wc.cell? ⟨gb390,2,none⟩=some (.int .i64 a0_2):=(blk_cell BK390.out 2).trans rfl;have hfz13_0:=blk_frozen BK390.out 0;have hfz13_1:=blk_frozen BK390.out 1;have hfz13_2:=blk_frozen BK390.out 2;go_upto_region 8 with (first|((with_reducible refine gate_callee (f:=14) rfl ?_);refine goesL_ (some 21) rfl rfl Try.func14 xk' rfl #[.agg #[.slice A0_0 l0_0.length c0_0, .slice A0_1 l0_1.length c0_1, .int .i64 a0_2]] rfl xl' ?_;(with_reducible refine (laws_toCrew.calls kj2 _ _ l0_0 _ _ l0_1 a0_2 t392 t395 t398 _ ?side1 ?side2 ?side3 ?side4 A8.out).mono ?_);(case side1=>repeat (first|exact (Kd.C_below HR0_0.out HB.out)|(with_reducible refine ca' ?_ _)|(with_reducible refine cn' ?_ _)|(with_reducible refine cd' ?_)));(case side2=>exact HC0_0.out);(case side3=>repeat (first|exact (Kd.C_below HR0_1.out HB.out)|(with_reducible refine ca' ?_ _)|(with_reducible refine cn' ?_ _)|(with_reducible refine cd' ?_)));(case side4=>exact HC0_1.out);rintro e w14 ⟨v393,v396,rfl,ho0,ho1,hb⟩;refine ⟨_,rfl,?_⟩;obtain ⟨D444_,hdl_,hdg_⟩:=dlt_of hb;have D444_lt:=am' hdl_;have D444_ge:=am' hdg_;clear hdl_ hdg_;have n0_:=am' (Kd.R_lower (Kd.R_dge ho0 D444_ge.out) (below_size (yb' GE390.out)));have n1_:=am' (Kd.R_lower (Kd.R_dge ho1 D444_ge.out) (below_size (yb' GE390.out)));have n2_:=am' (blk_below (g:=gb390) (o := .cells #[.slice A0_0 l0_0.length c0_0, .slice A0_1 l0_1.length c0_1, .int .i64 a0_2] 25 (0,0)) (kk' BK390.out) hb);have n3_:=am' (below_step (yb' GE390.out) hb);clear BK390;clear HB;have HO394:=n0_;have HO397:=n1_;have BK390:=n2_;have HB:=n3_;clear n0_ n1_ n2_ n3_;(try clear hb);(try clear hb2);(try clear hk);(try clear hi);(try clear ho0);(try clear ho1);obtain ⟨Ao15,co15,eo15⟩:=Kd.R_slice HO394.out;subst eo15;obtain ⟨Ao16,co16,eo16⟩:=Kd.R_slice HO397.out;subst eo16)|((with_reducible refine gate_callee (f:=37) rfl ?_);refine goesL_ (some 22) rfl rfl Try.func37 xk' rfl #[.agg #[.slice Ao15 t392.length co15, .slice Ao16 t395.length co16, .int .i64 t398]] rfl xl' ?_;(with_reducible refine (spec_NeededRowers.calls kj2 _ _ t392 _ _ t395 t398 t399 t402 _ ?side1 ?side2 ?side3 ?side4 A9.out).mono ?_);(case side1=>repeat (first|exact (Kd.R_reads' HO394.out).2.2|(with_reducible refine ca' ?_ _)|(with_reducible refine cn' ?_ _)|(with_reducible refine cd' ?_)));(case side2=>exact (Kd.R_reads' HO394.out).2.1);(case side3=>repeat (first|exact (Kd.R_reads' HO397.out).2.2|(with_reducible refine ca' ?_ _)|(with_reducible refine cn' ?_ _)|(with_reducible refine cd' ?_)));(case side4=>exact (Kd.R_reads' HO397.out).2.1);rintro e w17 ⟨v400,rfl,ho0,hb⟩;refine ⟨_,rfl,?_⟩;obtain ⟨D445_,hdl_,hdg_⟩:=dlt_of hb;have D445_lt:=am' hdl_;have D445_ge:=am' hdg_;clear hdl_ hdg_;have n0_:=am' (Kd.R_elder' (Kd.R_dlt (kr' HO394.out) D445_lt.out) (Kd.R_base ho0) hb);have n1_:=am' (Kd.R_below (Kd.R_dlt (kr' HO397.out) D445_lt.out) hb);have n2_:=am' (Kd.R_lower (Kd.R_new' (Kd.R_dge ho0 D445_ge.out) (Kd.R_lt (kr' HO394.out))) (below_size (yb' GE390.out)));have n3_:=am' (blk_below (g:=gb390) (o := .cells #[.slice A0_0 l0_0.length c0_0, .slice A0_1 l0_1.length c0_1, .int .i64 a0_2] 25 (0,0)) (kk' BK390.out) hb);have n4_:=am' (below_step (yb' GE390.out) hb);clear HO394;clear HO397;clear BK390;clear HB;have HO394:=n0_;have HO397:=n1_;have HO401:=n2_;have BK390:=n3_;have HB:=n4_;clear n0_ n1_ n2_ n3_ n4_;(try clear hb);(try clear hb2);(try clear hk);(try clear hi);(try clear ho0);have hcz18_0:w17.cell? ⟨gb390,0,none⟩=some (.slice A0_0 l0_0.length c0_0):=(blk_cell BK390.out 0).trans rfl;have hcz18_1:w17.cell? ⟨gb390,1,none⟩=some (.slice A0_1 l0_1.length c0_1):=(blk_cell BK390.out 1).trans rfl;have hcz18_2:w17.cell? ⟨gb390,2,none⟩=some (.int .i64 a0_2):=(blk_cell BK390.out 2).trans rfl;have hfz18_0:=blk_frozen BK390.out 0;have hfz18_1:=blk_frozen BK390.out 1;have hfz18_2:=blk_frozen BK390.out 2)|((with_reducible refine gate_callee (f:=14) rfl ?_);refine goesL_ (some 26) rfl rfl Try.func14 xk' rfl #[.agg #[.slice A0_0 l0_0.length c0_0, .slice A0_1 l0_1.length c0_1, .int .i64 a0_2]] rfl xl' ?_;(with_reducible refine (laws_toCrew.calls kj2 _ _ l0_0 _ _ l0_1 a0_2 t403 t406 t409 _ ?side1 ?side2 ?side3 ?side4 A10.out).mono ?_);(case side1=>repeat (first|exact (Kd.C_below HR0_0.out HB.out)|(with_reducible refine ca' ?_ _)|(with_reducible refine cn' ?_ _)|(with_reducible refine cd' ?_)));(case side2=>exact HC0_0.out);(case side3=>repeat (first|exact (Kd.C_below HR0_1.out HB.out)|(with_reducible refine ca' ?_ _)|(with_reducible refine cn' ?_ _)|(with_reducible refine cd' ?_)));(case side4=>exact HC0_1.out);rintro e w19 ⟨v404,v407,rfl,ho0,ho1,hb⟩;refine ⟨_,rfl,?_⟩;obtain ⟨D446_,hdl_,hdg_⟩:=dlt_of hb;have D446_lt:=am' hdl_;have D446_ge:=am' hdg_;clear hdl_ hdg_;have n0_:=am' (Kd.R_elder' (Kd.R_dlt (kr' HO394.out) D446_lt.out) (Kd.R_base ho0) hb);have n1_:=am' (Kd.R_elder' (Kd.R_dlt (kr' HO397.out) D446_lt.out) (Kd.R_base ho1) hb);have n2_:=am' (Kd.R_elder' (Kd.R_dlt (kr' HO401.out) D446_lt.out) (Kd.R_base ho0) hb);have n3_:=am' (Kd.R_lower (Kd.R_new' (Kd.R_new' (Kd.R_dge ho0 D446_ge.out) (Kd.R_lt (kr' HO394.out))) (Kd.R_lt (kr' HO401.out))) (below_size (yb' GE390.out)));have n4_:=am' (Kd.R_lower (Kd.R_new' (Kd.R_dge ho1 D446_ge.out) (Kd.R_lt (kr' HO397.out))) (below_size (yb' GE390.out)));have n5_:=am' (blk_below (g:=gb390) (o := .cells #[.slice A0_0 l0_0.length c0_0, .slice A0_1 l0_1.length c0_1, .int .i64 a0_2] 25 (0,0)) (kk' BK390.out) hb);have n6_:=am' (below_step (yb' GE390.out) hb);clear HO394;clear HO397;clear HO401;clear BK390;clear HB;have HO394:=n0_;have HO397:=n1_;have HO401:=n2_;have HO405:=n3_;have HO408:=n4_;have BK390:=n5_;have HB:=n6_;clear n0_ n1_ n2_ n3_ n4_ n5_ n6_;(try clear hb);(try clear hb2);(try clear hk);(try clear hi);(try clear ho0);(try clear ho1))|((with_reducible refine gate_dst (N:=6) rfl ?_);refine box_event ?hg (N:=6) ?hd (cs:=#[.slice none 0 0, .slice none 0 0, .int .i64 0]) (t:=29) ?hr ?_;(case hd=>rfl);(case hg=>rfl);(case hr=>first|(go_simp;done)|(go_simp;rfl));intro gb410 hg w20 hbox hb;have n0_:=am' (Kd.R_below (kr' HO394.out) hb);have n1_:=am' (Kd.R_below (kr' HO397.out) hb);have n2_:=am' (Kd.R_below (kr' HO401.out) hb);have n3_:=am' (Kd.R_below (kr' HO405.out) hb);have n4_:=am' (Kd.R_below (kr' HO408.out) hb);have n5_:=am' (blk_below (g:=gb390) (o := .cells #[.slice A0_0 l0_0.length c0_0, .slice A0_1 l0_1.length c0_1, .int .i64 a0_2] 25 (0,0)) (kk' BK390.out) hb);have n6_:=am' (below_step (yb' GE390.out) hb);have n7_:=am' (hbox);have n8_:=am' ((by rw[hg];exact (below_size (yb' GE390.out)):w.heap.size≤gb410));have n9_:=am' ((by rw[hg];exact (below_size (yb' GE390.out)):w.heap.size≤gb410));have n10_:=am' ((by rw[hg];exact Nat.ne_of_lt (blk_lt (g:=gb390) (o := .cells #[.slice A0_0 l0_0.length c0_0, .slice A0_1 l0_1.length c0_1, .int .i64 a0_2] 25 (0,0)) (kk' BK390.out)):gb390≠gb410));have n11_:=am' ((by rw[hg];exact Nat.ne_of_gt (blk_lt (g:=gb390) (o := .cells #[.slice A0_0 l0_0.length c0_0, .slice A0_1 l0_1.length c0_1, .int .i64 a0_2] 25 (0,0)) (kk' BK390.out)):gb410≠gb390));clear HO394;clear HO397;clear HO401;clear HO405;clear HO408;clear BK390;clear HB;have HO394:=n0_;have HO397:=n1_;have HO401:=n2_;have HO405:=n3_;have HO408:=n4_;have BK390:=n5_;have HB:=n6_;have BK410:=n7_;have GW410:=n8_;have GE410:=n9_;have NB390_410:=n10_;have NB410_390:=n11_;clear n0_ n1_ n2_ n3_ n4_ n5_ n6_ n7_ n8_ n9_ n10_ n11_;clear hb hbox hg;obtain ⟨Ao21,co21,eo21⟩:=Kd.R_slice HO405.out;subst eo21;have hnb22:=NB410_390.out;have hnc22:=NB390_410.out;have hcz23_0:w20.cell? ⟨gb410,0,none⟩=some (.slice none 0 0):=(blk_cell BK410.out 0).trans rfl;have hcz23_1:w20.cell? ⟨gb410,1,none⟩=some (.slice none 0 0):=(blk_cell BK410.out 1).trans rfl;have hcz23_2:w20.cell? ⟨gb410,2,none⟩=some (.int .i64 0):=(blk_cell BK410.out 2).trans rfl;have hfz23_0:=blk_frozen BK410.out 0;have hfz23_1:=blk_frozen BK410.out 1;have hfz23_2:=blk_frozen BK410.out 2;obtain ⟨Ao24,co24,eo24⟩:=Kd.R_slice HO408.out;subst eo24)|((with_reducible refine gate_callee (f:=38) rfl ?_);refine goesL_ (some 29) rfl rfl Try.func38 xk' rfl #[.agg #[.slice Ao21 t403.length co21, .slice Ao24 t406.length co24, .int .i64 t409]] rfl xl' ?_;(with_reducible refine (impl_NeededRowers.calls kj2 _ _ t403 _ _ t406 t409 t411 t414 _ ?side1 ?side2 ?side3 ?side4 A11.out).mono ?_);(case side1=>refine (Kd.R_reads' (e:=3) (base:=w.heap.size) (ok:=fun k_=>(((True∧¬ D446_ k_)∧some k_≠(.slice Ao15 t392.length co15:Value).ownBlock)∧some k_≠(v400:Value).ownBlock)) (n:=t403.length) (c:=co21) ?_).2.2;exact (by (with_reducible repeat (first|apply ra'|apply rn'|apply rw'));exact (Kd.R_mono (Kd.R_far (p:=⟨gb410,2,none⟩) (Kd.R_far (p:=⟨gb410,1,none⟩) (Kd.R_far (p:=⟨gb410,0,none⟩) (Kd.R_types HO405.out BK410.out (by decide)) (fun _ hk=>hk.2) (.slice Ao21 t403.length co21)) (fun _ hk=>hk.2) (.slice Ao24 t406.length co24)) (fun _ hk=>hk.2) (.int .i64 t409)) (fun _ h_=>h_.1))));(case side2=>exact (Kd.R_reads' HO405.out).2.1);(case side3=>refine (Kd.R_reads' (e:=4) (base:=w.heap.size) (ok:=fun k_=>((True∧¬ D446_ k_)∧some k_≠(.slice Ao16 t395.length co16:Value).ownBlock)) (n:=t406.length) (c:=co24) ?_).2.2;exact (by (with_reducible repeat (first|apply ra'|apply rn'|apply rw'));exact (Kd.R_mono (Kd.R_far (p:=⟨gb410,2,none⟩) (Kd.R_far (p:=⟨gb410,1,none⟩) (Kd.R_far (p:=⟨gb410,0,none⟩) (Kd.R_types HO408.out BK410.out (by decide)) (fun _ hk=>hk.2) (.slice Ao21 t403.length co21)) (fun _ hk=>hk.2) (.slice Ao24 t406.length co24)) (fun _ hk=>hk.2) (.int .i64 t409)) (fun _ h_=>h_.1))));(case side4=>exact (Kd.R_reads' HO408.out).2.1);rintro e w25 ⟨v412,rfl,ho0,hb⟩;refine ⟨_,rfl,?_⟩;obtain ⟨D447_,hdl_,hdg_⟩:=dlt_of hb;have D447_lt:=am' hdl_;have D447_ge:=am' hdg_;clear hdl_ hdg_;have n0_:=am' (Kd.R_elder' (Kd.R_dlt (by (with_reducible repeat (first|apply ra'|apply rn'|apply rw'));exact (Kd.R_mono (Kd.R_far (p:=⟨gb410,2,none⟩) (Kd.R_far (p:=⟨gb410,1,none⟩) (Kd.R_far (p:=⟨gb410,0,none⟩) (Kd.R_types HO394.out BK410.out (by decide)) (fun _ hk=>hk.2) (.slice Ao21 t403.length co21)) (fun _ hk=>hk.2) (.slice Ao24 t406.length co24)) (fun _ hk=>hk.2) (.int .i64 t409)) (fun _ h_=>h_.1))) D447_lt.out) (Kd.R_base ho0) hb);have n1_:=am' (Kd.R_below (Kd.R_dlt (by (with_reducible repeat (first|apply ra'|apply rn'|apply rw'));exact (Kd.R_mono (Kd.R_far (p:=⟨gb410,2,none⟩) (Kd.R_far (p:=⟨gb410,1,none⟩) (Kd.R_far (p:=⟨gb410,0,none⟩) (Kd.R_types HO397.out BK410.out (by decide)) (fun _ hk=>hk.2) (.slice Ao21 t403.length co21)) (fun _ hk=>hk.2) (.slice Ao24 t406.length co24)) (fun _ hk=>hk.2) (.int .i64 t409)) (fun _ h_=>h_.1))) D447_lt.out) hb);have n2_:=am' (Kd.R_elder' (Kd.R_dlt (by (with_reducible repeat (first|apply ra'|apply rn'|apply rw'));exact (Kd.R_mono (Kd.R_far (p:=⟨gb410,2,none⟩) (Kd.R_far (p:=⟨gb410,1,none⟩) (Kd.R_far (p:=⟨gb410,0,none⟩) (Kd.R_types HO401.out BK410.out (by decide)) (fun _ hk=>hk.2) (.slice Ao21 t403.length co21)) (fun _ hk=>hk.2) (.slice Ao24 t406.length co24)) (fun _ hk=>hk.2) (.int .i64 t409)) (fun _ h_=>h_.1))) D447_lt.out) (Kd.R_base ho0) hb);have n3_:=am' (Kd.R_elder' (Kd.R_dlt (by (with_reducible repeat (first|apply ra'|apply rn'|apply rw'));exact (Kd.R_mono (Kd.R_far (p:=⟨gb410,2,none⟩) (Kd.R_far (p:=⟨gb410,1,none⟩) (Kd.R_far (p:=⟨gb410,0,none⟩) (Kd.R_types HO405.out BK410.out (by decide)) (fun _ hk=>hk.2) (.slice Ao21 t403.length co21)) (fun _ hk=>hk.2) (.slice Ao24 t406.length co24)) (fun _ hk=>hk.2) (.int .i64 t409)) (fun _ h_=>h_.1))) D447_lt.out) (Kd.R_base ho0) hb);have n4_:=am' (Kd.R_below (Kd.R_dlt (by (with_reducible repeat (first|apply ra'|apply rn'|apply rw'));exact (Kd.R_mono (Kd.R_far (p:=⟨gb410,2,none⟩) (Kd.R_far (p:=⟨gb410,1,none⟩) (Kd.R_far (p:=⟨gb410,0,none⟩) (Kd.R_types HO408.out BK410.out (by decide)) (fun _ hk=>hk.2) (.slice Ao21 t403.length co21)) (fun _ hk=>hk.2) (.slice Ao24 t406.length co24)) (fun _ hk=>hk.2) (.int .i64 t409)) (fun _ h_=>h_.1))) D447_lt.out) hb);have n5_:=am' (Kd.R_lower (Kd.R_new' (Kd.R_new' (Kd.R_new' (Kd.R_dge ho0 D447_ge.out) (Kd.R_lt (by (with_reducible repeat (first|apply ra'|apply rn'|apply rw'));exact (Kd.R_mono (Kd.R_far (p:=⟨gb410,2,none⟩) (Kd.R_far (p:=⟨gb410,1,none⟩) (Kd.R_far (p:=⟨gb410,0,none⟩) (Kd.R_types HO394.out BK410.out (by decide)) (fun _ hk=>hk.2) (.slice Ao21 t403.length co21)) (fun _ hk=>hk.2) (.slice Ao24 t406.length co24)) (fun _ hk=>hk.2) (.int .i64 t409)) (fun _ h_=>h_.1))))) (Kd.R_lt (by (with_reducible repeat (first|apply ra'|apply rn'|apply rw'));exact (Kd.R_mono (Kd.R_far (p:=⟨gb410,2,none⟩) (Kd.R_far (p:=⟨gb410,1,none⟩) (Kd.R_far (p:=⟨gb410,0,none⟩) (Kd.R_types HO401.out BK410.out (by decide)) (fun _ hk=>hk.2) (.slice Ao21 t403.length co21)) (fun _ hk=>hk.2) (.slice Ao24 t406.length co24)) (fun _ hk=>hk.2) (.int .i64 t409)) (fun _ h_=>h_.1))))) (Kd.R_lt (by (with_reducible repeat (first|apply ra'|apply rn'|apply rw'));exact (Kd.R_mono (Kd.R_far (p:=⟨gb410,2,none⟩) (Kd.R_far (p:=⟨gb410,1,none⟩) (Kd.R_far (p:=⟨gb410,0,none⟩) (Kd.R_types HO405.out BK410.out (by decide)) (fun _ hk=>hk.2) (.slice Ao21 t403.length co21)) (fun _ hk=>hk.2) (.slice Ao24 t406.length co24)) (fun _ hk=>hk.2) (.int .i64 t409)) (fun _ h_=>h_.1))))) (below_size (by repeat (first|(with_reducible first|exact HB.out|apply ba'|apply bd'|apply be'|refine bs' ?_ GE390.out|refine bs' ?_ GE410.out)|exact HB.out))));have n6_:=am' (blk_below (g:=gb390) (o := .cells #[.slice A0_0 l0_0.length c0_0, .slice A0_1 l0_1.length c0_1, .int .i64 a0_2] 25 (0,0)) (by (with_reducible repeat (first|refine kn' ?_ _|refine kd' ?_|refine ka' ?_ _));refine blk_far ?_ NB390_410.out _;(with_reducible repeat (first|refine kn' ?_ _|refine kd' ?_|refine ka' ?_ _));refine blk_far ?_ NB390_410.out _;(with_reducible repeat (first|refine kn' ?_ _|refine kd' ?_|refine ka' ?_ _));refine blk_far ?_ NB390_410.out _;(with_reducible repeat (first|refine kn' ?_ _|refine kd' ?_|refine ka' ?_ _));exact BK390.out) hb);have n7_:=am' (blk_below (g:=gb410) (o := .cells #[.slice Ao21 t403.length co21, .slice Ao24 t406.length co24, .int .i64 t409] 29 (0,0)) (by (with_reducible repeat (first|refine kn' ?_ _|refine kd' ?_|refine ka' ?_ _));refine blk_put (cs:=#[.slice Ao21 t403.length co21, .slice Ao24 t406.length co24, .int .i64 0]) ?_ 2 _ rfl;(with_reducible repeat (first|refine kn' ?_ _|refine kd' ?_|refine ka' ?_ _));refine blk_put (cs:=#[.slice Ao21 t403.length co21, .slice none 0 0, .int .i64 0]) ?_ 1 _ rfl;(with_reducible repeat (first|refine kn' ?_ _|refine kd' ?_|refine ka' ?_ _));refine blk_put (cs:=#[.slice none 0 0, .slice none 0 0, .int .i64 0]) ?_ 0 _ rfl;(with_reducible repeat (first|refine kn' ?_ _|refine kd' ?_|refine ka' ?_ _));exact BK410.out) hb);have n8_:=am' (below_step (by repeat (first|(with_reducible first|exact HB.out|apply ba'|apply bd'|apply be'|refine bs' ?_ GE390.out|refine bs' ?_ GE410.out)|exact HB.out)) hb);clear HO394;clear HO397;clear HO401;clear HO405;clear HO408;clear BK390;clear BK410;clear HB;have HO394:=n0_;have HO397:=n1_;have HO401:=n2_;have HO405:=n3_;have HO408:=n4_;have HO413:=n5_;have BK390:=n6_;have BK410:=n7_;have HB:=n8_;clear n0_ n1_ n2_ n3_ n4_ n5_ n6_ n7_ n8_;(try clear hb);(try clear hb2);(try clear hk);(try clear hi);(try clear ho0)))
   (try simp only[Act.put,sa',sb',sc'])
   go_cut [40] (fun v40 wc=>∃ (kq:Nat) (x40_11:Bool),v40 = .bool x40_11∧Aside0 (laws_FnExactNeededRowers.j1 kq t399 t402 t411 t414 x40_11 l0_0 l0_1 a0_2 t403 t406 t409=some r)∧Aside0 (kq≤kj2)∧Aside0 (Kd.R (Kd.int .i64) 3 wc w.heap.size (fun k_=>some k_≠(v412:Value).ownBlock∧some k_≠((.slice Ao21 t403.length co21):Value).ownBlock∧¬ D445_ k_∧D446_ k_∧D447_ k_) v400 t399)∧Aside0 (Kd.R (Kd.int .i64) 3 wc w.heap.size (fun k_=>some k_≠(v400:Value).ownBlock∧some k_≠((.slice Ao21 t403.length co21):Value).ownBlock∧¬ D447_ k_) v412 t411)∧Aside0 (Kd.R (Kd.int .i64) 3 wc w.heap.size (fun k_=>some k_≠(v400:Value).ownBlock∧some k_≠(v412:Value).ownBlock∧¬ D446_ k_∧D447_ k_) (.slice Ao21 t403.length co21) t403)∧Aside0 (Kd.R Kd.bool 4 wc w.heap.size (fun k_=>¬ D446_ k_∧D447_ k_) (.slice Ao24 t406.length co24) t406)∧Aside0 (wc.heap[gb390]? = some (.cells #[(.slice A0_0 l0_0.length c0_0),(.slice A0_1 l0_1.length c0_1), .int .i64 a0_2] 25 (0,0)))∧Aside0 (wc.heap[gb410]? = some (.cells #[(.slice Ao21 t403.length co21),(.slice Ao24 t406.length co24), .int .i64 t409] 29 (0,0)))∧Aside0 (Below w.heap.size w wc))
   case first =>
    have H:=HC12.out;clear HC12;replace H:=Option.bind_eq_some_iff.mp H;obtain ⟨t415,A260,H⟩:=H;replace H:(if t415=true then (laws_FnExactNeededRowers.j1 kj2 t399 t402 t411 t414 (t414 != t402) l0_0 l0_1 a0_2 t403 t406 t409) else (laws_FnExactNeededRowers.j1 kj2 t399 t402 t411 t414 true l0_0 l0_1 a0_2 t403 t406 t409))=some r:=H;have A26:=am' A260;clear A260;by_cases c27:t415=true
    ·
     subst c27;have H1:(laws_FnExactNeededRowers.j1 kj2 t399 t402 t411 t414 (t414 != t402) l0_0 l0_1 a0_2 t403 t406 t409)=some r:=by rw[if_pos rfl] at H;exact H
     clear H;have H:=H1;clear H1;have H':=am' H;clear H;obtain ⟨Ao28,co28,eo28⟩:=Kd.R_slice HO413.out;subst eo28;obtain ⟨Ao29,co29,eo29⟩:=Kd.R_slice HO401.out;subst eo29;go_wp2_with (first|((with_reducible refine gate_callee (f:=18) rfl ?_);refine goesL_ (some 34) rfl rfl Try.func18 xk' rfl #[.slice Ao28 t411.length co28, .slice Ao29 t399.length co29] rfl xl' ?_;(with_reducible refine (laws_eqIntS.calls kj2 _ _ t411 _ _ t399 true _ ?side1 ?side2 ?side3 ?side4 A26.out).mono ?_);(case side1=>repeat (first|exact (Kd.R_reads' HO413.out).2.2|(with_reducible refine ca' ?_ _)|(with_reducible refine cn' ?_ _)|(with_reducible refine cd' ?_)));(case side2=>exact (Kd.R_reads' HO413.out).2.1);(case side3=>repeat (first|exact (Kd.R_reads' HO401.out).2.2|(with_reducible refine ca' ?_ _)|(with_reducible refine cn' ?_ _)|(with_reducible refine cd' ?_)));(case side4=>exact (Kd.R_reads' HO401.out).2.1);rintro e w' ⟨rfl,⟨nd,rfl⟩⟩;refine ⟨_,rfl,?_⟩));go_meet
     case rel=>exact ⟨_,((t414 != t402)),xs',H',⟨by have:=HJ2.out;first|omega|exact Nat.le_refl _⟩,⟨by (with_reducible repeat (first|apply ra'|apply rn'|apply rw'));exact Kd.R_mono HO401.out (fun _ hk=>⟨hk.2,⟨hk.1.1.2,⟨hk.1.1.1.1.1.2,⟨hk.1.1.1.2,hk.1.2⟩⟩⟩⟩)⟩,⟨by (with_reducible repeat (first|apply ra'|apply rn'|apply rw'));exact Kd.R_mono HO413.out (fun _ hk=>⟨hk.1.2,⟨hk.2,hk.1.1.1.2⟩⟩)⟩,⟨by (with_reducible repeat (first|apply ra'|apply rn'|apply rw'));exact Kd.R_mono HO405.out (fun _ hk=>⟨hk.1.1.2,⟨hk.2,⟨hk.1.1.1.1.2,hk.1.2⟩⟩⟩)⟩,⟨by (with_reducible repeat (first|apply ra'|apply rn'|apply rw'));exact Kd.R_mono HO408.out (fun _ hk=>⟨hk.1.1.2,hk.2⟩)⟩,⟨by (with_reducible repeat (first|refine kn' ?_ _|refine kd' ?_|refine ka' ?_ _));exact BK390.out⟩,⟨by (with_reducible repeat (first|refine kn' ?_ _|refine kd' ?_|refine ka' ?_ _));exact BK410.out⟩,⟨by repeat (first|(with_reducible first|exact HB.out|apply ba'|apply bd'|apply be'|refine bs' ?_ GE390.out|refine bs' ?_ GE410.out)|exact HB.out)⟩⟩
    ·
     replace c27:=Bool.eq_false_iff.mpr c27;subst c27;have H1:(laws_FnExactNeededRowers.j1 kj2 t399 t402 t411 t414 true l0_0 l0_1 a0_2 t403 t406 t409)=some r:=by rw[if_neg (show ¬ (false=true) by decide)] at H;exact H
     clear H;have H:=H1;clear H1;have H':=am' H;clear H;obtain ⟨Ao30,co30,eo30⟩:=Kd.R_slice HO413.out;subst eo30;obtain ⟨Ao31,co31,eo31⟩:=Kd.R_slice HO401.out;subst eo31;go_wp2_with (first|((with_reducible refine gate_callee (f:=18) rfl ?_);refine goesL_ (some 34) rfl rfl Try.func18 xk' rfl #[.slice Ao30 t411.length co30, .slice Ao31 t399.length co31] rfl xl' ?_;(with_reducible refine (laws_eqIntS.calls kj2 _ _ t411 _ _ t399 false _ ?side1 ?side2 ?side3 ?side4 A26.out).mono ?_);(case side1=>repeat (first|exact (Kd.R_reads' HO413.out).2.2|(with_reducible refine ca' ?_ _)|(with_reducible refine cn' ?_ _)|(with_reducible refine cd' ?_)));(case side2=>exact (Kd.R_reads' HO413.out).2.1);(case side3=>repeat (first|exact (Kd.R_reads' HO401.out).2.2|(with_reducible refine ca' ?_ _)|(with_reducible refine cn' ?_ _)|(with_reducible refine cd' ?_)));(case side4=>exact (Kd.R_reads' HO401.out).2.1);rintro e w' ⟨rfl,⟨nd,rfl⟩⟩;refine ⟨_,rfl,?_⟩));go_meet
     case rel=>exact ⟨_,(true),xs',H',⟨by have:=HJ2.out;first|omega|exact Nat.le_refl _⟩,⟨by (with_reducible repeat (first|apply ra'|apply rn'|apply rw'));exact Kd.R_mono HO401.out (fun _ hk=>⟨hk.2,⟨hk.1.1.2,⟨hk.1.1.1.1.1.2,⟨hk.1.1.1.2,hk.1.2⟩⟩⟩⟩)⟩,⟨by (with_reducible repeat (first|apply ra'|apply rn'|apply rw'));exact Kd.R_mono HO413.out (fun _ hk=>⟨hk.1.2,⟨hk.2,hk.1.1.1.2⟩⟩)⟩,⟨by (with_reducible repeat (first|apply ra'|apply rn'|apply rw'));exact Kd.R_mono HO405.out (fun _ hk=>⟨hk.1.1.2,⟨hk.2,⟨hk.1.1.1.1.2,hk.1.2⟩⟩⟩)⟩,⟨by (with_reducible repeat (first|apply ra'|apply rn'|apply rw'));exact Kd.R_mono HO408.out (fun _ hk=>⟨hk.1.1.2,hk.2⟩)⟩,⟨by (with_reducible repeat (first|refine kn' ?_ _|refine kd' ?_|refine ka' ?_ _));exact BK390.out⟩,⟨by (with_reducible repeat (first|refine kn' ?_ _|refine kd' ?_|refine ka' ?_ _));exact BK410.out⟩,⟨by repeat (first|(with_reducible first|exact HB.out|apply ba'|apply bd'|apply be'|refine bs' ?_ GE390.out|refine bs' ?_ GE410.out)|exact HB.out)⟩⟩
   case rest =>
    clear HC12;try clear c1
    try clear c2
    try clear p2
    try clear c3
    try clear c7
    try clear c7b0
    try clear c12
    try clear c14
    try clear c18
    try clear c22
    try clear c27
    try clear hcz13_0
    try clear hcz13_1
    try clear hcz13_2
    try clear hcz18_0
    try clear hcz18_1
    try clear hcz18_2
    try clear hcz23_0
    try clear hcz23_1
    try clear hcz23_2
    try clear hcz5_0
    try clear hcz5_1
    try clear hcz5_2
    try clear hfz13_0
    try clear hfz13_1
    try clear hfz13_2
    try clear hfz18_0
    try clear hfz18_1
    try clear hfz18_2
    try clear hfz23_0
    try clear hfz23_1
    try clear hfz23_2
    try clear hfz5_0
    try clear hfz5_1
    try clear hfz5_2
    try clear p2
    obtain ⟨kq,x40_11,rfl,HA,HJ11,HO_4,HO_7,HO_411000,HO_411001,BK390,BK410,HB⟩:=hcut;cases kq with
    | zero=>exact absurd HA.out (by simp[laws_FnExactNeededRowers.j1])
    | succ kj11 =>
     have H:=HA.out;clear HA;simp only[laws_FnExactNeededRowers.j1] at H;have HC32:=am' H;clear H;go_upto_if 40 with (fail)
     go_cut [] (fun wc=>∃ (kq:Nat),Aside0 (laws_FnExactNeededRowers.j2 kq t399 t402 t411 t414 l0_0 l0_1 a0_2 t403 t406 t409=some r)∧Aside0 (kq≤kj11)∧Aside0 (Kd.R (Kd.int .i64) 3 wc w.heap.size (fun k_=>some k_≠(v412:Value).ownBlock∧some k_≠((.slice Ao21 t403.length co21):Value).ownBlock∧¬ D445_ k_∧D446_ k_∧D447_ k_) v400 t399)∧Aside0 (Kd.R (Kd.int .i64) 3 wc w.heap.size (fun k_=>some k_≠(v400:Value).ownBlock∧some k_≠((.slice Ao21 t403.length co21):Value).ownBlock∧¬ D447_ k_) v412 t411)∧Aside0 (Kd.R (Kd.int .i64) 3 wc w.heap.size (fun k_=>some k_≠(v400:Value).ownBlock∧some k_≠(v412:Value).ownBlock∧¬ D446_ k_∧D447_ k_) (.slice Ao21 t403.length co21) t403)∧Aside0 (Kd.R Kd.bool 4 wc w.heap.size (fun k_=>¬ D446_ k_∧D447_ k_) (.slice Ao24 t406.length co24) t406)∧Aside0 (wc.heap[gb390]? = some (.cells #[(.slice A0_0 l0_0.length c0_0),(.slice A0_1 l0_1.length c0_1), .int .i64 a0_2] 25 (0,0)))∧Aside0 (wc.heap[gb410]? = some (.cells #[(.slice Ao21 t403.length co21),(.slice Ao24 t406.length co24), .int .i64 t409] 29 (0,0)))∧Aside0 (Below w.heap.size w wc))
     case first =>
      have H:=HC32.out;clear HC32;by_cases c33:x40_11=true
      ·
       subst c33;have H1:(some false)=some r:=by rw[if_pos rfl] at H;exact H
       clear H;have H:=H1;clear H1;obtain rfl:=Option.some.inj H;go_wp2;go_ret
       exact ⟨by first|rfl|(simp[errW_none,errW_some] <;> rfl)|(simp[*,errW_none,errW_some] <;> rfl),by repeat (first|(with_reducible first|exact HB.out|apply ba'|apply bd'|apply be'|refine bs' ?_ GE390.out|refine bs' ?_ GE410.out)|exact HB.out)⟩
      ·
       replace c33:=Bool.eq_false_iff.mpr c33;subst c33;have H1:(laws_FnExactNeededRowers.j2 kj11 t399 t402 t411 t414 l0_0 l0_1 a0_2 t403 t406 t409)=some r:=by rw[if_neg (show ¬ (false=true) by decide)] at H;exact H
       clear H;have H:=H1;clear H1;have H':=am' H;clear H;go_wp2;go_meet
       case rel=>exact ⟨_,H',⟨by have:=HJ2.out;have:=HJ11.out;first|omega|exact Nat.le_refl _⟩,⟨by (with_reducible repeat (first|apply ra'|apply rn'|apply rw'));exact HO_4.out⟩,⟨by (with_reducible repeat (first|apply ra'|apply rn'|apply rw'));exact HO_7.out⟩,⟨by (with_reducible repeat (first|apply ra'|apply rn'|apply rw'));exact HO_411000.out⟩,⟨by (with_reducible repeat (first|apply ra'|apply rn'|apply rw'));exact HO_411001.out⟩,⟨by (with_reducible repeat (first|refine kn' ?_ _|refine kd' ?_|refine ka' ?_ _));exact BK390.out⟩,⟨by (with_reducible repeat (first|refine kn' ?_ _|refine kd' ?_|refine ka' ?_ _));exact BK410.out⟩,⟨by repeat (first|(with_reducible first|exact HB.out|apply ba'|apply bd'|apply be'|refine bs' ?_ GE390.out|refine bs' ?_ GE410.out)|exact HB.out)⟩⟩
     case rest =>
      clear HC32;try clear c1
      try clear c2
      try clear p2
      try clear c3
      try clear c7
      try clear c7b0
      try clear c12
      try clear c14
      try clear c18
      try clear c22
      try clear c27
      try clear c33
      try clear hcz13_0
      try clear hcz13_1
      try clear hcz13_2
      try clear hcz18_0
      try clear hcz18_1
      try clear hcz18_2
      try clear hcz23_0
      try clear hcz23_1
      try clear hcz23_2
      try clear hcz5_0
      try clear hcz5_1
      try clear hcz5_2
      try clear hfz13_0
      try clear hfz13_1
      try clear hfz13_2
      try clear hfz18_0
      try clear hfz18_1
      try clear hfz18_2
      try clear hfz23_0
      try clear hfz23_1
      try clear hfz23_2
      try clear hfz5_0
      try clear hfz5_1
      try clear hfz5_2
      try clear p2
      obtain ⟨kq,HA,HJ31,HO_4,HO_7,HO_411000,HO_411001,BK390,BK410,HB⟩:=hcut;cases kq with
      | zero=>exact absurd HA.out (by simp[laws_FnExactNeededRowers.j2])
      | succ kj31 =>
       have H:=HA.out;clear HA;simp only[laws_FnExactNeededRowers.j2] at H;replace H:=Option.bind_eq_some_iff.mp H;obtain ⟨⟨t416,t419,t422⟩,A340,H⟩:=H;replace H:((laws_eqCrew.f kj31 t403 t406 t409 t416 t419 t422).bind fun t423=>(if t423=true then (laws_FnExactNeededRowers.j3 kj31 t399 t402 t411 t414 l0_0 l0_1 a0_2 t403 t406 t409) else (some false)))=some r:=H;have A34:=am' A340;clear A340;replace H:=Option.bind_eq_some_iff.mp H;obtain ⟨t423,A350,H⟩:=H;replace H:(if t423=true then (laws_FnExactNeededRowers.j3 kj31 t399 t402 t411 t414 l0_0 l0_1 a0_2 t403 t406 t409) else (some false))=some r:=H;have A35:=am' A350;clear A350;have HC36:=am' H;clear H;try go_wp2
       have n0_:=am' (rw' HO_4.out);have n1_:=am' (rw' HO_7.out);have n2_:=am' (rw' HO_411000.out);have n3_:=am' (rw' HO_411001.out);have n4_:=am' (kd' BK390.out);have n5_:=am' (kd' BK410.out);have n6_:=am' (be' HB.out);clear HO_4;clear HO_7;clear HO_411000;clear HO_411001;clear BK390;clear BK410;clear HB;have HO_4:=n0_;have HO_7:=n1_;have HO_411000:=n2_;have HO_411001:=n3_;have BK390:=n4_;have BK410:=n5_;have HB:=n6_;clear n0_ n1_ n2_ n3_ n4_ n5_ n6_;refine start_ (n:=5) (S:=fun w'=>w'.cell? ⟨gb410,0,none⟩=some (.slice Ao21 t403.length co21)∧w'.cell? ⟨gb410,1,none⟩=some (.slice Ao24 t406.length co24)∧w'.cell? ⟨gb410,2,none⟩=some (.int .i64 t409)∧w'.cell? ⟨gb390,0,none⟩=some (.slice A0_0 l0_0.length c0_0)∧w'.cell? ⟨gb390,1,none⟩=some (.slice A0_1 l0_1.length c0_1)∧w'.cell? ⟨gb390,2,none⟩=some (.int .i64 a0_2)) (ds:=[]) #[false,false,false,false,false] xk' rfl rfl ⟨(blk_cell BK410.out 0).trans rfl,(blk_cell BK410.out 1).trans rfl,(blk_cell BK410.out 2).trans rfl,(blk_cell BK390.out 0).trans rfl,(blk_cell BK390.out 1).trans rfl,(blk_cell BK390.out 2).trans rfl⟩ (fun hHeld=>?_);generalize wc.drew=w37 at HO_4 HO_7 HO_411000 HO_411001 BK390 BK410 HB hHeld ⊢
       refine take_ (i:=0) (N:=some 41) (v:=?_) (a':=?_) #[true,false,false,false,false] rfl rfl xk' (fun _ _ _ h=>h) (Or.inl ⟨by rfl,?_⟩) hHeld ?_ ?_
       rotate_left
       ·
        rintro w' ⟨s0,s1,s2,s3,s4,s5⟩
        go_simp;with_reducible rfl
       rotate_left
       ·
        simp only[Act.put,sa',sb',sc',i64_w,i32_w];rfl
       refine take_ (i:=1) (N:=some 42) (v:=?_) (a':=?_) #[true,true,false,false,false] rfl rfl xk' (fun _ _ _ h=>h) (Or.inl ⟨by rfl,?_⟩) hHeld ?_ ?_
       rotate_left
       ·
        rintro w' ⟨s0,s1,s2,s3,s4,s5⟩
        go_simp;with_reducible rfl
       rotate_left
       ·
        simp only[Act.put,sa',sb',sc',i64_w,i32_w];rfl
       refine one_ (i:=2) (N:=some 43) #[true,true,true,false,false] rfl rfl xk' (by decide) (fun K hK=>?_);refine goes_ Try.func14 xk' rfl #[.agg #[.slice A0_0 l0_0.length c0_0, .slice A0_1 l0_1.length c0_1, .int .i64 a0_2]] (by rfl) rfl rfl xl' ?_
       with_reducible refine (laws_toCrew.calls kj31 _ _ l0_0 _ _ l0_1 a0_2 t416 t419 t422 _ ?side1 ?side2 ?side3 ?side4 A34.out).mono ?_
       (case side1=>repeat (first|exact (Kd.C_below HR0_0.out HB.out)|(with_reducible refine ca' ?_ _)|(with_reducible refine cn' ?_ _)|(with_reducible refine cd' ?_)))
       (case side2=>exact HC0_0.out)
       (case side3=>repeat (first|exact (Kd.C_below HR0_1.out HB.out)|(with_reducible refine ca' ?_ _)|(with_reducible refine cn' ?_ _)|(with_reducible refine cd' ?_)))
       (case side4=>exact HC0_1.out)
       rintro e w38 ⟨v417,v420,rfl,ho0,ho1,hb⟩
       refine ⟨_,rfl,?_⟩;have n0_:=am' (Kd.R_elder' (kr' HO_4.out) (Kd.R_base ho0) hb);have n1_:=am' (Kd.R_elder' (kr' HO_7.out) (Kd.R_base ho0) hb);have n2_:=am' (Kd.R_elder' (kr' HO_411000.out) (Kd.R_base ho0) hb);have n3_:=am' (Kd.R_elder' (kr' HO_411001.out) (Kd.R_base ho1) hb);have n4_:=am' (Kd.R_lower (Kd.R_new' (Kd.R_new' (Kd.R_new' ho0 (Kd.R_lt (kr' HO_4.out))) (Kd.R_lt (kr' HO_7.out))) (Kd.R_lt (kr' HO_411000.out))) (below_size (by repeat (first|(with_reducible first|exact HB.out|apply ba'|apply bd'|apply be'|refine bs' ?_ GE390.out|refine bs' ?_ GE410.out)|exact HB.out))));have n5_:=am' (Kd.R_lower (Kd.R_new' ho1 (Kd.R_lt (kr' HO_411001.out))) (below_size (by repeat (first|(with_reducible first|exact HB.out|apply ba'|apply bd'|apply be'|refine bs' ?_ GE390.out|refine bs' ?_ GE410.out)|exact HB.out))));have n6_:=am' (blk_below (g:=gb390) (o := .cells #[.slice A0_0 l0_0.length c0_0, .slice A0_1 l0_1.length c0_1, .int .i64 a0_2] 25 (0,0)) (kk' BK390.out) hb);have n7_:=am' (blk_below (g:=gb410) (o := .cells #[.slice Ao21 t403.length co21, .slice Ao24 t406.length co24, .int .i64 t409] 29 (0,0)) (kk' BK410.out) hb);have n8_:=am' (below_step (by repeat (first|(with_reducible first|exact HB.out|apply ba'|apply bd'|apply be'|refine bs' ?_ GE390.out|refine bs' ?_ GE410.out)|exact HB.out)) hb);clear HO_4;clear HO_7;clear HO_411000;clear HO_411001;clear BK390;clear BK410;clear HB;have HO_4:=n0_;have HO_7:=n1_;have HO_411000:=n2_;have HO_411001:=n3_;have HO418:=n4_;have HO421:=n5_;have BK390:=n6_;have BK410:=n7_;have HB:=n8_;clear n0_ n1_ n2_ n3_ n4_ n5_ n6_ n7_ n8_;(try clear hb)
       (try clear hb2)
       (try clear hk)
       (try clear hi)
       (try clear ho0)
       (try clear ho1)
       obtain ⟨Ao39,co39,eo39⟩:=Kd.R_slice HO418.out
       (first|subst eo39|(injection eo39 with f1_ f2_ f3_;have f4_:=f1_.symm;have f5_:=f3_.symm;clear f1_ f2_ f3_;subst f4_;subst f5_))
       obtain ⟨Ao40,co40,eo40⟩:=Kd.R_slice HO421.out
       (first|subst eo40|(injection eo40 with f1_ f2_ f3_;have f4_:=f1_.symm;have f5_:=f3_.symm;clear f1_ f2_ f3_;subst f4_;subst f5_))
       refine hK.out _ _ ⟨(blk_cell BK410.out 0).trans rfl,(blk_cell BK410.out 1).trans rfl,(blk_cell BK410.out 2).trans rfl,(blk_cell BK390.out 0).trans rfl,(blk_cell BK390.out 1).trans rfl,(blk_cell BK390.out 2).trans rfl⟩ (fun hHeld=>?_);clear hK K;refine norm_ (a':=?_) ?_ ?_
       rotate_left
       ·
        show Act.put _ (some 43) _=_
        simp only[Act.put,sa',sb',sc',i64_w,i32_w];rfl
       refine one_ (i:=3) (N:=some 44) #[true,true,true,true,false] rfl rfl xk' (by decide) (fun K hK=>?_);refine goes_ Try.func17 xk' rfl #[.agg #[.slice Ao21 t403.length co21, .slice Ao24 t406.length co24, .int .i64 t409], .agg #[.slice Ao39 t416.length co39, .slice Ao40 t419.length co40, .int .i64 t422]] (by rfl) rfl rfl xl' ?_
       with_reducible refine (laws_eqCrew.calls kj31 _ _ t403 _ _ t406 t409 _ _ t416 _ _ t419 t422 t423 _ ?side1 ?side2 ?side3 ?side4 ?side5 ?side6 ?side7 ?side8 A35.out).mono ?_
       (case side1=>repeat (first|exact (Kd.R_reads' HO_411000.out).2.2|(with_reducible refine ca' ?_ _)|(with_reducible refine cn' ?_ _)|(with_reducible refine cd' ?_)))
       (case side2=>exact (Kd.R_reads' HO_411000.out).2.1)
       (case side3=>repeat (first|exact (Kd.R_reads' HO_411001.out).2.2|(with_reducible refine ca' ?_ _)|(with_reducible refine cn' ?_ _)|(with_reducible refine cd' ?_)))
       (case side4=>exact (Kd.R_reads' HO_411001.out).2.1)
       (case side5=>repeat (first|exact (Kd.R_reads' HO418.out).2.2|(with_reducible refine ca' ?_ _)|(with_reducible refine cn' ?_ _)|(with_reducible refine cd' ?_)))
       (case side6=>exact (Kd.R_reads' HO418.out).2.1)
       (case side7=>repeat (first|exact (Kd.R_reads' HO421.out).2.2|(with_reducible refine ca' ?_ _)|(with_reducible refine cn' ?_ _)|(with_reducible refine cd' ?_)))
       (case side8=>exact (Kd.R_reads' HO421.out).2.1)
       rintro e w41 ⟨rfl,hb⟩
       refine ⟨_,rfl,?_⟩;have n0_:=am' (Kd.R_below (kr' HO_4.out) hb);have n1_:=am' (Kd.R_below (kr' HO_7.out) hb);have n2_:=am' (Kd.R_below (kr' HO_411000.out) hb);have n3_:=am' (Kd.R_below (kr' HO_411001.out) hb);have n4_:=am' (Kd.R_below (kr' HO418.out) hb);have n5_:=am' (Kd.R_below (kr' HO421.out) hb);have n6_:=am' (blk_below (g:=gb390) (o := .cells #[.slice A0_0 l0_0.length c0_0, .slice A0_1 l0_1.length c0_1, .int .i64 a0_2] 25 (0,0)) (kk' BK390.out) hb);have n7_:=am' (blk_below (g:=gb410) (o := .cells #[.slice Ao21 t403.length co21, .slice Ao24 t406.length co24, .int .i64 t409] 29 (0,0)) (kk' BK410.out) hb);have n8_:=am' (below_step (by repeat (first|(with_reducible first|exact HB.out|apply ba'|apply bd'|apply be'|refine bs' ?_ GE390.out|refine bs' ?_ GE410.out)|exact HB.out)) hb);clear HO_4;clear HO_7;clear HO_411000;clear HO_411001;clear HO418;clear HO421;clear BK390;clear BK410;clear HB;have HO_4:=n0_;have HO_7:=n1_;have HO_411000:=n2_;have HO_411001:=n3_;have HO418:=n4_;have HO421:=n5_;have BK390:=n6_;have BK410:=n7_;have HB:=n8_;clear n0_ n1_ n2_ n3_ n4_ n5_ n6_ n7_ n8_;(try clear hb)
       (try clear hb2)
       (try clear hk)
       (try clear hi)
       refine hK.out _ _ ⟨(blk_cell BK410.out 0).trans rfl,(blk_cell BK410.out 1).trans rfl,(blk_cell BK410.out 2).trans rfl,(blk_cell BK390.out 0).trans rfl,(blk_cell BK390.out 1).trans rfl,(blk_cell BK390.out 2).trans rfl⟩ (fun hHeld=>?_);clear hK K;refine norm_ (a':=?_) ?_ ?_
       rotate_left
       ·
        show Act.put _ (some 44) _=_
        simp only[Act.put,sa',sb',sc',i64_w,i32_w];rfl
       refine pure_ (i:=4) (N:=some 45) (v:=?_) (a':=?_) #[true,true,true,true,true] rfl rfl xk' (fun _ _ _ h=>h) (Or.inl ⟨by rfl,?_⟩) ?_ ?_
       rotate_left
       ·
        intro w';go_simp;with_reducible rfl
       rotate_left
       ·
        simp only[Act.put,sa',sb',sc',i64_w,i32_w];rfl
       refine done_ xk' ?_
       go_upto_if 45 with (fail)
       go_cut [] (fun wc=>∃ (kq:Nat),Aside0 (laws_FnExactNeededRowers.j3 kq t399 t402 t411 t414 l0_0 l0_1 a0_2 t403 t406 t409=some r)∧Aside0 (kq≤kj31)∧Aside0 (Kd.R (Kd.int .i64) 3 wc w.heap.size (fun k_=>some k_≠(v412:Value).ownBlock∧some k_≠((.slice Ao21 t403.length co21):Value).ownBlock∧¬ D445_ k_∧D446_ k_∧D447_ k_) v400 t399)∧Aside0 (Kd.R (Kd.int .i64) 3 wc w.heap.size (fun k_=>some k_≠(v400:Value).ownBlock∧some k_≠((.slice Ao21 t403.length co21):Value).ownBlock∧¬ D447_ k_) v412 t411)∧Aside0 (Kd.R (Kd.int .i64) 3 wc w.heap.size (fun k_=>some k_≠(v400:Value).ownBlock∧some k_≠(v412:Value).ownBlock∧¬ D446_ k_∧D447_ k_) (.slice Ao21 t403.length co21) t403)∧Aside0 (Kd.R Kd.bool 4 wc w.heap.size (fun k_=>¬ D446_ k_∧D447_ k_) (.slice Ao24 t406.length co24) t406)∧Aside0 (wc.heap[gb390]? = some (.cells #[(.slice A0_0 l0_0.length c0_0),(.slice A0_1 l0_1.length c0_1), .int .i64 a0_2] 25 (0,0)))∧Aside0 (wc.heap[gb410]? = some (.cells #[(.slice Ao21 t403.length co21),(.slice Ao24 t406.length co24), .int .i64 t409] 29 (0,0)))∧Aside0 (Below w.heap.size w wc))
       case first =>
        have H:=HC36.out;clear HC36;by_cases c42:t423=true
        ·
         subst c42;have H1:(laws_FnExactNeededRowers.j3 kj31 t399 t402 t411 t414 l0_0 l0_1 a0_2 t403 t406 t409)=some r:=by rw[if_pos rfl] at H;exact H
         clear H;have H:=H1;clear H1;have H':=am' H;clear H;go_wp2;go_meet
         case rel=>exact ⟨_,H',⟨by have:=HJ2.out;have:=HJ11.out;have:=HJ31.out;first|omega|exact Nat.le_refl _⟩,⟨by (with_reducible repeat (first|apply ra'|apply rn'|apply rw'));exact Kd.R_mono HO_4.out (fun _ hk=>⟨hk.1.1,⟨hk.1.2.1,⟨hk.1.2.2.1,⟨hk.1.2.2.2.1,hk.1.2.2.2.2⟩⟩⟩⟩)⟩,⟨by (with_reducible repeat (first|apply ra'|apply rn'|apply rw'));exact Kd.R_mono HO_7.out (fun _ hk=>⟨hk.1.1,⟨hk.1.2.1,hk.1.2.2⟩⟩)⟩,⟨by (with_reducible repeat (first|apply ra'|apply rn'|apply rw'));exact Kd.R_mono HO_411000.out (fun _ hk=>⟨hk.1.1,⟨hk.1.2.1,⟨hk.1.2.2.1,hk.1.2.2.2⟩⟩⟩)⟩,⟨by (with_reducible repeat (first|apply ra'|apply rn'|apply rw'));exact Kd.R_mono HO_411001.out (fun _ hk=>⟨hk.1.1,hk.1.2⟩)⟩,⟨by (with_reducible repeat (first|refine kn' ?_ _|refine kd' ?_|refine ka' ?_ _));exact BK390.out⟩,⟨by (with_reducible repeat (first|refine kn' ?_ _|refine kd' ?_|refine ka' ?_ _));exact BK410.out⟩,⟨by repeat (first|(with_reducible first|exact HB.out|apply ba'|apply bd'|apply be'|refine bs' ?_ GE390.out|refine bs' ?_ GE410.out)|exact HB.out)⟩⟩
        ·
         replace c42:=Bool.eq_false_iff.mpr c42;subst c42;have H1:(some false)=some r:=by rw[if_neg (show ¬ (false=true) by decide)] at H;exact H
         clear H;have H:=H1;clear H1;obtain rfl:=Option.some.inj H;go_wp2;go_ret
         exact ⟨by first|rfl|(simp[errW_none,errW_some] <;> rfl)|(simp[*,errW_none,errW_some] <;> rfl),by repeat (first|(with_reducible first|exact HB.out|apply ba'|apply bd'|apply be'|refine bs' ?_ GE390.out|refine bs' ?_ GE410.out)|exact HB.out)⟩
       case rest =>
        clear HC36;try clear c1
        try clear c2
        try clear p2
        try clear c3
        try clear c4
        try clear c7
        try clear c7b0
        try clear c12
        try clear c14
        try clear c17
        try clear c18
        try clear c22
        try clear c27
        try clear c33
        try clear c37
        try clear c38
        try clear c42
        try clear hcz13_0
        try clear hcz13_1
        try clear hcz13_2
        try clear hcz18_0
        try clear hcz18_1
        try clear hcz18_2
        try clear hcz23_0
        try clear hcz23_1
        try clear hcz23_2
        try clear hcz5_0
        try clear hcz5_1
        try clear hcz5_2
        try clear hfz13_0
        try clear hfz13_1
        try clear hfz13_2
        try clear hfz18_0
        try clear hfz18_1
        try clear hfz18_2
        try clear hfz23_0
        try clear hfz23_1
        try clear hfz23_2
        try clear hfz5_0
        try clear hfz5_1
        try clear hfz5_2
        try clear p2
        obtain ⟨kq,HA,HJ35,HO_4,HO_7,HO_411000,HO_411001,BK390,BK410,HB⟩:=hcut;cases kq with
        | zero=>exact absurd HA.out (by simp[laws_FnExactNeededRowers.j3])
        | succ kj35 =>
         have H:=HA.out;clear HA;simp only[laws_FnExactNeededRowers.j3] at H;replace H:=Option.bind_eq_some_iff.mp H;obtain ⟨⟨t424,t425,t426⟩,A430,H⟩:=H;replace H:(if t424 < 0 then (laws_FnExactNeededRowers.j4 kj35 t399 t402 t411 true l0_0 l0_1 a0_2) else ((laws_eqIntS.f kj35 t411 t399).bind fun t427=>(if t427=true then (laws_FnExactNeededRowers.j4 kj35 t399 t402 t411 (t414 != t402) l0_0 l0_1 a0_2) else (laws_FnExactNeededRowers.j4 kj35 t399 t402 t411 true l0_0 l0_1 a0_2))))=some r:=H;have A43:=am' A430;clear A430;have HC44:=am' H;clear H;have hnb45:=NB410_390.out;have hnc45:=NB390_410.out;have hcz46_0:wc.cell? ⟨gb410,0,none⟩=some (.slice Ao21 t403.length co21):=(blk_cell BK410.out 0).trans rfl;have hcz46_1:wc.cell? ⟨gb410,1,none⟩=some (.slice Ao24 t406.length co24):=(blk_cell BK410.out 1).trans rfl;have hcz46_2:wc.cell? ⟨gb410,2,none⟩=some (.int .i64 t409):=(blk_cell BK410.out 2).trans rfl;have hfz46_0:=blk_frozen BK410.out 0;have hfz46_1:=blk_frozen BK410.out 1;have hfz46_2:=blk_frozen BK410.out 2;go_upto_region 14 with (first|((with_reducible refine gate_callee (f:=24) rfl ?_);refine goesL_ (some 48) rfl rfl Try.func24 xk' rfl #[.agg #[.slice Ao21 t403.length co21, .slice Ao24 t406.length co24, .int .i64 t409], .int .i64 1] rfl xl' ?_;(with_reducible refine (laws_markCrew.calls kj35 (fun k_=>some k_=(.slice Ao21 t403.length co21:Value).ownBlock) (.slice Ao21 t403.length co21) t403 (fun k_=>some k_=(.slice Ao24 t406.length co24:Value).ownBlock) (.slice Ao24 t406.length co24) t406 t409 1 t424 t425 t426 w _ ?side1 ?side2 ?side3 A43.out).mono ?_);(case side1=>repeat (first|(with_reducible first|exact HB.out|apply ba'|apply bd'|apply be'|refine bs' ?_ GE390.out|refine bs' ?_ GE410.out)|exact HB.out));(case side2=>exact Kd.R_tight rfl HO_411000.out);(case side3=>exact Kd.R_tight rfl HO_411001.out);rintro e w47 ⟨rfl,hy0,hy1,hb,hkp⟩;refine ⟨_,rfl,?_⟩;have n0_:=am' (Kd.R_mono (ok':=fun k_=>some k_≠(v412:Value).ownBlock∧some k_≠(.slice Ao21 t403.length co21:Value).ownBlock∧¬ D445_ k_∧D446_ k_∧D447_ k_) (Kd.R_keptB ((Kd.R_apart' HO_4.out (Kd.R_typed HO_411001.out) (by decide))) hkp (fun k_ hk_ hs_=>Or.elim hs_ (fun e_=>(hk_.1.2.1) e_) (fun e_=>(hk_.2) e_))) (fun k_ hk_=>⟨hk_.1.1.1,hk_.1.1.2.1,hk_.1.1.2.2.1,hk_.1.1.2.2.2.1,hk_.1.1.2.2.2.2⟩));have n1_:=am' (Kd.R_mono (ok':=fun k_=>some k_≠(v400:Value).ownBlock∧some k_≠(.slice Ao21 t403.length co21:Value).ownBlock∧¬ D447_ k_) (Kd.R_keptB ((Kd.R_apart' HO_7.out (Kd.R_typed HO_411001.out) (by decide))) hkp (fun k_ hk_ hs_=>Or.elim hs_ (fun e_=>(hk_.1.2.1) e_) (fun e_=>(hk_.2) e_))) (fun k_ hk_=>⟨hk_.1.1.1,hk_.1.1.2.1,hk_.1.1.2.2⟩));have n2_:=am' (Kd.R_reok rfl hy0 (fun k_ e_=>HO_411000.out.1 k_ e_));have n3_:=am' (Kd.R_reok rfl hy1 (fun k_ e_=>HO_411001.out.1 k_ e_));have n4_:=am' (blk_kept (kk' BK390.out) hkp (fun hs_=>Or.elim hs_ (fun e_=>(fun e_=>(Kd.R_ne HO_411000.out BK390.out (by decide)) e_) e_) (fun e_=>(fun e_=>(Kd.R_ne HO_411001.out BK390.out (by decide)) e_) e_)));have n5_:=am' (blk_kept (kk' BK410.out) hkp (fun hs_=>Or.elim hs_ (fun e_=>(fun e_=>(Kd.R_ne HO_411000.out BK410.out (by decide)) e_) e_) (fun e_=>(fun e_=>(Kd.R_ne HO_411001.out BK410.out (by decide)) e_) e_)));have n6_:=am' (hb);clear HO_4;clear HO_7;clear HO_411000;clear HO_411001;clear BK390;clear BK410;clear HB;have HO_4:=n0_;have HO_7:=n1_;have HO_411000:=n2_;have HO_411001:=n3_;have BK390:=n4_;have BK410:=n5_;have HB:=n6_;clear n0_ n1_ n2_ n3_ n4_ n5_ n6_;(try clear hb);(try clear hkp);(try clear hy0);(try clear hy1)))
         (try simp only[Act.put,sa',sb',sc'])
         go_cut [61] (fun v61 wc=>∃ (kq:Nat) (x61_43:Bool),v61 = .bool x61_43∧Aside0 (laws_FnExactNeededRowers.j4 kq t399 t402 t411 x61_43 l0_0 l0_1 a0_2=some r)∧Aside0 (kq≤kj35)∧Aside0 (Kd.R (Kd.int .i64) 3 wc w.heap.size (fun k_=>some k_≠(v412:Value).ownBlock∧some k_≠((.slice Ao21 t403.length co21):Value).ownBlock∧¬ D445_ k_∧D446_ k_∧D447_ k_) v400 t399)∧Aside0 (Kd.R (Kd.int .i64) 3 wc w.heap.size (fun k_=>some k_≠(v400:Value).ownBlock∧some k_≠((.slice Ao21 t403.length co21):Value).ownBlock∧¬ D447_ k_) v412 t411)∧Aside0 (Kd.R (Kd.int .i64) 3 wc w.heap.size (fun k_=>some k_≠(v400:Value).ownBlock∧some k_≠(v412:Value).ownBlock∧¬ D446_ k_∧D447_ k_) (.slice Ao21 t403.length co21) t425)∧Aside0 (Kd.R Kd.bool 4 wc w.heap.size (fun k_=>¬ D446_ k_∧D447_ k_) (.slice Ao24 t406.length co24) t426)∧Aside0 (wc.heap[gb390]? = some (.cells #[(.slice A0_0 l0_0.length c0_0),(.slice A0_1 l0_1.length c0_1), .int .i64 a0_2] 25 (0,0)))∧Aside0 (wc.heap[gb410]? = some (.cells #[(.slice Ao21 t403.length co21),(.slice Ao24 t406.length co24), .int .i64 t409] 29 (0,0)))∧Aside0 (Below w.heap.size w wc))
         case first =>
          have H:=HC44.out;clear HC44;by_cases c48:t424 < 0
          ·
           rw[if_pos c48] at H;have c48b0:decide (t424 < 0)=true:=decide_eq_true c48;clear c48;(first|rw[c48b0]|(simp only[i64_w,i32_w];rw[c48b0])|skip)
           have H':=am' H;clear H;go_wp2;go_meet
           case rel=>exact ⟨_,(true),xs',H',⟨by have:=HJ2.out;have:=HJ11.out;have:=HJ31.out;have:=HJ35.out;first|omega|exact Nat.le_refl _⟩,⟨by (with_reducible repeat (first|apply ra'|apply rn'|apply rw'));exact HO_4.out⟩,⟨by (with_reducible repeat (first|apply ra'|apply rn'|apply rw'));exact HO_7.out⟩,⟨by (with_reducible repeat (first|apply ra'|apply rn'|apply rw'));exact HO_411000.out⟩,⟨by (with_reducible repeat (first|apply ra'|apply rn'|apply rw'));exact HO_411001.out⟩,⟨by (with_reducible repeat (first|refine kn' ?_ _|refine kd' ?_|refine ka' ?_ _));exact BK390.out⟩,⟨by (with_reducible repeat (first|refine kn' ?_ _|refine kd' ?_|refine ka' ?_ _));exact BK410.out⟩,⟨by repeat (first|(with_reducible first|exact HB.out|apply ba'|apply bd'|apply be'|refine bs' ?_ GE390.out|refine bs' ?_ GE410.out)|exact HB.out)⟩⟩
          ·
           rw[if_neg c48] at H;have c48b0:decide (t424 < 0)=false:=decide_eq_false c48;clear c48;(first|rw[c48b0]|(simp only[i64_w,i32_w];rw[c48b0])|skip)
           replace H:=Option.bind_eq_some_iff.mp H;obtain ⟨t427,A490,H⟩:=H;replace H:(if t427=true then (laws_FnExactNeededRowers.j4 kj35 t399 t402 t411 (t414 != t402) l0_0 l0_1 a0_2) else (laws_FnExactNeededRowers.j4 kj35 t399 t402 t411 true l0_0 l0_1 a0_2))=some r:=H;have A49:=am' A490;clear A490;by_cases c50:t427=true
           ·
            subst c50;have H1:(laws_FnExactNeededRowers.j4 kj35 t399 t402 t411 (t414 != t402) l0_0 l0_1 a0_2)=some r:=by rw[if_pos rfl] at H;exact H
            clear H;have H:=H1;clear H1;have H':=am' H;clear H;obtain ⟨Ao51,co51,eo51⟩:=Kd.R_slice HO_7.out;subst eo51;obtain ⟨Ao52,co52,eo52⟩:=Kd.R_slice HO_4.out;subst eo52;go_wp2_with (first|(go_at_call 18;(with_reducible refine (laws_eqIntS.calls kj35 _ _ t411 _ _ t399 true _ ?side1 ?side2 ?side3 ?side4 A49.out).mono ?_);(case side1=>repeat (first|exact (Kd.R_reads' HO_7.out).2.2|(with_reducible refine ca' ?_ _)|(with_reducible refine cn' ?_ _)|(with_reducible refine cd' ?_)));(case side2=>exact (Kd.R_reads' HO_7.out).2.1);(case side3=>repeat (first|exact (Kd.R_reads' HO_4.out).2.2|(with_reducible refine ca' ?_ _)|(with_reducible refine cn' ?_ _)|(with_reducible refine cd' ?_)));(case side4=>exact (Kd.R_reads' HO_4.out).2.1);rintro e w' ⟨rfl,⟨nd,rfl⟩⟩));go_meet
            case rel=>exact ⟨_,((t414 != t402)),xs',H',⟨by have:=HJ2.out;have:=HJ11.out;have:=HJ31.out;have:=HJ35.out;first|omega|exact Nat.le_refl _⟩,⟨by (with_reducible repeat (first|apply ra'|apply rn'|apply rw'));exact HO_4.out⟩,⟨by (with_reducible repeat (first|apply ra'|apply rn'|apply rw'));exact HO_7.out⟩,⟨by (with_reducible repeat (first|apply ra'|apply rn'|apply rw'));exact HO_411000.out⟩,⟨by (with_reducible repeat (first|apply ra'|apply rn'|apply rw'));exact HO_411001.out⟩,⟨by (with_reducible repeat (first|refine kn' ?_ _|refine kd' ?_|refine ka' ?_ _));exact BK390.out⟩,⟨by (with_reducible repeat (first|refine kn' ?_ _|refine kd' ?_|refine ka' ?_ _));exact BK410.out⟩,⟨by repeat (first|(with_reducible first|exact HB.out|apply ba'|apply bd'|apply be'|refine bs' ?_ GE390.out|refine bs' ?_ GE410.out)|exact HB.out)⟩⟩
           ·
            replace c50:=Bool.eq_false_iff.mpr c50;subst c50;have H1:(laws_FnExactNeededRowers.j4 kj35 t399 t402 t411 true l0_0 l0_1 a0_2)=some r:=by rw[if_neg (show ¬ (false=true) by decide)] at H;exact H
            clear H;have H:=H1;clear H1;have H':=am' H;clear H;obtain ⟨Ao53,co53,eo53⟩:=Kd.R_slice HO_7.out;subst eo53;obtain ⟨Ao54,co54,eo54⟩:=Kd.R_slice HO_4.out;subst eo54;go_wp2_with (first|(go_at_call 18;(with_reducible refine (laws_eqIntS.calls kj35 _ _ t411 _ _ t399 false _ ?side1 ?side2 ?side3 ?side4 A49.out).mono ?_);(case side1=>repeat (first|exact (Kd.R_reads' HO_7.out).2.2|(with_reducible refine ca' ?_ _)|(with_reducible refine cn' ?_ _)|(with_reducible refine cd' ?_)));(case side2=>exact (Kd.R_reads' HO_7.out).2.1);(case side3=>repeat (first|exact (Kd.R_reads' HO_4.out).2.2|(with_reducible refine ca' ?_ _)|(with_reducible refine cn' ?_ _)|(with_reducible refine cd' ?_)));(case side4=>exact (Kd.R_reads' HO_4.out).2.1);rintro e w' ⟨rfl,⟨nd,rfl⟩⟩));go_meet
            case rel=>exact ⟨_,(true),xs',H',⟨by have:=HJ2.out;have:=HJ11.out;have:=HJ31.out;have:=HJ35.out;first|omega|exact Nat.le_refl _⟩,⟨by (with_reducible repeat (first|apply ra'|apply rn'|apply rw'));exact HO_4.out⟩,⟨by (with_reducible repeat (first|apply ra'|apply rn'|apply rw'));exact HO_7.out⟩,⟨by (with_reducible repeat (first|apply ra'|apply rn'|apply rw'));exact HO_411000.out⟩,⟨by (with_reducible repeat (first|apply ra'|apply rn'|apply rw'));exact HO_411001.out⟩,⟨by (with_reducible repeat (first|refine kn' ?_ _|refine kd' ?_|refine ka' ?_ _));exact BK390.out⟩,⟨by (with_reducible repeat (first|refine kn' ?_ _|refine kd' ?_|refine ka' ?_ _));exact BK410.out⟩,⟨by repeat (first|(with_reducible first|exact HB.out|apply ba'|apply bd'|apply be'|refine bs' ?_ GE390.out|refine bs' ?_ GE410.out)|exact HB.out)⟩⟩
         case rest =>
          clear HC44;try clear c1
          try clear c2
          try clear p2
          try clear c3
          try clear c4
          try clear c5
          try clear c7
          try clear c7b0
          try clear c12
          try clear c14
          try clear c17
          try clear c18
          try clear c22
          try clear c24
          try clear c27
          try clear c33
          try clear c37
          try clear c38
          try clear c42
          try clear c45
          try clear c48
          try clear c48b0
          try clear c50
          try clear hcz13_0
          try clear hcz13_1
          try clear hcz13_2
          try clear hcz18_0
          try clear hcz18_1
          try clear hcz18_2
          try clear hcz23_0
          try clear hcz23_1
          try clear hcz23_2
          try clear hcz46_0
          try clear hcz46_1
          try clear hcz46_2
          try clear hcz5_0
          try clear hcz5_1
          try clear hcz5_2
          try clear hfz13_0
          try clear hfz13_1
          try clear hfz13_2
          try clear hfz18_0
          try clear hfz18_1
          try clear hfz18_2
          try clear hfz23_0
          try clear hfz23_1
          try clear hfz23_2
          try clear hfz46_0
          try clear hfz46_1
          try clear hfz46_2
          try clear hfz5_0
          try clear hfz5_1
          try clear hfz5_2
          try clear p2
          obtain ⟨kq,x61_43,rfl,HA,HJ43,HO_4,HO_7,HO_411000,HO_411001,BK390,BK410,HB⟩:=hcut;have hl411000_43:=(Kd.R_reads' HO_411000.out).1;rw[hl411000_43] at HO_411000
          (try simp only[hl411000_43])
          (try simp only[hl411000_43] at BK390)
          (try simp only[hl411000_43] at BK410)
          (try simp only[hl411000_43] at HO_4)
          (try simp only[hl411000_43] at HO_7)
          (try simp only[hl411000_43] at HO_411001)
          have hl411001_43:=(Kd.R_reads' HO_411001.out).1;rw[hl411001_43] at HO_411001
          (try simp only[hl411001_43])
          (try simp only[hl411001_43] at BK390)
          (try simp only[hl411001_43] at BK410)
          (try simp only[hl411001_43] at HO_4)
          (try simp only[hl411001_43] at HO_7)
          (try simp only[hl411001_43] at HO_411000)
          cases kq with
          | zero=>exact absurd HA.out (by simp[laws_FnExactNeededRowers.j4])
          | succ kj43 =>
           have H:=HA.out;clear HA;simp only[laws_FnExactNeededRowers.j4] at H;have HC55:=am' H;clear H;go_upto_if 61 with (fail)
           go_cut [] (fun wc=>∃ (kq:Nat),Aside0 (laws_FnExactNeededRowers.j5 kq t399 t402 t411 l0_0 l0_1 a0_2=some r)∧Aside0 (kq≤kj43)∧Aside0 (Kd.R (Kd.int .i64) 3 wc w.heap.size (fun k_=>some k_≠(v412:Value).ownBlock∧some k_≠((.slice Ao21 t425.length co21):Value).ownBlock∧¬ D445_ k_∧D446_ k_∧D447_ k_) v400 t399)∧Aside0 (Kd.R (Kd.int .i64) 3 wc w.heap.size (fun k_=>some k_≠(v400:Value).ownBlock∧some k_≠((.slice Ao21 t425.length co21):Value).ownBlock∧¬ D447_ k_) v412 t411)∧Aside0 (Kd.R (Kd.int .i64) 3 wc w.heap.size (fun k_=>some k_≠(v400:Value).ownBlock∧some k_≠(v412:Value).ownBlock∧¬ D446_ k_∧D447_ k_) (.slice Ao21 t425.length co21) t425)∧Aside0 (Kd.R Kd.bool 4 wc w.heap.size (fun k_=>¬ D446_ k_∧D447_ k_) (.slice Ao24 t426.length co24) t426)∧Aside0 (wc.heap[gb390]? = some (.cells #[(.slice A0_0 l0_0.length c0_0),(.slice A0_1 l0_1.length c0_1), .int .i64 a0_2] 25 (0,0)))∧Aside0 (wc.heap[gb410]? = some (.cells #[(.slice Ao21 t425.length co21),(.slice Ao24 t426.length co24), .int .i64 t409] 29 (0,0)))∧Aside0 (Below w.heap.size w wc))
           case first =>
            have H:=HC55.out;clear HC55;by_cases c56:x61_43=true
            ·
             subst c56;have H1:(some false)=some r:=by rw[if_pos rfl] at H;exact H
             clear H;have H:=H1;clear H1;obtain rfl:=Option.some.inj H;go_wp2;go_ret
             exact ⟨by first|rfl|(simp[errW_none,errW_some] <;> rfl)|(simp[*,errW_none,errW_some] <;> rfl),by repeat (first|(with_reducible first|exact HB.out|apply ba'|apply bd'|apply be'|refine bs' ?_ GE390.out|refine bs' ?_ GE410.out)|exact HB.out)⟩
            ·
             replace c56:=Bool.eq_false_iff.mpr c56;subst c56;have H1:(laws_FnExactNeededRowers.j5 kj43 t399 t402 t411 l0_0 l0_1 a0_2)=some r:=by rw[if_neg (show ¬ (false=true) by decide)] at H;exact H
             clear H;have H:=H1;clear H1;have H':=am' H;clear H;go_wp2;go_meet
             case rel=>exact ⟨_,H',⟨by have:=HJ2.out;have:=HJ11.out;have:=HJ31.out;have:=HJ35.out;have:=HJ43.out;first|omega|exact Nat.le_refl _⟩,⟨by (try simp only[hl411000_43]);(try simp only[hl411001_43]);(with_reducible repeat (first|apply ra'|apply rn'|apply rw'));exact HO_4.out⟩,⟨by (try simp only[hl411000_43]);(try simp only[hl411001_43]);(with_reducible repeat (first|apply ra'|apply rn'|apply rw'));exact HO_7.out⟩,⟨by (try simp only[hl411000_43]);(try simp only[hl411001_43]);(with_reducible repeat (first|apply ra'|apply rn'|apply rw'));exact HO_411000.out⟩,⟨by (try simp only[hl411000_43]);(try simp only[hl411001_43]);(with_reducible repeat (first|apply ra'|apply rn'|apply rw'));exact HO_411001.out⟩,⟨by (try simp only[hl411000_43]);(try simp only[hl411001_43]);(with_reducible repeat (first|refine kn' ?_ _|refine kd' ?_|refine ka' ?_ _));exact BK390.out⟩,⟨by (try simp only[hl411000_43]);(try simp only[hl411001_43]);(with_reducible repeat (first|refine kn' ?_ _|refine kd' ?_|refine ka' ?_ _));exact BK410.out⟩,⟨by repeat (first|(with_reducible first|exact HB.out|apply ba'|apply bd'|apply be'|refine bs' ?_ GE390.out|refine bs' ?_ GE410.out)|exact HB.out)⟩⟩
           case rest =>
            clear HC55;try clear c1
            try clear c2
            try clear p2
            try clear c3
            try clear c4
            try clear c5
            try clear c7
            try clear c7b0
            try clear c12
            try clear c14
            try clear c17
            try clear c18
            try clear c22
            try clear c24
            try clear c27
            try clear c33
            try clear c37
            try clear c38
            try clear c42
            try clear c45
            try clear c48
            try clear c48b0
            try clear c50
            try clear c56
            try clear hcz13_0
            try clear hcz13_1
            try clear hcz13_2
            try clear hcz18_0
            try clear hcz18_1
            try clear hcz18_2
            try clear hcz23_0
            try clear hcz23_1
            try clear hcz23_2
            try clear hcz46_0
            try clear hcz46_1
            try clear hcz46_2
            try clear hcz5_0
            try clear hcz5_1
            try clear hcz5_2
            try clear hfz13_0
            try clear hfz13_1
            try clear hfz13_2
            try clear hfz18_0
            try clear hfz18_1
            try clear hfz18_2
            try clear hfz23_0
            try clear hfz23_1
            try clear hfz23_2
            try clear hfz46_0
            try clear hfz46_1
            try clear hfz46_2
            try clear hfz5_0
            try clear hfz5_1
            try clear hfz5_2
            try clear p2
            obtain ⟨kq,HA,HJ54,HO_4,HO_7,HO_411000,HO_411001,BK390,BK410,HB⟩:=hcut;cases kq with
            | zero=>exact absurd HA.out (by simp[laws_FnExactNeededRowers.j5])
            | succ kj54 =>
             have H:=HA.out;clear HA;simp only[laws_FnExactNeededRowers.j5] at H;replace H:=Option.bind_eq_some_iff.mp H;obtain ⟨⟨t428,t429⟩,A570,H⟩:=H;replace H:((laws_heldIntS.f kj54 t429 1).bind fun t430=>(if t430 < 0 then (some false) else (laws_FnExactNeededRowers.j6 kj54 t399 t402 t429 t428 t430 l0_0 l0_1 a0_2)))=some r:=H;have A57:=am' A570;clear A570;replace H:=Option.bind_eq_some_iff.mp H;obtain ⟨t430,A580,H⟩:=H;replace H:(if t430 < 0 then (some false) else (laws_FnExactNeededRowers.j6 kj54 t399 t402 t429 t428 t430 l0_0 l0_1 a0_2))=some r:=H;have A58:=am' A580;clear A580;have HC59:=am' H;clear H;obtain ⟨Ao60,co60,eo60⟩:=Kd.R_slice HO_7.out;subst eo60;go_upto_if 69 with (first|((with_reducible refine gate_callee (f:=26) rfl ?_);refine goesL_ (some 64) rfl rfl Try.func26 xk' rfl #[.slice Ao60 t411.length co60, .int .i64 1] rfl xl' ?_;(with_reducible refine (laws_markIntS.calls kj54 (fun k_=>some k_=(.slice Ao60 t411.length co60:Value).ownBlock) (.slice Ao60 t411.length co60) t411 1 t428 t429 w _ ?side1 ?side2 A57.out).mono ?_);(case side1=>repeat (first|(with_reducible first|exact HB.out|apply ba'|apply bd'|apply be'|refine bs' ?_ GE390.out|refine bs' ?_ GE410.out)|exact HB.out));(case side2=>exact Kd.R_tight rfl HO_7.out);rintro e w61 ⟨rfl,hy0,hb,hkp⟩;refine ⟨_,rfl,?_⟩;have n0_:=am' (Kd.R_mono (ok':=fun k_=>some k_≠(.slice Ao60 t411.length co60:Value).ownBlock∧some k_≠(.slice Ao21 t425.length co21:Value).ownBlock∧¬ D445_ k_∧D446_ k_∧D447_ k_) (Kd.R_keptB (HO_4.out) hkp (fun k_ hk_ hs_=>(hk_.1) hs_)) (fun k_ hk_=>⟨hk_.1.1,hk_.1.2.1,hk_.1.2.2.1,hk_.1.2.2.2.1,hk_.1.2.2.2.2⟩));have n1_:=am' (Kd.R_reok rfl hy0 (fun k_ e_=>HO_7.out.1 k_ e_));have n2_:=am' (Kd.R_mono (ok':=fun k_=>some k_≠(v400:Value).ownBlock∧some k_≠(.slice Ao60 t411.length co60:Value).ownBlock∧¬ D446_ k_∧D447_ k_) (Kd.R_keptB (HO_411000.out) hkp (fun k_ hk_ hs_=>(hk_.2.1) hs_)) (fun k_ hk_=>⟨hk_.1.1,hk_.1.2.1,hk_.1.2.2.1,hk_.1.2.2.2⟩));have n3_:=am' (Kd.R_mono (ok':=fun k_=>¬ D446_ k_∧D447_ k_) (Kd.R_keptB ((Kd.R_apart' HO_411001.out (Kd.R_typed HO_7.out) (by decide))) hkp (fun k_ hk_ hs_=>(hk_.2) hs_)) (fun k_ hk_=>⟨hk_.1.1.1,hk_.1.1.2⟩));have n4_:=am' (blk_kept (kk' BK390.out) hkp (fun hs_=>(fun e_=>(Kd.R_ne HO_7.out BK390.out (by decide)) e_) hs_));have n5_:=am' (blk_kept (kk' BK410.out) hkp (fun hs_=>(fun e_=>(Kd.R_ne HO_7.out BK410.out (by decide)) e_) hs_));have n6_:=am' (hb);clear HO_4;clear HO_7;clear HO_411000;clear HO_411001;clear BK390;clear BK410;clear HB;have HO_4:=n0_;have HO_7:=n1_;have HO_411000:=n2_;have HO_411001:=n3_;have BK390:=n4_;have BK410:=n5_;have HB:=n6_;clear n0_ n1_ n2_ n3_ n4_ n5_ n6_;(try clear hb);(try clear hkp);(try clear hy0))|((with_reducible refine gate_callee (f:=39) rfl ?_);refine goesL_ (some 67) rfl rfl Try.func39 xk' rfl #[.slice Ao60 t429.length co60, .int .i64 1] rfl (by (try simp only[List.map_toArray,List.map_cons,List.map_nil]);first|done|(rw[show t429.length=t411.length from (Kd.R_reads' HO_7.out).1.symm] <;> rfl)|rfl|(simp only[List.length_drop,List.length_take];rfl)) ?_;(with_reducible refine (laws_heldIntS.calls kj54 _ _ t429 1 t430 _ ?side1 ?side2 A58.out).mono ?_);(case side1=>repeat (first|exact (Kd.R_reads' HO_7.out).2.2|(with_reducible refine ca' ?_ _)|(with_reducible refine cn' ?_ _)|(with_reducible refine cd' ?_)));(case side2=>rw [show t429.length=t411.length from (Kd.R_reads' HO_7.out).1.symm];exact (Kd.R_reads' HO_7.out).2.1);rintro e w' ⟨rfl,⟨nd,rfl⟩⟩;refine ⟨_,rfl,?_⟩))
             (try simp only[Act.put,sa',sb',sc'])
             go_cut [] (fun wc=>∃ (kq:Nat),Aside0 (laws_FnExactNeededRowers.j6 kq t399 t402 t429 t428 t430 l0_0 l0_1 a0_2=some r)∧Aside0 (kq≤kj54)∧Aside0 (Kd.R (Kd.int .i64) 3 wc w.heap.size (fun k_=>some k_≠((.slice Ao60 t411.length co60):Value).ownBlock∧some k_≠((.slice Ao21 t425.length co21):Value).ownBlock∧¬ D445_ k_∧D446_ k_∧D447_ k_) v400 t399)∧Aside0 (Kd.R (Kd.int .i64) 3 wc w.heap.size (fun k_=>some k_≠(v400:Value).ownBlock∧some k_≠((.slice Ao21 t425.length co21):Value).ownBlock∧¬ D447_ k_) (.slice Ao60 t411.length co60) t429)∧Aside0 (Kd.R (Kd.int .i64) 3 wc w.heap.size (fun k_=>some k_≠(v400:Value).ownBlock∧some k_≠((.slice Ao60 t411.length co60):Value).ownBlock∧¬ D446_ k_∧D447_ k_) (.slice Ao21 t425.length co21) t425)∧Aside0 (Kd.R Kd.bool 4 wc w.heap.size (fun k_=>¬ D446_ k_∧D447_ k_) (.slice Ao24 t426.length co24) t426)∧Aside0 (wc.heap[gb390]? = some (.cells #[(.slice A0_0 l0_0.length c0_0),(.slice A0_1 l0_1.length c0_1), .int .i64 a0_2] 25 (0,0)))∧Aside0 (wc.heap[gb410]? = some (.cells #[(.slice Ao21 t425.length co21),(.slice Ao24 t426.length co24), .int .i64 t409] 29 (0,0)))∧Aside0 (Below w.heap.size w wc))
             case first =>
              have H:=HC59.out;clear HC59;by_cases c62:t430 < 0
              ·
               rw[if_pos c62] at H;have c62b0:decide (t430 < 0)=true:=decide_eq_true c62;clear c62;(first|rw[c62b0]|(simp only[i64_w,i32_w];rw[c62b0])|skip)
               obtain rfl:=Option.some.inj H;go_wp2;go_ret
               exact ⟨by first|rfl|(simp[errW_none,errW_some] <;> rfl)|(simp[*,errW_none,errW_some] <;> rfl),by repeat (first|(with_reducible first|exact HB.out|apply ba'|apply bd'|apply be'|refine bs' ?_ GE390.out|refine bs' ?_ GE410.out)|exact HB.out)⟩
              ·
               rw[if_neg c62] at H;have c62b0:decide (t430 < 0)=false:=decide_eq_false c62;clear c62;(first|rw[c62b0]|(simp only[i64_w,i32_w];rw[c62b0])|skip)
               have H':=am' H;clear H;go_wp2;go_meet
               case rel=>exact ⟨_,H',⟨by have:=HJ2.out;have:=HJ11.out;have:=HJ31.out;have:=HJ35.out;have:=HJ43.out;have:=HJ54.out;first|omega|exact Nat.le_refl _⟩,⟨by (try simp only[hl411000_43]);(try simp only[hl411001_43]);(with_reducible repeat (first|apply ra'|apply rn'|apply rw'));exact HO_4.out⟩,⟨by (try simp only[hl411000_43]);(try simp only[hl411001_43]);(with_reducible repeat (first|apply ra'|apply rn'|apply rw'));exact HO_7.out⟩,⟨by (try simp only[hl411000_43]);(try simp only[hl411001_43]);(with_reducible repeat (first|apply ra'|apply rn'|apply rw'));exact HO_411000.out⟩,⟨by (try simp only[hl411000_43]);(try simp only[hl411001_43]);(with_reducible repeat (first|apply ra'|apply rn'|apply rw'));exact HO_411001.out⟩,⟨by (try simp only[hl411000_43]);(try simp only[hl411001_43]);(with_reducible repeat (first|refine kn' ?_ _|refine kd' ?_|refine ka' ?_ _));exact BK390.out⟩,⟨by (try simp only[hl411000_43]);(try simp only[hl411001_43]);(with_reducible repeat (first|refine kn' ?_ _|refine kd' ?_|refine ka' ?_ _));exact BK410.out⟩,⟨by repeat (first|(with_reducible first|exact HB.out|apply ba'|apply bd'|apply be'|refine bs' ?_ GE390.out|refine bs' ?_ GE410.out)|exact HB.out)⟩⟩
             case rest =>
              clear HC59;try clear c1
              try clear c2
              try clear p2
              try clear c3
              try clear c4
              try clear c5
              try clear c6
              try clear c7
              try clear c7b0
              try clear c12
              try clear c14
              try clear c17
              try clear c18
              try clear c22
              try clear c24
              try clear c26
              try clear c27
              try clear c33
              try clear c37
              try clear c38
              try clear c39
              try clear c42
              try clear c45
              try clear c48
              try clear c48b0
              try clear c50
              try clear c56
              try clear c62
              try clear c62b0
              try clear hcz13_0
              try clear hcz13_1
              try clear hcz13_2
              try clear hcz18_0
              try clear hcz18_1
              try clear hcz18_2
              try clear hcz23_0
              try clear hcz23_1
              try clear hcz23_2
              try clear hcz46_0
              try clear hcz46_1
              try clear hcz46_2
              try clear hcz5_0
              try clear hcz5_1
              try clear hcz5_2
              try clear hfz13_0
              try clear hfz13_1
              try clear hfz13_2
              try clear hfz18_0
              try clear hfz18_1
              try clear hfz18_2
              try clear hfz23_0
              try clear hfz23_1
              try clear hfz23_2
              try clear hfz46_0
              try clear hfz46_1
              try clear hfz46_2
              try clear hfz5_0
              try clear hfz5_1
              try clear hfz5_2
              try clear p2
              obtain ⟨kq,HA,HJ58,HO_4,HO_7,HO_411000,HO_411001,BK390,BK410,HB⟩:=hcut;have hl7_58:=(Kd.R_reads' HO_7.out).1;rw[hl7_58] at HO_7
              (try simp only[hl7_58])
              (try simp only[hl7_58] at BK390)
              (try simp only[hl7_58] at BK410)
              (try simp only[hl7_58] at HO_4)
              (try simp only[hl7_58] at HO_411000)
              (try simp only[hl7_58] at HO_411001)
              cases kq with
              | zero=>exact absurd HA.out (by simp[laws_FnExactNeededRowers.j6])
              | succ kj58 =>
               have H:=HA.out;clear HA;simp only[laws_FnExactNeededRowers.j6] at H;have HC63:=am' H;clear H;go_upto_if 72 with (fail)
               go_cut [] (fun wc=>∃ (kq:Nat),Aside0 (laws_FnExactNeededRowers.j7 kq t399 t402 t429 t428 l0_0 l0_1 a0_2=some r)∧Aside0 (kq≤kj58)∧Aside0 (Kd.R (Kd.int .i64) 3 wc w.heap.size (fun k_=>some k_≠((.slice Ao60 t429.length co60):Value).ownBlock∧some k_≠((.slice Ao21 t425.length co21):Value).ownBlock∧¬ D445_ k_∧D446_ k_∧D447_ k_) v400 t399)∧Aside0 (Kd.R (Kd.int .i64) 3 wc w.heap.size (fun k_=>some k_≠(v400:Value).ownBlock∧some k_≠((.slice Ao21 t425.length co21):Value).ownBlock∧¬ D447_ k_) (.slice Ao60 t429.length co60) t429)∧Aside0 (Kd.R (Kd.int .i64) 3 wc w.heap.size (fun k_=>some k_≠(v400:Value).ownBlock∧some k_≠((.slice Ao60 t429.length co60):Value).ownBlock∧¬ D446_ k_∧D447_ k_) (.slice Ao21 t425.length co21) t425)∧Aside0 (Kd.R Kd.bool 4 wc w.heap.size (fun k_=>¬ D446_ k_∧D447_ k_) (.slice Ao24 t426.length co24) t426)∧Aside0 (wc.heap[gb390]? = some (.cells #[(.slice A0_0 l0_0.length c0_0),(.slice A0_1 l0_1.length c0_1), .int .i64 a0_2] 25 (0,0)))∧Aside0 (wc.heap[gb410]? = some (.cells #[(.slice Ao21 t425.length co21),(.slice Ao24 t426.length co24), .int .i64 t409] 29 (0,0)))∧Aside0 (Below w.heap.size w wc))
               case first =>
                have H:=HC63.out;clear HC63;by_cases c64:t430=t428
                ·
                 rw[if_pos c64] at H;have c64b0:(t430 == t428)=true:=beq_iff_eq.mpr c64;have c64b1:(t430 != t428)=false:=bne_eq_false_iff_eq.mpr c64;clear c64;(first|rw[c64b0]|(simp only[i64_w,i32_w];rw[c64b0])|skip)
                 have H':=am' H;clear H;go_wp2;go_meet
                 case rel=>exact ⟨_,H',⟨by have:=HJ2.out;have:=HJ11.out;have:=HJ31.out;have:=HJ35.out;have:=HJ43.out;have:=HJ54.out;have:=HJ58.out;first|omega|exact Nat.le_refl _⟩,⟨by (try simp only[hl411000_43]);(try simp only[hl411001_43]);(try simp only[hl7_58]);(with_reducible repeat (first|apply ra'|apply rn'|apply rw'));exact HO_4.out⟩,⟨by (try simp only[hl411000_43]);(try simp only[hl411001_43]);(try simp only[hl7_58]);(with_reducible repeat (first|apply ra'|apply rn'|apply rw'));exact HO_7.out⟩,⟨by (try simp only[hl411000_43]);(try simp only[hl411001_43]);(try simp only[hl7_58]);(with_reducible repeat (first|apply ra'|apply rn'|apply rw'));exact HO_411000.out⟩,⟨by (try simp only[hl411000_43]);(try simp only[hl411001_43]);(try simp only[hl7_58]);(with_reducible repeat (first|apply ra'|apply rn'|apply rw'));exact HO_411001.out⟩,⟨by (try simp only[hl411000_43]);(try simp only[hl411001_43]);(try simp only[hl7_58]);(with_reducible repeat (first|refine kn' ?_ _|refine kd' ?_|refine ka' ?_ _));exact BK390.out⟩,⟨by (try simp only[hl411000_43]);(try simp only[hl411001_43]);(try simp only[hl7_58]);(with_reducible repeat (first|refine kn' ?_ _|refine kd' ?_|refine ka' ?_ _));exact BK410.out⟩,⟨by repeat (first|(with_reducible first|exact HB.out|apply ba'|apply bd'|apply be'|refine bs' ?_ GE390.out|refine bs' ?_ GE410.out)|exact HB.out)⟩⟩
                ·
                 rw[if_neg c64] at H;have c64b0:(t430 == t428)=false:=beq_eq_false_iff_ne.mpr c64;have c64b1:(t430 != t428)=true:=bne_iff_ne.mpr c64
                 (first|rw[c64b0]|(simp only[i64_w,i32_w];rw[c64b0])|skip)
                 obtain rfl:=Option.some.inj H;go_wp2;go_ret
                 exact ⟨by first|rfl|(simp[errW_none,errW_some] <;> rfl)|(simp[*,errW_none,errW_some] <;> rfl),by repeat (first|(with_reducible first|exact HB.out|apply ba'|apply bd'|apply be'|refine bs' ?_ GE390.out|refine bs' ?_ GE410.out)|exact HB.out)⟩
               case rest =>
                clear HC63;try clear c1
                try clear c2
                try clear p2
                try clear c3
                try clear c4
                try clear c5
                try clear c6
                try clear c7
                try clear c7b0
                try clear c12
                try clear c14
                try clear c17
                try clear c18
                try clear c22
                try clear c24
                try clear c26
                try clear c27
                try clear c33
                try clear c37
                try clear c38
                try clear c39
                try clear c42
                try clear c45
                try clear c48
                try clear c48b0
                try clear c50
                try clear c56
                try clear c62
                try clear c62b0
                try clear c64
                try clear c64b0
                try clear c64b1
                try clear hcz13_0
                try clear hcz13_1
                try clear hcz13_2
                try clear hcz18_0
                try clear hcz18_1
                try clear hcz18_2
                try clear hcz23_0
                try clear hcz23_1
                try clear hcz23_2
                try clear hcz46_0
                try clear hcz46_1
                try clear hcz46_2
                try clear hcz5_0
                try clear hcz5_1
                try clear hcz5_2
                try clear hfz13_0
                try clear hfz13_1
                try clear hfz13_2
                try clear hfz18_0
                try clear hfz18_1
                try clear hfz18_2
                try clear hfz23_0
                try clear hfz23_1
                try clear hfz23_2
                try clear hfz46_0
                try clear hfz46_1
                try clear hfz46_2
                try clear hfz5_0
                try clear hfz5_1
                try clear hfz5_2
                try clear p2
                obtain ⟨kq,HA,HJ62,HO_4,HO_7,HO_411000,HO_411001,BK390,BK410,HB⟩:=hcut;cases kq with
                | zero=>exact absurd HA.out (by simp[laws_FnExactNeededRowers.j7])
                | succ kj62 =>
                 have H:=HA.out;clear HA;simp only[laws_FnExactNeededRowers.j7] at H;replace H:=Option.bind_eq_some_iff.mp H;obtain ⟨⟨t431,t434,t437⟩,A650,H⟩:=H;replace H:((impl_NeededRowers.f kj62 t431 t434 t437).bind fun bt438=>((laws_eqIntS.f kj62 bt438.1 t399).bind fun t442=>(if t442=true then (laws_FnExactNeededRowers.j8 kj62 t429 t428 (bt438.2 != t402)) else (laws_FnExactNeededRowers.j8 kj62 t429 t428 true))))=some r:=H;have A65:=am' A650;clear A650;replace H:=Option.bind_eq_some_iff.mp H;obtain ⟨⟨t438,t441⟩,A660,H⟩:=H;replace H:((laws_eqIntS.f kj62 t438 t399).bind fun t442=>(if t442=true then (laws_FnExactNeededRowers.j8 kj62 t429 t428 (t441 != t402)) else (laws_FnExactNeededRowers.j8 kj62 t429 t428 true)))=some r:=H;have A66:=am' A660;clear A660;have HC67:=am' H;clear H;have hnb68:=NB390_410.out;have hnc68:=NB410_390.out;have hcz69_0:wc.cell? ⟨gb390,0,none⟩=some (.slice A0_0 l0_0.length c0_0):=(blk_cell BK390.out 0).trans rfl;have hcz69_1:wc.cell? ⟨gb390,1,none⟩=some (.slice A0_1 l0_1.length c0_1):=(blk_cell BK390.out 1).trans rfl;have hcz69_2:wc.cell? ⟨gb390,2,none⟩=some (.int .i64 a0_2):=(blk_cell BK390.out 2).trans rfl;have hfz69_0:=blk_frozen BK390.out 0;have hfz69_1:=blk_frozen BK390.out 1;have hfz69_2:=blk_frozen BK390.out 2;go_upto_region 25 with (first|((with_reducible refine gate_callee (f:=14) rfl ?_);refine goesL_ (some 75) rfl rfl Try.func14 xk' rfl #[.agg #[.slice A0_0 l0_0.length c0_0, .slice A0_1 l0_1.length c0_1, .int .i64 a0_2]] rfl xl' ?_;(with_reducible refine (laws_toCrew.calls kj62 _ _ l0_0 _ _ l0_1 a0_2 t431 t434 t437 _ ?side1 ?side2 ?side3 ?side4 A65.out).mono ?_);(case side1=>repeat (first|exact (Kd.C_below HR0_0.out HB.out)|(with_reducible refine ca' ?_ _)|(with_reducible refine cn' ?_ _)|(with_reducible refine cd' ?_)));(case side2=>exact HC0_0.out);(case side3=>repeat (first|exact (Kd.C_below HR0_1.out HB.out)|(with_reducible refine ca' ?_ _)|(with_reducible refine cn' ?_ _)|(with_reducible refine cd' ?_)));(case side4=>exact HC0_1.out);rintro e w70 ⟨v432,v435,rfl,ho0,ho1,hb⟩;refine ⟨_,rfl,?_⟩;obtain ⟨D448_,hdl_,hdg_⟩:=dlt_of hb;have D448_lt:=am' hdl_;have D448_ge:=am' hdg_;clear hdl_ hdg_;have n0_:=am' (Kd.R_elder' (Kd.R_dlt (kr' HO_4.out) D448_lt.out) (Kd.R_base ho0) hb);have n1_:=am' (Kd.R_elder' (Kd.R_dlt (kr' HO_7.out) D448_lt.out) (Kd.R_base ho0) hb);have n2_:=am' (Kd.R_elder' (Kd.R_dlt (kr' HO_411000.out) D448_lt.out) (Kd.R_base ho0) hb);have n3_:=am' (Kd.R_elder' (Kd.R_dlt (kr' HO_411001.out) D448_lt.out) (Kd.R_base ho1) hb);have n4_:=am' (Kd.R_lower (Kd.R_new' (Kd.R_new' (Kd.R_new' (Kd.R_dge ho0 D448_ge.out) (Kd.R_lt (kr' HO_4.out))) (Kd.R_lt (kr' HO_7.out))) (Kd.R_lt (kr' HO_411000.out))) (below_size (by repeat (first|(with_reducible first|exact HB.out|apply ba'|apply bd'|apply be'|refine bs' ?_ GE390.out|refine bs' ?_ GE410.out)|exact HB.out))));have n5_:=am' (Kd.R_lower (Kd.R_new' (Kd.R_dge ho1 D448_ge.out) (Kd.R_lt (kr' HO_411001.out))) (below_size (by repeat (first|(with_reducible first|exact HB.out|apply ba'|apply bd'|apply be'|refine bs' ?_ GE390.out|refine bs' ?_ GE410.out)|exact HB.out))));have n6_:=am' (blk_below (g:=gb390) (o := .cells #[.slice A0_0 l0_0.length c0_0, .slice A0_1 l0_1.length c0_1, .int .i64 a0_2] 25 (0,0)) (kk' BK390.out) hb);have n7_:=am' (blk_below (g:=gb410) (o := .cells #[.slice Ao21 t425.length co21, .slice Ao24 t426.length co24, .int .i64 t409] 29 (0,0)) (kk' BK410.out) hb);have n8_:=am' (below_step (by repeat (first|(with_reducible first|exact HB.out|apply ba'|apply bd'|apply be'|refine bs' ?_ GE390.out|refine bs' ?_ GE410.out)|exact HB.out)) hb);clear HO_4;clear HO_7;clear HO_411000;clear HO_411001;clear BK390;clear BK410;clear HB;have HO_4:=n0_;have HO_7:=n1_;have HO_411000:=n2_;have HO_411001:=n3_;have HO433:=n4_;have HO436:=n5_;have BK390:=n6_;have BK410:=n7_;have HB:=n8_;clear n0_ n1_ n2_ n3_ n4_ n5_ n6_ n7_ n8_;(try clear hb);(try clear hb2);(try clear hk);(try clear hi);(try clear ho0);(try clear ho1);obtain ⟨Ao71,co71,eo71⟩:=Kd.R_slice HO433.out;subst eo71;obtain ⟨Ao72,co72,eo72⟩:=Kd.R_slice HO436.out;subst eo72)|((with_reducible refine gate_callee (f:=38) rfl ?_);refine goesL_ (some 76) rfl rfl Try.func38 xk' rfl #[.agg #[.slice Ao71 t431.length co71, .slice Ao72 t434.length co72, .int .i64 t437]] rfl xl' ?_;(with_reducible refine (impl_NeededRowers.calls kj62 _ _ t431 _ _ t434 t437 t438 t441 _ ?side1 ?side2 ?side3 ?side4 A66.out).mono ?_);(case side1=>repeat (first|exact (Kd.R_reads' HO433.out).2.2|(with_reducible refine ca' ?_ _)|(with_reducible refine cn' ?_ _)|(with_reducible refine cd' ?_)));(case side2=>exact (Kd.R_reads' HO433.out).2.1);(case side3=>repeat (first|exact (Kd.R_reads' HO436.out).2.2|(with_reducible refine ca' ?_ _)|(with_reducible refine cn' ?_ _)|(with_reducible refine cd' ?_)));(case side4=>exact (Kd.R_reads' HO436.out).2.1);rintro e w73 ⟨v439,rfl,ho0,hb⟩;refine ⟨_,rfl,?_⟩;obtain ⟨D449_,hdl_,hdg_⟩:=dlt_of hb;have D449_lt:=am' hdl_;have D449_ge:=am' hdg_;clear hdl_ hdg_;have n0_:=am' (Kd.R_elder' (Kd.R_dlt (kr' HO_4.out) D449_lt.out) (Kd.R_base ho0) hb);have n1_:=am' (Kd.R_elder' (Kd.R_dlt (kr' HO_7.out) D449_lt.out) (Kd.R_base ho0) hb);have n2_:=am' (Kd.R_elder' (Kd.R_dlt (kr' HO_411000.out) D449_lt.out) (Kd.R_base ho0) hb);have n3_:=am' (Kd.R_below (Kd.R_dlt (kr' HO_411001.out) D449_lt.out) hb);have n4_:=am' (Kd.R_elder' (Kd.R_dlt (kr' HO433.out) D449_lt.out) (Kd.R_base ho0) hb);have n5_:=am' (Kd.R_below (Kd.R_dlt (kr' HO436.out) D449_lt.out) hb);have n6_:=am' (Kd.R_lower (Kd.R_new' (Kd.R_new' (Kd.R_new' (Kd.R_new' (Kd.R_dge ho0 D449_ge.out) (Kd.R_lt (kr' HO_4.out))) (Kd.R_lt (kr' HO_7.out))) (Kd.R_lt (kr' HO_411000.out))) (Kd.R_lt (kr' HO433.out))) (below_size (by repeat (first|(with_reducible first|exact HB.out|apply ba'|apply bd'|apply be'|refine bs' ?_ GE390.out|refine bs' ?_ GE410.out)|exact HB.out))));have n7_:=am' (blk_below (g:=gb390) (o := .cells #[.slice A0_0 l0_0.length c0_0, .slice A0_1 l0_1.length c0_1, .int .i64 a0_2] 25 (0,0)) (kk' BK390.out) hb);have n8_:=am' (blk_below (g:=gb410) (o := .cells #[.slice Ao21 t425.length co21, .slice Ao24 t426.length co24, .int .i64 t409] 29 (0,0)) (kk' BK410.out) hb);have n9_:=am' (below_step (by repeat (first|(with_reducible first|exact HB.out|apply ba'|apply bd'|apply be'|refine bs' ?_ GE390.out|refine bs' ?_ GE410.out)|exact HB.out)) hb);clear HO_4;clear HO_7;clear HO_411000;clear HO_411001;clear HO433;clear HO436;clear BK390;clear BK410;clear HB;have HO_4:=n0_;have HO_7:=n1_;have HO_411000:=n2_;have HO_411001:=n3_;have HO433:=n4_;have HO436:=n5_;have HO440:=n6_;have BK390:=n7_;have BK410:=n8_;have HB:=n9_;clear n0_ n1_ n2_ n3_ n4_ n5_ n6_ n7_ n8_ n9_;(try clear hb);(try clear hb2);(try clear hk);(try clear hi);(try clear ho0)))
                 (try simp only[Act.put,sa',sb',sc'])
                 go_cut [87] (fun v87 wc=>∃ (kq:Nat) (x87_66:Bool),v87 = .bool x87_66∧Aside0 (laws_FnExactNeededRowers.j8 kq t429 t428 x87_66=some r)∧Aside0 (kq≤kj62)∧Aside0 (Kd.R (Kd.int .i64) 3 wc w.heap.size (fun k_=>some k_≠((.slice Ao21 t425.length co21):Value).ownBlock∧¬ D447_ k_∧D448_ k_∧D449_ k_) (.slice Ao60 t429.length co60) t429)∧Aside0 (Kd.R (Kd.int .i64) 3 wc w.heap.size (fun k_=>some k_≠((.slice Ao60 t429.length co60):Value).ownBlock∧¬ D446_ k_∧D447_ k_∧D448_ k_∧D449_ k_) (.slice Ao21 t425.length co21) t425)∧Aside0 (Kd.R Kd.bool 4 wc w.heap.size (fun k_=>¬ D446_ k_∧D447_ k_∧D448_ k_∧D449_ k_) (.slice Ao24 t426.length co24) t426)∧Aside0 (wc.heap[gb390]? = some (.cells #[(.slice A0_0 l0_0.length c0_0),(.slice A0_1 l0_1.length c0_1), .int .i64 a0_2] 25 (0,0)))∧Aside0 (wc.heap[gb410]? = some (.cells #[(.slice Ao21 t425.length co21),(.slice Ao24 t426.length co24), .int .i64 t409] 29 (0,0)))∧Aside0 (Below w.heap.size w wc))
                 case first =>
                  have H:=HC67.out;clear HC67;replace H:=Option.bind_eq_some_iff.mp H;obtain ⟨t442,A740,H⟩:=H;replace H:(if t442=true then (laws_FnExactNeededRowers.j8 kj62 t429 t428 (t441 != t402)) else (laws_FnExactNeededRowers.j8 kj62 t429 t428 true))=some r:=H;have A74:=am' A740;clear A740;by_cases c75:t442=true
                  ·
                   subst c75;have H1:(laws_FnExactNeededRowers.j8 kj62 t429 t428 (t441 != t402))=some r:=by rw[if_pos rfl] at H;exact H
                   clear H;have H:=H1;clear H1;have H':=am' H;clear H;obtain ⟨Ao76,co76,eo76⟩:=Kd.R_slice HO440.out;subst eo76;obtain ⟨Ao77,co77,eo77⟩:=Kd.R_slice HO_4.out;subst eo77;go_wp2_with (first|((with_reducible refine gate_callee (f:=18) rfl ?_);refine goesL_ (some 81) rfl rfl Try.func18 xk' rfl #[.slice Ao76 t438.length co76, .slice Ao77 t399.length co77] rfl xl' ?_;(with_reducible refine (laws_eqIntS.calls kj62 _ _ t438 _ _ t399 true _ ?side1 ?side2 ?side3 ?side4 A74.out).mono ?_);(case side1=>repeat (first|exact (Kd.R_reads' HO440.out).2.2|(with_reducible refine ca' ?_ _)|(with_reducible refine cn' ?_ _)|(with_reducible refine cd' ?_)));(case side2=>exact (Kd.R_reads' HO440.out).2.1);(case side3=>repeat (first|exact (Kd.R_reads' HO_4.out).2.2|(with_reducible refine ca' ?_ _)|(with_reducible refine cn' ?_ _)|(with_reducible refine cd' ?_)));(case side4=>exact (Kd.R_reads' HO_4.out).2.1);rintro e w' ⟨rfl,⟨nd,rfl⟩⟩;refine ⟨_,rfl,?_⟩));go_meet
                   case rel=>exact ⟨_,((t441 != t402)),xs',H',⟨by have:=HJ2.out;have:=HJ11.out;have:=HJ31.out;have:=HJ35.out;have:=HJ43.out;have:=HJ54.out;have:=HJ58.out;have:=HJ62.out;first|omega|exact Nat.le_refl _⟩,⟨by (try simp only[hl411000_43]);(try simp only[hl411001_43]);(try simp only[hl7_58]);(with_reducible repeat (first|apply ra'|apply rn'|apply rw'));exact Kd.R_mono HO_7.out (fun _ hk=>⟨hk.1.1.1.1.2.1,⟨hk.1.1.1.1.2.2,⟨hk.1.1.1.2,hk.1.2⟩⟩⟩)⟩,⟨by (try simp only[hl411000_43]);(try simp only[hl411001_43]);(try simp only[hl7_58]);(with_reducible repeat (first|apply ra'|apply rn'|apply rw'));exact Kd.R_mono HO_411000.out (fun _ hk=>⟨hk.1.1.1.1.2.1,⟨hk.1.1.1.1.2.2.1,⟨hk.1.1.1.1.2.2.2,⟨hk.1.1.1.2,hk.1.2⟩⟩⟩⟩)⟩,⟨by (try simp only[hl411000_43]);(try simp only[hl411001_43]);(try simp only[hl7_58]);(with_reducible repeat (first|apply ra'|apply rn'|apply rw'));exact Kd.R_mono HO_411001.out (fun _ hk=>⟨hk.1.1.1.1,⟨hk.1.1.1.2,⟨hk.1.1.2,hk.2⟩⟩⟩)⟩,⟨by (try simp only[hl411000_43]);(try simp only[hl411001_43]);(try simp only[hl7_58]);(with_reducible repeat (first|refine kn' ?_ _|refine kd' ?_|refine ka' ?_ _));exact BK390.out⟩,⟨by (try simp only[hl411000_43]);(try simp only[hl411001_43]);(try simp only[hl7_58]);(with_reducible repeat (first|refine kn' ?_ _|refine kd' ?_|refine ka' ?_ _));exact BK410.out⟩,⟨by repeat (first|(with_reducible first|exact HB.out|apply ba'|apply bd'|apply be'|refine bs' ?_ GE390.out|refine bs' ?_ GE410.out)|exact HB.out)⟩⟩
                  ·
                   replace c75:=Bool.eq_false_iff.mpr c75;subst c75;have H1:(laws_FnExactNeededRowers.j8 kj62 t429 t428 true)=some r:=by rw[if_neg (show ¬ (false=true) by decide)] at H;exact H
                   clear H;have H:=H1;clear H1;have H':=am' H;clear H;obtain ⟨Ao78,co78,eo78⟩:=Kd.R_slice HO440.out;subst eo78;obtain ⟨Ao79,co79,eo79⟩:=Kd.R_slice HO_4.out;subst eo79;go_wp2_with (first|((with_reducible refine gate_callee (f:=18) rfl ?_);refine goesL_ (some 81) rfl rfl Try.func18 xk' rfl #[.slice Ao78 t438.length co78, .slice Ao79 t399.length co79] rfl xl' ?_;(with_reducible refine (laws_eqIntS.calls kj62 _ _ t438 _ _ t399 false _ ?side1 ?side2 ?side3 ?side4 A74.out).mono ?_);(case side1=>repeat (first|exact (Kd.R_reads' HO440.out).2.2|(with_reducible refine ca' ?_ _)|(with_reducible refine cn' ?_ _)|(with_reducible refine cd' ?_)));(case side2=>exact (Kd.R_reads' HO440.out).2.1);(case side3=>repeat (first|exact (Kd.R_reads' HO_4.out).2.2|(with_reducible refine ca' ?_ _)|(with_reducible refine cn' ?_ _)|(with_reducible refine cd' ?_)));(case side4=>exact (Kd.R_reads' HO_4.out).2.1);rintro e w' ⟨rfl,⟨nd,rfl⟩⟩;refine ⟨_,rfl,?_⟩));go_meet
                   case rel=>exact ⟨_,(true),xs',H',⟨by have:=HJ2.out;have:=HJ11.out;have:=HJ31.out;have:=HJ35.out;have:=HJ43.out;have:=HJ54.out;have:=HJ58.out;have:=HJ62.out;first|omega|exact Nat.le_refl _⟩,⟨by (try simp only[hl411000_43]);(try simp only[hl411001_43]);(try simp only[hl7_58]);(with_reducible repeat (first|apply ra'|apply rn'|apply rw'));exact Kd.R_mono HO_7.out (fun _ hk=>⟨hk.1.1.1.1.2.1,⟨hk.1.1.1.1.2.2,⟨hk.1.1.1.2,hk.1.2⟩⟩⟩)⟩,⟨by (try simp only[hl411000_43]);(try simp only[hl411001_43]);(try simp only[hl7_58]);(with_reducible repeat (first|apply ra'|apply rn'|apply rw'));exact Kd.R_mono HO_411000.out (fun _ hk=>⟨hk.1.1.1.1.2.1,⟨hk.1.1.1.1.2.2.1,⟨hk.1.1.1.1.2.2.2,⟨hk.1.1.1.2,hk.1.2⟩⟩⟩⟩)⟩,⟨by (try simp only[hl411000_43]);(try simp only[hl411001_43]);(try simp only[hl7_58]);(with_reducible repeat (first|apply ra'|apply rn'|apply rw'));exact Kd.R_mono HO_411001.out (fun _ hk=>⟨hk.1.1.1.1,⟨hk.1.1.1.2,⟨hk.1.1.2,hk.2⟩⟩⟩)⟩,⟨by (try simp only[hl411000_43]);(try simp only[hl411001_43]);(try simp only[hl7_58]);(with_reducible repeat (first|refine kn' ?_ _|refine kd' ?_|refine ka' ?_ _));exact BK390.out⟩,⟨by (try simp only[hl411000_43]);(try simp only[hl411001_43]);(try simp only[hl7_58]);(with_reducible repeat (first|refine kn' ?_ _|refine kd' ?_|refine ka' ?_ _));exact BK410.out⟩,⟨by repeat (first|(with_reducible first|exact HB.out|apply ba'|apply bd'|apply be'|refine bs' ?_ GE390.out|refine bs' ?_ GE410.out)|exact HB.out)⟩⟩
                 case rest =>
                  clear HC67;try clear c1
                  try clear c2
                  try clear p2
                  try clear c3
                  try clear c4
                  try clear c5
                  try clear c6
                  try clear c7
                  try clear c7b0
                  try clear c12
                  try clear c14
                  try clear c17
                  try clear c18
                  try clear c22
                  try clear c24
                  try clear c26
                  try clear c27
                  try clear c33
                  try clear c37
                  try clear c38
                  try clear c39
                  try clear c42
                  try clear c45
                  try clear c48
                  try clear c48b0
                  try clear c50
                  try clear c56
                  try clear c62
                  try clear c62b0
                  try clear c64
                  try clear c64b0
                  try clear c64b1
                  try clear c68
                  try clear c75
                  try clear hcz13_0
                  try clear hcz13_1
                  try clear hcz13_2
                  try clear hcz18_0
                  try clear hcz18_1
                  try clear hcz18_2
                  try clear hcz23_0
                  try clear hcz23_1
                  try clear hcz23_2
                  try clear hcz46_0
                  try clear hcz46_1
                  try clear hcz46_2
                  try clear hcz5_0
                  try clear hcz5_1
                  try clear hcz5_2
                  try clear hcz69_0
                  try clear hcz69_1
                  try clear hcz69_2
                  try clear hfz13_0
                  try clear hfz13_1
                  try clear hfz13_2
                  try clear hfz18_0
                  try clear hfz18_1
                  try clear hfz18_2
                  try clear hfz23_0
                  try clear hfz23_1
                  try clear hfz23_2
                  try clear hfz46_0
                  try clear hfz46_1
                  try clear hfz46_2
                  try clear hfz5_0
                  try clear hfz5_1
                  try clear hfz5_2
                  try clear hfz69_0
                  try clear hfz69_1
                  try clear hfz69_2
                  try clear p2
                  obtain ⟨kq,x87_66,rfl,HA,HJ66,HO_7,HO_411000,HO_411001,BK390,BK410,HB⟩:=hcut;cases kq with
                  | zero=>exact absurd HA.out (by simp[laws_FnExactNeededRowers.j8])
                  | succ kj66 =>
                   have H:=HA.out;clear HA;simp only[laws_FnExactNeededRowers.j8] at H;have HC80:=am' H;clear H;go_upto_if 87 with (fail)
                   go_cut [] (fun wc=>∃ (kq:Nat),Aside0 (laws_FnExactNeededRowers.j9 kq t429 t428=some r)∧Aside0 (kq≤kj66)∧Aside0 (Kd.R (Kd.int .i64) 3 wc w.heap.size (fun k_=>some k_≠((.slice Ao21 t425.length co21):Value).ownBlock∧¬ D447_ k_∧D448_ k_∧D449_ k_) (.slice Ao60 t429.length co60) t429)∧Aside0 (Kd.R (Kd.int .i64) 3 wc w.heap.size (fun k_=>some k_≠((.slice Ao60 t429.length co60):Value).ownBlock∧¬ D446_ k_∧D447_ k_∧D448_ k_∧D449_ k_) (.slice Ao21 t425.length co21) t425)∧Aside0 (Kd.R Kd.bool 4 wc w.heap.size (fun k_=>¬ D446_ k_∧D447_ k_∧D448_ k_∧D449_ k_) (.slice Ao24 t426.length co24) t426)∧Aside0 (wc.heap[gb390]? = some (.cells #[(.slice A0_0 l0_0.length c0_0),(.slice A0_1 l0_1.length c0_1), .int .i64 a0_2] 25 (0,0)))∧Aside0 (wc.heap[gb410]? = some (.cells #[(.slice Ao21 t425.length co21),(.slice Ao24 t426.length co24), .int .i64 t409] 29 (0,0)))∧Aside0 (Below w.heap.size w wc))
                   case first =>
                    have H:=HC80.out;clear HC80;by_cases c81:x87_66=true
                    ·
                     subst c81;have H1:(some false)=some r:=by rw[if_pos rfl] at H;exact H
                     clear H;have H:=H1;clear H1;obtain rfl:=Option.some.inj H;go_wp2;go_ret
                     exact ⟨by first|rfl|(simp[errW_none,errW_some] <;> rfl)|(simp[*,errW_none,errW_some] <;> rfl),by repeat (first|(with_reducible first|exact HB.out|apply ba'|apply bd'|apply be'|refine bs' ?_ GE390.out|refine bs' ?_ GE410.out)|exact HB.out)⟩
                    ·
                     replace c81:=Bool.eq_false_iff.mpr c81;subst c81;have H1:(laws_FnExactNeededRowers.j9 kj66 t429 t428)=some r:=by rw[if_neg (show ¬ (false=true) by decide)] at H;exact H
                     clear H;have H:=H1;clear H1;have H':=am' H;clear H;go_wp2;go_meet
                     case rel=>exact ⟨_,H',⟨by have:=HJ2.out;have:=HJ11.out;have:=HJ31.out;have:=HJ35.out;have:=HJ43.out;have:=HJ54.out;have:=HJ58.out;have:=HJ62.out;have:=HJ66.out;first|omega|exact Nat.le_refl _⟩,⟨by (try simp only[hl411000_43]);(try simp only[hl411001_43]);(try simp only[hl7_58]);(with_reducible repeat (first|apply ra'|apply rn'|apply rw'));exact HO_7.out⟩,⟨by (try simp only[hl411000_43]);(try simp only[hl411001_43]);(try simp only[hl7_58]);(with_reducible repeat (first|apply ra'|apply rn'|apply rw'));exact HO_411000.out⟩,⟨by (try simp only[hl411000_43]);(try simp only[hl411001_43]);(try simp only[hl7_58]);(with_reducible repeat (first|apply ra'|apply rn'|apply rw'));exact HO_411001.out⟩,⟨by (try simp only[hl411000_43]);(try simp only[hl411001_43]);(try simp only[hl7_58]);(with_reducible repeat (first|refine kn' ?_ _|refine kd' ?_|refine ka' ?_ _));exact BK390.out⟩,⟨by (try simp only[hl411000_43]);(try simp only[hl411001_43]);(try simp only[hl7_58]);(with_reducible repeat (first|refine kn' ?_ _|refine kd' ?_|refine ka' ?_ _));exact BK410.out⟩,⟨by repeat (first|(with_reducible first|exact HB.out|apply ba'|apply bd'|apply be'|refine bs' ?_ GE390.out|refine bs' ?_ GE410.out)|exact HB.out)⟩⟩
                   case rest =>
                    clear HC80;try clear c1
                    try clear c2
                    try clear p2
                    try clear c3
                    try clear c4
                    try clear c5
                    try clear c6
                    try clear c7
                    try clear c7b0
                    try clear c8
                    try clear c12
                    try clear c14
                    try clear c17
                    try clear c18
                    try clear c22
                    try clear c24
                    try clear c26
                    try clear c27
                    try clear c33
                    try clear c37
                    try clear c38
                    try clear c39
                    try clear c42
                    try clear c45
                    try clear c48
                    try clear c48b0
                    try clear c50
                    try clear c56
                    try clear c62
                    try clear c62b0
                    try clear c64
                    try clear c64b0
                    try clear c64b1
                    try clear c68
                    try clear c75
                    try clear c81
                    try clear hcz13_0
                    try clear hcz13_1
                    try clear hcz13_2
                    try clear hcz18_0
                    try clear hcz18_1
                    try clear hcz18_2
                    try clear hcz23_0
                    try clear hcz23_1
                    try clear hcz23_2
                    try clear hcz46_0
                    try clear hcz46_1
                    try clear hcz46_2
                    try clear hcz5_0
                    try clear hcz5_1
                    try clear hcz5_2
                    try clear hcz69_0
                    try clear hcz69_1
                    try clear hcz69_2
                    try clear hfz13_0
                    try clear hfz13_1
                    try clear hfz13_2
                    try clear hfz18_0
                    try clear hfz18_1
                    try clear hfz18_2
                    try clear hfz23_0
                    try clear hfz23_1
                    try clear hfz23_2
                    try clear hfz46_0
                    try clear hfz46_1
                    try clear hfz46_2
                    try clear hfz5_0
                    try clear hfz5_1
                    try clear hfz5_2
                    try clear hfz69_0
                    try clear hfz69_1
                    try clear hfz69_2
                    try clear p2
                    obtain ⟨kq,HA,HJ79,HO_7,HO_411000,HO_411001,BK390,BK410,HB⟩:=hcut;cases kq with
                    | zero=>exact absurd HA.out (by simp[laws_FnExactNeededRowers.j9])
                    | succ kj79 =>
                     have H:=HA.out;clear HA;simp only[laws_FnExactNeededRowers.j9] at H;replace H:=Option.bind_eq_some_iff.mp H;obtain ⟨t443,A820,H⟩:=H;replace H:(if t443 < 0 then (some false) else (if t443=t428 then (some true) else (some false)))=some r:=H;have A82:=am' A820;clear A820;by_cases c83:t443 < 0
                     ·
                      rw[if_pos c83] at H;have c83b0:decide (t443 < 0)=true:=decide_eq_true c83;clear c83;obtain rfl:=Option.some.inj H;go_wp2_with (first|((with_reducible refine gate_callee (f:=39) rfl ?_);refine goesL_ (some 90) rfl rfl Try.func39 xk' rfl #[.slice Ao60 t429.length co60, .int .i64 1] rfl xl' ?_;(with_reducible refine (laws_heldIntS.calls kj79 _ _ t429 1 t443 _ ?side1 ?side2 A82.out).mono ?_);(case side1=>repeat (first|exact (Kd.R_reads' HO_7.out).2.2|(with_reducible refine ca' ?_ _)|(with_reducible refine cn' ?_ _)|(with_reducible refine cd' ?_)));(case side2=>exact (Kd.R_reads' HO_7.out).2.1);rintro e w' ⟨rfl,⟨nd,rfl⟩⟩;refine ⟨_,rfl,?_⟩));go_ret
                      exact ⟨by first|rfl|(simp[errW_none,errW_some] <;> rfl)|(simp[*,errW_none,errW_some] <;> rfl),by repeat (first|(with_reducible first|exact HB.out|apply ba'|apply bd'|apply be'|refine bs' ?_ GE390.out|refine bs' ?_ GE410.out)|exact HB.out)⟩
                     ·
                      rw[if_neg c83] at H;have c83b0:decide (t443 < 0)=false:=decide_eq_false c83;clear c83;by_cases c84:t443=t428
                      ·
                       rw[if_pos c84] at H;have c84b0:(t443 == t428)=true:=beq_iff_eq.mpr c84;have c84b1:(t443 != t428)=false:=bne_eq_false_iff_eq.mpr c84;clear c84;obtain rfl:=Option.some.inj H;go_wp2_with (first|((with_reducible refine gate_callee (f:=39) rfl ?_);refine goesL_ (some 90) rfl rfl Try.func39 xk' rfl #[.slice Ao60 t429.length co60, .int .i64 1] rfl xl' ?_;(with_reducible refine (laws_heldIntS.calls kj79 _ _ t429 1 t443 _ ?side1 ?side2 A82.out).mono ?_);(case side1=>repeat (first|exact (Kd.R_reads' HO_7.out).2.2|(with_reducible refine ca' ?_ _)|(with_reducible refine cn' ?_ _)|(with_reducible refine cd' ?_)));(case side2=>exact (Kd.R_reads' HO_7.out).2.1);rintro e w' ⟨rfl,⟨nd,rfl⟩⟩;refine ⟨_,rfl,?_⟩));go_ret
                       exact ⟨by first|rfl|(simp[errW_none,errW_some] <;> rfl)|(simp[*,errW_none,errW_some] <;> rfl),by repeat (first|(with_reducible first|exact HB.out|apply ba'|apply bd'|apply be'|refine bs' ?_ GE390.out|refine bs' ?_ GE410.out)|exact HB.out)⟩
                      ·
                       rw[if_neg c84] at H;have c84b0:(t443 == t428)=false:=beq_eq_false_iff_ne.mpr c84;have c84b1:(t443 != t428)=true:=bne_iff_ne.mpr c84;obtain rfl:=Option.some.inj H;go_wp2_with (first|((with_reducible refine gate_callee (f:=39) rfl ?_);refine goesL_ (some 90) rfl rfl Try.func39 xk' rfl #[.slice Ao60 t429.length co60, .int .i64 1] rfl xl' ?_;(with_reducible refine (laws_heldIntS.calls kj79 _ _ t429 1 t443 _ ?side1 ?side2 A82.out).mono ?_);(case side1=>repeat (first|exact (Kd.R_reads' HO_7.out).2.2|(with_reducible refine ca' ?_ _)|(with_reducible refine cn' ?_ _)|(with_reducible refine cd' ?_)));(case side2=>exact (Kd.R_reads' HO_7.out).2.1);rintro e w' ⟨rfl,⟨nd,rfl⟩⟩;refine ⟨_,rfl,?_⟩));go_ret
                       exact ⟨by first|rfl|(simp[errW_none,errW_some] <;> rfl)|(simp[*,errW_none,errW_some] <;> rfl),by repeat (first|(with_reducible first|exact HB.out|apply ba'|apply bd'|apply be'|refine bs' ?_ GE390.out|refine bs' ?_ GE410.out)|exact HB.out)⟩
end Go.Proofs.Ytikjdmiohpdnaaa.C16
