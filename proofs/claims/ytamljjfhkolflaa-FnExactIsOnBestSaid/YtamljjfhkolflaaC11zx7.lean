import Derived.Test.YtamljjfhkolflaaC11zx0
import Derived.Test.YtamljjfhkolflaaC11zx5
import Derived.Test.YtamljjfhkolflaaC11zx6
import Derived.Test.YtamljjfhkolflaaC11zAl
namespace Go.Proofs.Ytamljjfhkolflaa.C11
open Go.RowKit Go.Proofs.YtamljjfhkolflaaW.PrintWords Go.Proofs.YtamljjfhkolflaaW.PrintLast Go.Proofs.YtamljjfhkolflaaW.PrintMore Go.Proofs.Ytamljjfhkolflaa.H
attribute [local go_sem] max2_int min2_int max_two min_two max_three min_three max_four min_four
set_option linter.unusedVariables false
set_option linter.unusedSimpArgs false
def spec_seOn.l0:Nat→List Int→List Int→List Int→Int→Int→List Int→Int→Option (List Int)
 | 0,_,_,_,_,_,_,_=>none
 | k+1,x4,x5,x16,x17,x18,x248000,x248001=>if x18 < x17 then (if 0≤x18 then (if x18 < (x16.length:Int) then (if (rd x16 x18) ≥ 0 then (if x18 < (x4.length:Int) then (if (rd x4 x18) ≥ 0 then ((spec_seLeast.f k x248000 x248001).bind fun t265=>(if (wrap64 ((rd x16 x18)+(rd x4 x18)))=t265 then (if x5.length < 17592186044416 then (spec_seOn.l0 k x4 (x5 ++ [x18]) x16 x17 (wrap64 (x18+1)) x248000 x248001) else (none)) else (spec_seOn.l0 k x4 x5 x16 x17 (wrap64 (x18+1)) x248000 x248001))) else (spec_seOn.l0 k x4 x5 x16 x17 (wrap64 (x18+1)) x248000 x248001)) else (none)) else (spec_seOn.l0 k x4 x5 x16 x17 (wrap64 (x18+1)) x248000 x248001)) else (none)) else (none)) else (some x5)
def spec_seOn.f (k:Nat) (l0_0:List Int) (a0_1:Int):Option (List Int):=(spec_paFirst.f l0_0 a0_1).bind fun bt248=>((spec_seFar.f k l0_0 a0_1 bt248.1 bt248.2).bind fun t252=>((spec_paLast.f k l0_0 a0_1).bind fun bt255=>((spec_seFar.f k l0_0 a0_1 bt255.1 bt255.2).bind fun t259=>(spec_seOn.l0 k t259 ([]:List Int) t252 (t252.length:Int) 0 l0_0 a0_1))))
def spec_seOn.T1:Bool × List (List Nat × List Nat):=(true,[([],[]),([],[]),([1],[1]),([0,2,2],[0,2]),([],[]),([],[]),([5,3],[5]),([4,6,6],[4,6]),([3,7,0,1,2,3],[3]),([7,8,0,1,2,3,4,5,6,7,8],[7])])
def spec_seOn.B1:List Nat:=[0,0,2,7,0,0,47,127,255,511]
theorem spec_seOn.tab1:rtab .any (opsOf Try.f72 1)=spec_seOn.T1:=by kernel_rfl
theorem spec_seOn.bits1:waitsOk spec_seOn.T1.2 spec_seOn.B1=true:=by kernel_rfl
def spec_seOn.T6:Bool × List (List Nat × List Nat):=(true,[([],[]),([0],[0]),([1],[1]),([2],[2]),([2],[2]),([3,4,2],[2,3,4]),([5,2],[2,5]),([6,2],[2,6]),([2,7],[2,7]),([8,2],[8]),([9],[9]),([9],[9]),([9],[9]),([11,12,9],[9,11,12]),([13,9],[9,13]),([10,14,9],[9,10,14]),([9],[9]),([16,9,9],[9,16]),([15,17,9],[9,15,17]),([9,18],[9,18])])
def spec_seOn.B6:List Nat:=[0,1,3,7,7,31,63,127,255,511,1023,1023,1023,7167,15359,32767,1023,66559,262143,524287]
theorem spec_seOn.tab6:rtab .any (opsOf Try.f72 6)=spec_seOn.T6:=by kernel_rfl
theorem spec_seOn.bits6:waitsOk spec_seOn.T6.2 spec_seOn.B6=true:=by kernel_rfl
set_option maxHeartbeats 8000000 in
set_option maxRecDepth 100000 in
theorem spec_seOn.calls (k:Nat) (A0_0:Option Addr) (c0_0:Nat) (l0_0:List Int) (a0_1:Int) (r:List Int) (w:World) (hr0_0:Kd.C (Kd.int .i64) w A0_0 l0_0.length l0_0) (hc0_0:l0_0.length≤c0_0) (h:spec_seOn.f k l0_0 a0_1=some r) :
  Calls Try.prog 72 #[.agg #[.slice A0_0 l0_0.length c0_0, .int .i64 a0_1]] w fun e w'=>∃ v0_:Value,e = .returned (v0_)∧Kd.R (Kd.int .i64) 3 w' w.heap.size (fun _=>True) v0_ r∧Below w.heap.size w w':=by
 have hu28:=Try.underlying28
 have HR0_0:=am' hr0_0
 have HC0_0:=am' hc0_0
 clear hr0_0 hc0_0;have HB:=am' (Below.refl w.heap.size w)
 have H:((spec_paFirst.f l0_0 a0_1).bind fun bt248=>((spec_seFar.f k l0_0 a0_1 bt248.1 bt248.2).bind fun t252=>((spec_paLast.f k l0_0 a0_1).bind fun bt255=>((spec_seFar.f k l0_0 a0_1 bt255.1 bt255.2).bind fun t259=>(spec_seOn.l0 k t259 ([]:List Int) t252 (t252.length:Int) 0 l0_0 a0_1)))))=some r:=h
 clear h;replace H:=Option.bind_eq_some_iff.mp H
 obtain ⟨⟨t248,t251⟩,A20,H⟩:=H
 replace H:((spec_seFar.f k l0_0 a0_1 t248 t251).bind fun t252=>((spec_paLast.f k l0_0 a0_1).bind fun bt255=>((spec_seFar.f k l0_0 a0_1 bt255.1 bt255.2).bind fun t259=>(spec_seOn.l0 k t259 ([]:List Int) t252 (t252.length:Int) 0 l0_0 a0_1))))=some r:=H
 have A2:=am' A20
 clear A20;replace H:=Option.bind_eq_some_iff.mp H
 obtain ⟨t252,A30,H⟩:=H
 replace H:((spec_paLast.f k l0_0 a0_1).bind fun bt255=>((spec_seFar.f k l0_0 a0_1 bt255.1 bt255.2).bind fun t259=>(spec_seOn.l0 k t259 ([]:List Int) t252 (t252.length:Int) 0 l0_0 a0_1)))=some r:=H
 have A3:=am' A30
 clear A30;replace H:=Option.bind_eq_some_iff.mp H
 obtain ⟨⟨t255,t258⟩,A40,H⟩:=H
 replace H:((spec_seFar.f k l0_0 a0_1 t255 t258).bind fun t259=>(spec_seOn.l0 k t259 ([]:List Int) t252 (t252.length:Int) 0 l0_0 a0_1))=some r:=H
 have A4:=am' A40
 clear A40;replace H:=Option.bind_eq_some_iff.mp H
 obtain ⟨t259,A50,H⟩:=H
 replace H:(spec_seOn.l0 k t259 ([]:List Int) t252 (t252.length:Int) 0 l0_0 a0_1)=some r:=H
 have A5:=am' A50
 clear A50;have H':=am' H
 clear H;go_enter Try.func72,Try.ntmps72
 try go_wp2_with (first|((with_reducible refine gate_dst (N:=1) rfl ?_);refine box_event ?hg (N:=1) ?hd (cs:=#[.slice A0_0 l0_0.length c0_0, .int .i64 a0_1]) (t:=28) ?hr ?_;(case hd=>rfl);(case hg=>rfl);(case hr=>first|(go_simp;done)|(go_simp;rfl));intro gb247 hg w6 hbox hb;have n0_:=am' (below_step (by repeat (first|(with_reducible first|exact HB.out|apply ba'|apply bd'|apply be')|exact HB.out)) hb);have n1_:=am' (hbox);have n2_:=am' ((by rw[hg];exact (below_size (by repeat (first|(with_reducible first|exact HB.out|apply ba'|apply bd'|apply be')|exact HB.out))):w.heap.size≤gb247));have n3_:=am' ((by rw[hg];exact (below_size (by repeat (first|(with_reducible first|exact HB.out|apply ba'|apply bd'|apply be')|exact HB.out))):w.heap.size≤gb247));clear HB;have HB:=n0_;have BK247:=n1_;have GW247:=n2_;have GE247:=n3_;clear n0_ n1_ n2_ n3_;clear hb hbox hg))
 have n0_:=am' (kd' BK247.out)
 have n1_:=am' (be' HB.out)
 clear BK247;clear HB;have BK247:=n0_;have HB:=n1_;clear n0_ n1_;refine start_ (n:=10) (S:=fun w'=>w'.cell? ⟨gb247,0,none⟩=some (.slice A0_0 l0_0.length c0_0)∧w'.cell? ⟨gb247,1,none⟩=some (.int .i64 a0_1)) (ds:=[]) #[false,false,false,false,false,false,false,false,false,false] (by kernel_rfl) rfl rfl ⟨(blk_cell BK247.out 0).trans rfl,(blk_cell BK247.out 1).trans rfl⟩ (fun hHeld=>?_);refine with_tabW spec_seOn.tab1 spec_seOn.bits1 (fun HT_ HW_=>?_)
 generalize w6.drew=w7 at BK247 HB hHeld ⊢
 refine take_ (i:=0) (N:=some 8) (v:=?_) (a':=?_) #[true,false,false,false,false,false,false,false,false,false] rfl rfl (take_ofW HT_.out HW_.out (by kernel_rfl)) (fun _ _ _ h=>h) (Or.inl ⟨by rfl,?_⟩) hHeld ?_ ?_
 rotate_left
 ·
  rintro w' ⟨s0,s1⟩
  go_simp;with_reducible rfl
 rotate_left
 ·
  simp only[Act.put,sa',sb',sc',i64_w,i32_w];rfl
 refine take_ (i:=1) (N:=some 9) (v:=?_) (a':=?_) #[true,true,false,false,false,false,false,false,false,false] rfl rfl (take_ofW HT_.out HW_.out (by kernel_rfl)) (fun _ _ _ h=>h) (Or.inl ⟨by rfl,?_⟩) hHeld ?_ ?_
 rotate_left
 ·
  rintro w' ⟨s0,s1⟩
  go_simp;with_reducible rfl
 rotate_left
 ·
  simp only[Act.put,sa',sb',sc',i64_w,i32_w];rfl
 refine take_ (i:=4) (N:=some 12) (v:=?_) (a':=?_) #[true,true,false,false,true,false,false,false,false,false] rfl rfl (take_ofW HT_.out HW_.out (by kernel_rfl)) (fun _ _ _ h=>h) (Or.inl ⟨by rfl,?_⟩) hHeld ?_ ?_
 rotate_left
 ·
  rintro w' ⟨s0,s1⟩
  go_simp;with_reducible rfl
 rotate_left
 ·
  simp only[Act.put,sa',sb',sc',i64_w,i32_w];rfl
 refine take_ (i:=5) (N:=some 13) (v:=?_) (a':=?_) #[true,true,false,false,true,true,false,false,false,false] rfl rfl (take_ofW HT_.out HW_.out (by kernel_rfl)) (fun _ _ _ h=>h) (Or.inl ⟨by rfl,?_⟩) hHeld ?_ ?_
 rotate_left
 ·
  rintro w' ⟨s0,s1⟩
  go_simp;with_reducible rfl
 rotate_left
 ·
  simp only[Act.put,sa',sb',sc',i64_w,i32_w];rfl
 refine one_ (i:=2) (N:=some 10) #[true,true,true,false,true,true,false,false,false,false] rfl rfl (one_of HT_.out (by kernel_rfl)) (by decide) (fun K hK=>?_)
 refine goes_ Try.func62 (by kernel_rfl) rfl #[.agg #[.slice A0_0 l0_0.length c0_0, .int .i64 a0_1]] (by rfl) rfl rfl (by (try simp only[List.map_toArray,List.map_cons,List.map_nil]);first|done|rfl|(simp only[List.length_drop,List.length_take];rfl)) ?_
 with_reducible refine (spec_paFirst.calls _ _ l0_0 a0_1 t248 t251 _ ?side1 ?side2 A2.out).mono ?_
 (case side1=>repeat (first|exact (Kd.C_below HR0_0.out HB.out)|(with_reducible refine ca' ?_ _)|(with_reducible refine cn' ?_ _)|(with_reducible refine cd' ?_)))
 (case side2=>exact HC0_0.out)
 rintro e w8 ⟨v249,rfl,ho0,hb⟩
 refine ⟨_,rfl,?_⟩
 have n0_:=am' (Kd.R_lower ho0 (below_size (by repeat (first|(with_reducible first|exact HB.out|apply ba'|apply bd'|apply be'|refine bs' ?_ GE247.out)|exact HB.out))))
 have n1_:=am' (blk_below (g:=gb247) (o := .cells #[.slice A0_0 l0_0.length c0_0, .int .i64 a0_1] 28 (0,0)) (by (with_reducible repeat (first|refine kn' ?_ _|refine kd' ?_|refine ka' ?_ _));exact BK247.out) hb)
 have n2_:=am' (below_step (by repeat (first|(with_reducible first|exact HB.out|apply ba'|apply bd'|apply be'|refine bs' ?_ GE247.out)|exact HB.out)) hb)
 clear BK247;clear HB;have HO250:=n0_;have BK247:=n1_;have HB:=n2_;clear n0_ n1_ n2_;(try clear hb)
 (try clear hb2)
 (try clear hk)
 (try clear hi)
 (try clear ho0)
 obtain ⟨Ao9,co9,eo9⟩:=Kd.R_slice HO250.out
 (first|subst eo9|(injection eo9 with f1_ f2_ f3_;have f4_:=f1_.symm;have f5_:=f3_.symm;clear f1_ f2_ f3_;subst f4_;subst f5_))
 refine hK.out _ _ ⟨(blk_cell BK247.out 0).trans rfl,(blk_cell BK247.out 1).trans rfl⟩ (fun hHeld=>?_)
 clear hK K;refine norm_ (a':=?_) ?_ ?_
 rotate_left
 ·
  show Act.put _ (some 10) _=_
  simp only[Act.put,sa',sb',sc',i64_w,i32_w];rfl
 refine one_ (i:=3) (N:=some 11) #[true,true,true,true,true,true,false,false,false,false] rfl rfl (one_of HT_.out (by kernel_rfl)) (by decide) (fun K hK=>?_)
 refine goes_ Try.func61 (by kernel_rfl) rfl #[.agg #[.slice A0_0 l0_0.length c0_0, .int .i64 a0_1], .agg #[.slice Ao9 t248.length co9, .bool t251]] (by rfl) rfl rfl (by (try simp only[List.map_toArray,List.map_cons,List.map_nil]);first|done|rfl|(simp only[List.length_drop,List.length_take];rfl)) ?_
 with_reducible refine (spec_seFar.calls k _ _ l0_0 a0_1 _ _ t248 t251 t252 _ ?side1 ?side2 ?side3 ?side4 A3.out).mono ?_
 (case side1=>repeat (first|exact (Kd.C_below HR0_0.out HB.out)|(with_reducible refine ca' ?_ _)|(with_reducible refine cn' ?_ _)|(with_reducible refine cd' ?_)))
 (case side2=>exact HC0_0.out)
 (case side3=>repeat (first|exact (Kd.R_reads' HO250.out).2.2|(with_reducible refine ca' ?_ _)|(with_reducible refine cn' ?_ _)|(with_reducible refine cd' ?_)))
 (case side4=>exact (Kd.R_reads' HO250.out).2.1)
 rintro e w10 ⟨v253,rfl,ho0,hb⟩
 refine ⟨_,rfl,?_⟩
 have n0_:=am' (Kd.R_below (by (with_reducible repeat (first|apply ra'|apply rn'|apply rw'));exact HO250.out) hb)
 have n1_:=am' (Kd.R_lower ho0 (below_size (by repeat (first|(with_reducible first|exact HB.out|apply ba'|apply bd'|apply be'|refine bs' ?_ GE247.out)|exact HB.out))))
 have n2_:=am' (blk_below (g:=gb247) (o := .cells #[.slice A0_0 l0_0.length c0_0, .int .i64 a0_1] 28 (0,0)) (by (with_reducible repeat (first|refine kn' ?_ _|refine kd' ?_|refine ka' ?_ _));exact BK247.out) hb)
 have n3_:=am' (below_step (by repeat (first|(with_reducible first|exact HB.out|apply ba'|apply bd'|apply be'|refine bs' ?_ GE247.out)|exact HB.out)) hb)
 clear HO250;clear BK247;clear HB;have HO250:=n0_;have HO254:=n1_;have BK247:=n2_;have HB:=n3_;clear n0_ n1_ n2_ n3_;(try clear hb)
 (try clear hb2)
 (try clear hk)
 (try clear hi)
 (try clear ho0)
 refine hK.out _ _ ⟨(blk_cell BK247.out 0).trans rfl,(blk_cell BK247.out 1).trans rfl⟩ (fun hHeld=>?_)
 clear hK K;refine norm_ (a':=?_) ?_ ?_
 rotate_left
 ·
  show Act.put _ (some 11) _=_
  simp only[Act.put,sa',sb',sc',i64_w,i32_w];rfl
 refine one_ (i:=6) (N:=some 14) #[true,true,true,true,true,true,true,false,false,false] rfl rfl (one_of HT_.out (by kernel_rfl)) (by decide) (fun K hK=>?_)
 refine goes_ Try.func83 (by kernel_rfl) rfl #[.agg #[.slice A0_0 l0_0.length c0_0, .int .i64 a0_1]] (by rfl) rfl rfl (by (try simp only[List.map_toArray,List.map_cons,List.map_nil]);first|done|rfl|(simp only[List.length_drop,List.length_take];rfl)) ?_
 with_reducible refine (spec_paLast.calls k _ _ l0_0 a0_1 t255 t258 _ ?side1 ?side2 A4.out).mono ?_
 (case side1=>repeat (first|exact (Kd.C_below HR0_0.out HB.out)|(with_reducible refine ca' ?_ _)|(with_reducible refine cn' ?_ _)|(with_reducible refine cd' ?_)))
 (case side2=>exact HC0_0.out)
 rintro e w11 ⟨v256,rfl,ho0,hb⟩
 refine ⟨_,rfl,?_⟩
 have n0_:=am' (Kd.R_elder' (by (with_reducible repeat (first|apply ra'|apply rn'|apply rw'));exact HO250.out) (Kd.R_base ho0) hb)
 have n1_:=am' (Kd.R_below (by (with_reducible repeat (first|apply ra'|apply rn'|apply rw'));exact HO254.out) hb)
 have n2_:=am' (Kd.R_lower (Kd.R_new' ho0 (Kd.R_lt (by (with_reducible repeat (first|apply ra'|apply rn'|apply rw'));exact HO250.out))) (below_size (by repeat (first|(with_reducible first|exact HB.out|apply ba'|apply bd'|apply be'|refine bs' ?_ GE247.out)|exact HB.out))))
 have n3_:=am' (blk_below (g:=gb247) (o := .cells #[.slice A0_0 l0_0.length c0_0, .int .i64 a0_1] 28 (0,0)) (by (with_reducible repeat (first|refine kn' ?_ _|refine kd' ?_|refine ka' ?_ _));exact BK247.out) hb)
 have n4_:=am' (below_step (by repeat (first|(with_reducible first|exact HB.out|apply ba'|apply bd'|apply be'|refine bs' ?_ GE247.out)|exact HB.out)) hb)
 clear HO250;clear HO254;clear BK247;clear HB;have HO250:=n0_;have HO254:=n1_;have HO257:=n2_;have BK247:=n3_;have HB:=n4_;clear n0_ n1_ n2_ n3_ n4_;(try clear hb)
 (try clear hb2)
 (try clear hk)
 (try clear hi)
 (try clear ho0)
 obtain ⟨Ao12,co12,eo12⟩:=Kd.R_slice HO257.out
 (first|subst eo12|(injection eo12 with f1_ f2_ f3_;have f4_:=f1_.symm;have f5_:=f3_.symm;clear f1_ f2_ f3_;subst f4_;subst f5_))
 refine hK.out _ _ ⟨(blk_cell BK247.out 0).trans rfl,(blk_cell BK247.out 1).trans rfl⟩ (fun hHeld=>?_)
 clear hK K;refine norm_ (a':=?_) ?_ ?_
 rotate_left
 ·
  show Act.put _ (some 14) _=_
  simp only[Act.put,sa',sb',sc',i64_w,i32_w];rfl
 refine one_ (i:=7) (N:=some 15) #[true,true,true,true,true,true,true,true,false,false] rfl rfl (one_of HT_.out (by kernel_rfl)) (by decide) (fun K hK=>?_)
 refine goes_ Try.func61 (by kernel_rfl) rfl #[.agg #[.slice A0_0 l0_0.length c0_0, .int .i64 a0_1], .agg #[.slice Ao12 t255.length co12, .bool t258]] (by rfl) rfl rfl (by (try simp only[List.map_toArray,List.map_cons,List.map_nil]);first|done|rfl|(simp only[List.length_drop,List.length_take];rfl)) ?_
 with_reducible refine (spec_seFar.calls k _ _ l0_0 a0_1 _ _ t255 t258 t259 _ ?side1 ?side2 ?side3 ?side4 A5.out).mono ?_
 (case side1=>repeat (first|exact (Kd.C_below HR0_0.out HB.out)|(with_reducible refine ca' ?_ _)|(with_reducible refine cn' ?_ _)|(with_reducible refine cd' ?_)))
 (case side2=>exact HC0_0.out)
 (case side3=>repeat (first|exact (Kd.R_reads' HO257.out).2.2|(with_reducible refine ca' ?_ _)|(with_reducible refine cn' ?_ _)|(with_reducible refine cd' ?_)))
 (case side4=>exact (Kd.R_reads' HO257.out).2.1)
 rintro e w13 ⟨v260,rfl,ho0,hb⟩
 refine ⟨_,rfl,?_⟩
 have n0_:=am' (Kd.R_below (by (with_reducible repeat (first|apply ra'|apply rn'|apply rw'));exact HO250.out) hb)
 have n1_:=am' (Kd.R_elder' (by (with_reducible repeat (first|apply ra'|apply rn'|apply rw'));exact HO254.out) (Kd.R_base ho0) hb)
 have n2_:=am' (Kd.R_below (by (with_reducible repeat (first|apply ra'|apply rn'|apply rw'));exact HO257.out) hb)
 have n3_:=am' (Kd.R_lower (Kd.R_new' ho0 (Kd.R_lt (by (with_reducible repeat (first|apply ra'|apply rn'|apply rw'));exact HO254.out))) (below_size (by repeat (first|(with_reducible first|exact HB.out|apply ba'|apply bd'|apply be'|refine bs' ?_ GE247.out)|exact HB.out))))
 have n4_:=am' (blk_below (g:=gb247) (o := .cells #[.slice A0_0 l0_0.length c0_0, .int .i64 a0_1] 28 (0,0)) (by (with_reducible repeat (first|refine kn' ?_ _|refine kd' ?_|refine ka' ?_ _));exact BK247.out) hb)
 have n5_:=am' (below_step (by repeat (first|(with_reducible first|exact HB.out|apply ba'|apply bd'|apply be'|refine bs' ?_ GE247.out)|exact HB.out)) hb)
 clear HO250;clear HO254;clear HO257;clear BK247;clear HB;have HO250:=n0_;have HO254:=n1_;have HO257:=n2_;have HO261:=n3_;have BK247:=n4_;have HB:=n5_;clear n0_ n1_ n2_ n3_ n4_ n5_;(try clear hb)
 (try clear hb2)
 (try clear hk)
 (try clear hi)
 (try clear ho0)
 refine hK.out _ _ ⟨(blk_cell BK247.out 0).trans rfl,(blk_cell BK247.out 1).trans rfl⟩ (fun hHeld=>?_)
 clear hK K;refine norm_ (a':=?_) ?_ ?_
 rotate_left
 ·
  show Act.put _ (some 15) _=_
  simp only[Act.put,sa',sb',sc',i64_w,i32_w];rfl
 refine pure_ (i:=8) (N:=some 3) (v:=?_) (a':=?_) #[true,true,true,true,true,true,true,true,true,false] rfl rfl (any_of HT_.out (by kernel_rfl)) (fun _ _ _ h=>h) (Or.inl ⟨by rfl,?_⟩) ?_ ?_
 rotate_left
 ·
  intro w';go_simp;with_reducible rfl
 rotate_left
 ·
  simp only[Act.put,sa',sb',sc',i64_w,i32_w];rfl
 refine pure_ (i:=9) (N:=some 4) (v:=?_) (a':=?_) #[true,true,true,true,true,true,true,true,true,true] rfl rfl (any_of HT_.out (by kernel_rfl)) (fun _ _ _ h=>h) (Or.inl ⟨by rfl,?_⟩) ?_ ?_
 rotate_left
 ·
  intro w';go_simp;with_reducible rfl
 rotate_left
 ·
  simp only[Act.put,sa',sb',sc',i64_w,i32_w];rfl
 refine done_ (done_of HT_.out (by kernel_rfl)) ?_
 obtain ⟨Ao14,co14,eo14⟩:=Kd.R_slice HO254.out
 subst eo14;try go_wp2
 go_loopg [5,18] k (fun kq v5 v18 w'=>∃ (x5_1:List Int) (x18_1:Int),v18 = .int .i64 x18_1∧Aside0 (spec_seOn.l0 kq t259 x5_1 t252 (t252.length:Int) x18_1 l0_0 a0_1=some r)∧Aside0 (kq≤k)∧Aside0 (Kd.R (Kd.int .i64) 3 w' w.heap.size (fun k_=>some k_≠(v5:Value).ownBlock∧some k_≠((.slice Ao14 t252.length co14):Value).ownBlock) v260 t259)∧Aside0 (Kd.R (Kd.int .i64) 3 w' w.heap.size (fun k_=>some k_≠(v260:Value).ownBlock∧some k_≠((.slice Ao14 t252.length co14):Value).ownBlock) v5 x5_1)∧Aside0 (Kd.R (Kd.int .i64) 3 w' w.heap.size (fun k_=>some k_≠(v260:Value).ownBlock∧some k_≠(v5:Value).ownBlock) (.slice Ao14 t252.length co14) t252)∧Aside0 (w'.heap[gb247]? = some (.cells #[(.slice A0_0 l0_0.length c0_0), .int .i64 a0_1] 28 (0,0)))∧Aside0 (Below w.heap.size w w'))
 case atStart=>exact ⟨(([]:List Int)),(0),(by first|rfl|(simp;done)|(simp[*];done)),H',⟨Nat.le_refl _⟩,⟨by (with_reducible repeat (first|apply ra'|apply rn'|apply rw'));exact Kd.R_mono HO261.out (fun _ hk=>⟨(by simp[Value.ownBlock]),hk.2⟩)⟩,⟨by first|exact Kd.R_nil _ _ _ _ _|exact Kd.N_nil _ _ _ _ _|exact Kd.V_nil _ _ _ _ _|exact Kd.Q_nil _ _ _ _ _|exact Kd.S_nil _ _ _ _ _⟩,⟨by (with_reducible repeat (first|apply ra'|apply rn'|apply rw'));exact Kd.R_mono HO254.out (fun _ hk=>⟨hk.2,(by simp[Value.ownBlock])⟩)⟩,⟨by (with_reducible repeat (first|refine kn' ?_ _|refine kd' ?_|refine ka' ?_ _));exact BK247.out⟩,⟨by repeat (first|(with_reducible first|exact HB.out|apply ba'|apply bd'|apply be'|refine bs' ?_ GE247.out)|exact HB.out)⟩⟩
 case round =>
  clear H';try clear p2
  try clear c6
  try clear c7
  try clear c8
  obtain ⟨x5_1,x18_1,rfl,HA,HK1,HO_4,HO_5,HO_16,BK247,HB⟩:=hrel;cases gk with
  | zero=>exact absurd HA.out (by simp[spec_seOn.l0])
  | succ k1 =>
   have H:=HA.out;clear HA;simp only[spec_seOn.l0] at H;by_cases c15:x18_1 < (t252.length:Int)
   ·
    rw[if_pos c15] at H;have c15b0:decide (x18_1 < (t252.length:Int))=true:=decide_eq_true c15;clear c15;by_cases c16:0≤x18_1
    ·
     rw[if_pos c16] at H;have c16b0:decide (0≤x18_1)=true:=decide_eq_true c16;clear c16;by_cases c17:x18_1 < (t252.length:Int)
     ·
      rw[if_pos c17] at H;have c17b0:decide (x18_1 < (t252.length:Int))=true:=decide_eq_true c17;clear c17;by_cases c18:(rd t252 x18_1) ≥ 0
      ·
       rw[if_pos c18] at H;have c18b0:decide (0≤(rd t252 x18_1))=true:=decide_eq_true c18;clear c18;by_cases c19:x18_1 < (t259.length:Int)
       ·
        rw[if_pos c19] at H;have c19b0:decide (x18_1 < (t259.length:Int))=true:=decide_eq_true c19;clear c19;by_cases c20:(rd t259 x18_1) ≥ 0
        ·
         rw[if_pos c20] at H;have c20b0:decide (0≤(rd t259 x18_1))=true:=decide_eq_true c20;clear c20;replace H:=Option.bind_eq_some_iff.mp H;obtain ⟨t265,A210,H⟩:=H;replace H:(if (wrap64 ((rd t252 x18_1)+(rd t259 x18_1)))=t265 then (if x5_1.length < 17592186044416 then (spec_seOn.l0 k1 t259 (x5_1 ++ [x18_1]) t252 (t252.length:Int) (wrap64 (x18_1+1)) l0_0 a0_1) else (none)) else (spec_seOn.l0 k1 t259 x5_1 t252 (t252.length:Int) (wrap64 (x18_1+1)) l0_0 a0_1))=some r:=H;have A21:=am' A210;clear A210;by_cases c22:(wrap64 ((rd t252 x18_1)+(rd t259 x18_1)))=t265
         ·
          rw[if_pos c22] at H;have c22b0:((wrap64 ((rd t252 x18_1)+(rd t259 x18_1))) == t265)=true:=beq_iff_eq.mpr c22;have c22b1:((wrap64 ((rd t252 x18_1)+(rd t259 x18_1))) != t265)=false:=bne_eq_false_iff_eq.mpr c22;clear c22;by_cases c23:x5_1.length < 17592186044416
          ·
           rw[if_pos c23] at H;have LMc23:=am' c23;clear c23;obtain ⟨y266,hy266⟩:∃ y_:List Int,y_=(x5_1 ++ [x18_1]):=⟨_,rfl⟩
           replace H:(spec_seOn.l0 k1 t259 y266 t252 (t252.length:Int) (wrap64 (x18_1+1)) l0_0 a0_1)=some r:=by first|(rw[hy266];with_reducible exact H)|(have H2_:=(Option.bind_some _ _).symm.trans H;rw[hy266];with_reducible exact H2_)|(have H2_:=(Option.bind_some _ _).symm.trans H;with_reducible exact H2_)|with_reducible exact H|(rw[hy266];exact H)|exact H
           have Ny266:=am' hy266;clear hy266;have H':=am' H;clear H;have p262:0≤(x18_1:Int):=of_decide_eq_true (by first|(with_reducible assumption)|assumption);have q262:x18_1 < (t252.length:Int):=of_decide_eq_true (by first|(with_reducible assumption)|assumption);obtain ⟨ad262,e262,hx262_0⟩:=Kd.at_int (Kd.R_reads' HO_16.out).2.2 x18_1 p262 q262;cases e262;replace p262:=eq_true p262;replace q262:=eq_true q262
           try go_wp2
           have n0_:=am' (rw' HO_4.out);have n1_:=am' (rw' HO_5.out);have n2_:=am' (rw' HO_16.out);have n3_:=am' (kd' BK247.out);have n4_:=am' (be' HB.out);clear HO_4;clear HO_5;clear HO_16;clear BK247;clear HB;have HO_4:=n0_;have HO_5:=n1_;have HO_16:=n2_;have BK247:=n3_;have HB:=n4_;clear n0_ n1_ n2_ n3_ n4_;obtain ⟨Ao25,co25,eo25⟩:=Kd.R_slice HO_4.out
           (first|subst eo25|(injection eo25 with f1_ f2_ f3_;have f4_:=f1_.symm;have f5_:=f3_.symm;clear f1_ f2_ f3_;subst f4_;subst f5_))
           have p263:0≤(x18_1:Int):=of_decide_eq_true (by first|(with_reducible assumption)|assumption);have q263:x18_1 < (t259.length:Int):=of_decide_eq_true (by first|(with_reducible assumption)|assumption);obtain ⟨ad263,e263,hx263_0⟩:=Kd.at_int (Kd.R_reads' HO_4.out).2.2 x18_1 p263 q263;cases e263;replace p263:=eq_true p263;replace q263:=eq_true q263;have p264:0≤(x18_1:Int):=of_decide_eq_true (by first|(with_reducible assumption)|assumption);have q264:x18_1 < (t259.length:Int):=of_decide_eq_true (by first|(with_reducible assumption)|assumption);obtain ⟨ad264,e264,hx264_0⟩:=Kd.at_int (Kd.R_reads' HO_4.out).2.2 x18_1 p264 q264;obtain rfl:ad263=ad264:=(by injection e264)
           replace p264:=eq_true p264;replace q264:=eq_true q264;refine start_ (n:=20) (S:=fun w'=>w'.cell? ⟨gb247,0,none⟩=some (.slice A0_0 l0_0.length c0_0)∧w'.cell? ⟨gb247,1,none⟩=some (.int .i64 a0_1)∧w'.cell? (ad263.add (x18_1).toNat)=some (.int .i64 (rd t259 x18_1))∧w'.cell? (ad263.add (x18_1).toNat)=some (.int .i64 (rd t259 x18_1))) (ds:=[]) #[false,false,false,false,false,false,false,false,false,false,false,false,false,false,false,false,false,false,false,false] (by kernel_rfl) rfl rfl ⟨(blk_cell BK247.out 0).trans rfl,(blk_cell BK247.out 1).trans rfl,hx263_0,hx264_0⟩ (fun hHeld=>?_);refine with_tabW spec_seOn.tab6 spec_seOn.bits6 (fun HT_ HW_=>?_);generalize wr.drew=w24 at HO_4 HO_5 HO_16 BK247 HB hx263_0 hx264_0 hHeld ⊢
           refine pure_ (i:=0) (N:=some 23) (v:=?_) (a':=?_) #[true,false,false,false,false,false,false,false,false,false,false,false,false,false,false,false,false,false,false,false] rfl rfl (any_of HT_.out (by kernel_rfl)) (fun _ _ _ h=>h) (Or.inl ⟨by rfl,?_⟩) ?_ ?_
           rotate_left
           ·
            intro w';go_simp;with_reducible rfl
           rotate_left
           ·
            simp only[Act.put,sa',sb',sc',i64_w,i32_w];rfl
           refine pure_ (i:=1) (N:=some 24) (v:=?_) (a':=?_) #[true,true,false,false,false,false,false,false,false,false,false,false,false,false,false,false,false,false,false,false] rfl rfl (any_of HT_.out (by kernel_rfl)) (fun _ _ _ h=>h) (Or.inl ⟨by rfl,?_⟩) ?_ ?_
           rotate_left
           ·
            intro w';go_simp;with_reducible rfl
           rotate_left
           ·
            simp only[Act.put,sa',sb',sc',i64_w,i32_w];rfl
           refine pure_ (i:=2) (N:=some 25) (v:=?_) (a':=?_) #[true,true,true,false,false,false,false,false,false,false,false,false,false,false,false,false,false,false,false,false] rfl rfl (any_of HT_.out (by kernel_rfl)) (fun _ _ _ h=>h) (Or.inl ⟨by rfl,?_⟩) ?_ ?_
           rotate_left
           ·
            intro w';go_simp;with_reducible rfl
           rotate_left
           ·
            simp only[Act.put,sa',sb',sc',i64_w,i32_w];rfl
           refine pure_ (i:=3) (N:=some 26) (v:=?_) (a':=?_) #[true,true,true,true,false,false,false,false,false,false,false,false,false,false,false,false,false,false,false,false] rfl rfl (any_of HT_.out (by kernel_rfl)) (fun _ _ _ h=>h) (Or.inl ⟨by rfl,?_⟩) ?_ ?_
           rotate_left
           ·
            intro w';go_simp;with_reducible rfl
           rotate_left
           ·
            simp only[Act.put,sa',sb',sc',i64_w,i32_w];rfl
           refine pure_ (i:=4) (N:=some 27) (v:=?_) (a':=?_) #[true,true,true,true,true,false,false,false,false,false,false,false,false,false,false,false,false,false,false,false] rfl rfl (any_of HT_.out (by kernel_rfl)) (fun _ _ _ h=>h) (Or.inl ⟨by rfl,?_⟩) ?_ ?_
           rotate_left
           ·
            intro w';go_simp;with_reducible rfl
           rotate_left
           ·
            simp only[Act.put,sa',sb',sc',i64_w,i32_w];rfl
           refine pure_ (i:=5) (N:=some 28) (v:=?_) (a':=?_) #[true,true,true,true,true,true,false,false,false,false,false,false,false,false,false,false,false,false,false,false] rfl rfl (any_of HT_.out (by kernel_rfl)) (fun _ _ _ h=>h) (Or.inl ⟨by rfl,?_⟩) ?_ ?_
           rotate_left
           ·
            intro w';go_simp;with_reducible rfl
           rotate_left
           ·
            simp only[Act.put,sa',sb',sc',i64_w,i32_w];rfl
           refine take_ (i:=6) (N:=some 29) (v:=?_) (a':=?_) #[true,true,true,true,true,true,true,false,false,false,false,false,false,false,false,false,false,false,false,false] rfl rfl (take_ofW HT_.out HW_.out (by kernel_rfl)) (fun _ _ _ h=>h) (Or.inl ⟨by rfl,?_⟩) hHeld ?_ ?_
           rotate_left
           ·
            rintro w' ⟨s0,s1,s2,s3⟩
            go_simp;with_reducible rfl
           rotate_left
           ·
            simp only[Act.put,sa',sb',sc',i64_w,i32_w];rfl
           refine pure_ (i:=7) (N:=some 30) (v:=?_) (a':=?_) #[true,true,true,true,true,true,true,true,false,false,false,false,false,false,false,false,false,false,false,false] rfl rfl (any_of HT_.out (by kernel_rfl)) (fun _ _ _ h=>h) (Or.inl ⟨by rfl,?_⟩) ?_ ?_
           rotate_left
           ·
            intro w';go_simp;with_reducible rfl
           rotate_left
           ·
            simp only[Act.put,sa',sb',sc',i64_w,i32_w];rfl
           refine pure_ (i:=8) (N:=some 31) (v:=?_) (a':=?_) #[true,true,true,true,true,true,true,true,true,false,false,false,false,false,false,false,false,false,false,false] rfl rfl (any_of HT_.out (by kernel_rfl)) (fun _ _ _ h=>h) (Or.inl ⟨by rfl,?_⟩) ?_ ?_
           rotate_left
           ·
            intro w';go_simp;with_reducible rfl
           rotate_left
           ·
            simp only[Act.put,sa',sb',sc',i64_w,i32_w];rfl
           refine pure_ (i:=9) (N:=some 32) (v:=?_) (a':=?_) #[true,true,true,true,true,true,true,true,true,true,false,false,false,false,false,false,false,false,false,false] rfl rfl (any_of HT_.out (by kernel_rfl)) (fun _ _ _ h=>h) (Or.inl ⟨by rfl,?_⟩) ?_ ?_
           rotate_left
           ·
            intro w';go_simp;with_reducible rfl
           rotate_left
           ·
            simp only[Act.put,sa',sb',sc',i64_w,i32_w];rfl
           refine pure_ (i:=10) (N:=some 33) (v:=?_) (a':=?_) #[true,true,true,true,true,true,true,true,true,true,true,false,false,false,false,false,false,false,false,false] rfl rfl (any_of HT_.out (by kernel_rfl)) (fun _ _ _ h=>h) (Or.inl ⟨by rfl,?_⟩) ?_ ?_
           rotate_left
           ·
            intro w';go_simp;with_reducible rfl
           rotate_left
           ·
            simp only[Act.put,sa',sb',sc',i64_w,i32_w];rfl
           refine pure_ (i:=11) (N:=some 34) (v:=?_) (a':=?_) #[true,true,true,true,true,true,true,true,true,true,true,true,false,false,false,false,false,false,false,false] rfl rfl (any_of HT_.out (by kernel_rfl)) (fun _ _ _ h=>h) (Or.inl ⟨by rfl,?_⟩) ?_ ?_
           rotate_left
           ·
            intro w';go_simp;with_reducible rfl
           rotate_left
           ·
            simp only[Act.put,sa',sb',sc',i64_w,i32_w];rfl
           refine pure_ (i:=12) (N:=some 35) (v:=?_) (a':=?_) #[true,true,true,true,true,true,true,true,true,true,true,true,true,false,false,false,false,false,false,false] rfl rfl (any_of HT_.out (by kernel_rfl)) (fun _ _ _ h=>h) (Or.inl ⟨by rfl,?_⟩) ?_ ?_
           rotate_left
           ·
            intro w';go_simp;with_reducible rfl
           rotate_left
           ·
            simp only[Act.put,sa',sb',sc',i64_w,i32_w];rfl
           refine pure_ (i:=13) (N:=some 36) (v:=?_) (a':=?_) #[true,true,true,true,true,true,true,true,true,true,true,true,true,true,false,false,false,false,false,false] rfl rfl (any_of HT_.out (by kernel_rfl)) (fun _ _ _ h=>h) (Or.inl ⟨by rfl,?_⟩) ?_ ?_
           rotate_left
           ·
            intro w';go_simp;with_reducible rfl
           rotate_left
           ·
            simp only[Act.put,sa',sb',sc',i64_w,i32_w];rfl
           refine take_ (i:=14) (N:=some 37) (v:=?_) (a':=?_) #[true,true,true,true,true,true,true,true,true,true,true,true,true,true,true,false,false,false,false,false] rfl rfl (take_ofW HT_.out HW_.out (by kernel_rfl)) (fun _ _ _ h=>h) (Or.inl ⟨by rfl,?_⟩) hHeld ?_ ?_
           rotate_left
           ·
            rintro w' ⟨s0,s1,s2,s3⟩
            go_simp;with_reducible rfl
           rotate_left
           ·
            simp only[Act.put,sa',sb',sc',i64_w,i32_w];rfl
           refine pure_ (i:=15) (N:=some 38) (v:=?_) (a':=?_) #[true,true,true,true,true,true,true,true,true,true,true,true,true,true,true,true,false,false,false,false] rfl rfl (any_of HT_.out (by kernel_rfl)) (fun _ _ _ h=>h) (Or.inl ⟨by rfl,?_⟩) ?_ ?_
           rotate_left
           ·
            intro w';go_simp;with_reducible rfl
           rotate_left
           ·
            simp only[Act.put,sa',sb',sc',i64_w,i32_w];rfl
           refine take_ (i:=16) (N:=some 39) (v:=?_) (a':=?_) #[true,true,true,true,true,true,true,true,true,true,true,true,true,true,true,true,true,false,false,false] rfl rfl (take_ofW HT_.out HW_.out (by kernel_rfl)) (fun _ _ _ h=>h) (Or.inl ⟨by rfl,?_⟩) hHeld ?_ ?_
           rotate_left
           ·
            rintro w' ⟨s0,s1,s2,s3⟩
            go_simp;with_reducible rfl
           rotate_left
           ·
            simp only[Act.put,sa',sb',sc',i64_w,i32_w];rfl
           refine one_ (i:=17) (N:=some 40) #[true,true,true,true,true,true,true,true,true,true,true,true,true,true,true,true,true,true,false,false] rfl rfl (one_of HT_.out (by kernel_rfl)) (by decide) (fun K hK=>?_);refine goes_ Try.func69 (by kernel_rfl) rfl #[.agg #[.slice A0_0 l0_0.length c0_0, .int .i64 a0_1]] (by rfl) rfl rfl (by (try simp only[List.map_toArray,List.map_cons,List.map_nil]);first|done|rfl|(simp only[List.length_drop,List.length_take];rfl)) ?_
           with_reducible refine (spec_seLeast.calls k1 _ _ l0_0 a0_1 t265 _ ?side1 ?side2 A21.out).mono ?_
           (case side1=>repeat (first|exact (Kd.C_below HR0_0.out HB.out)|(with_reducible refine ca' ?_ _)|(with_reducible refine cn' ?_ _)|(with_reducible refine cd' ?_)))
           (case side2=>exact HC0_0.out)
           rintro e w26 ⟨rfl,hb⟩
           have HS2_:=(hb.cell (bl' _ _ (hHeld.2.2.1))).trans (hHeld.2.2.1);have HS3_:=(hb.cell (bl' _ _ (hHeld.2.2.2))).trans (hHeld.2.2.2);refine ⟨_,rfl,?_⟩;have n0_:=am' (Kd.R_below (by (with_reducible repeat (first|apply ra'|apply rn'|apply rw'));exact HO_4.out) hb);have n1_:=am' (Kd.R_below (by (with_reducible repeat (first|apply ra'|apply rn'|apply rw'));exact HO_5.out) hb);have n2_:=am' (Kd.R_below (by (with_reducible repeat (first|apply ra'|apply rn'|apply rw'));exact HO_16.out) hb);have n3_:=am' (blk_below (g:=gb247) (o := .cells #[.slice A0_0 l0_0.length c0_0, .int .i64 a0_1] 28 (0,0)) (by (with_reducible repeat (first|refine kn' ?_ _|refine kd' ?_|refine ka' ?_ _));exact BK247.out) hb);have n4_:=am' (below_step (by repeat (first|(with_reducible first|exact HB.out|apply ba'|apply bd'|apply be'|refine bs' ?_ GE247.out)|exact HB.out)) hb);clear HO_4;clear HO_5;clear HO_16;clear BK247;clear HB;have HO_4:=n0_;have HO_5:=n1_;have HO_16:=n2_;have BK247:=n3_;have HB:=n4_;clear n0_ n1_ n2_ n3_ n4_;(try clear hb)
           (try clear hb2)
           (try clear hk)
           (try clear hi)
           refine hK.out _ _ ⟨(blk_cell BK247.out 0).trans rfl,(blk_cell BK247.out 1).trans rfl,HS2_,HS3_⟩ (fun hHeld=>?_);clear hK K;refine norm_ (a':=?_) ?_ ?_
           rotate_left
           ·
            show Act.put _ (some 40) _=_
            simp only[Act.put,sa',sb',sc',i64_w,i32_w];rfl
           refine pure_ (i:=18) (N:=some 41) (v:=?_) (a':=?_) #[true,true,true,true,true,true,true,true,true,true,true,true,true,true,true,true,true,true,true,false] rfl rfl (any_of HT_.out (by kernel_rfl)) (fun _ _ _ h=>h) (Or.inl ⟨by rfl,?_⟩) ?_ ?_
           rotate_left
           ·
            intro w';go_simp;with_reducible rfl
           rotate_left
           ·
            simp only[Act.put,sa',sb',sc',i64_w,i32_w];rfl
           refine pure_ (i:=19) (N:=some 42) (v:=?_) (a':=?_) #[true,true,true,true,true,true,true,true,true,true,true,true,true,true,true,true,true,true,true,true] rfl rfl (any_of HT_.out (by kernel_rfl)) (fun _ _ _ h=>h) (Or.inl ⟨by rfl,?_⟩) ?_ ?_
           rotate_left
           ·
            intro w';go_simp;with_reducible rfl
           rotate_left
           ·
            simp only[Act.put,sa',sb',sc',i64_w,i32_w];rfl
           refine done_ (done_of HT_.out (by kernel_rfl)) ?_
           try go_wp2_with (first|((with_reducible refine gate_builtin (b := .append) (xs:=#[.tmp 43, .tmp 45]) rfl ?_);at_builtin;refine Kd.R_append (Kd.int .i64) (w0:=w) w.heap.size rfl (.tmp 43) (.tmp 45) 22 3 (.int .i64 0) 8 rfl Try.underlying22 info3 rfl (by decide) (by omega) u5 x5_1 x18_1 [.int .i64 x18_1] (fun k_=>some k_≠(.slice (some ad263) t259.length co25:Value).ownBlock∧some k_≠(.slice (some ad262) t252.length co14:Value).ownBlock) (fun _=>False) rfl rfl ?aP (fun _ hk=>hk.elim) ?aF ?aO ?aB ?aS ?aL ?_;(case aP=>exact rfl);(case aB=>exact (by repeat (first|(with_reducible first|exact HB.out|apply ba'|apply bd'|apply be'|refine bs' ?_ GE247.out)|exact HB.out)));(case aF=>exact (fun k_ hk=>⟨Kd.fresh' (Kd.R_lt (by (with_reducible repeat (first|apply ra'|apply rn'|apply rw'));exact HO_4.out)) k_ hk,Kd.fresh' (Kd.R_lt (by (with_reducible repeat (first|apply ra'|apply rn'|apply rw'));exact HO_16.out)) k_ hk⟩));(case aO=>exact (by (with_reducible repeat (first|apply ra'|apply rn'|apply rw'));exact HO_5.out));(case aS=>exact (below_size (by repeat (first|(with_reducible first|exact HB.out|apply ba'|apply bd'|apply be'|refine bs' ?_ GE247.out)|exact HB.out))));(case aL=>have:=LMc23.out;omega);intro v267 w27 ho hb hg hat;rw[← Ny266.out] at ho;have n0_:=am' (Kd.R_after (ok:=(fun k_=>some k_≠(.slice (some ad262) t252.length co14:Value).ownBlock)) (by (with_reducible repeat (first|apply ra'|apply rn'|apply rw'));exact Kd.R_mono HO_4.out (fun _ hk=>⟨hk.2,hk.1⟩)) hg hat);have n1_:=am' (Kd.R_after (ok:=(fun k_=>some k_≠(.slice (some ad263) t259.length co25:Value).ownBlock)) (by (with_reducible repeat (first|apply ra'|apply rn'|apply rw'));exact HO_16.out) hg hat);have n2_:=am' (blk_grown (g:=gb247) (o := .cells #[.slice A0_0 l0_0.length c0_0, .int .i64 a0_1] 28 (0,0)) (by (with_reducible repeat (first|refine kn' ?_ _|refine kd' ?_|refine ka' ?_ _));exact BK247.out) hg (Kd.R_ne HO_5.out BK247.out (by decide)));have n3_:=am' (hb);have n4_:=am' (ho);clear HO_4;clear HO_16;clear BK247;clear HB;clear HO_5;have HO_4:=n0_;have HO_16:=n1_;have BK247:=n2_;have HB:=n3_;have HO268:=n4_;clear n0_ n1_ n2_ n3_ n4_;clear ho hb hg hat))
           go_roundg k1
           case measure=>have:=HK1.out;omega
           case rel=>exact ⟨(y266),(wrap64 (x18_1+1)),(by first|rfl|(simp;done)|(simp[*];done)),H',⟨by have:=HK1.out;omega⟩,⟨by (with_reducible repeat (first|apply ra'|apply rn'|apply rw'));exact Kd.R_mono HO_4.out (fun _ hk=>⟨hk.2,hk.1⟩)⟩,⟨by (with_reducible repeat (first|apply ra'|apply rn'|apply rw'));exact HO268.out⟩,⟨by (with_reducible repeat (first|apply ra'|apply rn'|apply rw'));exact HO_16.out⟩,⟨by (with_reducible repeat (first|refine kn' ?_ _|refine kd' ?_|refine ka' ?_ _));exact BK247.out⟩,⟨by repeat (first|(with_reducible first|exact HB.out|apply ba'|apply bd'|apply be'|refine bs' ?_ GE247.out)|exact HB.out)⟩⟩
          ·
           rw[if_neg c23] at H;exact absurd H (by simp)
         ·
          rw[if_neg c22] at H;have c22b0:((wrap64 ((rd t252 x18_1)+(rd t259 x18_1))) == t265)=false:=beq_eq_false_iff_ne.mpr c22;have c22b1:((wrap64 ((rd t252 x18_1)+(rd t259 x18_1))) != t265)=true:=bne_iff_ne.mpr c22;have H':=am' H;clear H;have p262:0≤(x18_1:Int):=of_decide_eq_true (by first|(with_reducible assumption)|assumption);have q262:x18_1 < (t252.length:Int):=of_decide_eq_true (by first|(with_reducible assumption)|assumption);obtain ⟨ad262,e262,hx262_0⟩:=Kd.at_int (Kd.R_reads' HO_16.out).2.2 x18_1 p262 q262;cases e262;replace p262:=eq_true p262;replace q262:=eq_true q262
          try go_wp2
          have n0_:=am' (rw' HO_4.out);have n1_:=am' (rw' HO_5.out);have n2_:=am' (rw' HO_16.out);have n3_:=am' (kd' BK247.out);have n4_:=am' (be' HB.out);clear HO_4;clear HO_5;clear HO_16;clear BK247;clear HB;have HO_4:=n0_;have HO_5:=n1_;have HO_16:=n2_;have BK247:=n3_;have HB:=n4_;clear n0_ n1_ n2_ n3_ n4_;obtain ⟨Ao29,co29,eo29⟩:=Kd.R_slice HO_4.out
          (first|subst eo29|(injection eo29 with f1_ f2_ f3_;have f4_:=f1_.symm;have f5_:=f3_.symm;clear f1_ f2_ f3_;subst f4_;subst f5_))
          have p263:0≤(x18_1:Int):=of_decide_eq_true (by first|(with_reducible assumption)|assumption);have q263:x18_1 < (t259.length:Int):=of_decide_eq_true (by first|(with_reducible assumption)|assumption);obtain ⟨ad263,e263,hx263_0⟩:=Kd.at_int (Kd.R_reads' HO_4.out).2.2 x18_1 p263 q263;cases e263;replace p263:=eq_true p263;replace q263:=eq_true q263;have p264:0≤(x18_1:Int):=of_decide_eq_true (by first|(with_reducible assumption)|assumption);have q264:x18_1 < (t259.length:Int):=of_decide_eq_true (by first|(with_reducible assumption)|assumption);obtain ⟨ad264,e264,hx264_0⟩:=Kd.at_int (Kd.R_reads' HO_4.out).2.2 x18_1 p264 q264;obtain rfl:ad263=ad264:=(by injection e264)
          replace p264:=eq_true p264;replace q264:=eq_true q264;refine start_ (n:=20) (S:=fun w'=>w'.cell? ⟨gb247,0,none⟩=some (.slice A0_0 l0_0.length c0_0)∧w'.cell? ⟨gb247,1,none⟩=some (.int .i64 a0_1)∧w'.cell? (ad263.add (x18_1).toNat)=some (.int .i64 (rd t259 x18_1))∧w'.cell? (ad263.add (x18_1).toNat)=some (.int .i64 (rd t259 x18_1))) (ds:=[]) #[false,false,false,false,false,false,false,false,false,false,false,false,false,false,false,false,false,false,false,false] (by kernel_rfl) rfl rfl ⟨(blk_cell BK247.out 0).trans rfl,(blk_cell BK247.out 1).trans rfl,hx263_0,hx264_0⟩ (fun hHeld=>?_);refine with_tabW spec_seOn.tab6 spec_seOn.bits6 (fun HT_ HW_=>?_);generalize wr.drew=w28 at HO_4 HO_5 HO_16 BK247 HB hx263_0 hx264_0 hHeld ⊢
          refine pure_ (i:=0) (N:=some 23) (v:=?_) (a':=?_) #[true,false,false,false,false,false,false,false,false,false,false,false,false,false,false,false,false,false,false,false] rfl rfl (any_of HT_.out (by kernel_rfl)) (fun _ _ _ h=>h) (Or.inl ⟨by rfl,?_⟩) ?_ ?_
          rotate_left
          ·
           intro w';go_simp;with_reducible rfl
          rotate_left
          ·
           simp only[Act.put,sa',sb',sc',i64_w,i32_w];rfl
          refine pure_ (i:=1) (N:=some 24) (v:=?_) (a':=?_) #[true,true,false,false,false,false,false,false,false,false,false,false,false,false,false,false,false,false,false,false] rfl rfl (any_of HT_.out (by kernel_rfl)) (fun _ _ _ h=>h) (Or.inl ⟨by rfl,?_⟩) ?_ ?_
          rotate_left
          ·
           intro w';go_simp;with_reducible rfl
          rotate_left
          ·
           simp only[Act.put,sa',sb',sc',i64_w,i32_w];rfl
          refine pure_ (i:=2) (N:=some 25) (v:=?_) (a':=?_) #[true,true,true,false,false,false,false,false,false,false,false,false,false,false,false,false,false,false,false,false] rfl rfl (any_of HT_.out (by kernel_rfl)) (fun _ _ _ h=>h) (Or.inl ⟨by rfl,?_⟩) ?_ ?_
          rotate_left
          ·
           intro w';go_simp;with_reducible rfl
          rotate_left
          ·
           simp only[Act.put,sa',sb',sc',i64_w,i32_w];rfl
          refine pure_ (i:=3) (N:=some 26) (v:=?_) (a':=?_) #[true,true,true,true,false,false,false,false,false,false,false,false,false,false,false,false,false,false,false,false] rfl rfl (any_of HT_.out (by kernel_rfl)) (fun _ _ _ h=>h) (Or.inl ⟨by rfl,?_⟩) ?_ ?_
          rotate_left
          ·
           intro w';go_simp;with_reducible rfl
          rotate_left
          ·
           simp only[Act.put,sa',sb',sc',i64_w,i32_w];rfl
          refine pure_ (i:=4) (N:=some 27) (v:=?_) (a':=?_) #[true,true,true,true,true,false,false,false,false,false,false,false,false,false,false,false,false,false,false,false] rfl rfl (any_of HT_.out (by kernel_rfl)) (fun _ _ _ h=>h) (Or.inl ⟨by rfl,?_⟩) ?_ ?_
          rotate_left
          ·
           intro w';go_simp;with_reducible rfl
          rotate_left
          ·
           simp only[Act.put,sa',sb',sc',i64_w,i32_w];rfl
          refine pure_ (i:=5) (N:=some 28) (v:=?_) (a':=?_) #[true,true,true,true,true,true,false,false,false,false,false,false,false,false,false,false,false,false,false,false] rfl rfl (any_of HT_.out (by kernel_rfl)) (fun _ _ _ h=>h) (Or.inl ⟨by rfl,?_⟩) ?_ ?_
          rotate_left
          ·
           intro w';go_simp;with_reducible rfl
          rotate_left
          ·
           simp only[Act.put,sa',sb',sc',i64_w,i32_w];rfl
          refine take_ (i:=6) (N:=some 29) (v:=?_) (a':=?_) #[true,true,true,true,true,true,true,false,false,false,false,false,false,false,false,false,false,false,false,false] rfl rfl (take_ofW HT_.out HW_.out (by kernel_rfl)) (fun _ _ _ h=>h) (Or.inl ⟨by rfl,?_⟩) hHeld ?_ ?_
          rotate_left
          ·
           rintro w' ⟨s0,s1,s2,s3⟩
           go_simp;with_reducible rfl
          rotate_left
          ·
           simp only[Act.put,sa',sb',sc',i64_w,i32_w];rfl
          refine pure_ (i:=7) (N:=some 30) (v:=?_) (a':=?_) #[true,true,true,true,true,true,true,true,false,false,false,false,false,false,false,false,false,false,false,false] rfl rfl (any_of HT_.out (by kernel_rfl)) (fun _ _ _ h=>h) (Or.inl ⟨by rfl,?_⟩) ?_ ?_
          rotate_left
          ·
           intro w';go_simp;with_reducible rfl
          rotate_left
          ·
           simp only[Act.put,sa',sb',sc',i64_w,i32_w];rfl
          refine pure_ (i:=8) (N:=some 31) (v:=?_) (a':=?_) #[true,true,true,true,true,true,true,true,true,false,false,false,false,false,false,false,false,false,false,false] rfl rfl (any_of HT_.out (by kernel_rfl)) (fun _ _ _ h=>h) (Or.inl ⟨by rfl,?_⟩) ?_ ?_
          rotate_left
          ·
           intro w';go_simp;with_reducible rfl
          rotate_left
          ·
           simp only[Act.put,sa',sb',sc',i64_w,i32_w];rfl
          refine pure_ (i:=9) (N:=some 32) (v:=?_) (a':=?_) #[true,true,true,true,true,true,true,true,true,true,false,false,false,false,false,false,false,false,false,false] rfl rfl (any_of HT_.out (by kernel_rfl)) (fun _ _ _ h=>h) (Or.inl ⟨by rfl,?_⟩) ?_ ?_
          rotate_left
          ·
           intro w';go_simp;with_reducible rfl
          rotate_left
          ·
           simp only[Act.put,sa',sb',sc',i64_w,i32_w];rfl
          refine pure_ (i:=10) (N:=some 33) (v:=?_) (a':=?_) #[true,true,true,true,true,true,true,true,true,true,true,false,false,false,false,false,false,false,false,false] rfl rfl (any_of HT_.out (by kernel_rfl)) (fun _ _ _ h=>h) (Or.inl ⟨by rfl,?_⟩) ?_ ?_
          rotate_left
          ·
           intro w';go_simp;with_reducible rfl
          rotate_left
          ·
           simp only[Act.put,sa',sb',sc',i64_w,i32_w];rfl
          refine pure_ (i:=11) (N:=some 34) (v:=?_) (a':=?_) #[true,true,true,true,true,true,true,true,true,true,true,true,false,false,false,false,false,false,false,false] rfl rfl (any_of HT_.out (by kernel_rfl)) (fun _ _ _ h=>h) (Or.inl ⟨by rfl,?_⟩) ?_ ?_
          rotate_left
          ·
           intro w';go_simp;with_reducible rfl
          rotate_left
          ·
           simp only[Act.put,sa',sb',sc',i64_w,i32_w];rfl
          refine pure_ (i:=12) (N:=some 35) (v:=?_) (a':=?_) #[true,true,true,true,true,true,true,true,true,true,true,true,true,false,false,false,false,false,false,false] rfl rfl (any_of HT_.out (by kernel_rfl)) (fun _ _ _ h=>h) (Or.inl ⟨by rfl,?_⟩) ?_ ?_
          rotate_left
          ·
           intro w';go_simp;with_reducible rfl
          rotate_left
          ·
           simp only[Act.put,sa',sb',sc',i64_w,i32_w];rfl
          refine pure_ (i:=13) (N:=some 36) (v:=?_) (a':=?_) #[true,true,true,true,true,true,true,true,true,true,true,true,true,true,false,false,false,false,false,false] rfl rfl (any_of HT_.out (by kernel_rfl)) (fun _ _ _ h=>h) (Or.inl ⟨by rfl,?_⟩) ?_ ?_
          rotate_left
          ·
           intro w';go_simp;with_reducible rfl
          rotate_left
          ·
           simp only[Act.put,sa',sb',sc',i64_w,i32_w];rfl
          refine take_ (i:=14) (N:=some 37) (v:=?_) (a':=?_) #[true,true,true,true,true,true,true,true,true,true,true,true,true,true,true,false,false,false,false,false] rfl rfl (take_ofW HT_.out HW_.out (by kernel_rfl)) (fun _ _ _ h=>h) (Or.inl ⟨by rfl,?_⟩) hHeld ?_ ?_
          rotate_left
          ·
           rintro w' ⟨s0,s1,s2,s3⟩
           go_simp;with_reducible rfl
          rotate_left
          ·
           simp only[Act.put,sa',sb',sc',i64_w,i32_w];rfl
          refine pure_ (i:=15) (N:=some 38) (v:=?_) (a':=?_) #[true,true,true,true,true,true,true,true,true,true,true,true,true,true,true,true,false,false,false,false] rfl rfl (any_of HT_.out (by kernel_rfl)) (fun _ _ _ h=>h) (Or.inl ⟨by rfl,?_⟩) ?_ ?_
          rotate_left
          ·
           intro w';go_simp;with_reducible rfl
          rotate_left
          ·
           simp only[Act.put,sa',sb',sc',i64_w,i32_w];rfl
          refine take_ (i:=16) (N:=some 39) (v:=?_) (a':=?_) #[true,true,true,true,true,true,true,true,true,true,true,true,true,true,true,true,true,false,false,false] rfl rfl (take_ofW HT_.out HW_.out (by kernel_rfl)) (fun _ _ _ h=>h) (Or.inl ⟨by rfl,?_⟩) hHeld ?_ ?_
          rotate_left
          ·
           rintro w' ⟨s0,s1,s2,s3⟩
           go_simp;with_reducible rfl
          rotate_left
          ·
           simp only[Act.put,sa',sb',sc',i64_w,i32_w];rfl
          refine one_ (i:=17) (N:=some 40) #[true,true,true,true,true,true,true,true,true,true,true,true,true,true,true,true,true,true,false,false] rfl rfl (one_of HT_.out (by kernel_rfl)) (by decide) (fun K hK=>?_);refine goes_ Try.func69 (by kernel_rfl) rfl #[.agg #[.slice A0_0 l0_0.length c0_0, .int .i64 a0_1]] (by rfl) rfl rfl (by (try simp only[List.map_toArray,List.map_cons,List.map_nil]);first|done|rfl|(simp only[List.length_drop,List.length_take];rfl)) ?_
          with_reducible refine (spec_seLeast.calls k1 _ _ l0_0 a0_1 t265 _ ?side1 ?side2 A21.out).mono ?_
          (case side1=>repeat (first|exact (Kd.C_below HR0_0.out HB.out)|(with_reducible refine ca' ?_ _)|(with_reducible refine cn' ?_ _)|(with_reducible refine cd' ?_)))
          (case side2=>exact HC0_0.out)
          rintro e w30 ⟨rfl,hb⟩
          have HS2_:=(hb.cell (bl' _ _ (hHeld.2.2.1))).trans (hHeld.2.2.1);have HS3_:=(hb.cell (bl' _ _ (hHeld.2.2.2))).trans (hHeld.2.2.2);refine ⟨_,rfl,?_⟩;have n0_:=am' (Kd.R_below (by (with_reducible repeat (first|apply ra'|apply rn'|apply rw'));exact HO_4.out) hb);have n1_:=am' (Kd.R_below (by (with_reducible repeat (first|apply ra'|apply rn'|apply rw'));exact HO_5.out) hb);have n2_:=am' (Kd.R_below (by (with_reducible repeat (first|apply ra'|apply rn'|apply rw'));exact HO_16.out) hb);have n3_:=am' (blk_below (g:=gb247) (o := .cells #[.slice A0_0 l0_0.length c0_0, .int .i64 a0_1] 28 (0,0)) (by (with_reducible repeat (first|refine kn' ?_ _|refine kd' ?_|refine ka' ?_ _));exact BK247.out) hb);have n4_:=am' (below_step (by repeat (first|(with_reducible first|exact HB.out|apply ba'|apply bd'|apply be'|refine bs' ?_ GE247.out)|exact HB.out)) hb);clear HO_4;clear HO_5;clear HO_16;clear BK247;clear HB;have HO_4:=n0_;have HO_5:=n1_;have HO_16:=n2_;have BK247:=n3_;have HB:=n4_;clear n0_ n1_ n2_ n3_ n4_;(try clear hb)
          (try clear hb2)
          (try clear hk)
          (try clear hi)
          refine hK.out _ _ ⟨(blk_cell BK247.out 0).trans rfl,(blk_cell BK247.out 1).trans rfl,HS2_,HS3_⟩ (fun hHeld=>?_);clear hK K;refine norm_ (a':=?_) ?_ ?_
          rotate_left
          ·
           show Act.put _ (some 40) _=_
           simp only[Act.put,sa',sb',sc',i64_w,i32_w];rfl
          refine pure_ (i:=18) (N:=some 41) (v:=?_) (a':=?_) #[true,true,true,true,true,true,true,true,true,true,true,true,true,true,true,true,true,true,true,false] rfl rfl (any_of HT_.out (by kernel_rfl)) (fun _ _ _ h=>h) (Or.inl ⟨by rfl,?_⟩) ?_ ?_
          rotate_left
          ·
           intro w';go_simp;with_reducible rfl
          rotate_left
          ·
           simp only[Act.put,sa',sb',sc',i64_w,i32_w];rfl
          refine pure_ (i:=19) (N:=some 42) (v:=?_) (a':=?_) #[true,true,true,true,true,true,true,true,true,true,true,true,true,true,true,true,true,true,true,true] rfl rfl (any_of HT_.out (by kernel_rfl)) (fun _ _ _ h=>h) (Or.inl ⟨by rfl,?_⟩) ?_ ?_
          rotate_left
          ·
           intro w';go_simp;with_reducible rfl
          rotate_left
          ·
           simp only[Act.put,sa',sb',sc',i64_w,i32_w];rfl
          refine done_ (done_of HT_.out (by kernel_rfl)) ?_
          try go_wp2
          go_roundg k1
          case measure=>have:=HK1.out;omega
          case rel=>exact ⟨(x5_1),(wrap64 (x18_1+1)),(by first|rfl|(simp;done)|(simp[*];done)),H',⟨by have:=HK1.out;omega⟩,⟨by (with_reducible repeat (first|apply ra'|apply rn'|apply rw'));exact HO_4.out⟩,⟨by (with_reducible repeat (first|apply ra'|apply rn'|apply rw'));exact HO_5.out⟩,⟨by (with_reducible repeat (first|apply ra'|apply rn'|apply rw'));exact HO_16.out⟩,⟨by (with_reducible repeat (first|refine kn' ?_ _|refine kd' ?_|refine ka' ?_ _));exact BK247.out⟩,⟨by repeat (first|(with_reducible first|exact HB.out|apply ba'|apply bd'|apply be'|refine bs' ?_ GE247.out)|exact HB.out)⟩⟩
        ·
         rw[if_neg c20] at H;have c20b0:decide (0≤(rd t259 x18_1))=false:=decide_eq_false c20;clear c20;have H':=am' H;clear H;have p262:0≤(x18_1:Int):=of_decide_eq_true (by first|(with_reducible assumption)|assumption);have q262:x18_1 < (t252.length:Int):=of_decide_eq_true (by first|(with_reducible assumption)|assumption);obtain ⟨ad262,e262,hx262_0⟩:=Kd.at_int (Kd.R_reads' HO_16.out).2.2 x18_1 p262 q262;cases e262;replace p262:=eq_true p262;replace q262:=eq_true q262
         try go_wp2
         have n0_:=am' (rw' HO_4.out);have n1_:=am' (rw' HO_5.out);have n2_:=am' (rw' HO_16.out);have n3_:=am' (kd' BK247.out);have n4_:=am' (be' HB.out);clear HO_4;clear HO_5;clear HO_16;clear BK247;clear HB;have HO_4:=n0_;have HO_5:=n1_;have HO_16:=n2_;have BK247:=n3_;have HB:=n4_;clear n0_ n1_ n2_ n3_ n4_;obtain ⟨Ao32,co32,eo32⟩:=Kd.R_slice HO_4.out
         (first|subst eo32|(injection eo32 with f1_ f2_ f3_;have f4_:=f1_.symm;have f5_:=f3_.symm;clear f1_ f2_ f3_;subst f4_;subst f5_))
         have p263:0≤(x18_1:Int):=of_decide_eq_true (by first|(with_reducible assumption)|assumption);have q263:x18_1 < (t259.length:Int):=of_decide_eq_true (by first|(with_reducible assumption)|assumption);obtain ⟨ad263,e263,hx263_0⟩:=Kd.at_int (Kd.R_reads' HO_4.out).2.2 x18_1 p263 q263;cases e263;replace p263:=eq_true p263;replace q263:=eq_true q263;refine start_ (n:=20) (S:=fun w'=>w'.cell? (ad263.add (x18_1).toNat)=some (.int .i64 (rd t259 x18_1))) (ds:=[]) #[false,false,false,false,false,false,false,false,false,false,false,false,false,false,false,false,false,false,false,false] (by kernel_rfl) rfl rfl (hx263_0) (fun hHeld=>?_);refine with_tabW spec_seOn.tab6 spec_seOn.bits6 (fun HT_ HW_=>?_);generalize wr.drew=w31 at HO_4 HO_5 HO_16 BK247 HB hx263_0 hHeld ⊢
         refine pure_ (i:=0) (N:=some 23) (v:=?_) (a':=?_) #[true,false,false,false,false,false,false,false,false,false,false,false,false,false,false,false,false,false,false,false] rfl rfl (any_of HT_.out (by kernel_rfl)) (fun _ _ _ h=>h) (Or.inl ⟨by rfl,?_⟩) ?_ ?_
         rotate_left
         ·
          intro w';go_simp;with_reducible rfl
         rotate_left
         ·
          simp only[Act.put,sa',sb',sc',i64_w,i32_w];rfl
         refine pure_ (i:=1) (N:=some 24) (v:=?_) (a':=?_) #[true,true,false,false,false,false,false,false,false,false,false,false,false,false,false,false,false,false,false,false] rfl rfl (any_of HT_.out (by kernel_rfl)) (fun _ _ _ h=>h) (Or.inl ⟨by rfl,?_⟩) ?_ ?_
         rotate_left
         ·
          intro w';go_simp;with_reducible rfl
         rotate_left
         ·
          simp only[Act.put,sa',sb',sc',i64_w,i32_w];rfl
         refine pure_ (i:=2) (N:=some 25) (v:=?_) (a':=?_) #[true,true,true,false,false,false,false,false,false,false,false,false,false,false,false,false,false,false,false,false] rfl rfl (any_of HT_.out (by kernel_rfl)) (fun _ _ _ h=>h) (Or.inl ⟨by rfl,?_⟩) ?_ ?_
         rotate_left
         ·
          intro w';go_simp;with_reducible rfl
         rotate_left
         ·
          simp only[Act.put,sa',sb',sc',i64_w,i32_w];rfl
         refine pure_ (i:=3) (N:=some 26) (v:=?_) (a':=?_) #[true,true,true,true,false,false,false,false,false,false,false,false,false,false,false,false,false,false,false,false] rfl rfl (any_of HT_.out (by kernel_rfl)) (fun _ _ _ h=>h) (Or.inl ⟨by rfl,?_⟩) ?_ ?_
         rotate_left
         ·
          intro w';go_simp;with_reducible rfl
         rotate_left
         ·
          simp only[Act.put,sa',sb',sc',i64_w,i32_w];rfl
         refine pure_ (i:=4) (N:=some 27) (v:=?_) (a':=?_) #[true,true,true,true,true,false,false,false,false,false,false,false,false,false,false,false,false,false,false,false] rfl rfl (any_of HT_.out (by kernel_rfl)) (fun _ _ _ h=>h) (Or.inl ⟨by rfl,?_⟩) ?_ ?_
         rotate_left
         ·
          intro w';go_simp;with_reducible rfl
         rotate_left
         ·
          simp only[Act.put,sa',sb',sc',i64_w,i32_w];rfl
         refine pure_ (i:=5) (N:=some 28) (v:=?_) (a':=?_) #[true,true,true,true,true,true,false,false,false,false,false,false,false,false,false,false,false,false,false,false] rfl rfl (any_of HT_.out (by kernel_rfl)) (fun _ _ _ h=>h) (Or.inl ⟨by rfl,?_⟩) ?_ ?_
         rotate_left
         ·
          intro w';go_simp;with_reducible rfl
         rotate_left
         ·
          simp only[Act.put,sa',sb',sc',i64_w,i32_w];rfl
         refine take_ (i:=6) (N:=some 29) (v:=?_) (a':=?_) #[true,true,true,true,true,true,true,false,false,false,false,false,false,false,false,false,false,false,false,false] rfl rfl (take_ofW HT_.out HW_.out (by kernel_rfl)) (fun _ _ _ h=>h) (Or.inl ⟨by rfl,?_⟩) hHeld ?_ ?_
         rotate_left
         ·
          intro w' s0;go_simp;with_reducible rfl
         rotate_left
         ·
          simp only[Act.put,sa',sb',sc',i64_w,i32_w];rfl
         refine pure_ (i:=7) (N:=some 30) (v:=?_) (a':=?_) #[true,true,true,true,true,true,true,true,false,false,false,false,false,false,false,false,false,false,false,false] rfl rfl (any_of HT_.out (by kernel_rfl)) (fun _ _ _ h=>h) (Or.inl ⟨by rfl,?_⟩) ?_ ?_
         rotate_left
         ·
          intro w';go_simp;with_reducible rfl
         rotate_left
         ·
          simp only[Act.put,sa',sb',sc',i64_w,i32_w];rfl
         refine pure_ (i:=8) (N:=some 31) (v:=?_) (a':=?_) #[true,true,true,true,true,true,true,true,true,false,false,false,false,false,false,false,false,false,false,false] rfl rfl (any_of HT_.out (by kernel_rfl)) (fun _ _ _ h=>h) (Or.inl ⟨by rfl,?_⟩) ?_ ?_
         rotate_left
         ·
          intro w';go_simp;with_reducible rfl
         rotate_left
         ·
          simp only[Act.put,sa',sb',sc',i64_w,i32_w];rfl
         refine pure_ (i:=9) (N:=some 32) (v:=?_) (a':=?_) #[true,true,true,true,true,true,true,true,true,true,false,false,false,false,false,false,false,false,false,false] rfl rfl (any_of HT_.out (by kernel_rfl)) (fun _ _ _ h=>h) (Or.inl ⟨by rfl,?_⟩) ?_ ?_
         rotate_left
         ·
          intro w';go_simp;with_reducible rfl
         rotate_left
         ·
          simp only[Act.put,sa',sb',sc',i64_w,i32_w];rfl
         refine pure_ (i:=10) (N:=some 33) (v:=undef) (a':=?_) #[true,true,true,true,true,true,true,true,true,true,true,false,false,false,false,false,false,false,false,false] rfl rfl (any_of HT_.out (by kernel_rfl)) (fun _ _ _ h=>h) (Or.inr ⟨by rfl,rfl⟩) ?_ ?_
         rotate_left
         ·
          simp only[Act.put,sa',sb',sc',i64_w,i32_w];rfl
         refine pure_ (i:=11) (N:=some 34) (v:=undef) (a':=?_) #[true,true,true,true,true,true,true,true,true,true,true,true,false,false,false,false,false,false,false,false] rfl rfl (any_of HT_.out (by kernel_rfl)) (fun _ _ _ h=>h) (Or.inr ⟨by rfl,rfl⟩) ?_ ?_
         rotate_left
         ·
          simp only[Act.put,sa',sb',sc',i64_w,i32_w];rfl
         refine pure_ (i:=12) (N:=some 35) (v:=undef) (a':=?_) #[true,true,true,true,true,true,true,true,true,true,true,true,true,false,false,false,false,false,false,false] rfl rfl (any_of HT_.out (by kernel_rfl)) (fun _ _ _ h=>h) (Or.inr ⟨by rfl,rfl⟩) ?_ ?_
         rotate_left
         ·
          simp only[Act.put,sa',sb',sc',i64_w,i32_w];rfl
         refine pure_ (i:=13) (N:=some 36) (v:=undef) (a':=?_) #[true,true,true,true,true,true,true,true,true,true,true,true,true,true,false,false,false,false,false,false] rfl rfl (any_of HT_.out (by kernel_rfl)) (fun _ _ _ h=>h) (Or.inr ⟨by rfl,rfl⟩) ?_ ?_
         rotate_left
         ·
          simp only[Act.put,sa',sb',sc',i64_w,i32_w];rfl
         refine pure_ (i:=14) (N:=some 37) (v:=undef) (a':=?_) #[true,true,true,true,true,true,true,true,true,true,true,true,true,true,true,false,false,false,false,false] rfl rfl (any_of HT_.out (by kernel_rfl)) (fun _ _ _ h=>h) (Or.inr ⟨by rfl,rfl⟩) ?_ ?_
         rotate_left
         ·
          simp only[Act.put,sa',sb',sc',i64_w,i32_w];rfl
         refine pure_ (i:=15) (N:=some 38) (v:=undef) (a':=?_) #[true,true,true,true,true,true,true,true,true,true,true,true,true,true,true,true,false,false,false,false] rfl rfl (any_of HT_.out (by kernel_rfl)) (fun _ _ _ h=>h) (Or.inr ⟨by rfl,rfl⟩) ?_ ?_
         rotate_left
         ·
          simp only[Act.put,sa',sb',sc',i64_w,i32_w];rfl
         refine pure_ (i:=16) (N:=some 39) (v:=undef) (a':=?_) #[true,true,true,true,true,true,true,true,true,true,true,true,true,true,true,true,true,false,false,false] rfl rfl (any_of HT_.out (by kernel_rfl)) (fun _ _ _ h=>h) (Or.inr ⟨by rfl,rfl⟩) ?_ ?_
         rotate_left
         ·
          simp only[Act.put,sa',sb',sc',i64_w,i32_w];rfl
         refine pure_ (i:=17) (N:=some 40) (v:=undef) (a':=?_) #[true,true,true,true,true,true,true,true,true,true,true,true,true,true,true,true,true,true,false,false] rfl rfl (any_of HT_.out (by kernel_rfl)) (fun _ _ _ h=>h) (Or.inr ⟨by rfl,rfl⟩) ?_ ?_
         rotate_left
         ·
          simp only[Act.put,sa',sb',sc',i64_w,i32_w];rfl
         refine pure_ (i:=18) (N:=some 41) (v:=undef) (a':=?_) #[true,true,true,true,true,true,true,true,true,true,true,true,true,true,true,true,true,true,true,false] rfl rfl (any_of HT_.out (by kernel_rfl)) (fun _ _ _ h=>h) (Or.inr ⟨by rfl,rfl⟩) ?_ ?_
         rotate_left
         ·
          simp only[Act.put,sa',sb',sc',i64_w,i32_w];rfl
         refine pure_ (i:=19) (N:=some 42) (v:=?_) (a':=?_) #[true,true,true,true,true,true,true,true,true,true,true,true,true,true,true,true,true,true,true,true] rfl rfl (any_of HT_.out (by kernel_rfl)) (fun _ _ _ h=>h) (Or.inl ⟨by rfl,?_⟩) ?_ ?_
         rotate_left
         ·
          intro w';go_simp;with_reducible rfl
         rotate_left
         ·
          simp only[Act.put,sa',sb',sc',i64_w,i32_w];rfl
         refine done_ (done_of HT_.out (by kernel_rfl)) ?_
         try go_wp2
         go_roundg k1
         case measure=>have:=HK1.out;omega
         case rel=>exact ⟨(x5_1),(wrap64 (x18_1+1)),(by first|rfl|(simp;done)|(simp[*];done)),H',⟨by have:=HK1.out;omega⟩,⟨by (with_reducible repeat (first|apply ra'|apply rn'|apply rw'));exact HO_4.out⟩,⟨by (with_reducible repeat (first|apply ra'|apply rn'|apply rw'));exact HO_5.out⟩,⟨by (with_reducible repeat (first|apply ra'|apply rn'|apply rw'));exact HO_16.out⟩,⟨by (with_reducible repeat (first|refine kn' ?_ _|refine kd' ?_|refine ka' ?_ _));exact BK247.out⟩,⟨by repeat (first|(with_reducible first|exact HB.out|apply ba'|apply bd'|apply be'|refine bs' ?_ GE247.out)|exact HB.out)⟩⟩
       ·
        rw[if_neg c19] at H;exact absurd H (by simp)
      ·
       rw[if_neg c18] at H;have c18b0:decide (0≤(rd t252 x18_1))=false:=decide_eq_false c18;clear c18;have H':=am' H;clear H;have p262:0≤(x18_1:Int):=of_decide_eq_true (by first|(with_reducible assumption)|assumption);have q262:x18_1 < (t252.length:Int):=of_decide_eq_true (by first|(with_reducible assumption)|assumption);obtain ⟨ad262,e262,hx262_0⟩:=Kd.at_int (Kd.R_reads' HO_16.out).2.2 x18_1 p262 q262;cases e262;replace p262:=eq_true p262;replace q262:=eq_true q262
       try go_wp2
       have n0_:=am' (rw' HO_4.out);have n1_:=am' (rw' HO_5.out);have n2_:=am' (rw' HO_16.out);have n3_:=am' (kd' BK247.out);have n4_:=am' (be' HB.out);clear HO_4;clear HO_5;clear HO_16;clear BK247;clear HB;have HO_4:=n0_;have HO_5:=n1_;have HO_16:=n2_;have BK247:=n3_;have HB:=n4_;clear n0_ n1_ n2_ n3_ n4_;refine start_ (n:=20) (S:=fun w'=>True) (ds:=[]) #[false,false,false,false,false,false,false,false,false,false,false,false,false,false,false,false,false,false,false,false] (by kernel_rfl) rfl rfl trivial (fun hHeld=>?_);refine with_tabW spec_seOn.tab6 spec_seOn.bits6 (fun HT_ HW_=>?_);generalize wr.drew=w33 at HO_4 HO_5 HO_16 BK247 HB hHeld ⊢
       refine pure_ (i:=0) (N:=some 23) (v:=?_) (a':=?_) #[true,false,false,false,false,false,false,false,false,false,false,false,false,false,false,false,false,false,false,false] rfl rfl (any_of HT_.out (by kernel_rfl)) (fun _ _ _ h=>h) (Or.inl ⟨by rfl,?_⟩) ?_ ?_
       rotate_left
       ·
        intro w';go_simp;with_reducible rfl
       rotate_left
       ·
        simp only[Act.put,sa',sb',sc',i64_w,i32_w];rfl
       refine pure_ (i:=1) (N:=some 24) (v:=?_) (a':=?_) #[true,true,false,false,false,false,false,false,false,false,false,false,false,false,false,false,false,false,false,false] rfl rfl (any_of HT_.out (by kernel_rfl)) (fun _ _ _ h=>h) (Or.inl ⟨by rfl,?_⟩) ?_ ?_
       rotate_left
       ·
        intro w';go_simp;with_reducible rfl
       rotate_left
       ·
        simp only[Act.put,sa',sb',sc',i64_w,i32_w];rfl
       refine pure_ (i:=2) (N:=some 25) (v:=?_) (a':=?_) #[true,true,true,false,false,false,false,false,false,false,false,false,false,false,false,false,false,false,false,false] rfl rfl (any_of HT_.out (by kernel_rfl)) (fun _ _ _ h=>h) (Or.inl ⟨by rfl,?_⟩) ?_ ?_
       rotate_left
       ·
        intro w';go_simp;with_reducible rfl
       rotate_left
       ·
        simp only[Act.put,sa',sb',sc',i64_w,i32_w];rfl
       refine pure_ (i:=3) (N:=some 26) (v:=undef) (a':=?_) #[true,true,true,true,false,false,false,false,false,false,false,false,false,false,false,false,false,false,false,false] rfl rfl (any_of HT_.out (by kernel_rfl)) (fun _ _ _ h=>h) (Or.inr ⟨by rfl,rfl⟩) ?_ ?_
       rotate_left
       ·
        simp only[Act.put,sa',sb',sc',i64_w,i32_w];rfl
       refine pure_ (i:=4) (N:=some 27) (v:=undef) (a':=?_) #[true,true,true,true,true,false,false,false,false,false,false,false,false,false,false,false,false,false,false,false] rfl rfl (any_of HT_.out (by kernel_rfl)) (fun _ _ _ h=>h) (Or.inr ⟨by rfl,rfl⟩) ?_ ?_
       rotate_left
       ·
        simp only[Act.put,sa',sb',sc',i64_w,i32_w];rfl
       refine pure_ (i:=5) (N:=some 28) (v:=undef) (a':=?_) #[true,true,true,true,true,true,false,false,false,false,false,false,false,false,false,false,false,false,false,false] rfl rfl (any_of HT_.out (by kernel_rfl)) (fun _ _ _ h=>h) (Or.inr ⟨by rfl,rfl⟩) ?_ ?_
       rotate_left
       ·
        simp only[Act.put,sa',sb',sc',i64_w,i32_w];rfl
       refine pure_ (i:=6) (N:=some 29) (v:=undef) (a':=?_) #[true,true,true,true,true,true,true,false,false,false,false,false,false,false,false,false,false,false,false,false] rfl rfl (any_of HT_.out (by kernel_rfl)) (fun _ _ _ h=>h) (Or.inr ⟨by rfl,rfl⟩) ?_ ?_
       rotate_left
       ·
        simp only[Act.put,sa',sb',sc',i64_w,i32_w];rfl
       refine pure_ (i:=7) (N:=some 30) (v:=undef) (a':=?_) #[true,true,true,true,true,true,true,true,false,false,false,false,false,false,false,false,false,false,false,false] rfl rfl (any_of HT_.out (by kernel_rfl)) (fun _ _ _ h=>h) (Or.inr ⟨by rfl,rfl⟩) ?_ ?_
       rotate_left
       ·
        simp only[Act.put,sa',sb',sc',i64_w,i32_w];rfl
       refine pure_ (i:=8) (N:=some 31) (v:=?_) (a':=?_) #[true,true,true,true,true,true,true,true,true,false,false,false,false,false,false,false,false,false,false,false] rfl rfl (any_of HT_.out (by kernel_rfl)) (fun _ _ _ h=>h) (Or.inl ⟨by rfl,?_⟩) ?_ ?_
       rotate_left
       ·
        intro w';go_simp;with_reducible rfl
       rotate_left
       ·
        simp only[Act.put,sa',sb',sc',i64_w,i32_w];rfl
       refine pure_ (i:=9) (N:=some 32) (v:=?_) (a':=?_) #[true,true,true,true,true,true,true,true,true,true,false,false,false,false,false,false,false,false,false,false] rfl rfl (any_of HT_.out (by kernel_rfl)) (fun _ _ _ h=>h) (Or.inl ⟨by rfl,?_⟩) ?_ ?_
       rotate_left
       ·
        intro w';go_simp;with_reducible rfl
       rotate_left
       ·
        simp only[Act.put,sa',sb',sc',i64_w,i32_w];rfl
       refine pure_ (i:=10) (N:=some 33) (v:=undef) (a':=?_) #[true,true,true,true,true,true,true,true,true,true,true,false,false,false,false,false,false,false,false,false] rfl rfl (any_of HT_.out (by kernel_rfl)) (fun _ _ _ h=>h) (Or.inr ⟨by rfl,rfl⟩) ?_ ?_
       rotate_left
       ·
        simp only[Act.put,sa',sb',sc',i64_w,i32_w];rfl
       refine pure_ (i:=11) (N:=some 34) (v:=undef) (a':=?_) #[true,true,true,true,true,true,true,true,true,true,true,true,false,false,false,false,false,false,false,false] rfl rfl (any_of HT_.out (by kernel_rfl)) (fun _ _ _ h=>h) (Or.inr ⟨by rfl,rfl⟩) ?_ ?_
       rotate_left
       ·
        simp only[Act.put,sa',sb',sc',i64_w,i32_w];rfl
       refine pure_ (i:=12) (N:=some 35) (v:=undef) (a':=?_) #[true,true,true,true,true,true,true,true,true,true,true,true,true,false,false,false,false,false,false,false] rfl rfl (any_of HT_.out (by kernel_rfl)) (fun _ _ _ h=>h) (Or.inr ⟨by rfl,rfl⟩) ?_ ?_
       rotate_left
       ·
        simp only[Act.put,sa',sb',sc',i64_w,i32_w];rfl
       refine pure_ (i:=13) (N:=some 36) (v:=undef) (a':=?_) #[true,true,true,true,true,true,true,true,true,true,true,true,true,true,false,false,false,false,false,false] rfl rfl (any_of HT_.out (by kernel_rfl)) (fun _ _ _ h=>h) (Or.inr ⟨by rfl,rfl⟩) ?_ ?_
       rotate_left
       ·
        simp only[Act.put,sa',sb',sc',i64_w,i32_w];rfl
       refine pure_ (i:=14) (N:=some 37) (v:=undef) (a':=?_) #[true,true,true,true,true,true,true,true,true,true,true,true,true,true,true,false,false,false,false,false] rfl rfl (any_of HT_.out (by kernel_rfl)) (fun _ _ _ h=>h) (Or.inr ⟨by rfl,rfl⟩) ?_ ?_
       rotate_left
       ·
        simp only[Act.put,sa',sb',sc',i64_w,i32_w];rfl
       refine pure_ (i:=15) (N:=some 38) (v:=undef) (a':=?_) #[true,true,true,true,true,true,true,true,true,true,true,true,true,true,true,true,false,false,false,false] rfl rfl (any_of HT_.out (by kernel_rfl)) (fun _ _ _ h=>h) (Or.inr ⟨by rfl,rfl⟩) ?_ ?_
       rotate_left
       ·
        simp only[Act.put,sa',sb',sc',i64_w,i32_w];rfl
       refine pure_ (i:=16) (N:=some 39) (v:=undef) (a':=?_) #[true,true,true,true,true,true,true,true,true,true,true,true,true,true,true,true,true,false,false,false] rfl rfl (any_of HT_.out (by kernel_rfl)) (fun _ _ _ h=>h) (Or.inr ⟨by rfl,rfl⟩) ?_ ?_
       rotate_left
       ·
        simp only[Act.put,sa',sb',sc',i64_w,i32_w];rfl
       refine pure_ (i:=17) (N:=some 40) (v:=undef) (a':=?_) #[true,true,true,true,true,true,true,true,true,true,true,true,true,true,true,true,true,true,false,false] rfl rfl (any_of HT_.out (by kernel_rfl)) (fun _ _ _ h=>h) (Or.inr ⟨by rfl,rfl⟩) ?_ ?_
       rotate_left
       ·
        simp only[Act.put,sa',sb',sc',i64_w,i32_w];rfl
       refine pure_ (i:=18) (N:=some 41) (v:=undef) (a':=?_) #[true,true,true,true,true,true,true,true,true,true,true,true,true,true,true,true,true,true,true,false] rfl rfl (any_of HT_.out (by kernel_rfl)) (fun _ _ _ h=>h) (Or.inr ⟨by rfl,rfl⟩) ?_ ?_
       rotate_left
       ·
        simp only[Act.put,sa',sb',sc',i64_w,i32_w];rfl
       refine pure_ (i:=19) (N:=some 42) (v:=?_) (a':=?_) #[true,true,true,true,true,true,true,true,true,true,true,true,true,true,true,true,true,true,true,true] rfl rfl (any_of HT_.out (by kernel_rfl)) (fun _ _ _ h=>h) (Or.inl ⟨by rfl,?_⟩) ?_ ?_
       rotate_left
       ·
        intro w';go_simp;with_reducible rfl
       rotate_left
       ·
        simp only[Act.put,sa',sb',sc',i64_w,i32_w];rfl
       refine done_ (done_of HT_.out (by kernel_rfl)) ?_
       try go_wp2
       go_roundg k1
       case measure=>have:=HK1.out;omega
       case rel=>exact ⟨(x5_1),(wrap64 (x18_1+1)),(by first|rfl|(simp;done)|(simp[*];done)),H',⟨by have:=HK1.out;omega⟩,⟨by (with_reducible repeat (first|apply ra'|apply rn'|apply rw'));exact HO_4.out⟩,⟨by (with_reducible repeat (first|apply ra'|apply rn'|apply rw'));exact HO_5.out⟩,⟨by (with_reducible repeat (first|apply ra'|apply rn'|apply rw'));exact HO_16.out⟩,⟨by (with_reducible repeat (first|refine kn' ?_ _|refine kd' ?_|refine ka' ?_ _));exact BK247.out⟩,⟨by repeat (first|(with_reducible first|exact HB.out|apply ba'|apply bd'|apply be'|refine bs' ?_ GE247.out)|exact HB.out)⟩⟩
     ·
      rw[if_neg c17] at H;exact absurd H (by simp)
    ·
     rw[if_neg c16] at H;exact absurd H (by simp)
   ·
    rw[if_neg c15] at H;have c15b0:decide (x18_1 < (t252.length:Int))=false:=decide_eq_false c15;clear c15;obtain rfl:=Option.some.inj H;go_wp2;go_ret
    exact ⟨_,by first|rfl|(simp[errW_none,errW_some] <;> rfl)|(simp[*,errW_none,errW_some] <;> rfl),by (with_reducible repeat (first|apply ra'|apply rn'|apply rw'));exact Kd.R_mono HO_5.out (fun _ hk=>trivial),by repeat (first|(with_reducible first|exact HB.out|apply ba'|apply bd'|apply be'|refine bs' ?_ GE247.out)|exact HB.out)⟩
end Go.Proofs.Ytamljjfhkolflaa.C11
