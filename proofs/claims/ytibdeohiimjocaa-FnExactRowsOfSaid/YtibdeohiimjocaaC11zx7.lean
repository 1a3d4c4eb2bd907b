import Derived.Test.YtibdeohiimjocaaC11zx0
import Derived.Test.YtibdeohiimjocaaC11zx2
import Derived.Test.YtibdeohiimjocaaC11zx3
import Derived.Test.YtibdeohiimjocaaC11zx6
import Derived.Test.YtibdeohiimjocaaC11zAl
namespace Go.Proofs.Ytibdeohiimjocaa.C11
open Go.RowKit Go.Proofs.YtibdeohiimjocaaW.PrintWords Go.Proofs.YtibdeohiimjocaaW.PrintLast Go.Proofs.YtibdeohiimjocaaW.PrintMore Go.Proofs.Ytibdeohiimjocaa.H
attribute [local go_sem] max2_int min2_int max_two min_two max_three min_three max_four min_four
set_option linter.unusedVariables false
set_option linter.unusedSimpArgs false
mutual
def spec_RowsOf.j0:Nat→Bool→Int→Int→List Bool→Bool→Option ((List (List Int)) × Bool)
 | 0,_,_,_,_,_=>none
 | k+1,x19,x201000,x201001,x202000,x202001=>if x19=true then (some (([]:List (List Int)),false)) else ((spec_cuCode.f k x202000 x202001).bind fun t205=>((spec_cuRows.f k x201000 x201001 t205).bind fun t206=>(spec_RowsOf.l0 k ([]:List (List Int)) t206 (t206.length:Int) 0)))
def spec_RowsOf.l0:Nat→List (List Int)→List Int→Int→Int→Option ((List (List Int)) × Bool)
 | 0,_,_,_,_=>none
 | k+1,x6,x23,x24,x25=>if x25 < x24 then (if 0≤x25 then (if x25 < (x23.length:Int) then ((spec_cuList.f k (rd x23 x25)).bind fun t210=>(if x6.length < 5864062014805 then (spec_RowsOf.l0 k (x6 ++ [t210]) x23 x24 (wrap64 (x25+1))) else (none))) else (none)) else (none)) else (some (x6,true))
end
def spec_RowsOf.f (k:Nat) (a0_0:Int) (a0_1:Int) (l1_0:List Bool) (a1_1:Bool):Option ((List (List Int)) × Bool):=(spec_cuIs.f k a0_0 a0_1 l1_0 a1_1).bind fun t202=>(if t202=true then ((spec_cuCode.f k l1_0 a1_1).bind fun t203=>((spec_cuQuiet.f k a0_0 a0_1 t203).bind fun t204=>(spec_RowsOf.j0 k (!t204) a0_0 a0_1 l1_0 a1_1))) else (spec_RowsOf.j0 k true a0_0 a0_1 l1_0 a1_1))
theorem spec_RowsOf.mono_l:∀ k,(∀ y0 y1 y2 y3 y4,LeO (spec_RowsOf.j0 k y0 y1 y2 y3 y4) (spec_RowsOf.j0 (k+1) y0 y1 y2 y3 y4))∧(∀ y0 y1 y2 y3,LeO (spec_RowsOf.l0 k y0 y1 y2 y3) (spec_RowsOf.l0 (k+1) y0 y1 y2 y3))
 | 0=>⟨fun _ _ _ _ _ r h=>by simp[spec_RowsOf.j0] at h,fun _ _ _ _ r h=>by simp[spec_RowsOf.l0] at h⟩
 | k+1=>by
  obtain ⟨ih0,ih1⟩:=spec_RowsOf.mono_l k;refine ⟨?_,?_⟩
  ·
   intro y0 y1 y2 y3 y4;unfold spec_RowsOf.j0
   repeat' first
   | (with_reducible exact ih0 _ _ _ _ _)
   | (with_reducible exact ih1 _ _ _ _)
   | (with_reducible exact spec_cuCode.mono _ _ _)
   | (with_reducible exact spec_cuIs.mono _ _ _ _ _)
   | (with_reducible exact spec_cuList.mono _ _)
   | (with_reducible exact spec_cuQuiet.mono _ _ _ _)
   | (with_reducible exact spec_cuRows.mono _ _ _ _)
   | (with_reducible exact LeO.refl _)
   | (with_reducible exact LeO.none _)
   | (with_reducible refine LeO.ite ?_ ?_)
   | (with_reducible refine LeO.bind ?_ (fun _=>?_))
   | exact ih0 _ _ _ _ _
   | exact ih1 _ _ _ _
   | exact spec_cuCode.mono _ _ _
   | exact spec_cuIs.mono _ _ _ _ _
   | exact spec_cuList.mono _ _
   | exact spec_cuQuiet.mono _ _ _ _
   | exact spec_cuRows.mono _ _ _ _
   | exact LeO.none _
   | refine LeO.ite ?_ ?_
   | refine LeO.bind ?_ (fun _=>?_)
  ·
   intro y0 y1 y2 y3;unfold spec_RowsOf.l0
   repeat' first
   | (with_reducible exact ih0 _ _ _ _ _)
   | (with_reducible exact ih1 _ _ _ _)
   | (with_reducible exact spec_cuCode.mono _ _ _)
   | (with_reducible exact spec_cuIs.mono _ _ _ _ _)
   | (with_reducible exact spec_cuList.mono _ _)
   | (with_reducible exact spec_cuQuiet.mono _ _ _ _)
   | (with_reducible exact spec_cuRows.mono _ _ _ _)
   | (with_reducible exact LeO.refl _)
   | (with_reducible exact LeO.none _)
   | (with_reducible refine LeO.ite ?_ ?_)
   | (with_reducible refine LeO.bind ?_ (fun _=>?_))
   | exact ih0 _ _ _ _ _
   | exact ih1 _ _ _ _
   | exact spec_cuCode.mono _ _ _
   | exact spec_cuIs.mono _ _ _ _ _
   | exact spec_cuList.mono _ _
   | exact spec_cuQuiet.mono _ _ _ _
   | exact spec_cuRows.mono _ _ _ _
   | exact LeO.none _
   | refine LeO.ite ?_ ?_
   | refine LeO.bind ?_ (fun _=>?_)
theorem spec_RowsOf.mono:∀ a0 a1 a2 a3 k,LeO (spec_RowsOf.f k a0 a1 a2 a3) (spec_RowsOf.f (k+1) a0 a1 a2 a3):=by
 intro a0 a1 a2 a3 k;obtain ⟨ih0,ih1⟩:=spec_RowsOf.mono_l k
 unfold spec_RowsOf.f
 repeat' first
   | (with_reducible exact ih0 _ _ _ _ _)
   | (with_reducible exact ih1 _ _ _ _)
   | (with_reducible exact spec_cuCode.mono _ _ _)
   | (with_reducible exact spec_cuIs.mono _ _ _ _ _)
   | (with_reducible exact spec_cuList.mono _ _)
   | (with_reducible exact spec_cuQuiet.mono _ _ _ _)
   | (with_reducible exact spec_cuRows.mono _ _ _ _)
   | (with_reducible exact LeO.refl _)
   | (with_reducible exact LeO.none _)
   | (with_reducible refine LeO.ite ?_ ?_)
   | (with_reducible refine LeO.bind ?_ (fun _=>?_))
   | exact ih0 _ _ _ _ _
   | exact ih1 _ _ _ _
   | exact spec_cuCode.mono _ _ _
   | exact spec_cuIs.mono _ _ _ _ _
   | exact spec_cuList.mono _ _
   | exact spec_cuQuiet.mono _ _ _ _
   | exact spec_cuRows.mono _ _ _ _
   | exact LeO.none _
   | refine LeO.ite ?_ ?_
   | refine LeO.bind ?_ (fun _=>?_)
def spec_RowsOf.T1:Bool × List (List Nat × List Nat):=(true,[([],[]),([],[]),([0,1],[0,1]),([2],[2]),([3,2],[3]),([4],[4]),([4],[4]),([6,4,4],[4,6]),([5,7,7,4],[4,5,7]),([8,4],[4,8]),([4,9],[4,9])])
def spec_RowsOf.B1:List Nat:=[0,0,3,7,15,31,31,95,255,511,1023]
theorem spec_RowsOf.tab1:rtab .any (opsOf Try.f38 1)=spec_RowsOf.T1:=by kernel_rfl
theorem spec_RowsOf.bits1:waitsOk spec_RowsOf.T1.2 spec_RowsOf.B1=true:=by kernel_rfl
set_option maxHeartbeats 8000000 in
set_option maxRecDepth 100000 in
theorem spec_RowsOf.calls (k:Nat) (a0_0:Int) (a0_1:Int) (A1_0:Option Addr) (c1_0:Nat) (l1_0:List Bool) (a1_1:Bool) (r1:List (List Int)) (r2:Bool) (w:World) (hr1_0:Kd.C Kd.bool w A1_0 l1_0.length l1_0) (hc1_0:l1_0.length≤c1_0) (h:spec_RowsOf.f k a0_0 a0_1 l1_0 a1_1=some (r1,r2)) :
  Calls Try.prog 38 #[.agg #[.int .i64 a0_0, .int .i64 a0_1], .agg #[.slice A1_0 l1_0.length c1_0, .bool a1_1]] w fun e w'=>∃ v0_:Value,e = .returned (.tuple #[v0_, .bool r2])∧Kd.S (Kd.slice 3 (Kd.int .i64)) 32 w' w.heap.size (fun _=>True) v0_ r1∧Below w.heap.size w w':=by
 have hu40:=Try.underlying40
 have hu51:=Try.underlying51
 have HR1_0:=am' hr1_0
 have HC1_0:=am' hc1_0
 clear hr1_0 hc1_0;have HB:=am' (Below.refl w.heap.size w)
 have H:((spec_cuIs.f k a0_0 a0_1 l1_0 a1_1).bind fun t202=>(if t202=true then ((spec_cuCode.f k l1_0 a1_1).bind fun t203=>((spec_cuQuiet.f k a0_0 a0_1 t203).bind fun t204=>(spec_RowsOf.j0 k (!t204) a0_0 a0_1 l1_0 a1_1))) else (spec_RowsOf.j0 k true a0_0 a0_1 l1_0 a1_1)))=some (r1,r2):=h
 clear h;have HC3:=am' H
 clear H;go_enter Try.func38,Try.ntmps38
 go_upto_region 1 with (first|((with_reducible refine gate_dst (N:=2) rfl ?_);refine box_event ?hg (N:=2) ?hd (cs:=#[.int .i64 a0_0, .int .i64 a0_1]) (t:=40) ?hr ?_;(case hd=>rfl);(case hg=>rfl);(case hr=>first|(go_simp;done)|(go_simp;rfl));intro gb200 hg w4 hbox hb;have n0_:=am' (below_step (by repeat (first|(with_reducible first|exact HB.out|apply ba'|apply bd'|apply be')|exact HB.out)) hb);have n1_:=am' (hbox);have n2_:=am' ((by rw[hg];exact (below_size (by repeat (first|(with_reducible first|exact HB.out|apply ba'|apply bd'|apply be')|exact HB.out))):w.heap.size≤gb200));have n3_:=am' ((by rw[hg];exact (below_size (by repeat (first|(with_reducible first|exact HB.out|apply ba'|apply bd'|apply be')|exact HB.out))):w.heap.size≤gb200));clear HB;have HB:=n0_;have BK200:=n1_;have GW200:=n2_;have GE200:=n3_;clear n0_ n1_ n2_ n3_;clear hb hbox hg)|((with_reducible refine gate_dst (N:=3) rfl ?_);refine box_event ?hg (N:=3) ?hd (cs:=#[.slice A1_0 l1_0.length c1_0, .bool a1_1]) (t:=51) ?hr ?_;(case hd=>rfl);(case hg=>rfl);(case hr=>first|(go_simp;done)|(go_simp;rfl));intro gb201 hg w5 hbox hb;have n0_:=am' (blk_below (g:=gb200) (o := .cells #[.int .i64 a0_0, .int .i64 a0_1] 40 (0,0)) (by (with_reducible repeat (first|refine kn' ?_ _|refine kd' ?_|refine ka' ?_ _));exact BK200.out) hb);have n1_:=am' (below_step (by repeat (first|(with_reducible first|exact HB.out|apply ba'|apply bd'|apply be'|refine bs' ?_ GE200.out)|exact HB.out)) hb);have n2_:=am' (hbox);have n3_:=am' ((by rw[hg];exact (below_size (by repeat (first|(with_reducible first|exact HB.out|apply ba'|apply bd'|apply be'|refine bs' ?_ GE200.out)|exact HB.out))):w.heap.size≤gb201));have n4_:=am' ((by rw[hg];exact (below_size (by repeat (first|(with_reducible first|exact HB.out|apply ba'|apply bd'|apply be'|refine bs' ?_ GE200.out)|exact HB.out))):w.heap.size≤gb201));have n5_:=am' ((by rw[hg];exact Nat.ne_of_lt (blk_lt (g:=gb200) (o := .cells #[.int .i64 a0_0, .int .i64 a0_1] 40 (0,0)) (by (with_reducible repeat (first|refine kn' ?_ _|refine kd' ?_|refine ka' ?_ _));exact BK200.out)):gb200≠gb201));have n6_:=am' ((by rw[hg];exact Nat.ne_of_gt (blk_lt (g:=gb200) (o := .cells #[.int .i64 a0_0, .int .i64 a0_1] 40 (0,0)) (by (with_reducible repeat (first|refine kn' ?_ _|refine kd' ?_|refine ka' ?_ _));exact BK200.out)):gb201≠gb200));clear BK200;clear HB;have BK200:=n0_;have HB:=n1_;have BK201:=n2_;have GW201:=n3_;have GE201:=n4_;have NB200_201:=n5_;have NB201_200:=n6_;clear n0_ n1_ n2_ n3_ n4_ n5_ n6_;clear hb hbox hg))
 (try simp only[Act.put,sa',sb',sc'])
 go_cut [19] (fun v19 wc=>∃ (kq:Nat) (x19_2:Bool),v19 = .bool x19_2∧Aside0 (spec_RowsOf.j0 kq x19_2 a0_0 a0_1 l1_0 a1_1=some (r1,r2))∧Aside0 (kq≤k)∧Aside0 (wc.heap[gb200]? = some (.cells #[.int .i64 a0_0, .int .i64 a0_1] 40 (0,0)))∧Aside0 (wc.heap[gb201]? = some (.cells #[(.slice A1_0 l1_0.length c1_0), .bool a1_1] 51 (0,0)))∧Aside0 (Below w.heap.size w wc))
 case first =>
  have H:=HC3.out;clear HC3;replace H:=Option.bind_eq_some_iff.mp H;obtain ⟨t202,A60,H⟩:=H;replace H:(if t202=true then ((spec_cuCode.f k l1_0 a1_1).bind fun t203=>((spec_cuQuiet.f k a0_0 a0_1 t203).bind fun t204=>(spec_RowsOf.j0 k (!t204) a0_0 a0_1 l1_0 a1_1))) else (spec_RowsOf.j0 k true a0_0 a0_1 l1_0 a1_1))=some (r1,r2):=H;have A6:=am' A60;clear A60;by_cases c7:t202=true
  ·
   subst c7;have H1:((spec_cuCode.f k l1_0 a1_1).bind fun t203=>((spec_cuQuiet.f k a0_0 a0_1 t203).bind fun t204=>(spec_RowsOf.j0 k (!t204) a0_0 a0_1 l1_0 a1_1)))=some (r1,r2):=by rw[if_pos rfl] at H;exact H
   clear H;have H:=H1;clear H1;replace H:=Option.bind_eq_some_iff.mp H;obtain ⟨t203,A80,H⟩:=H;replace H:((spec_cuQuiet.f k a0_0 a0_1 t203).bind fun t204=>(spec_RowsOf.j0 k (!t204) a0_0 a0_1 l1_0 a1_1))=some (r1,r2):=H;have A8:=am' A80;clear A80;replace H:=Option.bind_eq_some_iff.mp H;obtain ⟨t204,A90,H⟩:=H;replace H:(spec_RowsOf.j0 k (!t204) a0_0 a0_1 l1_0 a1_1)=some (r1,r2):=H;have A9:=am' A90;clear A90;have H':=am' H;clear H;try go_wp2
   have n0_:=am' (kd' BK200.out);have n1_:=am' (kd' BK201.out);have n2_:=am' (be' HB.out);clear BK200;clear BK201;clear HB;have BK200:=n0_;have BK201:=n1_;have HB:=n2_;clear n0_ n1_ n2_;refine start_ (n:=11) (S:=fun w'=>w'.cell? ⟨gb200,0,none⟩=some (.int .i64 a0_0)∧w'.cell? ⟨gb200,1,none⟩=some (.int .i64 a0_1)∧w'.cell? ⟨gb201,0,none⟩=some (.slice A1_0 l1_0.length c1_0)∧w'.cell? ⟨gb201,1,none⟩=some (.bool a1_1)) (ds:=[]) #[false,false,false,false,false,false,false,false,false,false,false] (by kernel_rfl) rfl rfl ⟨(blk_cell BK200.out 0).trans rfl,(blk_cell BK200.out 1).trans rfl,(blk_cell BK201.out 0).trans rfl,(blk_cell BK201.out 1).trans rfl⟩ (fun hHeld=>?_);refine with_tabW spec_RowsOf.tab1 spec_RowsOf.bits1 (fun HT_ HW_=>?_);generalize w5.drew=w10 at BK200 BK201 HB hHeld ⊢
   refine take_ (i:=0) (N:=some 9) (v:=?_) (a':=?_) #[true,false,false,false,false,false,false,false,false,false,false] rfl rfl (take_ofW HT_.out HW_.out (by kernel_rfl)) (fun _ _ _ h=>h) (Or.inl ⟨by rfl,?_⟩) hHeld ?_ ?_
   rotate_left
   ·
    rintro w' ⟨s0,s1,s2,s3⟩
    go_simp;with_reducible rfl
   rotate_left
   ·
    simp only[Act.put,sa',sb',sc',i64_w,i32_w];rfl
   refine take_ (i:=1) (N:=some 10) (v:=?_) (a':=?_) #[true,true,false,false,false,false,false,false,false,false,false] rfl rfl (take_ofW HT_.out HW_.out (by kernel_rfl)) (fun _ _ _ h=>h) (Or.inl ⟨by rfl,?_⟩) hHeld ?_ ?_
   rotate_left
   ·
    rintro w' ⟨s0,s1,s2,s3⟩
    go_simp;with_reducible rfl
   rotate_left
   ·
    simp only[Act.put,sa',sb',sc',i64_w,i32_w];rfl
   refine one_ (i:=2) (N:=some 11) #[true,true,true,false,false,false,false,false,false,false,false] rfl rfl (one_of HT_.out (by kernel_rfl)) (by decide) (fun K hK=>?_);refine goes_ Try.func83 (by kernel_rfl) rfl #[.agg #[.int .i64 a0_0, .int .i64 a0_1], .agg #[.slice A1_0 l1_0.length c1_0, .bool a1_1]] (by rfl) rfl rfl (by (try simp only[List.map_toArray,List.map_cons,List.map_nil]);first|done|rfl|(simp only[List.length_drop,List.length_take];rfl)) ?_
   with_reducible refine (spec_cuIs.calls k a0_0 a0_1 _ _ l1_0 a1_1 true _ ?side1 ?side2 A6.out).mono ?_
   (case side1=>repeat (first|exact (Kd.C_below HR1_0.out HB.out)|(with_reducible refine ca' ?_ _)|(with_reducible refine cn' ?_ _)|(with_reducible refine cd' ?_)))
   (case side2=>exact HC1_0.out)
   rintro e w11 ⟨rfl,hb⟩
   refine ⟨_,rfl,?_⟩;have n0_:=am' (blk_below (g:=gb200) (o := .cells #[.int .i64 a0_0, .int .i64 a0_1] 40 (0,0)) (by (with_reducible repeat (first|refine kn' ?_ _|refine kd' ?_|refine ka' ?_ _));exact BK200.out) hb);have n1_:=am' (blk_below (g:=gb201) (o := .cells #[.slice A1_0 l1_0.length c1_0, .bool a1_1] 51 (0,0)) (by (with_reducible repeat (first|refine kn' ?_ _|refine kd' ?_|refine ka' ?_ _));exact BK201.out) hb);have n2_:=am' (below_step (by repeat (first|(with_reducible first|exact HB.out|apply ba'|apply bd'|apply be'|refine bs' ?_ GE200.out|refine bs' ?_ GE201.out)|exact HB.out)) hb);clear BK200;clear BK201;clear HB;have BK200:=n0_;have BK201:=n1_;have HB:=n2_;clear n0_ n1_ n2_;(try clear hb)
   (try clear hb2)
   (try clear hk)
   (try clear hi)
   refine hK.out _ _ ⟨(blk_cell BK200.out 0).trans rfl,(blk_cell BK200.out 1).trans rfl,(blk_cell BK201.out 0).trans rfl,(blk_cell BK201.out 1).trans rfl⟩ (fun hHeld=>?_);clear hK K;refine norm_ (a':=?_) ?_ ?_
   rotate_left
   ·
    show Act.put _ (some 11) _=_
    simp only[Act.put,sa',sb',sc',i64_w,i32_w];rfl
   refine pure_ (i:=3) (N:=some 12) (v:=?_) (a':=?_) #[true,true,true,true,false,false,false,false,false,false,false] rfl rfl (any_of HT_.out (by kernel_rfl)) (fun _ _ _ h=>h) (Or.inl ⟨by rfl,?_⟩) ?_ ?_
   rotate_left
   ·
    intro w';go_simp;with_reducible rfl
   rotate_left
   ·
    simp only[Act.put,sa',sb',sc',i64_w,i32_w];rfl
   refine pure_ (i:=4) (N:=some 13) (v:=?_) (a':=?_) #[true,true,true,true,true,false,false,false,false,false,false] rfl rfl (any_of HT_.out (by kernel_rfl)) (fun _ _ _ h=>h) (Or.inl ⟨by rfl,?_⟩) ?_ ?_
   rotate_left
   ·
    intro w';go_simp;with_reducible rfl
   rotate_left
   ·
    simp only[Act.put,sa',sb',sc',i64_w,i32_w];rfl
   refine take_ (i:=5) (N:=some 14) (v:=?_) (a':=?_) #[true,true,true,true,true,true,false,false,false,false,false] rfl rfl (take_ofW HT_.out HW_.out (by kernel_rfl)) (fun _ _ _ h=>h) (Or.inl ⟨by rfl,?_⟩) hHeld ?_ ?_
   rotate_left
   ·
    rintro w' ⟨s0,s1,s2,s3⟩
    go_simp;with_reducible rfl
   rotate_left
   ·
    simp only[Act.put,sa',sb',sc',i64_w,i32_w];rfl
   refine take_ (i:=6) (N:=some 15) (v:=?_) (a':=?_) #[true,true,true,true,true,true,true,false,false,false,false] rfl rfl (take_ofW HT_.out HW_.out (by kernel_rfl)) (fun _ _ _ h=>h) (Or.inl ⟨by rfl,?_⟩) hHeld ?_ ?_
   rotate_left
   ·
    rintro w' ⟨s0,s1,s2,s3⟩
    go_simp;with_reducible rfl
   rotate_left
   ·
    simp only[Act.put,sa',sb',sc',i64_w,i32_w];rfl
   refine one_ (i:=7) (N:=some 16) #[true,true,true,true,true,true,true,true,false,false,false] rfl rfl (one_of HT_.out (by kernel_rfl)) (by decide) (fun K hK=>?_);refine goes_ Try.func85 (by kernel_rfl) rfl #[.agg #[.slice A1_0 l1_0.length c1_0, .bool a1_1]] (by rfl) rfl rfl (by (try simp only[List.map_toArray,List.map_cons,List.map_nil]);first|done|rfl|(simp only[List.length_drop,List.length_take];rfl)) ?_
   with_reducible refine (spec_cuCode.calls k _ _ l1_0 a1_1 t203 _ ?side1 ?side2 A8.out).mono ?_
   (case side1=>repeat (first|exact (Kd.C_below HR1_0.out HB.out)|(with_reducible refine ca' ?_ _)|(with_reducible refine cn' ?_ _)|(with_reducible refine cd' ?_)))
   (case side2=>exact HC1_0.out)
   rintro e w12 ⟨rfl,hb⟩
   refine ⟨_,rfl,?_⟩;have n0_:=am' (blk_below (g:=gb200) (o := .cells #[.int .i64 a0_0, .int .i64 a0_1] 40 (0,0)) (by (with_reducible repeat (first|refine kn' ?_ _|refine kd' ?_|refine ka' ?_ _));exact BK200.out) hb);have n1_:=am' (blk_below (g:=gb201) (o := .cells #[.slice A1_0 l1_0.length c1_0, .bool a1_1] 51 (0,0)) (by (with_reducible repeat (first|refine kn' ?_ _|refine kd' ?_|refine ka' ?_ _));exact BK201.out) hb);have n2_:=am' (below_step (by repeat (first|(with_reducible first|exact HB.out|apply ba'|apply bd'|apply be'|refine bs' ?_ GE200.out|refine bs' ?_ GE201.out)|exact HB.out)) hb);clear BK200;clear BK201;clear HB;have BK200:=n0_;have BK201:=n1_;have HB:=n2_;clear n0_ n1_ n2_;(try clear hb)
   (try clear hb2)
   (try clear hk)
   (try clear hi)
   refine hK.out _ _ ⟨(blk_cell BK200.out 0).trans rfl,(blk_cell BK200.out 1).trans rfl,(blk_cell BK201.out 0).trans rfl,(blk_cell BK201.out 1).trans rfl⟩ (fun hHeld=>?_);clear hK K;refine norm_ (a':=?_) ?_ ?_
   rotate_left
   ·
    show Act.put _ (some 16) _=_
    simp only[Act.put,sa',sb',sc',i64_w,i32_w];rfl
   refine one_ (i:=8) (N:=some 17) #[true,true,true,true,true,true,true,true,true,false,false] rfl rfl (one_of HT_.out (by kernel_rfl)) (by decide) (fun K hK=>?_);refine goes_ Try.func84 (by kernel_rfl) rfl #[.agg #[.int .i64 a0_0, .int .i64 a0_1], .int .i64 t203] (by rfl) rfl rfl (by (try simp only[List.map_toArray,List.map_cons,List.map_nil]);first|done|rfl|(simp only[List.length_drop,List.length_take];rfl)) ?_
   with_reducible refine (spec_cuQuiet.calls k a0_0 a0_1 t203 t204 _ A9.out).mono ?_
   rintro e w13 ⟨rfl,hb⟩
   refine ⟨_,rfl,?_⟩;have n0_:=am' (blk_below (g:=gb200) (o := .cells #[.int .i64 a0_0, .int .i64 a0_1] 40 (0,0)) (by (with_reducible repeat (first|refine kn' ?_ _|refine kd' ?_|refine ka' ?_ _));exact BK200.out) hb);have n1_:=am' (blk_below (g:=gb201) (o := .cells #[.slice A1_0 l1_0.length c1_0, .bool a1_1] 51 (0,0)) (by (with_reducible repeat (first|refine kn' ?_ _|refine kd' ?_|refine ka' ?_ _));exact BK201.out) hb);have n2_:=am' (below_step (by repeat (first|(with_reducible first|exact HB.out|apply ba'|apply bd'|apply be'|refine bs' ?_ GE200.out|refine bs' ?_ GE201.out)|exact HB.out)) hb);clear BK200;clear BK201;clear HB;have BK200:=n0_;have BK201:=n1_;have HB:=n2_;clear n0_ n1_ n2_;(try clear hb)
   (try clear hb2)
   (try clear hk)
   (try clear hi)
   refine hK.out _ _ ⟨(blk_cell BK200.out 0).trans rfl,(blk_cell BK200.out 1).trans rfl,(blk_cell BK201.out 0).trans rfl,(blk_cell BK201.out 1).trans rfl⟩ (fun hHeld=>?_);clear hK K;refine norm_ (a':=?_) ?_ ?_
   rotate_left
   ·
    show Act.put _ (some 17) _=_
    simp only[Act.put,sa',sb',sc',i64_w,i32_w];rfl
   refine pure_ (i:=9) (N:=some 18) (v:=?_) (a':=?_) #[true,true,true,true,true,true,true,true,true,true,false] rfl rfl (any_of HT_.out (by kernel_rfl)) (fun _ _ _ h=>h) (Or.inl ⟨by rfl,?_⟩) ?_ ?_
   rotate_left
   ·
    intro w';go_simp;with_reducible rfl
   rotate_left
   ·
    simp only[Act.put,sa',sb',sc',i64_w,i32_w];rfl
   refine pure_ (i:=10) (N:=some 19) (v:=?_) (a':=?_) #[true,true,true,true,true,true,true,true,true,true,true] rfl rfl (any_of HT_.out (by kernel_rfl)) (fun _ _ _ h=>h) (Or.inl ⟨by rfl,?_⟩) ?_ ?_
   rotate_left
   ·
    intro w';go_simp;with_reducible rfl
   rotate_left
   ·
    simp only[Act.put,sa',sb',sc',i64_w,i32_w];rfl
   refine done_ (done_of HT_.out (by kernel_rfl)) ?_
   try go_wp2
   go_meet
   case rel=>exact ⟨_,(!t204),(by first|rfl|(simp;done)|(simp[*];done)),H',⟨by first|omega|exact Nat.le_refl _⟩,⟨by (with_reducible repeat (first|refine kn' ?_ _|refine kd' ?_|refine ka' ?_ _));exact BK200.out⟩,⟨by (with_reducible repeat (first|refine kn' ?_ _|refine kd' ?_|refine ka' ?_ _));exact BK201.out⟩,⟨by repeat (first|(with_reducible first|exact HB.out|apply ba'|apply bd'|apply be'|refine bs' ?_ GE200.out|refine bs' ?_ GE201.out)|exact HB.out)⟩⟩
  ·
   replace c7:=Bool.eq_false_iff.mpr c7;subst c7;have H1:(spec_RowsOf.j0 k true a0_0 a0_1 l1_0 a1_1)=some (r1,r2):=by rw[if_neg (show ¬ (false=true) by decide)] at H;exact H
   clear H;have H:=H1;clear H1;have H':=am' H;clear H;try go_wp2
   have n0_:=am' (kd' BK200.out);have n1_:=am' (kd' BK201.out);have n2_:=am' (be' HB.out);clear BK200;clear BK201;clear HB;have BK200:=n0_;have BK201:=n1_;have HB:=n2_;clear n0_ n1_ n2_;refine start_ (n:=11) (S:=fun w'=>w'.cell? ⟨gb200,0,none⟩=some (.int .i64 a0_0)∧w'.cell? ⟨gb200,1,none⟩=some (.int .i64 a0_1)∧w'.cell? ⟨gb201,0,none⟩=some (.slice A1_0 l1_0.length c1_0)∧w'.cell? ⟨gb201,1,none⟩=some (.bool a1_1)) (ds:=[]) #[false,false,false,false,false,false,false,false,false,false,false] (by kernel_rfl) rfl rfl ⟨(blk_cell BK200.out 0).trans rfl,(blk_cell BK200.out 1).trans rfl,(blk_cell BK201.out 0).trans rfl,(blk_cell BK201.out 1).trans rfl⟩ (fun hHeld=>?_);refine with_tabW spec_RowsOf.tab1 spec_RowsOf.bits1 (fun HT_ HW_=>?_);generalize w5.drew=w14 at BK200 BK201 HB hHeld ⊢
   refine take_ (i:=0) (N:=some 9) (v:=?_) (a':=?_) #[true,false,false,false,false,false,false,false,false,false,false] rfl rfl (take_ofW HT_.out HW_.out (by kernel_rfl)) (fun _ _ _ h=>h) (Or.inl ⟨by rfl,?_⟩) hHeld ?_ ?_
   rotate_left
   ·
    rintro w' ⟨s0,s1,s2,s3⟩
    go_simp;with_reducible rfl
   rotate_left
   ·
    simp only[Act.put,sa',sb',sc',i64_w,i32_w];rfl
   refine take_ (i:=1) (N:=some 10) (v:=?_) (a':=?_) #[true,true,false,false,false,false,false,false,false,false,false] rfl rfl (take_ofW HT_.out HW_.out (by kernel_rfl)) (fun _ _ _ h=>h) (Or.inl ⟨by rfl,?_⟩) hHeld ?_ ?_
   rotate_left
   ·
    rintro w' ⟨s0,s1,s2,s3⟩
    go_simp;with_reducible rfl
   rotate_left
   ·
    simp only[Act.put,sa',sb',sc',i64_w,i32_w];rfl
   refine one_ (i:=2) (N:=some 11) #[true,true,true,false,false,false,false,false,false,false,false] rfl rfl (one_of HT_.out (by kernel_rfl)) (by decide) (fun K hK=>?_);refine goes_ Try.func83 (by kernel_rfl) rfl #[.agg #[.int .i64 a0_0, .int .i64 a0_1], .agg #[.slice A1_0 l1_0.length c1_0, .bool a1_1]] (by rfl) rfl rfl (by (try simp only[List.map_toArray,List.map_cons,List.map_nil]);first|done|rfl|(simp only[List.length_drop,List.length_take];rfl)) ?_
   with_reducible refine (spec_cuIs.calls k a0_0 a0_1 _ _ l1_0 a1_1 false _ ?side1 ?side2 A6.out).mono ?_
   (case side1=>repeat (first|exact (Kd.C_below HR1_0.out HB.out)|(with_reducible refine ca' ?_ _)|(with_reducible refine cn' ?_ _)|(with_reducible refine cd' ?_)))
   (case side2=>exact HC1_0.out)
   rintro e w15 ⟨rfl,hb⟩
   refine ⟨_,rfl,?_⟩;have n0_:=am' (blk_below (g:=gb200) (o := .cells #[.int .i64 a0_0, .int .i64 a0_1] 40 (0,0)) (by (with_reducible repeat (first|refine kn' ?_ _|refine kd' ?_|refine ka' ?_ _));exact BK200.out) hb);have n1_:=am' (blk_below (g:=gb201) (o := .cells #[.slice A1_0 l1_0.length c1_0, .bool a1_1] 51 (0,0)) (by (with_reducible repeat (first|refine kn' ?_ _|refine kd' ?_|refine ka' ?_ _));exact BK201.out) hb);have n2_:=am' (below_step (by repeat (first|(with_reducible first|exact HB.out|apply ba'|apply bd'|apply be'|refine bs' ?_ GE200.out|refine bs' ?_ GE201.out)|exact HB.out)) hb);clear BK200;clear BK201;clear HB;have BK200:=n0_;have BK201:=n1_;have HB:=n2_;clear n0_ n1_ n2_;(try clear hb)
   (try clear hb2)
   (try clear hk)
   (try clear hi)
   refine hK.out _ _ ⟨(blk_cell BK200.out 0).trans rfl,(blk_cell BK200.out 1).trans rfl,(blk_cell BK201.out 0).trans rfl,(blk_cell BK201.out 1).trans rfl⟩ (fun hHeld=>?_);clear hK K;refine norm_ (a':=?_) ?_ ?_
   rotate_left
   ·
    show Act.put _ (some 11) _=_
    simp only[Act.put,sa',sb',sc',i64_w,i32_w];rfl
   refine pure_ (i:=3) (N:=some 12) (v:=?_) (a':=?_) #[true,true,true,true,false,false,false,false,false,false,false] rfl rfl (any_of HT_.out (by kernel_rfl)) (fun _ _ _ h=>h) (Or.inl ⟨by rfl,?_⟩) ?_ ?_
   rotate_left
   ·
    intro w';go_simp;with_reducible rfl
   rotate_left
   ·
    simp only[Act.put,sa',sb',sc',i64_w,i32_w];rfl
   refine pure_ (i:=4) (N:=some 13) (v:=?_) (a':=?_) #[true,true,true,true,true,false,false,false,false,false,false] rfl rfl (any_of HT_.out (by kernel_rfl)) (fun _ _ _ h=>h) (Or.inl ⟨by rfl,?_⟩) ?_ ?_
   rotate_left
   ·
    intro w';go_simp;with_reducible rfl
   rotate_left
   ·
    simp only[Act.put,sa',sb',sc',i64_w,i32_w];rfl
   refine pure_ (i:=5) (N:=some 14) (v:=undef) (a':=?_) #[true,true,true,true,true,true,false,false,false,false,false] rfl rfl (any_of HT_.out (by kernel_rfl)) (fun _ _ _ h=>h) (Or.inr ⟨by rfl,rfl⟩) ?_ ?_
   rotate_left
   ·
    simp only[Act.put,sa',sb',sc',i64_w,i32_w];rfl
   refine pure_ (i:=6) (N:=some 15) (v:=undef) (a':=?_) #[true,true,true,true,true,true,true,false,false,false,false] rfl rfl (any_of HT_.out (by kernel_rfl)) (fun _ _ _ h=>h) (Or.inr ⟨by rfl,rfl⟩) ?_ ?_
   rotate_left
   ·
    simp only[Act.put,sa',sb',sc',i64_w,i32_w];rfl
   refine pure_ (i:=7) (N:=some 16) (v:=undef) (a':=?_) #[true,true,true,true,true,true,true,true,false,false,false] rfl rfl (any_of HT_.out (by kernel_rfl)) (fun _ _ _ h=>h) (Or.inr ⟨by rfl,rfl⟩) ?_ ?_
   rotate_left
   ·
    simp only[Act.put,sa',sb',sc',i64_w,i32_w];rfl
   refine pure_ (i:=8) (N:=some 17) (v:=undef) (a':=?_) #[true,true,true,true,true,true,true,true,true,false,false] rfl rfl (any_of HT_.out (by kernel_rfl)) (fun _ _ _ h=>h) (Or.inr ⟨by rfl,rfl⟩) ?_ ?_
   rotate_left
   ·
    simp only[Act.put,sa',sb',sc',i64_w,i32_w];rfl
   refine pure_ (i:=9) (N:=some 18) (v:=undef) (a':=?_) #[true,true,true,true,true,true,true,true,true,true,false] rfl rfl (any_of HT_.out (by kernel_rfl)) (fun _ _ _ h=>h) (Or.inr ⟨by rfl,rfl⟩) ?_ ?_
   rotate_left
   ·
    simp only[Act.put,sa',sb',sc',i64_w,i32_w];rfl
   refine pure_ (i:=10) (N:=some 19) (v:=?_) (a':=?_) #[true,true,true,true,true,true,true,true,true,true,true] rfl rfl (any_of HT_.out (by kernel_rfl)) (fun _ _ _ h=>h) (Or.inl ⟨by rfl,?_⟩) ?_ ?_
   rotate_left
   ·
    intro w';go_simp;with_reducible rfl
   rotate_left
   ·
    simp only[Act.put,sa',sb',sc',i64_w,i32_w];rfl
   refine done_ (done_of HT_.out (by kernel_rfl)) ?_
   try go_wp2
   go_meet
   case rel=>exact ⟨_,(true),(by first|rfl|(simp;done)|(simp[*];done)),H',⟨by first|omega|exact Nat.le_refl _⟩,⟨by (with_reducible repeat (first|refine kn' ?_ _|refine kd' ?_|refine ka' ?_ _));exact BK200.out⟩,⟨by (with_reducible repeat (first|refine kn' ?_ _|refine kd' ?_|refine ka' ?_ _));exact BK201.out⟩,⟨by repeat (first|(with_reducible first|exact HB.out|apply ba'|apply bd'|apply be'|refine bs' ?_ GE200.out|refine bs' ?_ GE201.out)|exact HB.out)⟩⟩
 case rest =>
  clear HC3;try clear c1
  try clear p2
  try clear c3
  try clear c7
  try clear c8
  obtain ⟨kq,x19_2,rfl,HA,HJ2,BK200,BK201,HB⟩:=hcut;cases kq with
  | zero=>exact absurd HA.out (by simp[spec_RowsOf.j0])
  | succ kj2 =>
   have H:=HA.out;clear HA;simp only[spec_RowsOf.j0] at H;by_cases c16:x19_2=true
   ·
    subst c16;have H1:(some (([]:List (List Int)),false))=some (r1,r2):=by rw[if_pos rfl] at H;exact H
    clear H;have H:=H1;clear H1;simp only[Option.some.injEq,Prod.mk.injEq] at H;obtain ⟨rfl,rfl⟩:=H;go_wp2;go_ret2
    exact ⟨_,by first|rfl|(simp[errW_none,errW_some] <;> rfl)|(simp[*,errW_none,errW_some] <;> rfl),by first|exact Kd.S_nil _ _ _ _ _|exact Kd.N_nil _ _ _ _ _|exact Kd.V_nil _ _ _ _ _|exact Kd.Q_nil _ _ _ _ _|exact Kd.R_nil _ _ _ _ _,by repeat (first|(with_reducible first|exact HB.out|apply ba'|apply bd'|apply be'|refine bs' ?_ GE200.out|refine bs' ?_ GE201.out)|exact HB.out)⟩
   ·
    replace c16:=Bool.eq_false_iff.mpr c16;subst c16;have H1:((spec_cuCode.f kj2 l1_0 a1_1).bind fun t205=>((spec_cuRows.f kj2 a0_0 a0_1 t205).bind fun t206=>(spec_RowsOf.l0 kj2 ([]:List (List Int)) t206 (t206.length:Int) 0)))=some (r1,r2):=by rw[if_neg (show ¬ (false=true) by decide)] at H;exact H
    clear H;have H:=H1;clear H1;replace H:=Option.bind_eq_some_iff.mp H;obtain ⟨t205,A170,H⟩:=H;replace H:((spec_cuRows.f kj2 a0_0 a0_1 t205).bind fun t206=>(spec_RowsOf.l0 kj2 ([]:List (List Int)) t206 (t206.length:Int) 0))=some (r1,r2):=H;have A17:=am' A170;clear A170;replace H:=Option.bind_eq_some_iff.mp H;obtain ⟨t206,A180,H⟩:=H;replace H:(spec_RowsOf.l0 kj2 ([]:List (List Int)) t206 (t206.length:Int) 0)=some (r1,r2):=H;have A18:=am' A180;clear A180;have H':=am' H;clear H;try go_wp2
    have n0_:=am' (kd' BK200.out);have n1_:=am' (kd' BK201.out);have n2_:=am' (be' HB.out);clear BK200;clear BK201;clear HB;have BK200:=n0_;have BK201:=n1_;have HB:=n2_;clear n0_ n1_ n2_;refine start_ (n:=6) (S:=fun w'=>w'.cell? ⟨gb200,0,none⟩=some (.int .i64 a0_0)∧w'.cell? ⟨gb200,1,none⟩=some (.int .i64 a0_1)∧w'.cell? ⟨gb201,0,none⟩=some (.slice A1_0 l1_0.length c1_0)∧w'.cell? ⟨gb201,1,none⟩=some (.bool a1_1)) (ds:=[]) #[false,false,false,false,false,false] (by kernel_rfl) rfl rfl ⟨(blk_cell BK200.out 0).trans rfl,(blk_cell BK200.out 1).trans rfl,(blk_cell BK201.out 0).trans rfl,(blk_cell BK201.out 1).trans rfl⟩ (fun hHeld=>?_);generalize wc.drew=w19 at BK200 BK201 HB hHeld ⊢
    refine pure_ (i:=5) (N:=some 25) (v:=?_) (a':=?_) #[false,false,false,false,false,true] rfl rfl (by kernel_rfl) (fun _ _ _ h=>h) (Or.inl ⟨by rfl,?_⟩) ?_ ?_
    rotate_left
    ·
     intro w';go_simp;with_reducible rfl
    rotate_left
    ·
     simp only[Act.put,sa',sb',sc',i64_w,i32_w];rfl
    refine take_ (i:=0) (N:=some 20) (v:=?_) (a':=?_) #[true,false,false,false,false,true] rfl rfl (by kernel_rfl) (fun _ _ _ h=>h) (Or.inl ⟨by rfl,?_⟩) hHeld ?_ ?_
    rotate_left
    ·
     rintro w' ⟨s0,s1,s2,s3⟩
     go_simp;with_reducible rfl
    rotate_left
    ·
     simp only[Act.put,sa',sb',sc',i64_w,i32_w];rfl
    refine take_ (i:=1) (N:=some 21) (v:=?_) (a':=?_) #[true,true,false,false,false,true] rfl rfl (by kernel_rfl) (fun _ _ _ h=>h) (Or.inl ⟨by rfl,?_⟩) hHeld ?_ ?_
    rotate_left
    ·
     rintro w' ⟨s0,s1,s2,s3⟩
     go_simp;with_reducible rfl
    rotate_left
    ·
     simp only[Act.put,sa',sb',sc',i64_w,i32_w];rfl
    refine one_ (i:=2) (N:=some 22) #[true,true,true,false,false,true] rfl rfl (by kernel_rfl) (by decide) (fun K hK=>?_);refine goes_ Try.func85 (by kernel_rfl) rfl #[.agg #[.slice A1_0 l1_0.length c1_0, .bool a1_1]] (by rfl) rfl rfl (by (try simp only[List.map_toArray,List.map_cons,List.map_nil]);first|done|rfl|(simp only[List.length_drop,List.length_take];rfl)) ?_
    with_reducible refine (spec_cuCode.calls kj2 _ _ l1_0 a1_1 t205 _ ?side1 ?side2 A17.out).mono ?_
    (case side1=>repeat (first|exact (Kd.C_below HR1_0.out HB.out)|(with_reducible refine ca' ?_ _)|(with_reducible refine cn' ?_ _)|(with_reducible refine cd' ?_)))
    (case side2=>exact HC1_0.out)
    rintro e w20 ⟨rfl,hb⟩
    refine ⟨_,rfl,?_⟩;have n0_:=am' (blk_below (g:=gb200) (o := .cells #[.int .i64 a0_0, .int .i64 a0_1] 40 (0,0)) (by (with_reducible repeat (first|refine kn' ?_ _|refine kd' ?_|refine ka' ?_ _));exact BK200.out) hb);have n1_:=am' (blk_below (g:=gb201) (o := .cells #[.slice A1_0 l1_0.length c1_0, .bool a1_1] 51 (0,0)) (by (with_reducible repeat (first|refine kn' ?_ _|refine kd' ?_|refine ka' ?_ _));exact BK201.out) hb);have n2_:=am' (below_step (by repeat (first|(with_reducible first|exact HB.out|apply ba'|apply bd'|apply be'|refine bs' ?_ GE200.out|refine bs' ?_ GE201.out)|exact HB.out)) hb);clear BK200;clear BK201;clear HB;have BK200:=n0_;have BK201:=n1_;have HB:=n2_;clear n0_ n1_ n2_;(try clear hb)
    (try clear hb2)
    (try clear hk)
    (try clear hi)
    refine hK.out _ _ ⟨(blk_cell BK200.out 0).trans rfl,(blk_cell BK200.out 1).trans rfl,(blk_cell BK201.out 0).trans rfl,(blk_cell BK201.out 1).trans rfl⟩ (fun hHeld=>?_);clear hK K;refine norm_ (a':=?_) ?_ ?_
    rotate_left
    ·
     show Act.put _ (some 22) _=_
     simp only[Act.put,sa',sb',sc',i64_w,i32_w];rfl
    refine one_ (i:=3) (N:=some 23) #[true,true,true,true,false,true] rfl rfl (by kernel_rfl) (by decide) (fun K hK=>?_);refine goes_ Try.func86 (by kernel_rfl) rfl #[.agg #[.int .i64 a0_0, .int .i64 a0_1], .int .i64 t205] (by rfl) rfl rfl (by (try simp only[List.map_toArray,List.map_cons,List.map_nil]);first|done|rfl|(simp only[List.length_drop,List.length_take];rfl)) ?_
    with_reducible refine (spec_cuRows.calls kj2 a0_0 a0_1 t205 t206 _ A18.out).mono ?_
    rintro e w21 ⟨v207,rfl,ho0,hb⟩
    refine ⟨_,rfl,?_⟩;have n0_:=am' (Kd.R_lower ho0 (below_size (by repeat (first|(with_reducible first|exact HB.out|apply ba'|apply bd'|apply be'|refine bs' ?_ GE200.out|refine bs' ?_ GE201.out)|exact HB.out))));have n1_:=am' (blk_below (g:=gb200) (o := .cells #[.int .i64 a0_0, .int .i64 a0_1] 40 (0,0)) (by (with_reducible repeat (first|refine kn' ?_ _|refine kd' ?_|refine ka' ?_ _));exact BK200.out) hb);have n2_:=am' (blk_below (g:=gb201) (o := .cells #[.slice A1_0 l1_0.length c1_0, .bool a1_1] 51 (0,0)) (by (with_reducible repeat (first|refine kn' ?_ _|refine kd' ?_|refine ka' ?_ _));exact BK201.out) hb);have n3_:=am' (below_step (by repeat (first|(with_reducible first|exact HB.out|apply ba'|apply bd'|apply be'|refine bs' ?_ GE200.out|refine bs' ?_ GE201.out)|exact HB.out)) hb);clear BK200;clear BK201;clear HB;have HO208:=n0_;have BK200:=n1_;have BK201:=n2_;have HB:=n3_;clear n0_ n1_ n2_ n3_;(try clear hb)
    (try clear hb2)
    (try clear hk)
    (try clear hi)
    (try clear ho0)
    obtain ⟨Ao22,co22,eo22⟩:=Kd.R_slice HO208.out
    (first|subst eo22|(injection eo22 with f1_ f2_ f3_;have f4_:=f1_.symm;have f5_:=f3_.symm;clear f1_ f2_ f3_;subst f4_;subst f5_))
    refine hK.out _ _ ⟨(blk_cell BK200.out 0).trans rfl,(blk_cell BK200.out 1).trans rfl,(blk_cell BK201.out 0).trans rfl,(blk_cell BK201.out 1).trans rfl⟩ (fun hHeld=>?_);clear hK K;refine norm_ (a':=?_) ?_ ?_
    rotate_left
    ·
     show Act.put _ (some 23) _=_
     simp only[Act.put,sa',sb',sc',i64_w,i32_w];rfl
    refine pure_ (i:=4) (N:=some 24) (v:=?_) (a':=?_) #[true,true,true,true,true,true] rfl rfl (by kernel_rfl) (fun _ _ _ h=>h) (Or.inl ⟨by rfl,?_⟩) ?_ ?_
    rotate_left
    ·
     intro w';go_simp;with_reducible rfl
    rotate_left
    ·
     simp only[Act.put,sa',sb',sc',i64_w,i32_w];rfl
    refine done_ (by kernel_rfl) ?_
    try go_wp2
    go_loopg [6,25] kj2 (fun kq v6 v25 w'=>∃ (x6_2:List (List Int)) (x25_2:Int),v25 = .int .i64 x25_2∧Aside0 (spec_RowsOf.l0 kq x6_2 t206 (t206.length:Int) x25_2=some (r1,r2))∧Aside0 (kq≤kj2)∧Aside0 (Kd.S (Kd.slice 3 (Kd.int .i64)) 32 w' w.heap.size (fun k_=>some k_≠((.slice Ao22 t206.length co22):Value).ownBlock) v6 x6_2)∧Aside0 (Kd.R (Kd.int .i64) 3 w' w.heap.size (fun _=>True) (.slice Ao22 t206.length co22) t206)∧Aside0 (w'.heap[gb200]? = some (.cells #[.int .i64 a0_0, .int .i64 a0_1] 40 (0,0)))∧Aside0 (w'.heap[gb201]? = some (.cells #[(.slice A1_0 l1_0.length c1_0), .bool a1_1] 51 (0,0)))∧Aside0 (Below w.heap.size w w'))
    case atStart=>exact ⟨(([]:List (List Int))),(0),(by first|rfl|(simp;done)|(simp[*];done)),H',⟨Nat.le_refl _⟩,⟨by first|exact Kd.S_nil _ _ _ _ _|exact Kd.N_nil _ _ _ _ _|exact Kd.V_nil _ _ _ _ _|exact Kd.Q_nil _ _ _ _ _|exact Kd.R_nil _ _ _ _ _⟩,⟨by (with_reducible repeat (first|apply ra'|apply rn'|apply rw'));exact HO208.out⟩,⟨by (with_reducible repeat (first|refine kn' ?_ _|refine kd' ?_|refine ka' ?_ _));exact BK200.out⟩,⟨by (with_reducible repeat (first|refine kn' ?_ _|refine kd' ?_|refine ka' ?_ _));exact BK201.out⟩,⟨by repeat (first|(with_reducible first|exact HB.out|apply ba'|apply bd'|apply be'|refine bs' ?_ GE200.out|refine bs' ?_ GE201.out)|exact HB.out)⟩⟩
    case round =>
     clear H';try clear c1
     try clear p2
     try clear c3
     try clear c7
     try clear c8
     try clear c16
     try clear p2
     obtain ⟨x6_2,x25_2,rfl,HA,HK2,HO_6,HO_23,BK200,BK201,HB⟩:=hrel;cases gk with
     | zero=>exact absurd HA.out (by simp[spec_RowsOf.l0])
     | succ k2 =>
      have H:=HA.out;clear HA;simp only[spec_RowsOf.l0] at H;by_cases c23:x25_2 < (t206.length:Int)
      ·
       rw[if_pos c23] at H;have c23b0:decide (x25_2 < (t206.length:Int))=true:=decide_eq_true c23;clear c23;by_cases c24:0≤x25_2
       ·
        rw[if_pos c24] at H;have c24b0:decide (0≤x25_2)=true:=decide_eq_true c24;clear c24;by_cases c25:x25_2 < (t206.length:Int)
        ·
         rw[if_pos c25] at H;have c25b0:decide (x25_2 < (t206.length:Int))=true:=decide_eq_true c25;clear c25;replace H:=Option.bind_eq_some_iff.mp H;obtain ⟨t210,A260,H⟩:=H;replace H:(if x6_2.length < 5864062014805 then (spec_RowsOf.l0 k2 (x6_2 ++ [t210]) t206 (t206.length:Int) (wrap64 (x25_2+1))) else (none))=some (r1,r2):=H;have A26:=am' A260;clear A260;by_cases c27:x6_2.length < 5864062014805
         ·
          rw[if_pos c27] at H;have LMc27:=am' c27;clear c27;obtain ⟨y213,hy213⟩:∃ y_:List (List Int),y_=(x6_2 ++ [t210]):=⟨_,rfl⟩
          replace H:(spec_RowsOf.l0 k2 y213 t206 (t206.length:Int) (wrap64 (x25_2+1)))=some (r1,r2):=by first|(rw[hy213];with_reducible exact H)|(have H2_:=(Option.bind_some _ _).symm.trans H;rw[hy213];with_reducible exact H2_)|(have H2_:=(Option.bind_some _ _).symm.trans H;with_reducible exact H2_)|with_reducible exact H|(rw[hy213];exact H)|exact H
          have Ny213:=am' hy213;clear hy213;have H':=am' H;clear H;have p209:0≤(x25_2:Int):=of_decide_eq_true (by first|(with_reducible assumption)|assumption);have q209:x25_2 < (t206.length:Int):=of_decide_eq_true (by first|(with_reducible assumption)|assumption);obtain ⟨ad209,e209,hx209_0⟩:=Kd.at_int (Kd.R_reads' HO_23.out).2.2 x25_2 p209 q209;cases e209;replace p209:=eq_true p209;replace q209:=eq_true q209;go_wp2_with (first|((with_reducible refine gate_callee (f:=87) rfl ?_);refine goesL_ (some 31) rfl rfl Try.func87 (by kernel_rfl) rfl #[.int .i64 (rd t206 x25_2)] rfl (by (try simp only[List.map_toArray,List.map_cons,List.map_nil]);first|done|rfl|(simp only[List.length_drop,List.length_take];rfl)) ?_;(with_reducible refine (spec_cuList.calls k2 (rd t206 x25_2) t210 _ A26.out).mono ?_);rintro e w28 ⟨v211,rfl,ho0,hb⟩;refine ⟨_,rfl,?_⟩;have n0_:=am' (Kd.S_elder' (by (with_reducible repeat (first|apply Kd.S_alloc|apply Kd.S_drewN|apply Kd.S_drew));exact HO_6.out) (Kd.R_base ho0) hb);have n1_:=am' (Kd.R_elder' (by (with_reducible repeat (first|apply ra'|apply rn'|apply rw'));exact HO_23.out) (Kd.R_base ho0) hb);have n2_:=am' (Kd.R_lower (Kd.R_new' ho0 (Kd.R_lt (by (with_reducible repeat (first|apply ra'|apply rn'|apply rw'));exact HO_23.out))) (below_size (by repeat (first|(with_reducible first|exact HB.out|apply ba'|apply bd'|apply be'|refine bs' ?_ GE200.out|refine bs' ?_ GE201.out)|exact HB.out))));have n3_:=am' (blk_below (g:=gb200) (o := .cells #[.int .i64 a0_0, .int .i64 a0_1] 40 (0,0)) (by (with_reducible repeat (first|refine kn' ?_ _|refine kd' ?_|refine ka' ?_ _));exact BK200.out) hb);have n4_:=am' (blk_below (g:=gb201) (o := .cells #[.slice A1_0 l1_0.length c1_0, .bool a1_1] 51 (0,0)) (by (with_reducible repeat (first|refine kn' ?_ _|refine kd' ?_|refine ka' ?_ _));exact BK201.out) hb);have n5_:=am' (below_step (by repeat (first|(with_reducible first|exact HB.out|apply ba'|apply bd'|apply be'|refine bs' ?_ GE200.out|refine bs' ?_ GE201.out)|exact HB.out)) hb);clear HO_6;clear HO_23;clear BK200;clear BK201;clear HB;have HO_6:=n0_;have HO_23:=n1_;have HO212:=n2_;have BK200:=n3_;have BK201:=n4_;have HB:=n5_;clear n0_ n1_ n2_ n3_ n4_ n5_;(try clear hb);(try clear hb2);(try clear hk);(try clear hi);(try clear ho0);obtain ⟨Ao30,co30,eo30⟩:=Kd.R_slice HO212.out;subst eo30)|((with_reducible refine gate_builtin (b := .append) (xs:=#[.tmp 29, .tmp 32]) rfl ?_);at_builtin;refine Kd.S_append (Kd.slice 3 (Kd.int .i64)) (w0:=w) w.heap.size rfl (.tmp 29) (.tmp 32) 27 32 (.slice none 0 0) 24 rfl Try.underlying27 info32 rfl (by decide) (by omega) u6 x6_2 t210 [.slice Ao30 t210.length co30] (fun k_=>some k_≠(.slice (some ad209) t206.length co22:Value).ownBlock) (fun k_=>some k_=(.slice Ao30 t210.length co30:Value).ownBlock) rfl rfl ?aP (fun k_ hk_=>((Kd.R_mono (ok':=fun k_=>((fun k_=>some k_≠(.slice (some ad209) t206.length co22:Value).ownBlock)) k_∧some k_≠(u6:Value).ownBlock) (Kd.R_apart' (HO212.out) (Kd.S_typed HO_6.out) (by decide)) (fun k_ hk=>⟨hk.1.2,hk.2⟩))).1 k_ hk_.symm) ?aF ?aO ?aB ?aS ?aL ?_;(case aP=>exact Kd.M_row (Kd.R_mono (Kd.R_tight rfl (Kd.R_mono (ok':=fun k_=>((fun k_=>some k_≠(.slice (some ad209) t206.length co22:Value).ownBlock)) k_∧some k_≠(u6:Value).ownBlock) (Kd.R_apart' (HO212.out) (Kd.S_typed HO_6.out) (by decide)) (fun k_ hk=>⟨hk.1.2,hk.2⟩))) (fun _ h_=>h_)));(case aB=>exact (by repeat (first|(with_reducible first|exact HB.out|apply ba'|apply bd'|apply be'|refine bs' ?_ GE200.out|refine bs' ?_ GE201.out)|exact HB.out)));(case aF=>exact (fun k_ hk=>Kd.fresh' (Kd.R_lt (by (with_reducible repeat (first|apply ra'|apply rn'|apply rw'));exact HO_23.out)) k_ hk));(case aO=>exact (by (with_reducible repeat (first|apply Kd.S_alloc|apply Kd.S_drewN|apply Kd.S_drew));exact Kd.S_mono HO_6.out (fun k_ hk=>⟨hk.1,fun e_=>hk.2 e_⟩)));(case aS=>exact (below_size (by repeat (first|(with_reducible first|exact HB.out|apply ba'|apply bd'|apply be'|refine bs' ?_ GE200.out|refine bs' ?_ GE201.out)|exact HB.out))));(case aL=>have:=LMc27.out;omega);intro v214 w29 ho hb hg hat;rw[← Ny213.out] at ho;have n0_:=am' (Kd.R_over' (by (with_reducible repeat (first|apply ra'|apply rn'|apply rw'));exact HO_23.out) (Kd.S_typed (by (with_reducible repeat (first|apply Kd.S_alloc|apply Kd.S_drewN|apply Kd.S_drew));exact HO_6.out)) (by decide) hg);have n1_:=am' (blk_grown (g:=gb200) (o := .cells #[.int .i64 a0_0, .int .i64 a0_1] 40 (0,0)) (by (with_reducible repeat (first|refine kn' ?_ _|refine kd' ?_|refine ka' ?_ _));exact BK200.out) hg (Kd.S_ne HO_6.out BK200.out (by decide)));have n2_:=am' (blk_grown (g:=gb201) (o := .cells #[.slice A1_0 l1_0.length c1_0, .bool a1_1] 51 (0,0)) (by (with_reducible repeat (first|refine kn' ?_ _|refine kd' ?_|refine ka' ?_ _));exact BK201.out) hg (Kd.S_ne HO_6.out BK201.out (by decide)));have n3_:=am' (hb);have n4_:=am' (ho);clear HO_23;clear BK200;clear BK201;clear HB;clear HO_6;clear HO212;have HO_23:=n0_;have BK200:=n1_;have BK201:=n2_;have HB:=n3_;have HO215:=n4_;clear n0_ n1_ n2_ n3_ n4_;clear ho hb hg hat))
          go_roundg k2
          case measure=>have:=HJ2.out;have:=HK2.out;omega
          case rel=>exact ⟨(y213),(wrap64 (x25_2+1)),(by first|rfl|(simp;done)|(simp[*];done)),H',⟨by have:=HJ2.out;have:=HK2.out;omega⟩,⟨by (with_reducible repeat (first|apply Kd.S_alloc|apply Kd.S_drewN|apply Kd.S_drew));exact HO215.out⟩,⟨by (with_reducible repeat (first|apply ra'|apply rn'|apply rw'));exact Kd.R_mono HO_23.out (fun _ hk=>trivial)⟩,⟨by (with_reducible repeat (first|refine kn' ?_ _|refine kd' ?_|refine ka' ?_ _));exact BK200.out⟩,⟨by (with_reducible repeat (first|refine kn' ?_ _|refine kd' ?_|refine ka' ?_ _));exact BK201.out⟩,⟨by repeat (first|(with_reducible first|exact HB.out|apply ba'|apply bd'|apply be'|refine bs' ?_ GE200.out|refine bs' ?_ GE201.out)|exact HB.out)⟩⟩
         ·
          rw[if_neg c27] at H;exact absurd H (by simp)
        ·
         rw[if_neg c25] at H;exact absurd H (by simp)
       ·
        rw[if_neg c24] at H;exact absurd H (by simp)
      ·
       rw[if_neg c23] at H;have c23b0:decide (x25_2 < (t206.length:Int))=false:=decide_eq_false c23;clear c23;simp only[Option.some.injEq,Prod.mk.injEq] at H;obtain ⟨rfl,rfl⟩:=H;go_wp2;go_ret2
       exact ⟨_,by first|rfl|(simp[errW_none,errW_some] <;> rfl)|(simp[*,errW_none,errW_some] <;> rfl),by (with_reducible repeat (first|apply Kd.S_alloc|apply Kd.S_drewN|apply Kd.S_drew));exact Kd.S_mono HO_6.out (fun _ hk=>trivial),by repeat (first|(with_reducible first|exact HB.out|apply ba'|apply bd'|apply be'|refine bs' ?_ GE200.out|refine bs' ?_ GE201.out)|exact HB.out)⟩
def laws_toBoolS.l0:Nat→List Bool→List Bool→Int→Option (List Bool)
 | 0,_,_,_=>none
 | k+1,x0,x3,x4=>if x4 < (x0.length:Int) then (if 0≤x4 then (if x4 < (x3.length:Int) then (laws_toBoolS.l0 k x0 (x3.set (x4:Int).toNat (rdOf false x0 x4)) (wrap64 (x4+1))) else (none)) else (none)) else (some x3)
def laws_toBoolS.f (k:Nat) (l0:List Bool):Option (List Bool):=if 0≤(l0.length:Int) then (if ((l0.length:Int):Int).toNat≤281474976710656 then (laws_toBoolS.l0 k l0 (List.replicate ((l0.length:Int):Int).toNat false) 0) else (none)) else (none)
set_option maxHeartbeats 8000000 in
set_option maxRecDepth 100000 in
theorem laws_toBoolS.calls (k:Nat) (A0:Option Addr) (c0:Nat) (l0:List Bool) (r:List Bool) (w:World) (hr0:Kd.C Kd.bool w A0 l0.length l0) (hc0:l0.length≤c0) (h:laws_toBoolS.f k l0=some r) :
  Calls Try.prog 88 #[.slice A0 l0.length c0] w fun e w'=>∃ v0_:Value,e = .returned (v0_)∧Kd.R Kd.bool 4 w' w.heap.size (fun _=>True) v0_ r∧Below w.heap.size w w':=by
 have HR0:=am' hr0
 have HC0:=am' hc0
 clear hr0 hc0;have HB:=am' (Below.refl w.heap.size w)
 have H:(if 0≤(l0.length:Int) then (if ((l0.length:Int):Int).toNat≤281474976710656 then (laws_toBoolS.l0 k l0 (List.replicate ((l0.length:Int):Int).toNat false) 0) else (none)) else (none))=some r:=h
 clear h;by_cases c2:0≤(l0.length:Int)
 ·
  rw[if_pos c2] at H;have c2b0:=eq_true c2;have c2b1:decide (0≤(l0.length:Int))=true:=decide_eq_true c2;clear c2;by_cases c3:((l0.length:Int):Int).toNat≤281474976710656
  ·
   rw[if_pos c3] at H;have c3b0:=eq_true c3;have c3b1:decide (((l0.length:Int):Int).toNat≤281474976710656)=true:=decide_eq_true c3;clear c3;obtain ⟨y216,hy216⟩:∃ y_:List Bool,y_=(List.replicate ((l0.length:Int):Int).toNat false):=⟨_,rfl⟩
   replace H:(laws_toBoolS.l0 k l0 y216 0)=some r:=by first|(rw[hy216];with_reducible exact H)|(have H2_:=(Option.bind_some _ _).symm.trans H;rw[hy216];with_reducible exact H2_)|(have H2_:=(Option.bind_some _ _).symm.trans H;with_reducible exact H2_)|with_reducible exact H|(rw[hy216];exact H)|exact H
   have Ny216:=am' hy216;clear hy216;have H':=am' H;clear H;go_enter Try.func88,Try.ntmps88;go_wp2_with (first|((with_reducible refine gate_dst (N:=7) rfl ?_);refine Kd.R_make Kd.bool _ 4 rfl (N:=7) rfl 46 _ _ rfl (l0.length:Int) rfl rfl Try.underlying46 (.bool false) 1 info4 rfl (by decide) (by omega) false (ok:=fun _=>True) (okp:=fun _=>True) rfl (fun _ hk=>hk) trivial (of_decide_eq_true (by first|(with_reducible assumption)|assumption)) (Nat.le_trans (Nat.mul_le_mul_right _ (of_decide_eq_true (by first|(with_reducible assumption)|assumption):(l0.length:Int).toNat≤281474976710656)) (by omega)) (Below.refl _ _) (Nat.le_refl _) ?_;intro v217 w4 ho5 hb hg_ hnew_;clear hg_ hnew_;(first|rw[← Ny216.out] at ho5|(simp only[Int.reduceToNat] at ho5;rw[← Ny216.out] at ho5));have n0_:=am' (Kd.R_lower ho5 (below_size (by repeat (first|(with_reducible first|exact HB.out|apply ba'|apply bd'|apply be')|exact HB.out))));have n1_:=am' (below_step (by repeat (first|(with_reducible first|exact HB.out|apply ba'|apply bd'|apply be')|exact HB.out)) hb);clear HB;have HO218:=n0_;have HB:=n1_;clear n0_ n1_;clear hb ho5));go_loopg [4] k (fun kq v4 w'=>∃ (x3_1:List Bool) (x4_1:Int),v4 = .int .i64 x4_1∧Aside0 (laws_toBoolS.l0 kq l0 x3_1 x4_1=some r)∧Aside0 (kq≤k)∧Aside0 (Kd.R Kd.bool 4 w' w.heap.size (fun _=>True) v217 x3_1)∧Aside0 (Below w.heap.size w w'))
   case atStart=>exact ⟨(y216),(0),(by first|rfl|(simp;done)|(simp[*];done)),H',⟨Nat.le_refl _⟩,⟨by (with_reducible repeat (first|apply ra'|apply rn'|apply rw'));exact HO218.out⟩,⟨by repeat (first|(with_reducible first|exact HB.out|apply ba'|apply bd'|apply be')|exact HB.out)⟩⟩
   case round =>
    clear H';try clear c2
    try clear c2b0
    try clear c2b1
    try clear p2
    try clear c3
    try clear c3b0
    try clear c3b1
    obtain ⟨x3_1,x4_1,rfl,HA,HK1,HO_3,HB⟩:=hrel;cases gk with
    | zero=>exact absurd HA.out (by simp[laws_toBoolS.l0])
    | succ k1 =>
     have H:=HA.out;clear HA;simp only[laws_toBoolS.l0] at H;by_cases c6:x4_1 < (l0.length:Int)
     ·
      rw[if_pos c6] at H;have c6b0:decide (x4_1 < (l0.length:Int))=true:=decide_eq_true c6;clear c6;by_cases c7:0≤x4_1
      ·
       rw[if_pos c7] at H;have c7b0:decide (0≤x4_1)=true:=decide_eq_true c7;clear c7;by_cases c8:x4_1 < (x3_1.length:Int)
       ·
        rw[if_pos c8] at H;have c8b0:decide (x4_1 < (x3_1.length:Int))=true:=decide_eq_true c8;clear c8;obtain ⟨y220,hy220⟩:∃ y_:List Bool,y_=(x3_1.set (x4_1:Int).toNat (rdOf false l0 x4_1)):=⟨_,rfl⟩
        replace H:(laws_toBoolS.l0 k1 l0 y220 (wrap64 (x4_1+1)))=some r:=by first|(rw[hy220];with_reducible exact H)|(have H2_:=(Option.bind_some _ _).symm.trans H;rw[hy220];with_reducible exact H2_)|(have H2_:=(Option.bind_some _ _).symm.trans H;with_reducible exact H2_)|with_reducible exact H|(rw[hy220];exact H)|exact H
        have Ny220:=am' hy220;clear hy220;have H':=am' H;clear H;have p219:0≤(x4_1:Int):=of_decide_eq_true (by first|(with_reducible assumption)|assumption);have q219:x4_1 < (l0.length:Int):=of_decide_eq_true (by first|(with_reducible assumption)|assumption);obtain ⟨ad219,e219,hx219_0⟩:=Kd.at_bool HR0.out x4_1 p219 q219;cases e219;replace hx219_0:=(HB.out.cell (bl' w _ hx219_0)).trans hx219_0;replace p219:=eq_true p219;replace q219:=eq_true q219;have p9:0≤(x4_1:Int):=of_decide_eq_true (by first|(with_reducible assumption)|assumption);have q9:(x4_1:Int) < ((x3_1.length:Int):Int):=of_decide_eq_true (by first|(with_reducible assumption)|assumption);obtain ⟨go9,co9,eo9,gb9,gl9,cl9,HG9⟩:=Kd.R_form HO_3.out (by omega)
        (first|cases eo9|(injection eo9 with ea_ en_ ec_;(first|subst ea_|(injection ea_ with ea_;subst ea_));subst ec_;clear en_))
        have GB9:=am' gb9;have GG9:=am' HG9;clear gb9 gl9 HG9;obtain ⟨hx9_0,hf9_0⟩:=Kd.R_celln false HO_3.out (x4_1:Int) p9 q9;replace p9:=eq_true p9;replace q9:=eq_true q9;have HP10:=Kd.R_putg HO_3.out (x4_1:Int) (rdOf false l0 x4_1);go_wp2_with (first|((with_reducible refine gate_store (t:=4) (p:=20) rfl ?_);refine store_event (t:=4) (p:=20) (v:=?vo_w11) (w1:=(wr.setCell ⟨go9,(x4_1:Int).toNat,none⟩ (.bool (rdOf false l0 x4_1)))) ?hg ?ho ?hn ?hr ?_;(case ho=>rfl);(case hg=>rfl);(case hn=>rfl);(case hr=>first|(go_simp;done)|(go_simp;rfl));intro w11 hw;have hg:wr.grownBy w11 (some go9):=(by rw[hw];exact HP10.2);have hp_:Kd.R Kd.bool 4 w11 w.heap.size (fun _=>True) (.slice (some ⟨go9,0,none⟩) x3_1.length co9) y220:=(by rw[hw,Ny220.out];exact HP10.1);clear HP10;have n0_:=am' (hp_);have n1_:=am' ((by rw[hw];exact bs' (HB.out) GB9.out:Below w.heap.size w w11));clear HO_3;clear HB;have HO_3:=n0_;have HB:=n1_;clear n0_ n1_;clear hg hw hp_));go_roundg k1
        case measure=>have:=HK1.out;omega
        case rel=>exact ⟨(y220),(wrap64 (x4_1+1)),(by first|rfl|(simp;done)|(simp[*];done)),H',⟨by have:=HK1.out;omega⟩,⟨by (with_reducible repeat (first|apply ra'|apply rn'|apply rw'));exact HO_3.out⟩,⟨by repeat (first|(with_reducible first|exact HB.out|apply ba'|apply bd'|apply be')|exact HB.out)⟩⟩
       ·
        rw[if_neg c8] at H;exact absurd H (by simp)
      ·
       rw[if_neg c7] at H;exact absurd H (by simp)
     ·
      rw[if_neg c6] at H;have c6b0:decide (x4_1 < (l0.length:Int))=false:=decide_eq_false c6;clear c6;obtain rfl:=Option.some.inj H;go_wp2;go_ret
      exact ⟨_,by first|rfl|(simp[errW_none,errW_some] <;> rfl)|(simp[*,errW_none,errW_some] <;> rfl),by (with_reducible repeat (first|apply ra'|apply rn'|apply rw'));exact HO_3.out,by repeat (first|(with_reducible first|exact HB.out|apply ba'|apply bd'|apply be')|exact HB.out)⟩
  ·
   rw[if_neg c3] at H;exact absurd H (by simp)
 ·
  rw[if_neg c2] at H;exact absurd H (by simp)
def laws_toState.f (k:Nat) (l0_0:List Bool) (a0_1:Bool):Option (List Bool × Bool):=(laws_toBoolS.f k l0_0).bind fun t224=>(some (t224,a0_1))
set_option maxHeartbeats 8000000 in
set_option maxRecDepth 100000 in
theorem laws_toState.calls (k:Nat) (A0_0:Option Addr) (c0_0:Nat) (l0_0:List Bool) (a0_1:Bool) (r1:List Bool) (r2:Bool) (w:World) (hr0_0:Kd.C Kd.bool w A0_0 l0_0.length l0_0) (hc0_0:l0_0.length≤c0_0) (h:laws_toState.f k l0_0 a0_1=some (r1,r2)) :
  Calls Try.prog 39 #[.agg #[.slice A0_0 l0_0.length c0_0, .bool a0_1]] w fun e w'=>∃ v0_:Value,e = .returned (.agg #[v0_, .bool r2])∧Kd.R Kd.bool 4 w' w.heap.size (fun _=>True) v0_ r1∧Below w.heap.size w w':=by
 have hu48:=Try.underlying48
 have hu51:=Try.underlying51
 have HR0_0:=am' hr0_0
 have HC0_0:=am' hc0_0
 clear hr0_0 hc0_0;have HB:=am' (Below.refl w.heap.size w)
 have H:((laws_toBoolS.f k l0_0).bind fun t224=>(some (t224,a0_1)))=some (r1,r2):=h
 clear h;replace H:=Option.bind_eq_some_iff.mp H
 obtain ⟨t224,A20,H⟩:=H
 replace H:(some (t224,a0_1))=some (r1,r2):=H
 have A2:=am' A20
 clear A20;simp only[Option.some.injEq,Prod.mk.injEq] at H
 obtain ⟨rfl,rfl⟩:=H
 go_enter Try.func39,Try.ntmps39
 go_wp2_with (first|((with_reducible refine gate_dst (N:=1) rfl ?_);refine box_event ?hg (N:=1) ?hd (cs:=#[.slice A0_0 l0_0.length c0_0, .bool a0_1]) (t:=48) ?hr ?_;(case hd=>rfl);(case hg=>rfl);(case hr=>first|(go_simp;done)|(go_simp;rfl));intro gb221 hg w3 hbox hb;have n0_:=am' (below_step (by repeat (first|(with_reducible first|exact HB.out|apply ba'|apply bd'|apply be')|exact HB.out)) hb);have n1_:=am' (hbox);have n2_:=am' ((by rw[hg];exact (below_size (by repeat (first|(with_reducible first|exact HB.out|apply ba'|apply bd'|apply be')|exact HB.out))):w.heap.size≤gb221));have n3_:=am' ((by rw[hg];exact (below_size (by repeat (first|(with_reducible first|exact HB.out|apply ba'|apply bd'|apply be')|exact HB.out))):w.heap.size≤gb221));clear HB;have HB:=n0_;have BK221:=n1_;have GW221:=n2_;have GE221:=n3_;clear n0_ n1_ n2_ n3_;clear hb hbox hg)|((with_reducible refine gate_dst (N:=2) rfl ?_);refine box_event ?hg (N:=2) ?hd (cs:=#[.slice none 0 0, .bool false]) (t:=51) ?hr ?_;(case hd=>rfl);(case hg=>rfl);(case hr=>first|(go_simp;done)|(go_simp;rfl));intro gb222 hg w4 hbox hb;have n0_:=am' (blk_below (g:=gb221) (o := .cells #[.slice A0_0 l0_0.length c0_0, .bool a0_1] 48 (0,0)) (by (with_reducible repeat (first|refine kn' ?_ _|refine kd' ?_|refine ka' ?_ _));exact BK221.out) hb);have n1_:=am' (below_step (by repeat (first|(with_reducible first|exact HB.out|apply ba'|apply bd'|apply be'|refine bs' ?_ GE221.out)|exact HB.out)) hb);have n2_:=am' (hbox);have n3_:=am' ((by rw[hg];exact (below_size (by repeat (first|(with_reducible first|exact HB.out|apply ba'|apply bd'|apply be'|refine bs' ?_ GE221.out)|exact HB.out))):w.heap.size≤gb222));have n4_:=am' ((by rw[hg];exact (below_size (by repeat (first|(with_reducible first|exact HB.out|apply ba'|apply bd'|apply be'|refine bs' ?_ GE221.out)|exact HB.out))):w.heap.size≤gb222));have n5_:=am' ((by rw[hg];exact Nat.ne_of_lt (blk_lt (g:=gb221) (o := .cells #[.slice A0_0 l0_0.length c0_0, .bool a0_1] 48 (0,0)) (by (with_reducible repeat (first|refine kn' ?_ _|refine kd' ?_|refine ka' ?_ _));exact BK221.out)):gb221≠gb222));have n6_:=am' ((by rw[hg];exact Nat.ne_of_gt (blk_lt (g:=gb221) (o := .cells #[.slice A0_0 l0_0.length c0_0, .bool a0_1] 48 (0,0)) (by (with_reducible repeat (first|refine kn' ?_ _|refine kd' ?_|refine ka' ?_ _));exact BK221.out)):gb222≠gb221));clear BK221;clear HB;have BK221:=n0_;have HB:=n1_;have BK222:=n2_;have GW222:=n3_;have GE222:=n4_;have NB221_222:=n5_;have NB222_221:=n6_;clear n0_ n1_ n2_ n3_ n4_ n5_ n6_;clear hb hbox hg)|((with_reducible refine gate_dst (N:=3) rfl ?_);refine box_event ?hg (N:=3) ?hd (cs:=#[.slice none 0 0, .bool false]) (t:=51) ?hr ?_;(case hd=>rfl);(case hg=>rfl);(case hr=>first|(go_simp;done)|(go_simp;rfl));intro gb223 hg w5 hbox hb;have n0_:=am' (blk_below (g:=gb221) (o := .cells #[.slice A0_0 l0_0.length c0_0, .bool a0_1] 48 (0,0)) (by (with_reducible repeat (first|refine kn' ?_ _|refine kd' ?_|refine ka' ?_ _));exact BK221.out) hb);have n1_:=am' (blk_below (g:=gb222) (o := .cells #[.slice none 0 0, .bool false] 51 (0,0)) (by (with_reducible repeat (first|refine kn' ?_ _|refine kd' ?_|refine ka' ?_ _));exact BK222.out) hb);have n2_:=am' (below_step (by repeat (first|(with_reducible first|exact HB.out|apply ba'|apply bd'|apply be'|refine bs' ?_ GE221.out|refine bs' ?_ GE222.out)|exact HB.out)) hb);have n3_:=am' (hbox);have n4_:=am' ((by rw[hg];exact (below_size (by repeat (first|(with_reducible first|exact HB.out|apply ba'|apply bd'|apply be'|refine bs' ?_ GE221.out|refine bs' ?_ GE222.out)|exact HB.out))):w.heap.size≤gb223));have n5_:=am' ((by rw[hg];exact (below_size (by repeat (first|(with_reducible first|exact HB.out|apply ba'|apply bd'|apply be'|refine bs' ?_ GE221.out|refine bs' ?_ GE222.out)|exact HB.out))):w.heap.size≤gb223));have n6_:=am' ((by rw[hg];exact Nat.ne_of_lt (blk_lt (g:=gb221) (o := .cells #[.slice A0_0 l0_0.length c0_0, .bool a0_1] 48 (0,0)) (by (with_reducible repeat (first|refine kn' ?_ _|refine kd' ?_|refine ka' ?_ _));exact BK221.out)):gb221≠gb223));have n7_:=am' ((by rw[hg];exact Nat.ne_of_gt (blk_lt (g:=gb221) (o := .cells #[.slice A0_0 l0_0.length c0_0, .bool a0_1] 48 (0,0)) (by (with_reducible repeat (first|refine kn' ?_ _|refine kd' ?_|refine ka' ?_ _));exact BK221.out)):gb223≠gb221));have n8_:=am' ((by rw[hg];exact Nat.ne_of_lt (blk_lt (g:=gb222) (o := .cells #[.slice none 0 0, .bool false] 51 (0,0)) (by (with_reducible repeat (first|refine kn' ?_ _|refine kd' ?_|refine ka' ?_ _));exact BK222.out)):gb222≠gb223));have n9_:=am' ((by rw[hg];exact Nat.ne_of_gt (blk_lt (g:=gb222) (o := .cells #[.slice none 0 0, .bool false] 51 (0,0)) (by (with_reducible repeat (first|refine kn' ?_ _|refine kd' ?_|refine ka' ?_ _));exact BK222.out)):gb223≠gb222));clear BK221;clear BK222;clear HB;have BK221:=n0_;have BK222:=n1_;have HB:=n2_;have BK223:=n3_;have GW223:=n4_;have GE223:=n5_;have NB221_223:=n6_;have NB223_221:=n7_;have NB222_223:=n8_;have NB223_222:=n9_;clear n0_ n1_ n2_ n3_ n4_ n5_ n6_ n7_ n8_ n9_;clear hb hbox hg;have hnb6:=NB221_222.out;have hnc6:=NB222_221.out;have hnb7:=NB221_223.out;have hnc7:=NB223_221.out;have hcz8_0:w5.cell? ⟨gb221,0,none⟩=some (.slice A0_0 l0_0.length c0_0):=(blk_cell BK221.out 0).trans rfl;have hcz8_1:w5.cell? ⟨gb221,1,none⟩=some (.bool a0_1):=(blk_cell BK221.out 1).trans rfl;have hfz8_0:=blk_frozen BK221.out 0;have hfz8_1:=blk_frozen BK221.out 1)|((with_reducible refine gate_callee (f:=88) rfl ?_);refine goesL_ (some 6) rfl rfl Try.func88 (by kernel_rfl) rfl #[.slice A0_0 l0_0.length c0_0] rfl (by (try simp only[List.map_toArray,List.map_cons,List.map_nil]);first|done|rfl|(simp only[List.length_drop,List.length_take];rfl)) ?_;(with_reducible refine (laws_toBoolS.calls k _ _ l0_0 t224 _ ?side1 ?side2 A2.out).mono ?_);(case side1=>repeat (first|exact (Kd.C_below HR0_0.out HB.out)|(with_reducible refine ca' ?_ _)|(with_reducible refine cn' ?_ _)|(with_reducible refine cd' ?_)));(case side2=>exact HC0_0.out);rintro e w9 ⟨v225,rfl,ho0,hb⟩;refine ⟨_,rfl,?_⟩;have n0_:=am' (Kd.R_lower ho0 (below_size (by repeat (first|(with_reducible first|exact HB.out|apply ba'|apply bd'|apply be'|refine bs' ?_ GE221.out|refine bs' ?_ GE222.out|refine bs' ?_ GE223.out)|exact HB.out))));have n1_:=am' (blk_below (g:=gb221) (o := .cells #[.slice A0_0 l0_0.length c0_0, .bool a0_1] 48 (0,0)) (by (with_reducible repeat (first|refine kn' ?_ _|refine kd' ?_|refine ka' ?_ _));exact BK221.out) hb);have n2_:=am' (blk_below (g:=gb222) (o := .cells #[.slice none 0 0, .bool false] 51 (0,0)) (by (with_reducible repeat (first|refine kn' ?_ _|refine kd' ?_|refine ka' ?_ _));exact BK222.out) hb);have n3_:=am' (blk_below (g:=gb223) (o := .cells #[.slice none 0 0, .bool false] 51 (0,0)) (by (with_reducible repeat (first|refine kn' ?_ _|refine kd' ?_|refine ka' ?_ _));exact BK223.out) hb);have n4_:=am' (below_step (by repeat (first|(with_reducible first|exact HB.out|apply ba'|apply bd'|apply be'|refine bs' ?_ GE221.out|refine bs' ?_ GE222.out|refine bs' ?_ GE223.out)|exact HB.out)) hb);clear BK221;clear BK222;clear BK223;clear HB;have HO226:=n0_;have BK221:=n1_;have BK222:=n2_;have BK223:=n3_;have HB:=n4_;clear n0_ n1_ n2_ n3_ n4_;(try clear hb);(try clear hb2);(try clear hk);(try clear hi);(try clear ho0);obtain ⟨Ao10,co10,eo10⟩:=Kd.R_slice HO226.out;subst eo10;have hnb11:=NB223_222.out;have hnc11:=NB222_223.out;have hcz12_0:w9.cell? ⟨gb223,0,none⟩=some (.slice none 0 0):=(blk_cell BK223.out 0).trans rfl;have hcz12_1:w9.cell? ⟨gb223,1,none⟩=some (.bool false):=(blk_cell BK223.out 1).trans rfl;have hfz12_0:=blk_frozen BK223.out 0;have hfz12_1:=blk_frozen BK223.out 1;have hcz13_0:w9.cell? ⟨gb221,0,none⟩=some (.slice A0_0 l0_0.length c0_0):=(blk_cell BK221.out 0).trans rfl;have hcz13_1:w9.cell? ⟨gb221,1,none⟩=some (.bool a0_1):=(blk_cell BK221.out 1).trans rfl;have hfz13_0:=blk_frozen BK221.out 0;have hfz13_1:=blk_frozen BK221.out 1;have hcz14_0:w9.cell? ⟨gb222,0,none⟩=some (.slice none 0 0):=(blk_cell BK222.out 0).trans rfl;have hcz14_1:w9.cell? ⟨gb222,1,none⟩=some (.bool false):=(blk_cell BK222.out 1).trans rfl;have hfz14_0:=blk_frozen BK222.out 0;have hfz14_1:=blk_frozen BK222.out 1))
 refine bodyPost_ret (results_cell_row rfl _ _ gb222 51 #[.slice Ao10 t224.length co10, .bool a0_1] (0,0) _ rfl (by (with_reducible repeat (first|refine kn' ?_ _|refine kd' ?_|refine ka' ?_ _));refine blk_put (cs:=#[.slice Ao10 t224.length co10, .bool false]) ?_ 1 _ rfl;(with_reducible repeat (first|refine kn' ?_ _|refine kd' ?_|refine ka' ?_ _));refine blk_put (cs:=#[.slice none 0 0, .bool false]) ?_ 0 _ rfl;(with_reducible repeat (first|refine kn' ?_ _|refine kd' ?_|refine ka' ?_ _));refine blk_far ?_ NB222_223.out _;(with_reducible repeat (first|refine kn' ?_ _|refine kd' ?_|refine ka' ?_ _));refine blk_far ?_ NB222_223.out _;(with_reducible repeat (first|refine kn' ?_ _|refine kd' ?_|refine ka' ?_ _));exact BK222.out) Try.underlying51 rfl (by kernel_rfl)) rfl ?_
 exact ⟨_,by first|rfl|(simp[errW_none,errW_some] <;> rfl)|(simp[*,errW_none,errW_some] <;> rfl),by (with_reducible repeat (first|apply ra'|apply rn'|apply rw'));exact Kd.R_mono (Kd.R_far (p:=⟨gb222,1,none⟩) (Kd.R_far (p:=⟨gb222,0,none⟩) (Kd.R_far (p:=⟨gb223,1,none⟩) (Kd.R_far (p:=⟨gb223,0,none⟩) (Kd.R_types (Kd.R_types HO226.out BK223.out (by decide)) BK222.out (by decide)) (fun _ hk=>hk.1.2) (.slice Ao10 t224.length co10)) (fun _ hk=>hk.1.2) (.bool a0_1)) (fun _ hk=>hk.2) (.slice Ao10 t224.length co10)) (fun _ hk=>hk.2) (.bool a0_1)) (fun _ hk=>trivial),by repeat (first|(with_reducible first|exact HB.out|apply ba'|apply bd'|apply be'|refine bs' ?_ GE221.out|refine bs' ?_ GE222.out|refine bs' ?_ GE223.out)|exact HB.out)⟩
def impl_in.f (a0:Int) (a1:Int) (a2:Int):Option (Bool):=if a1≤a0 then (some (decide (a0≤a2))) else (some false)
set_option maxHeartbeats 8000000 in
set_option maxRecDepth 100000 in
theorem impl_in.calls (a0:Int) (a1:Int) (a2:Int) (r:Bool) (w:World) (h:impl_in.f a0 a1 a2=some r) :
  Calls Try.prog 72 #[.int .i64 a0, .int .i64 a1, .int .i64 a2] w fun e w'=>e = .returned (.bool r)∧Drawn0 w w':=by
 have H:(if a1≤a0 then (some (decide (a0≤a2))) else (some false))=some r:=h
 clear h;by_cases c4:a1≤a0
 ·
  rw[if_pos c4] at H;have c4b0:decide (a1≤a0)=true:=decide_eq_true c4;clear c4;obtain rfl:=Option.some.inj H;go_enter Try.func72,Try.ntmps72;go_wp2;go_ret
  exact ⟨by first|rfl|(simp;done)|(simp[*];done),by repeat (first|exact Drawn0.refl _|apply Drawn0.step)⟩
 ·
  rw[if_neg c4] at H;have c4b0:decide (a1≤a0)=false:=decide_eq_false c4;clear c4;obtain rfl:=Option.some.inj H;go_enter Try.func72,Try.ntmps72;go_wp2;go_ret
  exact ⟨by first|rfl|(simp;done)|(simp[*];done),by repeat (first|exact Drawn0.refl _|apply Drawn0.step)⟩
def impl_IsCompany.f (a0_0:Int) (a0_1:Int):Option (Bool):=(impl_in.f a0_0 1 4).bind fun t228=>(if t228=true then ((impl_in.f a0_1 1 4).bind fun t229=>(some t229)) else (some false))
set_option maxHeartbeats 8000000 in
set_option maxRecDepth 100000 in
theorem impl_IsCompany.calls (a0_0:Int) (a0_1:Int) (r:Bool) (w:World) (h:impl_IsCompany.f a0_0 a0_1=some r) :
  Calls Try.prog 45 #[.agg #[.int .i64 a0_0, .int .i64 a0_1]] w fun e w'=>e = .returned (.bool r)∧Below w.heap.size w w':=by
 have hu40:=Try.underlying40
 have HB:=am' (Below.refl w.heap.size w)
 have H:((impl_in.f a0_0 1 4).bind fun t228=>(if t228=true then ((impl_in.f a0_1 1 4).bind fun t229=>(some t229)) else (some false)))=some r:=h
 clear h;replace H:=Option.bind_eq_some_iff.mp H
 obtain ⟨t228,A20,H⟩:=H
 replace H:(if t228=true then ((impl_in.f a0_1 1 4).bind fun t229=>(some t229)) else (some false))=some r:=H
 have A2:=am' A20
 clear A20;by_cases c3:t228=true
 ·
  subst c3;have H1:((impl_in.f a0_1 1 4).bind fun t229=>(some t229))=some r:=by rw[if_pos rfl] at H;exact H
  clear H;have H:=H1;clear H1;replace H:=Option.bind_eq_some_iff.mp H;obtain ⟨t229,A40,H⟩:=H;replace H:(some t229)=some r:=H;have A4:=am' A40;clear A40;obtain rfl:=Option.some.inj H;go_enter Try.func45,Try.ntmps45;go_wp2_with (first|((with_reducible refine gate_dst (N:=1) rfl ?_);refine box_event ?hg (N:=1) ?hd (cs:=#[.int .i64 a0_0, .int .i64 a0_1]) (t:=40) ?hr ?_;(case hd=>rfl);(case hg=>rfl);(case hr=>first|(go_simp;done)|(go_simp;rfl));intro gb227 hg w5 hbox hb;have n0_:=am' (below_step (by repeat (first|(with_reducible first|exact HB.out|apply ba'|apply bd'|apply be')|exact HB.out)) hb);have n1_:=am' (hbox);have n2_:=am' ((by rw[hg];exact (below_size (by repeat (first|(with_reducible first|exact HB.out|apply ba'|apply bd'|apply be')|exact HB.out))):w.heap.size≤gb227));have n3_:=am' ((by rw[hg];exact (below_size (by repeat (first|(with_reducible first|exact HB.out|apply ba'|apply bd'|apply be')|exact HB.out))):w.heap.size≤gb227));clear HB;have HB:=n0_;have BK227:=n1_;have GW227:=n2_;have GE227:=n3_;clear n0_ n1_ n2_ n3_;clear hb hbox hg;have hcz6_0:w5.cell? ⟨gb227,0,none⟩=some (.int .i64 a0_0):=(blk_cell BK227.out 0).trans rfl;have hcz6_1:w5.cell? ⟨gb227,1,none⟩=some (.int .i64 a0_1):=(blk_cell BK227.out 1).trans rfl;have hfz6_0:=blk_frozen BK227.out 0;have hfz6_1:=blk_frozen BK227.out 1)|((with_reducible refine gate_callee (f:=72) rfl ?_);refine goesL_ (some 5) rfl rfl Try.func72 (by kernel_rfl) rfl #[.int .i64 a0_0, .int .i64 1, .int .i64 4] rfl (by (try simp only[List.map_toArray,List.map_cons,List.map_nil]);first|done|rfl|(simp only[List.length_drop,List.length_take];rfl)) ?_;(with_reducible refine (impl_in.calls a0_0 1 4 true _ A2.out).mono ?_);rintro e w' ⟨rfl,⟨nd,rfl⟩⟩;refine ⟨_,rfl,?_⟩)|(go_at_call 72;(with_reducible refine (impl_in.calls a0_1 1 4 t229 _ A4.out).mono ?_);rintro e w' ⟨rfl,⟨nd,rfl⟩⟩));go_ret
  exact ⟨by first|rfl|(simp[errW_none,errW_some] <;> rfl)|(simp[*,errW_none,errW_some] <;> rfl),by repeat (first|(with_reducible first|exact HB.out|apply ba'|apply bd'|apply be'|refine bs' ?_ GE227.out)|exact HB.out)⟩
 ·
  replace c3:=Bool.eq_false_iff.mpr c3;subst c3;have H1:(some false)=some r:=by rw[if_neg (show ¬ (false=true) by decide)] at H;exact H
  clear H;have H:=H1;clear H1;obtain rfl:=Option.some.inj H;go_enter Try.func45,Try.ntmps45;go_wp2_with (first|((with_reducible refine gate_dst (N:=1) rfl ?_);refine box_event ?hg (N:=1) ?hd (cs:=#[.int .i64 a0_0, .int .i64 a0_1]) (t:=40) ?hr ?_;(case hd=>rfl);(case hg=>rfl);(case hr=>first|(go_simp;done)|(go_simp;rfl));intro gb227 hg w7 hbox hb;have n0_:=am' (below_step (by repeat (first|(with_reducible first|exact HB.out|apply ba'|apply bd'|apply be')|exact HB.out)) hb);have n1_:=am' (hbox);have n2_:=am' ((by rw[hg];exact (below_size (by repeat (first|(with_reducible first|exact HB.out|apply ba'|apply bd'|apply be')|exact HB.out))):w.heap.size≤gb227));have n3_:=am' ((by rw[hg];exact (below_size (by repeat (first|(with_reducible first|exact HB.out|apply ba'|apply bd'|apply be')|exact HB.out))):w.heap.size≤gb227));clear HB;have HB:=n0_;have BK227:=n1_;have GW227:=n2_;have GE227:=n3_;clear n0_ n1_ n2_ n3_;clear hb hbox hg;have hcz8_0:w7.cell? ⟨gb227,0,none⟩=some (.int .i64 a0_0):=(blk_cell BK227.out 0).trans rfl;have hcz8_1:w7.cell? ⟨gb227,1,none⟩=some (.int .i64 a0_1):=(blk_cell BK227.out 1).trans rfl;have hfz8_0:=blk_frozen BK227.out 0;have hfz8_1:=blk_frozen BK227.out 1)|((with_reducible refine gate_callee (f:=72) rfl ?_);refine goesL_ (some 5) rfl rfl Try.func72 (by kernel_rfl) rfl #[.int .i64 a0_0, .int .i64 1, .int .i64 4] rfl (by (try simp only[List.map_toArray,List.map_cons,List.map_nil]);first|done|rfl|(simp only[List.length_drop,List.length_take];rfl)) ?_;(with_reducible refine (impl_in.calls a0_0 1 4 false _ A2.out).mono ?_);rintro e w' ⟨rfl,⟨nd,rfl⟩⟩;refine ⟨_,rfl,?_⟩));go_ret
  exact ⟨by first|rfl|(simp[errW_none,errW_some] <;> rfl)|(simp[*,errW_none,errW_some] <;> rfl),by repeat (first|(with_reducible first|exact HB.out|apply ba'|apply bd'|apply be'|refine bs' ?_ GE227.out)|exact HB.out)⟩
end Go.Proofs.Ytibdeohiimjocaa.C11
