import Derived.Test.YtabhhkiipilghaaC2zx0
import Derived.Test.YtabhhkiipilghaaC2zx1
import Derived.Test.YtabhhkiipilghaaC2zx2
import Derived.Test.YtabhhkiipilghaaC2zx3
import Derived.Test.YtabhhkiipilghaaC2zx4
import Derived.Test.YtabhhkiipilghaaC2zx5
import Derived.Test.YtabhhkiipilghaaC2zx8
import Derived.Test.YtabhhkiipilghaaC2zAl
namespace Go.Proofs.Ytabhhkiipilghaa.C2
open Go.RowKit Go.Proofs.YtabhhkiipilghaaW.PrintWords Go.Proofs.YtabhhkiipilghaaW.PrintLast Go.Proofs.YtabhhkiipilghaaW.PrintMore Go.Proofs.Ytabhhkiipilghaa.H
attribute [local go_sem] max2_int min2_int max_two min_two max_three min_three max_four min_four
set_option linter.unusedVariables false
set_option linter.unusedSimpArgs false
mutual
def spec_RowsOf.j0:Nat→Bool→Int→Int→List Bool→Bool→Option ((List (List Int)) × Bool)
 | 0,_,_,_,_,_=>none
 | k+1,x19,x235000,x235001,x236000,x236001=>if x19=true then (some (([]:List (List Int)),false)) else ((spec_cuCode.f k x236000 x236001).bind fun t239=>((spec_cuRows.f k x235000 x235001 t239).bind fun t240=>(spec_RowsOf.l0 k ([]:List (List Int)) t240 (t240.length:Int) 0)))
def spec_RowsOf.l0:Nat→List (List Int)→List Int→Int→Int→Option ((List (List Int)) × Bool)
 | 0,_,_,_,_=>none
 | k+1,x6,x23,x24,x25=>if x25 < x24 then (if 0≤x25 then (if x25 < (x23.length:Int) then ((spec_cuList.f k (rd x23 x25)).bind fun t244=>(if x6.length < 5864062014805 then (spec_RowsOf.l0 k (x6 ++ [t244]) x23 x24 (wrap64 (x25+1))) else (none))) else (none)) else (none)) else (some (x6,true))
end
def spec_RowsOf.f (k:Nat) (a0_0:Int) (a0_1:Int) (l1_0:List Bool) (a1_1:Bool):Option ((List (List Int)) × Bool):=(spec_cuIs.f k a0_0 a0_1 l1_0 a1_1).bind fun t236=>(if t236=true then ((spec_cuCode.f k l1_0 a1_1).bind fun t237=>((spec_cuQuiet.f k a0_0 a0_1 t237).bind fun t238=>(spec_RowsOf.j0 k (!t238) a0_0 a0_1 l1_0 a1_1))) else (spec_RowsOf.j0 k true a0_0 a0_1 l1_0 a1_1))
theorem spec_RowsOf.mono_l:∀ k,(∀ y0 y1 y2 y3 y4,LeO (spec_RowsOf.j0 k y0 y1 y2 y3 y4) (spec_RowsOf.j0 (k+1) y0 y1 y2 y3 y4))∧(∀ y0 y1 y2 y3,LeO (spec_RowsOf.l0 k y0 y1 y2 y3) (spec_RowsOf.l0 (k+1) y0 y1 y2 y3))
 | 0=>⟨fun _ _ _ _ _ r h=>by simp[spec_RowsOf.j0] at h,fun _ _ _ _ r h=>by simp[spec_RowsOf.l0] at h⟩
 | k+1=>by
  obtain ⟨ih0,ih1⟩:=spec_RowsOf.mono_l k;refine ⟨?_,?_⟩
  ·
   intro y0 y1 y2 y3 y4;unfold spec_RowsOf.j0
   repeat' first
   | (with_reducible exact ih0 _ _ _ _ _)
   | (with_reducible exact ih1 _ _ _ _)
   | (with_reducible exact spec_cuCode.mono _ _ _)
   | (with_reducible exact spec_cuIs.mono _ _ _ _ _)
   | (with_reducible exact spec_cuList.mono _ _)
   | (with_reducible exact spec_cuQuiet.mono _ _ _ _)
   | (with_reducible exact spec_cuRows.mono _ _ _ _)
   | (with_reducible exact LeO.refl _)
   | (with_reducible exact LeO.none _)
   | (with_reducible refine LeO.ite ?_ ?_)
   | (with_reducible refine LeO.bind ?_ (fun _=>?_))
   | exact ih0 _ _ _ _ _
   | exact ih1 _ _ _ _
   | exact spec_cuCode.mono _ _ _
   | exact spec_cuIs.mono _ _ _ _ _
   | exact spec_cuList.mono _ _
   | exact spec_cuQuiet.mono _ _ _ _
   | exact spec_cuRows.mono _ _ _ _
   | exact LeO.none _
   | refine LeO.ite ?_ ?_
   | refine LeO.bind ?_ (fun _=>?_)
  ·
   intro y0 y1 y2 y3;unfold spec_RowsOf.l0
   repeat' first
   | (with_reducible exact ih0 _ _ _ _ _)
   | (with_reducible exact ih1 _ _ _ _)
   | (with_reducible exact spec_cuCode.mono _ _ _)
   | (with_reducible exact spec_cuIs.mono _ _ _ _ _)
   | (with_reducible exact spec_cuList.mono _ _)
   | (with_reducible exact spec_cuQuiet.mono _ _ _ _)
   | (with_reducible exact spec_cuRows.mono _ _ _ _)
   | (with_reducible exact LeO.refl _)
   | (with_reducible exact LeO.none _)
   | (with_reducible refine LeO.ite ?_ ?_)
   | (with_reducible refine LeO.bind ?_ (fun _=>?_))
   | exact ih0 _ _ _ _ _
   | exact ih1 _ _ _ _
   | exact spec_cuCode.mono _ _ _
   | exact spec_cuIs.mono _ _ _ _ _
   | exact spec_cuList.mono _ _
   | exact spec_cuQuiet.mono _ _ _ _
   | exact spec_cuRows.mono _ _ _ _
   | exact LeO.none _
   | refine LeO.ite ?_ ?_
   | refine LeO.bind ?_ (fun _=>?_)
theorem spec_RowsOf.mono:∀ a0 a1 a2 a3 k,LeO (spec_RowsOf.f k a0 a1 a2 a3) (spec_RowsOf.f (k+1) a0 a1 a2 a3):=by
 intro a0 a1 a2 a3 k;obtain ⟨ih0,ih1⟩:=spec_RowsOf.mono_l k
 unfold spec_RowsOf.f
 repeat' first
   | (with_reducible exact ih0 _ _ _ _ _)
   | (with_reducible exact ih1 _ _ _ _)
   | (with_reducible exact spec_cuCode.mono _ _ _)
   | (with_reducible exact spec_cuIs.mono _ _ _ _ _)
   | (with_reducible exact spec_cuList.mono _ _)
   | (with_reducible exact spec_cuQuiet.mono _ _ _ _)
   | (with_reducible exact spec_cuRows.mono _ _ _ _)
   | (with_reducible exact LeO.refl _)
   | (with_reducible exact LeO.none _)
   | (with_reducible refine LeO.ite ?_ ?_)
   | (with_reducible refine LeO.bind ?_ (fun _=>?_))
   | exact ih0 _ _ _ _ _
   | exact ih1 _ _ _ _
   | exact spec_cuCode.mono _ _ _
   | exact spec_cuIs.mono _ _ _ _ _
   | exact spec_cuList.mono _ _
   | exact spec_cuQuiet.mono _ _ _ _
   | exact spec_cuRows.mono _ _ _ _
   | exact LeO.none _
   | refine LeO.ite ?_ ?_
   | refine LeO.bind ?_ (fun _=>?_)
def spec_RowsOf.T1:Bool × List (List Nat × List Nat):=(true,[([],[]),([],[]),([0,1],[0,1]),([2],[2]),([3,2],[3]),([4],[4]),([4],[4]),([6,4,4],[4,6]),([5,7,7,4],[4,5,7]),([8,4],[4,8]),([4,9],[4,9])])
def spec_RowsOf.B1:List Nat:=[0,0,3,7,15,31,31,95,255,511,1023]
theorem spec_RowsOf.tab1:rtab .any (opsOf Try.f15 1)=spec_RowsOf.T1:=by kernel_rfl
theorem spec_RowsOf.bits1:waitsOk spec_RowsOf.T1.2 spec_RowsOf.B1=true:=by kernel_rfl
set_option maxHeartbeats 8000000 in
set_option maxRecDepth 100000 in
theorem spec_RowsOf.calls (k:Nat) (a0_0:Int) (a0_1:Int) (A1_0:Option Addr) (c1_0:Nat) (l1_0:List Bool) (a1_1:Bool) (r1:List (List Int)) (r2:Bool) (w:World) (hr1_0:Kd.C Kd.bool w A1_0 l1_0.length l1_0) (hc1_0:l1_0.length≤c1_0) (h:spec_RowsOf.f k a0_0 a0_1 l1_0 a1_1=some (r1,r2)) :
  Calls Try.prog 15 #[.agg #[.int .i64 a0_0, .int .i64 a0_1], .agg #[.slice A1_0 l1_0.length c1_0, .bool a1_1]] w fun e w'=>∃ v0_:Value,e = .returned (.tuple #[v0_, .bool r2])∧Kd.S (Kd.slice 3 (Kd.int .i64)) 28 w' w.heap.size (fun _=>True) v0_ r1∧Below w.heap.size w w':=by
 have hu32:=Try.underlying32
 have hu35:=Try.underlying35
 have HR1_0:=am' hr1_0
 have HC1_0:=am' hc1_0
 clear hr1_0 hc1_0;have HB:=am' (Below.refl w.heap.size w)
 have H:((spec_cuIs.f k a0_0 a0_1 l1_0 a1_1).bind fun t236=>(if t236=true then ((spec_cuCode.f k l1_0 a1_1).bind fun t237=>((spec_cuQuiet.f k a0_0 a0_1 t237).bind fun t238=>(spec_RowsOf.j0 k (!t238) a0_0 a0_1 l1_0 a1_1))) else (spec_RowsOf.j0 k true a0_0 a0_1 l1_0 a1_1)))=some (r1,r2):=h
 clear h;have HC3:=am' H
 clear H;go_enter Try.func15,Try.ntmps15
 go_upto_region 1 with (first|((with_reducible refine gate_dst (N:=2) rfl ?_);refine box_event ?hg (N:=2) ?hd (cs:=#[.int .i64 a0_0, .int .i64 a0_1]) (t:=32) ?hr ?_;(case hd=>rfl);(case hg=>rfl);(case hr=>first|(go_simp;done)|(go_simp;rfl));intro gb234 hg w4 hbox hb;have n0_:=am' (bt' xb' hb);have n1_:=am' (hbox);have n2_:=am' ((by rw[hg];exact (bz' xb'):w.heap.size≤gb234));have n3_:=am' ((by rw[hg];exact (bz' xb'):w.heap.size≤gb234));clear HB;have HB:=n0_;have BK234:=n1_;have GW234:=n2_;have GE234:=n3_;clear n0_ n1_ n2_ n3_;clear hb hbox hg)|((with_reducible refine gate_dst (N:=3) rfl ?_);refine box_event ?hg (N:=3) ?hd (cs:=#[.slice A1_0 l1_0.length c1_0, .bool a1_1]) (t:=35) ?hr ?_;(case hd=>rfl);(case hg=>rfl);(case hr=>first|(go_simp;done)|(go_simp;rfl));intro gb235 hg w5 hbox hb;have n0_:=am' (bb' (g:=gb234) (o := .cells #[.int .i64 a0_0, .int .i64 a0_1] 32 (0,0)) (kk' BK234.out) hb);have n1_:=am' (bt' (yb' GE234.out) hb);have n2_:=am' (hbox);have n3_:=am' ((by rw[hg];exact (bz' (yb' GE234.out)):w.heap.size≤gb235));have n4_:=am' ((by rw[hg];exact (bz' (yb' GE234.out)):w.heap.size≤gb235));have n5_:=am' ((by rw[hg];exact Nat.ne_of_lt (blk_lt (g:=gb234) (o := .cells #[.int .i64 a0_0, .int .i64 a0_1] 32 (0,0)) (kk' BK234.out)):gb234≠gb235));have n6_:=am' ((by rw[hg];exact Nat.ne_of_gt (blk_lt (g:=gb234) (o := .cells #[.int .i64 a0_0, .int .i64 a0_1] 32 (0,0)) (kk' BK234.out)):gb235≠gb234));clear BK234;clear HB;have BK234:=n0_;have HB:=n1_;have BK235:=n2_;have GW235:=n3_;have GE235:=n4_;have NB234_235:=n5_;have NB235_234:=n6_;clear n0_ n1_ n2_ n3_ n4_ n5_ n6_;clear hb hbox hg))
 (try simp only[Act.put,sa',sb',sc'])
 go_cut [19] (fun v19 wc=>∃ (kq:Nat) (x19_2:Bool),v19 = .bool x19_2∧Aside0 (spec_RowsOf.j0 kq x19_2 a0_0 a0_1 l1_0 a1_1=some (r1,r2))∧Aside0 (kq≤k)∧Aside0 (wc.heap[gb234]? = some (.cells #[.int .i64 a0_0, .int .i64 a0_1] 32 (0,0)))∧Aside0 (wc.heap[gb235]? = some (.cells #[(.slice A1_0 l1_0.length c1_0), .bool a1_1] 35 (0,0)))∧Aside0 (Below w.heap.size w wc))
 case first =>
  have H:=HC3.out;clear HC3;replace H:=Option.bind_eq_some_iff.mp H;obtain ⟨t236,A60,H⟩:=H;replace H:(if t236=true then ((spec_cuCode.f k l1_0 a1_1).bind fun t237=>((spec_cuQuiet.f k a0_0 a0_1 t237).bind fun t238=>(spec_RowsOf.j0 k (!t238) a0_0 a0_1 l1_0 a1_1))) else (spec_RowsOf.j0 k true a0_0 a0_1 l1_0 a1_1))=some (r1,r2):=H;have A6:=am' A60;clear A60;by_cases c7:t236=true
  ·
   subst c7;have H1:((spec_cuCode.f k l1_0 a1_1).bind fun t237=>((spec_cuQuiet.f k a0_0 a0_1 t237).bind fun t238=>(spec_RowsOf.j0 k (!t238) a0_0 a0_1 l1_0 a1_1)))=some (r1,r2):=by rw[if_pos rfl] at H;exact H
   clear H;have H:=H1;clear H1;replace H:=Option.bind_eq_some_iff.mp H;obtain ⟨t237,A80,H⟩:=H;replace H:((spec_cuQuiet.f k a0_0 a0_1 t237).bind fun t238=>(spec_RowsOf.j0 k (!t238) a0_0 a0_1 l1_0 a1_1))=some (r1,r2):=H;have A8:=am' A80;clear A80;replace H:=Option.bind_eq_some_iff.mp H;obtain ⟨t238,A90,H⟩:=H;replace H:(spec_RowsOf.j0 k (!t238) a0_0 a0_1 l1_0 a1_1)=some (r1,r2):=H;have A9:=am' A90;clear A90;have H':=am' H;clear H;try go_wp2
   have n0_:=am' (kd' BK234.out);have n1_:=am' (kd' BK235.out);have n2_:=am' (be' HB.out);clear BK234;clear BK235;clear HB;have BK234:=n0_;have BK235:=n1_;have HB:=n2_;clear n0_ n1_ n2_;refine start_ (n:=11) (S:=fun w'=>w'.cell? ⟨gb234,0,none⟩=some (.int .i64 a0_0)∧w'.cell? ⟨gb234,1,none⟩=some (.int .i64 a0_1)∧w'.cell? ⟨gb235,0,none⟩=some (.slice A1_0 l1_0.length c1_0)∧w'.cell? ⟨gb235,1,none⟩=some (.bool a1_1)) (ds:=[]) #[false,false,false,false,false,false,false,false,false,false,false] xk' rfl rfl ⟨(bc' BK234.out 0).trans rfl,(bc' BK234.out 1).trans rfl,(bc' BK235.out 0).trans rfl,(bc' BK235.out 1).trans rfl⟩ (fun hHeld=>?_);refine with_tabW spec_RowsOf.tab1 spec_RowsOf.bits1 (fun HT_ HW_=>?_);generalize w5.drew=w10 at BK234 BK235 HB hHeld ⊢
   refine take_ (i:=0) (N:=some 9) (v:=?_) (a':=?_) #[true,false,false,false,false,false,false,false,false,false,false] rfl rfl (take_ofW HT_.out HW_.out xk') (fun _ _ _ h=>h) (Or.inl ⟨by rfl,?_⟩) hHeld ?_ ?_
   rotate_left
   ·
    rintro w' ⟨s0,s1,s2,s3⟩
    go_simp;with_reducible rfl
   rotate_left
   ·
    simp only[Act.put,sa',sb',sc',i64_w,i32_w];rfl
   refine take_ (i:=1) (N:=some 10) (v:=?_) (a':=?_) #[true,true,false,false,false,false,false,false,false,false,false] rfl rfl (take_ofW HT_.out HW_.out xk') (fun _ _ _ h=>h) (Or.inl ⟨by rfl,?_⟩) hHeld ?_ ?_
   rotate_left
   ·
    rintro w' ⟨s0,s1,s2,s3⟩
    go_simp;with_reducible rfl
   rotate_left
   ·
    simp only[Act.put,sa',sb',sc',i64_w,i32_w];rfl
   refine one_ (i:=2) (N:=some 11) #[true,true,true,false,false,false,false,false,false,false,false] rfl rfl (one_of HT_.out xk') (by decide) (fun K hK=>?_);refine goes_ Try.func42 xk' rfl #[.agg #[.int .i64 a0_0, .int .i64 a0_1], .agg #[.slice A1_0 l1_0.length c1_0, .bool a1_1]] (by rfl) rfl rfl xl' ?_
   with_reducible refine (spec_cuIs.calls k a0_0 a0_1 _ _ l1_0 a1_1 true _ ?side1 ?side2 A6.out).mono ?_
   (case side1=>exact kc' (cb' HR1_0.out HB.out))
   (case side2=>exact HC1_0.out)
   rintro e w11 ⟨rfl,hb⟩
   refine ⟨_,rfl,?_⟩;have n0_:=am' (bb' (g:=gb234) (o := .cells #[.int .i64 a0_0, .int .i64 a0_1] 32 (0,0)) (kk' BK234.out) hb);have n1_:=am' (bb' (g:=gb235) (o := .cells #[.slice A1_0 l1_0.length c1_0, .bool a1_1] 35 (0,0)) (kk' BK235.out) hb);have n2_:=am' (bt' (y2' GE234.out GE235.out) hb);clear BK234;clear BK235;clear HB;have BK234:=n0_;have BK235:=n1_;have HB:=n2_;clear n0_ n1_ n2_;(try clear hb)
   (try clear hb2)
   (try clear hk)
   (try clear hi)
   refine hK.out _ _ ⟨(bc' BK234.out 0).trans rfl,(bc' BK234.out 1).trans rfl,(bc' BK235.out 0).trans rfl,(bc' BK235.out 1).trans rfl⟩ (fun hHeld=>?_);clear hK K;refine norm_ (a':=?_) ?_ ?_
   rotate_left
   ·
    show Act.put _ (some 11) _=_
    simp only[Act.put,sa',sb',sc',i64_w,i32_w];rfl
   refine pure_ (i:=3) (N:=some 12) (v:=?_) (a':=?_) #[true,true,true,true,false,false,false,false,false,false,false] rfl rfl (any_of HT_.out xk') (fun _ _ _ h=>h) (Or.inl ⟨by rfl,?_⟩) ?_ ?_
   rotate_left
   ·
    intro w';go_simp;with_reducible rfl
   rotate_left
   ·
    simp only[Act.put,sa',sb',sc',i64_w,i32_w];rfl
   refine pure_ (i:=4) (N:=some 13) (v:=?_) (a':=?_) #[true,true,true,true,true,false,false,false,false,false,false] rfl rfl (any_of HT_.out xk') (fun _ _ _ h=>h) (Or.inl ⟨by rfl,?_⟩) ?_ ?_
   rotate_left
   ·
    intro w';go_simp;with_reducible rfl
   rotate_left
   ·
    simp only[Act.put,sa',sb',sc',i64_w,i32_w];rfl
   refine take_ (i:=5) (N:=some 14) (v:=?_) (a':=?_) #[true,true,true,true,true,true,false,false,false,false,false] rfl rfl (take_ofW HT_.out HW_.out xk') (fun _ _ _ h=>h) (Or.inl ⟨by rfl,?_⟩) hHeld ?_ ?_
   rotate_left
   ·
    rintro w' ⟨s0,s1,s2,s3⟩
    go_simp;with_reducible rfl
   rotate_left
   ·
    simp only[Act.put,sa',sb',sc',i64_w,i32_w];rfl
   refine take_ (i:=6) (N:=some 15) (v:=?_) (a':=?_) #[true,true,true,true,true,true,true,false,false,false,false] rfl rfl (take_ofW HT_.out HW_.out xk') (fun _ _ _ h=>h) (Or.inl ⟨by rfl,?_⟩) hHeld ?_ ?_
   rotate_left
   ·
    rintro w' ⟨s0,s1,s2,s3⟩
    go_simp;with_reducible rfl
   rotate_left
   ·
    simp only[Act.put,sa',sb',sc',i64_w,i32_w];rfl
   refine one_ (i:=7) (N:=some 16) #[true,true,true,true,true,true,true,true,false,false,false] rfl rfl (one_of HT_.out xk') (by decide) (fun K hK=>?_);refine goes_ Try.func44 xk' rfl #[.agg #[.slice A1_0 l1_0.length c1_0, .bool a1_1]] (by rfl) rfl rfl xl' ?_
   with_reducible refine (spec_cuCode.calls k _ _ l1_0 a1_1 t237 _ ?side1 ?side2 A8.out).mono ?_
   (case side1=>exact kc' (cb' HR1_0.out HB.out))
   (case side2=>exact HC1_0.out)
   rintro e w12 ⟨rfl,hb⟩
   refine ⟨_,rfl,?_⟩;have n0_:=am' (bb' (g:=gb234) (o := .cells #[.int .i64 a0_0, .int .i64 a0_1] 32 (0,0)) (kk' BK234.out) hb);have n1_:=am' (bb' (g:=gb235) (o := .cells #[.slice A1_0 l1_0.length c1_0, .bool a1_1] 35 (0,0)) (kk' BK235.out) hb);have n2_:=am' (bt' (y2' GE234.out GE235.out) hb);clear BK234;clear BK235;clear HB;have BK234:=n0_;have BK235:=n1_;have HB:=n2_;clear n0_ n1_ n2_;(try clear hb)
   (try clear hb2)
   (try clear hk)
   (try clear hi)
   refine hK.out _ _ ⟨(bc' BK234.out 0).trans rfl,(bc' BK234.out 1).trans rfl,(bc' BK235.out 0).trans rfl,(bc' BK235.out 1).trans rfl⟩ (fun hHeld=>?_);clear hK K;refine norm_ (a':=?_) ?_ ?_
   rotate_left
   ·
    show Act.put _ (some 16) _=_
    simp only[Act.put,sa',sb',sc',i64_w,i32_w];rfl
   refine one_ (i:=8) (N:=some 17) #[true,true,true,true,true,true,true,true,true,false,false] rfl rfl (one_of HT_.out xk') (by decide) (fun K hK=>?_);refine goes_ Try.func43 xk' rfl #[.agg #[.int .i64 a0_0, .int .i64 a0_1], .int .i64 t237] (by rfl) rfl rfl xl' ?_
   with_reducible refine (spec_cuQuiet.calls k a0_0 a0_1 t237 t238 _ A9.out).mono ?_
   rintro e w13 ⟨rfl,hb⟩
   refine ⟨_,rfl,?_⟩;have n0_:=am' (bb' (g:=gb234) (o := .cells #[.int .i64 a0_0, .int .i64 a0_1] 32 (0,0)) (kk' BK234.out) hb);have n1_:=am' (bb' (g:=gb235) (o := .cells #[.slice A1_0 l1_0.length c1_0, .bool a1_1] 35 (0,0)) (kk' BK235.out) hb);have n2_:=am' (bt' (y2' GE234.out GE235.out) hb);clear BK234;clear BK235;clear HB;have BK234:=n0_;have BK235:=n1_;have HB:=n2_;clear n0_ n1_ n2_;(try clear hb)
   (try clear hb2)
   (try clear hk)
   (try clear hi)
   refine hK.out _ _ ⟨(bc' BK234.out 0).trans rfl,(bc' BK234.out 1).trans rfl,(bc' BK235.out 0).trans rfl,(bc' BK235.out 1).trans rfl⟩ (fun hHeld=>?_);clear hK K;refine norm_ (a':=?_) ?_ ?_
   rotate_left
   ·
    show Act.put _ (some 17) _=_
    simp only[Act.put,sa',sb',sc',i64_w,i32_w];rfl
   refine pure_ (i:=9) (N:=some 18) (v:=?_) (a':=?_) #[true,true,true,true,true,true,true,true,true,true,false] rfl rfl (any_of HT_.out xk') (fun _ _ _ h=>h) (Or.inl ⟨by rfl,?_⟩) ?_ ?_
   rotate_left
   ·
    intro w';go_simp;with_reducible rfl
   rotate_left
   ·
    simp only[Act.put,sa',sb',sc',i64_w,i32_w];rfl
   refine pure_ (i:=10) (N:=some 19) (v:=?_) (a':=?_) #[true,true,true,true,true,true,true,true,true,true,true] rfl rfl (any_of HT_.out xk') (fun _ _ _ h=>h) (Or.inl ⟨by rfl,?_⟩) ?_ ?_
   rotate_left
   ·
    intro w';go_simp;with_reducible rfl
   rotate_left
   ·
    simp only[Act.put,sa',sb',sc',i64_w,i32_w];rfl
   refine done_ (done_of HT_.out xk') ?_
   try go_wp2
   go_meet
   case rel=>exact ⟨_,(!t238),xs',H',⟨by first|omega|exact Nat.le_refl _⟩,⟨kk' BK234.out⟩,⟨kk' BK235.out⟩,⟨y2' GE234.out GE235.out⟩⟩
  ·
   replace c7:=Bool.eq_false_iff.mpr c7;subst c7;have H1:(spec_RowsOf.j0 k true a0_0 a0_1 l1_0 a1_1)=some (r1,r2):=by rw[if_neg (show ¬ (false=true) by decide)] at H;exact H
   clear H;have H:=H1;clear H1;have H':=am' H;clear H;try go_wp2
   have n0_:=am' (kd' BK234.out);have n1_:=am' (kd' BK235.out);have n2_:=am' (be' HB.out);clear BK234;clear BK235;clear HB;have BK234:=n0_;have BK235:=n1_;have HB:=n2_;clear n0_ n1_ n2_;refine start_ (n:=11) (S:=fun w'=>w'.cell? ⟨gb234,0,none⟩=some (.int .i64 a0_0)∧w'.cell? ⟨gb234,1,none⟩=some (.int .i64 a0_1)∧w'.cell? ⟨gb235,0,none⟩=some (.slice A1_0 l1_0.length c1_0)∧w'.cell? ⟨gb235,1,none⟩=some (.bool a1_1)) (ds:=[]) #[false,false,false,false,false,false,false,false,false,false,false] xk' rfl rfl ⟨(bc' BK234.out 0).trans rfl,(bc' BK234.out 1).trans rfl,(bc' BK235.out 0).trans rfl,(bc' BK235.out 1).trans rfl⟩ (fun hHeld=>?_);refine with_tabW spec_RowsOf.tab1 spec_RowsOf.bits1 (fun HT_ HW_=>?_);generalize w5.drew=w14 at BK234 BK235 HB hHeld ⊢
   refine take_ (i:=0) (N:=some 9) (v:=?_) (a':=?_) #[true,false,false,false,false,false,false,false,false,false,false] rfl rfl (take_ofW HT_.out HW_.out xk') (fun _ _ _ h=>h) (Or.inl ⟨by rfl,?_⟩) hHeld ?_ ?_
   rotate_left
   ·
    rintro w' ⟨s0,s1,s2,s3⟩
    go_simp;with_reducible rfl
   rotate_left
   ·
    simp only[Act.put,sa',sb',sc',i64_w,i32_w];rfl
   refine take_ (i:=1) (N:=some 10) (v:=?_) (a':=?_) #[true,true,false,false,false,false,false,false,false,false,false] rfl rfl (take_ofW HT_.out HW_.out xk') (fun _ _ _ h=>h) (Or.inl ⟨by rfl,?_⟩) hHeld ?_ ?_
   rotate_left
   ·
    rintro w' ⟨s0,s1,s2,s3⟩
    go_simp;with_reducible rfl
   rotate_left
   ·
    simp only[Act.put,sa',sb',sc',i64_w,i32_w];rfl
   refine one_ (i:=2) (N:=some 11) #[true,true,true,false,false,false,false,false,false,false,false] rfl rfl (one_of HT_.out xk') (by decide) (fun K hK=>?_);refine goes_ Try.func42 xk' rfl #[.agg #[.int .i64 a0_0, .int .i64 a0_1], .agg #[.slice A1_0 l1_0.length c1_0, .bool a1_1]] (by rfl) rfl rfl xl' ?_
   with_reducible refine (spec_cuIs.calls k a0_0 a0_1 _ _ l1_0 a1_1 false _ ?side1 ?side2 A6.out).mono ?_
   (case side1=>exact kc' (cb' HR1_0.out HB.out))
   (case side2=>exact HC1_0.out)
   rintro e w15 ⟨rfl,hb⟩
   refine ⟨_,rfl,?_⟩;have n0_:=am' (bb' (g:=gb234) (o := .cells #[.int .i64 a0_0, .int .i64 a0_1] 32 (0,0)) (kk' BK234.out) hb);have n1_:=am' (bb' (g:=gb235) (o := .cells #[.slice A1_0 l1_0.length c1_0, .bool a1_1] 35 (0,0)) (kk' BK235.out) hb);have n2_:=am' (bt' (y2' GE234.out GE235.out) hb);clear BK234;clear BK235;clear HB;have BK234:=n0_;have BK235:=n1_;have HB:=n2_;clear n0_ n1_ n2_;(try clear hb)
   (try clear hb2)
   (try clear hk)
   (try clear hi)
   refine hK.out _ _ ⟨(bc' BK234.out 0).trans rfl,(bc' BK234.out 1).trans rfl,(bc' BK235.out 0).trans rfl,(bc' BK235.out 1).trans rfl⟩ (fun hHeld=>?_);clear hK K;refine norm_ (a':=?_) ?_ ?_
   rotate_left
   ·
    show Act.put _ (some 11) _=_
    simp only[Act.put,sa',sb',sc',i64_w,i32_w];rfl
   refine pure_ (i:=3) (N:=some 12) (v:=?_) (a':=?_) #[true,true,true,true,false,false,false,false,false,false,false] rfl rfl (any_of HT_.out xk') (fun _ _ _ h=>h) (Or.inl ⟨by rfl,?_⟩) ?_ ?_
   rotate_left
   ·
    intro w';go_simp;with_reducible rfl
   rotate_left
   ·
    simp only[Act.put,sa',sb',sc',i64_w,i32_w];rfl
   refine pure_ (i:=4) (N:=some 13) (v:=?_) (a':=?_) #[true,true,true,true,true,false,false,false,false,false,false] rfl rfl (any_of HT_.out xk') (fun _ _ _ h=>h) (Or.inl ⟨by rfl,?_⟩) ?_ ?_
   rotate_left
   ·
    intro w';go_simp;with_reducible rfl
   rotate_left
   ·
    simp only[Act.put,sa',sb',sc',i64_w,i32_w];rfl
   refine pure_ (i:=5) (N:=some 14) (v:=undef) (a':=?_) #[true,true,true,true,true,true,false,false,false,false,false] rfl rfl (any_of HT_.out xk') (fun _ _ _ h=>h) (Or.inr ⟨by rfl,rfl⟩) ?_ ?_
   rotate_left
   ·
    simp only[Act.put,sa',sb',sc',i64_w,i32_w];rfl
   refine pure_ (i:=6) (N:=some 15) (v:=undef) (a':=?_) #[true,true,true,true,true,true,true,false,false,false,false] rfl rfl (any_of HT_.out xk') (fun _ _ _ h=>h) (Or.inr ⟨by rfl,rfl⟩) ?_ ?_
   rotate_left
   ·
    simp only[Act.put,sa',sb',sc',i64_w,i32_w];rfl
   refine pure_ (i:=7) (N:=some 16) (v:=undef) (a':=?_) #[true,true,true,true,true,true,true,true,false,false,false] rfl rfl (any_of HT_.out xk') (fun _ _ _ h=>h) (Or.inr ⟨by rfl,rfl⟩) ?_ ?_
   rotate_left
   ·
    simp only[Act.put,sa',sb',sc',i64_w,i32_w];rfl
   refine pure_ (i:=8) (N:=some 17) (v:=undef) (a':=?_) #[true,true,true,true,true,true,true,true,true,false,false] rfl rfl (any_of HT_.out xk') (fun _ _ _ h=>h) (Or.inr ⟨by rfl,rfl⟩) ?_ ?_
   rotate_left
   ·
    simp only[Act.put,sa',sb',sc',i64_w,i32_w];rfl
   refine pure_ (i:=9) (N:=some 18) (v:=undef) (a':=?_) #[true,true,true,true,true,true,true,true,true,true,false] rfl rfl (any_of HT_.out xk') (fun _ _ _ h=>h) (Or.inr ⟨by rfl,rfl⟩) ?_ ?_
   rotate_left
   ·
    simp only[Act.put,sa',sb',sc',i64_w,i32_w];rfl
   refine pure_ (i:=10) (N:=some 19) (v:=?_) (a':=?_) #[true,true,true,true,true,true,true,true,true,true,true] rfl rfl (any_of HT_.out xk') (fun _ _ _ h=>h) (Or.inl ⟨by rfl,?_⟩) ?_ ?_
   rotate_left
   ·
    intro w';go_simp;with_reducible rfl
   rotate_left
   ·
    simp only[Act.put,sa',sb',sc',i64_w,i32_w];rfl
   refine done_ (done_of HT_.out xk') ?_
   try go_wp2
   go_meet
   case rel=>exact ⟨_,(true),xs',H',⟨by first|omega|exact Nat.le_refl _⟩,⟨kk' BK234.out⟩,⟨kk' BK235.out⟩,⟨y2' GE234.out GE235.out⟩⟩
 case rest =>
  clear HC3;try clear c1
  try clear p2
  try clear c4
  try clear c7
  try clear c15
  obtain ⟨kq,x19_2,rfl,HA,HJ2,BK234,BK235,HB⟩:=hcut;cases kq with
  | zero=>exact absurd HA.out (by simp[spec_RowsOf.j0])
  | succ kj2 =>
   have H:=HA.out;clear HA;simp only[spec_RowsOf.j0] at H;by_cases c16:x19_2=true
   ·
    subst c16;have H1:(some (([]:List (List Int)),false))=some (r1,r2):=by rw[if_pos rfl] at H;exact H
    clear H;have H:=H1;clear H1;simp only[Option.some.injEq,Prod.mk.injEq] at H;obtain ⟨rfl,rfl⟩:=H;go_wp2;go_ret2
    exact ⟨_,by first|rfl|(simp[errW_none,errW_some] <;> rfl)|(simp[*,errW_none,errW_some] <;> rfl),by first|exact Kd.S_nil _ _ _ _ _|exact Kd.N_nil _ _ _ _ _|exact Kd.V_nil _ _ _ _ _|exact Kd.Q_nil _ _ _ _ _|exact Kd.R_nil _ _ _ _ _,y2' GE234.out GE235.out⟩
   ·
    replace c16:=Bool.eq_false_iff.mpr c16;subst c16;have H1:((spec_cuCode.f kj2 l1_0 a1_1).bind fun t239=>((spec_cuRows.f kj2 a0_0 a0_1 t239).bind fun t240=>(spec_RowsOf.l0 kj2 ([]:List (List Int)) t240 (t240.length:Int) 0)))=some (r1,r2):=by rw[if_neg (show ¬ (false=true) by decide)] at H;exact H
    clear H;have H:=H1;clear H1;replace H:=Option.bind_eq_some_iff.mp H;obtain ⟨t239,A170,H⟩:=H;replace H:((spec_cuRows.f kj2 a0_0 a0_1 t239).bind fun t240=>(spec_RowsOf.l0 kj2 ([]:List (List Int)) t240 (t240.length:Int) 0))=some (r1,r2):=H;have A17:=am' A170;clear A170;replace H:=Option.bind_eq_some_iff.mp H;obtain ⟨t240,A180,H⟩:=H;replace H:(spec_RowsOf.l0 kj2 ([]:List (List Int)) t240 (t240.length:Int) 0)=some (r1,r2):=H;have A18:=am' A180;clear A180;have H':=am' H;clear H;try go_wp2
    have n0_:=am' (kd' BK234.out);have n1_:=am' (kd' BK235.out);have n2_:=am' (be' HB.out);clear BK234;clear BK235;clear HB;have BK234:=n0_;have BK235:=n1_;have HB:=n2_;clear n0_ n1_ n2_;refine start_ (n:=6) (S:=fun w'=>w'.cell? ⟨gb234,0,none⟩=some (.int .i64 a0_0)∧w'.cell? ⟨gb234,1,none⟩=some (.int .i64 a0_1)∧w'.cell? ⟨gb235,0,none⟩=some (.slice A1_0 l1_0.length c1_0)∧w'.cell? ⟨gb235,1,none⟩=some (.bool a1_1)) (ds:=[]) #[false,false,false,false,false,false] xk' rfl rfl ⟨(bc' BK234.out 0).trans rfl,(bc' BK234.out 1).trans rfl,(bc' BK235.out 0).trans rfl,(bc' BK235.out 1).trans rfl⟩ (fun hHeld=>?_);generalize wc.drew=w19 at BK234 BK235 HB hHeld ⊢
    refine pure_ (i:=5) (N:=some 25) (v:=?_) (a':=?_) #[false,false,false,false,false,true] rfl rfl xk' (fun _ _ _ h=>h) (Or.inl ⟨by rfl,?_⟩) ?_ ?_
    rotate_left
    ·
     intro w';go_simp;with_reducible rfl
    rotate_left
    ·
     simp only[Act.put,sa',sb',sc',i64_w,i32_w];rfl
    refine take_ (i:=0) (N:=some 20) (v:=?_) (a':=?_) #[true,false,false,false,false,true] rfl rfl xk' (fun _ _ _ h=>h) (Or.inl ⟨by rfl,?_⟩) hHeld ?_ ?_
    rotate_left
    ·
     rintro w' ⟨s0,s1,s2,s3⟩
     go_simp;with_reducible rfl
    rotate_left
    ·
     simp only[Act.put,sa',sb',sc',i64_w,i32_w];rfl
    refine take_ (i:=1) (N:=some 21) (v:=?_) (a':=?_) #[true,true,false,false,false,true] rfl rfl xk' (fun _ _ _ h=>h) (Or.inl ⟨by rfl,?_⟩) hHeld ?_ ?_
    rotate_left
    ·
     rintro w' ⟨s0,s1,s2,s3⟩
     go_simp;with_reducible rfl
    rotate_left
    ·
     simp only[Act.put,sa',sb',sc',i64_w,i32_w];rfl
    refine one_ (i:=2) (N:=some 22) #[true,true,true,false,false,true] rfl rfl xk' (by decide) (fun K hK=>?_);refine goes_ Try.func44 xk' rfl #[.agg #[.slice A1_0 l1_0.length c1_0, .bool a1_1]] (by rfl) rfl rfl xl' ?_
    with_reducible refine (spec_cuCode.calls kj2 _ _ l1_0 a1_1 t239 _ ?side1 ?side2 A17.out).mono ?_
    (case side1=>exact kc' (cb' HR1_0.out HB.out))
    (case side2=>exact HC1_0.out)
    rintro e w20 ⟨rfl,hb⟩
    refine ⟨_,rfl,?_⟩;have n0_:=am' (bb' (g:=gb234) (o := .cells #[.int .i64 a0_0, .int .i64 a0_1] 32 (0,0)) (kk' BK234.out) hb);have n1_:=am' (bb' (g:=gb235) (o := .cells #[.slice A1_0 l1_0.length c1_0, .bool a1_1] 35 (0,0)) (kk' BK235.out) hb);have n2_:=am' (bt' (y2' GE234.out GE235.out) hb);clear BK234;clear BK235;clear HB;have BK234:=n0_;have BK235:=n1_;have HB:=n2_;clear n0_ n1_ n2_;(try clear hb)
    (try clear hb2)
    (try clear hk)
    (try clear hi)
    refine hK.out _ _ ⟨(bc' BK234.out 0).trans rfl,(bc' BK234.out 1).trans rfl,(bc' BK235.out 0).trans rfl,(bc' BK235.out 1).trans rfl⟩ (fun hHeld=>?_);clear hK K;refine norm_ (a':=?_) ?_ ?_
    rotate_left
    ·
     show Act.put _ (some 22) _=_
     simp only[Act.put,sa',sb',sc',i64_w,i32_w];rfl
    refine one_ (i:=3) (N:=some 23) #[true,true,true,true,false,true] rfl rfl xk' (by decide) (fun K hK=>?_);refine goes_ Try.func45 xk' rfl #[.agg #[.int .i64 a0_0, .int .i64 a0_1], .int .i64 t239] (by rfl) rfl rfl xl' ?_
    with_reducible refine (spec_cuRows.calls kj2 a0_0 a0_1 t239 t240 _ A18.out).mono ?_
    rintro e w21 ⟨v241,rfl,ho0,hb⟩
    refine ⟨_,rfl,?_⟩;have n0_:=am' (Kd.R_lower ho0 (bz' (y2' GE234.out GE235.out)));have n1_:=am' (bb' (g:=gb234) (o := .cells #[.int .i64 a0_0, .int .i64 a0_1] 32 (0,0)) (kk' BK234.out) hb);have n2_:=am' (bb' (g:=gb235) (o := .cells #[.slice A1_0 l1_0.length c1_0, .bool a1_1] 35 (0,0)) (kk' BK235.out) hb);have n3_:=am' (bt' (y2' GE234.out GE235.out) hb);clear BK234;clear BK235;clear HB;have HO242:=n0_;have BK234:=n1_;have BK235:=n2_;have HB:=n3_;clear n0_ n1_ n2_ n3_;(try clear hb)
    (try clear hb2)
    (try clear hk)
    (try clear hi)
    (try clear ho0)
    obtain ⟨Ao22,co22,eo22⟩:=Kd.R_slice HO242.out
    (first|subst eo22|(injection eo22 with f1_ f2_ f3_;have f4_:=f1_.symm;have f5_:=f3_.symm;clear f1_ f2_ f3_;subst f4_;subst f5_))
    refine hK.out _ _ ⟨(bc' BK234.out 0).trans rfl,(bc' BK234.out 1).trans rfl,(bc' BK235.out 0).trans rfl,(bc' BK235.out 1).trans rfl⟩ (fun hHeld=>?_);clear hK K;refine norm_ (a':=?_) ?_ ?_
    rotate_left
    ·
     show Act.put _ (some 23) _=_
     simp only[Act.put,sa',sb',sc',i64_w,i32_w];rfl
    refine pure_ (i:=4) (N:=some 24) (v:=?_) (a':=?_) #[true,true,true,true,true,true] rfl rfl xk' (fun _ _ _ h=>h) (Or.inl ⟨by rfl,?_⟩) ?_ ?_
    rotate_left
    ·
     intro w';go_simp;with_reducible rfl
    rotate_left
    ·
     simp only[Act.put,sa',sb',sc',i64_w,i32_w];rfl
    refine done_ xk' ?_
    try go_wp2
    go_loopg [6,25] kj2 (fun kq v6 v25 w'=>∃ (x6_2:List (List Int)) (x25_2:Int),v25 = .int .i64 x25_2∧Aside0 (spec_RowsOf.l0 kq x6_2 t240 (t240.length:Int) x25_2=some (r1,r2))∧Aside0 (kq≤kj2)∧Aside0 (Kd.S (Kd.slice 3 (Kd.int .i64)) 28 w' w.heap.size (fun k_=>some k_≠((.slice Ao22 t240.length co22):Value).ownBlock) v6 x6_2)∧Aside0 (Kd.R (Kd.int .i64) 3 w' w.heap.size (fun _=>True) (.slice Ao22 t240.length co22) t240)∧Aside0 (w'.heap[gb234]? = some (.cells #[.int .i64 a0_0, .int .i64 a0_1] 32 (0,0)))∧Aside0 (w'.heap[gb235]? = some (.cells #[(.slice A1_0 l1_0.length c1_0), .bool a1_1] 35 (0,0)))∧Aside0 (Below w.heap.size w w'))
    case atStart=>exact ⟨(([]:List (List Int))),(0),xs',H',⟨Nat.le_refl _⟩,⟨by first|exact Kd.S_nil _ _ _ _ _|exact Kd.N_nil _ _ _ _ _|exact Kd.V_nil _ _ _ _ _|exact Kd.Q_nil _ _ _ _ _|exact Kd.R_nil _ _ _ _ _⟩,⟨kr' HO242.out⟩,⟨kk' BK234.out⟩,⟨kk' BK235.out⟩,⟨y2' GE234.out GE235.out⟩⟩
    case round =>
     clear H';try clear c1
     try clear p2
     try clear c4
     try clear c7
     try clear c15
     try clear c16
     try clear p2
     obtain ⟨x6_2,x25_2,rfl,HA,HK2,HO_6,HO_23,BK234,BK235,HB⟩:=hrel;cases gk with
     | zero=>exact absurd HA.out (by simp[spec_RowsOf.l0])
     | succ k2 =>
      have H:=HA.out;clear HA;simp only[spec_RowsOf.l0] at H;by_cases c23:x25_2 < (t240.length:Int)
      ·
       rw[if_pos c23] at H;have c23b0:decide (x25_2 < (t240.length:Int))=true:=dt' c23;clear c23;by_cases c24:0≤x25_2
       ·
        rw[if_pos c24] at H;have c24b0:decide (0≤x25_2)=true:=dt' c24;clear c24;by_cases c25:x25_2 < (t240.length:Int)
        ·
         rw[if_pos c25] at H;have c25b0:decide (x25_2 < (t240.length:Int))=true:=dt' c25;clear c25;replace H:=Option.bind_eq_some_iff.mp H;obtain ⟨t244,A260,H⟩:=H;replace H:(if x6_2.length < 5864062014805 then (spec_RowsOf.l0 k2 (x6_2 ++ [t244]) t240 (t240.length:Int) (wrap64 (x25_2+1))) else (none))=some (r1,r2):=H;have A26:=am' A260;clear A260;by_cases c27:x6_2.length < 5864062014805
         ·
          rw[if_pos c27] at H;have LMc27:=am' c27;clear c27;obtain ⟨y247,hy247⟩:∃ y_:List (List Int),y_=(x6_2 ++ [t244]):=⟨_,rfl⟩
          replace H:(spec_RowsOf.l0 k2 y247 t240 (t240.length:Int) (wrap64 (x25_2+1)))=some (r1,r2):=by first|(rw[hy247];with_reducible exact H)|(have H2_:=(Option.bind_some _ _).symm.trans H;rw[hy247];with_reducible exact H2_)|(have H2_:=(Option.bind_some _ _).symm.trans H;with_reducible exact H2_)|with_reducible exact H|(rw[hy247];exact H)|exact H
          have Ny247:=am' hy247;clear hy247;have H':=am' H;clear H;have p243:0≤(x25_2:Int):=od' xa';have q243:x25_2 < (t240.length:Int):=od' xa';obtain ⟨ad243,e243,hx243_0⟩:=Kd.at_int (Kd.R_reads' HO_23.out).2.2 x25_2 p243 q243;cases e243;replace p243:=eq_true p243;replace q243:=eq_true q243;go_wp2_with (first|((with_reducible refine gate_callee (f:=46) rfl ?_);refine goesL_ (some 31) rfl rfl Try.func46 xk' rfl #[.int .i64 (rd t240 x25_2)] rfl xl' ?_;(with_reducible refine (spec_cuList.calls k2 (rd t240 x25_2) t244 _ A26.out).mono ?_);rintro e w28 ⟨v245,rfl,ho0,hb⟩;refine ⟨_,rfl,?_⟩;have n0_:=am' (Kd.S_elder' (kS' HO_6.out) (Kd.R_base ho0) hb);have n1_:=am' (Kd.R_elder' (kr' HO_23.out) (Kd.R_base ho0) hb);have n2_:=am' (Kd.R_lower (Kd.R_new' ho0 (Kd.R_lt (kr' HO_23.out))) (bz' (y2' GE234.out GE235.out)));have n3_:=am' (bb' (g:=gb234) (o := .cells #[.int .i64 a0_0, .int .i64 a0_1] 32 (0,0)) (kk' BK234.out) hb);have n4_:=am' (bb' (g:=gb235) (o := .cells #[.slice A1_0 l1_0.length c1_0, .bool a1_1] 35 (0,0)) (kk' BK235.out) hb);have n5_:=am' (bt' (y2' GE234.out GE235.out) hb);clear HO_6;clear HO_23;clear BK234;clear BK235;clear HB;have HO_6:=n0_;have HO_23:=n1_;have HO246:=n2_;have BK234:=n3_;have BK235:=n4_;have HB:=n5_;clear n0_ n1_ n2_ n3_ n4_ n5_;(try clear hb);(try clear hb2);(try clear hk);(try clear hi);(try clear ho0);obtain ⟨Ao30,co30,eo30⟩:=Kd.R_slice HO246.out;subst eo30)|((with_reducible refine gate_builtin (b := .append) (xs:=#[.tmp 29, .tmp 32]) rfl ?_);at_builtin;refine Kd.S_append (Kd.slice 3 (Kd.int .i64)) (w0:=w) w.heap.size rfl (.tmp 29) (.tmp 32) 22 28 (.slice none 0 0) 24 rfl Try.underlying22 info28 rfl (by decide) (by omega) u6 x6_2 t244 [.slice Ao30 t244.length co30] (fun k_=>some k_≠(.slice (some ad243) t240.length co22:Value).ownBlock) (fun k_=>some k_=(.slice Ao30 t244.length co30:Value).ownBlock) rfl rfl ?aP (fun k_ hk_=>((Kd.R_mono (ok':=fun k_=>((fun k_=>some k_≠(.slice (some ad243) t240.length co22:Value).ownBlock)) k_∧some k_≠(u6:Value).ownBlock) (Kd.R_apart' (HO246.out) (Kd.S_typed HO_6.out) (by decide)) (fun k_ hk=>⟨hk.1.2,hk.2⟩))).1 k_ hk_.symm) ?aF ?aO ?aB ?aS ?aL ?_;(case aP=>exact Kd.M_row (Kd.R_mono (Kd.R_tight rfl (Kd.R_mono (ok':=fun k_=>((fun k_=>some k_≠(.slice (some ad243) t240.length co22:Value).ownBlock)) k_∧some k_≠(u6:Value).ownBlock) (Kd.R_apart' (HO246.out) (Kd.S_typed HO_6.out) (by decide)) (fun k_ hk=>⟨hk.1.2,hk.2⟩))) (fun _ h_=>h_)));(case aB=>exact (y2' GE234.out GE235.out));(case aF=>exact (fun k_ hk=>Kd.fresh' (Kd.R_lt (kr' HO_23.out)) k_ hk));(case aO=>exact (by (with_reducible repeat (first|apply Kd.S_alloc|apply Kd.S_drewN|apply Kd.S_drew));exact Kd.S_mono HO_6.out (fun k_ hk=>⟨hk.1,fun e_=>hk.2 e_⟩)));(case aS=>exact (bz' (y2' GE234.out GE235.out)));(case aL=>have:=LMc27.out;omega);intro v248 w29 ho hb hg hat;rw[← Ny247.out] at ho;have n0_:=am' (Kd.R_over' (kr' HO_23.out) (Kd.S_typed (kS' HO_6.out)) (by decide) hg);have n1_:=am' (blk_grown (g:=gb234) (o := .cells #[.int .i64 a0_0, .int .i64 a0_1] 32 (0,0)) (kk' BK234.out) hg (Kd.S_ne HO_6.out BK234.out (by decide)));have n2_:=am' (blk_grown (g:=gb235) (o := .cells #[.slice A1_0 l1_0.length c1_0, .bool a1_1] 35 (0,0)) (kk' BK235.out) hg (Kd.S_ne HO_6.out BK235.out (by decide)));have n3_:=am' (hb);have n4_:=am' (ho);clear HO_23;clear BK234;clear BK235;clear HB;clear HO_6;clear HO246;have HO_23:=n0_;have BK234:=n1_;have BK235:=n2_;have HB:=n3_;have HO249:=n4_;clear n0_ n1_ n2_ n3_ n4_;clear ho hb hg hat))
          go_roundg k2
          case measure=>have:=HJ2.out;have:=HK2.out;omega
          case rel=>exact ⟨(y247),(wrap64 (x25_2+1)),xs',H',⟨by have:=HJ2.out;have:=HK2.out;omega⟩,⟨kS' HO249.out⟩,⟨by (with_reducible repeat (first|apply ra'|apply rn'|apply rw'));exact Kd.R_mono HO_23.out (fun _ hk=>trivial)⟩,⟨kk' BK234.out⟩,⟨kk' BK235.out⟩,⟨y2' GE234.out GE235.out⟩⟩
         ·
          rw[if_neg c27] at H;exact absurd H (by simp)
        ·
         rw[if_neg c25] at H;exact absurd H (by simp)
       ·
        rw[if_neg c24] at H;exact absurd H (by simp)
      ·
       rw[if_neg c23] at H;have c23b0:decide (x25_2 < (t240.length:Int))=false:=df' c23;clear c23;simp only[Option.some.injEq,Prod.mk.injEq] at H;obtain ⟨rfl,rfl⟩:=H;go_wp2;go_ret2
       exact ⟨_,by first|rfl|(simp[errW_none,errW_some] <;> rfl)|(simp[*,errW_none,errW_some] <;> rfl),by (with_reducible repeat (first|apply Kd.S_alloc|apply Kd.S_drewN|apply Kd.S_drew));exact Kd.S_mono HO_6.out (fun _ hk=>trivial),y2' GE234.out GE235.out⟩
def impl_IsCalm.f (k:Nat) (a0_0:Int) (a0_1:Int) (l1_0:List Bool) (a1_1:Bool):Option (Bool × Bool):=(impl_Company_hasState.f k a0_0 a0_1 l1_0 a1_1).bind fun t252=>(if t252=true then ((impl_State_isCalm.f k l1_0 a1_1).bind fun t253=>(some (t253,true))) else (some (false,false)))
theorem impl_IsCalm.mono:∀ a0 a1 a2 a3 k,LeO (impl_IsCalm.f k a0 a1 a2 a3) (impl_IsCalm.f (k+1) a0 a1 a2 a3):=by
 intro a0 a1 a2 a3 k;unfold impl_IsCalm.f
 repeat' first
   | (with_reducible exact impl_Company_hasState.mono _ _ _ _ _)
   | (with_reducible exact impl_State_isCalm.mono _ _ _)
   | (with_reducible exact LeO.refl _)
   | (with_reducible exact LeO.none _)
   | (with_reducible refine LeO.ite ?_ ?_)
   | (with_reducible refine LeO.bind ?_ (fun _=>?_))
   | exact impl_Company_hasState.mono _ _ _ _ _
   | exact impl_State_isCalm.mono _ _ _
   | exact LeO.none _
   | refine LeO.ite ?_ ?_
   | refine LeO.bind ?_ (fun _=>?_)
set_option maxHeartbeats 8000000 in
set_option maxRecDepth 100000 in
theorem impl_IsCalm.calls (k:Nat) (a0_0:Int) (a0_1:Int) (A1_0:Option Addr) (c1_0:Nat) (l1_0:List Bool) (a1_1:Bool) (r1:Bool) (r2:Bool) (w:World) (hr1_0:Kd.C Kd.bool w A1_0 l1_0.length l1_0) (hc1_0:l1_0.length≤c1_0) (h:impl_IsCalm.f k a0_0 a0_1 l1_0 a1_1=some (r1,r2)) :
  Calls Try.prog 16 #[.agg #[.int .i64 a0_0, .int .i64 a0_1], .agg #[.slice A1_0 l1_0.length c1_0, .bool a1_1]] w fun e w'=>e = .returned (.tuple #[.bool r1, .bool r2])∧Below w.heap.size w w':=by
 have hu32:=Try.underlying32
 have hu35:=Try.underlying35
 have HR1_0:=am' hr1_0
 have HC1_0:=am' hc1_0
 clear hr1_0 hc1_0;have HB:=am' (Below.refl w.heap.size w)
 have H:((impl_Company_hasState.f k a0_0 a0_1 l1_0 a1_1).bind fun t252=>(if t252=true then ((impl_State_isCalm.f k l1_0 a1_1).bind fun t253=>(some (t253,true))) else (some (false,false))))=some (r1,r2):=h
 clear h;replace H:=Option.bind_eq_some_iff.mp H
 obtain ⟨t252,A30,H⟩:=H
 replace H:(if t252=true then ((impl_State_isCalm.f k l1_0 a1_1).bind fun t253=>(some (t253,true))) else (some (false,false)))=some (r1,r2):=H
 have A3:=am' A30
 clear A30;by_cases c4:t252=true
 ·
  subst c4;have H1:((impl_State_isCalm.f k l1_0 a1_1).bind fun t253=>(some (t253,true)))=some (r1,r2):=by rw[if_pos rfl] at H;exact H
  clear H;have H:=H1;clear H1;replace H:=Option.bind_eq_some_iff.mp H;obtain ⟨t253,A50,H⟩:=H;replace H:(some (t253,true))=some (r1,r2):=H;have A5:=am' A50;clear A50;simp only[Option.some.injEq,Prod.mk.injEq] at H;obtain ⟨rfl,rfl⟩:=H;go_enter Try.func16,Try.ntmps16;go_wp2_with (first|((with_reducible refine gate_dst (N:=2) rfl ?_);refine box_event ?hg (N:=2) ?hd (cs:=#[.int .i64 a0_0, .int .i64 a0_1]) (t:=32) ?hr ?_;(case hd=>rfl);(case hg=>rfl);(case hr=>first|(go_simp;done)|(go_simp;rfl));intro gb250 hg w6 hbox hb;have n0_:=am' (bt' xb' hb);have n1_:=am' (hbox);have n2_:=am' ((by rw[hg];exact (bz' xb'):w.heap.size≤gb250));have n3_:=am' ((by rw[hg];exact (bz' xb'):w.heap.size≤gb250));clear HB;have HB:=n0_;have BK250:=n1_;have GW250:=n2_;have GE250:=n3_;clear n0_ n1_ n2_ n3_;clear hb hbox hg)|((with_reducible refine gate_dst (N:=3) rfl ?_);refine box_event ?hg (N:=3) ?hd (cs:=#[.slice A1_0 l1_0.length c1_0, .bool a1_1]) (t:=35) ?hr ?_;(case hd=>rfl);(case hg=>rfl);(case hr=>first|(go_simp;done)|(go_simp;rfl));intro gb251 hg w7 hbox hb;have n0_:=am' (bb' (g:=gb250) (o := .cells #[.int .i64 a0_0, .int .i64 a0_1] 32 (0,0)) (kk' BK250.out) hb);have n1_:=am' (bt' (yb' GE250.out) hb);have n2_:=am' (hbox);have n3_:=am' ((by rw[hg];exact (bz' (yb' GE250.out)):w.heap.size≤gb251));have n4_:=am' ((by rw[hg];exact (bz' (yb' GE250.out)):w.heap.size≤gb251));have n5_:=am' ((by rw[hg];exact Nat.ne_of_lt (blk_lt (g:=gb250) (o := .cells #[.int .i64 a0_0, .int .i64 a0_1] 32 (0,0)) (kk' BK250.out)):gb250≠gb251));have n6_:=am' ((by rw[hg];exact Nat.ne_of_gt (blk_lt (g:=gb250) (o := .cells #[.int .i64 a0_0, .int .i64 a0_1] 32 (0,0)) (kk' BK250.out)):gb251≠gb250));clear BK250;clear HB;have BK250:=n0_;have HB:=n1_;have BK251:=n2_;have GW251:=n3_;have GE251:=n4_;have NB250_251:=n5_;have NB251_250:=n6_;clear n0_ n1_ n2_ n3_ n4_ n5_ n6_;clear hb hbox hg;have hnb8:=NB250_251.out;have hnc8:=NB251_250.out;have hcz9_0:w7.cell? ⟨gb250,0,none⟩=some (.int .i64 a0_0):=(bc' BK250.out 0).trans rfl;have hcz9_1:w7.cell? ⟨gb250,1,none⟩=some (.int .i64 a0_1):=(bc' BK250.out 1).trans rfl;have hfz9_0:=bf' BK250.out 0;have hfz9_1:=bf' BK250.out 1;have hcz10_0:w7.cell? ⟨gb251,0,none⟩=some (.slice A1_0 l1_0.length c1_0):=(bc' BK251.out 0).trans rfl;have hcz10_1:w7.cell? ⟨gb251,1,none⟩=some (.bool a1_1):=(bc' BK251.out 1).trans rfl;have hfz10_0:=bf' BK251.out 0;have hfz10_1:=bf' BK251.out 1)|((with_reducible refine gate_callee (f:=39) rfl ?_);refine goesL_ (some 8) rfl rfl Try.func39 xk' rfl #[.agg #[.int .i64 a0_0, .int .i64 a0_1], .agg #[.slice A1_0 l1_0.length c1_0, .bool a1_1]] rfl xl' ?_;(with_reducible refine (impl_Company_hasState.calls k a0_0 a0_1 _ _ l1_0 a1_1 true _ ?side1 ?side2 A3.out).mono ?_);(case side1=>exact kc' (cb' HR1_0.out HB.out));(case side2=>exact HC1_0.out);rintro e w11 ⟨rfl,hb⟩;refine ⟨_,rfl,?_⟩;have n0_:=am' (bb' (g:=gb250) (o := .cells #[.int .i64 a0_0, .int .i64 a0_1] 32 (0,0)) (kk' BK250.out) hb);have n1_:=am' (bb' (g:=gb251) (o := .cells #[.slice A1_0 l1_0.length c1_0, .bool a1_1] 35 (0,0)) (kk' BK251.out) hb);have n2_:=am' (bt' (y2' GE250.out GE251.out) hb);clear BK250;clear BK251;clear HB;have BK250:=n0_;have BK251:=n1_;have HB:=n2_;clear n0_ n1_ n2_;(try clear hb);(try clear hb2);(try clear hk);(try clear hi);have hcz12_0:w11.cell? ⟨gb251,0,none⟩=some (.slice A1_0 l1_0.length c1_0):=(bc' BK251.out 0).trans rfl;have hcz12_1:w11.cell? ⟨gb251,1,none⟩=some (.bool a1_1):=(bc' BK251.out 1).trans rfl;have hfz12_0:=bf' BK251.out 0;have hfz12_1:=bf' BK251.out 1)|((with_reducible refine gate_callee (f:=40) rfl ?_);refine goesL_ (some 11) rfl rfl Try.func40 xk' rfl #[.agg #[.slice A1_0 l1_0.length c1_0, .bool a1_1]] rfl xl' ?_;(with_reducible refine (impl_State_isCalm.calls k _ _ l1_0 a1_1 t253 _ ?side1 ?side2 A5.out).mono ?_);(case side1=>exact kc' (cb' HR1_0.out HB.out));(case side2=>exact HC1_0.out);rintro e w13 ⟨rfl,hb⟩;refine ⟨_,rfl,?_⟩;have n0_:=am' (bb' (g:=gb250) (o := .cells #[.int .i64 a0_0, .int .i64 a0_1] 32 (0,0)) (kk' BK250.out) hb);have n1_:=am' (bb' (g:=gb251) (o := .cells #[.slice A1_0 l1_0.length c1_0, .bool a1_1] 35 (0,0)) (kk' BK251.out) hb);have n2_:=am' (bt' (y2' GE250.out GE251.out) hb);clear BK250;clear BK251;clear HB;have BK250:=n0_;have BK251:=n1_;have HB:=n2_;clear n0_ n1_ n2_;(try clear hb);(try clear hb2);(try clear hk);(try clear hi)))
  go_ret2
  exact ⟨by first|rfl|(simp[errW_none,errW_some] <;> rfl)|(simp[*,errW_none,errW_some] <;> rfl),y2' GE250.out GE251.out⟩
 ·
  replace c4:=Bool.eq_false_iff.mpr c4;subst c4;have H1:(some (false,false))=some (r1,r2):=by rw[if_neg (show ¬ (false=true) by decide)] at H;exact H
  clear H;have H:=H1;clear H1;simp only[Option.some.injEq,Prod.mk.injEq] at H;obtain ⟨rfl,rfl⟩:=H;go_enter Try.func16,Try.ntmps16;go_wp2_with (first|((with_reducible refine gate_dst (N:=2) rfl ?_);refine box_event ?hg (N:=2) ?hd (cs:=#[.int .i64 a0_0, .int .i64 a0_1]) (t:=32) ?hr ?_;(case hd=>rfl);(case hg=>rfl);(case hr=>first|(go_simp;done)|(go_simp;rfl));intro gb250 hg w14 hbox hb;have n0_:=am' (bt' xb' hb);have n1_:=am' (hbox);have n2_:=am' ((by rw[hg];exact (bz' xb'):w.heap.size≤gb250));have n3_:=am' ((by rw[hg];exact (bz' xb'):w.heap.size≤gb250));clear HB;have HB:=n0_;have BK250:=n1_;have GW250:=n2_;have GE250:=n3_;clear n0_ n1_ n2_ n3_;clear hb hbox hg)|((with_reducible refine gate_dst (N:=3) rfl ?_);refine box_event ?hg (N:=3) ?hd (cs:=#[.slice A1_0 l1_0.length c1_0, .bool a1_1]) (t:=35) ?hr ?_;(case hd=>rfl);(case hg=>rfl);(case hr=>first|(go_simp;done)|(go_simp;rfl));intro gb251 hg w15 hbox hb;have n0_:=am' (bb' (g:=gb250) (o := .cells #[.int .i64 a0_0, .int .i64 a0_1] 32 (0,0)) (kk' BK250.out) hb);have n1_:=am' (bt' (yb' GE250.out) hb);have n2_:=am' (hbox);have n3_:=am' ((by rw[hg];exact (bz' (yb' GE250.out)):w.heap.size≤gb251));have n4_:=am' ((by rw[hg];exact (bz' (yb' GE250.out)):w.heap.size≤gb251));have n5_:=am' ((by rw[hg];exact Nat.ne_of_lt (blk_lt (g:=gb250) (o := .cells #[.int .i64 a0_0, .int .i64 a0_1] 32 (0,0)) (kk' BK250.out)):gb250≠gb251));have n6_:=am' ((by rw[hg];exact Nat.ne_of_gt (blk_lt (g:=gb250) (o := .cells #[.int .i64 a0_0, .int .i64 a0_1] 32 (0,0)) (kk' BK250.out)):gb251≠gb250));clear BK250;clear HB;have BK250:=n0_;have HB:=n1_;have BK251:=n2_;have GW251:=n3_;have GE251:=n4_;have NB250_251:=n5_;have NB251_250:=n6_;clear n0_ n1_ n2_ n3_ n4_ n5_ n6_;clear hb hbox hg;have hnb16:=NB250_251.out;have hnc16:=NB251_250.out;have hcz17_0:w15.cell? ⟨gb250,0,none⟩=some (.int .i64 a0_0):=(bc' BK250.out 0).trans rfl;have hcz17_1:w15.cell? ⟨gb250,1,none⟩=some (.int .i64 a0_1):=(bc' BK250.out 1).trans rfl;have hfz17_0:=bf' BK250.out 0;have hfz17_1:=bf' BK250.out 1;have hcz18_0:w15.cell? ⟨gb251,0,none⟩=some (.slice A1_0 l1_0.length c1_0):=(bc' BK251.out 0).trans rfl;have hcz18_1:w15.cell? ⟨gb251,1,none⟩=some (.bool a1_1):=(bc' BK251.out 1).trans rfl;have hfz18_0:=bf' BK251.out 0;have hfz18_1:=bf' BK251.out 1)|((with_reducible refine gate_callee (f:=39) rfl ?_);refine goesL_ (some 8) rfl rfl Try.func39 xk' rfl #[.agg #[.int .i64 a0_0, .int .i64 a0_1], .agg #[.slice A1_0 l1_0.length c1_0, .bool a1_1]] rfl xl' ?_;(with_reducible refine (impl_Company_hasState.calls k a0_0 a0_1 _ _ l1_0 a1_1 false _ ?side1 ?side2 A3.out).mono ?_);(case side1=>exact kc' (cb' HR1_0.out HB.out));(case side2=>exact HC1_0.out);rintro e w19 ⟨rfl,hb⟩;refine ⟨_,rfl,?_⟩;have n0_:=am' (bb' (g:=gb250) (o := .cells #[.int .i64 a0_0, .int .i64 a0_1] 32 (0,0)) (kk' BK250.out) hb);have n1_:=am' (bb' (g:=gb251) (o := .cells #[.slice A1_0 l1_0.length c1_0, .bool a1_1] 35 (0,0)) (kk' BK251.out) hb);have n2_:=am' (bt' (y2' GE250.out GE251.out) hb);clear BK250;clear BK251;clear HB;have BK250:=n0_;have BK251:=n1_;have HB:=n2_;clear n0_ n1_ n2_;(try clear hb);(try clear hb2);(try clear hk);(try clear hi)))
  go_ret2
  exact ⟨by first|rfl|(simp[errW_none,errW_some] <;> rfl)|(simp[*,errW_none,errW_some] <;> rfl),y2' GE250.out GE251.out⟩
def spec_IsCalm.f (k:Nat) (a0_0:Int) (a0_1:Int) (l1_0:List Bool) (a1_1:Bool):Option (Bool × Bool):=(spec_cuIs.f k a0_0 a0_1 l1_0 a1_1).bind fun t256=>(if t256=true then ((spec_cuCode.f k l1_0 a1_1).bind fun t257=>((spec_cuQuiet.f k a0_0 a0_1 t257).bind fun t258=>(some (t258,true)))) else (some (false,false)))
theorem spec_IsCalm.mono:∀ a0 a1 a2 a3 k,LeO (spec_IsCalm.f k a0 a1 a2 a3) (spec_IsCalm.f (k+1) a0 a1 a2 a3):=by
 intro a0 a1 a2 a3 k;unfold spec_IsCalm.f
 repeat' first
   | (with_reducible exact spec_cuCode.mono _ _ _)
   | (with_reducible exact spec_cuIs.mono _ _ _ _ _)
   | (with_reducible exact spec_cuQuiet.mono _ _ _ _)
   | (with_reducible exact LeO.refl _)
   | (with_reducible exact LeO.none _)
   | (with_reducible refine LeO.ite ?_ ?_)
   | (with_reducible refine LeO.bind ?_ (fun _=>?_))
   | exact spec_cuCode.mono _ _ _
   | exact spec_cuIs.mono _ _ _ _ _
   | exact spec_cuQuiet.mono _ _ _ _
   | exact LeO.none _
   | refine LeO.ite ?_ ?_
   | refine LeO.bind ?_ (fun _=>?_)
set_option maxHeartbeats 8000000 in
set_option maxRecDepth 100000 in
theorem spec_IsCalm.calls (k:Nat) (a0_0:Int) (a0_1:Int) (A1_0:Option Addr) (c1_0:Nat) (l1_0:List Bool) (a1_1:Bool) (r1:Bool) (r2:Bool) (w:World) (hr1_0:Kd.C Kd.bool w A1_0 l1_0.length l1_0) (hc1_0:l1_0.length≤c1_0) (h:spec_IsCalm.f k a0_0 a0_1 l1_0 a1_1=some (r1,r2)) :
  Calls Try.prog 17 #[.agg #[.int .i64 a0_0, .int .i64 a0_1], .agg #[.slice A1_0 l1_0.length c1_0, .bool a1_1]] w fun e w'=>e = .returned (.tuple #[.bool r1, .bool r2])∧Below w.heap.size w w':=by
 have hu32:=Try.underlying32
 have hu35:=Try.underlying35
 have HR1_0:=am' hr1_0
 have HC1_0:=am' hc1_0
 clear hr1_0 hc1_0;have HB:=am' (Below.refl w.heap.size w)
 have H:((spec_cuIs.f k a0_0 a0_1 l1_0 a1_1).bind fun t256=>(if t256=true then ((spec_cuCode.f k l1_0 a1_1).bind fun t257=>((spec_cuQuiet.f k a0_0 a0_1 t257).bind fun t258=>(some (t258,true)))) else (some (false,false))))=some (r1,r2):=h
 clear h;replace H:=Option.bind_eq_some_iff.mp H
 obtain ⟨t256,A30,H⟩:=H
 replace H:(if t256=true then ((spec_cuCode.f k l1_0 a1_1).bind fun t257=>((spec_cuQuiet.f k a0_0 a0_1 t257).bind fun t258=>(some (t258,true)))) else (some (false,false)))=some (r1,r2):=H
 have A3:=am' A30
 clear A30;by_cases c4:t256=true
 ·
  subst c4;have H1:((spec_cuCode.f k l1_0 a1_1).bind fun t257=>((spec_cuQuiet.f k a0_0 a0_1 t257).bind fun t258=>(some (t258,true))))=some (r1,r2):=by rw[if_pos rfl] at H;exact H
  clear H;have H:=H1;clear H1;replace H:=Option.bind_eq_some_iff.mp H;obtain ⟨t257,A50,H⟩:=H;replace H:((spec_cuQuiet.f k a0_0 a0_1 t257).bind fun t258=>(some (t258,true)))=some (r1,r2):=H;have A5:=am' A50;clear A50;replace H:=Option.bind_eq_some_iff.mp H;obtain ⟨t258,A60,H⟩:=H;replace H:(some (t258,true))=some (r1,r2):=H;have A6:=am' A60;clear A60;simp only[Option.some.injEq,Prod.mk.injEq] at H;obtain ⟨rfl,rfl⟩:=H;go_enter Try.func17,Try.ntmps17
  try go_wp2_with (first|((with_reducible refine gate_dst (N:=2) rfl ?_);refine box_event ?hg (N:=2) ?hd (cs:=#[.int .i64 a0_0, .int .i64 a0_1]) (t:=32) ?hr ?_;(case hd=>rfl);(case hg=>rfl);(case hr=>first|(go_simp;done)|(go_simp;rfl));intro gb254 hg w7 hbox hb;have n0_:=am' (bt' xb' hb);have n1_:=am' (hbox);have n2_:=am' ((by rw[hg];exact (bz' xb'):w.heap.size≤gb254));have n3_:=am' ((by rw[hg];exact (bz' xb'):w.heap.size≤gb254));clear HB;have HB:=n0_;have BK254:=n1_;have GW254:=n2_;have GE254:=n3_;clear n0_ n1_ n2_ n3_;clear hb hbox hg)|((with_reducible refine gate_dst (N:=3) rfl ?_);refine box_event ?hg (N:=3) ?hd (cs:=#[.slice A1_0 l1_0.length c1_0, .bool a1_1]) (t:=35) ?hr ?_;(case hd=>rfl);(case hg=>rfl);(case hr=>first|(go_simp;done)|(go_simp;rfl));intro gb255 hg w8 hbox hb;have n0_:=am' (bb' (g:=gb254) (o := .cells #[.int .i64 a0_0, .int .i64 a0_1] 32 (0,0)) (kk' BK254.out) hb);have n1_:=am' (bt' (yb' GE254.out) hb);have n2_:=am' (hbox);have n3_:=am' ((by rw[hg];exact (bz' (yb' GE254.out)):w.heap.size≤gb255));have n4_:=am' ((by rw[hg];exact (bz' (yb' GE254.out)):w.heap.size≤gb255));have n5_:=am' ((by rw[hg];exact Nat.ne_of_lt (blk_lt (g:=gb254) (o := .cells #[.int .i64 a0_0, .int .i64 a0_1] 32 (0,0)) (kk' BK254.out)):gb254≠gb255));have n6_:=am' ((by rw[hg];exact Nat.ne_of_gt (blk_lt (g:=gb254) (o := .cells #[.int .i64 a0_0, .int .i64 a0_1] 32 (0,0)) (kk' BK254.out)):gb255≠gb254));clear BK254;clear HB;have BK254:=n0_;have HB:=n1_;have BK255:=n2_;have GW255:=n3_;have GE255:=n4_;have NB254_255:=n5_;have NB255_254:=n6_;clear n0_ n1_ n2_ n3_ n4_ n5_ n6_;clear hb hbox hg;have hnb9:=NB254_255.out;have hnc9:=NB255_254.out;have hcz10_0:w8.cell? ⟨gb254,0,none⟩=some (.int .i64 a0_0):=(bc' BK254.out 0).trans rfl;have hcz10_1:w8.cell? ⟨gb254,1,none⟩=some (.int .i64 a0_1):=(bc' BK254.out 1).trans rfl;have hfz10_0:=bf' BK254.out 0;have hfz10_1:=bf' BK254.out 1;have hcz11_0:w8.cell? ⟨gb255,0,none⟩=some (.slice A1_0 l1_0.length c1_0):=(bc' BK255.out 0).trans rfl;have hcz11_1:w8.cell? ⟨gb255,1,none⟩=some (.bool a1_1):=(bc' BK255.out 1).trans rfl;have hfz11_0:=bf' BK255.out 0;have hfz11_1:=bf' BK255.out 1)|((with_reducible refine gate_callee (f:=42) rfl ?_);refine goesL_ (some 8) rfl rfl Try.func42 xk' rfl #[.agg #[.int .i64 a0_0, .int .i64 a0_1], .agg #[.slice A1_0 l1_0.length c1_0, .bool a1_1]] rfl xl' ?_;(with_reducible refine (spec_cuIs.calls k a0_0 a0_1 _ _ l1_0 a1_1 true _ ?side1 ?side2 A3.out).mono ?_);(case side1=>exact kc' (cb' HR1_0.out HB.out));(case side2=>exact HC1_0.out);rintro e w12 ⟨rfl,hb⟩;refine ⟨_,rfl,?_⟩;have n0_:=am' (bb' (g:=gb254) (o := .cells #[.int .i64 a0_0, .int .i64 a0_1] 32 (0,0)) (kk' BK254.out) hb);have n1_:=am' (bb' (g:=gb255) (o := .cells #[.slice A1_0 l1_0.length c1_0, .bool a1_1] 35 (0,0)) (kk' BK255.out) hb);have n2_:=am' (bt' (y2' GE254.out GE255.out) hb);clear BK254;clear BK255;clear HB;have BK254:=n0_;have BK255:=n1_;have HB:=n2_;clear n0_ n1_ n2_;(try clear hb);(try clear hb2);(try clear hk);(try clear hi)))
  have n0_:=am' (kd' BK254.out);have n1_:=am' (kd' BK255.out);have n2_:=am' (be' HB.out);clear BK254;clear BK255;clear HB;have BK254:=n0_;have BK255:=n1_;have HB:=n2_;clear n0_ n1_ n2_;refine start_ (n:=6) (S:=fun w'=>w'.cell? ⟨gb254,0,none⟩=some (.int .i64 a0_0)∧w'.cell? ⟨gb254,1,none⟩=some (.int .i64 a0_1)∧w'.cell? ⟨gb255,0,none⟩=some (.slice A1_0 l1_0.length c1_0)∧w'.cell? ⟨gb255,1,none⟩=some (.bool a1_1)) (ds:=[]) #[false,false,false,false,false,false] xk' rfl rfl ⟨(bc' BK254.out 0).trans rfl,(bc' BK254.out 1).trans rfl,(bc' BK255.out 0).trans rfl,(bc' BK255.out 1).trans rfl⟩ (fun hHeld=>?_);generalize w12.drew=w13 at BK254 BK255 HB hHeld ⊢
  refine take_ (i:=0) (N:=some 10) (v:=?_) (a':=?_) #[true,false,false,false,false,false] rfl rfl xk' (fun _ _ _ h=>h) (Or.inl ⟨by rfl,?_⟩) hHeld ?_ ?_
  rotate_left
  ·
   rintro w' ⟨s0,s1,s2,s3⟩
   go_simp;with_reducible rfl
  rotate_left
  ·
   simp only[Act.put,sa',sb',sc',i64_w,i32_w];rfl
  refine take_ (i:=1) (N:=some 11) (v:=?_) (a':=?_) #[true,true,false,false,false,false] rfl rfl xk' (fun _ _ _ h=>h) (Or.inl ⟨by rfl,?_⟩) hHeld ?_ ?_
  rotate_left
  ·
   rintro w' ⟨s0,s1,s2,s3⟩
   go_simp;with_reducible rfl
  rotate_left
  ·
   simp only[Act.put,sa',sb',sc',i64_w,i32_w];rfl
  refine one_ (i:=2) (N:=some 12) #[true,true,true,false,false,false] rfl rfl xk' (by decide) (fun K hK=>?_);refine goes_ Try.func44 xk' rfl #[.agg #[.slice A1_0 l1_0.length c1_0, .bool a1_1]] (by rfl) rfl rfl xl' ?_
  with_reducible refine (spec_cuCode.calls k _ _ l1_0 a1_1 t257 _ ?side1 ?side2 A5.out).mono ?_
  (case side1=>exact kc' (cb' HR1_0.out HB.out))
  (case side2=>exact HC1_0.out)
  rintro e w14 ⟨rfl,hb⟩
  refine ⟨_,rfl,?_⟩;have n0_:=am' (bb' (g:=gb254) (o := .cells #[.int .i64 a0_0, .int .i64 a0_1] 32 (0,0)) (kk' BK254.out) hb);have n1_:=am' (bb' (g:=gb255) (o := .cells #[.slice A1_0 l1_0.length c1_0, .bool a1_1] 35 (0,0)) (kk' BK255.out) hb);have n2_:=am' (bt' (y2' GE254.out GE255.out) hb);clear BK254;clear BK255;clear HB;have BK254:=n0_;have BK255:=n1_;have HB:=n2_;clear n0_ n1_ n2_;(try clear hb)
  (try clear hb2)
  (try clear hk)
  (try clear hi)
  refine hK.out _ _ ⟨(bc' BK254.out 0).trans rfl,(bc' BK254.out 1).trans rfl,(bc' BK255.out 0).trans rfl,(bc' BK255.out 1).trans rfl⟩ (fun hHeld=>?_);clear hK K;refine norm_ (a':=?_) ?_ ?_
  rotate_left
  ·
   show Act.put _ (some 12) _=_
   simp only[Act.put,sa',sb',sc',i64_w,i32_w];rfl
  refine one_ (i:=3) (N:=some 13) #[true,true,true,true,false,false] rfl rfl xk' (by decide) (fun K hK=>?_);refine goes_ Try.func43 xk' rfl #[.agg #[.int .i64 a0_0, .int .i64 a0_1], .int .i64 t257] (by rfl) rfl rfl xl' ?_
  with_reducible refine (spec_cuQuiet.calls k a0_0 a0_1 t257 t258 _ A6.out).mono ?_
  rintro e w15 ⟨rfl,hb⟩
  refine ⟨_,rfl,?_⟩;have n0_:=am' (bb' (g:=gb254) (o := .cells #[.int .i64 a0_0, .int .i64 a0_1] 32 (0,0)) (kk' BK254.out) hb);have n1_:=am' (bb' (g:=gb255) (o := .cells #[.slice A1_0 l1_0.length c1_0, .bool a1_1] 35 (0,0)) (kk' BK255.out) hb);have n2_:=am' (bt' (y2' GE254.out GE255.out) hb);clear BK254;clear BK255;clear HB;have BK254:=n0_;have BK255:=n1_;have HB:=n2_;clear n0_ n1_ n2_;(try clear hb)
  (try clear hb2)
  (try clear hk)
  (try clear hi)
  refine hK.out _ _ ⟨(bc' BK254.out 0).trans rfl,(bc' BK254.out 1).trans rfl,(bc' BK255.out 0).trans rfl,(bc' BK255.out 1).trans rfl⟩ (fun hHeld=>?_);clear hK K;refine norm_ (a':=?_) ?_ ?_
  rotate_left
  ·
   show Act.put _ (some 13) _=_
   simp only[Act.put,sa',sb',sc',i64_w,i32_w];rfl
  refine pure_ (i:=4) (N:=some 4) (v:=?_) (a':=?_) #[true,true,true,true,true,false] rfl rfl xk' (fun _ _ _ h=>h) (Or.inl ⟨by rfl,?_⟩) ?_ ?_
  rotate_left
  ·
   intro w';go_simp;with_reducible rfl
  rotate_left
  ·
   simp only[Act.put,sa',sb',sc',i64_w,i32_w];rfl
  refine pure_ (i:=5) (N:=some 5) (v:=?_) (a':=?_) #[true,true,true,true,true,true] rfl rfl xk' (fun _ _ _ h=>h) (Or.inl ⟨by rfl,?_⟩) ?_ ?_
  rotate_left
  ·
   intro w';go_simp;with_reducible rfl
  rotate_left
  ·
   simp only[Act.put,sa',sb',sc',i64_w,i32_w];rfl
  refine done_ xk' ?_
  try go_wp2
  go_ret2
  exact ⟨by first|rfl|(simp[errW_none,errW_some] <;> rfl)|(simp[*,errW_none,errW_some] <;> rfl),y2' GE254.out GE255.out⟩
 ·
  replace c4:=Bool.eq_false_iff.mpr c4;subst c4;have H1:(some (false,false))=some (r1,r2):=by rw[if_neg (show ¬ (false=true) by decide)] at H;exact H
  clear H;have H:=H1;clear H1;simp only[Option.some.injEq,Prod.mk.injEq] at H;obtain ⟨rfl,rfl⟩:=H;go_enter Try.func17,Try.ntmps17;go_wp2_with (first|((with_reducible refine gate_dst (N:=2) rfl ?_);refine box_event ?hg (N:=2) ?hd (cs:=#[.int .i64 a0_0, .int .i64 a0_1]) (t:=32) ?hr ?_;(case hd=>rfl);(case hg=>rfl);(case hr=>first|(go_simp;done)|(go_simp;rfl));intro gb254 hg w16 hbox hb;have n0_:=am' (bt' xb' hb);have n1_:=am' (hbox);have n2_:=am' ((by rw[hg];exact (bz' xb'):w.heap.size≤gb254));have n3_:=am' ((by rw[hg];exact (bz' xb'):w.heap.size≤gb254));clear HB;have HB:=n0_;have BK254:=n1_;have GW254:=n2_;have GE254:=n3_;clear n0_ n1_ n2_ n3_;clear hb hbox hg)|((with_reducible refine gate_dst (N:=3) rfl ?_);refine box_event ?hg (N:=3) ?hd (cs:=#[.slice A1_0 l1_0.length c1_0, .bool a1_1]) (t:=35) ?hr ?_;(case hd=>rfl);(case hg=>rfl);(case hr=>first|(go_simp;done)|(go_simp;rfl));intro gb255 hg w17 hbox hb;have n0_:=am' (bb' (g:=gb254) (o := .cells #[.int .i64 a0_0, .int .i64 a0_1] 32 (0,0)) (kk' BK254.out) hb);have n1_:=am' (bt' (yb' GE254.out) hb);have n2_:=am' (hbox);have n3_:=am' ((by rw[hg];exact (bz' (yb' GE254.out)):w.heap.size≤gb255));have n4_:=am' ((by rw[hg];exact (bz' (yb' GE254.out)):w.heap.size≤gb255));have n5_:=am' ((by rw[hg];exact Nat.ne_of_lt (blk_lt (g:=gb254) (o := .cells #[.int .i64 a0_0, .int .i64 a0_1] 32 (0,0)) (kk' BK254.out)):gb254≠gb255));have n6_:=am' ((by rw[hg];exact Nat.ne_of_gt (blk_lt (g:=gb254) (o := .cells #[.int .i64 a0_0, .int .i64 a0_1] 32 (0,0)) (kk' BK254.out)):gb255≠gb254));clear BK254;clear HB;have BK254:=n0_;have HB:=n1_;have BK255:=n2_;have GW255:=n3_;have GE255:=n4_;have NB254_255:=n5_;have NB255_254:=n6_;clear n0_ n1_ n2_ n3_ n4_ n5_ n6_;clear hb hbox hg;have hnb18:=NB254_255.out;have hnc18:=NB255_254.out;have hcz19_0:w17.cell? ⟨gb254,0,none⟩=some (.int .i64 a0_0):=(bc' BK254.out 0).trans rfl;have hcz19_1:w17.cell? ⟨gb254,1,none⟩=some (.int .i64 a0_1):=(bc' BK254.out 1).trans rfl;have hfz19_0:=bf' BK254.out 0;have hfz19_1:=bf' BK254.out 1;have hcz20_0:w17.cell? ⟨gb255,0,none⟩=some (.slice A1_0 l1_0.length c1_0):=(bc' BK255.out 0).trans rfl;have hcz20_1:w17.cell? ⟨gb255,1,none⟩=some (.bool a1_1):=(bc' BK255.out 1).trans rfl;have hfz20_0:=bf' BK255.out 0;have hfz20_1:=bf' BK255.out 1)|((with_reducible refine gate_callee (f:=42) rfl ?_);refine goesL_ (some 8) rfl rfl Try.func42 xk' rfl #[.agg #[.int .i64 a0_0, .int .i64 a0_1], .agg #[.slice A1_0 l1_0.length c1_0, .bool a1_1]] rfl xl' ?_;(with_reducible refine (spec_cuIs.calls k a0_0 a0_1 _ _ l1_0 a1_1 false _ ?side1 ?side2 A3.out).mono ?_);(case side1=>exact kc' (cb' HR1_0.out HB.out));(case side2=>exact HC1_0.out);rintro e w21 ⟨rfl,hb⟩;refine ⟨_,rfl,?_⟩;have n0_:=am' (bb' (g:=gb254) (o := .cells #[.int .i64 a0_0, .int .i64 a0_1] 32 (0,0)) (kk' BK254.out) hb);have n1_:=am' (bb' (g:=gb255) (o := .cells #[.slice A1_0 l1_0.length c1_0, .bool a1_1] 35 (0,0)) (kk' BK255.out) hb);have n2_:=am' (bt' (y2' GE254.out GE255.out) hb);clear BK254;clear BK255;clear HB;have BK254:=n0_;have BK255:=n1_;have HB:=n2_;clear n0_ n1_ n2_;(try clear hb);(try clear hb2);(try clear hk);(try clear hi)))
  go_ret2
  exact ⟨by first|rfl|(simp[errW_none,errW_some] <;> rfl)|(simp[*,errW_none,errW_some] <;> rfl),y2' GE254.out GE255.out⟩
def spec_IsCompany.f (a0_0:Int) (a0_1:Int):Option (Bool):=(spec_cuGood.f a0_0 a0_1).bind fun t260=>(some t260)
set_option maxHeartbeats 8000000 in
set_option maxRecDepth 100000 in
theorem spec_IsCompany.calls (a0_0:Int) (a0_1:Int) (r:Bool) (w:World) (h:spec_IsCompany.f a0_0 a0_1=some r) :
  Calls Try.prog 19 #[.agg #[.int .i64 a0_0, .int .i64 a0_1]] w fun e w'=>e = .returned (.bool r)∧Below w.heap.size w w':=by
 have hu32:=Try.underlying32
 have HB:=am' (Below.refl w.heap.size w)
 have H:((spec_cuGood.f a0_0 a0_1).bind fun t260=>(some t260))=some r:=h
 clear h;replace H:=Option.bind_eq_some_iff.mp H
 obtain ⟨t260,A20,H⟩:=H
 replace H:(some t260)=some r:=H
 have A2:=am' A20
 clear A20;obtain rfl:=os' H
 go_enter Try.func19,Try.ntmps19
 go_wp2_with (first|((with_reducible refine gate_dst (N:=1) rfl ?_);refine box_event ?hg (N:=1) ?hd (cs:=#[.int .i64 a0_0, .int .i64 a0_1]) (t:=32) ?hr ?_;(case hd=>rfl);(case hg=>rfl);(case hr=>first|(go_simp;done)|(go_simp;rfl));intro gb259 hg w3 hbox hb;have n0_:=am' (bt' xb' hb);have n1_:=am' (hbox);have n2_:=am' ((by rw[hg];exact (bz' xb'):w.heap.size≤gb259));have n3_:=am' ((by rw[hg];exact (bz' xb'):w.heap.size≤gb259));clear HB;have HB:=n0_;have BK259:=n1_;have GW259:=n2_;have GE259:=n3_;clear n0_ n1_ n2_ n3_;clear hb hbox hg;have hcz4_0:w3.cell? ⟨gb259,0,none⟩=some (.int .i64 a0_0):=(bc' BK259.out 0).trans rfl;have hcz4_1:w3.cell? ⟨gb259,1,none⟩=some (.int .i64 a0_1):=(bc' BK259.out 1).trans rfl;have hfz4_0:=bf' BK259.out 0;have hfz4_1:=bf' BK259.out 1)|((with_reducible refine gate_callee (f:=48) rfl ?_);refine goesL_ (some 4) rfl rfl Try.func48 xk' rfl #[.agg #[.int .i64 a0_0, .int .i64 a0_1]] rfl xl' ?_;(with_reducible refine (spec_cuGood.calls a0_0 a0_1 t260 _ A2.out).mono ?_);rintro e w5 ⟨rfl,hb⟩;refine ⟨_,rfl,?_⟩;have n0_:=am' (bb' (g:=gb259) (o := .cells #[.int .i64 a0_0, .int .i64 a0_1] 32 (0,0)) (kk' BK259.out) hb);have n1_:=am' (bt' (yb' GE259.out) hb);clear BK259;clear HB;have BK259:=n0_;have HB:=n1_;clear n0_ n1_;(try clear hb);(try clear hb2);(try clear hk);(try clear hi)))
 go_ret
 exact ⟨by first|rfl|(simp[errW_none,errW_some] <;> rfl)|(simp[*,errW_none,errW_some] <;> rfl),yb' GE259.out⟩
end Go.Proofs.Ytabhhkiipilghaa.C2
