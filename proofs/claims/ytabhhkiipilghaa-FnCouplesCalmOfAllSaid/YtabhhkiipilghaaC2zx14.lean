import Derived.Test.YtabhhkiipilghaaC2zx0
import Derived.Test.YtabhhkiipilghaaC2zx4
import Derived.Test.YtabhhkiipilghaaC2zx5
import Derived.Test.YtabhhkiipilghaaC2zx11
import Derived.Test.YtabhhkiipilghaaC2zx12
import Derived.Test.YtabhhkiipilghaaC2zx13
import Derived.Test.YtabhhkiipilghaaC2zAl
namespace Go.Proofs.Ytabhhkiipilghaa.C2
open Go.RowKit Go.Proofs.YtabhhkiipilghaaW.PrintWords Go.Proofs.YtabhhkiipilghaaW.PrintLast Go.Proofs.YtabhhkiipilghaaW.PrintMore Go.Proofs.Ytabhhkiipilghaa.H
attribute [local go_sem] max2_int min2_int max_two min_two max_three min_three max_four min_four
set_option linter.unusedVariables false
set_option linter.unusedSimpArgs false
def spec_RowBoat.j0:Nat→List Int→Bool→Int→Int→List Bool→Bool→Option (List Bool × Bool × Bool)
 | 0,_,_,_,_,_,_=>none
 | k+1,x2,x26,x313000,x313001,x314000,x314001=>if x26=true then (some (([]:List Bool),false,false)) else ((spec_cuCode.f k x314000 x314001).bind fun t320=>((spec_cuBits.f k x2).bind fun t321=>((spec_cuState.f k x313000 x313001 (Go.bits .xor .i64 t320 (wrap64 ((wrap64 (2 * t321))+1)))).bind fun bt322=>(some (bt322.1,bt322.2,true)))))
def spec_RowBoat.f (k:Nat) (a0_0:Int) (a0_1:Int) (l1_0:List Bool) (a1_1:Bool) (l2:List Int):Option (List Bool × Bool × Bool):=(spec_cuIs.f k a0_0 a0_1 l1_0 a1_1).bind fun t315=>(if t315=true then ((spec_cuCode.f k l1_0 a1_1).bind fun t316=>((spec_cuQuiet.f k a0_0 a0_1 t316).bind fun t317=>(if t317=true then ((spec_cuCode.f k l1_0 a1_1).bind fun t318=>((spec_cuTrip.f k a0_0 a0_1 t318 l2).bind fun t319=>(spec_RowBoat.j0 k l2 (!t319) a0_0 a0_1 l1_0 a1_1))) else (spec_RowBoat.j0 k l2 true a0_0 a0_1 l1_0 a1_1)))) else (spec_RowBoat.j0 k l2 true a0_0 a0_1 l1_0 a1_1))
theorem spec_RowBoat.mono_l:∀ k,(∀ y0 y1 y2 y3 y4 y5,LeO (spec_RowBoat.j0 k y0 y1 y2 y3 y4 y5) (spec_RowBoat.j0 (k+1) y0 y1 y2 y3 y4 y5))
 | 0=>fun _ _ _ _ _ _ r h=>by simp[spec_RowBoat.j0] at h
 | k+1=>by
  have ih0:=spec_RowBoat.mono_l k
  ·
   intro y0 y1 y2 y3 y4 y5;unfold spec_RowBoat.j0
   repeat' first
   | (with_reducible exact ih0 _ _ _ _ _ _)
   | (with_reducible exact spec_cuBits.mono _ _)
   | (with_reducible exact spec_cuCode.mono _ _ _)
   | (with_reducible exact spec_cuIs.mono _ _ _ _ _)
   | (with_reducible exact spec_cuQuiet.mono _ _ _ _)
   | (with_reducible exact spec_cuState.mono _ _ _ _)
   | (with_reducible exact spec_cuTrip.mono _ _ _ _ _)
   | (with_reducible exact LeO.refl _)
   | (with_reducible exact LeO.none _)
   | (with_reducible refine LeO.ite ?_ ?_)
   | (with_reducible refine LeO.bind ?_ (fun _=>?_))
   | exact ih0 _ _ _ _ _ _
   | exact spec_cuBits.mono _ _
   | exact spec_cuCode.mono _ _ _
   | exact spec_cuIs.mono _ _ _ _ _
   | exact spec_cuQuiet.mono _ _ _ _
   | exact spec_cuState.mono _ _ _ _
   | exact spec_cuTrip.mono _ _ _ _ _
   | exact LeO.none _
   | refine LeO.ite ?_ ?_
   | refine LeO.bind ?_ (fun _=>?_)
theorem spec_RowBoat.mono:∀ a0 a1 a2 a3 a4 k,LeO (spec_RowBoat.f k a0 a1 a2 a3 a4) (spec_RowBoat.f (k+1) a0 a1 a2 a3 a4):=by
 intro a0 a1 a2 a3 a4 k;have ih0:=spec_RowBoat.mono_l k
 unfold spec_RowBoat.f
 repeat' first
   | (with_reducible exact ih0 _ _ _ _ _ _)
   | (with_reducible exact spec_cuBits.mono _ _)
   | (with_reducible exact spec_cuCode.mono _ _ _)
   | (with_reducible exact spec_cuIs.mono _ _ _ _ _)
   | (with_reducible exact spec_cuQuiet.mono _ _ _ _)
   | (with_reducible exact spec_cuState.mono _ _ _ _)
   | (with_reducible exact spec_cuTrip.mono _ _ _ _ _)
   | (with_reducible exact LeO.refl _)
   | (with_reducible exact LeO.none _)
   | (with_reducible refine LeO.ite ?_ ?_)
   | (with_reducible refine LeO.bind ?_ (fun _=>?_))
   | exact ih0 _ _ _ _ _ _
   | exact spec_cuBits.mono _ _
   | exact spec_cuCode.mono _ _ _
   | exact spec_cuIs.mono _ _ _ _ _
   | exact spec_cuQuiet.mono _ _ _ _
   | exact spec_cuState.mono _ _ _ _
   | exact spec_cuTrip.mono _ _ _ _ _
   | exact LeO.none _
   | refine LeO.ite ?_ ?_
   | refine LeO.bind ?_ (fun _=>?_)
def spec_RowBoat.T1:Bool × List (List Nat × List Nat):=(true,[([],[]),([],[]),([0,1],[0,1]),([2],[2]),([3,2],[3]),([4],[4]),([4],[4]),([6,4,4],[4,6]),([5,7,7,4],[4,5,7]),([8,4],[4,8]),([4,9],[4,9]),([10,8],[10]),([11],[11]),([11],[11]),([13,11,11],[11,13]),([11],[11]),([12,14,15,14,11],[11,12,14,15]),([16,11],[11,16]),([11,17],[11,17])])
def spec_RowBoat.B1:List Nat:=[0,0,3,7,15,31,31,95,255,511,1023,2047,4095,4095,12287,4095,65535,131071,262143]
theorem spec_RowBoat.tab1:rtab .any (opsOf Try.f24 1)=spec_RowBoat.T1:=by kernel_rfl
theorem spec_RowBoat.bits1:waitsOk spec_RowBoat.T1.2 spec_RowBoat.B1=true:=by kernel_rfl
def spec_RowBoat.T3:Bool × List (List Nat × List Nat):=(true,[([],[]),([],[]),([1],[1]),([],[]),([3,2],[3]),([4],[4]),([5],[5]),([2,6],[2,6]),([0,7,4],[0,7]),([8,8,0,1,2,3,4,5,6,7,8],[8]),([9,0,1,2,3,4,5,6,7,8,9],[])])
def spec_RowBoat.B3:List Nat:=[0,0,2,0,14,30,62,126,255,511,1023]
theorem spec_RowBoat.tab3:rtab .any (opsOf Try.f24 3)=spec_RowBoat.T3:=by kernel_rfl
theorem spec_RowBoat.bits3:waitsOk spec_RowBoat.T3.2 spec_RowBoat.B3=true:=by kernel_rfl
set_option maxHeartbeats 8000000 in
set_option maxRecDepth 100000 in
theorem spec_RowBoat.calls (k:Nat) (a0_0:Int) (a0_1:Int) (A1_0:Option Addr) (c1_0:Nat) (l1_0:List Bool) (a1_1:Bool) (A2:Option Addr) (c2:Nat) (l2:List Int) (r1:List Bool) (r2:Bool) (r3:Bool) (w:World) (hr1_0:Kd.C Kd.bool w A1_0 l1_0.length l1_0) (hc1_0:l1_0.length≤c1_0) (hr2:Kd.C (Kd.int .i64) w A2 l2.length l2) (hc2:l2.length≤c2) (h:spec_RowBoat.f k a0_0 a0_1 l1_0 a1_1 l2=some (r1,r2,r3)) :
  Calls Try.prog 24 #[.agg #[.int .i64 a0_0, .int .i64 a0_1], .agg #[.slice A1_0 l1_0.length c1_0, .bool a1_1], .slice A2 l2.length c2] w fun e w'=>∃ v0_:Value,e = .returned (.tuple #[.agg #[v0_, .bool r2], .bool r3])∧Kd.R Kd.bool 4 w' w.heap.size (fun _=>True) v0_ r1∧Below w.heap.size w w':=by
 have hu32:=Try.underlying32
 have hu35:=Try.underlying35
 have HR1_0:=am' hr1_0
 have HC1_0:=am' hc1_0
 clear hr1_0 hc1_0;have HR2:=am' hr2
 have HC2:=am' hc2
 clear hr2 hc2;have HB:=am' (Below.refl w.heap.size w)
 have H:((spec_cuIs.f k a0_0 a0_1 l1_0 a1_1).bind fun t315=>(if t315=true then ((spec_cuCode.f k l1_0 a1_1).bind fun t316=>((spec_cuQuiet.f k a0_0 a0_1 t316).bind fun t317=>(if t317=true then ((spec_cuCode.f k l1_0 a1_1).bind fun t318=>((spec_cuTrip.f k a0_0 a0_1 t318 l2).bind fun t319=>(spec_RowBoat.j0 k l2 (!t319) a0_0 a0_1 l1_0 a1_1))) else (spec_RowBoat.j0 k l2 true a0_0 a0_1 l1_0 a1_1)))) else (spec_RowBoat.j0 k l2 true a0_0 a0_1 l1_0 a1_1)))=some (r1,r2,r3):=h
 clear h;have HC4:=am' H
 clear H;go_enter Try.func24,Try.ntmps24
 go_upto_region 1 with (first|((with_reducible refine gate_dst (N:=3) rfl ?_);refine box_event ?hg (N:=3) ?hd (cs:=#[.int .i64 a0_0, .int .i64 a0_1]) (t:=32) ?hr ?_;(case hd=>rfl);(case hg=>rfl);(case hr=>first|(go_simp;done)|(go_simp;rfl));intro gb312 hg w5 hbox hb;have n0_:=am' (bt' xb' hb);have n1_:=am' (hbox);have n2_:=am' ((by rw[hg];exact (bz' xb'):w.heap.size≤gb312));have n3_:=am' ((by rw[hg];exact (bz' xb'):w.heap.size≤gb312));clear HB;have HB:=n0_;have BK312:=n1_;have GW312:=n2_;have GE312:=n3_;clear n0_ n1_ n2_ n3_;clear hb hbox hg)|((with_reducible refine gate_dst (N:=4) rfl ?_);refine box_event ?hg (N:=4) ?hd (cs:=#[.slice A1_0 l1_0.length c1_0, .bool a1_1]) (t:=35) ?hr ?_;(case hd=>rfl);(case hg=>rfl);(case hr=>first|(go_simp;done)|(go_simp;rfl));intro gb313 hg w6 hbox hb;have n0_:=am' (bb' (g:=gb312) (o := .cells #[.int .i64 a0_0, .int .i64 a0_1] 32 (0,0)) (kk' BK312.out) hb);have n1_:=am' (bt' (yb' GE312.out) hb);have n2_:=am' (hbox);have n3_:=am' ((by rw[hg];exact (bz' (yb' GE312.out)):w.heap.size≤gb313));have n4_:=am' ((by rw[hg];exact (bz' (yb' GE312.out)):w.heap.size≤gb313));have n5_:=am' ((by rw[hg];exact Nat.ne_of_lt (blk_lt (g:=gb312) (o := .cells #[.int .i64 a0_0, .int .i64 a0_1] 32 (0,0)) (kk' BK312.out)):gb312≠gb313));have n6_:=am' ((by rw[hg];exact Nat.ne_of_gt (blk_lt (g:=gb312) (o := .cells #[.int .i64 a0_0, .int .i64 a0_1] 32 (0,0)) (kk' BK312.out)):gb313≠gb312));clear BK312;clear HB;have BK312:=n0_;have HB:=n1_;have BK313:=n2_;have GW313:=n3_;have GE313:=n4_;have NB312_313:=n5_;have NB313_312:=n6_;clear n0_ n1_ n2_ n3_ n4_ n5_ n6_;clear hb hbox hg)|((with_reducible refine gate_dst (N:=6) rfl ?_);refine box_event ?hg (N:=6) ?hd (cs:=#[.slice none 0 0, .bool false]) (t:=35) ?hr ?_;(case hd=>rfl);(case hg=>rfl);(case hr=>first|(go_simp;done)|(go_simp;rfl));intro gb314 hg w7 hbox hb;have n0_:=am' (bb' (g:=gb312) (o := .cells #[.int .i64 a0_0, .int .i64 a0_1] 32 (0,0)) (kk' BK312.out) hb);have n1_:=am' (bb' (g:=gb313) (o := .cells #[.slice A1_0 l1_0.length c1_0, .bool a1_1] 35 (0,0)) (kk' BK313.out) hb);have n2_:=am' (bt' (y2' GE312.out GE313.out) hb);have n3_:=am' (hbox);have n4_:=am' ((by rw[hg];exact (bz' (y2' GE312.out GE313.out)):w.heap.size≤gb314));have n5_:=am' ((by rw[hg];exact (bz' (y2' GE312.out GE313.out)):w.heap.size≤gb314));have n6_:=am' ((by rw[hg];exact Nat.ne_of_lt (blk_lt (g:=gb312) (o := .cells #[.int .i64 a0_0, .int .i64 a0_1] 32 (0,0)) (kk' BK312.out)):gb312≠gb314));have n7_:=am' ((by rw[hg];exact Nat.ne_of_gt (blk_lt (g:=gb312) (o := .cells #[.int .i64 a0_0, .int .i64 a0_1] 32 (0,0)) (kk' BK312.out)):gb314≠gb312));have n8_:=am' ((by rw[hg];exact Nat.ne_of_lt (blk_lt (g:=gb313) (o := .cells #[.slice A1_0 l1_0.length c1_0, .bool a1_1] 35 (0,0)) (kk' BK313.out)):gb313≠gb314));have n9_:=am' ((by rw[hg];exact Nat.ne_of_gt (blk_lt (g:=gb313) (o := .cells #[.slice A1_0 l1_0.length c1_0, .bool a1_1] 35 (0,0)) (kk' BK313.out)):gb314≠gb313));clear BK312;clear BK313;clear HB;have BK312:=n0_;have BK313:=n1_;have HB:=n2_;have BK314:=n3_;have GW314:=n4_;have GE314:=n5_;have NB312_314:=n6_;have NB314_312:=n7_;have NB313_314:=n8_;have NB314_313:=n9_;clear n0_ n1_ n2_ n3_ n4_ n5_ n6_ n7_ n8_ n9_;clear hb hbox hg))
 (try simp only[Act.put,sa',sb',sc'])
 go_cut [26] (fun v26 wc=>∃ (kq:Nat) (x26_3:Bool),v26 = .bool x26_3∧Aside0 (spec_RowBoat.j0 kq l2 x26_3 a0_0 a0_1 l1_0 a1_1=some (r1,r2,r3))∧Aside0 (kq≤k)∧Aside0 (wc.heap[gb312]? = some (.cells #[.int .i64 a0_0, .int .i64 a0_1] 32 (0,0)))∧Aside0 (wc.heap[gb313]? = some (.cells #[(.slice A1_0 l1_0.length c1_0), .bool a1_1] 35 (0,0)))∧Aside0 (wc.heap[gb314]? = some (.cells #[(.slice none 0 0), .bool false] 35 (0,0)))∧Aside0 (Below w.heap.size w wc))
 case first =>
  have H:=HC4.out;clear HC4;replace H:=Option.bind_eq_some_iff.mp H;obtain ⟨t315,A80,H⟩:=H;replace H:(if t315=true then ((spec_cuCode.f k l1_0 a1_1).bind fun t316=>((spec_cuQuiet.f k a0_0 a0_1 t316).bind fun t317=>(if t317=true then ((spec_cuCode.f k l1_0 a1_1).bind fun t318=>((spec_cuTrip.f k a0_0 a0_1 t318 l2).bind fun t319=>(spec_RowBoat.j0 k l2 (!t319) a0_0 a0_1 l1_0 a1_1))) else (spec_RowBoat.j0 k l2 true a0_0 a0_1 l1_0 a1_1)))) else (spec_RowBoat.j0 k l2 true a0_0 a0_1 l1_0 a1_1))=some (r1,r2,r3):=H;have A8:=am' A80;clear A80;by_cases c9:t315=true
  ·
   subst c9;have H1:((spec_cuCode.f k l1_0 a1_1).bind fun t316=>((spec_cuQuiet.f k a0_0 a0_1 t316).bind fun t317=>(if t317=true then ((spec_cuCode.f k l1_0 a1_1).bind fun t318=>((spec_cuTrip.f k a0_0 a0_1 t318 l2).bind fun t319=>(spec_RowBoat.j0 k l2 (!t319) a0_0 a0_1 l1_0 a1_1))) else (spec_RowBoat.j0 k l2 true a0_0 a0_1 l1_0 a1_1))))=some (r1,r2,r3):=by rw[if_pos rfl] at H;exact H
   clear H;have H:=H1;clear H1;replace H:=Option.bind_eq_some_iff.mp H;obtain ⟨t316,A100,H⟩:=H;replace H:((spec_cuQuiet.f k a0_0 a0_1 t316).bind fun t317=>(if t317=true then ((spec_cuCode.f k l1_0 a1_1).bind fun t318=>((spec_cuTrip.f k a0_0 a0_1 t318 l2).bind fun t319=>(spec_RowBoat.j0 k l2 (!t319) a0_0 a0_1 l1_0 a1_1))) else (spec_RowBoat.j0 k l2 true a0_0 a0_1 l1_0 a1_1)))=some (r1,r2,r3):=H;have A10:=am' A100;clear A100;replace H:=Option.bind_eq_some_iff.mp H;obtain ⟨t317,A110,H⟩:=H;replace H:(if t317=true then ((spec_cuCode.f k l1_0 a1_1).bind fun t318=>((spec_cuTrip.f k a0_0 a0_1 t318 l2).bind fun t319=>(spec_RowBoat.j0 k l2 (!t319) a0_0 a0_1 l1_0 a1_1))) else (spec_RowBoat.j0 k l2 true a0_0 a0_1 l1_0 a1_1))=some (r1,r2,r3):=H;have A11:=am' A110;clear A110;by_cases c12:t317=true
   ·
    subst c12;have H1:((spec_cuCode.f k l1_0 a1_1).bind fun t318=>((spec_cuTrip.f k a0_0 a0_1 t318 l2).bind fun t319=>(spec_RowBoat.j0 k l2 (!t319) a0_0 a0_1 l1_0 a1_1)))=some (r1,r2,r3):=by rw[if_pos rfl] at H;exact H
    clear H;have H:=H1;clear H1;replace H:=Option.bind_eq_some_iff.mp H;obtain ⟨t318,A130,H⟩:=H;replace H:((spec_cuTrip.f k a0_0 a0_1 t318 l2).bind fun t319=>(spec_RowBoat.j0 k l2 (!t319) a0_0 a0_1 l1_0 a1_1))=some (r1,r2,r3):=H;have A13:=am' A130;clear A130;replace H:=Option.bind_eq_some_iff.mp H;obtain ⟨t319,A140,H⟩:=H;replace H:(spec_RowBoat.j0 k l2 (!t319) a0_0 a0_1 l1_0 a1_1)=some (r1,r2,r3):=H;have A14:=am' A140;clear A140;have H':=am' H;clear H;try go_wp2
    have n0_:=am' (kd' BK312.out);have n1_:=am' (kd' BK313.out);have n2_:=am' (kd' BK314.out);have n3_:=am' (be' HB.out);clear BK312;clear BK313;clear BK314;clear HB;have BK312:=n0_;have BK313:=n1_;have BK314:=n2_;have HB:=n3_;clear n0_ n1_ n2_ n3_;refine start_ (n:=19) (S:=fun w'=>w'.cell? ⟨gb312,0,none⟩=some (.int .i64 a0_0)∧w'.cell? ⟨gb312,1,none⟩=some (.int .i64 a0_1)∧w'.cell? ⟨gb313,0,none⟩=some (.slice A1_0 l1_0.length c1_0)∧w'.cell? ⟨gb313,1,none⟩=some (.bool a1_1)) (ds:=[]) #[false,false,false,false,false,false,false,false,false,false,false,false,false,false,false,false,false,false,false] xk' rfl rfl ⟨(bc' BK312.out 0).trans rfl,(bc' BK312.out 1).trans rfl,(bc' BK313.out 0).trans rfl,(bc' BK313.out 1).trans rfl⟩ (fun hHeld=>?_);refine with_tabW spec_RowBoat.tab1 spec_RowBoat.bits1 (fun HT_ HW_=>?_);generalize w7.drew=w15 at BK312 BK313 BK314 HB hHeld ⊢
    refine take_ (i:=0) (N:=some 8) (v:=?_) (a':=?_) #[true,false,false,false,false,false,false,false,false,false,false,false,false,false,false,false,false,false,false] rfl rfl (take_ofW HT_.out HW_.out xk') (fun _ _ _ h=>h) (Or.inl ⟨by rfl,?_⟩) hHeld ?_ ?_
    rotate_left
    ·
     rintro w' ⟨s0,s1,s2,s3⟩
     go_simp;with_reducible rfl
    rotate_left
    ·
     simp only[Act.put,sa',sb',sc',i64_w,i32_w];rfl
    refine take_ (i:=1) (N:=some 9) (v:=?_) (a':=?_) #[true,true,false,false,false,false,false,false,false,false,false,false,false,false,false,false,false,false,false] rfl rfl (take_ofW HT_.out HW_.out xk') (fun _ _ _ h=>h) (Or.inl ⟨by rfl,?_⟩) hHeld ?_ ?_
    rotate_left
    ·
     rintro w' ⟨s0,s1,s2,s3⟩
     go_simp;with_reducible rfl
    rotate_left
    ·
     simp only[Act.put,sa',sb',sc',i64_w,i32_w];rfl
    refine one_ (i:=2) (N:=some 10) #[true,true,true,false,false,false,false,false,false,false,false,false,false,false,false,false,false,false,false] rfl rfl (one_of HT_.out xk') (by decide) (fun K hK=>?_);refine goes_ Try.func42 xk' rfl #[.agg #[.int .i64 a0_0, .int .i64 a0_1], .agg #[.slice A1_0 l1_0.length c1_0, .bool a1_1]] (by rfl) rfl rfl xl' ?_
    with_reducible refine (spec_cuIs.calls k a0_0 a0_1 _ _ l1_0 a1_1 true _ ?side1 ?side2 A8.out).mono ?_
    (case side1=>exact kc' (cb' HR1_0.out HB.out))
    (case side2=>exact HC1_0.out)
    rintro e w16 ⟨rfl,hb⟩
    refine ⟨_,rfl,?_⟩;have n0_:=am' (bb' (g:=gb312) (o := .cells #[.int .i64 a0_0, .int .i64 a0_1] 32 (0,0)) (kk' BK312.out) hb);have n1_:=am' (bb' (g:=gb313) (o := .cells #[.slice A1_0 l1_0.length c1_0, .bool a1_1] 35 (0,0)) (kk' BK313.out) hb);have n2_:=am' (bb' (g:=gb314) (o := .cells #[.slice none 0 0, .bool false] 35 (0,0)) (kk' BK314.out) hb);have n3_:=am' (bt' (y3' GE312.out GE313.out GE314.out) hb);clear BK312;clear BK313;clear BK314;clear HB;have BK312:=n0_;have BK313:=n1_;have BK314:=n2_;have HB:=n3_;clear n0_ n1_ n2_ n3_;(try clear hb)
    (try clear hb2)
    (try clear hk)
    (try clear hi)
    refine hK.out _ _ ⟨(bc' BK312.out 0).trans rfl,(bc' BK312.out 1).trans rfl,(bc' BK313.out 0).trans rfl,(bc' BK313.out 1).trans rfl⟩ (fun hHeld=>?_);clear hK K;refine norm_ (a':=?_) ?_ ?_
    rotate_left
    ·
     show Act.put _ (some 10) _=_
     simp only[Act.put,sa',sb',sc',i64_w,i32_w];rfl
    refine pure_ (i:=3) (N:=some 11) (v:=?_) (a':=?_) #[true,true,true,true,false,false,false,false,false,false,false,false,false,false,false,false,false,false,false] rfl rfl (any_of HT_.out xk') (fun _ _ _ h=>h) (Or.inl ⟨by rfl,?_⟩) ?_ ?_
    rotate_left
    ·
     intro w';go_simp;with_reducible rfl
    rotate_left
    ·
     simp only[Act.put,sa',sb',sc',i64_w,i32_w];rfl
    refine pure_ (i:=4) (N:=some 12) (v:=?_) (a':=?_) #[true,true,true,true,true,false,false,false,false,false,false,false,false,false,false,false,false,false,false] rfl rfl (any_of HT_.out xk') (fun _ _ _ h=>h) (Or.inl ⟨by rfl,?_⟩) ?_ ?_
    rotate_left
    ·
     intro w';go_simp;with_reducible rfl
    rotate_left
    ·
     simp only[Act.put,sa',sb',sc',i64_w,i32_w];rfl
    refine take_ (i:=5) (N:=some 13) (v:=?_) (a':=?_) #[true,true,true,true,true,true,false,false,false,false,false,false,false,false,false,false,false,false,false] rfl rfl (take_ofW HT_.out HW_.out xk') (fun _ _ _ h=>h) (Or.inl ⟨by rfl,?_⟩) hHeld ?_ ?_
    rotate_left
    ·
     rintro w' ⟨s0,s1,s2,s3⟩
     go_simp;with_reducible rfl
    rotate_left
    ·
     simp only[Act.put,sa',sb',sc',i64_w,i32_w];rfl
    refine take_ (i:=6) (N:=some 14) (v:=?_) (a':=?_) #[true,true,true,true,true,true,true,false,false,false,false,false,false,false,false,false,false,false,false] rfl rfl (take_ofW HT_.out HW_.out xk') (fun _ _ _ h=>h) (Or.inl ⟨by rfl,?_⟩) hHeld ?_ ?_
    rotate_left
    ·
     rintro w' ⟨s0,s1,s2,s3⟩
     go_simp;with_reducible rfl
    rotate_left
    ·
     simp only[Act.put,sa',sb',sc',i64_w,i32_w];rfl
    refine one_ (i:=7) (N:=some 15) #[true,true,true,true,true,true,true,true,false,false,false,false,false,false,false,false,false,false,false] rfl rfl (one_of HT_.out xk') (by decide) (fun K hK=>?_);refine goes_ Try.func44 xk' rfl #[.agg #[.slice A1_0 l1_0.length c1_0, .bool a1_1]] (by rfl) rfl rfl xl' ?_
    with_reducible refine (spec_cuCode.calls k _ _ l1_0 a1_1 t316 _ ?side1 ?side2 A10.out).mono ?_
    (case side1=>exact kc' (cb' HR1_0.out HB.out))
    (case side2=>exact HC1_0.out)
    rintro e w17 ⟨rfl,hb⟩
    refine ⟨_,rfl,?_⟩;have n0_:=am' (bb' (g:=gb312) (o := .cells #[.int .i64 a0_0, .int .i64 a0_1] 32 (0,0)) (kk' BK312.out) hb);have n1_:=am' (bb' (g:=gb313) (o := .cells #[.slice A1_0 l1_0.length c1_0, .bool a1_1] 35 (0,0)) (kk' BK313.out) hb);have n2_:=am' (bb' (g:=gb314) (o := .cells #[.slice none 0 0, .bool false] 35 (0,0)) (kk' BK314.out) hb);have n3_:=am' (bt' (y3' GE312.out GE313.out GE314.out) hb);clear BK312;clear BK313;clear BK314;clear HB;have BK312:=n0_;have BK313:=n1_;have BK314:=n2_;have HB:=n3_;clear n0_ n1_ n2_ n3_;(try clear hb)
    (try clear hb2)
    (try clear hk)
    (try clear hi)
    refine hK.out _ _ ⟨(bc' BK312.out 0).trans rfl,(bc' BK312.out 1).trans rfl,(bc' BK313.out 0).trans rfl,(bc' BK313.out 1).trans rfl⟩ (fun hHeld=>?_);clear hK K;refine norm_ (a':=?_) ?_ ?_
    rotate_left
    ·
     show Act.put _ (some 15) _=_
     simp only[Act.put,sa',sb',sc',i64_w,i32_w];rfl
    refine one_ (i:=8) (N:=some 16) #[true,true,true,true,true,true,true,true,true,false,false,false,false,false,false,false,false,false,false] rfl rfl (one_of HT_.out xk') (by decide) (fun K hK=>?_);refine goes_ Try.func43 xk' rfl #[.agg #[.int .i64 a0_0, .int .i64 a0_1], .int .i64 t316] (by rfl) rfl rfl xl' ?_
    with_reducible refine (spec_cuQuiet.calls k a0_0 a0_1 t316 true _ A11.out).mono ?_
    rintro e w18 ⟨rfl,hb⟩
    refine ⟨_,rfl,?_⟩;have n0_:=am' (bb' (g:=gb312) (o := .cells #[.int .i64 a0_0, .int .i64 a0_1] 32 (0,0)) (kk' BK312.out) hb);have n1_:=am' (bb' (g:=gb313) (o := .cells #[.slice A1_0 l1_0.length c1_0, .bool a1_1] 35 (0,0)) (kk' BK313.out) hb);have n2_:=am' (bb' (g:=gb314) (o := .cells #[.slice none 0 0, .bool false] 35 (0,0)) (kk' BK314.out) hb);have n3_:=am' (bt' (y3' GE312.out GE313.out GE314.out) hb);clear BK312;clear BK313;clear BK314;clear HB;have BK312:=n0_;have BK313:=n1_;have BK314:=n2_;have HB:=n3_;clear n0_ n1_ n2_ n3_;(try clear hb)
    (try clear hb2)
    (try clear hk)
    (try clear hi)
    refine hK.out _ _ ⟨(bc' BK312.out 0).trans rfl,(bc' BK312.out 1).trans rfl,(bc' BK313.out 0).trans rfl,(bc' BK313.out 1).trans rfl⟩ (fun hHeld=>?_);clear hK K;refine norm_ (a':=?_) ?_ ?_
    rotate_left
    ·
     show Act.put _ (some 16) _=_
     simp only[Act.put,sa',sb',sc',i64_w,i32_w];rfl
    refine pure_ (i:=9) (N:=some 17) (v:=?_) (a':=?_) #[true,true,true,true,true,true,true,true,true,true,false,false,false,false,false,false,false,false,false] rfl rfl (any_of HT_.out xk') (fun _ _ _ h=>h) (Or.inl ⟨by rfl,?_⟩) ?_ ?_
    rotate_left
    ·
     intro w';go_simp;with_reducible rfl
    rotate_left
    ·
     simp only[Act.put,sa',sb',sc',i64_w,i32_w];rfl
    refine pure_ (i:=10) (N:=some 18) (v:=?_) (a':=?_) #[true,true,true,true,true,true,true,true,true,true,true,false,false,false,false,false,false,false,false] rfl rfl (any_of HT_.out xk') (fun _ _ _ h=>h) (Or.inl ⟨by rfl,?_⟩) ?_ ?_
    rotate_left
    ·
     intro w';go_simp;with_reducible rfl
    rotate_left
    ·
     simp only[Act.put,sa',sb',sc',i64_w,i32_w];rfl
    refine pure_ (i:=11) (N:=some 19) (v:=?_) (a':=?_) #[true,true,true,true,true,true,true,true,true,true,true,true,false,false,false,false,false,false,false] rfl rfl (any_of HT_.out xk') (fun _ _ _ h=>h) (Or.inl ⟨by rfl,?_⟩) ?_ ?_
    rotate_left
    ·
     intro w';go_simp;with_reducible rfl
    rotate_left
    ·
     simp only[Act.put,sa',sb',sc',i64_w,i32_w];rfl
    refine pure_ (i:=15) (N:=some 23) (v:=?_) (a':=?_) #[true,true,true,true,true,true,true,true,true,true,true,true,false,false,false,true,false,false,false] rfl rfl (any_of HT_.out xk') (fun _ _ _ h=>h) (Or.inl ⟨by rfl,?_⟩) ?_ ?_
    rotate_left
    ·
     intro w';go_simp;with_reducible rfl
    rotate_left
    ·
     simp only[Act.put,sa',sb',sc',i64_w,i32_w];rfl
    refine take_ (i:=12) (N:=some 20) (v:=?_) (a':=?_) #[true,true,true,true,true,true,true,true,true,true,true,true,true,false,false,true,false,false,false] rfl rfl (take_ofW HT_.out HW_.out xk') (fun _ _ _ h=>h) (Or.inl ⟨by rfl,?_⟩) hHeld ?_ ?_
    rotate_left
    ·
     rintro w' ⟨s0,s1,s2,s3⟩
     go_simp;with_reducible rfl
    rotate_left
    ·
     simp only[Act.put,sa',sb',sc',i64_w,i32_w];rfl
    refine take_ (i:=13) (N:=some 21) (v:=?_) (a':=?_) #[true,true,true,true,true,true,true,true,true,true,true,true,true,true,false,true,false,false,false] rfl rfl (take_ofW HT_.out HW_.out xk') (fun _ _ _ h=>h) (Or.inl ⟨by rfl,?_⟩) hHeld ?_ ?_
    rotate_left
    ·
     rintro w' ⟨s0,s1,s2,s3⟩
     go_simp;with_reducible rfl
    rotate_left
    ·
     simp only[Act.put,sa',sb',sc',i64_w,i32_w];rfl
    refine one_ (i:=14) (N:=some 22) #[true,true,true,true,true,true,true,true,true,true,true,true,true,true,true,true,false,false,false] rfl rfl (one_of HT_.out xk') (by decide) (fun K hK=>?_);refine goes_ Try.func44 xk' rfl #[.agg #[.slice A1_0 l1_0.length c1_0, .bool a1_1]] (by rfl) rfl rfl xl' ?_
    with_reducible refine (spec_cuCode.calls k _ _ l1_0 a1_1 t318 _ ?side1 ?side2 A13.out).mono ?_
    (case side1=>exact kc' (cb' HR1_0.out HB.out))
    (case side2=>exact HC1_0.out)
    rintro e w19 ⟨rfl,hb⟩
    refine ⟨_,rfl,?_⟩;have n0_:=am' (bb' (g:=gb312) (o := .cells #[.int .i64 a0_0, .int .i64 a0_1] 32 (0,0)) (kk' BK312.out) hb);have n1_:=am' (bb' (g:=gb313) (o := .cells #[.slice A1_0 l1_0.length c1_0, .bool a1_1] 35 (0,0)) (kk' BK313.out) hb);have n2_:=am' (bb' (g:=gb314) (o := .cells #[.slice none 0 0, .bool false] 35 (0,0)) (kk' BK314.out) hb);have n3_:=am' (bt' (y3' GE312.out GE313.out GE314.out) hb);clear BK312;clear BK313;clear BK314;clear HB;have BK312:=n0_;have BK313:=n1_;have BK314:=n2_;have HB:=n3_;clear n0_ n1_ n2_ n3_;(try clear hb)
    (try clear hb2)
    (try clear hk)
    (try clear hi)
    refine hK.out _ _ ⟨(bc' BK312.out 0).trans rfl,(bc' BK312.out 1).trans rfl,(bc' BK313.out 0).trans rfl,(bc' BK313.out 1).trans rfl⟩ (fun hHeld=>?_);clear hK K;refine norm_ (a':=?_) ?_ ?_
    rotate_left
    ·
     show Act.put _ (some 22) _=_
     simp only[Act.put,sa',sb',sc',i64_w,i32_w];rfl
    refine one_ (i:=16) (N:=some 24) #[true,true,true,true,true,true,true,true,true,true,true,true,true,true,true,true,true,false,false] rfl rfl (one_of HT_.out xk') (by decide) (fun K hK=>?_);refine goes_ Try.func55 xk' rfl #[.agg #[.int .i64 a0_0, .int .i64 a0_1], .int .i64 t318, .slice A2 l2.length c2] (by rfl) rfl rfl xl' ?_
    with_reducible refine (spec_cuTrip.calls k a0_0 a0_1 t318 _ _ l2 t319 _ ?side1 ?side2 A14.out).mono ?_
    (case side1=>exact kc' (cb' HR2.out HB.out))
    (case side2=>exact HC2.out)
    rintro e w20 ⟨rfl,hb⟩
    refine ⟨_,rfl,?_⟩;have n0_:=am' (bb' (g:=gb312) (o := .cells #[.int .i64 a0_0, .int .i64 a0_1] 32 (0,0)) (kk' BK312.out) hb);have n1_:=am' (bb' (g:=gb313) (o := .cells #[.slice A1_0 l1_0.length c1_0, .bool a1_1] 35 (0,0)) (kk' BK313.out) hb);have n2_:=am' (bb' (g:=gb314) (o := .cells #[.slice none 0 0, .bool false] 35 (0,0)) (kk' BK314.out) hb);have n3_:=am' (bt' (y3' GE312.out GE313.out GE314.out) hb);clear BK312;clear BK313;clear BK314;clear HB;have BK312:=n0_;have BK313:=n1_;have BK314:=n2_;have HB:=n3_;clear n0_ n1_ n2_ n3_;(try clear hb)
    (try clear hb2)
    (try clear hk)
    (try clear hi)
    refine hK.out _ _ ⟨(bc' BK312.out 0).trans rfl,(bc' BK312.out 1).trans rfl,(bc' BK313.out 0).trans rfl,(bc' BK313.out 1).trans rfl⟩ (fun hHeld=>?_);clear hK K;refine norm_ (a':=?_) ?_ ?_
    rotate_left
    ·
     show Act.put _ (some 24) _=_
     simp only[Act.put,sa',sb',sc',i64_w,i32_w];rfl
    refine pure_ (i:=17) (N:=some 25) (v:=?_) (a':=?_) #[true,true,true,true,true,true,true,true,true,true,true,true,true,true,true,true,true,true,false] rfl rfl (any_of HT_.out xk') (fun _ _ _ h=>h) (Or.inl ⟨by rfl,?_⟩) ?_ ?_
    rotate_left
    ·
     intro w';go_simp;with_reducible rfl
    rotate_left
    ·
     simp only[Act.put,sa',sb',sc',i64_w,i32_w];rfl
    refine pure_ (i:=18) (N:=some 26) (v:=?_) (a':=?_) #[true,true,true,true,true,true,true,true,true,true,true,true,true,true,true,true,true,true,true] rfl rfl (any_of HT_.out xk') (fun _ _ _ h=>h) (Or.inl ⟨by rfl,?_⟩) ?_ ?_
    rotate_left
    ·
     intro w';go_simp;with_reducible rfl
    rotate_left
    ·
     simp only[Act.put,sa',sb',sc',i64_w,i32_w];rfl
    refine done_ (done_of HT_.out xk') ?_
    try go_wp2
    go_meet
    case rel=>exact ⟨_,(!t319),xs',H',⟨by first|omega|exact Nat.le_refl _⟩,⟨kk' BK312.out⟩,⟨kk' BK313.out⟩,⟨kk' BK314.out⟩,⟨y3' GE312.out GE313.out GE314.out⟩⟩
   ·
    replace c12:=Bool.eq_false_iff.mpr c12;subst c12;have H1:(spec_RowBoat.j0 k l2 true a0_0 a0_1 l1_0 a1_1)=some (r1,r2,r3):=by rw[if_neg (show ¬ (false=true) by decide)] at H;exact H
    clear H;have H:=H1;clear H1;have H':=am' H;clear H;try go_wp2
    have n0_:=am' (kd' BK312.out);have n1_:=am' (kd' BK313.out);have n2_:=am' (kd' BK314.out);have n3_:=am' (be' HB.out);clear BK312;clear BK313;clear BK314;clear HB;have BK312:=n0_;have BK313:=n1_;have BK314:=n2_;have HB:=n3_;clear n0_ n1_ n2_ n3_;refine start_ (n:=19) (S:=fun w'=>w'.cell? ⟨gb312,0,none⟩=some (.int .i64 a0_0)∧w'.cell? ⟨gb312,1,none⟩=some (.int .i64 a0_1)∧w'.cell? ⟨gb313,0,none⟩=some (.slice A1_0 l1_0.length c1_0)∧w'.cell? ⟨gb313,1,none⟩=some (.bool a1_1)) (ds:=[]) #[false,false,false,false,false,false,false,false,false,false,false,false,false,false,false,false,false,false,false] xk' rfl rfl ⟨(bc' BK312.out 0).trans rfl,(bc' BK312.out 1).trans rfl,(bc' BK313.out 0).trans rfl,(bc' BK313.out 1).trans rfl⟩ (fun hHeld=>?_);refine with_tabW spec_RowBoat.tab1 spec_RowBoat.bits1 (fun HT_ HW_=>?_);generalize w7.drew=w21 at BK312 BK313 BK314 HB hHeld ⊢
    refine take_ (i:=0) (N:=some 8) (v:=?_) (a':=?_) #[true,false,false,false,false,false,false,false,false,false,false,false,false,false,false,false,false,false,false] rfl rfl (take_ofW HT_.out HW_.out xk') (fun _ _ _ h=>h) (Or.inl ⟨by rfl,?_⟩) hHeld ?_ ?_
    rotate_left
    ·
     rintro w' ⟨s0,s1,s2,s3⟩
     go_simp;with_reducible rfl
    rotate_left
    ·
     simp only[Act.put,sa',sb',sc',i64_w,i32_w];rfl
    refine take_ (i:=1) (N:=some 9) (v:=?_) (a':=?_) #[true,true,false,false,false,false,false,false,false,false,false,false,false,false,false,false,false,false,false] rfl rfl (take_ofW HT_.out HW_.out xk') (fun _ _ _ h=>h) (Or.inl ⟨by rfl,?_⟩) hHeld ?_ ?_
    rotate_left
    ·
     rintro w' ⟨s0,s1,s2,s3⟩
     go_simp;with_reducible rfl
    rotate_left
    ·
     simp only[Act.put,sa',sb',sc',i64_w,i32_w];rfl
    refine one_ (i:=2) (N:=some 10) #[true,true,true,false,false,false,false,false,false,false,false,false,false,false,false,false,false,false,false] rfl rfl (one_of HT_.out xk') (by decide) (fun K hK=>?_);refine goes_ Try.func42 xk' rfl #[.agg #[.int .i64 a0_0, .int .i64 a0_1], .agg #[.slice A1_0 l1_0.length c1_0, .bool a1_1]] (by rfl) rfl rfl xl' ?_
    with_reducible refine (spec_cuIs.calls k a0_0 a0_1 _ _ l1_0 a1_1 true _ ?side1 ?side2 A8.out).mono ?_
    (case side1=>exact kc' (cb' HR1_0.out HB.out))
    (case side2=>exact HC1_0.out)
    rintro e w22 ⟨rfl,hb⟩
    refine ⟨_,rfl,?_⟩;have n0_:=am' (bb' (g:=gb312) (o := .cells #[.int .i64 a0_0, .int .i64 a0_1] 32 (0,0)) (kk' BK312.out) hb);have n1_:=am' (bb' (g:=gb313) (o := .cells #[.slice A1_0 l1_0.length c1_0, .bool a1_1] 35 (0,0)) (kk' BK313.out) hb);have n2_:=am' (bb' (g:=gb314) (o := .cells #[.slice none 0 0, .bool false] 35 (0,0)) (kk' BK314.out) hb);have n3_:=am' (bt' (y3' GE312.out GE313.out GE314.out) hb);clear BK312;clear BK313;clear BK314;clear HB;have BK312:=n0_;have BK313:=n1_;have BK314:=n2_;have HB:=n3_;clear n0_ n1_ n2_ n3_;(try clear hb)
    (try clear hb2)
    (try clear hk)
    (try clear hi)
    refine hK.out _ _ ⟨(bc' BK312.out 0).trans rfl,(bc' BK312.out 1).trans rfl,(bc' BK313.out 0).trans rfl,(bc' BK313.out 1).trans rfl⟩ (fun hHeld=>?_);clear hK K;refine norm_ (a':=?_) ?_ ?_
    rotate_left
    ·
     show Act.put _ (some 10) _=_
     simp only[Act.put,sa',sb',sc',i64_w,i32_w];rfl
    refine pure_ (i:=3) (N:=some 11) (v:=?_) (a':=?_) #[true,true,true,true,false,false,false,false,false,false,false,false,false,false,false,false,false,false,false] rfl rfl (any_of HT_.out xk') (fun _ _ _ h=>h) (Or.inl ⟨by rfl,?_⟩) ?_ ?_
    rotate_left
    ·
     intro w';go_simp;with_reducible rfl
    rotate_left
    ·
     simp only[Act.put,sa',sb',sc',i64_w,i32_w];rfl
    refine pure_ (i:=4) (N:=some 12) (v:=?_) (a':=?_) #[true,true,true,true,true,false,false,false,false,false,false,false,false,false,false,false,false,false,false] rfl rfl (any_of HT_.out xk') (fun _ _ _ h=>h) (Or.inl ⟨by rfl,?_⟩) ?_ ?_
    rotate_left
    ·
     intro w';go_simp;with_reducible rfl
    rotate_left
    ·
     simp only[Act.put,sa',sb',sc',i64_w,i32_w];rfl
    refine take_ (i:=5) (N:=some 13) (v:=?_) (a':=?_) #[true,true,true,true,true,true,false,false,false,false,false,false,false,false,false,false,false,false,false] rfl rfl (take_ofW HT_.out HW_.out xk') (fun _ _ _ h=>h) (Or.inl ⟨by rfl,?_⟩) hHeld ?_ ?_
    rotate_left
    ·
     rintro w' ⟨s0,s1,s2,s3⟩
     go_simp;with_reducible rfl
    rotate_left
    ·
     simp only[Act.put,sa',sb',sc',i64_w,i32_w];rfl
    refine take_ (i:=6) (N:=some 14) (v:=?_) (a':=?_) #[true,true,true,true,true,true,true,false,false,false,false,false,false,false,false,false,false,false,false] rfl rfl (take_ofW HT_.out HW_.out xk') (fun _ _ _ h=>h) (Or.inl ⟨by rfl,?_⟩) hHeld ?_ ?_
    rotate_left
    ·
     rintro w' ⟨s0,s1,s2,s3⟩
     go_simp;with_reducible rfl
    rotate_left
    ·
     simp only[Act.put,sa',sb',sc',i64_w,i32_w];rfl
    refine one_ (i:=7) (N:=some 15) #[true,true,true,true,true,true,true,true,false,false,false,false,false,false,false,false,false,false,false] rfl rfl (one_of HT_.out xk') (by decide) (fun K hK=>?_);refine goes_ Try.func44 xk' rfl #[.agg #[.slice A1_0 l1_0.length c1_0, .bool a1_1]] (by rfl) rfl rfl xl' ?_
    with_reducible refine (spec_cuCode.calls k _ _ l1_0 a1_1 t316 _ ?side1 ?side2 A10.out).mono ?_
    (case side1=>exact kc' (cb' HR1_0.out HB.out))
    (case side2=>exact HC1_0.out)
    rintro e w23 ⟨rfl,hb⟩
    refine ⟨_,rfl,?_⟩;have n0_:=am' (bb' (g:=gb312) (o := .cells #[.int .i64 a0_0, .int .i64 a0_1] 32 (0,0)) (kk' BK312.out) hb);have n1_:=am' (bb' (g:=gb313) (o := .cells #[.slice A1_0 l1_0.length c1_0, .bool a1_1] 35 (0,0)) (kk' BK313.out) hb);have n2_:=am' (bb' (g:=gb314) (o := .cells #[.slice none 0 0, .bool false] 35 (0,0)) (kk' BK314.out) hb);have n3_:=am' (bt' (y3' GE312.out GE313.out GE314.out) hb);clear BK312;clear BK313;clear BK314;clear HB;have BK312:=n0_;have BK313:=n1_;have BK314:=n2_;have HB:=n3_;clear n0_ n1_ n2_ n3_;(try clear hb)
    (try clear hb2)
    (try clear hk)
    (try clear hi)
    refine hK.out _ _ ⟨(bc' BK312.out 0).trans rfl,(bc' BK312.out 1).trans rfl,(bc' BK313.out 0).trans rfl,(bc' BK313.out 1).trans rfl⟩ (fun hHeld=>?_);clear hK K;refine norm_ (a':=?_) ?_ ?_
    rotate_left
    ·
     show Act.put _ (some 15) _=_
     simp only[Act.put,sa',sb',sc',i64_w,i32_w];rfl
    refine one_ (i:=8) (N:=some 16) #[true,true,true,true,true,true,true,true,true,false,false,false,false,false,false,false,false,false,false] rfl rfl (one_of HT_.out xk') (by decide) (fun K hK=>?_);refine goes_ Try.func43 xk' rfl #[.agg #[.int .i64 a0_0, .int .i64 a0_1], .int .i64 t316] (by rfl) rfl rfl xl' ?_
    with_reducible refine (spec_cuQuiet.calls k a0_0 a0_1 t316 false _ A11.out).mono ?_
    rintro e w24 ⟨rfl,hb⟩
    refine ⟨_,rfl,?_⟩;have n0_:=am' (bb' (g:=gb312) (o := .cells #[.int .i64 a0_0, .int .i64 a0_1] 32 (0,0)) (kk' BK312.out) hb);have n1_:=am' (bb' (g:=gb313) (o := .cells #[.slice A1_0 l1_0.length c1_0, .bool a1_1] 35 (0,0)) (kk' BK313.out) hb);have n2_:=am' (bb' (g:=gb314) (o := .cells #[.slice none 0 0, .bool false] 35 (0,0)) (kk' BK314.out) hb);have n3_:=am' (bt' (y3' GE312.out GE313.out GE314.out) hb);clear BK312;clear BK313;clear BK314;clear HB;have BK312:=n0_;have BK313:=n1_;have BK314:=n2_;have HB:=n3_;clear n0_ n1_ n2_ n3_;(try clear hb)
    (try clear hb2)
    (try clear hk)
    (try clear hi)
    refine hK.out _ _ ⟨(bc' BK312.out 0).trans rfl,(bc' BK312.out 1).trans rfl,(bc' BK313.out 0).trans rfl,(bc' BK313.out 1).trans rfl⟩ (fun hHeld=>?_);clear hK K;refine norm_ (a':=?_) ?_ ?_
    rotate_left
    ·
     show Act.put _ (some 16) _=_
     simp only[Act.put,sa',sb',sc',i64_w,i32_w];rfl
    refine pure_ (i:=9) (N:=some 17) (v:=?_) (a':=?_) #[true,true,true,true,true,true,true,true,true,true,false,false,false,false,false,false,false,false,false] rfl rfl (any_of HT_.out xk') (fun _ _ _ h=>h) (Or.inl ⟨by rfl,?_⟩) ?_ ?_
    rotate_left
    ·
     intro w';go_simp;with_reducible rfl
    rotate_left
    ·
     simp only[Act.put,sa',sb',sc',i64_w,i32_w];rfl
    refine pure_ (i:=10) (N:=some 18) (v:=?_) (a':=?_) #[true,true,true,true,true,true,true,true,true,true,true,false,false,false,false,false,false,false,false] rfl rfl (any_of HT_.out xk') (fun _ _ _ h=>h) (Or.inl ⟨by rfl,?_⟩) ?_ ?_
    rotate_left
    ·
     intro w';go_simp;with_reducible rfl
    rotate_left
    ·
     simp only[Act.put,sa',sb',sc',i64_w,i32_w];rfl
    refine pure_ (i:=11) (N:=some 19) (v:=?_) (a':=?_) #[true,true,true,true,true,true,true,true,true,true,true,true,false,false,false,false,false,false,false] rfl rfl (any_of HT_.out xk') (fun _ _ _ h=>h) (Or.inl ⟨by rfl,?_⟩) ?_ ?_
    rotate_left
    ·
     intro w';go_simp;with_reducible rfl
    rotate_left
    ·
     simp only[Act.put,sa',sb',sc',i64_w,i32_w];rfl
    refine pure_ (i:=12) (N:=some 20) (v:=undef) (a':=?_) #[true,true,true,true,true,true,true,true,true,true,true,true,true,false,false,false,false,false,false] rfl rfl (any_of HT_.out xk') (fun _ _ _ h=>h) (Or.inr ⟨by rfl,rfl⟩) ?_ ?_
    rotate_left
    ·
     simp only[Act.put,sa',sb',sc',i64_w,i32_w];rfl
    refine pure_ (i:=13) (N:=some 21) (v:=undef) (a':=?_) #[true,true,true,true,true,true,true,true,true,true,true,true,true,true,false,false,false,false,false] rfl rfl (any_of HT_.out xk') (fun _ _ _ h=>h) (Or.inr ⟨by rfl,rfl⟩) ?_ ?_
    rotate_left
    ·
     simp only[Act.put,sa',sb',sc',i64_w,i32_w];rfl
    refine pure_ (i:=14) (N:=some 22) (v:=undef) (a':=?_) #[true,true,true,true,true,true,true,true,true,true,true,true,true,true,true,false,false,false,false] rfl rfl (any_of HT_.out xk') (fun _ _ _ h=>h) (Or.inr ⟨by rfl,rfl⟩) ?_ ?_
    rotate_left
    ·
     simp only[Act.put,sa',sb',sc',i64_w,i32_w];rfl
    refine pure_ (i:=15) (N:=some 23) (v:=undef) (a':=?_) #[true,true,true,true,true,true,true,true,true,true,true,true,true,true,true,true,false,false,false] rfl rfl (any_of HT_.out xk') (fun _ _ _ h=>h) (Or.inr ⟨by rfl,rfl⟩) ?_ ?_
    rotate_left
    ·
     simp only[Act.put,sa',sb',sc',i64_w,i32_w];rfl
    refine pure_ (i:=16) (N:=some 24) (v:=undef) (a':=?_) #[true,true,true,true,true,true,true,true,true,true,true,true,true,true,true,true,true,false,false] rfl rfl (any_of HT_.out xk') (fun _ _ _ h=>h) (Or.inr ⟨by rfl,rfl⟩) ?_ ?_
    rotate_left
    ·
     simp only[Act.put,sa',sb',sc',i64_w,i32_w];rfl
    refine pure_ (i:=17) (N:=some 25) (v:=undef) (a':=?_) #[true,true,true,true,true,true,true,true,true,true,true,true,true,true,true,true,true,true,false] rfl rfl (any_of HT_.out xk') (fun _ _ _ h=>h) (Or.inr ⟨by rfl,rfl⟩) ?_ ?_
    rotate_left
    ·
     simp only[Act.put,sa',sb',sc',i64_w,i32_w];rfl
    refine pure_ (i:=18) (N:=some 26) (v:=?_) (a':=?_) #[true,true,true,true,true,true,true,true,true,true,true,true,true,true,true,true,true,true,true] rfl rfl (any_of HT_.out xk') (fun _ _ _ h=>h) (Or.inl ⟨by rfl,?_⟩) ?_ ?_
    rotate_left
    ·
     intro w';go_simp;with_reducible rfl
    rotate_left
    ·
     simp only[Act.put,sa',sb',sc',i64_w,i32_w];rfl
    refine done_ (done_of HT_.out xk') ?_
    try go_wp2
    go_meet
    case rel=>exact ⟨_,(true),xs',H',⟨by first|omega|exact Nat.le_refl _⟩,⟨kk' BK312.out⟩,⟨kk' BK313.out⟩,⟨kk' BK314.out⟩,⟨y3' GE312.out GE313.out GE314.out⟩⟩
  ·
   replace c9:=Bool.eq_false_iff.mpr c9;subst c9;have H1:(spec_RowBoat.j0 k l2 true a0_0 a0_1 l1_0 a1_1)=some (r1,r2,r3):=by rw[if_neg (show ¬ (false=true) by decide)] at H;exact H
   clear H;have H:=H1;clear H1;have H':=am' H;clear H;try go_wp2
   have n0_:=am' (kd' BK312.out);have n1_:=am' (kd' BK313.out);have n2_:=am' (kd' BK314.out);have n3_:=am' (be' HB.out);clear BK312;clear BK313;clear BK314;clear HB;have BK312:=n0_;have BK313:=n1_;have BK314:=n2_;have HB:=n3_;clear n0_ n1_ n2_ n3_;refine start_ (n:=19) (S:=fun w'=>w'.cell? ⟨gb312,0,none⟩=some (.int .i64 a0_0)∧w'.cell? ⟨gb312,1,none⟩=some (.int .i64 a0_1)∧w'.cell? ⟨gb313,0,none⟩=some (.slice A1_0 l1_0.length c1_0)∧w'.cell? ⟨gb313,1,none⟩=some (.bool a1_1)) (ds:=[]) #[false,false,false,false,false,false,false,false,false,false,false,false,false,false,false,false,false,false,false] xk' rfl rfl ⟨(bc' BK312.out 0).trans rfl,(bc' BK312.out 1).trans rfl,(bc' BK313.out 0).trans rfl,(bc' BK313.out 1).trans rfl⟩ (fun hHeld=>?_);refine with_tabW spec_RowBoat.tab1 spec_RowBoat.bits1 (fun HT_ HW_=>?_);generalize w7.drew=w25 at BK312 BK313 BK314 HB hHeld ⊢
   refine take_ (i:=0) (N:=some 8) (v:=?_) (a':=?_) #[true,false,false,false,false,false,false,false,false,false,false,false,false,false,false,false,false,false,false] rfl rfl (take_ofW HT_.out HW_.out xk') (fun _ _ _ h=>h) (Or.inl ⟨by rfl,?_⟩) hHeld ?_ ?_
   rotate_left
   ·
    rintro w' ⟨s0,s1,s2,s3⟩
    go_simp;with_reducible rfl
   rotate_left
   ·
    simp only[Act.put,sa',sb',sc',i64_w,i32_w];rfl
   refine take_ (i:=1) (N:=some 9) (v:=?_) (a':=?_) #[true,true,false,false,false,false,false,false,false,false,false,false,false,false,false,false,false,false,false] rfl rfl (take_ofW HT_.out HW_.out xk') (fun _ _ _ h=>h) (Or.inl ⟨by rfl,?_⟩) hHeld ?_ ?_
   rotate_left
   ·
    rintro w' ⟨s0,s1,s2,s3⟩
    go_simp;with_reducible rfl
   rotate_left
   ·
    simp only[Act.put,sa',sb',sc',i64_w,i32_w];rfl
   refine one_ (i:=2) (N:=some 10) #[true,true,true,false,false,false,false,false,false,false,false,false,false,false,false,false,false,false,false] rfl rfl (one_of HT_.out xk') (by decide) (fun K hK=>?_);refine goes_ Try.func42 xk' rfl #[.agg #[.int .i64 a0_0, .int .i64 a0_1], .agg #[.slice A1_0 l1_0.length c1_0, .bool a1_1]] (by rfl) rfl rfl xl' ?_
   with_reducible refine (spec_cuIs.calls k a0_0 a0_1 _ _ l1_0 a1_1 false _ ?side1 ?side2 A8.out).mono ?_
   (case side1=>exact kc' (cb' HR1_0.out HB.out))
   (case side2=>exact HC1_0.out)
   rintro e w26 ⟨rfl,hb⟩
   refine ⟨_,rfl,?_⟩;have n0_:=am' (bb' (g:=gb312) (o := .cells #[.int .i64 a0_0, .int .i64 a0_1] 32 (0,0)) (kk' BK312.out) hb);have n1_:=am' (bb' (g:=gb313) (o := .cells #[.slice A1_0 l1_0.length c1_0, .bool a1_1] 35 (0,0)) (kk' BK313.out) hb);have n2_:=am' (bb' (g:=gb314) (o := .cells #[.slice none 0 0, .bool false] 35 (0,0)) (kk' BK314.out) hb);have n3_:=am' (bt' (y3' GE312.out GE313.out GE314.out) hb);clear BK312;clear BK313;clear BK314;clear HB;have BK312:=n0_;have BK313:=n1_;have BK314:=n2_;have HB:=n3_;clear n0_ n1_ n2_ n3_;(try clear hb)
   (try clear hb2)
   (try clear hk)
   (try clear hi)
   refine hK.out _ _ ⟨(bc' BK312.out 0).trans rfl,(bc' BK312.out 1).trans rfl,(bc' BK313.out 0).trans rfl,(bc' BK313.out 1).trans rfl⟩ (fun hHeld=>?_);clear hK K;refine norm_ (a':=?_) ?_ ?_
   rotate_left
   ·
    show Act.put _ (some 10) _=_
    simp only[Act.put,sa',sb',sc',i64_w,i32_w];rfl
   refine pure_ (i:=3) (N:=some 11) (v:=?_) (a':=?_) #[true,true,true,true,false,false,false,false,false,false,false,false,false,false,false,false,false,false,false] rfl rfl (any_of HT_.out xk') (fun _ _ _ h=>h) (Or.inl ⟨by rfl,?_⟩) ?_ ?_
   rotate_left
   ·
    intro w';go_simp;with_reducible rfl
   rotate_left
   ·
    simp only[Act.put,sa',sb',sc',i64_w,i32_w];rfl
   refine pure_ (i:=4) (N:=some 12) (v:=?_) (a':=?_) #[true,true,true,true,true,false,false,false,false,false,false,false,false,false,false,false,false,false,false] rfl rfl (any_of HT_.out xk') (fun _ _ _ h=>h) (Or.inl ⟨by rfl,?_⟩) ?_ ?_
   rotate_left
   ·
    intro w';go_simp;with_reducible rfl
   rotate_left
   ·
    simp only[Act.put,sa',sb',sc',i64_w,i32_w];rfl
   refine pure_ (i:=5) (N:=some 13) (v:=undef) (a':=?_) #[true,true,true,true,true,true,false,false,false,false,false,false,false,false,false,false,false,false,false] rfl rfl (any_of HT_.out xk') (fun _ _ _ h=>h) (Or.inr ⟨by rfl,rfl⟩) ?_ ?_
   rotate_left
   ·
    simp only[Act.put,sa',sb',sc',i64_w,i32_w];rfl
   refine pure_ (i:=6) (N:=some 14) (v:=undef) (a':=?_) #[true,true,true,true,true,true,true,false,false,false,false,false,false,false,false,false,false,false,false] rfl rfl (any_of HT_.out xk') (fun _ _ _ h=>h) (Or.inr ⟨by rfl,rfl⟩) ?_ ?_
   rotate_left
   ·
    simp only[Act.put,sa',sb',sc',i64_w,i32_w];rfl
   refine pure_ (i:=7) (N:=some 15) (v:=undef) (a':=?_) #[true,true,true,true,true,true,true,true,false,false,false,false,false,false,false,false,false,false,false] rfl rfl (any_of HT_.out xk') (fun _ _ _ h=>h) (Or.inr ⟨by rfl,rfl⟩) ?_ ?_
   rotate_left
   ·
    simp only[Act.put,sa',sb',sc',i64_w,i32_w];rfl
   refine pure_ (i:=8) (N:=some 16) (v:=undef) (a':=?_) #[true,true,true,true,true,true,true,true,true,false,false,false,false,false,false,false,false,false,false] rfl rfl (any_of HT_.out xk') (fun _ _ _ h=>h) (Or.inr ⟨by rfl,rfl⟩) ?_ ?_
   rotate_left
   ·
    simp only[Act.put,sa',sb',sc',i64_w,i32_w];rfl
   refine pure_ (i:=9) (N:=some 17) (v:=undef) (a':=?_) #[true,true,true,true,true,true,true,true,true,true,false,false,false,false,false,false,false,false,false] rfl rfl (any_of HT_.out xk') (fun _ _ _ h=>h) (Or.inr ⟨by rfl,rfl⟩) ?_ ?_
   rotate_left
   ·
    simp only[Act.put,sa',sb',sc',i64_w,i32_w];rfl
   refine pure_ (i:=10) (N:=some 18) (v:=?_) (a':=?_) #[true,true,true,true,true,true,true,true,true,true,true,false,false,false,false,false,false,false,false] rfl rfl (any_of HT_.out xk') (fun _ _ _ h=>h) (Or.inl ⟨by rfl,?_⟩) ?_ ?_
   rotate_left
   ·
    intro w';go_simp;with_reducible rfl
   rotate_left
   ·
    simp only[Act.put,sa',sb',sc',i64_w,i32_w];rfl
   refine pure_ (i:=11) (N:=some 19) (v:=?_) (a':=?_) #[true,true,true,true,true,true,true,true,true,true,true,true,false,false,false,false,false,false,false] rfl rfl (any_of HT_.out xk') (fun _ _ _ h=>h) (Or.inl ⟨by rfl,?_⟩) ?_ ?_
   rotate_left
   ·
    intro w';go_simp;with_reducible rfl
   rotate_left
   ·
    simp only[Act.put,sa',sb',sc',i64_w,i32_w];rfl
   refine pure_ (i:=12) (N:=some 20) (v:=undef) (a':=?_) #[true,true,true,true,true,true,true,true,true,true,true,true,true,false,false,false,false,false,false] rfl rfl (any_of HT_.out xk') (fun _ _ _ h=>h) (Or.inr ⟨by rfl,rfl⟩) ?_ ?_
   rotate_left
   ·
    simp only[Act.put,sa',sb',sc',i64_w,i32_w];rfl
   refine pure_ (i:=13) (N:=some 21) (v:=undef) (a':=?_) #[true,true,true,true,true,true,true,true,true,true,true,true,true,true,false,false,false,false,false] rfl rfl (any_of HT_.out xk') (fun _ _ _ h=>h) (Or.inr ⟨by rfl,rfl⟩) ?_ ?_
   rotate_left
   ·
    simp only[Act.put,sa',sb',sc',i64_w,i32_w];rfl
   refine pure_ (i:=14) (N:=some 22) (v:=undef) (a':=?_) #[true,true,true,true,true,true,true,true,true,true,true,true,true,true,true,false,false,false,false] rfl rfl (any_of HT_.out xk') (fun _ _ _ h=>h) (Or.inr ⟨by rfl,rfl⟩) ?_ ?_
   rotate_left
   ·
    simp only[Act.put,sa',sb',sc',i64_w,i32_w];rfl
   refine pure_ (i:=15) (N:=some 23) (v:=undef) (a':=?_) #[true,true,true,true,true,true,true,true,true,true,true,true,true,true,true,true,false,false,false] rfl rfl (any_of HT_.out xk') (fun _ _ _ h=>h) (Or.inr ⟨by rfl,rfl⟩) ?_ ?_
   rotate_left
   ·
    simp only[Act.put,sa',sb',sc',i64_w,i32_w];rfl
   refine pure_ (i:=16) (N:=some 24) (v:=undef) (a':=?_) #[true,true,true,true,true,true,true,true,true,true,true,true,true,true,true,true,true,false,false] rfl rfl (any_of HT_.out xk') (fun _ _ _ h=>h) (Or.inr ⟨by rfl,rfl⟩) ?_ ?_
   rotate_left
   ·
    simp only[Act.put,sa',sb',sc',i64_w,i32_w];rfl
   refine pure_ (i:=17) (N:=some 25) (v:=undef) (a':=?_) #[true,true,true,true,true,true,true,true,true,true,true,true,true,true,true,true,true,true,false] rfl rfl (any_of HT_.out xk') (fun _ _ _ h=>h) (Or.inr ⟨by rfl,rfl⟩) ?_ ?_
   rotate_left
   ·
    simp only[Act.put,sa',sb',sc',i64_w,i32_w];rfl
   refine pure_ (i:=18) (N:=some 26) (v:=?_) (a':=?_) #[true,true,true,true,true,true,true,true,true,true,true,true,true,true,true,true,true,true,true] rfl rfl (any_of HT_.out xk') (fun _ _ _ h=>h) (Or.inl ⟨by rfl,?_⟩) ?_ ?_
   rotate_left
   ·
    intro w';go_simp;with_reducible rfl
   rotate_left
   ·
    simp only[Act.put,sa',sb',sc',i64_w,i32_w];rfl
   refine done_ (done_of HT_.out xk') ?_
   try go_wp2
   go_meet
   case rel=>exact ⟨_,(true),xs',H',⟨by first|omega|exact Nat.le_refl _⟩,⟨kk' BK312.out⟩,⟨kk' BK313.out⟩,⟨kk' BK314.out⟩,⟨y3' GE312.out GE313.out GE314.out⟩⟩
 case rest =>
  clear HC4;try clear c1
  try clear c2
  try clear p2
  try clear c4
  try clear c5
  try clear c9
  try clear c12
  obtain ⟨kq,x26_3,rfl,HA,HJ3,BK312,BK313,BK314,HB⟩:=hcut;cases kq with
  | zero=>exact absurd HA.out (by simp[spec_RowBoat.j0])
  | succ kj3 =>
   have H:=HA.out;clear HA;simp only[spec_RowBoat.j0] at H;by_cases c27:x26_3=true
   ·
    subst c27;have H1:(some (([]:List Bool),false,false))=some (r1,r2,r3):=by rw[if_pos rfl] at H;exact H
    clear H;have H:=H1;clear H1;simp only[Option.some.injEq,Prod.mk.injEq] at H;obtain ⟨rfl,rfl,rfl⟩:=H;have hnb28:=NB314_312.out;have hnc28:=NB312_314.out;have hnb29:=NB314_313.out;have hnc29:=NB313_314.out;have hcz30_0:wc.cell? ⟨gb314,0,none⟩=some (.slice none 0 0):=(bc' BK314.out 0).trans rfl;have hcz30_1:wc.cell? ⟨gb314,1,none⟩=some (.bool false):=(bc' BK314.out 1).trans rfl;have hfz30_0:=bf' BK314.out 0;have hfz30_1:=bf' BK314.out 1;go_wp2;refine bodyPost_ret (results_ct rfl _ _ gb314 35 #[.slice none 0 0, .bool false] (0,0) _ rfl (by (with_reducible repeat (first|refine kn' ?_ _|refine kd' ?_|refine ka' ?_ _));refine blk_put (cs:=#[.slice none 0 0, .bool false]) ?_ 1 _ rfl;(with_reducible repeat (first|refine kn' ?_ _|refine kd' ?_|refine ka' ?_ _));refine blk_put (cs:=#[.slice none 0 0, .bool false]) ?_ 0 _ rfl;(with_reducible repeat (first|refine kn' ?_ _|refine kd' ?_|refine ka' ?_ _));exact BK314.out) Try.underlying35 rfl xk') rfl ?_
    exact ⟨_,by first|rfl|(simp[errW_none,errW_some] <;> rfl)|(simp[*,errW_none,errW_some] <;> rfl),by first|exact Kd.R_nil _ _ _ _ _|exact Kd.N_nil _ _ _ _ _|exact Kd.V_nil _ _ _ _ _|exact Kd.Q_nil _ _ _ _ _|exact Kd.S_nil _ _ _ _ _,y3' GE312.out GE313.out GE314.out⟩
   ·
    replace c27:=Bool.eq_false_iff.mpr c27;subst c27;have H1:((spec_cuCode.f kj3 l1_0 a1_1).bind fun t320=>((spec_cuBits.f kj3 l2).bind fun t321=>((spec_cuState.f kj3 a0_0 a0_1 (Go.bits .xor .i64 t320 (wrap64 ((wrap64 (2 * t321))+1)))).bind fun bt322=>(some (bt322.1,bt322.2,true)))))=some (r1,r2,r3):=by rw[if_neg (show ¬ (false=true) by decide)] at H;exact H
    clear H;have H:=H1;clear H1;replace H:=Option.bind_eq_some_iff.mp H;obtain ⟨t320,A310,H⟩:=H;replace H:((spec_cuBits.f kj3 l2).bind fun t321=>((spec_cuState.f kj3 a0_0 a0_1 (Go.bits .xor .i64 t320 (wrap64 ((wrap64 (2 * t321))+1)))).bind fun bt322=>(some (bt322.1,bt322.2,true))))=some (r1,r2,r3):=H;have A31:=am' A310;clear A310;replace H:=Option.bind_eq_some_iff.mp H;obtain ⟨t321,A320,H⟩:=H;replace H:((spec_cuState.f kj3 a0_0 a0_1 (Go.bits .xor .i64 t320 (wrap64 ((wrap64 (2 * t321))+1)))).bind fun bt322=>(some (bt322.1,bt322.2,true)))=some (r1,r2,r3):=H;have A32:=am' A320;clear A320;replace H:=Option.bind_eq_some_iff.mp H;obtain ⟨⟨t322,t325⟩,A330,H⟩:=H;replace H:(some (t322,t325,true))=some (r1,r2,r3):=H;have A33:=am' A330;clear A330;simp only[Option.some.injEq,Prod.mk.injEq] at H;obtain ⟨rfl,rfl,rfl⟩:=H
    try go_wp2
    have n0_:=am' (kd' BK312.out);have n1_:=am' (kd' BK313.out);have n2_:=am' (kd' BK314.out);have n3_:=am' (be' HB.out);clear BK312;clear BK313;clear BK314;clear HB;have BK312:=n0_;have BK313:=n1_;have BK314:=n2_;have HB:=n3_;clear n0_ n1_ n2_ n3_;refine start_ (n:=11) (S:=fun w'=>w'.cell? ⟨gb312,0,none⟩=some (.int .i64 a0_0)∧w'.cell? ⟨gb312,1,none⟩=some (.int .i64 a0_1)∧w'.cell? ⟨gb313,0,none⟩=some (.slice A1_0 l1_0.length c1_0)∧w'.cell? ⟨gb313,1,none⟩=some (.bool a1_1)) (ds:=[]) #[false,false,false,false,false,false,false,false,false,false,false] xk' rfl rfl ⟨(bc' BK312.out 0).trans rfl,(bc' BK312.out 1).trans rfl,(bc' BK313.out 0).trans rfl,(bc' BK313.out 1).trans rfl⟩ (fun hHeld=>?_);refine with_tabW spec_RowBoat.tab3 spec_RowBoat.bits3 (fun HT_ HW_=>?_);generalize wc.drew=w34 at BK312 BK313 BK314 HB hHeld ⊢
    refine pure_ (i:=3) (N:=some 31) (v:=?_) (a':=?_) #[false,false,false,true,false,false,false,false,false,false,false] rfl rfl (any_of HT_.out xk') (fun _ _ _ h=>h) (Or.inl ⟨by rfl,?_⟩) ?_ ?_
    rotate_left
    ·
     intro w';go_simp;with_reducible rfl
    rotate_left
    ·
     simp only[Act.put,sa',sb',sc',i64_w,i32_w];rfl
    refine take_ (i:=0) (N:=some 28) (v:=?_) (a':=?_) #[true,false,false,true,false,false,false,false,false,false,false] rfl rfl (take_ofW HT_.out HW_.out xk') (fun _ _ _ h=>h) (Or.inl ⟨by rfl,?_⟩) hHeld ?_ ?_
    rotate_left
    ·
     rintro w' ⟨s0,s1,s2,s3⟩
     go_simp;with_reducible rfl
    rotate_left
    ·
     simp only[Act.put,sa',sb',sc',i64_w,i32_w];rfl
    refine take_ (i:=1) (N:=some 29) (v:=?_) (a':=?_) #[true,true,false,true,false,false,false,false,false,false,false] rfl rfl (take_ofW HT_.out HW_.out xk') (fun _ _ _ h=>h) (Or.inl ⟨by rfl,?_⟩) hHeld ?_ ?_
    rotate_left
    ·
     rintro w' ⟨s0,s1,s2,s3⟩
     go_simp;with_reducible rfl
    rotate_left
    ·
     simp only[Act.put,sa',sb',sc',i64_w,i32_w];rfl
    refine one_ (i:=2) (N:=some 30) #[true,true,true,true,false,false,false,false,false,false,false] rfl rfl (one_of HT_.out xk') (by decide) (fun K hK=>?_);refine goes_ Try.func44 xk' rfl #[.agg #[.slice A1_0 l1_0.length c1_0, .bool a1_1]] (by rfl) rfl rfl xl' ?_
    with_reducible refine (spec_cuCode.calls kj3 _ _ l1_0 a1_1 t320 _ ?side1 ?side2 A31.out).mono ?_
    (case side1=>exact kc' (cb' HR1_0.out HB.out))
    (case side2=>exact HC1_0.out)
    rintro e w35 ⟨rfl,hb⟩
    refine ⟨_,rfl,?_⟩;have n0_:=am' (bb' (g:=gb312) (o := .cells #[.int .i64 a0_0, .int .i64 a0_1] 32 (0,0)) (kk' BK312.out) hb);have n1_:=am' (bb' (g:=gb313) (o := .cells #[.slice A1_0 l1_0.length c1_0, .bool a1_1] 35 (0,0)) (kk' BK313.out) hb);have n2_:=am' (bb' (g:=gb314) (o := .cells #[.slice none 0 0, .bool false] 35 (0,0)) (kk' BK314.out) hb);have n3_:=am' (bt' (y3' GE312.out GE313.out GE314.out) hb);clear BK312;clear BK313;clear BK314;clear HB;have BK312:=n0_;have BK313:=n1_;have BK314:=n2_;have HB:=n3_;clear n0_ n1_ n2_ n3_;(try clear hb)
    (try clear hb2)
    (try clear hk)
    (try clear hi)
    refine hK.out _ _ ⟨(bc' BK312.out 0).trans rfl,(bc' BK312.out 1).trans rfl,(bc' BK313.out 0).trans rfl,(bc' BK313.out 1).trans rfl⟩ (fun hHeld=>?_);clear hK K;refine norm_ (a':=?_) ?_ ?_
    rotate_left
    ·
     show Act.put _ (some 30) _=_
     simp only[Act.put,sa',sb',sc',i64_w,i32_w];rfl
    refine one_ (i:=4) (N:=some 32) #[true,true,true,true,true,false,false,false,false,false,false] rfl rfl (one_of HT_.out xk') (by decide) (fun K hK=>?_);refine goes_ Try.func57 xk' rfl #[.slice A2 l2.length c2] (by rfl) rfl rfl xl' ?_
    with_reducible refine (spec_cuBits.calls kj3 _ _ l2 t321 _ ?side1 ?side2 A32.out).mono ?_
    (case side1=>exact kc' (cb' HR2.out HB.out))
    (case side2=>exact HC2.out)
    rintro e w' ⟨rfl,⟨nd,rfl⟩⟩
    refine ⟨_,rfl,?_⟩;refine hK.out _ _ ⟨(bc' BK312.out 0).trans rfl,(bc' BK312.out 1).trans rfl,(bc' BK313.out 0).trans rfl,(bc' BK313.out 1).trans rfl⟩ (fun hHeld=>?_);clear hK K;refine norm_ (a':=?_) ?_ ?_
    rotate_left
    ·
     show Act.put _ (some 32) _=_
     simp only[Act.put,sa',sb',sc',i64_w,i32_w];rfl
    refine pure_ (i:=5) (N:=some 33) (v:=?_) (a':=?_) #[true,true,true,true,true,true,false,false,false,false,false] rfl rfl (any_of HT_.out xk') (fun _ _ _ h=>h) (Or.inl ⟨by rfl,?_⟩) ?_ ?_
    rotate_left
    ·
     intro w';go_simp;with_reducible rfl
    rotate_left
    ·
     simp only[Act.put,sa',sb',sc',i64_w,i32_w];rfl
    refine pure_ (i:=6) (N:=some 34) (v:=?_) (a':=?_) #[true,true,true,true,true,true,true,false,false,false,false] rfl rfl (any_of HT_.out xk') (fun _ _ _ h=>h) (Or.inl ⟨by rfl,?_⟩) ?_ ?_
    rotate_left
    ·
     intro w';go_simp;with_reducible rfl
    rotate_left
    ·
     simp only[Act.put,sa',sb',sc',i64_w,i32_w];rfl
    refine pure_ (i:=7) (N:=some 35) (v:=?_) (a':=?_) #[true,true,true,true,true,true,true,true,false,false,false] rfl rfl (any_of HT_.out xk') (fun _ _ _ h=>h) (Or.inl ⟨by rfl,?_⟩) ?_ ?_
    rotate_left
    ·
     intro w';go_simp;with_reducible rfl
    rotate_left
    ·
     simp only[Act.put,sa',sb',sc',i64_w,i32_w];rfl
    refine one_ (i:=8) (N:=some 36) #[true,true,true,true,true,true,true,true,true,false,false] rfl rfl (one_of HT_.out xk') (by decide) (fun K hK=>?_);refine goes_ Try.func56 xk' rfl #[.agg #[.int .i64 a0_0, .int .i64 a0_1], .int .i64 (Go.bits .xor .i64 t320 (wrap64 ((wrap64 (2 * t321))+1)))] (by rfl) rfl rfl xl' ?_
    with_reducible refine (spec_cuState.calls kj3 a0_0 a0_1 (Go.bits .xor .i64 t320 (wrap64 ((wrap64 (2 * t321))+1))) t322 t325 _ A33.out).mono ?_
    rintro e w36 ⟨v323,rfl,ho0,hb⟩
    refine ⟨_,rfl,?_⟩;have n0_:=am' (Kd.R_lower ho0 (bz' (y3' GE312.out GE313.out GE314.out)));have n1_:=am' (bb' (g:=gb312) (o := .cells #[.int .i64 a0_0, .int .i64 a0_1] 32 (0,0)) (kk' BK312.out) hb);have n2_:=am' (bb' (g:=gb313) (o := .cells #[.slice A1_0 l1_0.length c1_0, .bool a1_1] 35 (0,0)) (kk' BK313.out) hb);have n3_:=am' (bb' (g:=gb314) (o := .cells #[.slice none 0 0, .bool false] 35 (0,0)) (kk' BK314.out) hb);have n4_:=am' (bt' (y3' GE312.out GE313.out GE314.out) hb);clear BK312;clear BK313;clear BK314;clear HB;have HO324:=n0_;have BK312:=n1_;have BK313:=n2_;have BK314:=n3_;have HB:=n4_;clear n0_ n1_ n2_ n3_ n4_;(try clear hb)
    (try clear hb2)
    (try clear hk)
    (try clear hi)
    (try clear ho0)
    obtain ⟨Ao37,co37,eo37⟩:=Kd.R_slice HO324.out
    (first|subst eo37|(injection eo37 with f1_ f2_ f3_;have f4_:=f1_.symm;have f5_:=f3_.symm;clear f1_ f2_ f3_;subst f4_;subst f5_))
    refine hK.out _ _ ⟨(bc' BK312.out 0).trans rfl,(bc' BK312.out 1).trans rfl,(bc' BK313.out 0).trans rfl,(bc' BK313.out 1).trans rfl⟩ (fun hHeld=>?_);clear hK K;refine norm_ (a':=?_) ?_ ?_
    rotate_left
    ·
     show Act.put _ (some 36) _=_
     simp only[Act.put,sa',sb',sc',i64_w,i32_w];rfl
    refine one_ (i:=9) (N:=none) #[true,true,true,true,true,true,true,true,true,true,false] rfl rfl (one_of HT_.out xk') (by decide) (fun K hK=>?_);have hs38:w36.cell? ⟨gb314,0,none⟩=some (.slice none 0 0):=(bc' BK314.out 0).trans rfl;have hfs38:=bf' BK314.out 0;have hns38_0:=NB312_314.out;have hns38_1:=NB313_314.out;have hms38_0:=NB314_312.out;have hms38_1:=NB314_313.out;have hs39:w36.cell? ⟨gb314,1,none⟩=some (.bool false):=(bc' BK314.out 1).trans rfl;have hfs39:=bf' BK314.out 1;have hns39_0:=NB312_314.out;have hns39_1:=NB313_314.out;have hms39_0:=NB314_312.out;have hms39_1:=NB314_313.out;refine skip_ (w1:=?_) (by rfl) rfl ?_ ?_
    rotate_left
    ·
     go_simp;rfl
    refine hK.out _ _ ⟨((cell_far (p:=⟨gb314,_,none⟩) NB312_314.out _).trans (((cell_far (p:=⟨gb314,_,none⟩) NB312_314.out _).trans (hHeld.1)))),((cell_far (p:=⟨gb314,_,none⟩) NB312_314.out _).trans (((cell_far (p:=⟨gb314,_,none⟩) NB312_314.out _).trans (hHeld.2.1)))),((cell_far (p:=⟨gb314,_,none⟩) NB313_314.out _).trans (((cell_far (p:=⟨gb314,_,none⟩) NB313_314.out _).trans (hHeld.2.2.1)))),((cell_far (p:=⟨gb314,_,none⟩) NB313_314.out _).trans (((cell_far (p:=⟨gb314,_,none⟩) NB313_314.out _).trans (hHeld.2.2.2))))⟩ (fun hHeld=>?_);clear hK K;refine pure_ (i:=10) (N:=some 7) (v:=?_) (a':=?_) #[true,true,true,true,true,true,true,true,true,true,true] rfl rfl (any_of HT_.out xk') (fun _ _ _ h=>h) (Or.inl ⟨by rfl,?_⟩) ?_ ?_
    rotate_left
    ·
     intro w';go_simp;with_reducible rfl
    rotate_left
    ·
     simp only[Act.put,sa',sb',sc',i64_w,i32_w];rfl
    refine done_ (done_of HT_.out xk') ?_
    try go_wp2
    refine bodyPost_ret (results_ct rfl _ _ gb314 35 #[.slice Ao37 t322.length co37, .bool t325] (0,0) _ rfl (by (with_reducible repeat (first|refine kn' ?_ _|refine kd' ?_|refine ka' ?_ _));refine blk_put (cs:=#[.slice Ao37 t322.length co37, .bool false]) ?_ 1 _ rfl;(with_reducible repeat (first|refine kn' ?_ _|refine kd' ?_|refine ka' ?_ _));refine blk_put (cs:=#[.slice none 0 0, .bool false]) ?_ 0 _ rfl;(with_reducible repeat (first|refine kn' ?_ _|refine kd' ?_|refine ka' ?_ _));exact BK314.out) Try.underlying35 rfl xk') rfl ?_
    exact ⟨_,by first|rfl|(simp[errW_none,errW_some] <;> rfl)|(simp[*,errW_none,errW_some] <;> rfl),by (with_reducible repeat (first|apply ra'|apply rn'|apply rw'));exact Kd.R_mono (Kd.R_far (p:=⟨gb314,1,none⟩) (Kd.R_far (p:=⟨gb314,0,none⟩) (Kd.R_types HO324.out BK314.out (by decide)) (fun _ hk=>hk.2) (.slice Ao37 t322.length co37)) (fun _ hk=>hk.2) (.bool t325)) (fun _ hk=>trivial),y3' GE312.out GE313.out GE314.out⟩
end Go.Proofs.Ytabhhkiipilghaa.C2
