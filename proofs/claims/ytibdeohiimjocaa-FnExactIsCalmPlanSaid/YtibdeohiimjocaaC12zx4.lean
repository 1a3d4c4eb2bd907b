import Derived.Test.YtibdeohiimjocaaC12zx0
import Derived.Test.YtibdeohiimjocaaC12zx1
import Derived.Test.YtibdeohiimjocaaC12zx2
import Derived.Test.YtibdeohiimjocaaC12zx3
import Derived.Test.YtibdeohiimjocaaC12zAl
namespace Go.Proofs.Ytibdeohiimjocaa.C12
open Go.RowKit Go.Proofs.YtibdeohiimjocaaW.PrintWords Go.Proofs.YtibdeohiimjocaaW.PrintLast Go.Proofs.YtibdeohiimjocaaW.PrintMore Go.Proofs.Ytibdeohiimjocaa.H
attribute [local go_sem] max2_int min2_int max_two min_two max_three min_three max_four min_four
set_option linter.unusedVariables false
set_option linter.unusedSimpArgs false
def spec_cuTrip.f (k:Nat) (a0_0:Int) (a0_1:Int) (a1:Int) (l2:List Int):Option (Bool):=(spec_l1In.f (l2.length:Int) 1 a0_1).bind fun t131=>(if t131=true then ((spec_l1Rising.f k l2 0 (wrap64 ((wrap64 (2 * a0_0)) - 1))).bind fun t132=>(if t132=true then ((spec_cuBits.f k l2).bind fun t133=>((spec_cuCan.f k a0_0 a0_1 a1 t133).bind fun t134=>(some t134))) else (some false))) else (some false))
theorem spec_cuTrip.mono:∀ a0 a1 a2 a3 k,LeO (spec_cuTrip.f k a0 a1 a2 a3) (spec_cuTrip.f (k+1) a0 a1 a2 a3):=by
 intro a0 a1 a2 a3 k;unfold spec_cuTrip.f
 repeat' first
   | (with_reducible exact spec_cuBits.mono _ _)
   | (with_reducible exact spec_cuCan.mono _ _ _ _ _)
   | (with_reducible exact spec_l1Rising.mono _ _ _ _)
   | (with_reducible exact LeO.refl _)
   | (with_reducible exact LeO.none _)
   | (with_reducible refine LeO.ite ?_ ?_)
   | (with_reducible refine LeO.bind ?_ (fun _=>?_))
   | exact spec_cuBits.mono _ _
   | exact spec_cuCan.mono _ _ _ _ _
   | exact spec_l1Rising.mono _ _ _ _
   | exact LeO.none _
   | refine LeO.ite ?_ ?_
   | refine LeO.bind ?_ (fun _=>?_)
def spec_cuTrip.T1:Bool × List (List Nat × List Nat):=(true,[([],[]),([0],[0]),([],[]),([2],[2]),([1,3],[1,3]),([4,4],[4]),([5],[5]),([5],[5]),([7,5],[5,7]),([8,5],[5,8]),([9,5],[5,9]),([6,10,5,5],[5,6,10]),([5,11],[5,11]),([12,11],[12]),([13],[13]),([13],[13]),([13],[13]),([16,13,13],[13,16]),([14,15,17,17,13],[13,14,15,17]),([13,18],[13,18]),([19,18,0,1,2,3,4,5,6,7,8,9,10,11,12,13,14,15,16,17,18,19],[19])])
def spec_cuTrip.B1:List Nat:=[0,1,0,4,15,31,63,63,191,447,959,2047,4095,8191,16383,16383,16383,81919,262143,524287,1048575]
theorem spec_cuTrip.tab1:rtab .any (opsOf Try.f100 1)=spec_cuTrip.T1:=by kernel_rfl
theorem spec_cuTrip.bits1:waitsOk spec_cuTrip.T1.2 spec_cuTrip.B1=true:=by kernel_rfl
set_option maxHeartbeats 8000000 in
set_option maxRecDepth 100000 in
theorem spec_cuTrip.calls (k:Nat) (a0_0:Int) (a0_1:Int) (a1:Int) (A2:Option Addr) (c2:Nat) (l2:List Int) (r:Bool) (w:World) (hr2:Kd.C (Kd.int .i64) w A2 l2.length l2) (hc2:l2.length≤c2) (h:spec_cuTrip.f k a0_0 a0_1 a1 l2=some r) :
  Calls Try.prog 100 #[.agg #[.int .i64 a0_0, .int .i64 a0_1], .int .i64 a1, .slice A2 l2.length c2] w fun e w'=>e = .returned (.bool r)∧Below w.heap.size w w':=by
 have hu40:=Try.underlying40
 have HR2:=am' hr2
 have HC2:=am' hc2
 clear hr2 hc2;have HB:=am' (Below.refl w.heap.size w)
 have H:((spec_l1In.f (l2.length:Int) 1 a0_1).bind fun t131=>(if t131=true then ((spec_l1Rising.f k l2 0 (wrap64 ((wrap64 (2 * a0_0)) - 1))).bind fun t132=>(if t132=true then ((spec_cuBits.f k l2).bind fun t133=>((spec_cuCan.f k a0_0 a0_1 a1 t133).bind fun t134=>(some t134))) else (some false))) else (some false)))=some r:=h
 clear h;replace H:=Option.bind_eq_some_iff.mp H
 obtain ⟨t131,A40,H⟩:=H
 replace H:(if t131=true then ((spec_l1Rising.f k l2 0 (wrap64 ((wrap64 (2 * a0_0)) - 1))).bind fun t132=>(if t132=true then ((spec_cuBits.f k l2).bind fun t133=>((spec_cuCan.f k a0_0 a0_1 a1 t133).bind fun t134=>(some t134))) else (some false))) else (some false))=some r:=H
 have A4:=am' A40
 clear A40;by_cases c5:t131=true
 ·
  subst c5;have H1:((spec_l1Rising.f k l2 0 (wrap64 ((wrap64 (2 * a0_0)) - 1))).bind fun t132=>(if t132=true then ((spec_cuBits.f k l2).bind fun t133=>((spec_cuCan.f k a0_0 a0_1 a1 t133).bind fun t134=>(some t134))) else (some false)))=some r:=by rw[if_pos rfl] at H;exact H
  clear H;have H:=H1;clear H1;replace H:=Option.bind_eq_some_iff.mp H;obtain ⟨t132,A60,H⟩:=H;replace H:(if t132=true then ((spec_cuBits.f k l2).bind fun t133=>((spec_cuCan.f k a0_0 a0_1 a1 t133).bind fun t134=>(some t134))) else (some false))=some r:=H;have A6:=am' A60;clear A60;by_cases c7:t132=true
  ·
   subst c7;have H1:((spec_cuBits.f k l2).bind fun t133=>((spec_cuCan.f k a0_0 a0_1 a1 t133).bind fun t134=>(some t134)))=some r:=by rw[if_pos rfl] at H;exact H
   clear H;have H:=H1;clear H1;replace H:=Option.bind_eq_some_iff.mp H;obtain ⟨t133,A80,H⟩:=H;replace H:((spec_cuCan.f k a0_0 a0_1 a1 t133).bind fun t134=>(some t134))=some r:=H;have A8:=am' A80;clear A80;replace H:=Option.bind_eq_some_iff.mp H;obtain ⟨t134,A90,H⟩:=H;replace H:(some t134)=some r:=H;have A9:=am' A90;clear A90;obtain rfl:=Option.some.inj H;go_enter Try.func100,Try.ntmps100
   try go_wp2_with (first|((with_reducible refine gate_dst (N:=3) rfl ?_);refine box_event ?hg (N:=3) ?hd (cs:=#[.int .i64 a0_0, .int .i64 a0_1]) (t:=40) ?hr ?_;(case hd=>rfl);(case hg=>rfl);(case hr=>first|(go_simp;done)|(go_simp;rfl));intro gb130 hg w10 hbox hb;have n0_:=am' (below_step (by repeat (first|(with_reducible first|exact HB.out|apply ba'|apply bd'|apply be')|exact HB.out)) hb);have n1_:=am' (hbox);have n2_:=am' ((by rw[hg];exact (below_size (by repeat (first|(with_reducible first|exact HB.out|apply ba'|apply bd'|apply be')|exact HB.out))):w.heap.size≤gb130));have n3_:=am' ((by rw[hg];exact (below_size (by repeat (first|(with_reducible first|exact HB.out|apply ba'|apply bd'|apply be')|exact HB.out))):w.heap.size≤gb130));clear HB;have HB:=n0_;have BK130:=n1_;have GW130:=n2_;have GE130:=n3_;clear n0_ n1_ n2_ n3_;clear hb hbox hg))
   have n0_:=am' (kd' BK130.out);have n1_:=am' (be' HB.out);clear BK130;clear HB;have BK130:=n0_;have HB:=n1_;clear n0_ n1_;refine start_ (n:=21) (S:=fun w'=>w'.cell? ⟨gb130,0,none⟩=some (.int .i64 a0_0)∧w'.cell? ⟨gb130,1,none⟩=some (.int .i64 a0_1)) (ds:=[]) #[false,false,false,false,false,false,false,false,false,false,false,false,false,false,false,false,false,false,false,false,false] (by kernel_rfl) rfl rfl ⟨(blk_cell BK130.out 0).trans rfl,(blk_cell BK130.out 1).trans rfl⟩ (fun hHeld=>?_);refine with_tabW spec_cuTrip.tab1 spec_cuTrip.bits1 (fun HT_ HW_=>?_);generalize w10.drew=w11 at BK130 HB hHeld ⊢
   refine pure_ (i:=0) (N:=some 7) (v:=?_) (a':=?_) #[true,false,false,false,false,false,false,false,false,false,false,false,false,false,false,false,false,false,false,false,false] rfl rfl (any_of HT_.out (by kernel_rfl)) (fun _ _ _ h=>h) (Or.inl ⟨by rfl,?_⟩) ?_ ?_
   rotate_left
   ·
    intro w';go_simp;with_reducible rfl
   rotate_left
   ·
    simp only[Act.put,sa',sb',sc',i64_w,i32_w];rfl
   refine pure_ (i:=1) (N:=some 8) (v:=?_) (a':=?_) #[true,true,false,false,false,false,false,false,false,false,false,false,false,false,false,false,false,false,false,false,false] rfl rfl (any_of HT_.out (by kernel_rfl)) (fun _ _ _ h=>h) (Or.inl ⟨by rfl,?_⟩) ?_ ?_
   rotate_left
   ·
    intro w';go_simp;with_reducible rfl
   rotate_left
   ·
    simp only[Act.put,sa',sb',sc',i64_w,i32_w];rfl
   refine pure_ (i:=2) (N:=some 9) (v:=?_) (a':=?_) #[true,true,true,false,false,false,false,false,false,false,false,false,false,false,false,false,false,false,false,false,false] rfl rfl (any_of HT_.out (by kernel_rfl)) (fun _ _ _ h=>h) (Or.inl ⟨by rfl,?_⟩) ?_ ?_
   rotate_left
   ·
    intro w';go_simp;with_reducible rfl
   rotate_left
   ·
    simp only[Act.put,sa',sb',sc',i64_w,i32_w];rfl
   refine take_ (i:=3) (N:=some 10) (v:=?_) (a':=?_) #[true,true,true,true,false,false,false,false,false,false,false,false,false,false,false,false,false,false,false,false,false] rfl rfl (take_ofW HT_.out HW_.out (by kernel_rfl)) (fun _ _ _ h=>h) (Or.inl ⟨by rfl,?_⟩) hHeld ?_ ?_
   rotate_left
   ·
    rintro w' ⟨s0,s1⟩
    go_simp;with_reducible rfl
   rotate_left
   ·
    simp only[Act.put,sa',sb',sc',i64_w,i32_w];rfl
   refine one_ (i:=4) (N:=some 11) #[true,true,true,true,true,false,false,false,false,false,false,false,false,false,false,false,false,false,false,false,false] rfl rfl (one_of HT_.out (by kernel_rfl)) (by decide) (fun K hK=>?_);refine goes_ Try.func61 (by kernel_rfl) rfl #[.int .i64 (l2.length:Int), .int .i64 1, .int .i64 a0_1] (by rfl) rfl rfl (by (try simp only[List.map_toArray,List.map_cons,List.map_nil]);first|done|rfl|(simp only[List.length_drop,List.length_take];rfl)) ?_
   with_reducible refine (spec_l1In.calls (l2.length:Int) 1 a0_1 true _ A4.out).mono ?_
   rintro e w' ⟨rfl,⟨nd,rfl⟩⟩
   refine ⟨_,rfl,?_⟩;refine hK.out _ _ ⟨(blk_cell BK130.out 0).trans rfl,(blk_cell BK130.out 1).trans rfl⟩ (fun hHeld=>?_);clear hK K;refine norm_ (a':=?_) ?_ ?_
   rotate_left
   ·
    show Act.put _ (some 11) _=_
    simp only[Act.put,sa',sb',sc',i64_w,i32_w];rfl
   refine pure_ (i:=5) (N:=some 12) (v:=?_) (a':=?_) #[true,true,true,true,true,true,false,false,false,false,false,false,false,false,false,false,false,false,false,false,false] rfl rfl (any_of HT_.out (by kernel_rfl)) (fun _ _ _ h=>h) (Or.inl ⟨by rfl,?_⟩) ?_ ?_
   rotate_left
   ·
    intro w';go_simp;with_reducible rfl
   rotate_left
   ·
    simp only[Act.put,sa',sb',sc',i64_w,i32_w];rfl
   refine pure_ (i:=6) (N:=some 13) (v:=?_) (a':=?_) #[true,true,true,true,true,true,true,false,false,false,false,false,false,false,false,false,false,false,false,false,false] rfl rfl (any_of HT_.out (by kernel_rfl)) (fun _ _ _ h=>h) (Or.inl ⟨by rfl,?_⟩) ?_ ?_
   rotate_left
   ·
    intro w';go_simp;with_reducible rfl
   rotate_left
   ·
    simp only[Act.put,sa',sb',sc',i64_w,i32_w];rfl
   refine pure_ (i:=7) (N:=some 14) (v:=?_) (a':=?_) #[true,true,true,true,true,true,true,true,false,false,false,false,false,false,false,false,false,false,false,false,false] rfl rfl (any_of HT_.out (by kernel_rfl)) (fun _ _ _ h=>h) (Or.inl ⟨by rfl,?_⟩) ?_ ?_
   rotate_left
   ·
    intro w';go_simp;with_reducible rfl
   rotate_left
   ·
    simp only[Act.put,sa',sb',sc',i64_w,i32_w];rfl
   refine take_ (i:=8) (N:=some 15) (v:=?_) (a':=?_) #[true,true,true,true,true,true,true,true,true,false,false,false,false,false,false,false,false,false,false,false,false] rfl rfl (take_ofW HT_.out HW_.out (by kernel_rfl)) (fun _ _ _ h=>h) (Or.inl ⟨by rfl,?_⟩) hHeld ?_ ?_
   rotate_left
   ·
    rintro w' ⟨s0,s1⟩
    go_simp;with_reducible rfl
   rotate_left
   ·
    simp only[Act.put,sa',sb',sc',i64_w,i32_w];rfl
   refine pure_ (i:=9) (N:=some 16) (v:=?_) (a':=?_) #[true,true,true,true,true,true,true,true,true,true,false,false,false,false,false,false,false,false,false,false,false] rfl rfl (any_of HT_.out (by kernel_rfl)) (fun _ _ _ h=>h) (Or.inl ⟨by rfl,?_⟩) ?_ ?_
   rotate_left
   ·
    intro w';go_simp;with_reducible rfl
   rotate_left
   ·
    simp only[Act.put,sa',sb',sc',i64_w,i32_w];rfl
   refine pure_ (i:=10) (N:=some 17) (v:=?_) (a':=?_) #[true,true,true,true,true,true,true,true,true,true,true,false,false,false,false,false,false,false,false,false,false] rfl rfl (any_of HT_.out (by kernel_rfl)) (fun _ _ _ h=>h) (Or.inl ⟨by rfl,?_⟩) ?_ ?_
   rotate_left
   ·
    intro w';go_simp;with_reducible rfl
   rotate_left
   ·
    simp only[Act.put,sa',sb',sc',i64_w,i32_w];rfl
   refine one_ (i:=11) (N:=some 18) #[true,true,true,true,true,true,true,true,true,true,true,true,false,false,false,false,false,false,false,false,false] rfl rfl (one_of HT_.out (by kernel_rfl)) (by decide) (fun K hK=>?_);refine goes_ Try.func103 (by kernel_rfl) rfl #[.slice A2 l2.length c2, .int .i64 0, .int .i64 (wrap64 ((wrap64 (2 * a0_0)) - 1))] (by rfl) rfl rfl (by (try simp only[List.map_toArray,List.map_cons,List.map_nil]);first|done|rfl|(simp only[List.length_drop,List.length_take];rfl)) ?_
   with_reducible refine (spec_l1Rising.calls k _ _ l2 0 (wrap64 ((wrap64 (2 * a0_0)) - 1)) true _ ?side1 ?side2 A6.out).mono ?_
   (case side1=>repeat (first|exact (Kd.C_below HR2.out (by repeat (first|(with_reducible first|exact HB.out|apply ba'|apply bd'|apply be'|refine bs' ?_ GE130.out)|exact HB.out)))|(with_reducible refine ca' ?_ _)|(with_reducible refine cn' ?_ _)|(with_reducible refine cd' ?_)))
   (case side2=>exact HC2.out)
   rintro e w' ⟨rfl,⟨nd,rfl⟩⟩
   refine ⟨_,rfl,?_⟩;refine hK.out _ _ ⟨(blk_cell BK130.out 0).trans rfl,(blk_cell BK130.out 1).trans rfl⟩ (fun hHeld=>?_);clear hK K;refine norm_ (a':=?_) ?_ ?_
   rotate_left
   ·
    show Act.put _ (some 18) _=_
    simp only[Act.put,sa',sb',sc',i64_w,i32_w];rfl
   refine pure_ (i:=12) (N:=some 19) (v:=?_) (a':=?_) #[true,true,true,true,true,true,true,true,true,true,true,true,true,false,false,false,false,false,false,false,false] rfl rfl (any_of HT_.out (by kernel_rfl)) (fun _ _ _ h=>h) (Or.inl ⟨by rfl,?_⟩) ?_ ?_
   rotate_left
   ·
    intro w';go_simp;with_reducible rfl
   rotate_left
   ·
    simp only[Act.put,sa',sb',sc',i64_w,i32_w];rfl
   refine pure_ (i:=13) (N:=some 20) (v:=?_) (a':=?_) #[true,true,true,true,true,true,true,true,true,true,true,true,true,true,false,false,false,false,false,false,false] rfl rfl (any_of HT_.out (by kernel_rfl)) (fun _ _ _ h=>h) (Or.inl ⟨by rfl,?_⟩) ?_ ?_
   rotate_left
   ·
    intro w';go_simp;with_reducible rfl
   rotate_left
   ·
    simp only[Act.put,sa',sb',sc',i64_w,i32_w];rfl
   refine pure_ (i:=15) (N:=some 22) (v:=?_) (a':=?_) #[true,true,true,true,true,true,true,true,true,true,true,true,true,true,false,true,false,false,false,false,false] rfl rfl (any_of HT_.out (by kernel_rfl)) (fun _ _ _ h=>h) (Or.inl ⟨by rfl,?_⟩) ?_ ?_
   rotate_left
   ·
    intro w';go_simp;with_reducible rfl
   rotate_left
   ·
    simp only[Act.put,sa',sb',sc',i64_w,i32_w];rfl
   refine pure_ (i:=16) (N:=some 23) (v:=?_) (a':=?_) #[true,true,true,true,true,true,true,true,true,true,true,true,true,true,false,true,true,false,false,false,false] rfl rfl (any_of HT_.out (by kernel_rfl)) (fun _ _ _ h=>h) (Or.inl ⟨by rfl,?_⟩) ?_ ?_
   rotate_left
   ·
    intro w';go_simp;with_reducible rfl
   rotate_left
   ·
    simp only[Act.put,sa',sb',sc',i64_w,i32_w];rfl
   refine take_ (i:=14) (N:=some 21) (v:=?_) (a':=?_) #[true,true,true,true,true,true,true,true,true,true,true,true,true,true,true,true,true,false,false,false,false] rfl rfl (take_ofW HT_.out HW_.out (by kernel_rfl)) (fun _ _ _ h=>h) (Or.inl ⟨by rfl,?_⟩) hHeld ?_ ?_
   rotate_left
   ·
    rintro w' ⟨s0,s1⟩
    go_simp;with_reducible rfl
   rotate_left
   ·
    simp only[Act.put,sa',sb',sc',i64_w,i32_w];rfl
   refine one_ (i:=17) (N:=some 24) #[true,true,true,true,true,true,true,true,true,true,true,true,true,true,true,true,true,true,false,false,false] rfl rfl (one_of HT_.out (by kernel_rfl)) (by decide) (fun K hK=>?_);refine goes_ Try.func102 (by kernel_rfl) rfl #[.slice A2 l2.length c2] (by rfl) rfl rfl (by (try simp only[List.map_toArray,List.map_cons,List.map_nil]);first|done|rfl|(simp only[List.length_drop,List.length_take];rfl)) ?_
   with_reducible refine (spec_cuBits.calls k _ _ l2 t133 _ ?side1 ?side2 A8.out).mono ?_
   (case side1=>repeat (first|exact (Kd.C_below HR2.out (by repeat (first|(with_reducible first|exact HB.out|apply ba'|apply bd'|apply be'|refine bs' ?_ GE130.out)|exact HB.out)))|(with_reducible refine ca' ?_ _)|(with_reducible refine cn' ?_ _)|(with_reducible refine cd' ?_)))
   (case side2=>exact HC2.out)
   rintro e w' ⟨rfl,⟨nd,rfl⟩⟩
   refine ⟨_,rfl,?_⟩;refine hK.out _ _ ⟨(blk_cell BK130.out 0).trans rfl,(blk_cell BK130.out 1).trans rfl⟩ (fun hHeld=>?_);clear hK K;refine norm_ (a':=?_) ?_ ?_
   rotate_left
   ·
    show Act.put _ (some 24) _=_
    simp only[Act.put,sa',sb',sc',i64_w,i32_w];rfl
   refine one_ (i:=18) (N:=some 25) #[true,true,true,true,true,true,true,true,true,true,true,true,true,true,true,true,true,true,true,false,false] rfl rfl (one_of HT_.out (by kernel_rfl)) (by decide) (fun K hK=>?_);refine goes_ Try.func116 (by kernel_rfl) rfl #[.agg #[.int .i64 a0_0, .int .i64 a0_1], .int .i64 a1, .int .i64 t133] (by rfl) rfl rfl (by (try simp only[List.map_toArray,List.map_cons,List.map_nil]);first|done|rfl|(simp only[List.length_drop,List.length_take];rfl)) ?_
   with_reducible refine (spec_cuCan.calls k a0_0 a0_1 a1 t133 t134 _ A9.out).mono ?_
   rintro e w12 ⟨rfl,hb⟩
   refine ⟨_,rfl,?_⟩;have n0_:=am' (blk_below (g:=gb130) (o := .cells #[.int .i64 a0_0, .int .i64 a0_1] 40 (0,0)) (by (with_reducible repeat (first|refine kn' ?_ _|refine kd' ?_|refine ka' ?_ _));exact BK130.out) hb);have n1_:=am' (below_step (by repeat (first|(with_reducible first|exact HB.out|apply ba'|apply bd'|apply be'|refine bs' ?_ GE130.out)|exact HB.out)) hb);clear BK130;clear HB;have BK130:=n0_;have HB:=n1_;clear n0_ n1_;(try clear hb)
   (try clear hb2)
   (try clear hk)
   (try clear hi)
   refine hK.out _ _ ⟨(blk_cell BK130.out 0).trans rfl,(blk_cell BK130.out 1).trans rfl⟩ (fun hHeld=>?_);clear hK K;refine norm_ (a':=?_) ?_ ?_
   rotate_left
   ·
    show Act.put _ (some 25) _=_
    simp only[Act.put,sa',sb',sc',i64_w,i32_w];rfl
   refine pure_ (i:=19) (N:=some 26) (v:=?_) (a':=?_) #[true,true,true,true,true,true,true,true,true,true,true,true,true,true,true,true,true,true,true,true,false] rfl rfl (any_of HT_.out (by kernel_rfl)) (fun _ _ _ h=>h) (Or.inl ⟨by rfl,?_⟩) ?_ ?_
   rotate_left
   ·
    intro w';go_simp;with_reducible rfl
   rotate_left
   ·
    simp only[Act.put,sa',sb',sc',i64_w,i32_w];rfl
   refine pure_ (i:=20) (N:=some 6) (v:=?_) (a':=?_) #[true,true,true,true,true,true,true,true,true,true,true,true,true,true,true,true,true,true,true,true,true] rfl rfl (any_of HT_.out (by kernel_rfl)) (fun _ _ _ h=>h) (Or.inl ⟨by rfl,?_⟩) ?_ ?_
   rotate_left
   ·
    intro w';go_simp;with_reducible rfl
   rotate_left
   ·
    simp only[Act.put,sa',sb',sc',i64_w,i32_w];rfl
   refine done_ (done_of HT_.out (by kernel_rfl)) ?_
   try go_wp2
   go_ret
   exact ⟨by first|rfl|(simp[errW_none,errW_some] <;> rfl)|(simp[*,errW_none,errW_some] <;> rfl),by repeat (first|(with_reducible first|exact HB.out|apply ba'|apply bd'|apply be'|refine bs' ?_ GE130.out)|exact HB.out)⟩
  ·
   replace c7:=Bool.eq_false_iff.mpr c7;subst c7;have H1:(some false)=some r:=by rw[if_neg (show ¬ (false=true) by decide)] at H;exact H
   clear H;have H:=H1;clear H1;obtain rfl:=Option.some.inj H;go_enter Try.func100,Try.ntmps100
   try go_wp2_with (first|((with_reducible refine gate_dst (N:=3) rfl ?_);refine box_event ?hg (N:=3) ?hd (cs:=#[.int .i64 a0_0, .int .i64 a0_1]) (t:=40) ?hr ?_;(case hd=>rfl);(case hg=>rfl);(case hr=>first|(go_simp;done)|(go_simp;rfl));intro gb130 hg w13 hbox hb;have n0_:=am' (below_step (by repeat (first|(with_reducible first|exact HB.out|apply ba'|apply bd'|apply be')|exact HB.out)) hb);have n1_:=am' (hbox);have n2_:=am' ((by rw[hg];exact (below_size (by repeat (first|(with_reducible first|exact HB.out|apply ba'|apply bd'|apply be')|exact HB.out))):w.heap.size≤gb130));have n3_:=am' ((by rw[hg];exact (below_size (by repeat (first|(with_reducible first|exact HB.out|apply ba'|apply bd'|apply be')|exact HB.out))):w.heap.size≤gb130));clear HB;have HB:=n0_;have BK130:=n1_;have GW130:=n2_;have GE130:=n3_;clear n0_ n1_ n2_ n3_;clear hb hbox hg))
   have n0_:=am' (kd' BK130.out);have n1_:=am' (be' HB.out);clear BK130;clear HB;have BK130:=n0_;have HB:=n1_;clear n0_ n1_;refine start_ (n:=21) (S:=fun w'=>w'.cell? ⟨gb130,0,none⟩=some (.int .i64 a0_0)∧w'.cell? ⟨gb130,1,none⟩=some (.int .i64 a0_1)) (ds:=[]) #[false,false,false,false,false,false,false,false,false,false,false,false,false,false,false,false,false,false,false,false,false] (by kernel_rfl) rfl rfl ⟨(blk_cell BK130.out 0).trans rfl,(blk_cell BK130.out 1).trans rfl⟩ (fun hHeld=>?_);refine with_tabW spec_cuTrip.tab1 spec_cuTrip.bits1 (fun HT_ HW_=>?_);generalize w13.drew=w14 at BK130 HB hHeld ⊢
   refine pure_ (i:=0) (N:=some 7) (v:=?_) (a':=?_) #[true,false,false,false,false,false,false,false,false,false,false,false,false,false,false,false,false,false,false,false,false] rfl rfl (any_of HT_.out (by kernel_rfl)) (fun _ _ _ h=>h) (Or.inl ⟨by rfl,?_⟩) ?_ ?_
   rotate_left
   ·
    intro w';go_simp;with_reducible rfl
   rotate_left
   ·
    simp only[Act.put,sa',sb',sc',i64_w,i32_w];rfl
   refine pure_ (i:=1) (N:=some 8) (v:=?_) (a':=?_) #[true,true,false,false,false,false,false,false,false,false,false,false,false,false,false,false,false,false,false,false,false] rfl rfl (any_of HT_.out (by kernel_rfl)) (fun _ _ _ h=>h) (Or.inl ⟨by rfl,?_⟩) ?_ ?_
   rotate_left
   ·
    intro w';go_simp;with_reducible rfl
   rotate_left
   ·
    simp only[Act.put,sa',sb',sc',i64_w,i32_w];rfl
   refine pure_ (i:=2) (N:=some 9) (v:=?_) (a':=?_) #[true,true,true,false,false,false,false,false,false,false,false,false,false,false,false,false,false,false,false,false,false] rfl rfl (any_of HT_.out (by kernel_rfl)) (fun _ _ _ h=>h) (Or.inl ⟨by rfl,?_⟩) ?_ ?_
   rotate_left
   ·
    intro w';go_simp;with_reducible rfl
   rotate_left
   ·
    simp only[Act.put,sa',sb',sc',i64_w,i32_w];rfl
   refine take_ (i:=3) (N:=some 10) (v:=?_) (a':=?_) #[true,true,true,true,false,false,false,false,false,false,false,false,false,false,false,false,false,false,false,false,false] rfl rfl (take_ofW HT_.out HW_.out (by kernel_rfl)) (fun _ _ _ h=>h) (Or.inl ⟨by rfl,?_⟩) hHeld ?_ ?_
   rotate_left
   ·
    rintro w' ⟨s0,s1⟩
    go_simp;with_reducible rfl
   rotate_left
   ·
    simp only[Act.put,sa',sb',sc',i64_w,i32_w];rfl
   refine one_ (i:=4) (N:=some 11) #[true,true,true,true,true,false,false,false,false,false,false,false,false,false,false,false,false,false,false,false,false] rfl rfl (one_of HT_.out (by kernel_rfl)) (by decide) (fun K hK=>?_);refine goes_ Try.func61 (by kernel_rfl) rfl #[.int .i64 (l2.length:Int), .int .i64 1, .int .i64 a0_1] (by rfl) rfl rfl (by (try simp only[List.map_toArray,List.map_cons,List.map_nil]);first|done|rfl|(simp only[List.length_drop,List.length_take];rfl)) ?_
   with_reducible refine (spec_l1In.calls (l2.length:Int) 1 a0_1 true _ A4.out).mono ?_
   rintro e w' ⟨rfl,⟨nd,rfl⟩⟩
   refine ⟨_,rfl,?_⟩;refine hK.out _ _ ⟨(blk_cell BK130.out 0).trans rfl,(blk_cell BK130.out 1).trans rfl⟩ (fun hHeld=>?_);clear hK K;refine norm_ (a':=?_) ?_ ?_
   rotate_left
   ·
    show Act.put _ (some 11) _=_
    simp only[Act.put,sa',sb',sc',i64_w,i32_w];rfl
   refine pure_ (i:=5) (N:=some 12) (v:=?_) (a':=?_) #[true,true,true,true,true,true,false,false,false,false,false,false,false,false,false,false,false,false,false,false,false] rfl rfl (any_of HT_.out (by kernel_rfl)) (fun _ _ _ h=>h) (Or.inl ⟨by rfl,?_⟩) ?_ ?_
   rotate_left
   ·
    intro w';go_simp;with_reducible rfl
   rotate_left
   ·
    simp only[Act.put,sa',sb',sc',i64_w,i32_w];rfl
   refine pure_ (i:=6) (N:=some 13) (v:=?_) (a':=?_) #[true,true,true,true,true,true,true,false,false,false,false,false,false,false,false,false,false,false,false,false,false] rfl rfl (any_of HT_.out (by kernel_rfl)) (fun _ _ _ h=>h) (Or.inl ⟨by rfl,?_⟩) ?_ ?_
   rotate_left
   ·
    intro w';go_simp;with_reducible rfl
   rotate_left
   ·
    simp only[Act.put,sa',sb',sc',i64_w,i32_w];rfl
   refine pure_ (i:=7) (N:=some 14) (v:=?_) (a':=?_) #[true,true,true,true,true,true,true,true,false,false,false,false,false,false,false,false,false,false,false,false,false] rfl rfl (any_of HT_.out (by kernel_rfl)) (fun _ _ _ h=>h) (Or.inl ⟨by rfl,?_⟩) ?_ ?_
   rotate_left
   ·
    intro w';go_simp;with_reducible rfl
   rotate_left
   ·
    simp only[Act.put,sa',sb',sc',i64_w,i32_w];rfl
   refine take_ (i:=8) (N:=some 15) (v:=?_) (a':=?_) #[true,true,true,true,true,true,true,true,true,false,false,false,false,false,false,false,false,false,false,false,false] rfl rfl (take_ofW HT_.out HW_.out (by kernel_rfl)) (fun _ _ _ h=>h) (Or.inl ⟨by rfl,?_⟩) hHeld ?_ ?_
   rotate_left
   ·
    rintro w' ⟨s0,s1⟩
    go_simp;with_reducible rfl
   rotate_left
   ·
    simp only[Act.put,sa',sb',sc',i64_w,i32_w];rfl
   refine pure_ (i:=9) (N:=some 16) (v:=?_) (a':=?_) #[true,true,true,true,true,true,true,true,true,true,false,false,false,false,false,false,false,false,false,false,false] rfl rfl (any_of HT_.out (by kernel_rfl)) (fun _ _ _ h=>h) (Or.inl ⟨by rfl,?_⟩) ?_ ?_
   rotate_left
   ·
    intro w';go_simp;with_reducible rfl
   rotate_left
   ·
    simp only[Act.put,sa',sb',sc',i64_w,i32_w];rfl
   refine pure_ (i:=10) (N:=some 17) (v:=?_) (a':=?_) #[true,true,true,true,true,true,true,true,true,true,true,false,false,false,false,false,false,false,false,false,false] rfl rfl (any_of HT_.out (by kernel_rfl)) (fun _ _ _ h=>h) (Or.inl ⟨by rfl,?_⟩) ?_ ?_
   rotate_left
   ·
    intro w';go_simp;with_reducible rfl
   rotate_left
   ·
    simp only[Act.put,sa',sb',sc',i64_w,i32_w];rfl
   refine one_ (i:=11) (N:=some 18) #[true,true,true,true,true,true,true,true,true,true,true,true,false,false,false,false,false,false,false,false,false] rfl rfl (one_of HT_.out (by kernel_rfl)) (by decide) (fun K hK=>?_);refine goes_ Try.func103 (by kernel_rfl) rfl #[.slice A2 l2.length c2, .int .i64 0, .int .i64 (wrap64 ((wrap64 (2 * a0_0)) - 1))] (by rfl) rfl rfl (by (try simp only[List.map_toArray,List.map_cons,List.map_nil]);first|done|rfl|(simp only[List.length_drop,List.length_take];rfl)) ?_
   with_reducible refine (spec_l1Rising.calls k _ _ l2 0 (wrap64 ((wrap64 (2 * a0_0)) - 1)) false _ ?side1 ?side2 A6.out).mono ?_
   (case side1=>repeat (first|exact (Kd.C_below HR2.out (by repeat (first|(with_reducible first|exact HB.out|apply ba'|apply bd'|apply be'|refine bs' ?_ GE130.out)|exact HB.out)))|(with_reducible refine ca' ?_ _)|(with_reducible refine cn' ?_ _)|(with_reducible refine cd' ?_)))
   (case side2=>exact HC2.out)
   rintro e w' ⟨rfl,⟨nd,rfl⟩⟩
   refine ⟨_,rfl,?_⟩;refine hK.out _ _ ⟨(blk_cell BK130.out 0).trans rfl,(blk_cell BK130.out 1).trans rfl⟩ (fun hHeld=>?_);clear hK K;refine norm_ (a':=?_) ?_ ?_
   rotate_left
   ·
    show Act.put _ (some 18) _=_
    simp only[Act.put,sa',sb',sc',i64_w,i32_w];rfl
   refine pure_ (i:=12) (N:=some 19) (v:=?_) (a':=?_) #[true,true,true,true,true,true,true,true,true,true,true,true,true,false,false,false,false,false,false,false,false] rfl rfl (any_of HT_.out (by kernel_rfl)) (fun _ _ _ h=>h) (Or.inl ⟨by rfl,?_⟩) ?_ ?_
   rotate_left
   ·
    intro w';go_simp;with_reducible rfl
   rotate_left
   ·
    simp only[Act.put,sa',sb',sc',i64_w,i32_w];rfl
   refine pure_ (i:=13) (N:=some 20) (v:=?_) (a':=?_) #[true,true,true,true,true,true,true,true,true,true,true,true,true,true,false,false,false,false,false,false,false] rfl rfl (any_of HT_.out (by kernel_rfl)) (fun _ _ _ h=>h) (Or.inl ⟨by rfl,?_⟩) ?_ ?_
   rotate_left
   ·
    intro w';go_simp;with_reducible rfl
   rotate_left
   ·
    simp only[Act.put,sa',sb',sc',i64_w,i32_w];rfl
   refine pure_ (i:=14) (N:=some 21) (v:=undef) (a':=?_) #[true,true,true,true,true,true,true,true,true,true,true,true,true,true,true,false,false,false,false,false,false] rfl rfl (any_of HT_.out (by kernel_rfl)) (fun _ _ _ h=>h) (Or.inr ⟨by rfl,rfl⟩) ?_ ?_
   rotate_left
   ·
    simp only[Act.put,sa',sb',sc',i64_w,i32_w];rfl
   refine pure_ (i:=15) (N:=some 22) (v:=undef) (a':=?_) #[true,true,true,true,true,true,true,true,true,true,true,true,true,true,true,true,false,false,false,false,false] rfl rfl (any_of HT_.out (by kernel_rfl)) (fun _ _ _ h=>h) (Or.inr ⟨by rfl,rfl⟩) ?_ ?_
   rotate_left
   ·
    simp only[Act.put,sa',sb',sc',i64_w,i32_w];rfl
   refine pure_ (i:=16) (N:=some 23) (v:=undef) (a':=?_) #[true,true,true,true,true,true,true,true,true,true,true,true,true,true,true,true,true,false,false,false,false] rfl rfl (any_of HT_.out (by kernel_rfl)) (fun _ _ _ h=>h) (Or.inr ⟨by rfl,rfl⟩) ?_ ?_
   rotate_left
   ·
    simp only[Act.put,sa',sb',sc',i64_w,i32_w];rfl
   refine pure_ (i:=17) (N:=some 24) (v:=undef) (a':=?_) #[true,true,true,true,true,true,true,true,true,true,true,true,true,true,true,true,true,true,false,false,false] rfl rfl (any_of HT_.out (by kernel_rfl)) (fun _ _ _ h=>h) (Or.inr ⟨by rfl,rfl⟩) ?_ ?_
   rotate_left
   ·
    simp only[Act.put,sa',sb',sc',i64_w,i32_w];rfl
   refine pure_ (i:=18) (N:=some 25) (v:=undef) (a':=?_) #[true,true,true,true,true,true,true,true,true,true,true,true,true,true,true,true,true,true,true,false,false] rfl rfl (any_of HT_.out (by kernel_rfl)) (fun _ _ _ h=>h) (Or.inr ⟨by rfl,rfl⟩) ?_ ?_
   rotate_left
   ·
    simp only[Act.put,sa',sb',sc',i64_w,i32_w];rfl
   refine pure_ (i:=19) (N:=some 26) (v:=?_) (a':=?_) #[true,true,true,true,true,true,true,true,true,true,true,true,true,true,true,true,true,true,true,true,false] rfl rfl (any_of HT_.out (by kernel_rfl)) (fun _ _ _ h=>h) (Or.inl ⟨by rfl,?_⟩) ?_ ?_
   rotate_left
   ·
    intro w';go_simp;with_reducible rfl
   rotate_left
   ·
    simp only[Act.put,sa',sb',sc',i64_w,i32_w];rfl
   refine pure_ (i:=20) (N:=some 6) (v:=?_) (a':=?_) #[true,true,true,true,true,true,true,true,true,true,true,true,true,true,true,true,true,true,true,true,true] rfl rfl (any_of HT_.out (by kernel_rfl)) (fun _ _ _ h=>h) (Or.inl ⟨by rfl,?_⟩) ?_ ?_
   rotate_left
   ·
    intro w';go_simp;with_reducible rfl
   rotate_left
   ·
    simp only[Act.put,sa',sb',sc',i64_w,i32_w];rfl
   refine done_ (done_of HT_.out (by kernel_rfl)) ?_
   try go_wp2
   go_ret
   exact ⟨by first|rfl|(simp[errW_none,errW_some] <;> rfl)|(simp[*,errW_none,errW_some] <;> rfl),by repeat (first|(with_reducible first|exact HB.out|apply ba'|apply bd'|apply be'|refine bs' ?_ GE130.out)|exact HB.out)⟩
 ·
  replace c5:=Bool.eq_false_iff.mpr c5;subst c5;have H1:(some false)=some r:=by rw[if_neg (show ¬ (false=true) by decide)] at H;exact H
  clear H;have H:=H1;clear H1;obtain rfl:=Option.some.inj H;go_enter Try.func100,Try.ntmps100
  try go_wp2_with (first|((with_reducible refine gate_dst (N:=3) rfl ?_);refine box_event ?hg (N:=3) ?hd (cs:=#[.int .i64 a0_0, .int .i64 a0_1]) (t:=40) ?hr ?_;(case hd=>rfl);(case hg=>rfl);(case hr=>first|(go_simp;done)|(go_simp;rfl));intro gb130 hg w15 hbox hb;have n0_:=am' (below_step (by repeat (first|(with_reducible first|exact HB.out|apply ba'|apply bd'|apply be')|exact HB.out)) hb);have n1_:=am' (hbox);have n2_:=am' ((by rw[hg];exact (below_size (by repeat (first|(with_reducible first|exact HB.out|apply ba'|apply bd'|apply be')|exact HB.out))):w.heap.size≤gb130));have n3_:=am' ((by rw[hg];exact (below_size (by repeat (first|(with_reducible first|exact HB.out|apply ba'|apply bd'|apply be')|exact HB.out))):w.heap.size≤gb130));clear HB;have HB:=n0_;have BK130:=n1_;have GW130:=n2_;have GE130:=n3_;clear n0_ n1_ n2_ n3_;clear hb hbox hg))
  have n0_:=am' (kd' BK130.out);have n1_:=am' (be' HB.out);clear BK130;clear HB;have BK130:=n0_;have HB:=n1_;clear n0_ n1_;refine start_ (n:=21) (S:=fun w'=>w'.cell? ⟨gb130,0,none⟩=some (.int .i64 a0_0)∧w'.cell? ⟨gb130,1,none⟩=some (.int .i64 a0_1)) (ds:=[]) #[false,false,false,false,false,false,false,false,false,false,false,false,false,false,false,false,false,false,false,false,false] (by kernel_rfl) rfl rfl ⟨(blk_cell BK130.out 0).trans rfl,(blk_cell BK130.out 1).trans rfl⟩ (fun hHeld=>?_);refine with_tabW spec_cuTrip.tab1 spec_cuTrip.bits1 (fun HT_ HW_=>?_);generalize w15.drew=w16 at BK130 HB hHeld ⊢
  refine pure_ (i:=0) (N:=some 7) (v:=?_) (a':=?_) #[true,false,false,false,false,false,false,false,false,false,false,false,false,false,false,false,false,false,false,false,false] rfl rfl (any_of HT_.out (by kernel_rfl)) (fun _ _ _ h=>h) (Or.inl ⟨by rfl,?_⟩) ?_ ?_
  rotate_left
  ·
   intro w';go_simp;with_reducible rfl
  rotate_left
  ·
   simp only[Act.put,sa',sb',sc',i64_w,i32_w];rfl
  refine pure_ (i:=1) (N:=some 8) (v:=?_) (a':=?_) #[true,true,false,false,false,false,false,false,false,false,false,false,false,false,false,false,false,false,false,false,false] rfl rfl (any_of HT_.out (by kernel_rfl)) (fun _ _ _ h=>h) (Or.inl ⟨by rfl,?_⟩) ?_ ?_
  rotate_left
  ·
   intro w';go_simp;with_reducible rfl
  rotate_left
  ·
   simp only[Act.put,sa',sb',sc',i64_w,i32_w];rfl
  refine pure_ (i:=2) (N:=some 9) (v:=?_) (a':=?_) #[true,true,true,false,false,false,false,false,false,false,false,false,false,false,false,false,false,false,false,false,false] rfl rfl (any_of HT_.out (by kernel_rfl)) (fun _ _ _ h=>h) (Or.inl ⟨by rfl,?_⟩) ?_ ?_
  rotate_left
  ·
   intro w';go_simp;with_reducible rfl
  rotate_left
  ·
   simp only[Act.put,sa',sb',sc',i64_w,i32_w];rfl
  refine take_ (i:=3) (N:=some 10) (v:=?_) (a':=?_) #[true,true,true,true,false,false,false,false,false,false,false,false,false,false,false,false,false,false,false,false,false] rfl rfl (take_ofW HT_.out HW_.out (by kernel_rfl)) (fun _ _ _ h=>h) (Or.inl ⟨by rfl,?_⟩) hHeld ?_ ?_
  rotate_left
  ·
   rintro w' ⟨s0,s1⟩
   go_simp;with_reducible rfl
  rotate_left
  ·
   simp only[Act.put,sa',sb',sc',i64_w,i32_w];rfl
  refine one_ (i:=4) (N:=some 11) #[true,true,true,true,true,false,false,false,false,false,false,false,false,false,false,false,false,false,false,false,false] rfl rfl (one_of HT_.out (by kernel_rfl)) (by decide) (fun K hK=>?_);refine goes_ Try.func61 (by kernel_rfl) rfl #[.int .i64 (l2.length:Int), .int .i64 1, .int .i64 a0_1] (by rfl) rfl rfl (by (try simp only[List.map_toArray,List.map_cons,List.map_nil]);first|done|rfl|(simp only[List.length_drop,List.length_take];rfl)) ?_
  with_reducible refine (spec_l1In.calls (l2.length:Int) 1 a0_1 false _ A4.out).mono ?_
  rintro e w' ⟨rfl,⟨nd,rfl⟩⟩
  refine ⟨_,rfl,?_⟩;refine hK.out _ _ ⟨(blk_cell BK130.out 0).trans rfl,(blk_cell BK130.out 1).trans rfl⟩ (fun hHeld=>?_);clear hK K;refine norm_ (a':=?_) ?_ ?_
  rotate_left
  ·
   show Act.put _ (some 11) _=_
   simp only[Act.put,sa',sb',sc',i64_w,i32_w];rfl
  refine pure_ (i:=5) (N:=some 12) (v:=?_) (a':=?_) #[true,true,true,true,true,true,false,false,false,false,false,false,false,false,false,false,false,false,false,false,false] rfl rfl (any_of HT_.out (by kernel_rfl)) (fun _ _ _ h=>h) (Or.inl ⟨by rfl,?_⟩) ?_ ?_
  rotate_left
  ·
   intro w';go_simp;with_reducible rfl
  rotate_left
  ·
   simp only[Act.put,sa',sb',sc',i64_w,i32_w];rfl
  refine pure_ (i:=6) (N:=some 13) (v:=undef) (a':=?_) #[true,true,true,true,true,true,true,false,false,false,false,false,false,false,false,false,false,false,false,false,false] rfl rfl (any_of HT_.out (by kernel_rfl)) (fun _ _ _ h=>h) (Or.inr ⟨by rfl,rfl⟩) ?_ ?_
  rotate_left
  ·
   simp only[Act.put,sa',sb',sc',i64_w,i32_w];rfl
  refine pure_ (i:=7) (N:=some 14) (v:=undef) (a':=?_) #[true,true,true,true,true,true,true,true,false,false,false,false,false,false,false,false,false,false,false,false,false] rfl rfl (any_of HT_.out (by kernel_rfl)) (fun _ _ _ h=>h) (Or.inr ⟨by rfl,rfl⟩) ?_ ?_
  rotate_left
  ·
   simp only[Act.put,sa',sb',sc',i64_w,i32_w];rfl
  refine pure_ (i:=8) (N:=some 15) (v:=undef) (a':=?_) #[true,true,true,true,true,true,true,true,true,false,false,false,false,false,false,false,false,false,false,false,false] rfl rfl (any_of HT_.out (by kernel_rfl)) (fun _ _ _ h=>h) (Or.inr ⟨by rfl,rfl⟩) ?_ ?_
  rotate_left
  ·
   simp only[Act.put,sa',sb',sc',i64_w,i32_w];rfl
  refine pure_ (i:=9) (N:=some 16) (v:=undef) (a':=?_) #[true,true,true,true,true,true,true,true,true,true,false,false,false,false,false,false,false,false,false,false,false] rfl rfl (any_of HT_.out (by kernel_rfl)) (fun _ _ _ h=>h) (Or.inr ⟨by rfl,rfl⟩) ?_ ?_
  rotate_left
  ·
   simp only[Act.put,sa',sb',sc',i64_w,i32_w];rfl
  refine pure_ (i:=10) (N:=some 17) (v:=undef) (a':=?_) #[true,true,true,true,true,true,true,true,true,true,true,false,false,false,false,false,false,false,false,false,false] rfl rfl (any_of HT_.out (by kernel_rfl)) (fun _ _ _ h=>h) (Or.inr ⟨by rfl,rfl⟩) ?_ ?_
  rotate_left
  ·
   simp only[Act.put,sa',sb',sc',i64_w,i32_w];rfl
  refine pure_ (i:=11) (N:=some 18) (v:=undef) (a':=?_) #[true,true,true,true,true,true,true,true,true,true,true,true,false,false,false,false,false,false,false,false,false] rfl rfl (any_of HT_.out (by kernel_rfl)) (fun _ _ _ h=>h) (Or.inr ⟨by rfl,rfl⟩) ?_ ?_
  rotate_left
  ·
   simp only[Act.put,sa',sb',sc',i64_w,i32_w];rfl
  refine pure_ (i:=12) (N:=some 19) (v:=?_) (a':=?_) #[true,true,true,true,true,true,true,true,true,true,true,true,true,false,false,false,false,false,false,false,false] rfl rfl (any_of HT_.out (by kernel_rfl)) (fun _ _ _ h=>h) (Or.inl ⟨by rfl,?_⟩) ?_ ?_
  rotate_left
  ·
   intro w';go_simp;with_reducible rfl
  rotate_left
  ·
   simp only[Act.put,sa',sb',sc',i64_w,i32_w];rfl
  refine pure_ (i:=13) (N:=some 20) (v:=?_) (a':=?_) #[true,true,true,true,true,true,true,true,true,true,true,true,true,true,false,false,false,false,false,false,false] rfl rfl (any_of HT_.out (by kernel_rfl)) (fun _ _ _ h=>h) (Or.inl ⟨by rfl,?_⟩) ?_ ?_
  rotate_left
  ·
   intro w';go_simp;with_reducible rfl
  rotate_left
  ·
   simp only[Act.put,sa',sb',sc',i64_w,i32_w];rfl
  refine pure_ (i:=14) (N:=some 21) (v:=undef) (a':=?_) #[true,true,true,true,true,true,true,true,true,true,true,true,true,true,true,false,false,false,false,false,false] rfl rfl (any_of HT_.out (by kernel_rfl)) (fun _ _ _ h=>h) (Or.inr ⟨by rfl,rfl⟩) ?_ ?_
  rotate_left
  ·
   simp only[Act.put,sa',sb',sc',i64_w,i32_w];rfl
  refine pure_ (i:=15) (N:=some 22) (v:=undef) (a':=?_) #[true,true,true,true,true,true,true,true,true,true,true,true,true,true,true,true,false,false,false,false,false] rfl rfl (any_of HT_.out (by kernel_rfl)) (fun _ _ _ h=>h) (Or.inr ⟨by rfl,rfl⟩) ?_ ?_
  rotate_left
  ·
   simp only[Act.put,sa',sb',sc',i64_w,i32_w];rfl
  refine pure_ (i:=16) (N:=some 23) (v:=undef) (a':=?_) #[true,true,true,true,true,true,true,true,true,true,true,true,true,true,true,true,true,false,false,false,false] rfl rfl (any_of HT_.out (by kernel_rfl)) (fun _ _ _ h=>h) (Or.inr ⟨by rfl,rfl⟩) ?_ ?_
  rotate_left
  ·
   simp only[Act.put,sa',sb',sc',i64_w,i32_w];rfl
  refine pure_ (i:=17) (N:=some 24) (v:=undef) (a':=?_) #[true,true,true,true,true,true,true,true,true,true,true,true,true,true,true,true,true,true,false,false,false] rfl rfl (any_of HT_.out (by kernel_rfl)) (fun _ _ _ h=>h) (Or.inr ⟨by rfl,rfl⟩) ?_ ?_
  rotate_left
  ·
   simp only[Act.put,sa',sb',sc',i64_w,i32_w];rfl
  refine pure_ (i:=18) (N:=some 25) (v:=undef) (a':=?_) #[true,true,true,true,true,true,true,true,true,true,true,true,true,true,true,true,true,true,true,false,false] rfl rfl (any_of HT_.out (by kernel_rfl)) (fun _ _ _ h=>h) (Or.inr ⟨by rfl,rfl⟩) ?_ ?_
  rotate_left
  ·
   simp only[Act.put,sa',sb',sc',i64_w,i32_w];rfl
  refine pure_ (i:=19) (N:=some 26) (v:=?_) (a':=?_) #[true,true,true,true,true,true,true,true,true,true,true,true,true,true,true,true,true,true,true,true,false] rfl rfl (any_of HT_.out (by kernel_rfl)) (fun _ _ _ h=>h) (Or.inl ⟨by rfl,?_⟩) ?_ ?_
  rotate_left
  ·
   intro w';go_simp;with_reducible rfl
  rotate_left
  ·
   simp only[Act.put,sa',sb',sc',i64_w,i32_w];rfl
  refine pure_ (i:=20) (N:=some 6) (v:=?_) (a':=?_) #[true,true,true,true,true,true,true,true,true,true,true,true,true,true,true,true,true,true,true,true,true] rfl rfl (any_of HT_.out (by kernel_rfl)) (fun _ _ _ h=>h) (Or.inl ⟨by rfl,?_⟩) ?_ ?_
  rotate_left
  ·
   intro w';go_simp;with_reducible rfl
  rotate_left
  ·
   simp only[Act.put,sa',sb',sc',i64_w,i32_w];rfl
  refine done_ (done_of HT_.out (by kernel_rfl)) ?_
  try go_wp2
  go_ret
  exact ⟨by first|rfl|(simp[errW_none,errW_some] <;> rfl)|(simp[*,errW_none,errW_some] <;> rfl),by repeat (first|(with_reducible first|exact HB.out|apply ba'|apply bd'|apply be'|refine bs' ?_ GE130.out)|exact HB.out)⟩
def spec_cuPlan.l0:Nat→Int→List (List Int)→Int→Int→Int→Int→Option (Bool)
 | 0,_,_,_,_,_,_=>none
 | k+1,x5,x8,x9,x10,x136000,x136001=>if x10 < x9 then (if 0≤x10 then (if x10 < (x8.length:Int) then ((spec_cuTrip.f k x136000 x136001 x5 (rd_L1 x8 x10)).bind fun t138=>(if t138=true then ((spec_cuBits.f k (rd_L1 x8 x10)).bind fun t139=>(spec_cuPlan.l0 k (Go.bits .xor .i64 x5 (wrap64 ((wrap64 (2 * t139))+1))) x8 x9 (wrap64 (x10+1)) x136000 x136001)) else (some false))) else (none)) else (none)) else ((spec_cuSize.f x136000 x136001).bind fun t136=>(some (x5 == (wrap64 ((wrap64 (2 * t136)) - 1)))))
def spec_cuPlan.f (k:Nat) (a0_0:Int) (a0_1:Int) (l1:List (List Int)):Option (Bool):=spec_cuPlan.l0 k 0 l1 (l1.length:Int) 0 a0_0 a0_1
set_option maxHeartbeats 8000000 in
set_option maxRecDepth 100000 in
theorem spec_cuPlan.calls (k:Nat) (a0_0:Int) (a0_1:Int) (A1:Option Addr) (c1:Nat) (l1:List (List Int)) (r:Bool) (w:World) (hr1:Kd.C (Kd.slice 3 (Kd.int .i64)) w A1 l1.length l1) (hc1:l1.length≤c1) (h:spec_cuPlan.f k a0_0 a0_1 l1=some r) :
  Calls Try.prog 76 #[.agg #[.int .i64 a0_0, .int .i64 a0_1], .slice A1 l1.length c1] w fun e w'=>e = .returned (.bool r)∧Below w.heap.size w w':=by
 have hu40:=Try.underlying40
 have HR1:=am' hr1
 have HC1:=am' hc1
 clear hr1 hc1;have HB:=am' (Below.refl w.heap.size w)
 have H:(spec_cuPlan.l0 k 0 l1 (l1.length:Int) 0 a0_0 a0_1)=some r:=h
 clear h;have H':=am' H
 clear H;go_enter Try.func76,Try.ntmps76
 go_wp2_with (first|((with_reducible refine gate_dst (N:=2) rfl ?_);refine box_event ?hg (N:=2) ?hd (cs:=#[.int .i64 a0_0, .int .i64 a0_1]) (t:=40) ?hr ?_;(case hd=>rfl);(case hg=>rfl);(case hr=>first|(go_simp;done)|(go_simp;rfl));intro gb135 hg w3 hbox hb;have n0_:=am' (below_step (by repeat (first|(with_reducible first|exact HB.out|apply ba'|apply bd'|apply be')|exact HB.out)) hb);have n1_:=am' (hbox);have n2_:=am' ((by rw[hg];exact (below_size (by repeat (first|(with_reducible first|exact HB.out|apply ba'|apply bd'|apply be')|exact HB.out))):w.heap.size≤gb135));have n3_:=am' ((by rw[hg];exact (below_size (by repeat (first|(with_reducible first|exact HB.out|apply ba'|apply bd'|apply be')|exact HB.out))):w.heap.size≤gb135));clear HB;have HB:=n0_;have BK135:=n1_;have GW135:=n2_;have GE135:=n3_;clear n0_ n1_ n2_ n3_;clear hb hbox hg))
 go_loopg [5,10] k (fun kq v5 v10 w'=>∃ (x5_1:Int) (x10_1:Int),v5 = .int .i64 x5_1∧v10 = .int .i64 x10_1∧Aside0 (spec_cuPlan.l0 kq x5_1 l1 (l1.length:Int) x10_1 a0_0 a0_1=some r)∧Aside0 (kq≤k)∧Aside0 (w'.heap[gb135]? = some (.cells #[.int .i64 a0_0, .int .i64 a0_1] 40 (0,0)))∧Aside0 (Below w.heap.size w w'))
 case atStart=>exact ⟨(0),(0),(by first|rfl|(simp;done)|(simp[*];done)),(by first|rfl|(simp;done)|(simp[*];done)),H',⟨Nat.le_refl _⟩,⟨by (with_reducible repeat (first|refine kn' ?_ _|refine kd' ?_|refine ka' ?_ _));exact BK135.out⟩,⟨by repeat (first|(with_reducible first|exact HB.out|apply ba'|apply bd'|apply be'|refine bs' ?_ GE135.out)|exact HB.out)⟩⟩
 case round =>
  clear H';try clear c1
  try clear p2
  obtain ⟨x5_1,x10_1,rfl,rfl,HA,HK1,BK135,HB⟩:=hrel;cases gk with
  | zero=>exact absurd HA.out (by simp[spec_cuPlan.l0])
  | succ k1 =>
   have H:=HA.out;clear HA;simp only[spec_cuPlan.l0] at H;by_cases c4:x10_1 < (l1.length:Int)
   ·
    rw[if_pos c4] at H;have c4b0:decide (x10_1 < (l1.length:Int))=true:=decide_eq_true c4;clear c4;by_cases c5:0≤x10_1
    ·
     rw[if_pos c5] at H;have c5b0:decide (0≤x10_1)=true:=decide_eq_true c5;clear c5;by_cases c6:x10_1 < (l1.length:Int)
     ·
      rw[if_pos c6] at H;have c6b0:decide (x10_1 < (l1.length:Int))=true:=decide_eq_true c6;clear c6;replace H:=Option.bind_eq_some_iff.mp H;obtain ⟨t138,A70,H⟩:=H;replace H:(if t138=true then ((spec_cuBits.f k1 (rd_L1 l1 x10_1)).bind fun t139=>(spec_cuPlan.l0 k1 (Go.bits .xor .i64 x5_1 (wrap64 ((wrap64 (2 * t139))+1))) l1 (l1.length:Int) (wrap64 (x10_1+1)) a0_0 a0_1)) else (some false))=some r:=H;have A7:=am' A70;clear A70;by_cases c8:t138=true
      ·
       subst c8;have H1:((spec_cuBits.f k1 (rd_L1 l1 x10_1)).bind fun t139=>(spec_cuPlan.l0 k1 (Go.bits .xor .i64 x5_1 (wrap64 ((wrap64 (2 * t139))+1))) l1 (l1.length:Int) (wrap64 (x10_1+1)) a0_0 a0_1))=some r:=by rw[if_pos rfl] at H;exact H
       clear H;have H:=H1;clear H1;replace H:=Option.bind_eq_some_iff.mp H;obtain ⟨t139,A90,H⟩:=H;replace H:(spec_cuPlan.l0 k1 (Go.bits .xor .i64 x5_1 (wrap64 ((wrap64 (2 * t139))+1))) l1 (l1.length:Int) (wrap64 (x10_1+1)) a0_0 a0_1)=some r:=H;have A9:=am' A90;clear A90;have H':=am' H;clear H;have p137:0≤(x10_1:Int):=of_decide_eq_true (by first|(with_reducible assumption)|assumption);have q137:x10_1 < (l1.length:Int):=of_decide_eq_true (by first|(with_reducible assumption)|assumption);obtain ⟨ad137,A137_0,c137_0,e137,hx137_0,hl137_0,hi137_0⟩:=at_L1 HR1.out x10_1 p137 q137;cases e137;replace hx137_0:=(HB.out.cell (bl' w _ hx137_0)).trans hx137_0;have HR137_0:=am' hi137_0;have HC137_0:=am' hl137_0;clear hi137_0 hl137_0;replace p137:=eq_true p137;replace q137:=eq_true q137;have hcz10_0:wr.cell? ⟨gb135,0,none⟩=some (.int .i64 a0_0):=(blk_cell BK135.out 0).trans rfl;have hcz10_1:wr.cell? ⟨gb135,1,none⟩=some (.int .i64 a0_1):=(blk_cell BK135.out 1).trans rfl;have hfz10_0:=blk_frozen BK135.out 0;have hfz10_1:=blk_frozen BK135.out 1;go_wp2_with (first|((with_reducible refine gate_callee (f:=100) rfl ?_);refine goesL_ (some 17) rfl rfl Try.func100 (by kernel_rfl) rfl #[.agg #[.int .i64 a0_0, .int .i64 a0_1], .int .i64 x5_1, .slice A137_0 (rd_L1 l1 x10_1).length c137_0] rfl (by (try simp only[List.map_toArray,List.map_cons,List.map_nil]);first|done|rfl|(simp only[List.length_drop,List.length_take];rfl)) ?_;(with_reducible refine (spec_cuTrip.calls k1 a0_0 a0_1 x5_1 _ _ (rd_L1 l1 x10_1) true _ ?side1 ?side2 A7.out).mono ?_);(case side1=>repeat (first|exact (Kd.C_below HR137_0.out HB.out)|(with_reducible refine ca' ?_ _)|(with_reducible refine cn' ?_ _)|(with_reducible refine cd' ?_)));(case side2=>exact HC137_0.out);rintro e w11 ⟨rfl,hb⟩;refine ⟨_,rfl,?_⟩;have n0_:=am' (blk_below (g:=gb135) (o := .cells #[.int .i64 a0_0, .int .i64 a0_1] 40 (0,0)) (by (with_reducible repeat (first|refine kn' ?_ _|refine kd' ?_|refine ka' ?_ _));exact BK135.out) hb);have n1_:=am' (below_step (by repeat (first|(with_reducible first|exact HB.out|apply ba'|apply bd'|apply be'|refine bs' ?_ GE135.out)|exact HB.out)) hb);clear BK135;clear HB;have BK135:=n0_;have HB:=n1_;clear n0_ n1_;(try clear hb);(try clear hb2);(try clear hk);(try clear hi))|((with_reducible refine gate_callee (f:=102) rfl ?_);refine goesL_ (some 21) rfl rfl Try.func102 (by kernel_rfl) rfl #[.slice A137_0 (rd_L1 l1 x10_1).length c137_0] rfl (by (try simp only[List.map_toArray,List.map_cons,List.map_nil]);first|done|rfl|(simp only[List.length_drop,List.length_take];rfl)) ?_;(with_reducible refine (spec_cuBits.calls k1 _ _ (rd_L1 l1 x10_1) t139 _ ?side1 ?side2 A9.out).mono ?_);(case side1=>repeat (first|exact (Kd.C_below HR137_0.out HB.out)|(with_reducible refine ca' ?_ _)|(with_reducible refine cn' ?_ _)|(with_reducible refine cd' ?_)));(case side2=>exact HC137_0.out);rintro e w' ⟨rfl,⟨nd,rfl⟩⟩;refine ⟨_,rfl,?_⟩))
       go_roundg k1
       case measure=>have:=HK1.out;omega
       case rel=>exact ⟨(Go.bits .xor .i64 x5_1 (wrap64 ((wrap64 (2 * t139))+1))),(wrap64 (x10_1+1)),(by first|rfl|(simp;done)|(simp[*];done)),(by first|rfl|(simp;done)|(simp[*];done)),H',⟨by have:=HK1.out;omega⟩,⟨by (with_reducible repeat (first|refine kn' ?_ _|refine kd' ?_|refine ka' ?_ _));exact BK135.out⟩,⟨by repeat (first|(with_reducible first|exact HB.out|apply ba'|apply bd'|apply be'|refine bs' ?_ GE135.out)|exact HB.out)⟩⟩
      ·
       replace c8:=Bool.eq_false_iff.mpr c8;subst c8;have H1:(some false)=some r:=by rw[if_neg (show ¬ (false=true) by decide)] at H;exact H
       clear H;have H:=H1;clear H1;obtain rfl:=Option.some.inj H;have p137:0≤(x10_1:Int):=of_decide_eq_true (by first|(with_reducible assumption)|assumption);have q137:x10_1 < (l1.length:Int):=of_decide_eq_true (by first|(with_reducible assumption)|assumption);obtain ⟨ad137,A137_0,c137_0,e137,hx137_0,hl137_0,hi137_0⟩:=at_L1 HR1.out x10_1 p137 q137;cases e137;replace hx137_0:=(HB.out.cell (bl' w _ hx137_0)).trans hx137_0;have HR137_0:=am' hi137_0;have HC137_0:=am' hl137_0;clear hi137_0 hl137_0;replace p137:=eq_true p137;replace q137:=eq_true q137;have hcz12_0:wr.cell? ⟨gb135,0,none⟩=some (.int .i64 a0_0):=(blk_cell BK135.out 0).trans rfl;have hcz12_1:wr.cell? ⟨gb135,1,none⟩=some (.int .i64 a0_1):=(blk_cell BK135.out 1).trans rfl;have hfz12_0:=blk_frozen BK135.out 0;have hfz12_1:=blk_frozen BK135.out 1;go_wp2_with (first|((with_reducible refine gate_callee (f:=100) rfl ?_);refine goesL_ (some 17) rfl rfl Try.func100 (by kernel_rfl) rfl #[.agg #[.int .i64 a0_0, .int .i64 a0_1], .int .i64 x5_1, .slice A137_0 (rd_L1 l1 x10_1).length c137_0] rfl (by (try simp only[List.map_toArray,List.map_cons,List.map_nil]);first|done|rfl|(simp only[List.length_drop,List.length_take];rfl)) ?_;(with_reducible refine (spec_cuTrip.calls k1 a0_0 a0_1 x5_1 _ _ (rd_L1 l1 x10_1) false _ ?side1 ?side2 A7.out).mono ?_);(case side1=>repeat (first|exact (Kd.C_below HR137_0.out HB.out)|(with_reducible refine ca' ?_ _)|(with_reducible refine cn' ?_ _)|(with_reducible refine cd' ?_)));(case side2=>exact HC137_0.out);rintro e w13 ⟨rfl,hb⟩;refine ⟨_,rfl,?_⟩;have n0_:=am' (blk_below (g:=gb135) (o := .cells #[.int .i64 a0_0, .int .i64 a0_1] 40 (0,0)) (by (with_reducible repeat (first|refine kn' ?_ _|refine kd' ?_|refine ka' ?_ _));exact BK135.out) hb);have n1_:=am' (below_step (by repeat (first|(with_reducible first|exact HB.out|apply ba'|apply bd'|apply be'|refine bs' ?_ GE135.out)|exact HB.out)) hb);clear BK135;clear HB;have BK135:=n0_;have HB:=n1_;clear n0_ n1_;(try clear hb);(try clear hb2);(try clear hk);(try clear hi)));go_ret
       exact ⟨by first|rfl|(simp[errW_none,errW_some] <;> rfl)|(simp[*,errW_none,errW_some] <;> rfl),by repeat (first|(with_reducible first|exact HB.out|apply ba'|apply bd'|apply be'|refine bs' ?_ GE135.out)|exact HB.out)⟩
     ·
      rw[if_neg c6] at H;exact absurd H (by simp)
    ·
     rw[if_neg c5] at H;exact absurd H (by simp)
   ·
    rw[if_neg c4] at H;have c4b0:decide (x10_1 < (l1.length:Int))=false:=decide_eq_false c4;clear c4;replace H:=Option.bind_eq_some_iff.mp H;obtain ⟨t136,A140,H⟩:=H;replace H:(some (x5_1 == (wrap64 ((wrap64 (2 * t136)) - 1))))=some r:=H;have A14:=am' A140;clear A140;obtain rfl:=Option.some.inj H;have hcz15_0:wr.cell? ⟨gb135,0,none⟩=some (.int .i64 a0_0):=(blk_cell BK135.out 0).trans rfl;have hcz15_1:wr.cell? ⟨gb135,1,none⟩=some (.int .i64 a0_1):=(blk_cell BK135.out 1).trans rfl;have hfz15_0:=blk_frozen BK135.out 0;have hfz15_1:=blk_frozen BK135.out 1;go_wp2_with (first|((with_reducible refine gate_callee (f:=105) rfl ?_);refine goesL_ (some 28) rfl rfl Try.func105 (by kernel_rfl) rfl #[.agg #[.int .i64 a0_0, .int .i64 a0_1]] rfl (by (try simp only[List.map_toArray,List.map_cons,List.map_nil]);first|done|rfl|(simp only[List.length_drop,List.length_take];rfl)) ?_;(with_reducible refine (spec_cuSize.calls a0_0 a0_1 t136 _ A14.out).mono ?_);rintro e w16 ⟨rfl,hb⟩;refine ⟨_,rfl,?_⟩;have n0_:=am' (blk_below (g:=gb135) (o := .cells #[.int .i64 a0_0, .int .i64 a0_1] 40 (0,0)) (by (with_reducible repeat (first|refine kn' ?_ _|refine kd' ?_|refine ka' ?_ _));exact BK135.out) hb);have n1_:=am' (below_step (by repeat (first|(with_reducible first|exact HB.out|apply ba'|apply bd'|apply be'|refine bs' ?_ GE135.out)|exact HB.out)) hb);clear BK135;clear HB;have BK135:=n0_;have HB:=n1_;clear n0_ n1_;(try clear hb);(try clear hb2);(try clear hk);(try clear hi)));go_ret
    exact ⟨by first|rfl|(simp[errW_none,errW_some] <;> rfl)|(simp[*,errW_none,errW_some] <;> rfl),by repeat (first|(with_reducible first|exact HB.out|apply ba'|apply bd'|apply be'|refine bs' ?_ GE135.out)|exact HB.out)⟩
def spec_IsCalmPlan.f (k:Nat) (a0_0:Int) (a0_1:Int) (l1:List (List Int)):Option (Bool × Bool):=(spec_cuGood.f a0_0 a0_1).bind fun t141=>(if t141=true then (if (l1.length:Int) > 40 then (some (false,false)) else ((spec_cuPlan.f k a0_0 a0_1 l1).bind fun t142=>(some (t142,true)))) else (some (false,false)))
set_option maxHeartbeats 8000000 in
set_option maxRecDepth 100000 in
theorem spec_IsCalmPlan.calls (k:Nat) (a0_0:Int) (a0_1:Int) (A1:Option Addr) (c1:Nat) (l1:List (List Int)) (r1:Bool) (r2:Bool) (w:World) (hr1:Kd.C (Kd.slice 3 (Kd.int .i64)) w A1 l1.length l1) (hc1:l1.length≤c1) (h:spec_IsCalmPlan.f k a0_0 a0_1 l1=some (r1,r2)) :
  Calls Try.prog 29 #[.agg #[.int .i64 a0_0, .int .i64 a0_1], .slice A1 l1.length c1] w fun e w'=>e = .returned (.tuple #[.bool r1, .bool r2])∧Below w.heap.size w w':=by
 have hu40:=Try.underlying40
 have HR1:=am' hr1
 have HC1:=am' hc1
 clear hr1 hc1;have HB:=am' (Below.refl w.heap.size w)
 have H:((spec_cuGood.f a0_0 a0_1).bind fun t141=>(if t141=true then (if (l1.length:Int) > 40 then (some (false,false)) else ((spec_cuPlan.f k a0_0 a0_1 l1).bind fun t142=>(some (t142,true)))) else (some (false,false))))=some (r1,r2):=h
 clear h;replace H:=Option.bind_eq_some_iff.mp H
 obtain ⟨t141,A30,H⟩:=H
 replace H:(if t141=true then (if (l1.length:Int) > 40 then (some (false,false)) else ((spec_cuPlan.f k a0_0 a0_1 l1).bind fun t142=>(some (t142,true)))) else (some (false,false)))=some (r1,r2):=H
 have A3:=am' A30
 clear A30;by_cases c4:t141=true
 ·
  subst c4;have H1:(if (l1.length:Int) > 40 then (some (false,false)) else ((spec_cuPlan.f k a0_0 a0_1 l1).bind fun t142=>(some (t142,true))))=some (r1,r2):=by rw[if_pos rfl] at H;exact H
  clear H;have H:=H1;clear H1;by_cases c5:(l1.length:Int) > 40
  ·
   rw[if_pos c5] at H;have c5b0:decide (40 < (l1.length:Int))=true:=decide_eq_true c5;have c5b1:decide (40 < l1.length)=true:=decide_eq_true (by omega);clear c5;simp only[Option.some.injEq,Prod.mk.injEq] at H;obtain ⟨rfl,rfl⟩:=H;go_enter Try.func29,Try.ntmps29;go_wp2_with (first|((with_reducible refine gate_dst (N:=2) rfl ?_);(try (refine gate_guard (by rfl) ?_;dsimp only));refine box_event ?hg (N:=2) ?hd (cs:=#[.int .i64 a0_0, .int .i64 a0_1]) (t:=40) ?hr ?_;(case hd=>rfl);(case hg=>rfl);(case hr=>first|(go_simp;done)|(go_simp;rfl));intro gb140 hg w6 hbox hb;have n0_:=am' (below_step (by repeat (first|(with_reducible first|exact HB.out|apply ba'|apply bd'|apply be')|exact HB.out)) hb);have n1_:=am' (hbox);have n2_:=am' ((by rw[hg];exact (below_size (by repeat (first|(with_reducible first|exact HB.out|apply ba'|apply bd'|apply be')|exact HB.out))):w.heap.size≤gb140));have n3_:=am' ((by rw[hg];exact (below_size (by repeat (first|(with_reducible first|exact HB.out|apply ba'|apply bd'|apply be')|exact HB.out))):w.heap.size≤gb140));clear HB;have HB:=n0_;have BK140:=n1_;have GW140:=n2_;have GE140:=n3_;clear n0_ n1_ n2_ n3_;clear hb hbox hg;have hcz7_0:w6.cell? ⟨gb140,0,none⟩=some (.int .i64 a0_0):=(blk_cell BK140.out 0).trans rfl;have hcz7_1:w6.cell? ⟨gb140,1,none⟩=some (.int .i64 a0_1):=(blk_cell BK140.out 1).trans rfl;have hfz7_0:=blk_frozen BK140.out 0;have hfz7_1:=blk_frozen BK140.out 1)|((with_reducible refine gate_callee (f:=75) rfl ?_);refine goesL_ (some 7) rfl rfl Try.func75 (by kernel_rfl) rfl #[.agg #[.int .i64 a0_0, .int .i64 a0_1]] rfl (by (try simp only[List.map_toArray,List.map_cons,List.map_nil]);first|done|rfl|(simp only[List.length_drop,List.length_take];rfl)) ?_;(with_reducible refine (spec_cuGood.calls a0_0 a0_1 true _ A3.out).mono ?_);rintro e w8 ⟨rfl,hb⟩;refine ⟨_,rfl,?_⟩;have n0_:=am' (blk_below (g:=gb140) (o := .cells #[.int .i64 a0_0, .int .i64 a0_1] 40 (0,0)) (by (with_reducible repeat (first|refine kn' ?_ _|refine kd' ?_|refine ka' ?_ _));exact BK140.out) hb);have n1_:=am' (below_step (by repeat (first|(with_reducible first|exact HB.out|apply ba'|apply bd'|apply be'|refine bs' ?_ GE140.out)|exact HB.out)) hb);clear BK140;clear HB;have BK140:=n0_;have HB:=n1_;clear n0_ n1_;(try clear hb);(try clear hb2);(try clear hk);(try clear hi)));go_ret2
   exact ⟨by first|rfl|(simp[errW_none,errW_some] <;> rfl)|(simp[*,errW_none,errW_some] <;> rfl),by repeat (first|(with_reducible first|exact HB.out|apply ba'|apply bd'|apply be'|refine bs' ?_ GE140.out)|exact HB.out)⟩
  ·
   rw[if_neg c5] at H;have c5b0:decide (40 < (l1.length:Int))=false:=decide_eq_false c5;have c5b1:decide (40 < l1.length)=false:=decide_eq_false (by omega);clear c5;replace H:=Option.bind_eq_some_iff.mp H;obtain ⟨t142,A90,H⟩:=H;replace H:(some (t142,true))=some (r1,r2):=H;have A9:=am' A90;clear A90;simp only[Option.some.injEq,Prod.mk.injEq] at H;obtain ⟨rfl,rfl⟩:=H;go_enter Try.func29,Try.ntmps29;go_wp2_with (first|((with_reducible refine gate_dst (N:=2) rfl ?_);(try (refine gate_guard (by rfl) ?_;dsimp only));refine box_event ?hg (N:=2) ?hd (cs:=#[.int .i64 a0_0, .int .i64 a0_1]) (t:=40) ?hr ?_;(case hd=>rfl);(case hg=>rfl);(case hr=>first|(go_simp;done)|(go_simp;rfl));intro gb140 hg w10 hbox hb;have n0_:=am' (below_step (by repeat (first|(with_reducible first|exact HB.out|apply ba'|apply bd'|apply be')|exact HB.out)) hb);have n1_:=am' (hbox);have n2_:=am' ((by rw[hg];exact (below_size (by repeat (first|(with_reducible first|exact HB.out|apply ba'|apply bd'|apply be')|exact HB.out))):w.heap.size≤gb140));have n3_:=am' ((by rw[hg];exact (below_size (by repeat (first|(with_reducible first|exact HB.out|apply ba'|apply bd'|apply be')|exact HB.out))):w.heap.size≤gb140));clear HB;have HB:=n0_;have BK140:=n1_;have GW140:=n2_;have GE140:=n3_;clear n0_ n1_ n2_ n3_;clear hb hbox hg;have hcz11_0:w10.cell? ⟨gb140,0,none⟩=some (.int .i64 a0_0):=(blk_cell BK140.out 0).trans rfl;have hcz11_1:w10.cell? ⟨gb140,1,none⟩=some (.int .i64 a0_1):=(blk_cell BK140.out 1).trans rfl;have hfz11_0:=blk_frozen BK140.out 0;have hfz11_1:=blk_frozen BK140.out 1)|((with_reducible refine gate_callee (f:=75) rfl ?_);refine goesL_ (some 7) rfl rfl Try.func75 (by kernel_rfl) rfl #[.agg #[.int .i64 a0_0, .int .i64 a0_1]] rfl (by (try simp only[List.map_toArray,List.map_cons,List.map_nil]);first|done|rfl|(simp only[List.length_drop,List.length_take];rfl)) ?_;(with_reducible refine (spec_cuGood.calls a0_0 a0_1 true _ A3.out).mono ?_);rintro e w12 ⟨rfl,hb⟩;refine ⟨_,rfl,?_⟩;have n0_:=am' (blk_below (g:=gb140) (o := .cells #[.int .i64 a0_0, .int .i64 a0_1] 40 (0,0)) (by (with_reducible repeat (first|refine kn' ?_ _|refine kd' ?_|refine ka' ?_ _));exact BK140.out) hb);have n1_:=am' (below_step (by repeat (first|(with_reducible first|exact HB.out|apply ba'|apply bd'|apply be'|refine bs' ?_ GE140.out)|exact HB.out)) hb);clear BK140;clear HB;have BK140:=n0_;have HB:=n1_;clear n0_ n1_;(try clear hb);(try clear hb2);(try clear hk);(try clear hi);have hcz13_0:w12.cell? ⟨gb140,0,none⟩=some (.int .i64 a0_0):=(blk_cell BK140.out 0).trans rfl;have hcz13_1:w12.cell? ⟨gb140,1,none⟩=some (.int .i64 a0_1):=(blk_cell BK140.out 1).trans rfl;have hfz13_0:=blk_frozen BK140.out 0;have hfz13_1:=blk_frozen BK140.out 1)|((with_reducible refine gate_callee (f:=76) rfl ?_);refine goesL_ (some 16) rfl rfl Try.func76 (by kernel_rfl) rfl #[.agg #[.int .i64 a0_0, .int .i64 a0_1], .slice A1 l1.length c1] rfl (by (try simp only[List.map_toArray,List.map_cons,List.map_nil]);first|done|rfl|(simp only[List.length_drop,List.length_take];rfl)) ?_;(with_reducible refine (spec_cuPlan.calls k a0_0 a0_1 _ _ l1 t142 _ ?side1 ?side2 A9.out).mono ?_);(case side1=>repeat (first|exact (Kd.C_below HR1.out HB.out)|(with_reducible refine ca' ?_ _)|(with_reducible refine cn' ?_ _)|(with_reducible refine cd' ?_)));(case side2=>exact HC1.out);rintro e w14 ⟨rfl,hb⟩;refine ⟨_,rfl,?_⟩;have n0_:=am' (blk_below (g:=gb140) (o := .cells #[.int .i64 a0_0, .int .i64 a0_1] 40 (0,0)) (by (with_reducible repeat (first|refine kn' ?_ _|refine kd' ?_|refine ka' ?_ _));exact BK140.out) hb);have n1_:=am' (below_step (by repeat (first|(with_reducible first|exact HB.out|apply ba'|apply bd'|apply be'|refine bs' ?_ GE140.out)|exact HB.out)) hb);clear BK140;clear HB;have BK140:=n0_;have HB:=n1_;clear n0_ n1_;(try clear hb);(try clear hb2);(try clear hk);(try clear hi)))
   go_ret2
   exact ⟨by first|rfl|(simp[errW_none,errW_some] <;> rfl)|(simp[*,errW_none,errW_some] <;> rfl),by repeat (first|(with_reducible first|exact HB.out|apply ba'|apply bd'|apply be'|refine bs' ?_ GE140.out)|exact HB.out)⟩
 ·
  replace c4:=Bool.eq_false_iff.mpr c4;subst c4;have H1:(some (false,false))=some (r1,r2):=by rw[if_neg (show ¬ (false=true) by decide)] at H;exact H
  clear H;have H:=H1;clear H1;simp only[Option.some.injEq,Prod.mk.injEq] at H;obtain ⟨rfl,rfl⟩:=H;go_enter Try.func29,Try.ntmps29;go_wp2_with (first|((with_reducible refine gate_dst (N:=2) rfl ?_);(try (refine gate_guard (by rfl) ?_;dsimp only));refine box_event ?hg (N:=2) ?hd (cs:=#[.int .i64 a0_0, .int .i64 a0_1]) (t:=40) ?hr ?_;(case hd=>rfl);(case hg=>rfl);(case hr=>first|(go_simp;done)|(go_simp;rfl));intro gb140 hg w15 hbox hb;have n0_:=am' (below_step (by repeat (first|(with_reducible first|exact HB.out|apply ba'|apply bd'|apply be')|exact HB.out)) hb);have n1_:=am' (hbox);have n2_:=am' ((by rw[hg];exact (below_size (by repeat (first|(with_reducible first|exact HB.out|apply ba'|apply bd'|apply be')|exact HB.out))):w.heap.size≤gb140));have n3_:=am' ((by rw[hg];exact (below_size (by repeat (first|(with_reducible first|exact HB.out|apply ba'|apply bd'|apply be')|exact HB.out))):w.heap.size≤gb140));clear HB;have HB:=n0_;have BK140:=n1_;have GW140:=n2_;have GE140:=n3_;clear n0_ n1_ n2_ n3_;clear hb hbox hg;have hcz16_0:w15.cell? ⟨gb140,0,none⟩=some (.int .i64 a0_0):=(blk_cell BK140.out 0).trans rfl;have hcz16_1:w15.cell? ⟨gb140,1,none⟩=some (.int .i64 a0_1):=(blk_cell BK140.out 1).trans rfl;have hfz16_0:=blk_frozen BK140.out 0;have hfz16_1:=blk_frozen BK140.out 1)|((with_reducible refine gate_callee (f:=75) rfl ?_);refine goesL_ (some 7) rfl rfl Try.func75 (by kernel_rfl) rfl #[.agg #[.int .i64 a0_0, .int .i64 a0_1]] rfl (by (try simp only[List.map_toArray,List.map_cons,List.map_nil]);first|done|rfl|(simp only[List.length_drop,List.length_take];rfl)) ?_;(with_reducible refine (spec_cuGood.calls a0_0 a0_1 false _ A3.out).mono ?_);rintro e w17 ⟨rfl,hb⟩;refine ⟨_,rfl,?_⟩;have n0_:=am' (blk_below (g:=gb140) (o := .cells #[.int .i64 a0_0, .int .i64 a0_1] 40 (0,0)) (by (with_reducible repeat (first|refine kn' ?_ _|refine kd' ?_|refine ka' ?_ _));exact BK140.out) hb);have n1_:=am' (below_step (by repeat (first|(with_reducible first|exact HB.out|apply ba'|apply bd'|apply be'|refine bs' ?_ GE140.out)|exact HB.out)) hb);clear BK140;clear HB;have BK140:=n0_;have HB:=n1_;clear n0_ n1_;(try clear hb);(try clear hb2);(try clear hk);(try clear hi)));go_ret2
  exact ⟨by first|rfl|(simp[errW_none,errW_some] <;> rfl)|(simp[*,errW_none,errW_some] <;> rfl),by repeat (first|(with_reducible first|exact HB.out|apply ba'|apply bd'|apply be'|refine bs' ?_ GE140.out)|exact HB.out)⟩
def laws_toCompany.f (a0_0:Int) (a0_1:Int):Option (Int × Int):=some (a0_0,a0_1)
set_option maxHeartbeats 8000000 in
set_option maxRecDepth 100000 in
theorem laws_toCompany.calls (a0_0:Int) (a0_1:Int) (r1:Int) (r2:Int) (w:World) (h:laws_toCompany.f a0_0 a0_1=some (r1,r2)) :
  Calls Try.prog 30 #[.agg #[.int .i64 a0_0, .int .i64 a0_1]] w fun e w'=>e = .returned (.agg #[.int .i64 r1, .int .i64 r2])∧Below w.heap.size w w':=by
 have hu37:=Try.underlying37
 have hu40:=Try.underlying40
 have HB:=am' (Below.refl w.heap.size w)
 have H:(some (a0_0,a0_1))=some (r1,r2):=h
 clear h;simp only[Option.some.injEq,Prod.mk.injEq] at H
 obtain ⟨rfl,rfl⟩:=H
 go_enter Try.func30,Try.ntmps30
 go_wp2_with (first|((with_reducible refine gate_dst (N:=1) rfl ?_);refine box_event ?hg (N:=1) ?hd (cs:=#[.int .i64 a0_0, .int .i64 a0_1]) (t:=37) ?hr ?_;(case hd=>rfl);(case hg=>rfl);(case hr=>first|(go_simp;done)|(go_simp;rfl));intro gb143 hg w2 hbox hb;have n0_:=am' (below_step (by repeat (first|(with_reducible first|exact HB.out|apply ba'|apply bd'|apply be')|exact HB.out)) hb);have n1_:=am' (hbox);have n2_:=am' ((by rw[hg];exact (below_size (by repeat (first|(with_reducible first|exact HB.out|apply ba'|apply bd'|apply be')|exact HB.out))):w.heap.size≤gb143));have n3_:=am' ((by rw[hg];exact (below_size (by repeat (first|(with_reducible first|exact HB.out|apply ba'|apply bd'|apply be')|exact HB.out))):w.heap.size≤gb143));clear HB;have HB:=n0_;have BK143:=n1_;have GW143:=n2_;have GE143:=n3_;clear n0_ n1_ n2_ n3_;clear hb hbox hg)|((with_reducible refine gate_dst (N:=2) rfl ?_);refine box_event ?hg (N:=2) ?hd (cs:=#[.int .i64 0, .int .i64 0]) (t:=40) ?hr ?_;(case hd=>rfl);(case hg=>rfl);(case hr=>first|(go_simp;done)|(go_simp;rfl));intro gb144 hg w3 hbox hb;have n0_:=am' (blk_below (g:=gb143) (o := .cells #[.int .i64 a0_0, .int .i64 a0_1] 37 (0,0)) (by (with_reducible repeat (first|refine kn' ?_ _|refine kd' ?_|refine ka' ?_ _));exact BK143.out) hb);have n1_:=am' (below_step (by repeat (first|(with_reducible first|exact HB.out|apply ba'|apply bd'|apply be'|refine bs' ?_ GE143.out)|exact HB.out)) hb);have n2_:=am' (hbox);have n3_:=am' ((by rw[hg];exact (below_size (by repeat (first|(with_reducible first|exact HB.out|apply ba'|apply bd'|apply be'|refine bs' ?_ GE143.out)|exact HB.out))):w.heap.size≤gb144));have n4_:=am' ((by rw[hg];exact (below_size (by repeat (first|(with_reducible first|exact HB.out|apply ba'|apply bd'|apply be'|refine bs' ?_ GE143.out)|exact HB.out))):w.heap.size≤gb144));have n5_:=am' ((by rw[hg];exact Nat.ne_of_lt (blk_lt (g:=gb143) (o := .cells #[.int .i64 a0_0, .int .i64 a0_1] 37 (0,0)) (by (with_reducible repeat (first|refine kn' ?_ _|refine kd' ?_|refine ka' ?_ _));exact BK143.out)):gb143≠gb144));have n6_:=am' ((by rw[hg];exact Nat.ne_of_gt (blk_lt (g:=gb143) (o := .cells #[.int .i64 a0_0, .int .i64 a0_1] 37 (0,0)) (by (with_reducible repeat (first|refine kn' ?_ _|refine kd' ?_|refine ka' ?_ _));exact BK143.out)):gb144≠gb143));clear BK143;clear HB;have BK143:=n0_;have HB:=n1_;have BK144:=n2_;have GW144:=n3_;have GE144:=n4_;have NB143_144:=n5_;have NB144_143:=n6_;clear n0_ n1_ n2_ n3_ n4_ n5_ n6_;clear hb hbox hg)|((with_reducible refine gate_dst (N:=3) rfl ?_);refine box_event ?hg (N:=3) ?hd (cs:=#[.int .i64 0, .int .i64 0]) (t:=40) ?hr ?_;(case hd=>rfl);(case hg=>rfl);(case hr=>first|(go_simp;done)|(go_simp;rfl));intro gb145 hg w4 hbox hb;have n0_:=am' (blk_below (g:=gb143) (o := .cells #[.int .i64 a0_0, .int .i64 a0_1] 37 (0,0)) (by (with_reducible repeat (first|refine kn' ?_ _|refine kd' ?_|refine ka' ?_ _));exact BK143.out) hb);have n1_:=am' (blk_below (g:=gb144) (o := .cells #[.int .i64 0, .int .i64 0] 40 (0,0)) (by (with_reducible repeat (first|refine kn' ?_ _|refine kd' ?_|refine ka' ?_ _));exact BK144.out) hb);have n2_:=am' (below_step (by repeat (first|(with_reducible first|exact HB.out|apply ba'|apply bd'|apply be'|refine bs' ?_ GE143.out|refine bs' ?_ GE144.out)|exact HB.out)) hb);have n3_:=am' (hbox);have n4_:=am' ((by rw[hg];exact (below_size (by repeat (first|(with_reducible first|exact HB.out|apply ba'|apply bd'|apply be'|refine bs' ?_ GE143.out|refine bs' ?_ GE144.out)|exact HB.out))):w.heap.size≤gb145));have n5_:=am' ((by rw[hg];exact (below_size (by repeat (first|(with_reducible first|exact HB.out|apply ba'|apply bd'|apply be'|refine bs' ?_ GE143.out|refine bs' ?_ GE144.out)|exact HB.out))):w.heap.size≤gb145));have n6_:=am' ((by rw[hg];exact Nat.ne_of_lt (blk_lt (g:=gb143) (o := .cells #[.int .i64 a0_0, .int .i64 a0_1] 37 (0,0)) (by (with_reducible repeat (first|refine kn' ?_ _|refine kd' ?_|refine ka' ?_ _));exact BK143.out)):gb143≠gb145));have n7_:=am' ((by rw[hg];exact Nat.ne_of_gt (blk_lt (g:=gb143) (o := .cells #[.int .i64 a0_0, .int .i64 a0_1] 37 (0,0)) (by (with_reducible repeat (first|refine kn' ?_ _|refine kd' ?_|refine ka' ?_ _));exact BK143.out)):gb145≠gb143));have n8_:=am' ((by rw[hg];exact Nat.ne_of_lt (blk_lt (g:=gb144) (o := .cells #[.int .i64 0, .int .i64 0] 40 (0,0)) (by (with_reducible repeat (first|refine kn' ?_ _|refine kd' ?_|refine ka' ?_ _));exact BK144.out)):gb144≠gb145));have n9_:=am' ((by rw[hg];exact Nat.ne_of_gt (blk_lt (g:=gb144) (o := .cells #[.int .i64 0, .int .i64 0] 40 (0,0)) (by (with_reducible repeat (first|refine kn' ?_ _|refine kd' ?_|refine ka' ?_ _));exact BK144.out)):gb145≠gb144));clear BK143;clear BK144;clear HB;have BK143:=n0_;have BK144:=n1_;have HB:=n2_;have BK145:=n3_;have GW145:=n4_;have GE145:=n5_;have NB143_145:=n6_;have NB145_143:=n7_;have NB144_145:=n8_;have NB145_144:=n9_;clear n0_ n1_ n2_ n3_ n4_ n5_ n6_ n7_ n8_ n9_;clear hb hbox hg;have hnb5:=NB143_144.out;have hnc5:=NB144_143.out;have hnb6:=NB143_145.out;have hnc6:=NB145_143.out;have hcz7_0:w4.cell? ⟨gb143,0,none⟩=some (.int .i64 a0_0):=(blk_cell BK143.out 0).trans rfl;have hcz7_1:w4.cell? ⟨gb143,1,none⟩=some (.int .i64 a0_1):=(blk_cell BK143.out 1).trans rfl;have hfz7_0:=blk_frozen BK143.out 0;have hfz7_1:=blk_frozen BK143.out 1;have hnb8:=NB145_144.out;have hnc8:=NB144_145.out;have hcz9_0:w4.cell? ⟨gb145,0,none⟩=some (.int .i64 0):=(blk_cell BK145.out 0).trans rfl;have hcz9_1:w4.cell? ⟨gb145,1,none⟩=some (.int .i64 0):=(blk_cell BK145.out 1).trans rfl;have hfz9_0:=blk_frozen BK145.out 0;have hfz9_1:=blk_frozen BK145.out 1;have hcz10_0:w4.cell? ⟨gb144,0,none⟩=some (.int .i64 0):=(blk_cell BK144.out 0).trans rfl;have hcz10_1:w4.cell? ⟨gb144,1,none⟩=some (.int .i64 0):=(blk_cell BK144.out 1).trans rfl;have hfz10_0:=blk_frozen BK144.out 0;have hfz10_1:=blk_frozen BK144.out 1))
 refine bodyPost_ret (results_cell_row rfl _ _ gb144 40 #[.int .i64 a0_0, .int .i64 a0_1] (0,0) _ rfl (by (with_reducible repeat (first|refine kn' ?_ _|refine kd' ?_|refine ka' ?_ _));refine blk_put (cs:=#[.int .i64 a0_0, .int .i64 0]) ?_ 1 _ rfl;(with_reducible repeat (first|refine kn' ?_ _|refine kd' ?_|refine ka' ?_ _));refine blk_put (cs:=#[.int .i64 0, .int .i64 0]) ?_ 0 _ rfl;(with_reducible repeat (first|refine kn' ?_ _|refine kd' ?_|refine ka' ?_ _));refine blk_far ?_ NB144_145.out _;(with_reducible repeat (first|refine kn' ?_ _|refine kd' ?_|refine ka' ?_ _));refine blk_far ?_ NB144_145.out _;(with_reducible repeat (first|refine kn' ?_ _|refine kd' ?_|refine ka' ?_ _));exact BK144.out) Try.underlying40 rfl (by kernel_rfl)) rfl ?_
 exact ⟨by first|rfl|(simp[errW_none,errW_some] <;> rfl)|(simp[*,errW_none,errW_some] <;> rfl),by repeat (first|(with_reducible first|exact HB.out|apply ba'|apply bd'|apply be'|refine bs' ?_ GE143.out|refine bs' ?_ GE144.out|refine bs' ?_ GE145.out)|exact HB.out)⟩
end Go.Proofs.Ytibdeohiimjocaa.C12
