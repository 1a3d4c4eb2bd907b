import Derived.Test.YtibdeohiimjocaaC19zx0
import Derived.Test.YtibdeohiimjocaaC19zx1
import Derived.Test.YtibdeohiimjocaaC19zx2
import Derived.Test.YtibdeohiimjocaaC19zx5
import Derived.Test.YtibdeohiimjocaaC19zx6
import Derived.Test.YtibdeohiimjocaaC19zAl
namespace Go.Proofs.Ytibdeohiimjocaa.C19
open Go.RowKit Go.Proofs.YtibdeohiimjocaaW.PrintWords Go.Proofs.YtibdeohiimjocaaW.PrintLast Go.Proofs.YtibdeohiimjocaaW.PrintMore Go.Proofs.Ytibdeohiimjocaa.H
attribute [local go_sem] max2_int min2_int max_two min_two max_three min_three max_four min_four
set_option linter.unusedVariables false
set_option linter.unusedSimpArgs false
mutual
def spec_FirstRows.l0:Nat→List Int→List (List Int)→Int→Int→Int→Option ((List (List Int)) × Bool)
 | 0,_,_,_,_,_=>none
 | k+1,x4,x6,x7,x223000,x223001=>if 0≤x7 then (if x7 < (x4.length:Int) then (if (rd x4 x7) > 0 then ((spec_cuRows.f k x223000 x223001 x7).bind fun t233=>(spec_FirstRows.l1 k x4 x6 x7 t233 (t233.length:Int) 0 x223000 x223001)) else (some (x6,true))) else (none)) else (none)
def spec_FirstRows.l1:Nat→List Int→List (List Int)→Int→List Int→Int→Int→Int→Int→Option ((List (List Int)) × Bool)
 | 0,_,_,_,_,_,_,_,_=>none
 | k+1,x4,x6,x7,x34,x35,x36,x223000,x223001=>if x36 < x35 then (if 0≤x36 then (if x36 < (x34.length:Int) then (if 0≤(Go.bits .xor .i64 x7 (wrap64 ((wrap64 (2 * (rd x34 x36)))+1))) then (if (Go.bits .xor .i64 x7 (wrap64 ((wrap64 (2 * (rd x34 x36)))+1))) < (x4.length:Int) then (if 0≤x7 then (if x7 < (x4.length:Int) then (if (rd x4 (Go.bits .xor .i64 x7 (wrap64 ((wrap64 (2 * (rd x34 x36)))+1))))=(wrap64 ((rd x4 x7) - 1)) then ((spec_cuList.f k (rd x34 x36)).bind fun t239=>(if x6.length < 5864062014805 then (spec_FirstRows.l0 k x4 (x6 ++ [t239]) (Go.bits .xor .i64 x7 (wrap64 ((wrap64 (2 * (rd x34 x36)))+1))) x223000 x223001) else (none))) else (spec_FirstRows.l1 k x4 x6 x7 x34 x35 (wrap64 (x36+1)) x223000 x223001)) else (none)) else (none)) else (none)) else (none)) else (none)) else (none)) else (spec_FirstRows.l0 k x4 x6 x7 x223000 x223001)
end
def spec_FirstRows.f (k:Nat) (a0_0:Int) (a0_1:Int):Option ((List (List Int)) × Bool):=(spec_cuGood.f a0_0 a0_1).bind fun t223=>(if t223=true then ((spec_cuSize.f a0_0 a0_1).bind fun t224=>((spec_cuFar.f k a0_0 a0_1 (wrap64 ((wrap64 (2 * t224)) - 1))).bind fun bt225=>(if 0 < (bt225.1.length:Int) then (if (rd bt225.1 0) < 0 then (some (([]:List (List Int)),false)) else (spec_FirstRows.l0 k bt225.1 ([]:List (List Int)) 0 a0_0 a0_1)) else (none)))) else (some (([]:List (List Int)),false)))
theorem spec_FirstRows.mono_l:∀ k,(∀ y0 y1 y2 y3 y4,LeO (spec_FirstRows.l0 k y0 y1 y2 y3 y4) (spec_FirstRows.l0 (k+1) y0 y1 y2 y3 y4))∧(∀ y0 y1 y2 y3 y4 y5 y6 y7,LeO (spec_FirstRows.l1 k y0 y1 y2 y3 y4 y5 y6 y7) (spec_FirstRows.l1 (k+1) y0 y1 y2 y3 y4 y5 y6 y7))
 | 0=>⟨fun _ _ _ _ _ r h=>by simp[spec_FirstRows.l0] at h,fun _ _ _ _ _ _ _ _ r h=>by simp[spec_FirstRows.l1] at h⟩
 | k+1=>by
  obtain ⟨ih0,ih1⟩:=spec_FirstRows.mono_l k;refine ⟨?_,?_⟩
  ·
   intro y0 y1 y2 y3 y4;unfold spec_FirstRows.l0
   repeat' first
   | (with_reducible exact ih0 _ _ _ _ _)
   | (with_reducible exact ih1 _ _ _ _ _ _ _ _)
   | (with_reducible exact spec_cuFar.mono _ _ _ _)
   | (with_reducible exact spec_cuList.mono _ _)
   | (with_reducible exact spec_cuRows.mono _ _ _ _)
   | (with_reducible exact LeO.refl _)
   | (with_reducible exact LeO.none _)
   | (with_reducible refine LeO.ite ?_ ?_)
   | (with_reducible refine LeO.bind ?_ (fun _=>?_))
   | exact ih0 _ _ _ _ _
   | exact ih1 _ _ _ _ _ _ _ _
   | exact spec_cuFar.mono _ _ _ _
   | exact spec_cuList.mono _ _
   | exact spec_cuRows.mono _ _ _ _
   | exact LeO.none _
   | refine LeO.ite ?_ ?_
   | refine LeO.bind ?_ (fun _=>?_)
  ·
   intro y0 y1 y2 y3 y4 y5 y6 y7;unfold spec_FirstRows.l1
   repeat' first
   | (with_reducible exact ih0 _ _ _ _ _)
   | (with_reducible exact ih1 _ _ _ _ _ _ _ _)
   | (with_reducible exact spec_cuFar.mono _ _ _ _)
   | (with_reducible exact spec_cuList.mono _ _)
   | (with_reducible exact spec_cuRows.mono _ _ _ _)
   | (with_reducible exact LeO.refl _)
   | (with_reducible exact LeO.none _)
   | (with_reducible refine LeO.ite ?_ ?_)
   | (with_reducible refine LeO.bind ?_ (fun _=>?_))
   | exact ih0 _ _ _ _ _
   | exact ih1 _ _ _ _ _ _ _ _
   | exact spec_cuFar.mono _ _ _ _
   | exact spec_cuList.mono _ _
   | exact spec_cuRows.mono _ _ _ _
   | exact LeO.none _
   | refine LeO.ite ?_ ?_
   | refine LeO.bind ?_ (fun _=>?_)
def spec_FirstRows.T3:Bool × List (List Nat × List Nat):=(true,[([],[]),([],[]),([1],[1]),([2],[2]),([3],[3]),([0,4,2],[0,4]),([5],[5]),([6],[6]),([6],[6]),([7,5,0,1,2,3,4,5,6,7],[7]),([8,9,0,1,2,3,4,5,6,7,8,9],[8])])
def spec_FirstRows.B3:List Nat:=[0,0,2,6,14,31,63,127,127,255,1023]
theorem spec_FirstRows.tab3:rtab .any (opsOf Try.f55 3)=spec_FirstRows.T3:=by kernel_rfl
theorem spec_FirstRows.bits3:waitsOk spec_FirstRows.T3.2 spec_FirstRows.B3=true:=by kernel_rfl
def spec_FirstRows.T13:Bool × List (List Nat × List Nat):=(true,[([],[]),([],[]),([0,1],[0,1]),([2],[2]),([],[]),([],[]),([4,5],[4,5]),([6],[6]),([7],[7]),([3,8],[3,8])])
def spec_FirstRows.B13:List Nat:=[0,0,3,7,0,0,48,112,240,511]
theorem spec_FirstRows.tab13:rtab .any (opsOf Try.f55 13)=spec_FirstRows.T13:=by kernel_rfl
theorem spec_FirstRows.bits13:waitsOk spec_FirstRows.T13.2 spec_FirstRows.B13=true:=by kernel_rfl
set_option maxHeartbeats 8000000 in
set_option maxRecDepth 100000 in
theorem spec_FirstRows.calls (k:Nat) (a0_0:Int) (a0_1:Int) (r1:List (List Int)) (r2:Bool) (w:World) (h:spec_FirstRows.f k a0_0 a0_1=some (r1,r2)) :
  Calls Try.prog 55 #[.agg #[.int .i64 a0_0, .int .i64 a0_1]] w fun e w'=>∃ v0_:Value,e = .returned (.tuple #[v0_, .bool r2])∧Kd.S (Kd.slice 3 (Kd.int .i64)) 32 w' w.heap.size (fun _=>True) v0_ r1∧Below w.heap.size w w':=by
 have hu40:=Try.underlying40
 have HB:=am' (Below.refl w.heap.size w)
 have H:((spec_cuGood.f a0_0 a0_1).bind fun t223=>(if t223=true then ((spec_cuSize.f a0_0 a0_1).bind fun t224=>((spec_cuFar.f k a0_0 a0_1 (wrap64 ((wrap64 (2 * t224)) - 1))).bind fun bt225=>(if 0 < (bt225.1.length:Int) then (if (rd bt225.1 0) < 0 then (some (([]:List (List Int)),false)) else (spec_FirstRows.l0 k bt225.1 ([]:List (List Int)) 0 a0_0 a0_1)) else (none)))) else (some (([]:List (List Int)),false))))=some (r1,r2):=h
 clear h;replace H:=Option.bind_eq_some_iff.mp H
 obtain ⟨t223,A20,H⟩:=H
 replace H:(if t223=true then ((spec_cuSize.f a0_0 a0_1).bind fun t224=>((spec_cuFar.f k a0_0 a0_1 (wrap64 ((wrap64 (2 * t224)) - 1))).bind fun bt225=>(if 0 < (bt225.1.length:Int) then (if (rd bt225.1 0) < 0 then (some (([]:List (List Int)),false)) else (spec_FirstRows.l0 k bt225.1 ([]:List (List Int)) 0 a0_0 a0_1)) else (none)))) else (some (([]:List (List Int)),false)))=some (r1,r2):=H
 have A2:=am' A20
 clear A20;by_cases c3:t223=true
 ·
  subst c3;have H1:((spec_cuSize.f a0_0 a0_1).bind fun t224=>((spec_cuFar.f k a0_0 a0_1 (wrap64 ((wrap64 (2 * t224)) - 1))).bind fun bt225=>(if 0 < (bt225.1.length:Int) then (if (rd bt225.1 0) < 0 then (some (([]:List (List Int)),false)) else (spec_FirstRows.l0 k bt225.1 ([]:List (List Int)) 0 a0_0 a0_1)) else (none))))=some (r1,r2):=by rw[if_pos rfl] at H;exact H
  clear H;have H:=H1;clear H1;replace H:=Option.bind_eq_some_iff.mp H;obtain ⟨t224,A40,H⟩:=H;replace H:((spec_cuFar.f k a0_0 a0_1 (wrap64 ((wrap64 (2 * t224)) - 1))).bind fun bt225=>(if 0 < (bt225.1.length:Int) then (if (rd bt225.1 0) < 0 then (some (([]:List (List Int)),false)) else (spec_FirstRows.l0 k bt225.1 ([]:List (List Int)) 0 a0_0 a0_1)) else (none)))=some (r1,r2):=H;have A4:=am' A40;clear A40;replace H:=Option.bind_eq_some_iff.mp H;obtain ⟨⟨t225,t228⟩,A50,H⟩:=H;replace H:(if 0 < (t225.length:Int) then (if (rd t225 0) < 0 then (some (([]:List (List Int)),false)) else (spec_FirstRows.l0 k t225 ([]:List (List Int)) 0 a0_0 a0_1)) else (none))=some (r1,r2):=H;have A5:=am' A50;clear A50;by_cases c6:0 < (t225.length:Int)
  ·
   rw[if_pos c6] at H;have c6b0:decide (0 < (t225.length:Int))=true:=decide_eq_true c6;have c6b1:decide (0 < t225.length)=true:=decide_eq_true (by omega);clear c6;by_cases c7:(rd t225 0) < 0
   ·
    rw[if_pos c7] at H;have c7b0:decide ((rd t225 0) < 0)=true:=decide_eq_true c7;clear c7;simp only[Option.some.injEq,Prod.mk.injEq] at H;obtain ⟨rfl,rfl⟩:=H;go_enter Try.func55,Try.ntmps55
    try go_wp2_with (first|((with_reducible refine gate_dst (N:=1) rfl ?_);refine box_event ?hg (N:=1) ?hd (cs:=#[.int .i64 a0_0, .int .i64 a0_1]) (t:=40) ?hr ?_;(case hd=>rfl);(case hg=>rfl);(case hr=>first|(go_simp;done)|(go_simp;rfl));intro gb222 hg w8 hbox hb;have n0_:=am' (below_step (by repeat (first|(with_reducible first|exact HB.out|apply ba'|apply bd'|apply be')|exact HB.out)) hb);have n1_:=am' (hbox);have n2_:=am' ((by rw[hg];exact (below_size (by repeat (first|(with_reducible first|exact HB.out|apply ba'|apply bd'|apply be')|exact HB.out))):w.heap.size≤gb222));have n3_:=am' ((by rw[hg];exact (below_size (by repeat (first|(with_reducible first|exact HB.out|apply ba'|apply bd'|apply be')|exact HB.out))):w.heap.size≤gb222));clear HB;have HB:=n0_;have BK222:=n1_;have GW222:=n2_;have GE222:=n3_;clear n0_ n1_ n2_ n3_;clear hb hbox hg;have hcz9_0:w8.cell? ⟨gb222,0,none⟩=some (.int .i64 a0_0):=(blk_cell BK222.out 0).trans rfl;have hcz9_1:w8.cell? ⟨gb222,1,none⟩=some (.int .i64 a0_1):=(blk_cell BK222.out 1).trans rfl;have hfz9_0:=blk_frozen BK222.out 0;have hfz9_1:=blk_frozen BK222.out 1)|((with_reducible refine gate_callee (f:=75) rfl ?_);refine goesL_ (some 12) rfl rfl Try.func75 (by kernel_rfl) rfl #[.agg #[.int .i64 a0_0, .int .i64 a0_1]] rfl (by (try simp only[List.map_toArray,List.map_cons,List.map_nil]);first|done|rfl|(simp only[List.length_drop,List.length_take];rfl)) ?_;(with_reducible refine (spec_cuGood.calls a0_0 a0_1 true _ A2.out).mono ?_);rintro e w10 ⟨rfl,hb⟩;refine ⟨_,rfl,?_⟩;have n0_:=am' (blk_below (g:=gb222) (o := .cells #[.int .i64 a0_0, .int .i64 a0_1] 40 (0,0)) (by (with_reducible repeat (first|refine kn' ?_ _|refine kd' ?_|refine ka' ?_ _));exact BK222.out) hb);have n1_:=am' (below_step (by repeat (first|(with_reducible first|exact HB.out|apply ba'|apply bd'|apply be'|refine bs' ?_ GE222.out)|exact HB.out)) hb);clear BK222;clear HB;have BK222:=n0_;have HB:=n1_;clear n0_ n1_;(try clear hb);(try clear hb2);(try clear hk);(try clear hi)))
    have n0_:=am' (kd' BK222.out);have n1_:=am' (be' HB.out);clear BK222;clear HB;have BK222:=n0_;have HB:=n1_;clear n0_ n1_;refine start_ (n:=11) (S:=fun w'=>w'.cell? ⟨gb222,0,none⟩=some (.int .i64 a0_0)∧w'.cell? ⟨gb222,1,none⟩=some (.int .i64 a0_1)) (ds:=[]) #[false,false,false,false,false,false,false,false,false,false,false] (by kernel_rfl) rfl rfl ⟨(blk_cell BK222.out 0).trans rfl,(blk_cell BK222.out 1).trans rfl⟩ (fun hHeld=>?_);refine with_tabW spec_FirstRows.tab3 spec_FirstRows.bits3 (fun HT_ HW_=>?_);generalize w10.drew=w11 at BK222 HB hHeld ⊢
    refine take_ (i:=0) (N:=some 15) (v:=?_) (a':=?_) #[true,false,false,false,false,false,false,false,false,false,false] rfl rfl (take_ofW HT_.out HW_.out (by kernel_rfl)) (fun _ _ _ h=>h) (Or.inl ⟨by rfl,?_⟩) hHeld ?_ ?_
    rotate_left
    ·
     rintro w' ⟨s0,s1⟩
     go_simp;with_reducible rfl
    rotate_left
    ·
     simp only[Act.put,sa',sb',sc',i64_w,i32_w];rfl
    refine take_ (i:=1) (N:=some 16) (v:=?_) (a':=?_) #[true,true,false,false,false,false,false,false,false,false,false] rfl rfl (take_ofW HT_.out HW_.out (by kernel_rfl)) (fun _ _ _ h=>h) (Or.inl ⟨by rfl,?_⟩) hHeld ?_ ?_
    rotate_left
    ·
     rintro w' ⟨s0,s1⟩
     go_simp;with_reducible rfl
    rotate_left
    ·
     simp only[Act.put,sa',sb',sc',i64_w,i32_w];rfl
    refine one_ (i:=2) (N:=some 17) #[true,true,true,false,false,false,false,false,false,false,false] rfl rfl (one_of HT_.out (by kernel_rfl)) (by decide) (fun K hK=>?_);refine goes_ Try.func105 (by kernel_rfl) rfl #[.agg #[.int .i64 a0_0, .int .i64 a0_1]] (by rfl) rfl rfl (by (try simp only[List.map_toArray,List.map_cons,List.map_nil]);first|done|rfl|(simp only[List.length_drop,List.length_take];rfl)) ?_
    with_reducible refine (spec_cuSize.calls a0_0 a0_1 t224 _ A4.out).mono ?_
    rintro e w12 ⟨rfl,hb⟩
    refine ⟨_,rfl,?_⟩;have n0_:=am' (blk_below (g:=gb222) (o := .cells #[.int .i64 a0_0, .int .i64 a0_1] 40 (0,0)) (by (with_reducible repeat (first|refine kn' ?_ _|refine kd' ?_|refine ka' ?_ _));exact BK222.out) hb);have n1_:=am' (below_step (by repeat (first|(with_reducible first|exact HB.out|apply ba'|apply bd'|apply be'|refine bs' ?_ GE222.out)|exact HB.out)) hb);clear BK222;clear HB;have BK222:=n0_;have HB:=n1_;clear n0_ n1_;(try clear hb)
    (try clear hb2)
    (try clear hk)
    (try clear hi)
    refine hK.out _ _ ⟨(blk_cell BK222.out 0).trans rfl,(blk_cell BK222.out 1).trans rfl⟩ (fun hHeld=>?_);clear hK K;refine norm_ (a':=?_) ?_ ?_
    rotate_left
    ·
     show Act.put _ (some 17) _=_
     simp only[Act.put,sa',sb',sc',i64_w,i32_w];rfl
    refine pure_ (i:=3) (N:=some 18) (v:=?_) (a':=?_) #[true,true,true,true,false,false,false,false,false,false,false] rfl rfl (any_of HT_.out (by kernel_rfl)) (fun _ _ _ h=>h) (Or.inl ⟨by rfl,?_⟩) ?_ ?_
    rotate_left
    ·
     intro w';go_simp;with_reducible rfl
    rotate_left
    ·
     simp only[Act.put,sa',sb',sc',i64_w,i32_w];rfl
    refine pure_ (i:=4) (N:=some 19) (v:=?_) (a':=?_) #[true,true,true,true,true,false,false,false,false,false,false] rfl rfl (any_of HT_.out (by kernel_rfl)) (fun _ _ _ h=>h) (Or.inl ⟨by rfl,?_⟩) ?_ ?_
    rotate_left
    ·
     intro w';go_simp;with_reducible rfl
    rotate_left
    ·
     simp only[Act.put,sa',sb',sc',i64_w,i32_w];rfl
    refine one_ (i:=5) (N:=some 20) #[true,true,true,true,true,true,false,false,false,false,false] rfl rfl (one_of HT_.out (by kernel_rfl)) (by decide) (fun K hK=>?_);refine goes_ Try.func79 (by kernel_rfl) rfl #[.agg #[.int .i64 a0_0, .int .i64 a0_1], .int .i64 (wrap64 ((wrap64 (2 * t224)) - 1))] (by rfl) rfl rfl (by (try simp only[List.map_toArray,List.map_cons,List.map_nil]);first|done|rfl|(simp only[List.length_drop,List.length_take];rfl)) ?_
    with_reducible refine (spec_cuFar.calls k a0_0 a0_1 (wrap64 ((wrap64 (2 * t224)) - 1)) t225 t228 _ A5.out).mono ?_
    rintro e w13 ⟨v226,v229,rfl,ho0,ho1,hb⟩
    refine ⟨_,rfl,?_⟩;have n0_:=am' (Kd.R_lower ho0 (below_size (by repeat (first|(with_reducible first|exact HB.out|apply ba'|apply bd'|apply be'|refine bs' ?_ GE222.out)|exact HB.out))));have n1_:=am' (Kd.R_lower ho1 (below_size (by repeat (first|(with_reducible first|exact HB.out|apply ba'|apply bd'|apply be'|refine bs' ?_ GE222.out)|exact HB.out))));have n2_:=am' (blk_below (g:=gb222) (o := .cells #[.int .i64 a0_0, .int .i64 a0_1] 40 (0,0)) (by (with_reducible repeat (first|refine kn' ?_ _|refine kd' ?_|refine ka' ?_ _));exact BK222.out) hb);have n3_:=am' (below_step (by repeat (first|(with_reducible first|exact HB.out|apply ba'|apply bd'|apply be'|refine bs' ?_ GE222.out)|exact HB.out)) hb);clear BK222;clear HB;have HO227:=n0_;have HO230:=n1_;have BK222:=n2_;have HB:=n3_;clear n0_ n1_ n2_ n3_;(try clear hb)
    (try clear hb2)
    (try clear hk)
    (try clear hi)
    (try clear ho0)
    (try clear ho1)
    refine hK.out _ _ ⟨(blk_cell BK222.out 0).trans rfl,(blk_cell BK222.out 1).trans rfl⟩ (fun hHeld=>?_);clear hK K;refine norm_ (a':=?_) ?_ ?_
    rotate_left
    ·
     show Act.put _ (some 20) _=_
     simp only[Act.put,sa',sb',sc',i64_w,i32_w];rfl
    refine pure_ (i:=6) (N:=some 14) (v:=?_) (a':=?_) #[true,true,true,true,true,true,true,false,false,false,false] rfl rfl (any_of HT_.out (by kernel_rfl)) (fun _ _ _ h=>h) (Or.inl ⟨by rfl,?_⟩) ?_ ?_
    rotate_left
    ·
     intro w';go_simp;with_reducible rfl
    rotate_left
    ·
     simp only[Act.put,sa',sb',sc',i64_w,i32_w];rfl
    refine pure_ (i:=7) (N:=some 21) (v:=?_) (a':=?_) #[true,true,true,true,true,true,true,true,false,false,false] rfl rfl (any_of HT_.out (by kernel_rfl)) (fun _ _ _ h=>h) (Or.inl ⟨by rfl,?_⟩) ?_ ?_
    rotate_left
    ·
     intro w';go_simp;with_reducible rfl
    rotate_left
    ·
     simp only[Act.put,sa',sb',sc',i64_w,i32_w];rfl
    refine pure_ (i:=8) (N:=some 22) (v:=?_) (a':=?_) #[true,true,true,true,true,true,true,true,true,false,false] rfl rfl (any_of HT_.out (by kernel_rfl)) (fun _ _ _ h=>h) (Or.inl ⟨by rfl,?_⟩) ?_ ?_
    rotate_left
    ·
     intro w';go_simp;with_reducible rfl
    rotate_left
    ·
     simp only[Act.put,sa',sb',sc',i64_w,i32_w];rfl
    refine pure_ (i:=9) (N:=some 4) (v:=?_) (a':=?_) #[true,true,true,true,true,true,true,true,true,true,false] rfl rfl (any_of HT_.out (by kernel_rfl)) (fun _ _ _ h=>h) (Or.inl ⟨by rfl,?_⟩) ?_ ?_
    rotate_left
    ·
     intro w';go_simp;with_reducible rfl
    rotate_left
    ·
     simp only[Act.put,sa',sb',sc',i64_w,i32_w];rfl
    refine pure_ (i:=10) (N:=some 5) (v:=?_) (a':=?_) #[true,true,true,true,true,true,true,true,true,true,true] rfl rfl (any_of HT_.out (by kernel_rfl)) (fun _ _ _ h=>h) (Or.inl ⟨by rfl,?_⟩) ?_ ?_
    rotate_left
    ·
     intro w';go_simp;with_reducible rfl
    rotate_left
    ·
     simp only[Act.put,sa',sb',sc',i64_w,i32_w];rfl
    refine done_ (done_of HT_.out (by kernel_rfl)) ?_
    obtain ⟨Ao14,co14,eo14⟩:=Kd.R_slice HO227.out;subst eo14;have p231:0≤(0:Int):=(by omega)
    have q231:0 < (t225.length:Int):=of_decide_eq_true (by first|(with_reducible assumption)|assumption);obtain ⟨ad231,e231,hx231_0⟩:=Kd.at_int (Kd.R_reads' HO227.out).2.2 0 p231 q231;cases e231;have qi231:(0 < t225.length)=True:=eq_true (by omega)
    (try rw [show ((0:Int)).toNat=0 from rfl] at hx231_0)
    (try rw [Addr.add_zero'] at hx231_0)
    replace p231:=eq_true p231;replace q231:=eq_true q231
    try go_wp2
    go_ret2
    exact ⟨_,by first|rfl|(simp[errW_none,errW_some] <;> rfl)|(simp[*,errW_none,errW_some] <;> rfl),by first|exact Kd.S_nil _ _ _ _ _|exact Kd.N_nil _ _ _ _ _|exact Kd.V_nil _ _ _ _ _|exact Kd.Q_nil _ _ _ _ _|exact Kd.R_nil _ _ _ _ _,by repeat (first|(with_reducible first|exact HB.out|apply ba'|apply bd'|apply be'|refine bs' ?_ GE222.out)|exact HB.out)⟩
   ·
    rw[if_neg c7] at H;have c7b0:decide ((rd t225 0) < 0)=false:=decide_eq_false c7;clear c7;have H':=am' H;clear H;go_enter Try.func55,Try.ntmps55
    try go_wp2_with (first|((with_reducible refine gate_dst (N:=1) rfl ?_);refine box_event ?hg (N:=1) ?hd (cs:=#[.int .i64 a0_0, .int .i64 a0_1]) (t:=40) ?hr ?_;(case hd=>rfl);(case hg=>rfl);(case hr=>first|(go_simp;done)|(go_simp;rfl));intro gb222 hg w15 hbox hb;have n0_:=am' (below_step (by repeat (first|(with_reducible first|exact HB.out|apply ba'|apply bd'|apply be')|exact HB.out)) hb);have n1_:=am' (hbox);have n2_:=am' ((by rw[hg];exact (below_size (by repeat (first|(with_reducible first|exact HB.out|apply ba'|apply bd'|apply be')|exact HB.out))):w.heap.size≤gb222));have n3_:=am' ((by rw[hg];exact (below_size (by repeat (first|(with_reducible first|exact HB.out|apply ba'|apply bd'|apply be')|exact HB.out))):w.heap.size≤gb222));clear HB;have HB:=n0_;have BK222:=n1_;have GW222:=n2_;have GE222:=n3_;clear n0_ n1_ n2_ n3_;clear hb hbox hg;have hcz16_0:w15.cell? ⟨gb222,0,none⟩=some (.int .i64 a0_0):=(blk_cell BK222.out 0).trans rfl;have hcz16_1:w15.cell? ⟨gb222,1,none⟩=some (.int .i64 a0_1):=(blk_cell BK222.out 1).trans rfl;have hfz16_0:=blk_frozen BK222.out 0;have hfz16_1:=blk_frozen BK222.out 1)|((with_reducible refine gate_callee (f:=75) rfl ?_);refine goesL_ (some 12) rfl rfl Try.func75 (by kernel_rfl) rfl #[.agg #[.int .i64 a0_0, .int .i64 a0_1]] rfl (by (try simp only[List.map_toArray,List.map_cons,List.map_nil]);first|done|rfl|(simp only[List.length_drop,List.length_take];rfl)) ?_;(with_reducible refine (spec_cuGood.calls a0_0 a0_1 true _ A2.out).mono ?_);rintro e w17 ⟨rfl,hb⟩;refine ⟨_,rfl,?_⟩;have n0_:=am' (blk_below (g:=gb222) (o := .cells #[.int .i64 a0_0, .int .i64 a0_1] 40 (0,0)) (by (with_reducible repeat (first|refine kn' ?_ _|refine kd' ?_|refine ka' ?_ _));exact BK222.out) hb);have n1_:=am' (below_step (by repeat (first|(with_reducible first|exact HB.out|apply ba'|apply bd'|apply be'|refine bs' ?_ GE222.out)|exact HB.out)) hb);clear BK222;clear HB;have BK222:=n0_;have HB:=n1_;clear n0_ n1_;(try clear hb);(try clear hb2);(try clear hk);(try clear hi)))
    have n0_:=am' (kd' BK222.out);have n1_:=am' (be' HB.out);clear BK222;clear HB;have BK222:=n0_;have HB:=n1_;clear n0_ n1_;refine start_ (n:=11) (S:=fun w'=>w'.cell? ⟨gb222,0,none⟩=some (.int .i64 a0_0)∧w'.cell? ⟨gb222,1,none⟩=some (.int .i64 a0_1)) (ds:=[]) #[false,false,false,false,false,false,false,false,false,false,false] (by kernel_rfl) rfl rfl ⟨(blk_cell BK222.out 0).trans rfl,(blk_cell BK222.out 1).trans rfl⟩ (fun hHeld=>?_);refine with_tabW spec_FirstRows.tab3 spec_FirstRows.bits3 (fun HT_ HW_=>?_);generalize w17.drew=w18 at BK222 HB hHeld ⊢
    refine take_ (i:=0) (N:=some 15) (v:=?_) (a':=?_) #[true,false,false,false,false,false,false,false,false,false,false] rfl rfl (take_ofW HT_.out HW_.out (by kernel_rfl)) (fun _ _ _ h=>h) (Or.inl ⟨by rfl,?_⟩) hHeld ?_ ?_
    rotate_left
    ·
     rintro w' ⟨s0,s1⟩
     go_simp;with_reducible rfl
    rotate_left
    ·
     simp only[Act.put,sa',sb',sc',i64_w,i32_w];rfl
    refine take_ (i:=1) (N:=some 16) (v:=?_) (a':=?_) #[true,true,false,false,false,false,false,false,false,false,false] rfl rfl (take_ofW HT_.out HW_.out (by kernel_rfl)) (fun _ _ _ h=>h) (Or.inl ⟨by rfl,?_⟩) hHeld ?_ ?_
    rotate_left
    ·
     rintro w' ⟨s0,s1⟩
     go_simp;with_reducible rfl
    rotate_left
    ·
     simp only[Act.put,sa',sb',sc',i64_w,i32_w];rfl
    refine one_ (i:=2) (N:=some 17) #[true,true,true,false,false,false,false,false,false,false,false] rfl rfl (one_of HT_.out (by kernel_rfl)) (by decide) (fun K hK=>?_);refine goes_ Try.func105 (by kernel_rfl) rfl #[.agg #[.int .i64 a0_0, .int .i64 a0_1]] (by rfl) rfl rfl (by (try simp only[List.map_toArray,List.map_cons,List.map_nil]);first|done|rfl|(simp only[List.length_drop,List.length_take];rfl)) ?_
    with_reducible refine (spec_cuSize.calls a0_0 a0_1 t224 _ A4.out).mono ?_
    rintro e w19 ⟨rfl,hb⟩
    refine ⟨_,rfl,?_⟩;have n0_:=am' (blk_below (g:=gb222) (o := .cells #[.int .i64 a0_0, .int .i64 a0_1] 40 (0,0)) (by (with_reducible repeat (first|refine kn' ?_ _|refine kd' ?_|refine ka' ?_ _));exact BK222.out) hb);have n1_:=am' (below_step (by repeat (first|(with_reducible first|exact HB.out|apply ba'|apply bd'|apply be'|refine bs' ?_ GE222.out)|exact HB.out)) hb);clear BK222;clear HB;have BK222:=n0_;have HB:=n1_;clear n0_ n1_;(try clear hb)
    (try clear hb2)
    (try clear hk)
    (try clear hi)
    refine hK.out _ _ ⟨(blk_cell BK222.out 0).trans rfl,(blk_cell BK222.out 1).trans rfl⟩ (fun hHeld=>?_);clear hK K;refine norm_ (a':=?_) ?_ ?_
    rotate_left
    ·
     show Act.put _ (some 17) _=_
     simp only[Act.put,sa',sb',sc',i64_w,i32_w];rfl
    refine pure_ (i:=3) (N:=some 18) (v:=?_) (a':=?_) #[true,true,true,true,false,false,false,false,false,false,false] rfl rfl (any_of HT_.out (by kernel_rfl)) (fun _ _ _ h=>h) (Or.inl ⟨by rfl,?_⟩) ?_ ?_
    rotate_left
    ·
     intro w';go_simp;with_reducible rfl
    rotate_left
    ·
     simp only[Act.put,sa',sb',sc',i64_w,i32_w];rfl
    refine pure_ (i:=4) (N:=some 19) (v:=?_) (a':=?_) #[true,true,true,true,true,false,false,false,false,false,false] rfl rfl (any_of HT_.out (by kernel_rfl)) (fun _ _ _ h=>h) (Or.inl ⟨by rfl,?_⟩) ?_ ?_
    rotate_left
    ·
     intro w';go_simp;with_reducible rfl
    rotate_left
    ·
     simp only[Act.put,sa',sb',sc',i64_w,i32_w];rfl
    refine one_ (i:=5) (N:=some 20) #[true,true,true,true,true,true,false,false,false,false,false] rfl rfl (one_of HT_.out (by kernel_rfl)) (by decide) (fun K hK=>?_);refine goes_ Try.func79 (by kernel_rfl) rfl #[.agg #[.int .i64 a0_0, .int .i64 a0_1], .int .i64 (wrap64 ((wrap64 (2 * t224)) - 1))] (by rfl) rfl rfl (by (try simp only[List.map_toArray,List.map_cons,List.map_nil]);first|done|rfl|(simp only[List.length_drop,List.length_take];rfl)) ?_
    with_reducible refine (spec_cuFar.calls k a0_0 a0_1 (wrap64 ((wrap64 (2 * t224)) - 1)) t225 t228 _ A5.out).mono ?_
    rintro e w20 ⟨v226,v229,rfl,ho0,ho1,hb⟩
    refine ⟨_,rfl,?_⟩;have n0_:=am' (Kd.R_lower ho0 (below_size (by repeat (first|(with_reducible first|exact HB.out|apply ba'|apply bd'|apply be'|refine bs' ?_ GE222.out)|exact HB.out))));have n1_:=am' (Kd.R_lower ho1 (below_size (by repeat (first|(with_reducible first|exact HB.out|apply ba'|apply bd'|apply be'|refine bs' ?_ GE222.out)|exact HB.out))));have n2_:=am' (blk_below (g:=gb222) (o := .cells #[.int .i64 a0_0, .int .i64 a0_1] 40 (0,0)) (by (with_reducible repeat (first|refine kn' ?_ _|refine kd' ?_|refine ka' ?_ _));exact BK222.out) hb);have n3_:=am' (below_step (by repeat (first|(with_reducible first|exact HB.out|apply ba'|apply bd'|apply be'|refine bs' ?_ GE222.out)|exact HB.out)) hb);clear BK222;clear HB;have HO227:=n0_;have HO230:=n1_;have BK222:=n2_;have HB:=n3_;clear n0_ n1_ n2_ n3_;(try clear hb)
    (try clear hb2)
    (try clear hk)
    (try clear hi)
    (try clear ho0)
    (try clear ho1)
    refine hK.out _ _ ⟨(blk_cell BK222.out 0).trans rfl,(blk_cell BK222.out 1).trans rfl⟩ (fun hHeld=>?_);clear hK K;refine norm_ (a':=?_) ?_ ?_
    rotate_left
    ·
     show Act.put _ (some 20) _=_
     simp only[Act.put,sa',sb',sc',i64_w,i32_w];rfl
    refine pure_ (i:=6) (N:=some 14) (v:=?_) (a':=?_) #[true,true,true,true,true,true,true,false,false,false,false] rfl rfl (any_of HT_.out (by kernel_rfl)) (fun _ _ _ h=>h) (Or.inl ⟨by rfl,?_⟩) ?_ ?_
    rotate_left
    ·
     intro w';go_simp;with_reducible rfl
    rotate_left
    ·
     simp only[Act.put,sa',sb',sc',i64_w,i32_w];rfl
    refine pure_ (i:=7) (N:=some 21) (v:=?_) (a':=?_) #[true,true,true,true,true,true,true,true,false,false,false] rfl rfl (any_of HT_.out (by kernel_rfl)) (fun _ _ _ h=>h) (Or.inl ⟨by rfl,?_⟩) ?_ ?_
    rotate_left
    ·
     intro w';go_simp;with_reducible rfl
    rotate_left
    ·
     simp only[Act.put,sa',sb',sc',i64_w,i32_w];rfl
    refine pure_ (i:=8) (N:=some 22) (v:=?_) (a':=?_) #[true,true,true,true,true,true,true,true,true,false,false] rfl rfl (any_of HT_.out (by kernel_rfl)) (fun _ _ _ h=>h) (Or.inl ⟨by rfl,?_⟩) ?_ ?_
    rotate_left
    ·
     intro w';go_simp;with_reducible rfl
    rotate_left
    ·
     simp only[Act.put,sa',sb',sc',i64_w,i32_w];rfl
    refine pure_ (i:=9) (N:=some 4) (v:=?_) (a':=?_) #[true,true,true,true,true,true,true,true,true,true,false] rfl rfl (any_of HT_.out (by kernel_rfl)) (fun _ _ _ h=>h) (Or.inl ⟨by rfl,?_⟩) ?_ ?_
    rotate_left
    ·
     intro w';go_simp;with_reducible rfl
    rotate_left
    ·
     simp only[Act.put,sa',sb',sc',i64_w,i32_w];rfl
    refine pure_ (i:=10) (N:=some 5) (v:=?_) (a':=?_) #[true,true,true,true,true,true,true,true,true,true,true] rfl rfl (any_of HT_.out (by kernel_rfl)) (fun _ _ _ h=>h) (Or.inl ⟨by rfl,?_⟩) ?_ ?_
    rotate_left
    ·
     intro w';go_simp;with_reducible rfl
    rotate_left
    ·
     simp only[Act.put,sa',sb',sc',i64_w,i32_w];rfl
    refine done_ (done_of HT_.out (by kernel_rfl)) ?_
    obtain ⟨Ao21,co21,eo21⟩:=Kd.R_slice HO227.out;subst eo21;have p231:0≤(0:Int):=(by omega)
    have q231:0 < (t225.length:Int):=of_decide_eq_true (by first|(with_reducible assumption)|assumption);obtain ⟨ad231,e231,hx231_0⟩:=Kd.at_int (Kd.R_reads' HO227.out).2.2 0 p231 q231;cases e231;have qi231:(0 < t225.length)=True:=eq_true (by omega)
    (try rw [show ((0:Int)).toNat=0 from rfl] at hx231_0)
    (try rw [Addr.add_zero'] at hx231_0)
    replace p231:=eq_true p231;replace q231:=eq_true q231
    try go_wp2
    go_loopg [6,7] k (fun kq v6 v7 w'=>∃ (x6_1:List (List Int)) (x7_1:Int),v7 = .int .i64 x7_1∧Aside0 (spec_FirstRows.l0 kq t225 x6_1 x7_1 a0_0 a0_1=some (r1,r2))∧Aside0 (kq≤k)∧Aside0 (Kd.R (Kd.int .i64) 3 w' w.heap.size (fun _=>True) (.slice (some ad231) t225.length co21) t225)∧Aside0 (Kd.S (Kd.slice 3 (Kd.int .i64)) 32 w' w.heap.size (fun k_=>some k_≠((.slice (some ad231) t225.length co21):Value).ownBlock) v6 x6_1)∧Aside0 (w'.heap[gb222]? = some (.cells #[.int .i64 a0_0, .int .i64 a0_1] 40 (0,0)))∧Aside0 (Below w.heap.size w w'))
    case atStart=>exact ⟨(([]:List (List Int))),(0),(by first|rfl|(simp;done)|(simp[*];done)),H',⟨Nat.le_refl _⟩,⟨by (with_reducible repeat (first|apply ra'|apply rn'|apply rw'));exact Kd.R_mono HO227.out (fun _ hk=>trivial)⟩,⟨by first|exact Kd.S_nil _ _ _ _ _|exact Kd.N_nil _ _ _ _ _|exact Kd.V_nil _ _ _ _ _|exact Kd.Q_nil _ _ _ _ _|exact Kd.R_nil _ _ _ _ _⟩,⟨by (with_reducible repeat (first|refine kn' ?_ _|refine kd' ?_|refine ka' ?_ _));exact BK222.out⟩,⟨by repeat (first|(with_reducible first|exact HB.out|apply ba'|apply bd'|apply be'|refine bs' ?_ GE222.out)|exact HB.out)⟩⟩
    case round =>
     clear H';try clear c1
     try clear p2
     try clear q2
     try clear hx2
     try clear qi2
     try clear c3
     try clear c5
     try clear c6
     try clear c6b0
     try clear c6b1
     try clear p6
     try clear c7
     try clear c7b0
     try clear c10
     try clear hcz16_0
     try clear hcz16_1
     try clear hcz9_0
     try clear hcz9_1
     try clear hfz16_0
     try clear hfz16_1
     try clear hfz9_0
     try clear hfz9_1
     try clear hx231_0
     try clear p231
     try clear q231
     obtain ⟨x6_1,x7_1,rfl,HA,HK1,HO_4,HO_6,BK222,HB⟩:=hrel;cases gk with
     | zero=>exact absurd HA.out (by simp[spec_FirstRows.l0])
     | succ k1 =>
      have H:=HA.out;clear HA;simp only[spec_FirstRows.l0] at H;by_cases c22:0≤x7_1
      ·
       rw[if_pos c22] at H;have c22b0:decide (0≤x7_1)=true:=decide_eq_true c22;clear c22;by_cases c23:x7_1 < (t225.length:Int)
       ·
        rw[if_pos c23] at H;have c23b0:decide (x7_1 < (t225.length:Int))=true:=decide_eq_true c23;clear c23;by_cases c24:(rd t225 x7_1) > 0
        ·
         rw[if_pos c24] at H;have c24b0:decide (0 < (rd t225 x7_1))=true:=decide_eq_true c24;clear c24;replace H:=Option.bind_eq_some_iff.mp H;obtain ⟨t233,A250,H⟩:=H;replace H:(spec_FirstRows.l1 k1 t225 x6_1 x7_1 t233 (t233.length:Int) 0 a0_0 a0_1)=some (r1,r2):=H;have A25:=am' A250;clear A250;have H':=am' H;clear H;have p232:0≤(x7_1:Int):=of_decide_eq_true (by first|(with_reducible assumption)|assumption);have q232:x7_1 < (t225.length:Int):=of_decide_eq_true (by first|(with_reducible assumption)|assumption);obtain ⟨ad232,e232,hx232_0⟩:=Kd.at_int (Kd.R_reads' HO_4.out).2.2 x7_1 p232 q232;obtain rfl:ad231=ad232:=(by injection e232)
         replace p232:=eq_true p232;replace q232:=eq_true q232;have hcz26_0:wr.cell? ⟨gb222,0,none⟩=some (.int .i64 a0_0):=(blk_cell BK222.out 0).trans rfl;have hcz26_1:wr.cell? ⟨gb222,1,none⟩=some (.int .i64 a0_1):=(blk_cell BK222.out 1).trans rfl;have hfz26_0:=blk_frozen BK222.out 0;have hfz26_1:=blk_frozen BK222.out 1;go_wp2_with (first|((with_reducible refine gate_callee (f:=86) rfl ?_);refine goesL_ (some 34) rfl rfl Try.func86 (by kernel_rfl) rfl #[.agg #[.int .i64 a0_0, .int .i64 a0_1], .int .i64 x7_1] rfl (by (try simp only[List.map_toArray,List.map_cons,List.map_nil]);first|done|rfl|(simp only[List.length_drop,List.length_take];rfl)) ?_;(with_reducible refine (spec_cuRows.calls k1 a0_0 a0_1 x7_1 t233 _ A25.out).mono ?_);rintro e w27 ⟨v234,rfl,ho0,hb⟩;refine ⟨_,rfl,?_⟩;have n0_:=am' (Kd.R_elder' (by (with_reducible repeat (first|apply ra'|apply rn'|apply rw'));exact HO_4.out) (Kd.R_base ho0) hb);have n1_:=am' (Kd.S_elder' (by (with_reducible repeat (first|apply Kd.S_alloc|apply Kd.S_drewN|apply Kd.S_drew));exact HO_6.out) (Kd.R_base ho0) hb);have n2_:=am' (Kd.R_lower (Kd.R_new' ho0 (Kd.R_lt (by (with_reducible repeat (first|apply ra'|apply rn'|apply rw'));exact HO_4.out))) (below_size (by repeat (first|(with_reducible first|exact HB.out|apply ba'|apply bd'|apply be'|refine bs' ?_ GE222.out)|exact HB.out))));have n3_:=am' (blk_below (g:=gb222) (o := .cells #[.int .i64 a0_0, .int .i64 a0_1] 40 (0,0)) (by (with_reducible repeat (first|refine kn' ?_ _|refine kd' ?_|refine ka' ?_ _));exact BK222.out) hb);have n4_:=am' (below_step (by repeat (first|(with_reducible first|exact HB.out|apply ba'|apply bd'|apply be'|refine bs' ?_ GE222.out)|exact HB.out)) hb);clear HO_4;clear HO_6;clear BK222;clear HB;have HO_4:=n0_;have HO_6:=n1_;have HO235:=n2_;have BK222:=n3_;have HB:=n4_;clear n0_ n1_ n2_ n3_ n4_;(try clear hb);(try clear hb2);(try clear hk);(try clear hi);(try clear ho0);obtain ⟨Ao28,co28,eo28⟩:=Kd.R_slice HO235.out;subst eo28));go_loopg [6,7,36] k1 (fun kq v6 v7 v36 w'=>∃ (x6_2:List (List Int)) (x7_2:Int) (x36_2:Int),v7 = .int .i64 x7_2∧v36 = .int .i64 x36_2∧Aside0 (spec_FirstRows.l1 kq t225 x6_2 x7_2 t233 (t233.length:Int) x36_2 a0_0 a0_1=some (r1,r2))∧Aside0 (kq≤k1)∧Aside0 (Kd.R (Kd.int .i64) 3 w' w.heap.size (fun k_=>some k_≠((.slice Ao28 t233.length co28):Value).ownBlock) (.slice (some ad231) t225.length co21) t225)∧Aside0 (Kd.S (Kd.slice 3 (Kd.int .i64)) 32 w' w.heap.size (fun k_=>some k_≠((.slice (some ad231) t225.length co21):Value).ownBlock∧some k_≠((.slice Ao28 t233.length co28):Value).ownBlock) v6 x6_2)∧Aside0 (Kd.R (Kd.int .i64) 3 w' w.heap.size (fun k_=>some k_≠((.slice (some ad231) t225.length co21):Value).ownBlock) (.slice Ao28 t233.length co28) t233)∧Aside0 (w'.heap[gb222]? = some (.cells #[.int .i64 a0_0, .int .i64 a0_1] 40 (0,0)))∧Aside0 (Below w.heap.size w w'))
         case atStart=>exact ⟨(x6_1),(x7_1),(0),(by first|rfl|(simp;done)|(simp[*];done)),(by first|rfl|(simp;done)|(simp[*];done)),H',⟨Nat.le_refl _⟩,⟨by (with_reducible repeat (first|apply ra'|apply rn'|apply rw'));exact Kd.R_mono HO_4.out (fun _ hk=>hk.2)⟩,⟨by (with_reducible repeat (first|apply Kd.S_alloc|apply Kd.S_drewN|apply Kd.S_drew));exact HO_6.out⟩,⟨by (with_reducible repeat (first|apply ra'|apply rn'|apply rw'));exact Kd.R_mono HO235.out (fun _ hk=>hk.2)⟩,⟨by (with_reducible repeat (first|refine kn' ?_ _|refine kd' ?_|refine ka' ?_ _));exact BK222.out⟩,⟨by repeat (first|(with_reducible first|exact HB.out|apply ba'|apply bd'|apply be'|refine bs' ?_ GE222.out)|exact HB.out)⟩⟩
         case round =>
          clear H';try clear c1
          try clear c2
          try clear p2
          try clear q2
          try clear hx2
          try clear qi2
          try clear c3
          try clear c5
          try clear c6
          try clear c6b0
          try clear c6b1
          try clear p6
          try clear c7
          try clear c7b0
          try clear c8
          try clear c10
          try clear c22
          try clear c22b0
          try clear c23
          try clear c23b0
          try clear p23
          try clear q23
          try clear hx23
          try clear qi23
          try clear c24
          try clear c24b0
          try clear hcz16_0
          try clear hcz16_1
          try clear hcz26_0
          try clear hcz26_1
          try clear hcz9_0
          try clear hcz9_1
          try clear hfz16_0
          try clear hfz16_1
          try clear hfz26_0
          try clear hfz26_1
          try clear hfz9_0
          try clear hfz9_1
          try clear hx231_0
          try clear hx232_0
          try clear p2
          try clear p231
          try clear p232
          try clear p6
          try clear q2
          try clear q231
          try clear q232
          obtain ⟨x6_2,x7_2,x36_2,rfl,rfl,HA,HK2,HO_4,HO_6,HO_34,BK222,HB⟩:=hrel;cases gk with
          | zero=>exact absurd HA.out (by simp[spec_FirstRows.l1])
          | succ k2 =>
           have H:=HA.out;clear HA;simp only[spec_FirstRows.l1] at H;by_cases c29:x36_2 < (t233.length:Int)
           ·
            rw[if_pos c29] at H;have c29b0:decide (x36_2 < (t233.length:Int))=true:=decide_eq_true c29;clear c29;by_cases c30:0≤x36_2
            ·
             rw[if_pos c30] at H;have c30b0:decide (0≤x36_2)=true:=decide_eq_true c30;clear c30;by_cases c31:x36_2 < (t233.length:Int)
             ·
              rw[if_pos c31] at H;have c31b0:decide (x36_2 < (t233.length:Int))=true:=decide_eq_true c31;clear c31;obtain ⟨ji32,hji32⟩:∃ j_:Int,(Go.bits .xor .i64 x7_2 (wrap64 ((wrap64 (2 * (rd t233 x36_2)))+1)))=j_:=⟨_,rfl⟩
              replace H:(if 0≤(ji32) then (if (ji32) < (t225.length:Int) then (if 0≤x7_2 then (if x7_2 < (t225.length:Int) then (if (rd t225 (ji32))=(wrap64 ((rd t225 x7_2) - 1)) then ((spec_cuList.f k2 (rd t233 x36_2)).bind fun t239=>(if x6_2.length < 5864062014805 then (spec_FirstRows.l0 k2 t225 (x6_2 ++ [t239]) ji32 a0_0 a0_1) else (none))) else (spec_FirstRows.l1 k2 t225 x6_2 x7_2 t233 (t233.length:Int) (wrap64 (x36_2+1)) a0_0 a0_1)) else (none)) else (none)) else (none)) else (none))=some (r1,r2):=by first|(rw[hji32] at H;exact H)|(simp only[hji32] at H ⊢;exact H)
              by_cases c33:0≤(ji32)
              ·
               rw[if_pos c33] at H;have c33b0:decide (0≤(ji32))=true:=decide_eq_true c33;clear c33;by_cases c34:(ji32) < (t225.length:Int)
               ·
                rw[if_pos c34] at H;have c34b0:decide ((ji32) < (t225.length:Int))=true:=decide_eq_true c34;clear c34;by_cases c35:0≤x7_2
                ·
                 rw[if_pos c35] at H;have c35b0:decide (0≤x7_2)=true:=decide_eq_true c35;clear c35;by_cases c36:x7_2 < (t225.length:Int)
                 ·
                  rw[if_pos c36] at H;have c36b0:decide (x7_2 < (t225.length:Int))=true:=decide_eq_true c36;clear c36;by_cases c37:(rd t225 (ji32))=(wrap64 ((rd t225 x7_2) - 1))
                  ·
                   rw[if_pos c37] at H;have c37b0:((rd t225 (ji32)) == (wrap64 ((rd t225 x7_2) - 1)))=true:=beq_iff_eq.mpr c37;have c37b1:((rd t225 (ji32)) != (wrap64 ((rd t225 x7_2) - 1)))=false:=bne_eq_false_iff_eq.mpr c37;clear c37;replace H:=Option.bind_eq_some_iff.mp H;obtain ⟨t239,A380,H⟩:=H;replace H:(if x6_2.length < 5864062014805 then (spec_FirstRows.l0 k2 t225 (x6_2 ++ [t239]) ji32 a0_0 a0_1) else (none))=some (r1,r2):=H;have A38:=am' A380;clear A380;by_cases c39:x6_2.length < 5864062014805
                   ·
                    rw[if_pos c39] at H;have LMc39:=am' c39;clear c39;obtain ⟨y242,hy242⟩:∃ y_:List (List Int),y_=(x6_2 ++ [t239]):=⟨_,rfl⟩
                    replace H:(spec_FirstRows.l0 k2 t225 y242 ji32 a0_0 a0_1)=some (r1,r2):=by first|(rw[hy242];with_reducible exact H)|(have H2_:=(Option.bind_some _ _).symm.trans H;rw[hy242];with_reducible exact H2_)|(have H2_:=(Option.bind_some _ _).symm.trans H;with_reducible exact H2_)|with_reducible exact H|(rw[hy242];exact H)|exact H
                    have Ny242:=am' hy242;clear hy242;have H':=am' H;clear H;have p236:0≤(x36_2:Int):=of_decide_eq_true (by first|(with_reducible assumption)|assumption);have q236:x36_2 < (t233.length:Int):=of_decide_eq_true (by first|(with_reducible assumption)|assumption);obtain ⟨ad236,e236,hx236_0⟩:=Kd.at_int (Kd.R_reads' HO_34.out).2.2 x36_2 p236 q236;cases e236;replace p236:=eq_true p236;replace q236:=eq_true q236
                    try go_wp2
                    have n0_:=am' (rw' HO_4.out);have n1_:=am' (Kd.S_drew HO_6.out);have n2_:=am' (rw' HO_34.out);have n3_:=am' (kd' BK222.out);have n4_:=am' (be' HB.out);clear HO_4;clear HO_6;clear HO_34;clear BK222;clear HB;have HO_4:=n0_;have HO_6:=n1_;have HO_34:=n2_;have BK222:=n3_;have HB:=n4_;clear n0_ n1_ n2_ n3_ n4_;have p237:0≤((ji32):Int):=of_decide_eq_true (by first|(with_reducible assumption)|assumption);have q237:(ji32) < (t225.length:Int):=of_decide_eq_true (by first|(with_reducible assumption)|assumption);obtain ⟨ad237,e237,hx237_0⟩:=Kd.at_int (Kd.R_reads' HO_4.out).2.2 (ji32) p237 q237;obtain rfl:ad231=ad237:=(by injection e237)
                    replace p237:=eq_true p237;replace q237:=eq_true q237;have p238:0≤(x7_2:Int):=of_decide_eq_true (by first|(with_reducible assumption)|assumption);have q238:x7_2 < (t225.length:Int):=of_decide_eq_true (by first|(with_reducible assumption)|assumption);obtain ⟨ad238,e238,hx238_0⟩:=Kd.at_int (Kd.R_reads' HO_4.out).2.2 x7_2 p238 q238;obtain rfl:ad231=ad238:=(by injection e238)
                    replace p238:=eq_true p238;replace q238:=eq_true q238;refine start_ (n:=10) (S:=fun w'=>w'.cell? (ad231.add ((ji32)).toNat)=some (.int .i64 (rd t225 (ji32)))∧w'.cell? (ad231.add (x7_2).toNat)=some (.int .i64 (rd t225 x7_2))) (ds:=[]) #[false,false,false,false,false,false,false,false,false,false] (by kernel_rfl) rfl rfl ⟨hx237_0,hx238_0⟩ (fun hHeld=>?_);refine with_tabW spec_FirstRows.tab13 spec_FirstRows.bits13 (fun HT_ HW_=>?_);generalize wr.drew=w40 at HO_4 HO_6 HO_34 BK222 HB hx237_0 hx238_0 hHeld ⊢
                    refine pure_ (i:=0) (N:=some 45) (v:=?_) (a':=?_) #[true,false,false,false,false,false,false,false,false,false] rfl rfl (any_of HT_.out (by kernel_rfl)) (fun _ _ _ h=>h) (Or.inl ⟨by rfl,?_⟩) ?_ ?_
                    rotate_left
                    ·
                     intro w';go_simp;with_reducible rfl
                    rotate_left
                    ·
                     simp only[Act.put,sa',sb',sc',i64_w,i32_w];rfl
                    refine pure_ (i:=1) (N:=some 46) (v:=?_) (a':=?_) #[true,true,false,false,false,false,false,false,false,false] rfl rfl (any_of HT_.out (by kernel_rfl)) (fun _ _ _ h=>h) (Or.inl ⟨by rfl,?_⟩) ?_ ?_
                    rotate_left
                    ·
                     intro w';go_simp;with_reducible rfl
                    rotate_left
                    ·
                     simp only[Act.put,sa',sb',sc',i64_w,i32_w];rfl
                    refine pure_ (i:=2) (N:=some 47) (v:=?_) (a':=?_) #[true,true,true,false,false,false,false,false,false,false] rfl rfl (any_of HT_.out (by kernel_rfl)) (fun _ _ _ h=>h) (Or.inl ⟨by rfl,?_⟩) ?_ ?_
                    rotate_left
                    ·
                     intro w';go_simp;with_reducible rfl
                    rotate_left
                    ·
                     simp only[Act.put,sa',sb',sc',i64_w,i32_w];rfl
                    refine pure_ (i:=4) (N:=some 49) (v:=?_) (a':=?_) #[true,true,true,false,true,false,false,false,false,false] rfl rfl (any_of HT_.out (by kernel_rfl)) (fun _ _ _ h=>h) (Or.inl ⟨by rfl,?_⟩) ?_ ?_
                    rotate_left
                    ·
                     intro w';go_simp;with_reducible rfl
                    rotate_left
                    ·
                     simp only[Act.put,sa',sb',sc',i64_w,i32_w];rfl
                    refine pure_ (i:=5) (N:=some 50) (v:=?_) (a':=?_) #[true,true,true,false,true,true,false,false,false,false] rfl rfl (any_of HT_.out (by kernel_rfl)) (fun _ _ _ h=>h) (Or.inl ⟨by rfl,?_⟩) ?_ ?_
                    rotate_left
                    ·
                     intro w';go_simp;with_reducible rfl
                    rotate_left
                    ·
                     simp only[Act.put,sa',sb',sc',i64_w,i32_w];rfl
                    refine pure_ (i:=6) (N:=some 51) (v:=?_) (a':=?_) #[true,true,true,false,true,true,true,false,false,false] rfl rfl (any_of HT_.out (by kernel_rfl)) (fun _ _ _ h=>h) (Or.inl ⟨by rfl,?_⟩) ?_ ?_
                    rotate_left
                    ·
                     intro w';go_simp;with_reducible rfl
                    rotate_left
                    ·
                     simp only[Act.put,sa',sb',sc',i64_w,i32_w];rfl
                    refine take_ (i:=3) (N:=some 48) (v:=?_) (a':=?_) #[true,true,true,true,true,true,true,false,false,false] rfl rfl (take_ofW HT_.out HW_.out (by kernel_rfl)) (fun _ _ _ h=>h) (Or.inl ⟨by rfl,?_⟩) hHeld ?_ ?_
                    rotate_left
                    ·
                     rintro w' ⟨s0,s1⟩
                     go_simp;with_reducible rfl
                    rotate_left
                    ·
                     simp only[Act.put,sa',sb',sc',i64_w,i32_w];rfl
                    refine take_ (i:=7) (N:=some 52) (v:=?_) (a':=?_) #[true,true,true,true,true,true,true,true,false,false] rfl rfl (take_ofW HT_.out HW_.out (by kernel_rfl)) (fun _ _ _ h=>h) (Or.inl ⟨by rfl,?_⟩) hHeld ?_ ?_
                    rotate_left
                    ·
                     rintro w' ⟨s0,s1⟩
                     go_simp;with_reducible rfl
                    rotate_left
                    ·
                     simp only[Act.put,sa',sb',sc',i64_w,i32_w];rfl
                    refine pure_ (i:=8) (N:=some 53) (v:=?_) (a':=?_) #[true,true,true,true,true,true,true,true,true,false] rfl rfl (any_of HT_.out (by kernel_rfl)) (fun _ _ _ h=>h) (Or.inl ⟨by rfl,?_⟩) ?_ ?_
                    rotate_left
                    ·
                     intro w';go_simp;with_reducible rfl
                    rotate_left
                    ·
                     simp only[Act.put,sa',sb',sc',i64_w,i32_w];rfl
                    refine pure_ (i:=9) (N:=some 54) (v:=?_) (a':=?_) #[true,true,true,true,true,true,true,true,true,true] rfl rfl (any_of HT_.out (by kernel_rfl)) (fun _ _ _ h=>h) (Or.inl ⟨by rfl,?_⟩) ?_ ?_
                    rotate_left
                    ·
                     intro w';go_simp;with_reducible rfl
                    rotate_left
                    ·
                     simp only[Act.put,sa',sb',sc',i64_w,i32_w];rfl
                    refine done_ (done_of HT_.out (by kernel_rfl)) ?_
                    try go_wp2_with (first|((with_reducible refine gate_callee (f:=87) rfl ?_);refine goesL_ (some 57) rfl rfl Try.func87 (by kernel_rfl) rfl #[.int .i64 (rd t233 x36_2)] rfl (by (try simp only[List.map_toArray,List.map_cons,List.map_nil]);first|done|rfl|(simp only[List.length_drop,List.length_take];rfl)) ?_;(with_reducible refine (spec_cuList.calls k2 (rd t233 x36_2) t239 _ A38.out).mono ?_);rintro e w41 ⟨v240,rfl,ho0,hb⟩;refine ⟨_,rfl,?_⟩;have n0_:=am' (Kd.R_elder' (by (with_reducible repeat (first|apply ra'|apply rn'|apply rw'));exact HO_4.out) (Kd.R_base ho0) hb);have n1_:=am' (Kd.S_elder' (by (with_reducible repeat (first|apply Kd.S_alloc|apply Kd.S_drewN|apply Kd.S_drew));exact HO_6.out) (Kd.R_base ho0) hb);have n2_:=am' (Kd.R_elder' (by (with_reducible repeat (first|apply ra'|apply rn'|apply rw'));exact HO_34.out) (Kd.R_base ho0) hb);have n3_:=am' (Kd.R_lower (Kd.R_new' (Kd.R_new' ho0 (Kd.R_lt (by (with_reducible repeat (first|apply ra'|apply rn'|apply rw'));exact HO_4.out))) (Kd.R_lt (by (with_reducible repeat (first|apply ra'|apply rn'|apply rw'));exact HO_34.out))) (below_size (by repeat (first|(with_reducible first|exact HB.out|apply ba'|apply bd'|apply be'|refine bs' ?_ GE222.out)|exact HB.out))));have n4_:=am' (blk_below (g:=gb222) (o := .cells #[.int .i64 a0_0, .int .i64 a0_1] 40 (0,0)) (by (with_reducible repeat (first|refine kn' ?_ _|refine kd' ?_|refine ka' ?_ _));exact BK222.out) hb);have n5_:=am' (below_step (by repeat (first|(with_reducible first|exact HB.out|apply ba'|apply bd'|apply be'|refine bs' ?_ GE222.out)|exact HB.out)) hb);clear HO_4;clear HO_6;clear HO_34;clear BK222;clear HB;have HO_4:=n0_;have HO_6:=n1_;have HO_34:=n2_;have HO241:=n3_;have BK222:=n4_;have HB:=n5_;clear n0_ n1_ n2_ n3_ n4_ n5_;(try clear hb);(try clear hb2);(try clear hk);(try clear hi);(try clear ho0);obtain ⟨Ao43,co43,eo43⟩:=Kd.R_slice HO241.out;subst eo43)|((with_reducible refine gate_builtin (b := .append) (xs:=#[.tmp 55, .tmp 58]) rfl ?_);at_builtin;refine Kd.S_append (Kd.slice 3 (Kd.int .i64)) (w0:=w) w.heap.size rfl (.tmp 55) (.tmp 58) 27 32 (.slice none 0 0) 24 rfl Try.underlying27 info32 rfl (by decide) (by omega) u6 x6_2 t239 [.slice Ao43 t239.length co43] (fun k_=>some k_≠(.slice (some ad231) t225.length co21:Value).ownBlock∧some k_≠(.slice (some ad236) t233.length co28:Value).ownBlock) (fun k_=>some k_=(.slice Ao43 t239.length co43:Value).ownBlock) rfl rfl ?aP (fun k_ hk_=>((Kd.R_mono (ok':=fun k_=>((fun k_=>some k_≠(.slice (some ad231) t225.length co21:Value).ownBlock∧some k_≠(.slice (some ad236) t233.length co28:Value).ownBlock)) k_∧some k_≠(u6:Value).ownBlock) (Kd.R_apart' (HO241.out) (Kd.S_typed HO_6.out) (by decide)) (fun k_ hk=>⟨⟨hk.1.1.2,hk.1.2⟩,hk.2⟩))).1 k_ hk_.symm) ?aF ?aO ?aB ?aS ?aL ?_;(case aP=>exact Kd.M_row (Kd.R_mono (Kd.R_tight rfl (Kd.R_mono (ok':=fun k_=>((fun k_=>some k_≠(.slice (some ad231) t225.length co21:Value).ownBlock∧some k_≠(.slice (some ad236) t233.length co28:Value).ownBlock)) k_∧some k_≠(u6:Value).ownBlock) (Kd.R_apart' (HO241.out) (Kd.S_typed HO_6.out) (by decide)) (fun k_ hk=>⟨⟨hk.1.1.2,hk.1.2⟩,hk.2⟩))) (fun _ h_=>h_)));(case aB=>exact (by repeat (first|(with_reducible first|exact HB.out|apply ba'|apply bd'|apply be'|refine bs' ?_ GE222.out)|exact HB.out)));(case aF=>exact (fun k_ hk=>⟨Kd.fresh' (Kd.R_lt (by (with_reducible repeat (first|apply ra'|apply rn'|apply rw'));exact HO_4.out)) k_ hk,Kd.fresh' (Kd.R_lt (by (with_reducible repeat (first|apply ra'|apply rn'|apply rw'));exact HO_34.out)) k_ hk⟩));(case aO=>exact (by (with_reducible repeat (first|apply Kd.S_alloc|apply Kd.S_drewN|apply Kd.S_drew));exact Kd.S_mono HO_6.out (fun k_ hk=>⟨⟨hk.1.1,hk.1.2⟩,fun e_=>hk.2 e_⟩)));(case aS=>exact (below_size (by repeat (first|(with_reducible first|exact HB.out|apply ba'|apply bd'|apply be'|refine bs' ?_ GE222.out)|exact HB.out))));(case aL=>have:=LMc39.out;omega);intro v243 w42 ho hb hg hat;rw[← Ny242.out] at ho;have n0_:=am' (Kd.R_over' (by (with_reducible repeat (first|apply ra'|apply rn'|apply rw'));exact HO_4.out) (Kd.S_typed (by (with_reducible repeat (first|apply Kd.S_alloc|apply Kd.S_drewN|apply Kd.S_drew));exact HO_6.out)) (by decide) hg);have n1_:=am' (Kd.R_over' (by (with_reducible repeat (first|apply ra'|apply rn'|apply rw'));exact HO_34.out) (Kd.S_typed (by (with_reducible repeat (first|apply Kd.S_alloc|apply Kd.S_drewN|apply Kd.S_drew));exact HO_6.out)) (by decide) hg);have n2_:=am' (blk_grown (g:=gb222) (o := .cells #[.int .i64 a0_0, .int .i64 a0_1] 40 (0,0)) (by (with_reducible repeat (first|refine kn' ?_ _|refine kd' ?_|refine ka' ?_ _));exact BK222.out) hg (Kd.S_ne HO_6.out BK222.out (by decide)));have n3_:=am' (hb);have n4_:=am' (ho);clear HO_4;clear HO_34;clear BK222;clear HB;clear HO_6;clear HO241;have HO_4:=n0_;have HO_34:=n1_;have BK222:=n2_;have HB:=n3_;have HO244:=n4_;clear n0_ n1_ n2_ n3_ n4_;clear ho hb hg hat))
                    go_roundg k2
                    case measure=>have:=HK1.out;have:=HK2.out;omega
                    case rel=>exact ⟨(y242),(ji32),(by first|rfl|(simp;done)|(simp only[← hji32] <;> (first|rfl|simp))|(simp[*];done)),H',⟨by have:=HK1.out;have:=HK2.out;omega⟩,⟨by (with_reducible repeat (first|apply ra'|apply rn'|apply rw'));exact Kd.R_mono HO_4.out (fun _ hk=>trivial)⟩,⟨by (with_reducible repeat (first|apply Kd.S_alloc|apply Kd.S_drewN|apply Kd.S_drew));exact Kd.S_mono HO244.out (fun _ hk=>hk.1)⟩,⟨by (with_reducible repeat (first|refine kn' ?_ _|refine kd' ?_|refine ka' ?_ _));exact BK222.out⟩,⟨by repeat (first|(with_reducible first|exact HB.out|apply ba'|apply bd'|apply be'|refine bs' ?_ GE222.out)|exact HB.out)⟩⟩
                   ·
                    rw[if_neg c39] at H;exact absurd H (by simp)
                  ·
                   rw[if_neg c37] at H;have c37b0:((rd t225 (ji32)) == (wrap64 ((rd t225 x7_2) - 1)))=false:=beq_eq_false_iff_ne.mpr c37;have c37b1:((rd t225 (ji32)) != (wrap64 ((rd t225 x7_2) - 1)))=true:=bne_iff_ne.mpr c37;have H':=am' H;clear H;have p236:0≤(x36_2:Int):=of_decide_eq_true (by first|(with_reducible assumption)|assumption);have q236:x36_2 < (t233.length:Int):=of_decide_eq_true (by first|(with_reducible assumption)|assumption);obtain ⟨ad236,e236,hx236_0⟩:=Kd.at_int (Kd.R_reads' HO_34.out).2.2 x36_2 p236 q236;cases e236;replace p236:=eq_true p236;replace q236:=eq_true q236
                   try go_wp2
                   have n0_:=am' (rw' HO_4.out);have n1_:=am' (Kd.S_drew HO_6.out);have n2_:=am' (rw' HO_34.out);have n3_:=am' (kd' BK222.out);have n4_:=am' (be' HB.out);clear HO_4;clear HO_6;clear HO_34;clear BK222;clear HB;have HO_4:=n0_;have HO_6:=n1_;have HO_34:=n2_;have BK222:=n3_;have HB:=n4_;clear n0_ n1_ n2_ n3_ n4_;have p237:0≤((ji32):Int):=of_decide_eq_true (by first|(with_reducible assumption)|assumption);have q237:(ji32) < (t225.length:Int):=of_decide_eq_true (by first|(with_reducible assumption)|assumption);obtain ⟨ad237,e237,hx237_0⟩:=Kd.at_int (Kd.R_reads' HO_4.out).2.2 (ji32) p237 q237;obtain rfl:ad231=ad237:=(by injection e237)
                   replace p237:=eq_true p237;replace q237:=eq_true q237;have p238:0≤(x7_2:Int):=of_decide_eq_true (by first|(with_reducible assumption)|assumption);have q238:x7_2 < (t225.length:Int):=of_decide_eq_true (by first|(with_reducible assumption)|assumption);obtain ⟨ad238,e238,hx238_0⟩:=Kd.at_int (Kd.R_reads' HO_4.out).2.2 x7_2 p238 q238;obtain rfl:ad231=ad238:=(by injection e238)
                   replace p238:=eq_true p238;replace q238:=eq_true q238;refine start_ (n:=10) (S:=fun w'=>w'.cell? (ad231.add ((ji32)).toNat)=some (.int .i64 (rd t225 (ji32)))∧w'.cell? (ad231.add (x7_2).toNat)=some (.int .i64 (rd t225 x7_2))) (ds:=[]) #[false,false,false,false,false,false,false,false,false,false] (by kernel_rfl) rfl rfl ⟨hx237_0,hx238_0⟩ (fun hHeld=>?_);refine with_tabW spec_FirstRows.tab13 spec_FirstRows.bits13 (fun HT_ HW_=>?_);generalize wr.drew=w44 at HO_4 HO_6 HO_34 BK222 HB hx237_0 hx238_0 hHeld ⊢
                   refine pure_ (i:=0) (N:=some 45) (v:=?_) (a':=?_) #[true,false,false,false,false,false,false,false,false,false] rfl rfl (any_of HT_.out (by kernel_rfl)) (fun _ _ _ h=>h) (Or.inl ⟨by rfl,?_⟩) ?_ ?_
                   rotate_left
                   ·
                    intro w';go_simp;with_reducible rfl
                   rotate_left
                   ·
                    simp only[Act.put,sa',sb',sc',i64_w,i32_w];rfl
                   refine pure_ (i:=1) (N:=some 46) (v:=?_) (a':=?_) #[true,true,false,false,false,false,false,false,false,false] rfl rfl (any_of HT_.out (by kernel_rfl)) (fun _ _ _ h=>h) (Or.inl ⟨by rfl,?_⟩) ?_ ?_
                   rotate_left
                   ·
                    intro w';go_simp;with_reducible rfl
                   rotate_left
                   ·
                    simp only[Act.put,sa',sb',sc',i64_w,i32_w];rfl
                   refine pure_ (i:=2) (N:=some 47) (v:=?_) (a':=?_) #[true,true,true,false,false,false,false,false,false,false] rfl rfl (any_of HT_.out (by kernel_rfl)) (fun _ _ _ h=>h) (Or.inl ⟨by rfl,?_⟩) ?_ ?_
                   rotate_left
                   ·
                    intro w';go_simp;with_reducible rfl
                   rotate_left
                   ·
                    simp only[Act.put,sa',sb',sc',i64_w,i32_w];rfl
                   refine pure_ (i:=4) (N:=some 49) (v:=?_) (a':=?_) #[true,true,true,false,true,false,false,false,false,false] rfl rfl (any_of HT_.out (by kernel_rfl)) (fun _ _ _ h=>h) (Or.inl ⟨by rfl,?_⟩) ?_ ?_
                   rotate_left
                   ·
                    intro w';go_simp;with_reducible rfl
                   rotate_left
                   ·
                    simp only[Act.put,sa',sb',sc',i64_w,i32_w];rfl
                   refine pure_ (i:=5) (N:=some 50) (v:=?_) (a':=?_) #[true,true,true,false,true,true,false,false,false,false] rfl rfl (any_of HT_.out (by kernel_rfl)) (fun _ _ _ h=>h) (Or.inl ⟨by rfl,?_⟩) ?_ ?_
                   rotate_left
                   ·
                    intro w';go_simp;with_reducible rfl
                   rotate_left
                   ·
                    simp only[Act.put,sa',sb',sc',i64_w,i32_w];rfl
                   refine pure_ (i:=6) (N:=some 51) (v:=?_) (a':=?_) #[true,true,true,false,true,true,true,false,false,false] rfl rfl (any_of HT_.out (by kernel_rfl)) (fun _ _ _ h=>h) (Or.inl ⟨by rfl,?_⟩) ?_ ?_
                   rotate_left
                   ·
                    intro w';go_simp;with_reducible rfl
                   rotate_left
                   ·
                    simp only[Act.put,sa',sb',sc',i64_w,i32_w];rfl
                   refine take_ (i:=3) (N:=some 48) (v:=?_) (a':=?_) #[true,true,true,true,true,true,true,false,false,false] rfl rfl (take_ofW HT_.out HW_.out (by kernel_rfl)) (fun _ _ _ h=>h) (Or.inl ⟨by rfl,?_⟩) hHeld ?_ ?_
                   rotate_left
                   ·
                    rintro w' ⟨s0,s1⟩
                    go_simp;with_reducible rfl
                   rotate_left
                   ·
                    simp only[Act.put,sa',sb',sc',i64_w,i32_w];rfl
                   refine take_ (i:=7) (N:=some 52) (v:=?_) (a':=?_) #[true,true,true,true,true,true,true,true,false,false] rfl rfl (take_ofW HT_.out HW_.out (by kernel_rfl)) (fun _ _ _ h=>h) (Or.inl ⟨by rfl,?_⟩) hHeld ?_ ?_
                   rotate_left
                   ·
                    rintro w' ⟨s0,s1⟩
                    go_simp;with_reducible rfl
                   rotate_left
                   ·
                    simp only[Act.put,sa',sb',sc',i64_w,i32_w];rfl
                   refine pure_ (i:=8) (N:=some 53) (v:=?_) (a':=?_) #[true,true,true,true,true,true,true,true,true,false] rfl rfl (any_of HT_.out (by kernel_rfl)) (fun _ _ _ h=>h) (Or.inl ⟨by rfl,?_⟩) ?_ ?_
                   rotate_left
                   ·
                    intro w';go_simp;with_reducible rfl
                   rotate_left
                   ·
                    simp only[Act.put,sa',sb',sc',i64_w,i32_w];rfl
                   refine pure_ (i:=9) (N:=some 54) (v:=?_) (a':=?_) #[true,true,true,true,true,true,true,true,true,true] rfl rfl (any_of HT_.out (by kernel_rfl)) (fun _ _ _ h=>h) (Or.inl ⟨by rfl,?_⟩) ?_ ?_
                   rotate_left
                   ·
                    intro w';go_simp;with_reducible rfl
                   rotate_left
                   ·
                    simp only[Act.put,sa',sb',sc',i64_w,i32_w];rfl
                   refine done_ (done_of HT_.out (by kernel_rfl)) ?_
                   try go_wp2
                   go_roundg k2
                   case measure=>have:=HK1.out;have:=HK2.out;omega
                   case rel=>exact ⟨(x6_2),(x7_2),(wrap64 (x36_2+1)),(by first|rfl|(simp;done)|(simp[*];done)),(by first|rfl|(simp;done)|(simp[*];done)),H',⟨by have:=HK1.out;have:=HK2.out;omega⟩,⟨by (with_reducible repeat (first|apply ra'|apply rn'|apply rw'));exact HO_4.out⟩,⟨by (with_reducible repeat (first|apply Kd.S_alloc|apply Kd.S_drewN|apply Kd.S_drew));exact HO_6.out⟩,⟨by (with_reducible repeat (first|apply ra'|apply rn'|apply rw'));exact HO_34.out⟩,⟨by (with_reducible repeat (first|refine kn' ?_ _|refine kd' ?_|refine ka' ?_ _));exact BK222.out⟩,⟨by repeat (first|(with_reducible first|exact HB.out|apply ba'|apply bd'|apply be'|refine bs' ?_ GE222.out)|exact HB.out)⟩⟩
                 ·
                  rw[if_neg c36] at H;exact absurd H (by simp)
                ·
                 rw[if_neg c35] at H;exact absurd H (by simp)
               ·
                rw[if_neg c34] at H;exact absurd H (by simp)
              ·
               rw[if_neg c33] at H;exact absurd H (by simp)
             ·
              rw[if_neg c31] at H;exact absurd H (by simp)
            ·
             rw[if_neg c30] at H;exact absurd H (by simp)
           ·
            rw[if_neg c29] at H;have c29b0:decide (x36_2 < (t233.length:Int))=false:=decide_eq_false c29;clear c29;have H':=am' H;clear H;go_wp2;go_roundg k2
            case measure=>have:=HK1.out;have:=HK2.out;omega
            case rel=>exact ⟨(x6_2),(x7_2),(by first|rfl|(simp;done)|(simp[*];done)),H',⟨by have:=HK1.out;have:=HK2.out;omega⟩,⟨by (with_reducible repeat (first|apply ra'|apply rn'|apply rw'));exact Kd.R_mono HO_4.out (fun _ hk=>trivial)⟩,⟨by (with_reducible repeat (first|apply Kd.S_alloc|apply Kd.S_drewN|apply Kd.S_drew));exact Kd.S_mono HO_6.out (fun _ hk=>hk.1)⟩,⟨by (with_reducible repeat (first|refine kn' ?_ _|refine kd' ?_|refine ka' ?_ _));exact BK222.out⟩,⟨by repeat (first|(with_reducible first|exact HB.out|apply ba'|apply bd'|apply be'|refine bs' ?_ GE222.out)|exact HB.out)⟩⟩
        ·
         rw[if_neg c24] at H;have c24b0:decide (0 < (rd t225 x7_1))=false:=decide_eq_false c24;clear c24;simp only[Option.some.injEq,Prod.mk.injEq] at H;obtain ⟨rfl,rfl⟩:=H;have p232:0≤(x7_1:Int):=of_decide_eq_true (by first|(with_reducible assumption)|assumption);have q232:x7_1 < (t225.length:Int):=of_decide_eq_true (by first|(with_reducible assumption)|assumption);obtain ⟨ad232,e232,hx232_0⟩:=Kd.at_int (Kd.R_reads' HO_4.out).2.2 x7_1 p232 q232;obtain rfl:ad231=ad232:=(by injection e232)
         replace p232:=eq_true p232;replace q232:=eq_true q232;go_wp2;go_ret2
         exact ⟨_,by first|rfl|(simp[errW_none,errW_some] <;> rfl)|(simp[*,errW_none,errW_some] <;> rfl),by (with_reducible repeat (first|apply Kd.S_alloc|apply Kd.S_drewN|apply Kd.S_drew));exact Kd.S_mono HO_6.out (fun _ hk=>trivial),by repeat (first|(with_reducible first|exact HB.out|apply ba'|apply bd'|apply be'|refine bs' ?_ GE222.out)|exact HB.out)⟩
       ·
        rw[if_neg c23] at H;exact absurd H (by simp)
      ·
       rw[if_neg c22] at H;exact absurd H (by simp)
  ·
   rw[if_neg c6] at H;exact absurd H (by simp)
 ·
  replace c3:=Bool.eq_false_iff.mpr c3;subst c3;have H1:(some (([]:List (List Int)),false))=some (r1,r2):=by rw[if_neg (show ¬ (false=true) by decide)] at H;exact H
  clear H;have H:=H1;clear H1;simp only[Option.some.injEq,Prod.mk.injEq] at H;obtain ⟨rfl,rfl⟩:=H;go_enter Try.func55,Try.ntmps55;go_wp2_with (first|((with_reducible refine gate_dst (N:=1) rfl ?_);refine box_event ?hg (N:=1) ?hd (cs:=#[.int .i64 a0_0, .int .i64 a0_1]) (t:=40) ?hr ?_;(case hd=>rfl);(case hg=>rfl);(case hr=>first|(go_simp;done)|(go_simp;rfl));intro gb222 hg w45 hbox hb;have n0_:=am' (below_step (by repeat (first|(with_reducible first|exact HB.out|apply ba'|apply bd'|apply be')|exact HB.out)) hb);have n1_:=am' (hbox);have n2_:=am' ((by rw[hg];exact (below_size (by repeat (first|(with_reducible first|exact HB.out|apply ba'|apply bd'|apply be')|exact HB.out))):w.heap.size≤gb222));have n3_:=am' ((by rw[hg];exact (below_size (by repeat (first|(with_reducible first|exact HB.out|apply ba'|apply bd'|apply be')|exact HB.out))):w.heap.size≤gb222));clear HB;have HB:=n0_;have BK222:=n1_;have GW222:=n2_;have GE222:=n3_;clear n0_ n1_ n2_ n3_;clear hb hbox hg;have hcz46_0:w45.cell? ⟨gb222,0,none⟩=some (.int .i64 a0_0):=(blk_cell BK222.out 0).trans rfl;have hcz46_1:w45.cell? ⟨gb222,1,none⟩=some (.int .i64 a0_1):=(blk_cell BK222.out 1).trans rfl;have hfz46_0:=blk_frozen BK222.out 0;have hfz46_1:=blk_frozen BK222.out 1)|((with_reducible refine gate_callee (f:=75) rfl ?_);refine goesL_ (some 12) rfl rfl Try.func75 (by kernel_rfl) rfl #[.agg #[.int .i64 a0_0, .int .i64 a0_1]] rfl (by (try simp only[List.map_toArray,List.map_cons,List.map_nil]);first|done|rfl|(simp only[List.length_drop,List.length_take];rfl)) ?_;(with_reducible refine (spec_cuGood.calls a0_0 a0_1 false _ A2.out).mono ?_);rintro e w47 ⟨rfl,hb⟩;refine ⟨_,rfl,?_⟩;have n0_:=am' (blk_below (g:=gb222) (o := .cells #[.int .i64 a0_0, .int .i64 a0_1] 40 (0,0)) (by (with_reducible repeat (first|refine kn' ?_ _|refine kd' ?_|refine ka' ?_ _));exact BK222.out) hb);have n1_:=am' (below_step (by repeat (first|(with_reducible first|exact HB.out|apply ba'|apply bd'|apply be'|refine bs' ?_ GE222.out)|exact HB.out)) hb);clear BK222;clear HB;have BK222:=n0_;have HB:=n1_;clear n0_ n1_;(try clear hb);(try clear hb2);(try clear hk);(try clear hi)));go_ret2
  exact ⟨_,by first|rfl|(simp[errW_none,errW_some] <;> rfl)|(simp[*,errW_none,errW_some] <;> rfl),by first|exact Kd.S_nil _ _ _ _ _|exact Kd.N_nil _ _ _ _ _|exact Kd.V_nil _ _ _ _ _|exact Kd.Q_nil _ _ _ _ _|exact Kd.R_nil _ _ _ _ _,by repeat (first|(with_reducible first|exact HB.out|apply ba'|apply bd'|apply be'|refine bs' ?_ GE222.out)|exact HB.out)⟩
end Go.Proofs.Ytibdeohiimjocaa.C19
