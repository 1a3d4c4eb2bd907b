import Derived.Test.YtdomojenlofieaaC1zx0
import Derived.Test.YtdomojenlofieaaC1zx7
import Derived.Test.YtdomojenlofieaaC1zAl
namespace Go.Proofs.Ytdomojenlofieaa.C1
open Go.RowKit Go.Proofs.YtdomojenlofieaaW.PrintWords Go.Proofs.YtdomojenlofieaaW.PrintLast Go.Proofs.YtdomojenlofieaaW.PrintMore Go.Proofs.Ytdomojenlofieaa.H
attribute [local go_sem] max2_int min2_int max_two min_two max_three min_three max_four min_four
set_option linter.unusedVariables false
set_option linter.unusedSimpArgs false
def impl_Party_isPlan.f (k:Nat) (l0_0:List Int) (a0_1:Int) (l1:List (List Int)):Option (Bool):=if (l1.length:Int) > 40 then (some false) else ((impl_allAt.f (l0_0.length:Int) false).bind fun bt258=>((impl_Party_failing.f k l0_0 a0_1 bt258.1 bt258.2 l1).bind fun bt262=>(if bt262.2.2 < 0 then (if bt262.2.1=true then ((slices_Contains_bool_bool.f k bt262.1 false).bind fun t268=>(some (!t268))) else (some false)) else (some false))))
def impl_Party_isPlan.T3:Bool × List (List Nat × List Nat):=(true,[([],[]),([],[]),([1],[1]),([2],[2]),([3],[3]),([],[]),([0,4,5,4],[0,4,5]),([6],[6]),([7],[7]),([7],[7]),([],[]),([10,8,6,0,1,2,3,4,5,6,7,8,10],[8,10]),([9,11,0,1,2,3,4,5,6,7,8,9,10,11],[9])])
def impl_Party_isPlan.B3:List Nat:=[0,0,2,6,14,0,63,127,255,255,0,1535,4095]
theorem impl_Party_isPlan.tab3:rtab .any (opsOf Try.f48 3)=impl_Party_isPlan.T3:=by kernel_rfl
theorem impl_Party_isPlan.bits3:waitsOk impl_Party_isPlan.T3.2 impl_Party_isPlan.B3=true:=by kernel_rfl
set_option maxHeartbeats 8000000 in
set_option maxRecDepth 100000 in
theorem impl_Party_isPlan.calls (k:Nat) (A0_0:Option Addr) (c0_0:Nat) (l0_0:List Int) (a0_1:Int) (A1:Option Addr) (c1:Nat) (l1:List (List Int)) (r:Bool) (w:World) (hr0_0:Kd.C (Kd.int .i64) w A0_0 l0_0.length l0_0) (hc0_0:l0_0.length≤c0_0) (hr1:Kd.C (Kd.slice 3 (Kd.int .i64)) w A1 l1.length l1) (hc1:l1.length≤c1) (h:impl_Party_isPlan.f k l0_0 a0_1 l1=some r) :
  Calls Try.prog 48 #[.agg #[.slice A0_0 l0_0.length c0_0, .int .i64 a0_1], .slice A1 l1.length c1] w fun e w'=>e = .returned (.bool r)∧Below w.heap.size w w':=by
 have hu52:=Try.underlying52
 have hu80:=Try.underlying80
 have HR0_0:=am' hr0_0
 have HC0_0:=am' hc0_0
 clear hr0_0 hc0_0;have HR1:=am' hr1
 have HC1:=am' hc1
 clear hr1 hc1;have HB:=am' (Below.refl w.heap.size w)
 have H:(if (l1.length:Int) > 40 then (some false) else ((impl_allAt.f (l0_0.length:Int) false).bind fun bt258=>((impl_Party_failing.f k l0_0 a0_1 bt258.1 bt258.2 l1).bind fun bt262=>(if bt262.2.2 < 0 then (if bt262.2.1=true then ((slices_Contains_bool_bool.f k bt262.1 false).bind fun t268=>(some (!t268))) else (some false)) else (some false)))))=some r:=h
 clear h;by_cases c3:(l1.length:Int) > 40
 ·
  rw[if_pos c3] at H;have c3b0:decide (40 < (l1.length:Int))=true:=decide_eq_true c3;have c3b1:decide (40 < l1.length)=true:=decide_eq_true (by omega);clear c3;obtain rfl:=Option.some.inj H;go_enter Try.func48,Try.ntmps48;go_wp2_with (first|((with_reducible refine gate_dst (N:=2) rfl ?_);refine box_event ?hg (N:=2) ?hd (cs:=#[.slice A0_0 l0_0.length c0_0, .int .i64 a0_1]) (t:=52) ?hr ?_;(case hd=>rfl);(case hg=>rfl);(case hr=>first|(go_simp;done)|(go_simp;rfl));intro gb257 hg w4 hbox hb;have n0_:=am' (below_step (by repeat (first|(with_reducible first|exact HB.out|apply ba'|apply bd'|apply be')|exact HB.out)) hb);have n1_:=am' (hbox);have n2_:=am' ((by rw[hg];exact (below_size (by repeat (first|(with_reducible first|exact HB.out|apply ba'|apply bd'|apply be')|exact HB.out))):w.heap.size≤gb257));have n3_:=am' ((by rw[hg];exact (below_size (by repeat (first|(with_reducible first|exact HB.out|apply ba'|apply bd'|apply be')|exact HB.out))):w.heap.size≤gb257));clear HB;have HB:=n0_;have BK257:=n1_;have GW257:=n2_;have GE257:=n3_;clear n0_ n1_ n2_ n3_;clear hb hbox hg));go_ret
  exact ⟨by first|rfl|(simp[errW_none,errW_some] <;> rfl)|(simp[*,errW_none,errW_some] <;> rfl),by repeat (first|(with_reducible first|exact HB.out|apply ba'|apply bd'|apply be'|refine bs' ?_ GE257.out)|exact HB.out)⟩
 ·
  rw[if_neg c3] at H;have c3b0:decide (40 < (l1.length:Int))=false:=decide_eq_false c3;have c3b1:decide (40 < l1.length)=false:=decide_eq_false (by omega);clear c3;replace H:=Option.bind_eq_some_iff.mp H;obtain ⟨⟨t258,t261⟩,A50,H⟩:=H;replace H:((impl_Party_failing.f k l0_0 a0_1 t258 t261 l1).bind fun bt262=>(if bt262.2.2 < 0 then (if bt262.2.1=true then ((slices_Contains_bool_bool.f k bt262.1 false).bind fun t268=>(some (!t268))) else (some false)) else (some false)))=some r:=H;have A5:=am' A50;clear A50;replace H:=Option.bind_eq_some_iff.mp H;obtain ⟨⟨t262,t265,t266⟩,A60,H⟩:=H;replace H:(if t266 < 0 then (if t265=true then ((slices_Contains_bool_bool.f k t262 false).bind fun t268=>(some (!t268))) else (some false)) else (some false))=some r:=H;have A6:=am' A60;clear A60;by_cases c7:t266 < 0
  ·
   rw[if_pos c7] at H;have c7b0:decide (t266 < 0)=true:=decide_eq_true c7;clear c7;by_cases c8:t265=true
   ·
    subst c8;have H1:((slices_Contains_bool_bool.f k t262 false).bind fun t268=>(some (!t268)))=some r:=by rw[if_pos rfl] at H;exact H
    clear H;have H:=H1;clear H1;replace H:=Option.bind_eq_some_iff.mp H;obtain ⟨t268,A90,H⟩:=H;replace H:(some (!t268))=some r:=H;have A9:=am' A90;clear A90;obtain rfl:=Option.some.inj H;go_enter Try.func48,Try.ntmps48
    try go_wp2_with (first|((with_reducible refine gate_dst (N:=2) rfl ?_);refine box_event ?hg (N:=2) ?hd (cs:=#[.slice A0_0 l0_0.length c0_0, .int .i64 a0_1]) (t:=52) ?hr ?_;(case hd=>rfl);(case hg=>rfl);(case hr=>first|(go_simp;done)|(go_simp;rfl));intro gb257 hg w10 hbox hb;have n0_:=am' (below_step (by repeat (first|(with_reducible first|exact HB.out|apply ba'|apply bd'|apply be')|exact HB.out)) hb);have n1_:=am' (hbox);have n2_:=am' ((by rw[hg];exact (below_size (by repeat (first|(with_reducible first|exact HB.out|apply ba'|apply bd'|apply be')|exact HB.out))):w.heap.size≤gb257));have n3_:=am' ((by rw[hg];exact (below_size (by repeat (first|(with_reducible first|exact HB.out|apply ba'|apply bd'|apply be')|exact HB.out))):w.heap.size≤gb257));clear HB;have HB:=n0_;have BK257:=n1_;have GW257:=n2_;have GE257:=n3_;clear n0_ n1_ n2_ n3_;clear hb hbox hg))
    have n0_:=am' (kd' BK257.out);have n1_:=am' (be' HB.out);clear BK257;clear HB;have BK257:=n0_;have HB:=n1_;clear n0_ n1_;refine start_ (n:=13) (S:=fun w'=>w'.cell? ⟨gb257,0,none⟩=some (.slice A0_0 l0_0.length c0_0)∧w'.cell? ⟨gb257,1,none⟩=some (.int .i64 a0_1)) (ds:=[]) #[false,false,false,false,false,false,false,false,false,false,false,false,false] (by kernel_rfl) rfl rfl ⟨(blk_cell BK257.out 0).trans rfl,(blk_cell BK257.out 1).trans rfl⟩ (fun hHeld=>?_);refine with_tabW impl_Party_isPlan.tab3 impl_Party_isPlan.bits3 (fun HT_ HW_=>?_);generalize w10.drew=w11 at BK257 HB hHeld ⊢
    refine pure_ (i:=1) (N:=some 12) (v:=?_) (a':=?_) #[false,true,false,false,false,false,false,false,false,false,false,false,false] rfl rfl (any_of HT_.out (by kernel_rfl)) (fun _ _ _ h=>h) (Or.inl ⟨by rfl,?_⟩) ?_ ?_
    rotate_left
    ·
     intro w';go_simp;with_reducible rfl
    rotate_left
    ·
     simp only[Act.put,sa',sb',sc',i64_w,i32_w];rfl
    refine pure_ (i:=5) (N:=some 16) (v:=?_) (a':=?_) #[false,true,false,false,false,true,false,false,false,false,false,false,false] rfl rfl (any_of HT_.out (by kernel_rfl)) (fun _ _ _ h=>h) (Or.inl ⟨by rfl,?_⟩) ?_ ?_
    rotate_left
    ·
     intro w';go_simp;with_reducible rfl
    rotate_left
    ·
     simp only[Act.put,sa',sb',sc',i64_w,i32_w];rfl
    refine take_ (i:=0) (N:=some 11) (v:=?_) (a':=?_) #[true,true,false,false,false,true,false,false,false,false,false,false,false] rfl rfl (take_ofW HT_.out HW_.out (by kernel_rfl)) (fun _ _ _ h=>h) (Or.inl ⟨by rfl,?_⟩) hHeld ?_ ?_
    rotate_left
    ·
     rintro w' ⟨s0,s1⟩
     go_simp;with_reducible rfl
    rotate_left
    ·
     simp only[Act.put,sa',sb',sc',i64_w,i32_w];rfl
    refine take_ (i:=2) (N:=some 13) (v:=?_) (a':=?_) #[true,true,true,false,false,true,false,false,false,false,false,false,false] rfl rfl (take_ofW HT_.out HW_.out (by kernel_rfl)) (fun _ _ _ h=>h) (Or.inl ⟨by rfl,?_⟩) hHeld ?_ ?_
    rotate_left
    ·
     rintro w' ⟨s0,s1⟩
     go_simp;with_reducible rfl
    rotate_left
    ·
     simp only[Act.put,sa',sb',sc',i64_w,i32_w];rfl
    refine pure_ (i:=3) (N:=some 14) (v:=?_) (a':=?_) #[true,true,true,true,false,true,false,false,false,false,false,false,false] rfl rfl (any_of HT_.out (by kernel_rfl)) (fun _ _ _ h=>h) (Or.inl ⟨by rfl,?_⟩) ?_ ?_
    rotate_left
    ·
     intro w';go_simp;with_reducible rfl
    rotate_left
    ·
     simp only[Act.put,sa',sb',sc',i64_w,i32_w];rfl
    refine join_ (σ:=Value × Value × Nat) 2 #[true,true,true,true,true,true,true,true,true,true,true,false,false] (fun s_=>[(15, .agg #[s_.1, .bool t261]),(17, .tuple #[.agg #[s_.2.1, .bool true], .int .i64 t266]),(5, .pointer (some ⟨s_.2.2,0,none⟩)),(10, .tuple #[.agg #[s_.2.1, .bool true], .int .i64 t266]),(18, .agg #[s_.2.1, .bool true]),(19, .int .i64 t266)]) (fun s_ w'=>(w'.cell? ⟨gb257,0,none⟩=some (.slice A0_0 l0_0.length c0_0)∧w'.cell? ⟨gb257,1,none⟩=some (.int .i64 a0_1))∧(Kd.R Kd.bool 4 w' w.heap.size (fun _=>True) s_.1 t258)∧(Kd.V Kd.bool 4 w' w.heap.size (fun k_=>k_≠gb257∧k_≠s_.2.2) s_.2.1 t262)∧(w'.heap[gb257]? = some (.cells #[.slice A0_0 l0_0.length c0_0, .int .i64 a0_1] 52 (0,0)))∧(w'.heap[s_.2.2]? = some (.cells #[.slice none 0 0, .bool false] 80 (0,0)))∧(w.heap.size≤s_.2.2)∧(w.heap.size≤s_.2.2)∧(gb257≠s_.2.2)∧(s_.2.2≠gb257)∧(Below w.heap.size w w')) ?_ ?_
    rotate_left
    ·
     intro hCont;refine two_ (i:=4) (j:=10) (Ni:=some 15) (Nj:=some 5) #[true,true,true,true,true,true,false,false,false,false,false,false,false] #[true,true,true,true,false,true,false,false,false,false,true,false,false] rfl rfl rfl rfl (two_of HT_.out (by kernel_rfl)) (by decide) (by decide) (fun K hK=>?_) (fun K hK=>?_)
     ·
      skip
      refine goes_ Try.func68 (by kernel_rfl) rfl #[.int .i64 (l0_0.length:Int), .bool false] (by rfl) rfl rfl (by (try simp only[List.map_toArray,List.map_cons,List.map_nil]);first|done|rfl|(simp only[List.length_drop,List.length_take];rfl)) ?_
      with_reducible refine (impl_allAt.calls (l0_0.length:Int) false t258 t261 _ A5.out).mono ?_
      rintro e w12 ⟨v259,rfl,ho0,hb⟩
      refine ⟨_,rfl,?_⟩;have n0_:=am' (Kd.R_lower ho0 (below_size (by repeat (first|(with_reducible first|exact HB.out|apply ba'|apply bd'|apply be'|refine bs' ?_ GE257.out)|exact HB.out))));have n1_:=am' (blk_below (g:=gb257) (o := .cells #[.slice A0_0 l0_0.length c0_0, .int .i64 a0_1] 52 (0,0)) (by (with_reducible repeat (first|refine kn' ?_ _|refine kd' ?_|refine ka' ?_ _));exact BK257.out) hb);have n2_:=am' (below_step (by repeat (first|(with_reducible first|exact HB.out|apply ba'|apply bd'|apply be'|refine bs' ?_ GE257.out)|exact HB.out)) hb);clear BK257;clear HB;have HO260:=n0_;have BK257:=n1_;have HB:=n2_;clear n0_ n1_ n2_;(try clear hb)
      (try clear hb2)
      (try clear hk)
      (try clear hi)
      (try clear ho0)
      obtain ⟨Ao13,co13,eo13⟩:=Kd.R_slice HO260.out
      (first|subst eo13|(injection eo13 with f1_ f2_ f3_;have f4_:=f1_.symm;have f5_:=f3_.symm;clear f1_ f2_ f3_;subst f4_;subst f5_))
      refine hK.out _ _ ⟨(blk_cell BK257.out 0).trans rfl,(blk_cell BK257.out 1).trans rfl⟩ (fun hHeld=>?_);clear hK K;refine norm_ (a':=?_) ?_ ?_
      rotate_left
      ·
       show Act.put _ (some 15) _=_
       simp only[Act.put,sa',sb',sc',i64_w,i32_w];rfl
      refine two_ (i:=6) (j:=10) (Ni:=some 17) (Nj:=some 5) #[true,true,true,true,true,true,true,false,false,false,false,false,false] #[true,true,true,true,true,true,false,false,false,false,true,false,false] rfl rfl rfl rfl (two_of HT_.out (by kernel_rfl)) (by decide) (by decide) (fun K hK=>?_) (fun K hK=>?_)
      ·
       skip
       refine goes_ Try.func67 (by kernel_rfl) rfl #[.agg #[.slice A0_0 l0_0.length c0_0, .int .i64 a0_1], .agg #[.slice Ao13 t258.length co13, .bool t261], .slice A1 l1.length c1] (by rfl) rfl rfl (by (try simp only[List.map_toArray,List.map_cons,List.map_nil]);first|done|rfl|(simp only[List.length_drop,List.length_take];rfl)) ?_
       with_reducible refine (impl_Party_failing.calls k _ _ l0_0 a0_1 (fun k_=>some k_=(.slice Ao13 t258.length co13:Value).ownBlock) _ _ t258 t261 _ _ l1 t262 true t266 _ ?side1 ?side2 ?side3 ?side4 ?side5 A6.out).mono ?_
       (case side1=>repeat (first|exact (Kd.C_below HR0_0.out HB.out)|(with_reducible refine ca' ?_ _)|(with_reducible refine cn' ?_ _)|(with_reducible refine cd' ?_)))
       (case side2=>exact HC0_0.out)
       (case side3=>exact Kd.R_V (Kd.R_tight rfl (Kd.R_types (HO260.out) BK257.out (by decide))))
       (case side4=>repeat (first|exact (Kd.C_below HR1.out HB.out)|(with_reducible refine ca' ?_ _)|(with_reducible refine cn' ?_ _)|(with_reducible refine cd' ?_)))
       (case side5=>exact HC1.out)
       rintro e w14 ⟨v263,rfl,ho0,hb⟩
       refine ⟨_,rfl,?_⟩;have n0_:=am' (Kd.R_below (by (with_reducible repeat (first|apply ra'|apply rn'|apply rw'));exact HO260.out) hb);have n1_:=am' (Kd.V_lower (Kd.V_mono (ok':=fun k_=>k_≠gb257) ho0 (fun k_ hk_=>Or.elim hk_ (fun hs_=>((Kd.R_types (HO260.out) BK257.out (by decide)).1 k_ hs_.symm).2) (fun hn_=>(Kd.freshB (g:=gb257) (o := .cells #[.slice A0_0 l0_0.length c0_0, .int .i64 a0_1] 52 (0,0)) (by (with_reducible repeat (first|refine kn' ?_ _|refine kd' ?_|refine ka' ?_ _));exact BK257.out) k_ hn_)))) (below_size (by repeat (first|(with_reducible first|exact HB.out|apply ba'|apply bd'|apply be'|refine bs' ?_ GE257.out)|exact HB.out))));have n2_:=am' (blk_below (g:=gb257) (o := .cells #[.slice A0_0 l0_0.length c0_0, .int .i64 a0_1] 52 (0,0)) (by (with_reducible repeat (first|refine kn' ?_ _|refine kd' ?_|refine ka' ?_ _));exact BK257.out) hb);have n3_:=am' (below_step (by repeat (first|(with_reducible first|exact HB.out|apply ba'|apply bd'|apply be'|refine bs' ?_ GE257.out)|exact HB.out)) hb);clear HO260;clear BK257;clear HB;have HO260:=n0_;have HO264:=n1_;have BK257:=n2_;have HB:=n3_;clear n0_ n1_ n2_ n3_;(try clear hb)
       (try clear hb2)
       (try clear hk)
       (try clear hi)
       (try clear ho0)
       refine hK.out _ _ ⟨(blk_cell BK257.out 0).trans rfl,(blk_cell BK257.out 1).trans rfl⟩ (fun hHeld=>?_);clear hK K;refine norm_ (a':=?_) ?_ ?_
       rotate_left
       ·
        show Act.put _ (some 17) _=_
        simp only[Act.put,sa',sb',sc',i64_w,i32_w];rfl
       refine pure_ (i:=7) (N:=some 10) (v:=?_) (a':=?_) #[true,true,true,true,true,true,true,true,false,false,false,false,false] rfl rfl (any_of HT_.out (by kernel_rfl)) (fun _ _ _ h=>h) (Or.inl ⟨by rfl,?_⟩) ?_ ?_
       rotate_left
       ·
        intro w';go_simp;with_reducible rfl
       rotate_left
       ·
        simp only[Act.put,sa',sb',sc',i64_w,i32_w];rfl
       refine pure_ (i:=8) (N:=some 18) (v:=?_) (a':=?_) #[true,true,true,true,true,true,true,true,true,false,false,false,false] rfl rfl (any_of HT_.out (by kernel_rfl)) (fun _ _ _ h=>h) (Or.inl ⟨by rfl,?_⟩) ?_ ?_
       rotate_left
       ·
        intro w';go_simp;with_reducible rfl
       rotate_left
       ·
        simp only[Act.put,sa',sb',sc',i64_w,i32_w];rfl
       refine pure_ (i:=9) (N:=some 19) (v:=?_) (a':=?_) #[true,true,true,true,true,true,true,true,true,true,false,false,false] rfl rfl (any_of HT_.out (by kernel_rfl)) (fun _ _ _ h=>h) (Or.inl ⟨by rfl,?_⟩) ?_ ?_
       rotate_left
       ·
        intro w';go_simp;with_reducible rfl
       rotate_left
       ·
        simp only[Act.put,sa',sb',sc',i64_w,i32_w];rfl
       refine one_ (i:=10) (N:=some 5) #[true,true,true,true,true,true,true,true,true,true,true,false,false] rfl rfl (one_of HT_.out (by kernel_rfl)) (by decide) (fun K hK=>?_);refine box_step ?hg (N:=5) ?hd (cs:=#[.slice none 0 0, .bool false]) (t:=80) ?hr ?_;(case hd=>rfl);(case hg=>rfl);(case hr=>first|(go_simp;done)|(go_simp;rfl))
       intro gb267 hg w15 hbox hb;have n0_:=am' (Kd.R_below (by (with_reducible repeat (first|apply ra'|apply rn'|apply rw'));exact HO260.out) hb);have n1_:=am' (Kd.V_below (Kd.V_elderB (by (with_reducible repeat (first|apply Kd.V_alloc|apply Kd.V_drewN|apply Kd.V_drew));exact HO264.out) gb267 (Nat.le_of_eq hg.symm)) hb);have n2_:=am' (blk_below (g:=gb257) (o := .cells #[.slice A0_0 l0_0.length c0_0, .int .i64 a0_1] 52 (0,0)) (by (with_reducible repeat (first|refine kn' ?_ _|refine kd' ?_|refine ka' ?_ _));exact BK257.out) hb);have n3_:=am' (below_step (by repeat (first|(with_reducible first|exact HB.out|apply ba'|apply bd'|apply be'|refine bs' ?_ GE257.out)|exact HB.out)) hb);have n4_:=am' (hbox);have n5_:=am' ((by rw[hg];exact (below_size (by repeat (first|(with_reducible first|exact HB.out|apply ba'|apply bd'|apply be'|refine bs' ?_ GE257.out)|exact HB.out))):w.heap.size≤gb267));have n6_:=am' ((by rw[hg];exact (below_size (by repeat (first|(with_reducible first|exact HB.out|apply ba'|apply bd'|apply be'|refine bs' ?_ GE257.out)|exact HB.out))):w.heap.size≤gb267));have n7_:=am' ((by rw[hg];exact Nat.ne_of_lt (blk_lt (g:=gb257) (o := .cells #[.slice A0_0 l0_0.length c0_0, .int .i64 a0_1] 52 (0,0)) (by (with_reducible repeat (first|refine kn' ?_ _|refine kd' ?_|refine ka' ?_ _));exact BK257.out)):gb257≠gb267));have n8_:=am' ((by rw[hg];exact Nat.ne_of_gt (blk_lt (g:=gb257) (o := .cells #[.slice A0_0 l0_0.length c0_0, .int .i64 a0_1] 52 (0,0)) (by (with_reducible repeat (first|refine kn' ?_ _|refine kd' ?_|refine ka' ?_ _));exact BK257.out)):gb267≠gb257));clear HO260;clear HO264;clear BK257;clear HB;have HO260:=n0_;have HO264:=n1_;have BK257:=n2_;have HB:=n3_;have BK267:=n4_;have GW267:=n5_;have GE267:=n6_;have NB257_267:=n7_;have NB267_257:=n8_;clear n0_ n1_ n2_ n3_ n4_ n5_ n6_ n7_ n8_;clear hb hbox hg;refine hK.out _ _ ⟨(blk_cell BK257.out 0).trans rfl,(blk_cell BK257.out 1).trans rfl⟩ (fun hHeld=>?_);clear hK K;refine norm_ (a':=?_) ?_ ?_
       rotate_left
       ·
        show Act.put _ (some 5) _=_
        simp only[Act.put,sa',sb',sc',i64_w,i32_w];rfl
       exact norm_ (by simp only[putAll,Act.put,sa',sb',sc']) (hCont (.slice Ao13 t258.length co13,v263,gb267) _ ⟨hHeld,(by (with_reducible repeat (first|apply ra'|apply rn'|apply rw'));exact HO260.out),(by (with_reducible repeat (first|apply Kd.V_alloc|apply Kd.V_drewN|apply Kd.V_drew));exact HO264.out),(by (with_reducible repeat (first|refine kn' ?_ _|refine kd' ?_|refine ka' ?_ _));exact BK257.out),(by (with_reducible repeat (first|refine kn' ?_ _|refine kd' ?_|refine ka' ?_ _));exact BK267.out),GW267.out,GE267.out,NB257_267.out,NB267_257.out,(by repeat (first|(with_reducible first|exact HB.out|apply ba'|apply bd'|apply be'|refine bs' ?_ GE257.out|refine bs' ?_ GE267.out)|exact HB.out))⟩)
      ·
       skip
       refine box_step ?hg (N:=5) ?hd (cs:=#[.slice none 0 0, .bool false]) (t:=80) ?hr ?_;(case hd=>rfl);(case hg=>rfl);(case hr=>first|(go_simp;done)|(go_simp;rfl))
       intro gb267 hg w13 hbox hb;have n0_:=am' (Kd.R_below (by (with_reducible repeat (first|apply ra'|apply rn'|apply rw'));exact HO260.out) hb);have n1_:=am' (blk_below (g:=gb257) (o := .cells #[.slice A0_0 l0_0.length c0_0, .int .i64 a0_1] 52 (0,0)) (by (with_reducible repeat (first|refine kn' ?_ _|refine kd' ?_|refine ka' ?_ _));exact BK257.out) hb);have n2_:=am' (below_step (by repeat (first|(with_reducible first|exact HB.out|apply ba'|apply bd'|apply be'|refine bs' ?_ GE257.out)|exact HB.out)) hb);have n3_:=am' (hbox);have n4_:=am' ((by rw[hg];exact (below_size (by repeat (first|(with_reducible first|exact HB.out|apply ba'|apply bd'|apply be'|refine bs' ?_ GE257.out)|exact HB.out))):w.heap.size≤gb267));have n5_:=am' ((by rw[hg];exact (below_size (by repeat (first|(with_reducible first|exact HB.out|apply ba'|apply bd'|apply be'|refine bs' ?_ GE257.out)|exact HB.out))):w.heap.size≤gb267));have n6_:=am' ((by rw[hg];exact Nat.ne_of_lt (blk_lt (g:=gb257) (o := .cells #[.slice A0_0 l0_0.length c0_0, .int .i64 a0_1] 52 (0,0)) (by (with_reducible repeat (first|refine kn' ?_ _|refine kd' ?_|refine ka' ?_ _));exact BK257.out)):gb257≠gb267));have n7_:=am' ((by rw[hg];exact Nat.ne_of_gt (blk_lt (g:=gb257) (o := .cells #[.slice A0_0 l0_0.length c0_0, .int .i64 a0_1] 52 (0,0)) (by (with_reducible repeat (first|refine kn' ?_ _|refine kd' ?_|refine ka' ?_ _));exact BK257.out)):gb267≠gb257));clear HO260;clear BK257;clear HB;have HO260:=n0_;have BK257:=n1_;have HB:=n2_;have BK267:=n3_;have GW267:=n4_;have GE267:=n5_;have NB257_267:=n6_;have NB267_257:=n7_;clear n0_ n1_ n2_ n3_ n4_ n5_ n6_ n7_;clear hb hbox hg;obtain ⟨Ao14,co14,eo14⟩:=Kd.R_slice HO260.out
       (first|subst eo14|(injection eo14 with f1_ f2_ f3_;have f4_:=f1_.symm;have f5_:=f3_.symm;clear f1_ f2_ f3_;subst f4_;subst f5_))
       refine hK.out _ _ ⟨(blk_cell BK257.out 0).trans rfl,(blk_cell BK257.out 1).trans rfl⟩ (fun hHeld=>?_);clear hK K;refine norm_ (a':=?_) ?_ ?_
       rotate_left
       ·
        show Act.put _ (some 5) _=_
        simp only[Act.put,sa',sb',sc',i64_w,i32_w];rfl
       refine one_ (i:=6) (N:=some 17) #[true,true,true,true,true,true,true,false,false,false,true,false,false] rfl rfl (one_of HT_.out (by kernel_rfl)) (by decide) (fun K hK=>?_);refine goes_ Try.func67 (by kernel_rfl) rfl #[.agg #[.slice A0_0 l0_0.length c0_0, .int .i64 a0_1], .agg #[.slice Ao14 t258.length co14, .bool t261], .slice A1 l1.length c1] (by rfl) rfl rfl (by (try simp only[List.map_toArray,List.map_cons,List.map_nil]);first|done|rfl|(simp only[List.length_drop,List.length_take];rfl)) ?_
       with_reducible refine (impl_Party_failing.calls k _ _ l0_0 a0_1 (fun k_=>some k_=(.slice Ao14 t258.length co14:Value).ownBlock) _ _ t258 t261 _ _ l1 t262 true t266 _ ?side1 ?side2 ?side3 ?side4 ?side5 A6.out).mono ?_
       (case side1=>repeat (first|exact (Kd.C_below HR0_0.out HB.out)|(with_reducible refine ca' ?_ _)|(with_reducible refine cn' ?_ _)|(with_reducible refine cd' ?_)))
       (case side2=>exact HC0_0.out)
       (case side3=>exact Kd.R_V (Kd.R_tight rfl (Kd.R_types (Kd.R_types (HO260.out) BK257.out (by decide)) BK267.out (by decide))))
       (case side4=>repeat (first|exact (Kd.C_below HR1.out HB.out)|(with_reducible refine ca' ?_ _)|(with_reducible refine cn' ?_ _)|(with_reducible refine cd' ?_)))
       (case side5=>exact HC1.out)
       rintro e w15 ⟨v263,rfl,ho0,hb⟩
       refine ⟨_,rfl,?_⟩;have n0_:=am' (Kd.R_below (by (with_reducible repeat (first|apply ra'|apply rn'|apply rw'));exact HO260.out) hb);have n1_:=am' (Kd.V_lower (Kd.V_mono (ok':=fun k_=>k_≠gb257∧k_≠gb267) ho0 (fun k_ hk_=>⟨Or.elim hk_ (fun hs_=>((Kd.R_types (Kd.R_types (HO260.out) BK257.out (by decide)) BK267.out (by decide)).1 k_ hs_.symm).1.2) (fun hn_=>(Kd.freshB (g:=gb257) (o := .cells #[.slice A0_0 l0_0.length c0_0, .int .i64 a0_1] 52 (0,0)) (by (with_reducible repeat (first|refine kn' ?_ _|refine kd' ?_|refine ka' ?_ _));exact BK257.out) k_ hn_)),Or.elim hk_ (fun hs_=>((Kd.R_types (Kd.R_types (HO260.out) BK257.out (by decide)) BK267.out (by decide)).1 k_ hs_.symm).2) (fun hn_=>(Kd.freshB (g:=gb267) (o := .cells #[.slice none 0 0, .bool false] 80 (0,0)) (by (with_reducible repeat (first|refine kn' ?_ _|refine kd' ?_|refine ka' ?_ _));exact BK267.out) k_ hn_))⟩)) (below_size (by repeat (first|(with_reducible first|exact HB.out|apply ba'|apply bd'|apply be'|refine bs' ?_ GE257.out|refine bs' ?_ GE267.out)|exact HB.out))));have n2_:=am' (blk_below (g:=gb257) (o := .cells #[.slice A0_0 l0_0.length c0_0, .int .i64 a0_1] 52 (0,0)) (by (with_reducible repeat (first|refine kn' ?_ _|refine kd' ?_|refine ka' ?_ _));exact BK257.out) hb);have n3_:=am' (blk_below (g:=gb267) (o := .cells #[.slice none 0 0, .bool false] 80 (0,0)) (by (with_reducible repeat (first|refine kn' ?_ _|refine kd' ?_|refine ka' ?_ _));exact BK267.out) hb);have n4_:=am' (below_step (by repeat (first|(with_reducible first|exact HB.out|apply ba'|apply bd'|apply be'|refine bs' ?_ GE257.out|refine bs' ?_ GE267.out)|exact HB.out)) hb);clear HO260;clear BK257;clear BK267;clear HB;have HO260:=n0_;have HO264:=n1_;have BK257:=n2_;have BK267:=n3_;have HB:=n4_;clear n0_ n1_ n2_ n3_ n4_;(try clear hb)
       (try clear hb2)
       (try clear hk)
       (try clear hi)
       (try clear ho0)
       refine hK.out _ _ ⟨(blk_cell BK257.out 0).trans rfl,(blk_cell BK257.out 1).trans rfl⟩ (fun hHeld=>?_);clear hK K;refine norm_ (a':=?_) ?_ ?_
       rotate_left
       ·
        show Act.put _ (some 17) _=_
        simp only[Act.put,sa',sb',sc',i64_w,i32_w];rfl
       refine pure_ (i:=7) (N:=some 10) (v:=?_) (a':=?_) #[true,true,true,true,true,true,true,true,false,false,true,false,false] rfl rfl (any_of HT_.out (by kernel_rfl)) (fun _ _ _ h=>h) (Or.inl ⟨by rfl,?_⟩) ?_ ?_
       rotate_left
       ·
        intro w';go_simp;with_reducible rfl
       rotate_left
       ·
        simp only[Act.put,sa',sb',sc',i64_w,i32_w];rfl
       refine pure_ (i:=8) (N:=some 18) (v:=?_) (a':=?_) #[true,true,true,true,true,true,true,true,true,false,true,false,false] rfl rfl (any_of HT_.out (by kernel_rfl)) (fun _ _ _ h=>h) (Or.inl ⟨by rfl,?_⟩) ?_ ?_
       rotate_left
       ·
        intro w';go_simp;with_reducible rfl
       rotate_left
       ·
        simp only[Act.put,sa',sb',sc',i64_w,i32_w];rfl
       refine pure_ (i:=9) (N:=some 19) (v:=?_) (a':=?_) #[true,true,true,true,true,true,true,true,true,true,true,false,false] rfl rfl (any_of HT_.out (by kernel_rfl)) (fun _ _ _ h=>h) (Or.inl ⟨by rfl,?_⟩) ?_ ?_
       rotate_left
       ·
        intro w';go_simp;with_reducible rfl
       rotate_left
       ·
        simp only[Act.put,sa',sb',sc',i64_w,i32_w];rfl
       exact norm_ (by simp only[putAll,Act.put,sa',sb',sc']) (hCont (.slice Ao14 t258.length co14,v263,gb267) _ ⟨hHeld,(by (with_reducible repeat (first|apply ra'|apply rn'|apply rw'));exact HO260.out),(by (with_reducible repeat (first|apply Kd.V_alloc|apply Kd.V_drewN|apply Kd.V_drew));exact HO264.out),(by (with_reducible repeat (first|refine kn' ?_ _|refine kd' ?_|refine ka' ?_ _));exact BK257.out),(by (with_reducible repeat (first|refine kn' ?_ _|refine kd' ?_|refine ka' ?_ _));exact BK267.out),GW267.out,GE267.out,NB257_267.out,NB267_257.out,(by repeat (first|(with_reducible first|exact HB.out|apply ba'|apply bd'|apply be'|refine bs' ?_ GE257.out|refine bs' ?_ GE267.out)|exact HB.out))⟩)
     ·
      skip
      refine box_step ?hg (N:=5) ?hd (cs:=#[.slice none 0 0, .bool false]) (t:=80) ?hr ?_;(case hd=>rfl);(case hg=>rfl);(case hr=>first|(go_simp;done)|(go_simp;rfl))
      intro gb267 hg w12 hbox hb;have n0_:=am' (blk_below (g:=gb257) (o := .cells #[.slice A0_0 l0_0.length c0_0, .int .i64 a0_1] 52 (0,0)) (by (with_reducible repeat (first|refine kn' ?_ _|refine kd' ?_|refine ka' ?_ _));exact BK257.out) hb);have n1_:=am' (below_step (by repeat (first|(with_reducible first|exact HB.out|apply ba'|apply bd'|apply be'|refine bs' ?_ GE257.out)|exact HB.out)) hb);have n2_:=am' (hbox);have n3_:=am' ((by rw[hg];exact (below_size (by repeat (first|(with_reducible first|exact HB.out|apply ba'|apply bd'|apply be'|refine bs' ?_ GE257.out)|exact HB.out))):w.heap.size≤gb267));have n4_:=am' ((by rw[hg];exact (below_size (by repeat (first|(with_reducible first|exact HB.out|apply ba'|apply bd'|apply be'|refine bs' ?_ GE257.out)|exact HB.out))):w.heap.size≤gb267));have n5_:=am' ((by rw[hg];exact Nat.ne_of_lt (blk_lt (g:=gb257) (o := .cells #[.slice A0_0 l0_0.length c0_0, .int .i64 a0_1] 52 (0,0)) (by (with_reducible repeat (first|refine kn' ?_ _|refine kd' ?_|refine ka' ?_ _));exact BK257.out)):gb257≠gb267));have n6_:=am' ((by rw[hg];exact Nat.ne_of_gt (blk_lt (g:=gb257) (o := .cells #[.slice A0_0 l0_0.length c0_0, .int .i64 a0_1] 52 (0,0)) (by (with_reducible repeat (first|refine kn' ?_ _|refine kd' ?_|refine ka' ?_ _));exact BK257.out)):gb267≠gb257));clear BK257;clear HB;have BK257:=n0_;have HB:=n1_;have BK267:=n2_;have GW267:=n3_;have GE267:=n4_;have NB257_267:=n5_;have NB267_257:=n6_;clear n0_ n1_ n2_ n3_ n4_ n5_ n6_;clear hb hbox hg;refine hK.out _ _ ⟨(blk_cell BK257.out 0).trans rfl,(blk_cell BK257.out 1).trans rfl⟩ (fun hHeld=>?_);clear hK K;refine norm_ (a':=?_) ?_ ?_
      rotate_left
      ·
       show Act.put _ (some 5) _=_
       simp only[Act.put,sa',sb',sc',i64_w,i32_w];rfl
      refine one_ (i:=4) (N:=some 15) #[true,true,true,true,true,true,false,false,false,false,true,false,false] rfl rfl (one_of HT_.out (by kernel_rfl)) (by decide) (fun K hK=>?_);refine goes_ Try.func68 (by kernel_rfl) rfl #[.int .i64 (l0_0.length:Int), .bool false] (by rfl) rfl rfl (by (try simp only[List.map_toArray,List.map_cons,List.map_nil]);first|done|rfl|(simp only[List.length_drop,List.length_take];rfl)) ?_
      with_reducible refine (impl_allAt.calls (l0_0.length:Int) false t258 t261 _ A5.out).mono ?_
      rintro e w13 ⟨v259,rfl,ho0,hb⟩
      refine ⟨_,rfl,?_⟩;have n0_:=am' (Kd.R_lower ho0 (below_size (by repeat (first|(with_reducible first|exact HB.out|apply ba'|apply bd'|apply be'|refine bs' ?_ GE257.out|refine bs' ?_ GE267.out)|exact HB.out))));have n1_:=am' (blk_below (g:=gb257) (o := .cells #[.slice A0_0 l0_0.length c0_0, .int .i64 a0_1] 52 (0,0)) (by (with_reducible repeat (first|refine kn' ?_ _|refine kd' ?_|refine ka' ?_ _));exact BK257.out) hb);have n2_:=am' (blk_below (g:=gb267) (o := .cells #[.slice none 0 0, .bool false] 80 (0,0)) (by (with_reducible repeat (first|refine kn' ?_ _|refine kd' ?_|refine ka' ?_ _));exact BK267.out) hb);have n3_:=am' (below_step (by repeat (first|(with_reducible first|exact HB.out|apply ba'|apply bd'|apply be'|refine bs' ?_ GE257.out|refine bs' ?_ GE267.out)|exact HB.out)) hb);clear BK257;clear BK267;clear HB;have HO260:=n0_;have BK257:=n1_;have BK267:=n2_;have HB:=n3_;clear n0_ n1_ n2_ n3_;(try clear hb)
      (try clear hb2)
      (try clear hk)
      (try clear hi)
      (try clear ho0)
      obtain ⟨Ao14,co14,eo14⟩:=Kd.R_slice HO260.out
      (first|subst eo14|(injection eo14 with f1_ f2_ f3_;have f4_:=f1_.symm;have f5_:=f3_.symm;clear f1_ f2_ f3_;subst f4_;subst f5_))
      refine hK.out _ _ ⟨(blk_cell BK257.out 0).trans rfl,(blk_cell BK257.out 1).trans rfl⟩ (fun hHeld=>?_);clear hK K;refine norm_ (a':=?_) ?_ ?_
      rotate_left
      ·
       show Act.put _ (some 15) _=_
       simp only[Act.put,sa',sb',sc',i64_w,i32_w];rfl
      refine one_ (i:=6) (N:=some 17) #[true,true,true,true,true,true,true,false,false,false,true,false,false] rfl rfl (one_of HT_.out (by kernel_rfl)) (by decide) (fun K hK=>?_);refine goes_ Try.func67 (by kernel_rfl) rfl #[.agg #[.slice A0_0 l0_0.length c0_0, .int .i64 a0_1], .agg #[.slice Ao14 t258.length co14, .bool t261], .slice A1 l1.length c1] (by rfl) rfl rfl (by (try simp only[List.map_toArray,List.map_cons,List.map_nil]);first|done|rfl|(simp only[List.length_drop,List.length_take];rfl)) ?_
      with_reducible refine (impl_Party_failing.calls k _ _ l0_0 a0_1 (fun k_=>some k_=(.slice Ao14 t258.length co14:Value).ownBlock) _ _ t258 t261 _ _ l1 t262 true t266 _ ?side1 ?side2 ?side3 ?side4 ?side5 A6.out).mono ?_
      (case side1=>repeat (first|exact (Kd.C_below HR0_0.out HB.out)|(with_reducible refine ca' ?_ _)|(with_reducible refine cn' ?_ _)|(with_reducible refine cd' ?_)))
      (case side2=>exact HC0_0.out)
      (case side3=>exact Kd.R_V (Kd.R_tight rfl (Kd.R_types (Kd.R_types (HO260.out) BK257.out (by decide)) BK267.out (by decide))))
      (case side4=>repeat (first|exact (Kd.C_below HR1.out HB.out)|(with_reducible refine ca' ?_ _)|(with_reducible refine cn' ?_ _)|(with_reducible refine cd' ?_)))
      (case side5=>exact HC1.out)
      rintro e w15 ⟨v263,rfl,ho0,hb⟩
      refine ⟨_,rfl,?_⟩;have n0_:=am' (Kd.R_below (by (with_reducible repeat (first|apply ra'|apply rn'|apply rw'));exact HO260.out) hb);have n1_:=am' (Kd.V_lower (Kd.V_mono (ok':=fun k_=>k_≠gb257∧k_≠gb267) ho0 (fun k_ hk_=>⟨Or.elim hk_ (fun hs_=>((Kd.R_types (Kd.R_types (HO260.out) BK257.out (by decide)) BK267.out (by decide)).1 k_ hs_.symm).1.2) (fun hn_=>(Kd.freshB (g:=gb257) (o := .cells #[.slice A0_0 l0_0.length c0_0, .int .i64 a0_1] 52 (0,0)) (by (with_reducible repeat (first|refine kn' ?_ _|refine kd' ?_|refine ka' ?_ _));exact BK257.out) k_ hn_)),Or.elim hk_ (fun hs_=>((Kd.R_types (Kd.R_types (HO260.out) BK257.out (by decide)) BK267.out (by decide)).1 k_ hs_.symm).2) (fun hn_=>(Kd.freshB (g:=gb267) (o := .cells #[.slice none 0 0, .bool false] 80 (0,0)) (by (with_reducible repeat (first|refine kn' ?_ _|refine kd' ?_|refine ka' ?_ _));exact BK267.out) k_ hn_))⟩)) (below_size (by repeat (first|(with_reducible first|exact HB.out|apply ba'|apply bd'|apply be'|refine bs' ?_ GE257.out|refine bs' ?_ GE267.out)|exact HB.out))));have n2_:=am' (blk_below (g:=gb257) (o := .cells #[.slice A0_0 l0_0.length c0_0, .int .i64 a0_1] 52 (0,0)) (by (with_reducible repeat (first|refine kn' ?_ _|refine kd' ?_|refine ka' ?_ _));exact BK257.out) hb);have n3_:=am' (blk_below (g:=gb267) (o := .cells #[.slice none 0 0, .bool false] 80 (0,0)) (by (with_reducible repeat (first|refine kn' ?_ _|refine kd' ?_|refine ka' ?_ _));exact BK267.out) hb);have n4_:=am' (below_step (by repeat (first|(with_reducible first|exact HB.out|apply ba'|apply bd'|apply be'|refine bs' ?_ GE257.out|refine bs' ?_ GE267.out)|exact HB.out)) hb);clear HO260;clear BK257;clear BK267;clear HB;have HO260:=n0_;have HO264:=n1_;have BK257:=n2_;have BK267:=n3_;have HB:=n4_;clear n0_ n1_ n2_ n3_ n4_;(try clear hb)
      (try clear hb2)
      (try clear hk)
      (try clear hi)
      (try clear ho0)
      refine hK.out _ _ ⟨(blk_cell BK257.out 0).trans rfl,(blk_cell BK257.out 1).trans rfl⟩ (fun hHeld=>?_);clear hK K;refine norm_ (a':=?_) ?_ ?_
      rotate_left
      ·
       show Act.put _ (some 17) _=_
       simp only[Act.put,sa',sb',sc',i64_w,i32_w];rfl
      refine pure_ (i:=7) (N:=some 10) (v:=?_) (a':=?_) #[true,true,true,true,true,true,true,true,false,false,true,false,false] rfl rfl (any_of HT_.out (by kernel_rfl)) (fun _ _ _ h=>h) (Or.inl ⟨by rfl,?_⟩) ?_ ?_
      rotate_left
      ·
       intro w';go_simp;with_reducible rfl
      rotate_left
      ·
       simp only[Act.put,sa',sb',sc',i64_w,i32_w];rfl
      refine pure_ (i:=8) (N:=some 18) (v:=?_) (a':=?_) #[true,true,true,true,true,true,true,true,true,false,true,false,false] rfl rfl (any_of HT_.out (by kernel_rfl)) (fun _ _ _ h=>h) (Or.inl ⟨by rfl,?_⟩) ?_ ?_
      rotate_left
      ·
       intro w';go_simp;with_reducible rfl
      rotate_left
      ·
       simp only[Act.put,sa',sb',sc',i64_w,i32_w];rfl
      refine pure_ (i:=9) (N:=some 19) (v:=?_) (a':=?_) #[true,true,true,true,true,true,true,true,true,true,true,false,false] rfl rfl (any_of HT_.out (by kernel_rfl)) (fun _ _ _ h=>h) (Or.inl ⟨by rfl,?_⟩) ?_ ?_
      rotate_left
      ·
       intro w';go_simp;with_reducible rfl
      rotate_left
      ·
       simp only[Act.put,sa',sb',sc',i64_w,i32_w];rfl
      exact norm_ (by simp only[putAll,Act.put,sa',sb',sc']) (hCont (.slice Ao14 t258.length co14,v263,gb267) _ ⟨hHeld,(by (with_reducible repeat (first|apply ra'|apply rn'|apply rw'));exact HO260.out),(by (with_reducible repeat (first|apply Kd.V_alloc|apply Kd.V_drewN|apply Kd.V_drew));exact HO264.out),(by (with_reducible repeat (first|refine kn' ?_ _|refine kd' ?_|refine ka' ?_ _));exact BK257.out),(by (with_reducible repeat (first|refine kn' ?_ _|refine kd' ?_|refine ka' ?_ _));exact BK267.out),GW267.out,GE267.out,NB257_267.out,NB267_257.out,(by repeat (first|(with_reducible first|exact HB.out|apply ba'|apply bd'|apply be'|refine bs' ?_ GE257.out|refine bs' ?_ GE267.out)|exact HB.out))⟩)
    rintro ⟨v259,v263,gb267⟩ w16 ⟨hS_,h0_,h1_,h2_,h3_,h4_,h5_,h6_,h7_,h8_⟩
    have n0_:Aside0 (Kd.R Kd.bool 4 w16 w.heap.size (fun _=>True) v259 t258):=⟨h0_⟩
    have n1_:Aside0 (Kd.V Kd.bool 4 w16 w.heap.size (fun k_=>k_≠gb257∧k_≠gb267) v263 t262):=⟨h1_⟩
    have n2_:Aside0 (w16.heap[gb257]? = some (.cells #[.slice A0_0 l0_0.length c0_0, .int .i64 a0_1] 52 (0,0))):=⟨h2_⟩
    have n3_:Aside0 (w16.heap[gb267]? = some (.cells #[.slice none 0 0, .bool false] 80 (0,0))):=⟨h3_⟩
    have n4_:Aside0 (w.heap.size≤gb267):=⟨h4_⟩
    have n5_:Aside0 (w.heap.size≤gb267):=⟨h5_⟩
    have n6_:Aside0 (gb257≠gb267):=⟨h6_⟩
    have n7_:Aside0 (gb267≠gb257):=⟨h7_⟩
    have n8_:Aside0 (Below w.heap.size w w16):=⟨h8_⟩
    clear BK257;clear HB;clear h0_ h1_ h2_ h3_ h4_ h5_ h6_ h7_ h8_;have HO260:=n0_;have HO264:=n1_;have BK257:=n2_;have BK267:=n3_;have GW267:=n4_;have GE267:=n5_;have NB257_267:=n6_;have NB267_257:=n7_;have HB:=n8_;clear n0_ n1_ n2_ n3_ n4_ n5_ n6_ n7_ n8_;have hHeld:w16.cell? ⟨gb257,0,none⟩=some (.slice A0_0 l0_0.length c0_0)∧w16.cell? ⟨gb257,1,none⟩=some (.int .i64 a0_1):=hS_;obtain ⟨Ao17,co17,eo17⟩:=Kd.V_slice HO264.out
    (first|subst eo17|(injection eo17 with f1_ f2_ f3_;have f4_:=f1_.symm;have f5_:=f3_.symm;clear f1_ f2_ f3_;subst f4_;subst f5_))
    refine norm_ (a':=?_) ?_ ?_
    rotate_left
    ·
     simp only[putAll,Act.put,sa',sb',sc'];rfl
    refine one_ (i:=11) (N:=none) #[true,true,true,true,true,true,true,true,true,true,true,true,false] rfl rfl (one_of HT_.out (by kernel_rfl)) (by decide) (fun K hK=>?_);have hs18:w16.cell? ⟨gb267,0,none⟩=some (.slice none 0 0):=(blk_cell BK267.out 0).trans rfl;have hfs18:=blk_frozen BK267.out 0;have hns18_0:=NB257_267.out;have hms18_0:=NB267_257.out;have hs19:w16.cell? ⟨gb267,1,none⟩=some (.bool false):=(blk_cell BK267.out 1).trans rfl;have hfs19:=blk_frozen BK267.out 1;have hns19_0:=NB257_267.out;have hms19_0:=NB267_257.out;refine skip_ (w1:=?_) (by rfl) rfl ?_ ?_
    rotate_left
    ·
     go_simp;rfl
    refine hK.out _ _ ⟨((cell_far (p:=⟨gb267,_,none⟩) NB257_267.out _).trans (((cell_far (p:=⟨gb267,_,none⟩) NB257_267.out _).trans (hHeld.1)))),((cell_far (p:=⟨gb267,_,none⟩) NB257_267.out _).trans (((cell_far (p:=⟨gb267,_,none⟩) NB257_267.out _).trans (hHeld.2))))⟩ (fun hHeld=>?_);clear hK K;refine pure_ (i:=12) (N:=some 6) (v:=?_) (a':=?_) #[true,true,true,true,true,true,true,true,true,true,true,true,true] rfl rfl (any_of HT_.out (by kernel_rfl)) (fun _ _ _ h=>h) (Or.inl ⟨by rfl,?_⟩) ?_ ?_
    rotate_left
    ·
     intro w';go_simp;with_reducible rfl
    rotate_left
    ·
     simp only[Act.put,sa',sb',sc',i64_w,i32_w];rfl
    refine done_ (done_of HT_.out (by kernel_rfl)) ?_
    have hnb20:=NB267_257.out;have hnc20:=NB257_267.out;have hcz21_0:w16.cell? ⟨gb267,0,none⟩=some (.slice none 0 0):=(blk_cell BK267.out 0).trans rfl;have hcz21_1:w16.cell? ⟨gb267,1,none⟩=some (.bool false):=(blk_cell BK267.out 1).trans rfl;have hfz21_0:=blk_frozen BK267.out 0;have hfz21_1:=blk_frozen BK267.out 1
    try go_wp2_with (first|(go_at_call 69;(with_reducible refine (slices_Contains_bool_bool.calls k _ _ t262 false t268 _ ?side1 ?side2 A9.out).mono ?_);(case side1=>refine (Kd.V_reads' (e:=4) (base:=w.heap.size) (ok:=fun k_=>(k_≠gb257∧k_≠gb267)) (n:=t262.length) (c:=co17) ?_).2.2;exact (by (with_reducible repeat (first|apply Kd.V_alloc|apply Kd.V_drewN|apply Kd.V_drew));exact (Kd.V_mono (Kd.V_far (p:=⟨gb267,1,none⟩) (Kd.V_far (p:=⟨gb267,0,none⟩) (Kd.V_mono HO264.out (fun k_ hk=>(⟨hk,hk.2⟩:_∧k_≠gb267))) (fun _ hk=>hk.2) (.slice Ao17 t262.length co17)) (fun _ hk=>hk.2) (.bool true)) (fun _ h_=>h_.1))));(case side2=>exact (Kd.V_reads' HO264.out).2.1);rintro e w' ⟨rfl,⟨nd,rfl⟩⟩))
    go_ret
    exact ⟨by first|rfl|(simp[errW_none,errW_some] <;> rfl)|(simp[*,errW_none,errW_some] <;> rfl),by repeat (first|(with_reducible first|exact HB.out|apply ba'|apply bd'|apply be'|refine bs' ?_ GE257.out|refine bs' ?_ GE267.out)|exact HB.out)⟩
   ·
    replace c8:=Bool.eq_false_iff.mpr c8;subst c8;have H1:(some false)=some r:=by rw[if_neg (show ¬ (false=true) by decide)] at H;exact H
    clear H;have H:=H1;clear H1;obtain rfl:=Option.some.inj H;go_enter Try.func48,Try.ntmps48
    try go_wp2_with (first|((with_reducible refine gate_dst (N:=2) rfl ?_);refine box_event ?hg (N:=2) ?hd (cs:=#[.slice A0_0 l0_0.length c0_0, .int .i64 a0_1]) (t:=52) ?hr ?_;(case hd=>rfl);(case hg=>rfl);(case hr=>first|(go_simp;done)|(go_simp;rfl));intro gb257 hg w22 hbox hb;have n0_:=am' (below_step (by repeat (first|(with_reducible first|exact HB.out|apply ba'|apply bd'|apply be')|exact HB.out)) hb);have n1_:=am' (hbox);have n2_:=am' ((by rw[hg];exact (below_size (by repeat (first|(with_reducible first|exact HB.out|apply ba'|apply bd'|apply be')|exact HB.out))):w.heap.size≤gb257));have n3_:=am' ((by rw[hg];exact (below_size (by repeat (first|(with_reducible first|exact HB.out|apply ba'|apply bd'|apply be')|exact HB.out))):w.heap.size≤gb257));clear HB;have HB:=n0_;have BK257:=n1_;have GW257:=n2_;have GE257:=n3_;clear n0_ n1_ n2_ n3_;clear hb hbox hg))
    have n0_:=am' (kd' BK257.out);have n1_:=am' (be' HB.out);clear BK257;clear HB;have BK257:=n0_;have HB:=n1_;clear n0_ n1_;refine start_ (n:=13) (S:=fun w'=>w'.cell? ⟨gb257,0,none⟩=some (.slice A0_0 l0_0.length c0_0)∧w'.cell? ⟨gb257,1,none⟩=some (.int .i64 a0_1)) (ds:=[]) #[false,false,false,false,false,false,false,false,false,false,false,false,false] (by kernel_rfl) rfl rfl ⟨(blk_cell BK257.out 0).trans rfl,(blk_cell BK257.out 1).trans rfl⟩ (fun hHeld=>?_);refine with_tabW impl_Party_isPlan.tab3 impl_Party_isPlan.bits3 (fun HT_ HW_=>?_);generalize w22.drew=w23 at BK257 HB hHeld ⊢
    refine pure_ (i:=1) (N:=some 12) (v:=?_) (a':=?_) #[false,true,false,false,false,false,false,false,false,false,false,false,false] rfl rfl (any_of HT_.out (by kernel_rfl)) (fun _ _ _ h=>h) (Or.inl ⟨by rfl,?_⟩) ?_ ?_
    rotate_left
    ·
     intro w';go_simp;with_reducible rfl
    rotate_left
    ·
     simp only[Act.put,sa',sb',sc',i64_w,i32_w];rfl
    refine pure_ (i:=5) (N:=some 16) (v:=?_) (a':=?_) #[false,true,false,false,false,true,false,false,false,false,false,false,false] rfl rfl (any_of HT_.out (by kernel_rfl)) (fun _ _ _ h=>h) (Or.inl ⟨by rfl,?_⟩) ?_ ?_
    rotate_left
    ·
     intro w';go_simp;with_reducible rfl
    rotate_left
    ·
     simp only[Act.put,sa',sb',sc',i64_w,i32_w];rfl
    refine take_ (i:=0) (N:=some 11) (v:=?_) (a':=?_) #[true,true,false,false,false,true,false,false,false,false,false,false,false] rfl rfl (take_ofW HT_.out HW_.out (by kernel_rfl)) (fun _ _ _ h=>h) (Or.inl ⟨by rfl,?_⟩) hHeld ?_ ?_
    rotate_left
    ·
     rintro w' ⟨s0,s1⟩
     go_simp;with_reducible rfl
    rotate_left
    ·
     simp only[Act.put,sa',sb',sc',i64_w,i32_w];rfl
    refine take_ (i:=2) (N:=some 13) (v:=?_) (a':=?_) #[true,true,true,false,false,true,false,false,false,false,false,false,false] rfl rfl (take_ofW HT_.out HW_.out (by kernel_rfl)) (fun _ _ _ h=>h) (Or.inl ⟨by rfl,?_⟩) hHeld ?_ ?_
    rotate_left
    ·
     rintro w' ⟨s0,s1⟩
     go_simp;with_reducible rfl
    rotate_left
    ·
     simp only[Act.put,sa',sb',sc',i64_w,i32_w];rfl
    refine pure_ (i:=3) (N:=some 14) (v:=?_) (a':=?_) #[true,true,true,true,false,true,false,false,false,false,false,false,false] rfl rfl (any_of HT_.out (by kernel_rfl)) (fun _ _ _ h=>h) (Or.inl ⟨by rfl,?_⟩) ?_ ?_
    rotate_left
    ·
     intro w';go_simp;with_reducible rfl
    rotate_left
    ·
     simp only[Act.put,sa',sb',sc',i64_w,i32_w];rfl
    refine join_ (σ:=Value × Value × Nat) 2 #[true,true,true,true,true,true,true,true,true,true,true,false,false] (fun s_=>[(15, .agg #[s_.1, .bool t261]),(17, .tuple #[.agg #[s_.2.1, .bool false], .int .i64 t266]),(5, .pointer (some ⟨s_.2.2,0,none⟩)),(10, .tuple #[.agg #[s_.2.1, .bool false], .int .i64 t266]),(18, .agg #[s_.2.1, .bool false]),(19, .int .i64 t266)]) (fun s_ w'=>(w'.cell? ⟨gb257,0,none⟩=some (.slice A0_0 l0_0.length c0_0)∧w'.cell? ⟨gb257,1,none⟩=some (.int .i64 a0_1))∧(Kd.R Kd.bool 4 w' w.heap.size (fun _=>True) s_.1 t258)∧(Kd.V Kd.bool 4 w' w.heap.size (fun k_=>k_≠gb257∧k_≠s_.2.2) s_.2.1 t262)∧(w'.heap[gb257]? = some (.cells #[.slice A0_0 l0_0.length c0_0, .int .i64 a0_1] 52 (0,0)))∧(w'.heap[s_.2.2]? = some (.cells #[.slice none 0 0, .bool false] 80 (0,0)))∧(w.heap.size≤s_.2.2)∧(w.heap.size≤s_.2.2)∧(gb257≠s_.2.2)∧(s_.2.2≠gb257)∧(Below w.heap.size w w')) ?_ ?_
    rotate_left
    ·
     intro hCont;refine two_ (i:=4) (j:=10) (Ni:=some 15) (Nj:=some 5) #[true,true,true,true,true,true,false,false,false,false,false,false,false] #[true,true,true,true,false,true,false,false,false,false,true,false,false] rfl rfl rfl rfl (two_of HT_.out (by kernel_rfl)) (by decide) (by decide) (fun K hK=>?_) (fun K hK=>?_)
     ·
      skip
      refine goes_ Try.func68 (by kernel_rfl) rfl #[.int .i64 (l0_0.length:Int), .bool false] (by rfl) rfl rfl (by (try simp only[List.map_toArray,List.map_cons,List.map_nil]);first|done|rfl|(simp only[List.length_drop,List.length_take];rfl)) ?_
      with_reducible refine (impl_allAt.calls (l0_0.length:Int) false t258 t261 _ A5.out).mono ?_
      rintro e w24 ⟨v259,rfl,ho0,hb⟩
      refine ⟨_,rfl,?_⟩;have n0_:=am' (Kd.R_lower ho0 (below_size (by repeat (first|(with_reducible first|exact HB.out|apply ba'|apply bd'|apply be'|refine bs' ?_ GE257.out)|exact HB.out))));have n1_:=am' (blk_below (g:=gb257) (o := .cells #[.slice A0_0 l0_0.length c0_0, .int .i64 a0_1] 52 (0,0)) (by (with_reducible repeat (first|refine kn' ?_ _|refine kd' ?_|refine ka' ?_ _));exact BK257.out) hb);have n2_:=am' (below_step (by repeat (first|(with_reducible first|exact HB.out|apply ba'|apply bd'|apply be'|refine bs' ?_ GE257.out)|exact HB.out)) hb);clear BK257;clear HB;have HO260:=n0_;have BK257:=n1_;have HB:=n2_;clear n0_ n1_ n2_;(try clear hb)
      (try clear hb2)
      (try clear hk)
      (try clear hi)
      (try clear ho0)
      obtain ⟨Ao25,co25,eo25⟩:=Kd.R_slice HO260.out
      (first|subst eo25|(injection eo25 with f1_ f2_ f3_;have f4_:=f1_.symm;have f5_:=f3_.symm;clear f1_ f2_ f3_;subst f4_;subst f5_))
      refine hK.out _ _ ⟨(blk_cell BK257.out 0).trans rfl,(blk_cell BK257.out 1).trans rfl⟩ (fun hHeld=>?_);clear hK K;refine norm_ (a':=?_) ?_ ?_
      rotate_left
      ·
       show Act.put _ (some 15) _=_
       simp only[Act.put,sa',sb',sc',i64_w,i32_w];rfl
      refine two_ (i:=6) (j:=10) (Ni:=some 17) (Nj:=some 5) #[true,true,true,true,true,true,true,false,false,false,false,false,false] #[true,true,true,true,true,true,false,false,false,false,true,false,false] rfl rfl rfl rfl (two_of HT_.out (by kernel_rfl)) (by decide) (by decide) (fun K hK=>?_) (fun K hK=>?_)
      ·
       skip
       refine goes_ Try.func67 (by kernel_rfl) rfl #[.agg #[.slice A0_0 l0_0.length c0_0, .int .i64 a0_1], .agg #[.slice Ao25 t258.length co25, .bool t261], .slice A1 l1.length c1] (by rfl) rfl rfl (by (try simp only[List.map_toArray,List.map_cons,List.map_nil]);first|done|rfl|(simp only[List.length_drop,List.length_take];rfl)) ?_
       with_reducible refine (impl_Party_failing.calls k _ _ l0_0 a0_1 (fun k_=>some k_=(.slice Ao25 t258.length co25:Value).ownBlock) _ _ t258 t261 _ _ l1 t262 false t266 _ ?side1 ?side2 ?side3 ?side4 ?side5 A6.out).mono ?_
       (case side1=>repeat (first|exact (Kd.C_below HR0_0.out HB.out)|(with_reducible refine ca' ?_ _)|(with_reducible refine cn' ?_ _)|(with_reducible refine cd' ?_)))
       (case side2=>exact HC0_0.out)
       (case side3=>exact Kd.R_V (Kd.R_tight rfl (Kd.R_types (HO260.out) BK257.out (by decide))))
       (case side4=>repeat (first|exact (Kd.C_below HR1.out HB.out)|(with_reducible refine ca' ?_ _)|(with_reducible refine cn' ?_ _)|(with_reducible refine cd' ?_)))
       (case side5=>exact HC1.out)
       rintro e w26 ⟨v263,rfl,ho0,hb⟩
       refine ⟨_,rfl,?_⟩;have n0_:=am' (Kd.R_below (by (with_reducible repeat (first|apply ra'|apply rn'|apply rw'));exact HO260.out) hb);have n1_:=am' (Kd.V_lower (Kd.V_mono (ok':=fun k_=>k_≠gb257) ho0 (fun k_ hk_=>Or.elim hk_ (fun hs_=>((Kd.R_types (HO260.out) BK257.out (by decide)).1 k_ hs_.symm).2) (fun hn_=>(Kd.freshB (g:=gb257) (o := .cells #[.slice A0_0 l0_0.length c0_0, .int .i64 a0_1] 52 (0,0)) (by (with_reducible repeat (first|refine kn' ?_ _|refine kd' ?_|refine ka' ?_ _));exact BK257.out) k_ hn_)))) (below_size (by repeat (first|(with_reducible first|exact HB.out|apply ba'|apply bd'|apply be'|refine bs' ?_ GE257.out)|exact HB.out))));have n2_:=am' (blk_below (g:=gb257) (o := .cells #[.slice A0_0 l0_0.length c0_0, .int .i64 a0_1] 52 (0,0)) (by (with_reducible repeat (first|refine kn' ?_ _|refine kd' ?_|refine ka' ?_ _));exact BK257.out) hb);have n3_:=am' (below_step (by repeat (first|(with_reducible first|exact HB.out|apply ba'|apply bd'|apply be'|refine bs' ?_ GE257.out)|exact HB.out)) hb);clear HO260;clear BK257;clear HB;have HO260:=n0_;have HO264:=n1_;have BK257:=n2_;have HB:=n3_;clear n0_ n1_ n2_ n3_;(try clear hb)
       (try clear hb2)
       (try clear hk)
       (try clear hi)
       (try clear ho0)
       refine hK.out _ _ ⟨(blk_cell BK257.out 0).trans rfl,(blk_cell BK257.out 1).trans rfl⟩ (fun hHeld=>?_);clear hK K;refine norm_ (a':=?_) ?_ ?_
       rotate_left
       ·
        show Act.put _ (some 17) _=_
        simp only[Act.put,sa',sb',sc',i64_w,i32_w];rfl
       refine pure_ (i:=7) (N:=some 10) (v:=?_) (a':=?_) #[true,true,true,true,true,true,true,true,false,false,false,false,false] rfl rfl (any_of HT_.out (by kernel_rfl)) (fun _ _ _ h=>h) (Or.inl ⟨by rfl,?_⟩) ?_ ?_
       rotate_left
       ·
        intro w';go_simp;with_reducible rfl
       rotate_left
       ·
        simp only[Act.put,sa',sb',sc',i64_w,i32_w];rfl
       refine pure_ (i:=8) (N:=some 18) (v:=?_) (a':=?_) #[true,true,true,true,true,true,true,true,true,false,false,false,false] rfl rfl (any_of HT_.out (by kernel_rfl)) (fun _ _ _ h=>h) (Or.inl ⟨by rfl,?_⟩) ?_ ?_
       rotate_left
       ·
        intro w';go_simp;with_reducible rfl
       rotate_left
       ·
        simp only[Act.put,sa',sb',sc',i64_w,i32_w];rfl
       refine pure_ (i:=9) (N:=some 19) (v:=?_) (a':=?_) #[true,true,true,true,true,true,true,true,true,true,false,false,false] rfl rfl (any_of HT_.out (by kernel_rfl)) (fun _ _ _ h=>h) (Or.inl ⟨by rfl,?_⟩) ?_ ?_
       rotate_left
       ·
        intro w';go_simp;with_reducible rfl
       rotate_left
       ·
        simp only[Act.put,sa',sb',sc',i64_w,i32_w];rfl
       refine one_ (i:=10) (N:=some 5) #[true,true,true,true,true,true,true,true,true,true,true,false,false] rfl rfl (one_of HT_.out (by kernel_rfl)) (by decide) (fun K hK=>?_);refine box_step ?hg (N:=5) ?hd (cs:=#[.slice none 0 0, .bool false]) (t:=80) ?hr ?_;(case hd=>rfl);(case hg=>rfl);(case hr=>first|(go_simp;done)|(go_simp;rfl))
       intro gb267 hg w27 hbox hb;have n0_:=am' (Kd.R_below (by (with_reducible repeat (first|apply ra'|apply rn'|apply rw'));exact HO260.out) hb);have n1_:=am' (Kd.V_below (Kd.V_elderB (by (with_reducible repeat (first|apply Kd.V_alloc|apply Kd.V_drewN|apply Kd.V_drew));exact HO264.out) gb267 (Nat.le_of_eq hg.symm)) hb);have n2_:=am' (blk_below (g:=gb257) (o := .cells #[.slice A0_0 l0_0.length c0_0, .int .i64 a0_1] 52 (0,0)) (by (with_reducible repeat (first|refine kn' ?_ _|refine kd' ?_|refine ka' ?_ _));exact BK257.out) hb);have n3_:=am' (below_step (by repeat (first|(with_reducible first|exact HB.out|apply ba'|apply bd'|apply be'|refine bs' ?_ GE257.out)|exact HB.out)) hb);have n4_:=am' (hbox);have n5_:=am' ((by rw[hg];exact (below_size (by repeat (first|(with_reducible first|exact HB.out|apply ba'|apply bd'|apply be'|refine bs' ?_ GE257.out)|exact HB.out))):w.heap.size≤gb267));have n6_:=am' ((by rw[hg];exact (below_size (by repeat (first|(with_reducible first|exact HB.out|apply ba'|apply bd'|apply be'|refine bs' ?_ GE257.out)|exact HB.out))):w.heap.size≤gb267));have n7_:=am' ((by rw[hg];exact Nat.ne_of_lt (blk_lt (g:=gb257) (o := .cells #[.slice A0_0 l0_0.length c0_0, .int .i64 a0_1] 52 (0,0)) (by (with_reducible repeat (first|refine kn' ?_ _|refine kd' ?_|refine ka' ?_ _));exact BK257.out)):gb257≠gb267));have n8_:=am' ((by rw[hg];exact Nat.ne_of_gt (blk_lt (g:=gb257) (o := .cells #[.slice A0_0 l0_0.length c0_0, .int .i64 a0_1] 52 (0,0)) (by (with_reducible repeat (first|refine kn' ?_ _|refine kd' ?_|refine ka' ?_ _));exact BK257.out)):gb267≠gb257));clear HO260;clear HO264;clear BK257;clear HB;have HO260:=n0_;have HO264:=n1_;have BK257:=n2_;have HB:=n3_;have BK267:=n4_;have GW267:=n5_;have GE267:=n6_;have NB257_267:=n7_;have NB267_257:=n8_;clear n0_ n1_ n2_ n3_ n4_ n5_ n6_ n7_ n8_;clear hb hbox hg;refine hK.out _ _ ⟨(blk_cell BK257.out 0).trans rfl,(blk_cell BK257.out 1).trans rfl⟩ (fun hHeld=>?_);clear hK K;refine norm_ (a':=?_) ?_ ?_
       rotate_left
       ·
        show Act.put _ (some 5) _=_
        simp only[Act.put,sa',sb',sc',i64_w,i32_w];rfl
       exact norm_ (by simp only[putAll,Act.put,sa',sb',sc']) (hCont (.slice Ao25 t258.length co25,v263,gb267) _ ⟨hHeld,(by (with_reducible repeat (first|apply ra'|apply rn'|apply rw'));exact HO260.out),(by (with_reducible repeat (first|apply Kd.V_alloc|apply Kd.V_drewN|apply Kd.V_drew));exact HO264.out),(by (with_reducible repeat (first|refine kn' ?_ _|refine kd' ?_|refine ka' ?_ _));exact BK257.out),(by (with_reducible repeat (first|refine kn' ?_ _|refine kd' ?_|refine ka' ?_ _));exact BK267.out),GW267.out,GE267.out,NB257_267.out,NB267_257.out,(by repeat (first|(with_reducible first|exact HB.out|apply ba'|apply bd'|apply be'|refine bs' ?_ GE257.out|refine bs' ?_ GE267.out)|exact HB.out))⟩)
      ·
       skip
       refine box_step ?hg (N:=5) ?hd (cs:=#[.slice none 0 0, .bool false]) (t:=80) ?hr ?_;(case hd=>rfl);(case hg=>rfl);(case hr=>first|(go_simp;done)|(go_simp;rfl))
       intro gb267 hg w25 hbox hb;have n0_:=am' (Kd.R_below (by (with_reducible repeat (first|apply ra'|apply rn'|apply rw'));exact HO260.out) hb);have n1_:=am' (blk_below (g:=gb257) (o := .cells #[.slice A0_0 l0_0.length c0_0, .int .i64 a0_1] 52 (0,0)) (by (with_reducible repeat (first|refine kn' ?_ _|refine kd' ?_|refine ka' ?_ _));exact BK257.out) hb);have n2_:=am' (below_step (by repeat (first|(with_reducible first|exact HB.out|apply ba'|apply bd'|apply be'|refine bs' ?_ GE257.out)|exact HB.out)) hb);have n3_:=am' (hbox);have n4_:=am' ((by rw[hg];exact (below_size (by repeat (first|(with_reducible first|exact HB.out|apply ba'|apply bd'|apply be'|refine bs' ?_ GE257.out)|exact HB.out))):w.heap.size≤gb267));have n5_:=am' ((by rw[hg];exact (below_size (by repeat (first|(with_reducible first|exact HB.out|apply ba'|apply bd'|apply be'|refine bs' ?_ GE257.out)|exact HB.out))):w.heap.size≤gb267));have n6_:=am' ((by rw[hg];exact Nat.ne_of_lt (blk_lt (g:=gb257) (o := .cells #[.slice A0_0 l0_0.length c0_0, .int .i64 a0_1] 52 (0,0)) (by (with_reducible repeat (first|refine kn' ?_ _|refine kd' ?_|refine ka' ?_ _));exact BK257.out)):gb257≠gb267));have n7_:=am' ((by rw[hg];exact Nat.ne_of_gt (blk_lt (g:=gb257) (o := .cells #[.slice A0_0 l0_0.length c0_0, .int .i64 a0_1] 52 (0,0)) (by (with_reducible repeat (first|refine kn' ?_ _|refine kd' ?_|refine ka' ?_ _));exact BK257.out)):gb267≠gb257));clear HO260;clear BK257;clear HB;have HO260:=n0_;have BK257:=n1_;have HB:=n2_;have BK267:=n3_;have GW267:=n4_;have GE267:=n5_;have NB257_267:=n6_;have NB267_257:=n7_;clear n0_ n1_ n2_ n3_ n4_ n5_ n6_ n7_;clear hb hbox hg;obtain ⟨Ao26,co26,eo26⟩:=Kd.R_slice HO260.out
       (first|subst eo26|(injection eo26 with f1_ f2_ f3_;have f4_:=f1_.symm;have f5_:=f3_.symm;clear f1_ f2_ f3_;subst f4_;subst f5_))
       refine hK.out _ _ ⟨(blk_cell BK257.out 0).trans rfl,(blk_cell BK257.out 1).trans rfl⟩ (fun hHeld=>?_);clear hK K;refine norm_ (a':=?_) ?_ ?_
       rotate_left
       ·
        show Act.put _ (some 5) _=_
        simp only[Act.put,sa',sb',sc',i64_w,i32_w];rfl
       refine one_ (i:=6) (N:=some 17) #[true,true,true,true,true,true,true,false,false,false,true,false,false] rfl rfl (one_of HT_.out (by kernel_rfl)) (by decide) (fun K hK=>?_);refine goes_ Try.func67 (by kernel_rfl) rfl #[.agg #[.slice A0_0 l0_0.length c0_0, .int .i64 a0_1], .agg #[.slice Ao26 t258.length co26, .bool t261], .slice A1 l1.length c1] (by rfl) rfl rfl (by (try simp only[List.map_toArray,List.map_cons,List.map_nil]);first|done|rfl|(simp only[List.length_drop,List.length_take];rfl)) ?_
       with_reducible refine (impl_Party_failing.calls k _ _ l0_0 a0_1 (fun k_=>some k_=(.slice Ao26 t258.length co26:Value).ownBlock) _ _ t258 t261 _ _ l1 t262 false t266 _ ?side1 ?side2 ?side3 ?side4 ?side5 A6.out).mono ?_
       (case side1=>repeat (first|exact (Kd.C_below HR0_0.out HB.out)|(with_reducible refine ca' ?_ _)|(with_reducible refine cn' ?_ _)|(with_reducible refine cd' ?_)))
       (case side2=>exact HC0_0.out)
       (case side3=>exact Kd.R_V (Kd.R_tight rfl (Kd.R_types (Kd.R_types (HO260.out) BK257.out (by decide)) BK267.out (by decide))))
       (case side4=>repeat (first|exact (Kd.C_below HR1.out HB.out)|(with_reducible refine ca' ?_ _)|(with_reducible refine cn' ?_ _)|(with_reducible refine cd' ?_)))
       (case side5=>exact HC1.out)
       rintro e w27 ⟨v263,rfl,ho0,hb⟩
       refine ⟨_,rfl,?_⟩;have n0_:=am' (Kd.R_below (by (with_reducible repeat (first|apply ra'|apply rn'|apply rw'));exact HO260.out) hb);have n1_:=am' (Kd.V_lower (Kd.V_mono (ok':=fun k_=>k_≠gb257∧k_≠gb267) ho0 (fun k_ hk_=>⟨Or.elim hk_ (fun hs_=>((Kd.R_types (Kd.R_types (HO260.out) BK257.out (by decide)) BK267.out (by decide)).1 k_ hs_.symm).1.2) (fun hn_=>(Kd.freshB (g:=gb257) (o := .cells #[.slice A0_0 l0_0.length c0_0, .int .i64 a0_1] 52 (0,0)) (by (with_reducible repeat (first|refine kn' ?_ _|refine kd' ?_|refine ka' ?_ _));exact BK257.out) k_ hn_)),Or.elim hk_ (fun hs_=>((Kd.R_types (Kd.R_types (HO260.out) BK257.out (by decide)) BK267.out (by decide)).1 k_ hs_.symm).2) (fun hn_=>(Kd.freshB (g:=gb267) (o := .cells #[.slice none 0 0, .bool false] 80 (0,0)) (by (with_reducible repeat (first|refine kn' ?_ _|refine kd' ?_|refine ka' ?_ _));exact BK267.out) k_ hn_))⟩)) (below_size (by repeat (first|(with_reducible first|exact HB.out|apply ba'|apply bd'|apply be'|refine bs' ?_ GE257.out|refine bs' ?_ GE267.out)|exact HB.out))));have n2_:=am' (blk_below (g:=gb257) (o := .cells #[.slice A0_0 l0_0.length c0_0, .int .i64 a0_1] 52 (0,0)) (by (with_reducible repeat (first|refine kn' ?_ _|refine kd' ?_|refine ka' ?_ _));exact BK257.out) hb);have n3_:=am' (blk_below (g:=gb267) (o := .cells #[.slice none 0 0, .bool false] 80 (0,0)) (by (with_reducible repeat (first|refine kn' ?_ _|refine kd' ?_|refine ka' ?_ _));exact BK267.out) hb);have n4_:=am' (below_step (by repeat (first|(with_reducible first|exact HB.out|apply ba'|apply bd'|apply be'|refine bs' ?_ GE257.out|refine bs' ?_ GE267.out)|exact HB.out)) hb);clear HO260;clear BK257;clear BK267;clear HB;have HO260:=n0_;have HO264:=n1_;have BK257:=n2_;have BK267:=n3_;have HB:=n4_;clear n0_ n1_ n2_ n3_ n4_;(try clear hb)
       (try clear hb2)
       (try clear hk)
       (try clear hi)
       (try clear ho0)
       refine hK.out _ _ ⟨(blk_cell BK257.out 0).trans rfl,(blk_cell BK257.out 1).trans rfl⟩ (fun hHeld=>?_);clear hK K;refine norm_ (a':=?_) ?_ ?_
       rotate_left
       ·
        show Act.put _ (some 17) _=_
        simp only[Act.put,sa',sb',sc',i64_w,i32_w];rfl
       refine pure_ (i:=7) (N:=some 10) (v:=?_) (a':=?_) #[true,true,true,true,true,true,true,true,false,false,true,false,false] rfl rfl (any_of HT_.out (by kernel_rfl)) (fun _ _ _ h=>h) (Or.inl ⟨by rfl,?_⟩) ?_ ?_
       rotate_left
       ·
        intro w';go_simp;with_reducible rfl
       rotate_left
       ·
        simp only[Act.put,sa',sb',sc',i64_w,i32_w];rfl
       refine pure_ (i:=8) (N:=some 18) (v:=?_) (a':=?_) #[true,true,true,true,true,true,true,true,true,false,true,false,false] rfl rfl (any_of HT_.out (by kernel_rfl)) (fun _ _ _ h=>h) (Or.inl ⟨by rfl,?_⟩) ?_ ?_
       rotate_left
       ·
        intro w';go_simp;with_reducible rfl
       rotate_left
       ·
        simp only[Act.put,sa',sb',sc',i64_w,i32_w];rfl
       refine pure_ (i:=9) (N:=some 19) (v:=?_) (a':=?_) #[true,true,true,true,true,true,true,true,true,true,true,false,false] rfl rfl (any_of HT_.out (by kernel_rfl)) (fun _ _ _ h=>h) (Or.inl ⟨by rfl,?_⟩) ?_ ?_
       rotate_left
       ·
        intro w';go_simp;with_reducible rfl
       rotate_left
       ·
        simp only[Act.put,sa',sb',sc',i64_w,i32_w];rfl
       exact norm_ (by simp only[putAll,Act.put,sa',sb',sc']) (hCont (.slice Ao26 t258.length co26,v263,gb267) _ ⟨hHeld,(by (with_reducible repeat (first|apply ra'|apply rn'|apply rw'));exact HO260.out),(by (with_reducible repeat (first|apply Kd.V_alloc|apply Kd.V_drewN|apply Kd.V_drew));exact HO264.out),(by (with_reducible repeat (first|refine kn' ?_ _|refine kd' ?_|refine ka' ?_ _));exact BK257.out),(by (with_reducible repeat (first|refine kn' ?_ _|refine kd' ?_|refine ka' ?_ _));exact BK267.out),GW267.out,GE267.out,NB257_267.out,NB267_257.out,(by repeat (first|(with_reducible first|exact HB.out|apply ba'|apply bd'|apply be'|refine bs' ?_ GE257.out|refine bs' ?_ GE267.out)|exact HB.out))⟩)
     ·
      skip
      refine box_step ?hg (N:=5) ?hd (cs:=#[.slice none 0 0, .bool false]) (t:=80) ?hr ?_;(case hd=>rfl);(case hg=>rfl);(case hr=>first|(go_simp;done)|(go_simp;rfl))
      intro gb267 hg w24 hbox hb;have n0_:=am' (blk_below (g:=gb257) (o := .cells #[.slice A0_0 l0_0.length c0_0, .int .i64 a0_1] 52 (0,0)) (by (with_reducible repeat (first|refine kn' ?_ _|refine kd' ?_|refine ka' ?_ _));exact BK257.out) hb);have n1_:=am' (below_step (by repeat (first|(with_reducible first|exact HB.out|apply ba'|apply bd'|apply be'|refine bs' ?_ GE257.out)|exact HB.out)) hb);have n2_:=am' (hbox);have n3_:=am' ((by rw[hg];exact (below_size (by repeat (first|(with_reducible first|exact HB.out|apply ba'|apply bd'|apply be'|refine bs' ?_ GE257.out)|exact HB.out))):w.heap.size≤gb267));have n4_:=am' ((by rw[hg];exact (below_size (by repeat (first|(with_reducible first|exact HB.out|apply ba'|apply bd'|apply be'|refine bs' ?_ GE257.out)|exact HB.out))):w.heap.size≤gb267));have n5_:=am' ((by rw[hg];exact Nat.ne_of_lt (blk_lt (g:=gb257) (o := .cells #[.slice A0_0 l0_0.length c0_0, .int .i64 a0_1] 52 (0,0)) (by (with_reducible repeat (first|refine kn' ?_ _|refine kd' ?_|refine ka' ?_ _));exact BK257.out)):gb257≠gb267));have n6_:=am' ((by rw[hg];exact Nat.ne_of_gt (blk_lt (g:=gb257) (o := .cells #[.slice A0_0 l0_0.length c0_0, .int .i64 a0_1] 52 (0,0)) (by (with_reducible repeat (first|refine kn' ?_ _|refine kd' ?_|refine ka' ?_ _));exact BK257.out)):gb267≠gb257));clear BK257;clear HB;have BK257:=n0_;have HB:=n1_;have BK267:=n2_;have GW267:=n3_;have GE267:=n4_;have NB257_267:=n5_;have NB267_257:=n6_;clear n0_ n1_ n2_ n3_ n4_ n5_ n6_;clear hb hbox hg;refine hK.out _ _ ⟨(blk_cell BK257.out 0).trans rfl,(blk_cell BK257.out 1).trans rfl⟩ (fun hHeld=>?_);clear hK K;refine norm_ (a':=?_) ?_ ?_
      rotate_left
      ·
       show Act.put _ (some 5) _=_
       simp only[Act.put,sa',sb',sc',i64_w,i32_w];rfl
      refine one_ (i:=4) (N:=some 15) #[true,true,true,true,true,true,false,false,false,false,true,false,false] rfl rfl (one_of HT_.out (by kernel_rfl)) (by decide) (fun K hK=>?_);refine goes_ Try.func68 (by kernel_rfl) rfl #[.int .i64 (l0_0.length:Int), .bool false] (by rfl) rfl rfl (by (try simp only[List.map_toArray,List.map_cons,List.map_nil]);first|done|rfl|(simp only[List.length_drop,List.length_take];rfl)) ?_
      with_reducible refine (impl_allAt.calls (l0_0.length:Int) false t258 t261 _ A5.out).mono ?_
      rintro e w25 ⟨v259,rfl,ho0,hb⟩
      refine ⟨_,rfl,?_⟩;have n0_:=am' (Kd.R_lower ho0 (below_size (by repeat (first|(with_reducible first|exact HB.out|apply ba'|apply bd'|apply be'|refine bs' ?_ GE257.out|refine bs' ?_ GE267.out)|exact HB.out))));have n1_:=am' (blk_below (g:=gb257) (o := .cells #[.slice A0_0 l0_0.length c0_0, .int .i64 a0_1] 52 (0,0)) (by (with_reducible repeat (first|refine kn' ?_ _|refine kd' ?_|refine ka' ?_ _));exact BK257.out) hb);have n2_:=am' (blk_below (g:=gb267) (o := .cells #[.slice none 0 0, .bool false] 80 (0,0)) (by (with_reducible repeat (first|refine kn' ?_ _|refine kd' ?_|refine ka' ?_ _));exact BK267.out) hb);have n3_:=am' (below_step (by repeat (first|(with_reducible first|exact HB.out|apply ba'|apply bd'|apply be'|refine bs' ?_ GE257.out|refine bs' ?_ GE267.out)|exact HB.out)) hb);clear BK257;clear BK267;clear HB;have HO260:=n0_;have BK257:=n1_;have BK267:=n2_;have HB:=n3_;clear n0_ n1_ n2_ n3_;(try clear hb)
      (try clear hb2)
      (try clear hk)
      (try clear hi)
      (try clear ho0)
      obtain ⟨Ao26,co26,eo26⟩:=Kd.R_slice HO260.out
      (first|subst eo26|(injection eo26 with f1_ f2_ f3_;have f4_:=f1_.symm;have f5_:=f3_.symm;clear f1_ f2_ f3_;subst f4_;subst f5_))
      refine hK.out _ _ ⟨(blk_cell BK257.out 0).trans rfl,(blk_cell BK257.out 1).trans rfl⟩ (fun hHeld=>?_);clear hK K;refine norm_ (a':=?_) ?_ ?_
      rotate_left
      ·
       show Act.put _ (some 15) _=_
       simp only[Act.put,sa',sb',sc',i64_w,i32_w];rfl
      refine one_ (i:=6) (N:=some 17) #[true,true,true,true,true,true,true,false,false,false,true,false,false] rfl rfl (one_of HT_.out (by kernel_rfl)) (by decide) (fun K hK=>?_);refine goes_ Try.func67 (by kernel_rfl) rfl #[.agg #[.slice A0_0 l0_0.length c0_0, .int .i64 a0_1], .agg #[.slice Ao26 t258.length co26, .bool t261], .slice A1 l1.length c1] (by rfl) rfl rfl (by (try simp only[List.map_toArray,List.map_cons,List.map_nil]);first|done|rfl|(simp only[List.length_drop,List.length_take];rfl)) ?_
      with_reducible refine (impl_Party_failing.calls k _ _ l0_0 a0_1 (fun k_=>some k_=(.slice Ao26 t258.length co26:Value).ownBlock) _ _ t258 t261 _ _ l1 t262 false t266 _ ?side1 ?side2 ?side3 ?side4 ?side5 A6.out).mono ?_
      (case side1=>repeat (first|exact (Kd.C_below HR0_0.out HB.out)|(with_reducible refine ca' ?_ _)|(with_reducible refine cn' ?_ _)|(with_reducible refine cd' ?_)))
      (case side2=>exact HC0_0.out)
      (case side3=>exact Kd.R_V (Kd.R_tight rfl (Kd.R_types (Kd.R_types (HO260.out) BK257.out (by decide)) BK267.out (by decide))))
      (case side4=>repeat (first|exact (Kd.C_below HR1.out HB.out)|(with_reducible refine ca' ?_ _)|(with_reducible refine cn' ?_ _)|(with_reducible refine cd' ?_)))
      (case side5=>exact HC1.out)
      rintro e w27 ⟨v263,rfl,ho0,hb⟩
      refine ⟨_,rfl,?_⟩;have n0_:=am' (Kd.R_below (by (with_reducible repeat (first|apply ra'|apply rn'|apply rw'));exact HO260.out) hb);have n1_:=am' (Kd.V_lower (Kd.V_mono (ok':=fun k_=>k_≠gb257∧k_≠gb267) ho0 (fun k_ hk_=>⟨Or.elim hk_ (fun hs_=>((Kd.R_types (Kd.R_types (HO260.out) BK257.out (by decide)) BK267.out (by decide)).1 k_ hs_.symm).1.2) (fun hn_=>(Kd.freshB (g:=gb257) (o := .cells #[.slice A0_0 l0_0.length c0_0, .int .i64 a0_1] 52 (0,0)) (by (with_reducible repeat (first|refine kn' ?_ _|refine kd' ?_|refine ka' ?_ _));exact BK257.out) k_ hn_)),Or.elim hk_ (fun hs_=>((Kd.R_types (Kd.R_types (HO260.out) BK257.out (by decide)) BK267.out (by decide)).1 k_ hs_.symm).2) (fun hn_=>(Kd.freshB (g:=gb267) (o := .cells #[.slice none 0 0, .bool false] 80 (0,0)) (by (with_reducible repeat (first|refine kn' ?_ _|refine kd' ?_|refine ka' ?_ _));exact BK267.out) k_ hn_))⟩)) (below_size (by repeat (first|(with_reducible first|exact HB.out|apply ba'|apply bd'|apply be'|refine bs' ?_ GE257.out|refine bs' ?_ GE267.out)|exact HB.out))));have n2_:=am' (blk_below (g:=gb257) (o := .cells #[.slice A0_0 l0_0.length c0_0, .int .i64 a0_1] 52 (0,0)) (by (with_reducible repeat (first|refine kn' ?_ _|refine kd' ?_|refine ka' ?_ _));exact BK257.out) hb);have n3_:=am' (blk_below (g:=gb267) (o := .cells #[.slice none 0 0, .bool false] 80 (0,0)) (by (with_reducible repeat (first|refine kn' ?_ _|refine kd' ?_|refine ka' ?_ _));exact BK267.out) hb);have n4_:=am' (below_step (by repeat (first|(with_reducible first|exact HB.out|apply ba'|apply bd'|apply be'|refine bs' ?_ GE257.out|refine bs' ?_ GE267.out)|exact HB.out)) hb);clear HO260;clear BK257;clear BK267;clear HB;have HO260:=n0_;have HO264:=n1_;have BK257:=n2_;have BK267:=n3_;have HB:=n4_;clear n0_ n1_ n2_ n3_ n4_;(try clear hb)
      (try clear hb2)
      (try clear hk)
      (try clear hi)
      (try clear ho0)
      refine hK.out _ _ ⟨(blk_cell BK257.out 0).trans rfl,(blk_cell BK257.out 1).trans rfl⟩ (fun hHeld=>?_);clear hK K;refine norm_ (a':=?_) ?_ ?_
      rotate_left
      ·
       show Act.put _ (some 17) _=_
       simp only[Act.put,sa',sb',sc',i64_w,i32_w];rfl
      refine pure_ (i:=7) (N:=some 10) (v:=?_) (a':=?_) #[true,true,true,true,true,true,true,true,false,false,true,false,false] rfl rfl (any_of HT_.out (by kernel_rfl)) (fun _ _ _ h=>h) (Or.inl ⟨by rfl,?_⟩) ?_ ?_
      rotate_left
      ·
       intro w';go_simp;with_reducible rfl
      rotate_left
      ·
       simp only[Act.put,sa',sb',sc',i64_w,i32_w];rfl
      refine pure_ (i:=8) (N:=some 18) (v:=?_) (a':=?_) #[true,true,true,true,true,true,true,true,true,false,true,false,false] rfl rfl (any_of HT_.out (by kernel_rfl)) (fun _ _ _ h=>h) (Or.inl ⟨by rfl,?_⟩) ?_ ?_
      rotate_left
      ·
       intro w';go_simp;with_reducible rfl
      rotate_left
      ·
       simp only[Act.put,sa',sb',sc',i64_w,i32_w];rfl
      refine pure_ (i:=9) (N:=some 19) (v:=?_) (a':=?_) #[true,true,true,true,true,true,true,true,true,true,true,false,false] rfl rfl (any_of HT_.out (by kernel_rfl)) (fun _ _ _ h=>h) (Or.inl ⟨by rfl,?_⟩) ?_ ?_
      rotate_left
      ·
       intro w';go_simp;with_reducible rfl
      rotate_left
      ·
       simp only[Act.put,sa',sb',sc',i64_w,i32_w];rfl
      exact norm_ (by simp only[putAll,Act.put,sa',sb',sc']) (hCont (.slice Ao26 t258.length co26,v263,gb267) _ ⟨hHeld,(by (with_reducible repeat (first|apply ra'|apply rn'|apply rw'));exact HO260.out),(by (with_reducible repeat (first|apply Kd.V_alloc|apply Kd.V_drewN|apply Kd.V_drew));exact HO264.out),(by (with_reducible repeat (first|refine kn' ?_ _|refine kd' ?_|refine ka' ?_ _));exact BK257.out),(by (with_reducible repeat (first|refine kn' ?_ _|refine kd' ?_|refine ka' ?_ _));exact BK267.out),GW267.out,GE267.out,NB257_267.out,NB267_257.out,(by repeat (first|(with_reducible first|exact HB.out|apply ba'|apply bd'|apply be'|refine bs' ?_ GE257.out|refine bs' ?_ GE267.out)|exact HB.out))⟩)
    rintro ⟨v259,v263,gb267⟩ w28 ⟨hS_,h0_,h1_,h2_,h3_,h4_,h5_,h6_,h7_,h8_⟩
    have n0_:Aside0 (Kd.R Kd.bool 4 w28 w.heap.size (fun _=>True) v259 t258):=⟨h0_⟩
    have n1_:Aside0 (Kd.V Kd.bool 4 w28 w.heap.size (fun k_=>k_≠gb257∧k_≠gb267) v263 t262):=⟨h1_⟩
    have n2_:Aside0 (w28.heap[gb257]? = some (.cells #[.slice A0_0 l0_0.length c0_0, .int .i64 a0_1] 52 (0,0))):=⟨h2_⟩
    have n3_:Aside0 (w28.heap[gb267]? = some (.cells #[.slice none 0 0, .bool false] 80 (0,0))):=⟨h3_⟩
    have n4_:Aside0 (w.heap.size≤gb267):=⟨h4_⟩
    have n5_:Aside0 (w.heap.size≤gb267):=⟨h5_⟩
    have n6_:Aside0 (gb257≠gb267):=⟨h6_⟩
    have n7_:Aside0 (gb267≠gb257):=⟨h7_⟩
    have n8_:Aside0 (Below w.heap.size w w28):=⟨h8_⟩
    clear BK257;clear HB;clear h0_ h1_ h2_ h3_ h4_ h5_ h6_ h7_ h8_;have HO260:=n0_;have HO264:=n1_;have BK257:=n2_;have BK267:=n3_;have GW267:=n4_;have GE267:=n5_;have NB257_267:=n6_;have NB267_257:=n7_;have HB:=n8_;clear n0_ n1_ n2_ n3_ n4_ n5_ n6_ n7_ n8_;have hHeld:w28.cell? ⟨gb257,0,none⟩=some (.slice A0_0 l0_0.length c0_0)∧w28.cell? ⟨gb257,1,none⟩=some (.int .i64 a0_1):=hS_;obtain ⟨Ao29,co29,eo29⟩:=Kd.V_slice HO264.out
    (first|subst eo29|(injection eo29 with f1_ f2_ f3_;have f4_:=f1_.symm;have f5_:=f3_.symm;clear f1_ f2_ f3_;subst f4_;subst f5_))
    refine norm_ (a':=?_) ?_ ?_
    rotate_left
    ·
     simp only[putAll,Act.put,sa',sb',sc'];rfl
    refine one_ (i:=11) (N:=none) #[true,true,true,true,true,true,true,true,true,true,true,true,false] rfl rfl (one_of HT_.out (by kernel_rfl)) (by decide) (fun K hK=>?_);have hs30:w28.cell? ⟨gb267,0,none⟩=some (.slice none 0 0):=(blk_cell BK267.out 0).trans rfl;have hfs30:=blk_frozen BK267.out 0;have hns30_0:=NB257_267.out;have hms30_0:=NB267_257.out;have hs31:w28.cell? ⟨gb267,1,none⟩=some (.bool false):=(blk_cell BK267.out 1).trans rfl;have hfs31:=blk_frozen BK267.out 1;have hns31_0:=NB257_267.out;have hms31_0:=NB267_257.out;refine skip_ (w1:=?_) (by rfl) rfl ?_ ?_
    rotate_left
    ·
     go_simp;rfl
    refine hK.out _ _ ⟨((cell_far (p:=⟨gb267,_,none⟩) NB257_267.out _).trans (((cell_far (p:=⟨gb267,_,none⟩) NB257_267.out _).trans (hHeld.1)))),((cell_far (p:=⟨gb267,_,none⟩) NB257_267.out _).trans (((cell_far (p:=⟨gb267,_,none⟩) NB257_267.out _).trans (hHeld.2))))⟩ (fun hHeld=>?_);clear hK K;refine pure_ (i:=12) (N:=some 6) (v:=?_) (a':=?_) #[true,true,true,true,true,true,true,true,true,true,true,true,true] rfl rfl (any_of HT_.out (by kernel_rfl)) (fun _ _ _ h=>h) (Or.inl ⟨by rfl,?_⟩) ?_ ?_
    rotate_left
    ·
     intro w';go_simp;with_reducible rfl
    rotate_left
    ·
     simp only[Act.put,sa',sb',sc',i64_w,i32_w];rfl
    refine done_ (done_of HT_.out (by kernel_rfl)) ?_
    have hnb32:=NB267_257.out;have hnc32:=NB257_267.out;have hcz33_0:w28.cell? ⟨gb267,0,none⟩=some (.slice none 0 0):=(blk_cell BK267.out 0).trans rfl;have hcz33_1:w28.cell? ⟨gb267,1,none⟩=some (.bool false):=(blk_cell BK267.out 1).trans rfl;have hfz33_0:=blk_frozen BK267.out 0;have hfz33_1:=blk_frozen BK267.out 1
    try go_wp2
    go_ret
    exact ⟨by first|rfl|(simp[errW_none,errW_some] <;> rfl)|(simp[*,errW_none,errW_some] <;> rfl),by repeat (first|(with_reducible first|exact HB.out|apply ba'|apply bd'|apply be'|refine bs' ?_ GE257.out|refine bs' ?_ GE267.out)|exact HB.out)⟩
  ·
   rw[if_neg c7] at H;have c7b0:decide (t266 < 0)=false:=decide_eq_false c7;clear c7;obtain rfl:=Option.some.inj H;go_enter Try.func48,Try.ntmps48
   try go_wp2_with (first|((with_reducible refine gate_dst (N:=2) rfl ?_);refine box_event ?hg (N:=2) ?hd (cs:=#[.slice A0_0 l0_0.length c0_0, .int .i64 a0_1]) (t:=52) ?hr ?_;(case hd=>rfl);(case hg=>rfl);(case hr=>first|(go_simp;done)|(go_simp;rfl));intro gb257 hg w34 hbox hb;have n0_:=am' (below_step (by repeat (first|(with_reducible first|exact HB.out|apply ba'|apply bd'|apply be')|exact HB.out)) hb);have n1_:=am' (hbox);have n2_:=am' ((by rw[hg];exact (below_size (by repeat (first|(with_reducible first|exact HB.out|apply ba'|apply bd'|apply be')|exact HB.out))):w.heap.size≤gb257));have n3_:=am' ((by rw[hg];exact (below_size (by repeat (first|(with_reducible first|exact HB.out|apply ba'|apply bd'|apply be')|exact HB.out))):w.heap.size≤gb257));clear HB;have HB:=n0_;have BK257:=n1_;have GW257:=n2_;have GE257:=n3_;clear n0_ n1_ n2_ n3_;clear hb hbox hg))
   have n0_:=am' (kd' BK257.out);have n1_:=am' (be' HB.out);clear BK257;clear HB;have BK257:=n0_;have HB:=n1_;clear n0_ n1_;refine start_ (n:=13) (S:=fun w'=>w'.cell? ⟨gb257,0,none⟩=some (.slice A0_0 l0_0.length c0_0)∧w'.cell? ⟨gb257,1,none⟩=some (.int .i64 a0_1)) (ds:=[]) #[false,false,false,false,false,false,false,false,false,false,false,false,false] (by kernel_rfl) rfl rfl ⟨(blk_cell BK257.out 0).trans rfl,(blk_cell BK257.out 1).trans rfl⟩ (fun hHeld=>?_);refine with_tabW impl_Party_isPlan.tab3 impl_Party_isPlan.bits3 (fun HT_ HW_=>?_);generalize w34.drew=w35 at BK257 HB hHeld ⊢
   refine pure_ (i:=1) (N:=some 12) (v:=?_) (a':=?_) #[false,true,false,false,false,false,false,false,false,false,false,false,false] rfl rfl (any_of HT_.out (by kernel_rfl)) (fun _ _ _ h=>h) (Or.inl ⟨by rfl,?_⟩) ?_ ?_
   rotate_left
   ·
    intro w';go_simp;with_reducible rfl
   rotate_left
   ·
    simp only[Act.put,sa',sb',sc',i64_w,i32_w];rfl
   refine pure_ (i:=5) (N:=some 16) (v:=?_) (a':=?_) #[false,true,false,false,false,true,false,false,false,false,false,false,false] rfl rfl (any_of HT_.out (by kernel_rfl)) (fun _ _ _ h=>h) (Or.inl ⟨by rfl,?_⟩) ?_ ?_
   rotate_left
   ·
    intro w';go_simp;with_reducible rfl
   rotate_left
   ·
    simp only[Act.put,sa',sb',sc',i64_w,i32_w];rfl
   refine take_ (i:=0) (N:=some 11) (v:=?_) (a':=?_) #[true,true,false,false,false,true,false,false,false,false,false,false,false] rfl rfl (take_ofW HT_.out HW_.out (by kernel_rfl)) (fun _ _ _ h=>h) (Or.inl ⟨by rfl,?_⟩) hHeld ?_ ?_
   rotate_left
   ·
    rintro w' ⟨s0,s1⟩
    go_simp;with_reducible rfl
   rotate_left
   ·
    simp only[Act.put,sa',sb',sc',i64_w,i32_w];rfl
   refine take_ (i:=2) (N:=some 13) (v:=?_) (a':=?_) #[true,true,true,false,false,true,false,false,false,false,false,false,false] rfl rfl (take_ofW HT_.out HW_.out (by kernel_rfl)) (fun _ _ _ h=>h) (Or.inl ⟨by rfl,?_⟩) hHeld ?_ ?_
   rotate_left
   ·
    rintro w' ⟨s0,s1⟩
    go_simp;with_reducible rfl
   rotate_left
   ·
    simp only[Act.put,sa',sb',sc',i64_w,i32_w];rfl
   refine pure_ (i:=3) (N:=some 14) (v:=?_) (a':=?_) #[true,true,true,true,false,true,false,false,false,false,false,false,false] rfl rfl (any_of HT_.out (by kernel_rfl)) (fun _ _ _ h=>h) (Or.inl ⟨by rfl,?_⟩) ?_ ?_
   rotate_left
   ·
    intro w';go_simp;with_reducible rfl
   rotate_left
   ·
    simp only[Act.put,sa',sb',sc',i64_w,i32_w];rfl
   refine join_ (σ:=Value × Value × Nat) 2 #[true,true,true,true,true,true,true,true,true,true,true,false,false] (fun s_=>[(15, .agg #[s_.1, .bool t261]),(17, .tuple #[.agg #[s_.2.1, .bool t265], .int .i64 t266]),(5, .pointer (some ⟨s_.2.2,0,none⟩)),(10, .tuple #[.agg #[s_.2.1, .bool t265], .int .i64 t266]),(18, .agg #[s_.2.1, .bool t265]),(19, .int .i64 t266)]) (fun s_ w'=>(w'.cell? ⟨gb257,0,none⟩=some (.slice A0_0 l0_0.length c0_0)∧w'.cell? ⟨gb257,1,none⟩=some (.int .i64 a0_1))∧(Kd.R Kd.bool 4 w' w.heap.size (fun _=>True) s_.1 t258)∧(Kd.V Kd.bool 4 w' w.heap.size (fun k_=>k_≠gb257∧k_≠s_.2.2) s_.2.1 t262)∧(w'.heap[gb257]? = some (.cells #[.slice A0_0 l0_0.length c0_0, .int .i64 a0_1] 52 (0,0)))∧(w'.heap[s_.2.2]? = some (.cells #[.slice none 0 0, .bool false] 80 (0,0)))∧(w.heap.size≤s_.2.2)∧(w.heap.size≤s_.2.2)∧(gb257≠s_.2.2)∧(s_.2.2≠gb257)∧(Below w.heap.size w w')) ?_ ?_
   rotate_left
   ·
    intro hCont;refine two_ (i:=4) (j:=10) (Ni:=some 15) (Nj:=some 5) #[true,true,true,true,true,true,false,false,false,false,false,false,false] #[true,true,true,true,false,true,false,false,false,false,true,false,false] rfl rfl rfl rfl (two_of HT_.out (by kernel_rfl)) (by decide) (by decide) (fun K hK=>?_) (fun K hK=>?_)
    ·
     skip
     refine goes_ Try.func68 (by kernel_rfl) rfl #[.int .i64 (l0_0.length:Int), .bool false] (by rfl) rfl rfl (by (try simp only[List.map_toArray,List.map_cons,List.map_nil]);first|done|rfl|(simp only[List.length_drop,List.length_take];rfl)) ?_
     with_reducible refine (impl_allAt.calls (l0_0.length:Int) false t258 t261 _ A5.out).mono ?_
     rintro e w36 ⟨v259,rfl,ho0,hb⟩
     refine ⟨_,rfl,?_⟩;have n0_:=am' (Kd.R_lower ho0 (below_size (by repeat (first|(with_reducible first|exact HB.out|apply ba'|apply bd'|apply be'|refine bs' ?_ GE257.out)|exact HB.out))));have n1_:=am' (blk_below (g:=gb257) (o := .cells #[.slice A0_0 l0_0.length c0_0, .int .i64 a0_1] 52 (0,0)) (by (with_reducible repeat (first|refine kn' ?_ _|refine kd' ?_|refine ka' ?_ _));exact BK257.out) hb);have n2_:=am' (below_step (by repeat (first|(with_reducible first|exact HB.out|apply ba'|apply bd'|apply be'|refine bs' ?_ GE257.out)|exact HB.out)) hb);clear BK257;clear HB;have HO260:=n0_;have BK257:=n1_;have HB:=n2_;clear n0_ n1_ n2_;(try clear hb)
     (try clear hb2)
     (try clear hk)
     (try clear hi)
     (try clear ho0)
     obtain ⟨Ao37,co37,eo37⟩:=Kd.R_slice HO260.out
     (first|subst eo37|(injection eo37 with f1_ f2_ f3_;have f4_:=f1_.symm;have f5_:=f3_.symm;clear f1_ f2_ f3_;subst f4_;subst f5_))
     refine hK.out _ _ ⟨(blk_cell BK257.out 0).trans rfl,(blk_cell BK257.out 1).trans rfl⟩ (fun hHeld=>?_);clear hK K;refine norm_ (a':=?_) ?_ ?_
     rotate_left
     ·
      show Act.put _ (some 15) _=_
      simp only[Act.put,sa',sb',sc',i64_w,i32_w];rfl
     refine two_ (i:=6) (j:=10) (Ni:=some 17) (Nj:=some 5) #[true,true,true,true,true,true,true,false,false,false,false,false,false] #[true,true,true,true,true,true,false,false,false,false,true,false,false] rfl rfl rfl rfl (two_of HT_.out (by kernel_rfl)) (by decide) (by decide) (fun K hK=>?_) (fun K hK=>?_)
     ·
      skip
      refine goes_ Try.func67 (by kernel_rfl) rfl #[.agg #[.slice A0_0 l0_0.length c0_0, .int .i64 a0_1], .agg #[.slice Ao37 t258.length co37, .bool t261], .slice A1 l1.length c1] (by rfl) rfl rfl (by (try simp only[List.map_toArray,List.map_cons,List.map_nil]);first|done|rfl|(simp only[List.length_drop,List.length_take];rfl)) ?_
      with_reducible refine (impl_Party_failing.calls k _ _ l0_0 a0_1 (fun k_=>some k_=(.slice Ao37 t258.length co37:Value).ownBlock) _ _ t258 t261 _ _ l1 t262 t265 t266 _ ?side1 ?side2 ?side3 ?side4 ?side5 A6.out).mono ?_
      (case side1=>repeat (first|exact (Kd.C_below HR0_0.out HB.out)|(with_reducible refine ca' ?_ _)|(with_reducible refine cn' ?_ _)|(with_reducible refine cd' ?_)))
      (case side2=>exact HC0_0.out)
      (case side3=>exact Kd.R_V (Kd.R_tight rfl (Kd.R_types (HO260.out) BK257.out (by decide))))
      (case side4=>repeat (first|exact (Kd.C_below HR1.out HB.out)|(with_reducible refine ca' ?_ _)|(with_reducible refine cn' ?_ _)|(with_reducible refine cd' ?_)))
      (case side5=>exact HC1.out)
      rintro e w38 ⟨v263,rfl,ho0,hb⟩
      refine ⟨_,rfl,?_⟩;have n0_:=am' (Kd.R_below (by (with_reducible repeat (first|apply ra'|apply rn'|apply rw'));exact HO260.out) hb);have n1_:=am' (Kd.V_lower (Kd.V_mono (ok':=fun k_=>k_≠gb257) ho0 (fun k_ hk_=>Or.elim hk_ (fun hs_=>((Kd.R_types (HO260.out) BK257.out (by decide)).1 k_ hs_.symm).2) (fun hn_=>(Kd.freshB (g:=gb257) (o := .cells #[.slice A0_0 l0_0.length c0_0, .int .i64 a0_1] 52 (0,0)) (by (with_reducible repeat (first|refine kn' ?_ _|refine kd' ?_|refine ka' ?_ _));exact BK257.out) k_ hn_)))) (below_size (by repeat (first|(with_reducible first|exact HB.out|apply ba'|apply bd'|apply be'|refine bs' ?_ GE257.out)|exact HB.out))));have n2_:=am' (blk_below (g:=gb257) (o := .cells #[.slice A0_0 l0_0.length c0_0, .int .i64 a0_1] 52 (0,0)) (by (with_reducible repeat (first|refine kn' ?_ _|refine kd' ?_|refine ka' ?_ _));exact BK257.out) hb);have n3_:=am' (below_step (by repeat (first|(with_reducible first|exact HB.out|apply ba'|apply bd'|apply be'|refine bs' ?_ GE257.out)|exact HB.out)) hb);clear HO260;clear BK257;clear HB;have HO260:=n0_;have HO264:=n1_;have BK257:=n2_;have HB:=n3_;clear n0_ n1_ n2_ n3_;(try clear hb)
      (try clear hb2)
      (try clear hk)
      (try clear hi)
      (try clear ho0)
      refine hK.out _ _ ⟨(blk_cell BK257.out 0).trans rfl,(blk_cell BK257.out 1).trans rfl⟩ (fun hHeld=>?_);clear hK K;refine norm_ (a':=?_) ?_ ?_
      rotate_left
      ·
       show Act.put _ (some 17) _=_
       simp only[Act.put,sa',sb',sc',i64_w,i32_w];rfl
      refine pure_ (i:=7) (N:=some 10) (v:=?_) (a':=?_) #[true,true,true,true,true,true,true,true,false,false,false,false,false] rfl rfl (any_of HT_.out (by kernel_rfl)) (fun _ _ _ h=>h) (Or.inl ⟨by rfl,?_⟩) ?_ ?_
      rotate_left
      ·
       intro w';go_simp;with_reducible rfl
      rotate_left
      ·
       simp only[Act.put,sa',sb',sc',i64_w,i32_w];rfl
      refine pure_ (i:=8) (N:=some 18) (v:=?_) (a':=?_) #[true,true,true,true,true,true,true,true,true,false,false,false,false] rfl rfl (any_of HT_.out (by kernel_rfl)) (fun _ _ _ h=>h) (Or.inl ⟨by rfl,?_⟩) ?_ ?_
      rotate_left
      ·
       intro w';go_simp;with_reducible rfl
      rotate_left
      ·
       simp only[Act.put,sa',sb',sc',i64_w,i32_w];rfl
      refine pure_ (i:=9) (N:=some 19) (v:=?_) (a':=?_) #[true,true,true,true,true,true,true,true,true,true,false,false,false] rfl rfl (any_of HT_.out (by kernel_rfl)) (fun _ _ _ h=>h) (Or.inl ⟨by rfl,?_⟩) ?_ ?_
      rotate_left
      ·
       intro w';go_simp;with_reducible rfl
      rotate_left
      ·
       simp only[Act.put,sa',sb',sc',i64_w,i32_w];rfl
      refine one_ (i:=10) (N:=some 5) #[true,true,true,true,true,true,true,true,true,true,true,false,false] rfl rfl (one_of HT_.out (by kernel_rfl)) (by decide) (fun K hK=>?_);refine box_step ?hg (N:=5) ?hd (cs:=#[.slice none 0 0, .bool false]) (t:=80) ?hr ?_;(case hd=>rfl);(case hg=>rfl);(case hr=>first|(go_simp;done)|(go_simp;rfl))
      intro gb267 hg w39 hbox hb;have n0_:=am' (Kd.R_below (by (with_reducible repeat (first|apply ra'|apply rn'|apply rw'));exact HO260.out) hb);have n1_:=am' (Kd.V_below (Kd.V_elderB (by (with_reducible repeat (first|apply Kd.V_alloc|apply Kd.V_drewN|apply Kd.V_drew));exact HO264.out) gb267 (Nat.le_of_eq hg.symm)) hb);have n2_:=am' (blk_below (g:=gb257) (o := .cells #[.slice A0_0 l0_0.length c0_0, .int .i64 a0_1] 52 (0,0)) (by (with_reducible repeat (first|refine kn' ?_ _|refine kd' ?_|refine ka' ?_ _));exact BK257.out) hb);have n3_:=am' (below_step (by repeat (first|(with_reducible first|exact HB.out|apply ba'|apply bd'|apply be'|refine bs' ?_ GE257.out)|exact HB.out)) hb);have n4_:=am' (hbox);have n5_:=am' ((by rw[hg];exact (below_size (by repeat (first|(with_reducible first|exact HB.out|apply ba'|apply bd'|apply be'|refine bs' ?_ GE257.out)|exact HB.out))):w.heap.size≤gb267));have n6_:=am' ((by rw[hg];exact (below_size (by repeat (first|(with_reducible first|exact HB.out|apply ba'|apply bd'|apply be'|refine bs' ?_ GE257.out)|exact HB.out))):w.heap.size≤gb267));have n7_:=am' ((by rw[hg];exact Nat.ne_of_lt (blk_lt (g:=gb257) (o := .cells #[.slice A0_0 l0_0.length c0_0, .int .i64 a0_1] 52 (0,0)) (by (with_reducible repeat (first|refine kn' ?_ _|refine kd' ?_|refine ka' ?_ _));exact BK257.out)):gb257≠gb267));have n8_:=am' ((by rw[hg];exact Nat.ne_of_gt (blk_lt (g:=gb257) (o := .cells #[.slice A0_0 l0_0.length c0_0, .int .i64 a0_1] 52 (0,0)) (by (with_reducible repeat (first|refine kn' ?_ _|refine kd' ?_|refine ka' ?_ _));exact BK257.out)):gb267≠gb257));clear HO260;clear HO264;clear BK257;clear HB;have HO260:=n0_;have HO264:=n1_;have BK257:=n2_;have HB:=n3_;have BK267:=n4_;have GW267:=n5_;have GE267:=n6_;have NB257_267:=n7_;have NB267_257:=n8_;clear n0_ n1_ n2_ n3_ n4_ n5_ n6_ n7_ n8_;clear hb hbox hg;refine hK.out _ _ ⟨(blk_cell BK257.out 0).trans rfl,(blk_cell BK257.out 1).trans rfl⟩ (fun hHeld=>?_);clear hK K;refine norm_ (a':=?_) ?_ ?_
      rotate_left
      ·
       show Act.put _ (some 5) _=_
       simp only[Act.put,sa',sb',sc',i64_w,i32_w];rfl
      exact norm_ (by simp only[putAll,Act.put,sa',sb',sc']) (hCont (.slice Ao37 t258.length co37,v263,gb267) _ ⟨hHeld,(by (with_reducible repeat (first|apply ra'|apply rn'|apply rw'));exact HO260.out),(by (with_reducible repeat (first|apply Kd.V_alloc|apply Kd.V_drewN|apply Kd.V_drew));exact HO264.out),(by (with_reducible repeat (first|refine kn' ?_ _|refine kd' ?_|refine ka' ?_ _));exact BK257.out),(by (with_reducible repeat (first|refine kn' ?_ _|refine kd' ?_|refine ka' ?_ _));exact BK267.out),GW267.out,GE267.out,NB257_267.out,NB267_257.out,(by repeat (first|(with_reducible first|exact HB.out|apply ba'|apply bd'|apply be'|refine bs' ?_ GE257.out|refine bs' ?_ GE267.out)|exact HB.out))⟩)
     ·
      skip
      refine box_step ?hg (N:=5) ?hd (cs:=#[.slice none 0 0, .bool false]) (t:=80) ?hr ?_;(case hd=>rfl);(case hg=>rfl);(case hr=>first|(go_simp;done)|(go_simp;rfl))
      intro gb267 hg w37 hbox hb;have n0_:=am' (Kd.R_below (by (with_reducible repeat (first|apply ra'|apply rn'|apply rw'));exact HO260.out) hb);have n1_:=am' (blk_below (g:=gb257) (o := .cells #[.slice A0_0 l0_0.length c0_0, .int .i64 a0_1] 52 (0,0)) (by (with_reducible repeat (first|refine kn' ?_ _|refine kd' ?_|refine ka' ?_ _));exact BK257.out) hb);have n2_:=am' (below_step (by repeat (first|(with_reducible first|exact HB.out|apply ba'|apply bd'|apply be'|refine bs' ?_ GE257.out)|exact HB.out)) hb);have n3_:=am' (hbox);have n4_:=am' ((by rw[hg];exact (below_size (by repeat (first|(with_reducible first|exact HB.out|apply ba'|apply bd'|apply be'|refine bs' ?_ GE257.out)|exact HB.out))):w.heap.size≤gb267));have n5_:=am' ((by rw[hg];exact (below_size (by repeat (first|(with_reducible first|exact HB.out|apply ba'|apply bd'|apply be'|refine bs' ?_ GE257.out)|exact HB.out))):w.heap.size≤gb267));have n6_:=am' ((by rw[hg];exact Nat.ne_of_lt (blk_lt (g:=gb257) (o := .cells #[.slice A0_0 l0_0.length c0_0, .int .i64 a0_1] 52 (0,0)) (by (with_reducible repeat (first|refine kn' ?_ _|refine kd' ?_|refine ka' ?_ _));exact BK257.out)):gb257≠gb267));have n7_:=am' ((by rw[hg];exact Nat.ne_of_gt (blk_lt (g:=gb257) (o := .cells #[.slice A0_0 l0_0.length c0_0, .int .i64 a0_1] 52 (0,0)) (by (with_reducible repeat (first|refine kn' ?_ _|refine kd' ?_|refine ka' ?_ _));exact BK257.out)):gb267≠gb257));clear HO260;clear BK257;clear HB;have HO260:=n0_;have BK257:=n1_;have HB:=n2_;have BK267:=n3_;have GW267:=n4_;have GE267:=n5_;have NB257_267:=n6_;have NB267_257:=n7_;clear n0_ n1_ n2_ n3_ n4_ n5_ n6_ n7_;clear hb hbox hg;obtain ⟨Ao38,co38,eo38⟩:=Kd.R_slice HO260.out
      (first|subst eo38|(injection eo38 with f1_ f2_ f3_;have f4_:=f1_.symm;have f5_:=f3_.symm;clear f1_ f2_ f3_;subst f4_;subst f5_))
      refine hK.out _ _ ⟨(blk_cell BK257.out 0).trans rfl,(blk_cell BK257.out 1).trans rfl⟩ (fun hHeld=>?_);clear hK K;refine norm_ (a':=?_) ?_ ?_
      rotate_left
      ·
       show Act.put _ (some 5) _=_
       simp only[Act.put,sa',sb',sc',i64_w,i32_w];rfl
      refine one_ (i:=6) (N:=some 17) #[true,true,true,true,true,true,true,false,false,false,true,false,false] rfl rfl (one_of HT_.out (by kernel_rfl)) (by decide) (fun K hK=>?_);refine goes_ Try.func67 (by kernel_rfl) rfl #[.agg #[.slice A0_0 l0_0.length c0_0, .int .i64 a0_1], .agg #[.slice Ao38 t258.length co38, .bool t261], .slice A1 l1.length c1] (by rfl) rfl rfl (by (try simp only[List.map_toArray,List.map_cons,List.map_nil]);first|done|rfl|(simp only[List.length_drop,List.length_take];rfl)) ?_
      with_reducible refine (impl_Party_failing.calls k _ _ l0_0 a0_1 (fun k_=>some k_=(.slice Ao38 t258.length co38:Value).ownBlock) _ _ t258 t261 _ _ l1 t262 t265 t266 _ ?side1 ?side2 ?side3 ?side4 ?side5 A6.out).mono ?_
      (case side1=>repeat (first|exact (Kd.C_below HR0_0.out HB.out)|(with_reducible refine ca' ?_ _)|(with_reducible refine cn' ?_ _)|(with_reducible refine cd' ?_)))
      (case side2=>exact HC0_0.out)
      (case side3=>exact Kd.R_V (Kd.R_tight rfl (Kd.R_types (Kd.R_types (HO260.out) BK257.out (by decide)) BK267.out (by decide))))
      (case side4=>repeat (first|exact (Kd.C_below HR1.out HB.out)|(with_reducible refine ca' ?_ _)|(with_reducible refine cn' ?_ _)|(with_reducible refine cd' ?_)))
      (case side5=>exact HC1.out)
      rintro e w39 ⟨v263,rfl,ho0,hb⟩
      refine ⟨_,rfl,?_⟩;have n0_:=am' (Kd.R_below (by (with_reducible repeat (first|apply ra'|apply rn'|apply rw'));exact HO260.out) hb);have n1_:=am' (Kd.V_lower (Kd.V_mono (ok':=fun k_=>k_≠gb257∧k_≠gb267) ho0 (fun k_ hk_=>⟨Or.elim hk_ (fun hs_=>((Kd.R_types (Kd.R_types (HO260.out) BK257.out (by decide)) BK267.out (by decide)).1 k_ hs_.symm).1.2) (fun hn_=>(Kd.freshB (g:=gb257) (o := .cells #[.slice A0_0 l0_0.length c0_0, .int .i64 a0_1] 52 (0,0)) (by (with_reducible repeat (first|refine kn' ?_ _|refine kd' ?_|refine ka' ?_ _));exact BK257.out) k_ hn_)),Or.elim hk_ (fun hs_=>((Kd.R_types (Kd.R_types (HO260.out) BK257.out (by decide)) BK267.out (by decide)).1 k_ hs_.symm).2) (fun hn_=>(Kd.freshB (g:=gb267) (o := .cells #[.slice none 0 0, .bool false] 80 (0,0)) (by (with_reducible repeat (first|refine kn' ?_ _|refine kd' ?_|refine ka' ?_ _));exact BK267.out) k_ hn_))⟩)) (below_size (by repeat (first|(with_reducible first|exact HB.out|apply ba'|apply bd'|apply be'|refine bs' ?_ GE257.out|refine bs' ?_ GE267.out)|exact HB.out))));have n2_:=am' (blk_below (g:=gb257) (o := .cells #[.slice A0_0 l0_0.length c0_0, .int .i64 a0_1] 52 (0,0)) (by (with_reducible repeat (first|refine kn' ?_ _|refine kd' ?_|refine ka' ?_ _));exact BK257.out) hb);have n3_:=am' (blk_below (g:=gb267) (o := .cells #[.slice none 0 0, .bool false] 80 (0,0)) (by (with_reducible repeat (first|refine kn' ?_ _|refine kd' ?_|refine ka' ?_ _));exact BK267.out) hb);have n4_:=am' (below_step (by repeat (first|(with_reducible first|exact HB.out|apply ba'|apply bd'|apply be'|refine bs' ?_ GE257.out|refine bs' ?_ GE267.out)|exact HB.out)) hb);clear HO260;clear BK257;clear BK267;clear HB;have HO260:=n0_;have HO264:=n1_;have BK257:=n2_;have BK267:=n3_;have HB:=n4_;clear n0_ n1_ n2_ n3_ n4_;(try clear hb)
      (try clear hb2)
      (try clear hk)
      (try clear hi)
      (try clear ho0)
      refine hK.out _ _ ⟨(blk_cell BK257.out 0).trans rfl,(blk_cell BK257.out 1).trans rfl⟩ (fun hHeld=>?_);clear hK K;refine norm_ (a':=?_) ?_ ?_
      rotate_left
      ·
       show Act.put _ (some 17) _=_
       simp only[Act.put,sa',sb',sc',i64_w,i32_w];rfl
      refine pure_ (i:=7) (N:=some 10) (v:=?_) (a':=?_) #[true,true,true,true,true,true,true,true,false,false,true,false,false] rfl rfl (any_of HT_.out (by kernel_rfl)) (fun _ _ _ h=>h) (Or.inl ⟨by rfl,?_⟩) ?_ ?_
      rotate_left
      ·
       intro w';go_simp;with_reducible rfl
      rotate_left
      ·
       simp only[Act.put,sa',sb',sc',i64_w,i32_w];rfl
      refine pure_ (i:=8) (N:=some 18) (v:=?_) (a':=?_) #[true,true,true,true,true,true,true,true,true,false,true,false,false] rfl rfl (any_of HT_.out (by kernel_rfl)) (fun _ _ _ h=>h) (Or.inl ⟨by rfl,?_⟩) ?_ ?_
      rotate_left
      ·
       intro w';go_simp;with_reducible rfl
      rotate_left
      ·
       simp only[Act.put,sa',sb',sc',i64_w,i32_w];rfl
      refine pure_ (i:=9) (N:=some 19) (v:=?_) (a':=?_) #[true,true,true,true,true,true,true,true,true,true,true,false,false] rfl rfl (any_of HT_.out (by kernel_rfl)) (fun _ _ _ h=>h) (Or.inl ⟨by rfl,?_⟩) ?_ ?_
      rotate_left
      ·
       intro w';go_simp;with_reducible rfl
      rotate_left
      ·
       simp only[Act.put,sa',sb',sc',i64_w,i32_w];rfl
      exact norm_ (by simp only[putAll,Act.put,sa',sb',sc']) (hCont (.slice Ao38 t258.length co38,v263,gb267) _ ⟨hHeld,(by (with_reducible repeat (first|apply ra'|apply rn'|apply rw'));exact HO260.out),(by (with_reducible repeat (first|apply Kd.V_alloc|apply Kd.V_drewN|apply Kd.V_drew));exact HO264.out),(by (with_reducible repeat (first|refine kn' ?_ _|refine kd' ?_|refine ka' ?_ _));exact BK257.out),(by (with_reducible repeat (first|refine kn' ?_ _|refine kd' ?_|refine ka' ?_ _));exact BK267.out),GW267.out,GE267.out,NB257_267.out,NB267_257.out,(by repeat (first|(with_reducible first|exact HB.out|apply ba'|apply bd'|apply be'|refine bs' ?_ GE257.out|refine bs' ?_ GE267.out)|exact HB.out))⟩)
    ·
     skip
     refine box_step ?hg (N:=5) ?hd (cs:=#[.slice none 0 0, .bool false]) (t:=80) ?hr ?_;(case hd=>rfl);(case hg=>rfl);(case hr=>first|(go_simp;done)|(go_simp;rfl))
     intro gb267 hg w36 hbox hb;have n0_:=am' (blk_below (g:=gb257) (o := .cells #[.slice A0_0 l0_0.length c0_0, .int .i64 a0_1] 52 (0,0)) (by (with_reducible repeat (first|refine kn' ?_ _|refine kd' ?_|refine ka' ?_ _));exact BK257.out) hb);have n1_:=am' (below_step (by repeat (first|(with_reducible first|exact HB.out|apply ba'|apply bd'|apply be'|refine bs' ?_ GE257.out)|exact HB.out)) hb);have n2_:=am' (hbox);have n3_:=am' ((by rw[hg];exact (below_size (by repeat (first|(with_reducible first|exact HB.out|apply ba'|apply bd'|apply be'|refine bs' ?_ GE257.out)|exact HB.out))):w.heap.size≤gb267));have n4_:=am' ((by rw[hg];exact (below_size (by repeat (first|(with_reducible first|exact HB.out|apply ba'|apply bd'|apply be'|refine bs' ?_ GE257.out)|exact HB.out))):w.heap.size≤gb267));have n5_:=am' ((by rw[hg];exact Nat.ne_of_lt (blk_lt (g:=gb257) (o := .cells #[.slice A0_0 l0_0.length c0_0, .int .i64 a0_1] 52 (0,0)) (by (with_reducible repeat (first|refine kn' ?_ _|refine kd' ?_|refine ka' ?_ _));exact BK257.out)):gb257≠gb267));have n6_:=am' ((by rw[hg];exact Nat.ne_of_gt (blk_lt (g:=gb257) (o := .cells #[.slice A0_0 l0_0.length c0_0, .int .i64 a0_1] 52 (0,0)) (by (with_reducible repeat (first|refine kn' ?_ _|refine kd' ?_|refine ka' ?_ _));exact BK257.out)):gb267≠gb257));clear BK257;clear HB;have BK257:=n0_;have HB:=n1_;have BK267:=n2_;have GW267:=n3_;have GE267:=n4_;have NB257_267:=n5_;have NB267_257:=n6_;clear n0_ n1_ n2_ n3_ n4_ n5_ n6_;clear hb hbox hg;refine hK.out _ _ ⟨(blk_cell BK257.out 0).trans rfl,(blk_cell BK257.out 1).trans rfl⟩ (fun hHeld=>?_);clear hK K;refine norm_ (a':=?_) ?_ ?_
     rotate_left
     ·
      show Act.put _ (some 5) _=_
      simp only[Act.put,sa',sb',sc',i64_w,i32_w];rfl
     refine one_ (i:=4) (N:=some 15) #[true,true,true,true,true,true,false,false,false,false,true,false,false] rfl rfl (one_of HT_.out (by kernel_rfl)) (by decide) (fun K hK=>?_);refine goes_ Try.func68 (by kernel_rfl) rfl #[.int .i64 (l0_0.length:Int), .bool false] (by rfl) rfl rfl (by (try simp only[List.map_toArray,List.map_cons,List.map_nil]);first|done|rfl|(simp only[List.length_drop,List.length_take];rfl)) ?_
     with_reducible refine (impl_allAt.calls (l0_0.length:Int) false t258 t261 _ A5.out).mono ?_
     rintro e w37 ⟨v259,rfl,ho0,hb⟩
     refine ⟨_,rfl,?_⟩;have n0_:=am' (Kd.R_lower ho0 (below_size (by repeat (first|(with_reducible first|exact HB.out|apply ba'|apply bd'|apply be'|refine bs' ?_ GE257.out|refine bs' ?_ GE267.out)|exact HB.out))));have n1_:=am' (blk_below (g:=gb257) (o := .cells #[.slice A0_0 l0_0.length c0_0, .int .i64 a0_1] 52 (0,0)) (by (with_reducible repeat (first|refine kn' ?_ _|refine kd' ?_|refine ka' ?_ _));exact BK257.out) hb);have n2_:=am' (blk_below (g:=gb267) (o := .cells #[.slice none 0 0, .bool false] 80 (0,0)) (by (with_reducible repeat (first|refine kn' ?_ _|refine kd' ?_|refine ka' ?_ _));exact BK267.out) hb);have n3_:=am' (below_step (by repeat (first|(with_reducible first|exact HB.out|apply ba'|apply bd'|apply be'|refine bs' ?_ GE257.out|refine bs' ?_ GE267.out)|exact HB.out)) hb);clear BK257;clear BK267;clear HB;have HO260:=n0_;have BK257:=n1_;have BK267:=n2_;have HB:=n3_;clear n0_ n1_ n2_ n3_;(try clear hb)
     (try clear hb2)
     (try clear hk)
     (try clear hi)
     (try clear ho0)
     obtain ⟨Ao38,co38,eo38⟩:=Kd.R_slice HO260.out
     (first|subst eo38|(injection eo38 with f1_ f2_ f3_;have f4_:=f1_.symm;have f5_:=f3_.symm;clear f1_ f2_ f3_;subst f4_;subst f5_))
     refine hK.out _ _ ⟨(blk_cell BK257.out 0).trans rfl,(blk_cell BK257.out 1).trans rfl⟩ (fun hHeld=>?_);clear hK K;refine norm_ (a':=?_) ?_ ?_
     rotate_left
     ·
      show Act.put _ (some 15) _=_
      simp only[Act.put,sa',sb',sc',i64_w,i32_w];rfl
     refine one_ (i:=6) (N:=some 17) #[true,true,true,true,true,true,true,false,false,false,true,false,false] rfl rfl (one_of HT_.out (by kernel_rfl)) (by decide) (fun K hK=>?_);refine goes_ Try.func67 (by kernel_rfl) rfl #[.agg #[.slice A0_0 l0_0.length c0_0, .int .i64 a0_1], .agg #[.slice Ao38 t258.length co38, .bool t261], .slice A1 l1.length c1] (by rfl) rfl rfl (by (try simp only[List.map_toArray,List.map_cons,List.map_nil]);first|done|rfl|(simp only[List.length_drop,List.length_take];rfl)) ?_
     with_reducible refine (impl_Party_failing.calls k _ _ l0_0 a0_1 (fun k_=>some k_=(.slice Ao38 t258.length co38:Value).ownBlock) _ _ t258 t261 _ _ l1 t262 t265 t266 _ ?side1 ?side2 ?side3 ?side4 ?side5 A6.out).mono ?_
     (case side1=>repeat (first|exact (Kd.C_below HR0_0.out HB.out)|(with_reducible refine ca' ?_ _)|(with_reducible refine cn' ?_ _)|(with_reducible refine cd' ?_)))
     (case side2=>exact HC0_0.out)
     (case side3=>exact Kd.R_V (Kd.R_tight rfl (Kd.R_types (Kd.R_types (HO260.out) BK257.out (by decide)) BK267.out (by decide))))
     (case side4=>repeat (first|exact (Kd.C_below HR1.out HB.out)|(with_reducible refine ca' ?_ _)|(with_reducible refine cn' ?_ _)|(with_reducible refine cd' ?_)))
     (case side5=>exact HC1.out)
     rintro e w39 ⟨v263,rfl,ho0,hb⟩
     refine ⟨_,rfl,?_⟩;have n0_:=am' (Kd.R_below (by (with_reducible repeat (first|apply ra'|apply rn'|apply rw'));exact HO260.out) hb);have n1_:=am' (Kd.V_lower (Kd.V_mono (ok':=fun k_=>k_≠gb257∧k_≠gb267) ho0 (fun k_ hk_=>⟨Or.elim hk_ (fun hs_=>((Kd.R_types (Kd.R_types (HO260.out) BK257.out (by decide)) BK267.out (by decide)).1 k_ hs_.symm).1.2) (fun hn_=>(Kd.freshB (g:=gb257) (o := .cells #[.slice A0_0 l0_0.length c0_0, .int .i64 a0_1] 52 (0,0)) (by (with_reducible repeat (first|refine kn' ?_ _|refine kd' ?_|refine ka' ?_ _));exact BK257.out) k_ hn_)),Or.elim hk_ (fun hs_=>((Kd.R_types (Kd.R_types (HO260.out) BK257.out (by decide)) BK267.out (by decide)).1 k_ hs_.symm).2) (fun hn_=>(Kd.freshB (g:=gb267) (o := .cells #[.slice none 0 0, .bool false] 80 (0,0)) (by (with_reducible repeat (first|refine kn' ?_ _|refine kd' ?_|refine ka' ?_ _));exact BK267.out) k_ hn_))⟩)) (below_size (by repeat (first|(with_reducible first|exact HB.out|apply ba'|apply bd'|apply be'|refine bs' ?_ GE257.out|refine bs' ?_ GE267.out)|exact HB.out))));have n2_:=am' (blk_below (g:=gb257) (o := .cells #[.slice A0_0 l0_0.length c0_0, .int .i64 a0_1] 52 (0,0)) (by (with_reducible repeat (first|refine kn' ?_ _|refine kd' ?_|refine ka' ?_ _));exact BK257.out) hb);have n3_:=am' (blk_below (g:=gb267) (o := .cells #[.slice none 0 0, .bool false] 80 (0,0)) (by (with_reducible repeat (first|refine kn' ?_ _|refine kd' ?_|refine ka' ?_ _));exact BK267.out) hb);have n4_:=am' (below_step (by repeat (first|(with_reducible first|exact HB.out|apply ba'|apply bd'|apply be'|refine bs' ?_ GE257.out|refine bs' ?_ GE267.out)|exact HB.out)) hb);clear HO260;clear BK257;clear BK267;clear HB;have HO260:=n0_;have HO264:=n1_;have BK257:=n2_;have BK267:=n3_;have HB:=n4_;clear n0_ n1_ n2_ n3_ n4_;(try clear hb)
     (try clear hb2)
     (try clear hk)
     (try clear hi)
     (try clear ho0)
     refine hK.out _ _ ⟨(blk_cell BK257.out 0).trans rfl,(blk_cell BK257.out 1).trans rfl⟩ (fun hHeld=>?_);clear hK K;refine norm_ (a':=?_) ?_ ?_
     rotate_left
     ·
      show Act.put _ (some 17) _=_
      simp only[Act.put,sa',sb',sc',i64_w,i32_w];rfl
     refine pure_ (i:=7) (N:=some 10) (v:=?_) (a':=?_) #[true,true,true,true,true,true,true,true,false,false,true,false,false] rfl rfl (any_of HT_.out (by kernel_rfl)) (fun _ _ _ h=>h) (Or.inl ⟨by rfl,?_⟩) ?_ ?_
     rotate_left
     ·
      intro w';go_simp;with_reducible rfl
     rotate_left
     ·
      simp only[Act.put,sa',sb',sc',i64_w,i32_w];rfl
     refine pure_ (i:=8) (N:=some 18) (v:=?_) (a':=?_) #[true,true,true,true,true,true,true,true,true,false,true,false,false] rfl rfl (any_of HT_.out (by kernel_rfl)) (fun _ _ _ h=>h) (Or.inl ⟨by rfl,?_⟩) ?_ ?_
     rotate_left
     ·
      intro w';go_simp;with_reducible rfl
     rotate_left
     ·
      simp only[Act.put,sa',sb',sc',i64_w,i32_w];rfl
     refine pure_ (i:=9) (N:=some 19) (v:=?_) (a':=?_) #[true,true,true,true,true,true,true,true,true,true,true,false,false] rfl rfl (any_of HT_.out (by kernel_rfl)) (fun _ _ _ h=>h) (Or.inl ⟨by rfl,?_⟩) ?_ ?_
     rotate_left
     ·
      intro w';go_simp;with_reducible rfl
     rotate_left
     ·
      simp only[Act.put,sa',sb',sc',i64_w,i32_w];rfl
     exact norm_ (by simp only[putAll,Act.put,sa',sb',sc']) (hCont (.slice Ao38 t258.length co38,v263,gb267) _ ⟨hHeld,(by (with_reducible repeat (first|apply ra'|apply rn'|apply rw'));exact HO260.out),(by (with_reducible repeat (first|apply Kd.V_alloc|apply Kd.V_drewN|apply Kd.V_drew));exact HO264.out),(by (with_reducible repeat (first|refine kn' ?_ _|refine kd' ?_|refine ka' ?_ _));exact BK257.out),(by (with_reducible repeat (first|refine kn' ?_ _|refine kd' ?_|refine ka' ?_ _));exact BK267.out),GW267.out,GE267.out,NB257_267.out,NB267_257.out,(by repeat (first|(with_reducible first|exact HB.out|apply ba'|apply bd'|apply be'|refine bs' ?_ GE257.out|refine bs' ?_ GE267.out)|exact HB.out))⟩)
   rintro ⟨v259,v263,gb267⟩ w40 ⟨hS_,h0_,h1_,h2_,h3_,h4_,h5_,h6_,h7_,h8_⟩
   have n0_:Aside0 (Kd.R Kd.bool 4 w40 w.heap.size (fun _=>True) v259 t258):=⟨h0_⟩
   have n1_:Aside0 (Kd.V Kd.bool 4 w40 w.heap.size (fun k_=>k_≠gb257∧k_≠gb267) v263 t262):=⟨h1_⟩
   have n2_:Aside0 (w40.heap[gb257]? = some (.cells #[.slice A0_0 l0_0.length c0_0, .int .i64 a0_1] 52 (0,0))):=⟨h2_⟩
   have n3_:Aside0 (w40.heap[gb267]? = some (.cells #[.slice none 0 0, .bool false] 80 (0,0))):=⟨h3_⟩
   have n4_:Aside0 (w.heap.size≤gb267):=⟨h4_⟩
   have n5_:Aside0 (w.heap.size≤gb267):=⟨h5_⟩
   have n6_:Aside0 (gb257≠gb267):=⟨h6_⟩
   have n7_:Aside0 (gb267≠gb257):=⟨h7_⟩
   have n8_:Aside0 (Below w.heap.size w w40):=⟨h8_⟩
   clear BK257;clear HB;clear h0_ h1_ h2_ h3_ h4_ h5_ h6_ h7_ h8_;have HO260:=n0_;have HO264:=n1_;have BK257:=n2_;have BK267:=n3_;have GW267:=n4_;have GE267:=n5_;have NB257_267:=n6_;have NB267_257:=n7_;have HB:=n8_;clear n0_ n1_ n2_ n3_ n4_ n5_ n6_ n7_ n8_;have hHeld:w40.cell? ⟨gb257,0,none⟩=some (.slice A0_0 l0_0.length c0_0)∧w40.cell? ⟨gb257,1,none⟩=some (.int .i64 a0_1):=hS_;obtain ⟨Ao41,co41,eo41⟩:=Kd.V_slice HO264.out
   (first|subst eo41|(injection eo41 with f1_ f2_ f3_;have f4_:=f1_.symm;have f5_:=f3_.symm;clear f1_ f2_ f3_;subst f4_;subst f5_))
   refine norm_ (a':=?_) ?_ ?_
   rotate_left
   ·
    simp only[putAll,Act.put,sa',sb',sc'];rfl
   refine one_ (i:=11) (N:=none) #[true,true,true,true,true,true,true,true,true,true,true,true,false] rfl rfl (one_of HT_.out (by kernel_rfl)) (by decide) (fun K hK=>?_);have hs42:w40.cell? ⟨gb267,0,none⟩=some (.slice none 0 0):=(blk_cell BK267.out 0).trans rfl;have hfs42:=blk_frozen BK267.out 0;have hns42_0:=NB257_267.out;have hms42_0:=NB267_257.out;have hs43:w40.cell? ⟨gb267,1,none⟩=some (.bool false):=(blk_cell BK267.out 1).trans rfl;have hfs43:=blk_frozen BK267.out 1;have hns43_0:=NB257_267.out;have hms43_0:=NB267_257.out;refine skip_ (w1:=?_) (by rfl) rfl ?_ ?_
   rotate_left
   ·
    go_simp;rfl
   refine hK.out _ _ ⟨((cell_far (p:=⟨gb267,_,none⟩) NB257_267.out _).trans (((cell_far (p:=⟨gb267,_,none⟩) NB257_267.out _).trans (hHeld.1)))),((cell_far (p:=⟨gb267,_,none⟩) NB257_267.out _).trans (((cell_far (p:=⟨gb267,_,none⟩) NB257_267.out _).trans (hHeld.2))))⟩ (fun hHeld=>?_);clear hK K;refine pure_ (i:=12) (N:=some 6) (v:=?_) (a':=?_) #[true,true,true,true,true,true,true,true,true,true,true,true,true] rfl rfl (any_of HT_.out (by kernel_rfl)) (fun _ _ _ h=>h) (Or.inl ⟨by rfl,?_⟩) ?_ ?_
   rotate_left
   ·
    intro w';go_simp;with_reducible rfl
   rotate_left
   ·
    simp only[Act.put,sa',sb',sc',i64_w,i32_w];rfl
   refine done_ (done_of HT_.out (by kernel_rfl)) ?_
   try go_wp2
   go_ret
   exact ⟨by first|rfl|(simp[errW_none,errW_some] <;> rfl)|(simp[*,errW_none,errW_some] <;> rfl),by repeat (first|(with_reducible first|exact HB.out|apply ba'|apply bd'|apply be'|refine bs' ?_ GE257.out|refine bs' ?_ GE267.out)|exact HB.out)⟩
end Go.Proofs.Ytdomojenlofieaa.C1
