import Derived.Test.YtdomojenlofieaaC1zx0
import Derived.Test.YtdomojenlofieaaC1zx3
import Derived.Test.YtdomojenlofieaaC1zAl
namespace Go.Proofs.Ytdomojenlofieaa.C1
open Go.RowKit Go.Proofs.YtdomojenlofieaaW.PrintWords Go.Proofs.YtdomojenlofieaaW.PrintLast Go.Proofs.YtdomojenlofieaaW.PrintMore Go.Proofs.Ytdomojenlofieaa.H
attribute [local go_sem] max2_int min2_int max_two min_two max_three min_three max_four min_four
set_option linter.unusedVariables false
set_option linter.unusedSimpArgs false
def spec_paPlan.f (k:Nat) (l0_0:List Int) (a0_1:Int) (l1:List (List Int)):Option (Bool):=if (l1.length:Int) > 40 then (some false) else ((spec_paFirst.f l0_0 a0_1).bind fun bt159=>((spec_paPlay.f k l0_0 a0_1 bt159.1 bt159.2 l1).bind fun bt163=>(if bt163.2.2=(l1.length:Int) then ((spec_paLast.f k l0_0 a0_1).bind fun bt169=>((spec_paSame.f k bt163.1 bt163.2.1 bt169.1 bt169.2).bind fun t173=>(some t173))) else (some false))))
def spec_paPlan.T3:Bool × List (List Nat × List Nat):=(true,[([],[]),([],[]),([1],[1]),([],[]),([0,2,3,2],[0,2,3]),([4],[4]),([5],[5]),([5],[5]),([],[]),([8,6,4,0,1,2,3,4,5,6,8],[6,8]),([7,9,0,1,2,3,4,5,6,7,8,9],[7])])
def spec_paPlan.B3:List Nat:=[0,0,2,0,15,31,63,63,0,383,1023]
theorem spec_paPlan.tab3:rtab .any (opsOf Try.f45 3)=spec_paPlan.T3:=by kernel_rfl
theorem spec_paPlan.bits3:waitsOk spec_paPlan.T3.2 spec_paPlan.B3=true:=by kernel_rfl
def spec_paPlan.T4:Bool × List (List Nat × List Nat):=(true,[([],[]),([],[]),([1],[1]),([0,2],[0,2]),([3],[3]),([4],[4]),([4],[4]),([6,4,4],[4,6]),([5,7,7,4],[4,5,7]),([4,8],[4,8]),([9,8,0,1,2,3,4,5,6,7,8,9],[9])])
def spec_paPlan.B4:List Nat:=[0,0,2,7,15,31,31,95,255,511,1023]
theorem spec_paPlan.tab4:rtab .any (opsOf Try.f45 4)=spec_paPlan.T4:=by kernel_rfl
theorem spec_paPlan.bits4:waitsOk spec_paPlan.T4.2 spec_paPlan.B4=true:=by kernel_rfl
set_option maxHeartbeats 8000000 in
set_option maxRecDepth 100000 in
theorem spec_paPlan.calls (k:Nat) (A0_0:Option Addr) (c0_0:Nat) (l0_0:List Int) (a0_1:Int) (A1:Option Addr) (c1:Nat) (l1:List (List Int)) (r:Bool) (w:World) (hr0_0:Kd.C (Kd.int .i64) w A0_0 l0_0.length l0_0) (hc0_0:l0_0.length≤c0_0) (hr1:Kd.C (Kd.slice 3 (Kd.int .i64)) w A1 l1.length l1) (hc1:l1.length≤c1) (h:spec_paPlan.f k l0_0 a0_1 l1=some r) :
  Calls Try.prog 45 #[.agg #[.slice A0_0 l0_0.length c0_0, .int .i64 a0_1], .slice A1 l1.length c1] w fun e w'=>e = .returned (.bool r)∧Below w.heap.size w w':=by
 have hu52:=Try.underlying52
 have hu80:=Try.underlying80
 have HR0_0:=am' hr0_0
 have HC0_0:=am' hc0_0
 clear hr0_0 hc0_0;have HR1:=am' hr1
 have HC1:=am' hc1
 clear hr1 hc1;have HB:=am' (Below.refl w.heap.size w)
 have H:(if (l1.length:Int) > 40 then (some false) else ((spec_paFirst.f l0_0 a0_1).bind fun bt159=>((spec_paPlay.f k l0_0 a0_1 bt159.1 bt159.2 l1).bind fun bt163=>(if bt163.2.2=(l1.length:Int) then ((spec_paLast.f k l0_0 a0_1).bind fun bt169=>((spec_paSame.f k bt163.1 bt163.2.1 bt169.1 bt169.2).bind fun t173=>(some t173))) else (some false)))))=some r:=h
 clear h;by_cases c3:(l1.length:Int) > 40
 ·
  rw[if_pos c3] at H;have c3b0:decide (40 < (l1.length:Int))=true:=decide_eq_true c3;have c3b1:decide (40 < l1.length)=true:=decide_eq_true (by omega);clear c3;obtain rfl:=Option.some.inj H;go_enter Try.func45,Try.ntmps45;go_wp2_with (first|((with_reducible refine gate_dst (N:=2) rfl ?_);refine box_event ?hg (N:=2) ?hd (cs:=#[.slice A0_0 l0_0.length c0_0, .int .i64 a0_1]) (t:=52) ?hr ?_;(case hd=>rfl);(case hg=>rfl);(case hr=>first|(go_simp;done)|(go_simp;rfl));intro gb158 hg w4 hbox hb;have n0_:=am' (below_step (by repeat (first|(with_reducible first|exact HB.out|apply ba'|apply bd'|apply be')|exact HB.out)) hb);have n1_:=am' (hbox);have n2_:=am' ((by rw[hg];exact (below_size (by repeat (first|(with_reducible first|exact HB.out|apply ba'|apply bd'|apply be')|exact HB.out))):w.heap.size≤gb158));have n3_:=am' ((by rw[hg];exact (below_size (by repeat (first|(with_reducible first|exact HB.out|apply ba'|apply bd'|apply be')|exact HB.out))):w.heap.size≤gb158));clear HB;have HB:=n0_;have BK158:=n1_;have GW158:=n2_;have GE158:=n3_;clear n0_ n1_ n2_ n3_;clear hb hbox hg));go_ret
  exact ⟨by first|rfl|(simp[errW_none,errW_some] <;> rfl)|(simp[*,errW_none,errW_some] <;> rfl),by repeat (first|(with_reducible first|exact HB.out|apply ba'|apply bd'|apply be'|refine bs' ?_ GE158.out)|exact HB.out)⟩
 ·
  rw[if_neg c3] at H;have c3b0:decide (40 < (l1.length:Int))=false:=decide_eq_false c3;have c3b1:decide (40 < l1.length)=false:=decide_eq_false (by omega);clear c3;replace H:=Option.bind_eq_some_iff.mp H;obtain ⟨⟨t159,t162⟩,A50,H⟩:=H;replace H:((spec_paPlay.f k l0_0 a0_1 t159 t162 l1).bind fun bt163=>(if bt163.2.2=(l1.length:Int) then ((spec_paLast.f k l0_0 a0_1).bind fun bt169=>((spec_paSame.f k bt163.1 bt163.2.1 bt169.1 bt169.2).bind fun t173=>(some t173))) else (some false)))=some r:=H;have A5:=am' A50;clear A50;replace H:=Option.bind_eq_some_iff.mp H;obtain ⟨⟨t163,t166,t167⟩,A60,H⟩:=H;replace H:(if t167=(l1.length:Int) then ((spec_paLast.f k l0_0 a0_1).bind fun bt169=>((spec_paSame.f k t163 t166 bt169.1 bt169.2).bind fun t173=>(some t173))) else (some false))=some r:=H;have A6:=am' A60;clear A60;by_cases c7:t167=(l1.length:Int)
  ·
   rw[if_pos c7] at H;have c7b0:(t167 == (l1.length:Int))=true:=beq_iff_eq.mpr c7;have c7b1:(t167 != (l1.length:Int))=false:=bne_eq_false_iff_eq.mpr c7;clear c7;replace H:=Option.bind_eq_some_iff.mp H;obtain ⟨⟨t169,t172⟩,A80,H⟩:=H;replace H:((spec_paSame.f k t163 t166 t169 t172).bind fun t173=>(some t173))=some r:=H;have A8:=am' A80;clear A80;replace H:=Option.bind_eq_some_iff.mp H;obtain ⟨t173,A90,H⟩:=H;replace H:(some t173)=some r:=H;have A9:=am' A90;clear A90;obtain rfl:=Option.some.inj H;go_enter Try.func45,Try.ntmps45
   try go_wp2_with (first|((with_reducible refine gate_dst (N:=2) rfl ?_);refine box_event ?hg (N:=2) ?hd (cs:=#[.slice A0_0 l0_0.length c0_0, .int .i64 a0_1]) (t:=52) ?hr ?_;(case hd=>rfl);(case hg=>rfl);(case hr=>first|(go_simp;done)|(go_simp;rfl));intro gb158 hg w10 hbox hb;have n0_:=am' (below_step (by repeat (first|(with_reducible first|exact HB.out|apply ba'|apply bd'|apply be')|exact HB.out)) hb);have n1_:=am' (hbox);have n2_:=am' ((by rw[hg];exact (below_size (by repeat (first|(with_reducible first|exact HB.out|apply ba'|apply bd'|apply be')|exact HB.out))):w.heap.size≤gb158));have n3_:=am' ((by rw[hg];exact (below_size (by repeat (first|(with_reducible first|exact HB.out|apply ba'|apply bd'|apply be')|exact HB.out))):w.heap.size≤gb158));clear HB;have HB:=n0_;have BK158:=n1_;have GW158:=n2_;have GE158:=n3_;clear n0_ n1_ n2_ n3_;clear hb hbox hg))
   have n0_:=am' (kd' BK158.out);have n1_:=am' (be' HB.out);clear BK158;clear HB;have BK158:=n0_;have HB:=n1_;clear n0_ n1_;refine start_ (n:=11) (S:=fun w'=>w'.cell? ⟨gb158,0,none⟩=some (.slice A0_0 l0_0.length c0_0)∧w'.cell? ⟨gb158,1,none⟩=some (.int .i64 a0_1)) (ds:=[]) #[false,false,false,false,false,false,false,false,false,false,false] (by kernel_rfl) rfl rfl ⟨(blk_cell BK158.out 0).trans rfl,(blk_cell BK158.out 1).trans rfl⟩ (fun hHeld=>?_);refine with_tabW spec_paPlan.tab3 spec_paPlan.bits3 (fun HT_ HW_=>?_);generalize w10.drew=w11 at BK158 HB hHeld ⊢
   refine pure_ (i:=3) (N:=some 14) (v:=?_) (a':=?_) #[false,false,false,true,false,false,false,false,false,false,false] rfl rfl (any_of HT_.out (by kernel_rfl)) (fun _ _ _ h=>h) (Or.inl ⟨by rfl,?_⟩) ?_ ?_
   rotate_left
   ·
    intro w';go_simp;with_reducible rfl
   rotate_left
   ·
    simp only[Act.put,sa',sb',sc',i64_w,i32_w];rfl
   refine take_ (i:=0) (N:=some 11) (v:=?_) (a':=?_) #[true,false,false,true,false,false,false,false,false,false,false] rfl rfl (take_ofW HT_.out HW_.out (by kernel_rfl)) (fun _ _ _ h=>h) (Or.inl ⟨by rfl,?_⟩) hHeld ?_ ?_
   rotate_left
   ·
    rintro w' ⟨s0,s1⟩
    go_simp;with_reducible rfl
   rotate_left
   ·
    simp only[Act.put,sa',sb',sc',i64_w,i32_w];rfl
   refine take_ (i:=1) (N:=some 12) (v:=?_) (a':=?_) #[true,true,false,true,false,false,false,false,false,false,false] rfl rfl (take_ofW HT_.out HW_.out (by kernel_rfl)) (fun _ _ _ h=>h) (Or.inl ⟨by rfl,?_⟩) hHeld ?_ ?_
   rotate_left
   ·
    rintro w' ⟨s0,s1⟩
    go_simp;with_reducible rfl
   rotate_left
   ·
    simp only[Act.put,sa',sb',sc',i64_w,i32_w];rfl
   refine join_ (σ:=Value × Value × Nat) 2 #[true,true,true,true,true,true,true,true,true,false,false] (fun s_=>[(13, .agg #[s_.1, .bool t162]),(15, .tuple #[.agg #[s_.2.1, .bool t166], .int .i64 t167]),(5, .pointer (some ⟨s_.2.2,0,none⟩)),(10, .tuple #[.agg #[s_.2.1, .bool t166], .int .i64 t167]),(16, .agg #[s_.2.1, .bool t166]),(17, .int .i64 t167)]) (fun s_ w'=>(w'.cell? ⟨gb158,0,none⟩=some (.slice A0_0 l0_0.length c0_0)∧w'.cell? ⟨gb158,1,none⟩=some (.int .i64 a0_1))∧(Kd.R Kd.bool 4 w' w.heap.size (fun _=>True) s_.1 t159)∧(Kd.V Kd.bool 4 w' w.heap.size (fun k_=>k_≠gb158∧k_≠s_.2.2) s_.2.1 t163)∧(w'.heap[gb158]? = some (.cells #[.slice A0_0 l0_0.length c0_0, .int .i64 a0_1] 52 (0,0)))∧(w'.heap[s_.2.2]? = some (.cells #[.slice none 0 0, .bool false] 80 (0,0)))∧(w.heap.size≤s_.2.2)∧(w.heap.size≤s_.2.2)∧(gb158≠s_.2.2)∧(s_.2.2≠gb158)∧(Below w.heap.size w w')) ?_ ?_
   rotate_left
   ·
    intro hCont;refine two_ (i:=2) (j:=8) (Ni:=some 13) (Nj:=some 5) #[true,true,true,true,false,false,false,false,false,false,false] #[true,true,false,true,false,false,false,false,true,false,false] rfl rfl rfl rfl (two_of HT_.out (by kernel_rfl)) (by decide) (by decide) (fun K hK=>?_) (fun K hK=>?_)
    ·
     skip
     refine goes_ Try.func62 (by kernel_rfl) rfl #[.agg #[.slice A0_0 l0_0.length c0_0, .int .i64 a0_1]] (by rfl) rfl rfl (by (try simp only[List.map_toArray,List.map_cons,List.map_nil]);first|done|rfl|(simp only[List.length_drop,List.length_take];rfl)) ?_
     with_reducible refine (spec_paFirst.calls _ _ l0_0 a0_1 t159 t162 _ ?side1 ?side2 A5.out).mono ?_
     (case side1=>repeat (first|exact (Kd.C_below HR0_0.out HB.out)|(with_reducible refine ca' ?_ _)|(with_reducible refine cn' ?_ _)|(with_reducible refine cd' ?_)))
     (case side2=>exact HC0_0.out)
     rintro e w12 ⟨v160,rfl,ho0,hb⟩
     refine ⟨_,rfl,?_⟩;have n0_:=am' (Kd.R_lower ho0 (below_size (by repeat (first|(with_reducible first|exact HB.out|apply ba'|apply bd'|apply be'|refine bs' ?_ GE158.out)|exact HB.out))));have n1_:=am' (blk_below (g:=gb158) (o := .cells #[.slice A0_0 l0_0.length c0_0, .int .i64 a0_1] 52 (0,0)) (by (with_reducible repeat (first|refine kn' ?_ _|refine kd' ?_|refine ka' ?_ _));exact BK158.out) hb);have n2_:=am' (below_step (by repeat (first|(with_reducible first|exact HB.out|apply ba'|apply bd'|apply be'|refine bs' ?_ GE158.out)|exact HB.out)) hb);clear BK158;clear HB;have HO161:=n0_;have BK158:=n1_;have HB:=n2_;clear n0_ n1_ n2_;(try clear hb)
     (try clear hb2)
     (try clear hk)
     (try clear hi)
     (try clear ho0)
     obtain ⟨Ao13,co13,eo13⟩:=Kd.R_slice HO161.out
     (first|subst eo13|(injection eo13 with f1_ f2_ f3_;have f4_:=f1_.symm;have f5_:=f3_.symm;clear f1_ f2_ f3_;subst f4_;subst f5_))
     refine hK.out _ _ ⟨(blk_cell BK158.out 0).trans rfl,(blk_cell BK158.out 1).trans rfl⟩ (fun hHeld=>?_);clear hK K;refine norm_ (a':=?_) ?_ ?_
     rotate_left
     ·
      show Act.put _ (some 13) _=_
      simp only[Act.put,sa',sb',sc',i64_w,i32_w];rfl
     refine two_ (i:=4) (j:=8) (Ni:=some 15) (Nj:=some 5) #[true,true,true,true,true,false,false,false,false,false,false] #[true,true,true,true,false,false,false,false,true,false,false] rfl rfl rfl rfl (two_of HT_.out (by kernel_rfl)) (by decide) (by decide) (fun K hK=>?_) (fun K hK=>?_)
     ·
      skip
      refine goes_ Try.func61 (by kernel_rfl) rfl #[.agg #[.slice A0_0 l0_0.length c0_0, .int .i64 a0_1], .agg #[.slice Ao13 t159.length co13, .bool t162], .slice A1 l1.length c1] (by rfl) rfl rfl (by (try simp only[List.map_toArray,List.map_cons,List.map_nil]);first|done|rfl|(simp only[List.length_drop,List.length_take];rfl)) ?_
      with_reducible refine (spec_paPlay.calls k _ _ l0_0 a0_1 (fun k_=>some k_=(.slice Ao13 t159.length co13:Value).ownBlock) _ _ t159 t162 _ _ l1 t163 t166 t167 _ ?side1 ?side2 ?side3 ?side4 ?side5 A6.out).mono ?_
      (case side1=>repeat (first|exact (Kd.C_below HR0_0.out HB.out)|(with_reducible refine ca' ?_ _)|(with_reducible refine cn' ?_ _)|(with_reducible refine cd' ?_)))
      (case side2=>exact HC0_0.out)
      (case side3=>exact Kd.R_V (Kd.R_tight rfl (Kd.R_types (HO161.out) BK158.out (by decide))))
      (case side4=>repeat (first|exact (Kd.C_below HR1.out HB.out)|(with_reducible refine ca' ?_ _)|(with_reducible refine cn' ?_ _)|(with_reducible refine cd' ?_)))
      (case side5=>exact HC1.out)
      rintro e w14 ⟨v164,rfl,ho0,hb⟩
      refine ⟨_,rfl,?_⟩;have n0_:=am' (Kd.R_below (by (with_reducible repeat (first|apply ra'|apply rn'|apply rw'));exact HO161.out) hb);have n1_:=am' (Kd.V_lower (Kd.V_mono (ok':=fun k_=>k_≠gb158) ho0 (fun k_ hk_=>Or.elim hk_ (fun hs_=>((Kd.R_types (HO161.out) BK158.out (by decide)).1 k_ hs_.symm).2) (fun hn_=>(Kd.freshB (g:=gb158) (o := .cells #[.slice A0_0 l0_0.length c0_0, .int .i64 a0_1] 52 (0,0)) (by (with_reducible repeat (first|refine kn' ?_ _|refine kd' ?_|refine ka' ?_ _));exact BK158.out) k_ hn_)))) (below_size (by repeat (first|(with_reducible first|exact HB.out|apply ba'|apply bd'|apply be'|refine bs' ?_ GE158.out)|exact HB.out))));have n2_:=am' (blk_below (g:=gb158) (o := .cells #[.slice A0_0 l0_0.length c0_0, .int .i64 a0_1] 52 (0,0)) (by (with_reducible repeat (first|refine kn' ?_ _|refine kd' ?_|refine ka' ?_ _));exact BK158.out) hb);have n3_:=am' (below_step (by repeat (first|(with_reducible first|exact HB.out|apply ba'|apply bd'|apply be'|refine bs' ?_ GE158.out)|exact HB.out)) hb);clear HO161;clear BK158;clear HB;have HO161:=n0_;have HO165:=n1_;have BK158:=n2_;have HB:=n3_;clear n0_ n1_ n2_ n3_;(try clear hb)
      (try clear hb2)
      (try clear hk)
      (try clear hi)
      (try clear ho0)
      refine hK.out _ _ ⟨(blk_cell BK158.out 0).trans rfl,(blk_cell BK158.out 1).trans rfl⟩ (fun hHeld=>?_);clear hK K;refine norm_ (a':=?_) ?_ ?_
      rotate_left
      ·
       show Act.put _ (some 15) _=_
       simp only[Act.put,sa',sb',sc',i64_w,i32_w];rfl
      refine pure_ (i:=5) (N:=some 10) (v:=?_) (a':=?_) #[true,true,true,true,true,true,false,false,false,false,false] rfl rfl (any_of HT_.out (by kernel_rfl)) (fun _ _ _ h=>h) (Or.inl ⟨by rfl,?_⟩) ?_ ?_
      rotate_left
      ·
       intro w';go_simp;with_reducible rfl
      rotate_left
      ·
       simp only[Act.put,sa',sb',sc',i64_w,i32_w];rfl
      refine pure_ (i:=6) (N:=some 16) (v:=?_) (a':=?_) #[true,true,true,true,true,true,true,false,false,false,false] rfl rfl (any_of HT_.out (by kernel_rfl)) (fun _ _ _ h=>h) (Or.inl ⟨by rfl,?_⟩) ?_ ?_
      rotate_left
      ·
       intro w';go_simp;with_reducible rfl
      rotate_left
      ·
       simp only[Act.put,sa',sb',sc',i64_w,i32_w];rfl
      refine pure_ (i:=7) (N:=some 17) (v:=?_) (a':=?_) #[true,true,true,true,true,true,true,true,false,false,false] rfl rfl (any_of HT_.out (by kernel_rfl)) (fun _ _ _ h=>h) (Or.inl ⟨by rfl,?_⟩) ?_ ?_
      rotate_left
      ·
       intro w';go_simp;with_reducible rfl
      rotate_left
      ·
       simp only[Act.put,sa',sb',sc',i64_w,i32_w];rfl
      refine one_ (i:=8) (N:=some 5) #[true,true,true,true,true,true,true,true,true,false,false] rfl rfl (one_of HT_.out (by kernel_rfl)) (by decide) (fun K hK=>?_);refine box_step ?hg (N:=5) ?hd (cs:=#[.slice none 0 0, .bool false]) (t:=80) ?hr ?_;(case hd=>rfl);(case hg=>rfl);(case hr=>first|(go_simp;done)|(go_simp;rfl))
      intro gb168 hg w15 hbox hb;have n0_:=am' (Kd.R_below (by (with_reducible repeat (first|apply ra'|apply rn'|apply rw'));exact HO161.out) hb);have n1_:=am' (Kd.V_below (Kd.V_elderB (by (with_reducible repeat (first|apply Kd.V_alloc|apply Kd.V_drewN|apply Kd.V_drew));exact HO165.out) gb168 (Nat.le_of_eq hg.symm)) hb);have n2_:=am' (blk_below (g:=gb158) (o := .cells #[.slice A0_0 l0_0.length c0_0, .int .i64 a0_1] 52 (0,0)) (by (with_reducible repeat (first|refine kn' ?_ _|refine kd' ?_|refine ka' ?_ _));exact BK158.out) hb);have n3_:=am' (below_step (by repeat (first|(with_reducible first|exact HB.out|apply ba'|apply bd'|apply be'|refine bs' ?_ GE158.out)|exact HB.out)) hb);have n4_:=am' (hbox);have n5_:=am' ((by rw[hg];exact (below_size (by repeat (first|(with_reducible first|exact HB.out|apply ba'|apply bd'|apply be'|refine bs' ?_ GE158.out)|exact HB.out))):w.heap.size≤gb168));have n6_:=am' ((by rw[hg];exact (below_size (by repeat (first|(with_reducible first|exact HB.out|apply ba'|apply bd'|apply be'|refine bs' ?_ GE158.out)|exact HB.out))):w.heap.size≤gb168));have n7_:=am' ((by rw[hg];exact Nat.ne_of_lt (blk_lt (g:=gb158) (o := .cells #[.slice A0_0 l0_0.length c0_0, .int .i64 a0_1] 52 (0,0)) (by (with_reducible repeat (first|refine kn' ?_ _|refine kd' ?_|refine ka' ?_ _));exact BK158.out)):gb158≠gb168));have n8_:=am' ((by rw[hg];exact Nat.ne_of_gt (blk_lt (g:=gb158) (o := .cells #[.slice A0_0 l0_0.length c0_0, .int .i64 a0_1] 52 (0,0)) (by (with_reducible repeat (first|refine kn' ?_ _|refine kd' ?_|refine ka' ?_ _));exact BK158.out)):gb168≠gb158));clear HO161;clear HO165;clear BK158;clear HB;have HO161:=n0_;have HO165:=n1_;have BK158:=n2_;have HB:=n3_;have BK168:=n4_;have GW168:=n5_;have GE168:=n6_;have NB158_168:=n7_;have NB168_158:=n8_;clear n0_ n1_ n2_ n3_ n4_ n5_ n6_ n7_ n8_;clear hb hbox hg;refine hK.out _ _ ⟨(blk_cell BK158.out 0).trans rfl,(blk_cell BK158.out 1).trans rfl⟩ (fun hHeld=>?_);clear hK K;refine norm_ (a':=?_) ?_ ?_
      rotate_left
      ·
       show Act.put _ (some 5) _=_
       simp only[Act.put,sa',sb',sc',i64_w,i32_w];rfl
      exact norm_ (by simp only[putAll,Act.put,sa',sb',sc']) (hCont (.slice Ao13 t159.length co13,v164,gb168) _ ⟨hHeld,(by (with_reducible repeat (first|apply ra'|apply rn'|apply rw'));exact HO161.out),(by (with_reducible repeat (first|apply Kd.V_alloc|apply Kd.V_drewN|apply Kd.V_drew));exact HO165.out),(by (with_reducible repeat (first|refine kn' ?_ _|refine kd' ?_|refine ka' ?_ _));exact BK158.out),(by (with_reducible repeat (first|refine kn' ?_ _|refine kd' ?_|refine ka' ?_ _));exact BK168.out),GW168.out,GE168.out,NB158_168.out,NB168_158.out,(by repeat (first|(with_reducible first|exact HB.out|apply ba'|apply bd'|apply be'|refine bs' ?_ GE158.out|refine bs' ?_ GE168.out)|exact HB.out))⟩)
     ·
      skip
      refine box_step ?hg (N:=5) ?hd (cs:=#[.slice none 0 0, .bool false]) (t:=80) ?hr ?_;(case hd=>rfl);(case hg=>rfl);(case hr=>first|(go_simp;done)|(go_simp;rfl))
      intro gb168 hg w13 hbox hb;have n0_:=am' (Kd.R_below (by (with_reducible repeat (first|apply ra'|apply rn'|apply rw'));exact HO161.out) hb);have n1_:=am' (blk_below (g:=gb158) (o := .cells #[.slice A0_0 l0_0.length c0_0, .int .i64 a0_1] 52 (0,0)) (by (with_reducible repeat (first|refine kn' ?_ _|refine kd' ?_|refine ka' ?_ _));exact BK158.out) hb);have n2_:=am' (below_step (by repeat (first|(with_reducible first|exact HB.out|apply ba'|apply bd'|apply be'|refine bs' ?_ GE158.out)|exact HB.out)) hb);have n3_:=am' (hbox);have n4_:=am' ((by rw[hg];exact (below_size (by repeat (first|(with_reducible first|exact HB.out|apply ba'|apply bd'|apply be'|refine bs' ?_ GE158.out)|exact HB.out))):w.heap.size≤gb168));have n5_:=am' ((by rw[hg];exact (below_size (by repeat (first|(with_reducible first|exact HB.out|apply ba'|apply bd'|apply be'|refine bs' ?_ GE158.out)|exact HB.out))):w.heap.size≤gb168));have n6_:=am' ((by rw[hg];exact Nat.ne_of_lt (blk_lt (g:=gb158) (o := .cells #[.slice A0_0 l0_0.length c0_0, .int .i64 a0_1] 52 (0,0)) (by (with_reducible repeat (first|refine kn' ?_ _|refine kd' ?_|refine ka' ?_ _));exact BK158.out)):gb158≠gb168));have n7_:=am' ((by rw[hg];exact Nat.ne_of_gt (blk_lt (g:=gb158) (o := .cells #[.slice A0_0 l0_0.length c0_0, .int .i64 a0_1] 52 (0,0)) (by (with_reducible repeat (first|refine kn' ?_ _|refine kd' ?_|refine ka' ?_ _));exact BK158.out)):gb168≠gb158));clear HO161;clear BK158;clear HB;have HO161:=n0_;have BK158:=n1_;have HB:=n2_;have BK168:=n3_;have GW168:=n4_;have GE168:=n5_;have NB158_168:=n6_;have NB168_158:=n7_;clear n0_ n1_ n2_ n3_ n4_ n5_ n6_ n7_;clear hb hbox hg;obtain ⟨Ao14,co14,eo14⟩:=Kd.R_slice HO161.out
      (first|subst eo14|(injection eo14 with f1_ f2_ f3_;have f4_:=f1_.symm;have f5_:=f3_.symm;clear f1_ f2_ f3_;subst f4_;subst f5_))
      refine hK.out _ _ ⟨(blk_cell BK158.out 0).trans rfl,(blk_cell BK158.out 1).trans rfl⟩ (fun hHeld=>?_);clear hK K;refine norm_ (a':=?_) ?_ ?_
      rotate_left
      ·
       show Act.put _ (some 5) _=_
       simp only[Act.put,sa',sb',sc',i64_w,i32_w];rfl
      refine one_ (i:=4) (N:=some 15) #[true,true,true,true,true,false,false,false,true,false,false] rfl rfl (one_of HT_.out (by kernel_rfl)) (by decide) (fun K hK=>?_);refine goes_ Try.func61 (by kernel_rfl) rfl #[.agg #[.slice A0_0 l0_0.length c0_0, .int .i64 a0_1], .agg #[.slice Ao14 t159.length co14, .bool t162], .slice A1 l1.length c1] (by rfl) rfl rfl (by (try simp only[List.map_toArray,List.map_cons,List.map_nil]);first|done|rfl|(simp only[List.length_drop,List.length_take];rfl)) ?_
      with_reducible refine (spec_paPlay.calls k _ _ l0_0 a0_1 (fun k_=>some k_=(.slice Ao14 t159.length co14:Value).ownBlock) _ _ t159 t162 _ _ l1 t163 t166 t167 _ ?side1 ?side2 ?side3 ?side4 ?side5 A6.out).mono ?_
      (case side1=>repeat (first|exact (Kd.C_below HR0_0.out HB.out)|(with_reducible refine ca' ?_ _)|(with_reducible refine cn' ?_ _)|(with_reducible refine cd' ?_)))
      (case side2=>exact HC0_0.out)
      (case side3=>exact Kd.R_V (Kd.R_tight rfl (Kd.R_types (Kd.R_types (HO161.out) BK158.out (by decide)) BK168.out (by decide))))
      (case side4=>repeat (first|exact (Kd.C_below HR1.out HB.out)|(with_reducible refine ca' ?_ _)|(with_reducible refine cn' ?_ _)|(with_reducible refine cd' ?_)))
      (case side5=>exact HC1.out)
      rintro e w15 ⟨v164,rfl,ho0,hb⟩
      refine ⟨_,rfl,?_⟩;have n0_:=am' (Kd.R_below (by (with_reducible repeat (first|apply ra'|apply rn'|apply rw'));exact HO161.out) hb);have n1_:=am' (Kd.V_lower (Kd.V_mono (ok':=fun k_=>k_≠gb158∧k_≠gb168) ho0 (fun k_ hk_=>⟨Or.elim hk_ (fun hs_=>((Kd.R_types (Kd.R_types (HO161.out) BK158.out (by decide)) BK168.out (by decide)).1 k_ hs_.symm).1.2) (fun hn_=>(Kd.freshB (g:=gb158) (o := .cells #[.slice A0_0 l0_0.length c0_0, .int .i64 a0_1] 52 (0,0)) (by (with_reducible repeat (first|refine kn' ?_ _|refine kd' ?_|refine ka' ?_ _));exact BK158.out) k_ hn_)),Or.elim hk_ (fun hs_=>((Kd.R_types (Kd.R_types (HO161.out) BK158.out (by decide)) BK168.out (by decide)).1 k_ hs_.symm).2) (fun hn_=>(Kd.freshB (g:=gb168) (o := .cells #[.slice none 0 0, .bool false] 80 (0,0)) (by (with_reducible repeat (first|refine kn' ?_ _|refine kd' ?_|refine ka' ?_ _));exact BK168.out) k_ hn_))⟩)) (below_size (by repeat (first|(with_reducible first|exact HB.out|apply ba'|apply bd'|apply be'|refine bs' ?_ GE158.out|refine bs' ?_ GE168.out)|exact HB.out))));have n2_:=am' (blk_below (g:=gb158) (o := .cells #[.slice A0_0 l0_0.length c0_0, .int .i64 a0_1] 52 (0,0)) (by (with_reducible repeat (first|refine kn' ?_ _|refine kd' ?_|refine ka' ?_ _));exact BK158.out) hb);have n3_:=am' (blk_below (g:=gb168) (o := .cells #[.slice none 0 0, .bool false] 80 (0,0)) (by (with_reducible repeat (first|refine kn' ?_ _|refine kd' ?_|refine ka' ?_ _));exact BK168.out) hb);have n4_:=am' (below_step (by repeat (first|(with_reducible first|exact HB.out|apply ba'|apply bd'|apply be'|refine bs' ?_ GE158.out|refine bs' ?_ GE168.out)|exact HB.out)) hb);clear HO161;clear BK158;clear BK168;clear HB;have HO161:=n0_;have HO165:=n1_;have BK158:=n2_;have BK168:=n3_;have HB:=n4_;clear n0_ n1_ n2_ n3_ n4_;(try clear hb)
      (try clear hb2)
      (try clear hk)
      (try clear hi)
      (try clear ho0)
      refine hK.out _ _ ⟨(blk_cell BK158.out 0).trans rfl,(blk_cell BK158.out 1).trans rfl⟩ (fun hHeld=>?_);clear hK K;refine norm_ (a':=?_) ?_ ?_
      rotate_left
      ·
       show Act.put _ (some 15) _=_
       simp only[Act.put,sa',sb',sc',i64_w,i32_w];rfl
      refine pure_ (i:=5) (N:=some 10) (v:=?_) (a':=?_) #[true,true,true,true,true,true,false,false,true,false,false] rfl rfl (any_of HT_.out (by kernel_rfl)) (fun _ _ _ h=>h) (Or.inl ⟨by rfl,?_⟩) ?_ ?_
      rotate_left
      ·
       intro w';go_simp;with_reducible rfl
      rotate_left
      ·
       simp only[Act.put,sa',sb',sc',i64_w,i32_w];rfl
      refine pure_ (i:=6) (N:=some 16) (v:=?_) (a':=?_) #[true,true,true,true,true,true,true,false,true,false,false] rfl rfl (any_of HT_.out (by kernel_rfl)) (fun _ _ _ h=>h) (Or.inl ⟨by rfl,?_⟩) ?_ ?_
      rotate_left
      ·
       intro w';go_simp;with_reducible rfl
      rotate_left
      ·
       simp only[Act.put,sa',sb',sc',i64_w,i32_w];rfl
      refine pure_ (i:=7) (N:=some 17) (v:=?_) (a':=?_) #[true,true,true,true,true,true,true,true,true,false,false] rfl rfl (any_of HT_.out (by kernel_rfl)) (fun _ _ _ h=>h) (Or.inl ⟨by rfl,?_⟩) ?_ ?_
      rotate_left
      ·
       intro w';go_simp;with_reducible rfl
      rotate_left
      ·
       simp only[Act.put,sa',sb',sc',i64_w,i32_w];rfl
      exact norm_ (by simp only[putAll,Act.put,sa',sb',sc']) (hCont (.slice Ao14 t159.length co14,v164,gb168) _ ⟨hHeld,(by (with_reducible repeat (first|apply ra'|apply rn'|apply rw'));exact HO161.out),(by (with_reducible repeat (first|apply Kd.V_alloc|apply Kd.V_drewN|apply Kd.V_drew));exact HO165.out),(by (with_reducible repeat (first|refine kn' ?_ _|refine kd' ?_|refine ka' ?_ _));exact BK158.out),(by (with_reducible repeat (first|refine kn' ?_ _|refine kd' ?_|refine ka' ?_ _));exact BK168.out),GW168.out,GE168.out,NB158_168.out,NB168_158.out,(by repeat (first|(with_reducible first|exact HB.out|apply ba'|apply bd'|apply be'|refine bs' ?_ GE158.out|refine bs' ?_ GE168.out)|exact HB.out))⟩)
    ·
     skip
     refine box_step ?hg (N:=5) ?hd (cs:=#[.slice none 0 0, .bool false]) (t:=80) ?hr ?_;(case hd=>rfl);(case hg=>rfl);(case hr=>first|(go_simp;done)|(go_simp;rfl))
     intro gb168 hg w12 hbox hb;have n0_:=am' (blk_below (g:=gb158) (o := .cells #[.slice A0_0 l0_0.length c0_0, .int .i64 a0_1] 52 (0,0)) (by (with_reducible repeat (first|refine kn' ?_ _|refine kd' ?_|refine ka' ?_ _));exact BK158.out) hb);have n1_:=am' (below_step (by repeat (first|(with_reducible first|exact HB.out|apply ba'|apply bd'|apply be'|refine bs' ?_ GE158.out)|exact HB.out)) hb);have n2_:=am' (hbox);have n3_:=am' ((by rw[hg];exact (below_size (by repeat (first|(with_reducible first|exact HB.out|apply ba'|apply bd'|apply be'|refine bs' ?_ GE158.out)|exact HB.out))):w.heap.size≤gb168));have n4_:=am' ((by rw[hg];exact (below_size (by repeat (first|(with_reducible first|exact HB.out|apply ba'|apply bd'|apply be'|refine bs' ?_ GE158.out)|exact HB.out))):w.heap.size≤gb168));have n5_:=am' ((by rw[hg];exact Nat.ne_of_lt (blk_lt (g:=gb158) (o := .cells #[.slice A0_0 l0_0.length c0_0, .int .i64 a0_1] 52 (0,0)) (by (with_reducible repeat (first|refine kn' ?_ _|refine kd' ?_|refine ka' ?_ _));exact BK158.out)):gb158≠gb168));have n6_:=am' ((by rw[hg];exact Nat.ne_of_gt (blk_lt (g:=gb158) (o := .cells #[.slice A0_0 l0_0.length c0_0, .int .i64 a0_1] 52 (0,0)) (by (with_reducible repeat (first|refine kn' ?_ _|refine kd' ?_|refine ka' ?_ _));exact BK158.out)):gb168≠gb158));clear BK158;clear HB;have BK158:=n0_;have HB:=n1_;have BK168:=n2_;have GW168:=n3_;have GE168:=n4_;have NB158_168:=n5_;have NB168_158:=n6_;clear n0_ n1_ n2_ n3_ n4_ n5_ n6_;clear hb hbox hg;refine hK.out _ _ ⟨(blk_cell BK158.out 0).trans rfl,(blk_cell BK158.out 1).trans rfl⟩ (fun hHeld=>?_);clear hK K;refine norm_ (a':=?_) ?_ ?_
     rotate_left
     ·
      show Act.put _ (some 5) _=_
      simp only[Act.put,sa',sb',sc',i64_w,i32_w];rfl
     refine one_ (i:=2) (N:=some 13) #[true,true,true,true,false,false,false,false,true,false,false] rfl rfl (one_of HT_.out (by kernel_rfl)) (by decide) (fun K hK=>?_);refine goes_ Try.func62 (by kernel_rfl) rfl #[.agg #[.slice A0_0 l0_0.length c0_0, .int .i64 a0_1]] (by rfl) rfl rfl (by (try simp only[List.map_toArray,List.map_cons,List.map_nil]);first|done|rfl|(simp only[List.length_drop,List.length_take];rfl)) ?_
     with_reducible refine (spec_paFirst.calls _ _ l0_0 a0_1 t159 t162 _ ?side1 ?side2 A5.out).mono ?_
     (case side1=>repeat (first|exact (Kd.C_below HR0_0.out HB.out)|(with_reducible refine ca' ?_ _)|(with_reducible refine cn' ?_ _)|(with_reducible refine cd' ?_)))
     (case side2=>exact HC0_0.out)
     rintro e w13 ⟨v160,rfl,ho0,hb⟩
     refine ⟨_,rfl,?_⟩;have n0_:=am' (Kd.R_lower ho0 (below_size (by repeat (first|(with_reducible first|exact HB.out|apply ba'|apply bd'|apply be'|refine bs' ?_ GE158.out|refine bs' ?_ GE168.out)|exact HB.out))));have n1_:=am' (blk_below (g:=gb158) (o := .cells #[.slice A0_0 l0_0.length c0_0, .int .i64 a0_1] 52 (0,0)) (by (with_reducible repeat (first|refine kn' ?_ _|refine kd' ?_|refine ka' ?_ _));exact BK158.out) hb);have n2_:=am' (blk_below (g:=gb168) (o := .cells #[.slice none 0 0, .bool false] 80 (0,0)) (by (with_reducible repeat (first|refine kn' ?_ _|refine kd' ?_|refine ka' ?_ _));exact BK168.out) hb);have n3_:=am' (below_step (by repeat (first|(with_reducible first|exact HB.out|apply ba'|apply bd'|apply be'|refine bs' ?_ GE158.out|refine bs' ?_ GE168.out)|exact HB.out)) hb);clear BK158;clear BK168;clear HB;have HO161:=n0_;have BK158:=n1_;have BK168:=n2_;have HB:=n3_;clear n0_ n1_ n2_ n3_;(try clear hb)
     (try clear hb2)
     (try clear hk)
     (try clear hi)
     (try clear ho0)
     obtain ⟨Ao14,co14,eo14⟩:=Kd.R_slice HO161.out
     (first|subst eo14|(injection eo14 with f1_ f2_ f3_;have f4_:=f1_.symm;have f5_:=f3_.symm;clear f1_ f2_ f3_;subst f4_;subst f5_))
     refine hK.out _ _ ⟨(blk_cell BK158.out 0).trans rfl,(blk_cell BK158.out 1).trans rfl⟩ (fun hHeld=>?_);clear hK K;refine norm_ (a':=?_) ?_ ?_
     rotate_left
     ·
      show Act.put _ (some 13) _=_
      simp only[Act.put,sa',sb',sc',i64_w,i32_w];rfl
     refine one_ (i:=4) (N:=some 15) #[true,true,true,true,true,false,false,false,true,false,false] rfl rfl (one_of HT_.out (by kernel_rfl)) (by decide) (fun K hK=>?_);refine goes_ Try.func61 (by kernel_rfl) rfl #[.agg #[.slice A0_0 l0_0.length c0_0, .int .i64 a0_1], .agg #[.slice Ao14 t159.length co14, .bool t162], .slice A1 l1.length c1] (by rfl) rfl rfl (by (try simp only[List.map_toArray,List.map_cons,List.map_nil]);first|done|rfl|(simp only[List.length_drop,List.length_take];rfl)) ?_
     with_reducible refine (spec_paPlay.calls k _ _ l0_0 a0_1 (fun k_=>some k_=(.slice Ao14 t159.length co14:Value).ownBlock) _ _ t159 t162 _ _ l1 t163 t166 t167 _ ?side1 ?side2 ?side3 ?side4 ?side5 A6.out).mono ?_
     (case side1=>repeat (first|exact (Kd.C_below HR0_0.out HB.out)|(with_reducible refine ca' ?_ _)|(with_reducible refine cn' ?_ _)|(with_reducible refine cd' ?_)))
     (case side2=>exact HC0_0.out)
     (case side3=>exact Kd.R_V (Kd.R_tight rfl (Kd.R_types (Kd.R_types (HO161.out) BK158.out (by decide)) BK168.out (by decide))))
     (case side4=>repeat (first|exact (Kd.C_below HR1.out HB.out)|(with_reducible refine ca' ?_ _)|(with_reducible refine cn' ?_ _)|(with_reducible refine cd' ?_)))
     (case side5=>exact HC1.out)
     rintro e w15 ⟨v164,rfl,ho0,hb⟩
     refine ⟨_,rfl,?_⟩;have n0_:=am' (Kd.R_below (by (with_reducible repeat (first|apply ra'|apply rn'|apply rw'));exact HO161.out) hb);have n1_:=am' (Kd.V_lower (Kd.V_mono (ok':=fun k_=>k_≠gb158∧k_≠gb168) ho0 (fun k_ hk_=>⟨Or.elim hk_ (fun hs_=>((Kd.R_types (Kd.R_types (HO161.out) BK158.out (by decide)) BK168.out (by decide)).1 k_ hs_.symm).1.2) (fun hn_=>(Kd.freshB (g:=gb158) (o := .cells #[.slice A0_0 l0_0.length c0_0, .int .i64 a0_1] 52 (0,0)) (by (with_reducible repeat (first|refine kn' ?_ _|refine kd' ?_|refine ka' ?_ _));exact BK158.out) k_ hn_)),Or.elim hk_ (fun hs_=>((Kd.R_types (Kd.R_types (HO161.out) BK158.out (by decide)) BK168.out (by decide)).1 k_ hs_.symm).2) (fun hn_=>(Kd.freshB (g:=gb168) (o := .cells #[.slice none 0 0, .bool false] 80 (0,0)) (by (with_reducible repeat (first|refine kn' ?_ _|refine kd' ?_|refine ka' ?_ _));exact BK168.out) k_ hn_))⟩)) (below_size (by repeat (first|(with_reducible first|exact HB.out|apply ba'|apply bd'|apply be'|refine bs' ?_ GE158.out|refine bs' ?_ GE168.out)|exact HB.out))));have n2_:=am' (blk_below (g:=gb158) (o := .cells #[.slice A0_0 l0_0.length c0_0, .int .i64 a0_1] 52 (0,0)) (by (with_reducible repeat (first|refine kn' ?_ _|refine kd' ?_|refine ka' ?_ _));exact BK158.out) hb);have n3_:=am' (blk_below (g:=gb168) (o := .cells #[.slice none 0 0, .bool false] 80 (0,0)) (by (with_reducible repeat (first|refine kn' ?_ _|refine kd' ?_|refine ka' ?_ _));exact BK168.out) hb);have n4_:=am' (below_step (by repeat (first|(with_reducible first|exact HB.out|apply ba'|apply bd'|apply be'|refine bs' ?_ GE158.out|refine bs' ?_ GE168.out)|exact HB.out)) hb);clear HO161;clear BK158;clear BK168;clear HB;have HO161:=n0_;have HO165:=n1_;have BK158:=n2_;have BK168:=n3_;have HB:=n4_;clear n0_ n1_ n2_ n3_ n4_;(try clear hb)
     (try clear hb2)
     (try clear hk)
     (try clear hi)
     (try clear ho0)
     refine hK.out _ _ ⟨(blk_cell BK158.out 0).trans rfl,(blk_cell BK158.out 1).trans rfl⟩ (fun hHeld=>?_);clear hK K;refine norm_ (a':=?_) ?_ ?_
     rotate_left
     ·
      show Act.put _ (some 15) _=_
      simp only[Act.put,sa',sb',sc',i64_w,i32_w];rfl
     refine pure_ (i:=5) (N:=some 10) (v:=?_) (a':=?_) #[true,true,true,true,true,true,false,false,true,false,false] rfl rfl (any_of HT_.out (by kernel_rfl)) (fun _ _ _ h=>h) (Or.inl ⟨by rfl,?_⟩) ?_ ?_
     rotate_left
     ·
      intro w';go_simp;with_reducible rfl
     rotate_left
     ·
      simp only[Act.put,sa',sb',sc',i64_w,i32_w];rfl
     refine pure_ (i:=6) (N:=some 16) (v:=?_) (a':=?_) #[true,true,true,true,true,true,true,false,true,false,false] rfl rfl (any_of HT_.out (by kernel_rfl)) (fun _ _ _ h=>h) (Or.inl ⟨by rfl,?_⟩) ?_ ?_
     rotate_left
     ·
      intro w';go_simp;with_reducible rfl
     rotate_left
     ·
      simp only[Act.put,sa',sb',sc',i64_w,i32_w];rfl
     refine pure_ (i:=7) (N:=some 17) (v:=?_) (a':=?_) #[true,true,true,true,true,true,true,true,true,false,false] rfl rfl (any_of HT_.out (by kernel_rfl)) (fun _ _ _ h=>h) (Or.inl ⟨by rfl,?_⟩) ?_ ?_
     rotate_left
     ·
      intro w';go_simp;with_reducible rfl
     rotate_left
     ·
      simp only[Act.put,sa',sb',sc',i64_w,i32_w];rfl
     exact norm_ (by simp only[putAll,Act.put,sa',sb',sc']) (hCont (.slice Ao14 t159.length co14,v164,gb168) _ ⟨hHeld,(by (with_reducible repeat (first|apply ra'|apply rn'|apply rw'));exact HO161.out),(by (with_reducible repeat (first|apply Kd.V_alloc|apply Kd.V_drewN|apply Kd.V_drew));exact HO165.out),(by (with_reducible repeat (first|refine kn' ?_ _|refine kd' ?_|refine ka' ?_ _));exact BK158.out),(by (with_reducible repeat (first|refine kn' ?_ _|refine kd' ?_|refine ka' ?_ _));exact BK168.out),GW168.out,GE168.out,NB158_168.out,NB168_158.out,(by repeat (first|(with_reducible first|exact HB.out|apply ba'|apply bd'|apply be'|refine bs' ?_ GE158.out|refine bs' ?_ GE168.out)|exact HB.out))⟩)
   rintro ⟨v160,v164,gb168⟩ w16 ⟨hS_,h0_,h1_,h2_,h3_,h4_,h5_,h6_,h7_,h8_⟩
   have n0_:Aside0 (Kd.R Kd.bool 4 w16 w.heap.size (fun _=>True) v160 t159):=⟨h0_⟩
   have n1_:Aside0 (Kd.V Kd.bool 4 w16 w.heap.size (fun k_=>k_≠gb158∧k_≠gb168) v164 t163):=⟨h1_⟩
   have n2_:Aside0 (w16.heap[gb158]? = some (.cells #[.slice A0_0 l0_0.length c0_0, .int .i64 a0_1] 52 (0,0))):=⟨h2_⟩
   have n3_:Aside0 (w16.heap[gb168]? = some (.cells #[.slice none 0 0, .bool false] 80 (0,0))):=⟨h3_⟩
   have n4_:Aside0 (w.heap.size≤gb168):=⟨h4_⟩
   have n5_:Aside0 (w.heap.size≤gb168):=⟨h5_⟩
   have n6_:Aside0 (gb158≠gb168):=⟨h6_⟩
   have n7_:Aside0 (gb168≠gb158):=⟨h7_⟩
   have n8_:Aside0 (Below w.heap.size w w16):=⟨h8_⟩
   clear BK158;clear HB;clear h0_ h1_ h2_ h3_ h4_ h5_ h6_ h7_ h8_;have HO161:=n0_;have HO165:=n1_;have BK158:=n2_;have BK168:=n3_;have GW168:=n4_;have GE168:=n5_;have NB158_168:=n6_;have NB168_158:=n7_;have HB:=n8_;clear n0_ n1_ n2_ n3_ n4_ n5_ n6_ n7_ n8_;have hHeld:w16.cell? ⟨gb158,0,none⟩=some (.slice A0_0 l0_0.length c0_0)∧w16.cell? ⟨gb158,1,none⟩=some (.int .i64 a0_1):=hS_;obtain ⟨Ao17,co17,eo17⟩:=Kd.V_slice HO165.out
   (first|subst eo17|(injection eo17 with f1_ f2_ f3_;have f4_:=f1_.symm;have f5_:=f3_.symm;clear f1_ f2_ f3_;subst f4_;subst f5_))
   refine norm_ (a':=?_) ?_ ?_
   rotate_left
   ·
    simp only[putAll,Act.put,sa',sb',sc'];rfl
   refine one_ (i:=9) (N:=none) #[true,true,true,true,true,true,true,true,true,true,false] rfl rfl (one_of HT_.out (by kernel_rfl)) (by decide) (fun K hK=>?_);have hs18:w16.cell? ⟨gb168,0,none⟩=some (.slice none 0 0):=(blk_cell BK168.out 0).trans rfl;have hfs18:=blk_frozen BK168.out 0;have hns18_0:=NB158_168.out;have hms18_0:=NB168_158.out;have hs19:w16.cell? ⟨gb168,1,none⟩=some (.bool false):=(blk_cell BK168.out 1).trans rfl;have hfs19:=blk_frozen BK168.out 1;have hns19_0:=NB158_168.out;have hms19_0:=NB168_158.out;refine skip_ (w1:=?_) (by rfl) rfl ?_ ?_
   rotate_left
   ·
    go_simp;rfl
   refine hK.out _ _ ⟨((cell_far (p:=⟨gb168,_,none⟩) NB158_168.out _).trans (((cell_far (p:=⟨gb168,_,none⟩) NB158_168.out _).trans (hHeld.1)))),((cell_far (p:=⟨gb168,_,none⟩) NB158_168.out _).trans (((cell_far (p:=⟨gb168,_,none⟩) NB158_168.out _).trans (hHeld.2))))⟩ (fun hHeld=>?_);clear hK K;refine pure_ (i:=10) (N:=some 6) (v:=?_) (a':=?_) #[true,true,true,true,true,true,true,true,true,true,true] rfl rfl (any_of HT_.out (by kernel_rfl)) (fun _ _ _ h=>h) (Or.inl ⟨by rfl,?_⟩) ?_ ?_
   rotate_left
   ·
    intro w';go_simp;with_reducible rfl
   rotate_left
   ·
    simp only[Act.put,sa',sb',sc',i64_w,i32_w];rfl
   refine done_ (done_of HT_.out (by kernel_rfl)) ?_
   try go_wp2
   have n0_:Aside0 (Kd.R Kd.bool 4 ((w16.setCell ⟨gb168,0,none⟩ (.slice Ao17 t163.length co17)).setCell ⟨gb168,1,none⟩ (.bool t166)) w.heap.size (fun _=>True) v160 t159):=⟨by (with_reducible repeat (first|apply ra'|apply rn'|apply rw'));exact Kd.R_mono (Kd.R_far (p:=⟨gb168,1,none⟩) (Kd.R_far (p:=⟨gb168,0,none⟩) (Kd.R_types HO161.out BK168.out (by decide)) (fun _ hk=>hk.2) (.slice Ao17 t163.length co17)) (fun _ hk=>hk.2) (.bool t166)) (fun _ hk=>trivial)⟩
   have n1_:Aside0 (Kd.V Kd.bool 4 ((w16.setCell ⟨gb168,0,none⟩ (.slice Ao17 t163.length co17)).setCell ⟨gb168,1,none⟩ (.bool t166)) w.heap.size (fun k_=>k_≠gb158∧k_≠gb168) (.slice Ao17 t163.length co17) t163):=⟨by (with_reducible repeat (first|apply Kd.V_alloc|apply Kd.V_drewN|apply Kd.V_drew));exact Kd.V_mono (Kd.V_far (p:=⟨gb168,1,none⟩) (Kd.V_far (p:=⟨gb168,0,none⟩) (Kd.V_mono HO165.out (fun k_ hk=>(⟨hk,hk.2⟩:_∧k_≠gb168))) (fun _ hk=>hk.2) (.slice Ao17 t163.length co17)) (fun _ hk=>hk.2) (.bool t166)) (fun _ hk=>⟨hk.1.1,hk.1.2⟩)⟩
   have n2_:Aside0 (((w16.setCell ⟨gb168,0,none⟩ (.slice Ao17 t163.length co17)).setCell ⟨gb168,1,none⟩ (.bool t166)).heap[gb158]? = some (.cells #[.slice A0_0 l0_0.length c0_0, .int .i64 a0_1] 52 (0,0))):=⟨by (with_reducible repeat (first|refine kn' ?_ _|refine kd' ?_|refine ka' ?_ _));refine blk_far ?_ NB158_168.out _;(with_reducible repeat (first|refine kn' ?_ _|refine kd' ?_|refine ka' ?_ _));refine blk_far ?_ NB158_168.out _;(with_reducible repeat (first|refine kn' ?_ _|refine kd' ?_|refine ka' ?_ _));exact BK158.out⟩
   have n3_:Aside0 (((w16.setCell ⟨gb168,0,none⟩ (.slice Ao17 t163.length co17)).setCell ⟨gb168,1,none⟩ (.bool t166)).heap[gb168]? = some (.cells #[.slice Ao17 t163.length co17, .bool t166] 80 (0,0))):=⟨by (with_reducible repeat (first|refine kn' ?_ _|refine kd' ?_|refine ka' ?_ _));refine blk_put (cs:=#[.slice Ao17 t163.length co17, .bool false]) ?_ 1 _ rfl;(with_reducible repeat (first|refine kn' ?_ _|refine kd' ?_|refine ka' ?_ _));refine blk_put (cs:=#[.slice none 0 0, .bool false]) ?_ 0 _ rfl;(with_reducible repeat (first|refine kn' ?_ _|refine kd' ?_|refine ka' ?_ _));exact BK168.out⟩
   have n4_:Aside0 (Below w.heap.size w ((w16.setCell ⟨gb168,0,none⟩ (.slice Ao17 t163.length co17)).setCell ⟨gb168,1,none⟩ (.bool t166))):=⟨by repeat (first|(with_reducible first|exact HB.out|apply ba'|apply bd'|apply be'|refine bs' ?_ GE158.out|refine bs' ?_ GE168.out)|exact HB.out)⟩
   (try clear HO161)
   (try clear HO165)
   (try clear BK158)
   (try clear BK168)
   (try clear HB)
   generalize ((w16.setCell ⟨gb168,0,none⟩ (.slice Ao17 t163.length co17)).setCell ⟨gb168,1,none⟩ (.bool t166))=w20 at n0_ n1_ n2_ n3_ n4_ ⊢
   have HO161:=n0_;have HO165:=n1_;have BK158:=n2_;have BK168:=n3_;have HB:=n4_;clear n0_ n1_ n2_ n3_ n4_;have n0_:=am' (rw' HO161.out);have n1_:=am' (Kd.V_drew HO165.out);have n2_:=am' (kd' BK158.out);have n3_:=am' (kd' BK168.out);have n4_:=am' (be' HB.out);clear HO161;clear HO165;clear BK158;clear BK168;clear HB;have HO161:=n0_;have HO165:=n1_;have BK158:=n2_;have BK168:=n3_;have HB:=n4_;clear n0_ n1_ n2_ n3_ n4_;refine start_ (n:=11) (S:=fun w'=>w'.cell? ⟨gb168,0,none⟩=some (.slice Ao17 t163.length co17)∧w'.cell? ⟨gb168,1,none⟩=some (.bool t166)∧w'.cell? ⟨gb158,0,none⟩=some (.slice A0_0 l0_0.length c0_0)∧w'.cell? ⟨gb158,1,none⟩=some (.int .i64 a0_1)) (ds:=[]) #[false,false,false,false,false,false,false,false,false,false,false] (by kernel_rfl) rfl rfl ⟨(blk_cell BK168.out 0).trans rfl,(blk_cell BK168.out 1).trans rfl,(blk_cell BK158.out 0).trans rfl,(blk_cell BK158.out 1).trans rfl⟩ (fun hHeld=>?_);refine with_tabW spec_paPlan.tab4 spec_paPlan.bits4 (fun HT_ HW_=>?_);generalize w20.drew=w21 at HO161 HO165 BK158 BK168 HB hHeld ⊢
   refine pure_ (i:=0) (N:=some 18) (v:=?_) (a':=?_) #[true,false,false,false,false,false,false,false,false,false,false] rfl rfl (any_of HT_.out (by kernel_rfl)) (fun _ _ _ h=>h) (Or.inl ⟨by rfl,?_⟩) ?_ ?_
   rotate_left
   ·
    intro w';go_simp;with_reducible rfl
   rotate_left
   ·
    simp only[Act.put,sa',sb',sc',i64_w,i32_w];rfl
   refine pure_ (i:=1) (N:=some 19) (v:=?_) (a':=?_) #[true,true,false,false,false,false,false,false,false,false,false] rfl rfl (any_of HT_.out (by kernel_rfl)) (fun _ _ _ h=>h) (Or.inl ⟨by rfl,?_⟩) ?_ ?_
   rotate_left
   ·
    intro w';go_simp;with_reducible rfl
   rotate_left
   ·
    simp only[Act.put,sa',sb',sc',i64_w,i32_w];rfl
   refine pure_ (i:=2) (N:=some 20) (v:=?_) (a':=?_) #[true,true,true,false,false,false,false,false,false,false,false] rfl rfl (any_of HT_.out (by kernel_rfl)) (fun _ _ _ h=>h) (Or.inl ⟨by rfl,?_⟩) ?_ ?_
   rotate_left
   ·
    intro w';go_simp;with_reducible rfl
   rotate_left
   ·
    simp only[Act.put,sa',sb',sc',i64_w,i32_w];rfl
   refine pure_ (i:=3) (N:=some 21) (v:=?_) (a':=?_) #[true,true,true,true,false,false,false,false,false,false,false] rfl rfl (any_of HT_.out (by kernel_rfl)) (fun _ _ _ h=>h) (Or.inl ⟨by rfl,?_⟩) ?_ ?_
   rotate_left
   ·
    intro w';go_simp;with_reducible rfl
   rotate_left
   ·
    simp only[Act.put,sa',sb',sc',i64_w,i32_w];rfl
   refine pure_ (i:=4) (N:=some 22) (v:=?_) (a':=?_) #[true,true,true,true,true,false,false,false,false,false,false] rfl rfl (any_of HT_.out (by kernel_rfl)) (fun _ _ _ h=>h) (Or.inl ⟨by rfl,?_⟩) ?_ ?_
   rotate_left
   ·
    intro w';go_simp;with_reducible rfl
   rotate_left
   ·
    simp only[Act.put,sa',sb',sc',i64_w,i32_w];rfl
   refine take_ (i:=5) (N:=some 23) (v:=?_) (a':=?_) #[true,true,true,true,true,true,false,false,false,false,false] rfl rfl (take_ofW HT_.out HW_.out (by kernel_rfl)) (fun _ _ _ h=>h) (Or.inl ⟨by rfl,?_⟩) hHeld ?_ ?_
   rotate_left
   ·
    rintro w' ⟨s0,s1,s2,s3⟩
    go_simp;with_reducible rfl
   rotate_left
   ·
    simp only[Act.put,sa',sb',sc',i64_w,i32_w];rfl
   refine take_ (i:=6) (N:=some 24) (v:=?_) (a':=?_) #[true,true,true,true,true,true,true,false,false,false,false] rfl rfl (take_ofW HT_.out HW_.out (by kernel_rfl)) (fun _ _ _ h=>h) (Or.inl ⟨by rfl,?_⟩) hHeld ?_ ?_
   rotate_left
   ·
    rintro w' ⟨s0,s1,s2,s3⟩
    go_simp;with_reducible rfl
   rotate_left
   ·
    simp only[Act.put,sa',sb',sc',i64_w,i32_w];rfl
   refine one_ (i:=7) (N:=some 25) #[true,true,true,true,true,true,true,true,false,false,false] rfl rfl (one_of HT_.out (by kernel_rfl)) (by decide) (fun K hK=>?_);refine goes_ Try.func64 (by kernel_rfl) rfl #[.agg #[.slice A0_0 l0_0.length c0_0, .int .i64 a0_1]] (by rfl) rfl rfl (by (try simp only[List.map_toArray,List.map_cons,List.map_nil]);first|done|rfl|(simp only[List.length_drop,List.length_take];rfl)) ?_
   with_reducible refine (spec_paLast.calls k _ _ l0_0 a0_1 t169 t172 _ ?side1 ?side2 A8.out).mono ?_
   (case side1=>repeat (first|exact (Kd.C_below HR0_0.out HB.out)|(with_reducible refine ca' ?_ _)|(with_reducible refine cn' ?_ _)|(with_reducible refine cd' ?_)))
   (case side2=>exact HC0_0.out)
   rintro e w22 ⟨v170,rfl,ho0,hb⟩
   refine ⟨_,rfl,?_⟩;have n0_:=am' (Kd.R_elder' (by (with_reducible repeat (first|apply ra'|apply rn'|apply rw'));exact HO161.out) (Kd.R_base ho0) hb);have n1_:=am' (Kd.V_elder' (by (with_reducible repeat (first|apply Kd.V_alloc|apply Kd.V_drewN|apply Kd.V_drew));exact HO165.out) (Kd.R_base ho0) hb);have n2_:=am' (Kd.R_lower (Kd.R_new' ho0 (Kd.R_lt (by (with_reducible repeat (first|apply ra'|apply rn'|apply rw'));exact HO161.out))) (below_size (by repeat (first|(with_reducible first|exact HB.out|apply ba'|apply bd'|apply be'|refine bs' ?_ GE158.out|refine bs' ?_ GE168.out)|exact HB.out))));have n3_:=am' (blk_below (g:=gb158) (o := .cells #[.slice A0_0 l0_0.length c0_0, .int .i64 a0_1] 52 (0,0)) (by (with_reducible repeat (first|refine kn' ?_ _|refine kd' ?_|refine ka' ?_ _));exact BK158.out) hb);have n4_:=am' (blk_below (g:=gb168) (o := .cells #[.slice Ao17 t163.length co17, .bool t166] 80 (0,0)) (by (with_reducible repeat (first|refine kn' ?_ _|refine kd' ?_|refine ka' ?_ _));exact BK168.out) hb);have n5_:=am' (below_step (by repeat (first|(with_reducible first|exact HB.out|apply ba'|apply bd'|apply be'|refine bs' ?_ GE158.out|refine bs' ?_ GE168.out)|exact HB.out)) hb);clear HO161;clear HO165;clear BK158;clear BK168;clear HB;have HO161:=n0_;have HO165:=n1_;have HO171:=n2_;have BK158:=n3_;have BK168:=n4_;have HB:=n5_;clear n0_ n1_ n2_ n3_ n4_ n5_;(try clear hb)
   (try clear hb2)
   (try clear hk)
   (try clear hi)
   (try clear ho0)
   obtain ⟨Ao23,co23,eo23⟩:=Kd.R_slice HO171.out
   (first|subst eo23|(injection eo23 with f1_ f2_ f3_;have f4_:=f1_.symm;have f5_:=f3_.symm;clear f1_ f2_ f3_;subst f4_;subst f5_))
   refine hK.out _ _ ⟨(blk_cell BK168.out 0).trans rfl,(blk_cell BK168.out 1).trans rfl,(blk_cell BK158.out 0).trans rfl,(blk_cell BK158.out 1).trans rfl⟩ (fun hHeld=>?_);clear hK K;refine norm_ (a':=?_) ?_ ?_
   rotate_left
   ·
    show Act.put _ (some 25) _=_
    simp only[Act.put,sa',sb',sc',i64_w,i32_w];rfl
   refine one_ (i:=8) (N:=some 26) #[true,true,true,true,true,true,true,true,true,false,false] rfl rfl (one_of HT_.out (by kernel_rfl)) (by decide) (fun K hK=>?_);refine goes_ Try.func63 (by kernel_rfl) rfl #[.agg #[.slice Ao17 t163.length co17, .bool t166], .agg #[.slice Ao23 t169.length co23, .bool t172]] (by rfl) rfl rfl (by (try simp only[List.map_toArray,List.map_cons,List.map_nil]);first|done|rfl|(simp only[List.length_drop,List.length_take];rfl)) ?_
   with_reducible refine (spec_paSame.calls k _ _ t163 t166 _ _ t169 t172 t173 _ ?side1 ?side2 ?side3 ?side4 A9.out).mono ?_
   (case side1=>repeat (first|exact (Kd.V_reads' HO165.out).2.2|(with_reducible refine ca' ?_ _)|(with_reducible refine cn' ?_ _)|(with_reducible refine cd' ?_)))
   (case side2=>exact (Kd.V_reads' HO165.out).2.1)
   (case side3=>repeat (first|exact (Kd.R_reads' HO171.out).2.2|(with_reducible refine ca' ?_ _)|(with_reducible refine cn' ?_ _)|(with_reducible refine cd' ?_)))
   (case side4=>exact (Kd.R_reads' HO171.out).2.1)
   rintro e w24 ⟨rfl,hb⟩
   refine ⟨_,rfl,?_⟩;have n0_:=am' (Kd.R_below (by (with_reducible repeat (first|apply ra'|apply rn'|apply rw'));exact HO161.out) hb);have n1_:=am' (Kd.V_below (by (with_reducible repeat (first|apply Kd.V_alloc|apply Kd.V_drewN|apply Kd.V_drew));exact HO165.out) hb);have n2_:=am' (Kd.R_below (by (with_reducible repeat (first|apply ra'|apply rn'|apply rw'));exact HO171.out) hb);have n3_:=am' (blk_below (g:=gb158) (o := .cells #[.slice A0_0 l0_0.length c0_0, .int .i64 a0_1] 52 (0,0)) (by (with_reducible repeat (first|refine kn' ?_ _|refine kd' ?_|refine ka' ?_ _));exact BK158.out) hb);have n4_:=am' (blk_below (g:=gb168) (o := .cells #[.slice Ao17 t163.length co17, .bool t166] 80 (0,0)) (by (with_reducible repeat (first|refine kn' ?_ _|refine kd' ?_|refine ka' ?_ _));exact BK168.out) hb);have n5_:=am' (below_step (by repeat (first|(with_reducible first|exact HB.out|apply ba'|apply bd'|apply be'|refine bs' ?_ GE158.out|refine bs' ?_ GE168.out)|exact HB.out)) hb);clear HO161;clear HO165;clear HO171;clear BK158;clear BK168;clear HB;have HO161:=n0_;have HO165:=n1_;have HO171:=n2_;have BK158:=n3_;have BK168:=n4_;have HB:=n5_;clear n0_ n1_ n2_ n3_ n4_ n5_;(try clear hb)
   (try clear hb2)
   (try clear hk)
   (try clear hi)
   refine hK.out _ _ ⟨(blk_cell BK168.out 0).trans rfl,(blk_cell BK168.out 1).trans rfl,(blk_cell BK158.out 0).trans rfl,(blk_cell BK158.out 1).trans rfl⟩ (fun hHeld=>?_);clear hK K;refine norm_ (a':=?_) ?_ ?_
   rotate_left
   ·
    show Act.put _ (some 26) _=_
    simp only[Act.put,sa',sb',sc',i64_w,i32_w];rfl
   refine pure_ (i:=9) (N:=some 27) (v:=?_) (a':=?_) #[true,true,true,true,true,true,true,true,true,true,false] rfl rfl (any_of HT_.out (by kernel_rfl)) (fun _ _ _ h=>h) (Or.inl ⟨by rfl,?_⟩) ?_ ?_
   rotate_left
   ·
    intro w';go_simp;with_reducible rfl
   rotate_left
   ·
    simp only[Act.put,sa',sb',sc',i64_w,i32_w];rfl
   refine pure_ (i:=10) (N:=some 4) (v:=?_) (a':=?_) #[true,true,true,true,true,true,true,true,true,true,true] rfl rfl (any_of HT_.out (by kernel_rfl)) (fun _ _ _ h=>h) (Or.inl ⟨by rfl,?_⟩) ?_ ?_
   rotate_left
   ·
    intro w';go_simp;with_reducible rfl
   rotate_left
   ·
    simp only[Act.put,sa',sb',sc',i64_w,i32_w];rfl
   refine done_ (done_of HT_.out (by kernel_rfl)) ?_
   try go_wp2
   go_ret
   exact ⟨by first|rfl|(simp[errW_none,errW_some] <;> rfl)|(simp[*,errW_none,errW_some] <;> rfl),by repeat (first|(with_reducible first|exact HB.out|apply ba'|apply bd'|apply be'|refine bs' ?_ GE158.out|refine bs' ?_ GE168.out)|exact HB.out)⟩
  ·
   rw[if_neg c7] at H;have c7b0:(t167 == (l1.length:Int))=false:=beq_eq_false_iff_ne.mpr c7;have c7b1:(t167 != (l1.length:Int))=true:=bne_iff_ne.mpr c7;obtain rfl:=Option.some.inj H;go_enter Try.func45,Try.ntmps45
   try go_wp2_with (first|((with_reducible refine gate_dst (N:=2) rfl ?_);refine box_event ?hg (N:=2) ?hd (cs:=#[.slice A0_0 l0_0.length c0_0, .int .i64 a0_1]) (t:=52) ?hr ?_;(case hd=>rfl);(case hg=>rfl);(case hr=>first|(go_simp;done)|(go_simp;rfl));intro gb158 hg w25 hbox hb;have n0_:=am' (below_step (by repeat (first|(with_reducible first|exact HB.out|apply ba'|apply bd'|apply be')|exact HB.out)) hb);have n1_:=am' (hbox);have n2_:=am' ((by rw[hg];exact (below_size (by repeat (first|(with_reducible first|exact HB.out|apply ba'|apply bd'|apply be')|exact HB.out))):w.heap.size≤gb158));have n3_:=am' ((by rw[hg];exact (below_size (by repeat (first|(with_reducible first|exact HB.out|apply ba'|apply bd'|apply be')|exact HB.out))):w.heap.size≤gb158));clear HB;have HB:=n0_;have BK158:=n1_;have GW158:=n2_;have GE158:=n3_;clear n0_ n1_ n2_ n3_;clear hb hbox hg))
   have n0_:=am' (kd' BK158.out);have n1_:=am' (be' HB.out);clear BK158;clear HB;have BK158:=n0_;have HB:=n1_;clear n0_ n1_;refine start_ (n:=11) (S:=fun w'=>w'.cell? ⟨gb158,0,none⟩=some (.slice A0_0 l0_0.length c0_0)∧w'.cell? ⟨gb158,1,none⟩=some (.int .i64 a0_1)) (ds:=[]) #[false,false,false,false,false,false,false,false,false,false,false] (by kernel_rfl) rfl rfl ⟨(blk_cell BK158.out 0).trans rfl,(blk_cell BK158.out 1).trans rfl⟩ (fun hHeld=>?_);refine with_tabW spec_paPlan.tab3 spec_paPlan.bits3 (fun HT_ HW_=>?_);generalize w25.drew=w26 at BK158 HB hHeld ⊢
   refine pure_ (i:=3) (N:=some 14) (v:=?_) (a':=?_) #[false,false,false,true,false,false,false,false,false,false,false] rfl rfl (any_of HT_.out (by kernel_rfl)) (fun _ _ _ h=>h) (Or.inl ⟨by rfl,?_⟩) ?_ ?_
   rotate_left
   ·
    intro w';go_simp;with_reducible rfl
   rotate_left
   ·
    simp only[Act.put,sa',sb',sc',i64_w,i32_w];rfl
   refine take_ (i:=0) (N:=some 11) (v:=?_) (a':=?_) #[true,false,false,true,false,false,false,false,false,false,false] rfl rfl (take_ofW HT_.out HW_.out (by kernel_rfl)) (fun _ _ _ h=>h) (Or.inl ⟨by rfl,?_⟩) hHeld ?_ ?_
   rotate_left
   ·
    rintro w' ⟨s0,s1⟩
    go_simp;with_reducible rfl
   rotate_left
   ·
    simp only[Act.put,sa',sb',sc',i64_w,i32_w];rfl
   refine take_ (i:=1) (N:=some 12) (v:=?_) (a':=?_) #[true,true,false,true,false,false,false,false,false,false,false] rfl rfl (take_ofW HT_.out HW_.out (by kernel_rfl)) (fun _ _ _ h=>h) (Or.inl ⟨by rfl,?_⟩) hHeld ?_ ?_
   rotate_left
   ·
    rintro w' ⟨s0,s1⟩
    go_simp;with_reducible rfl
   rotate_left
   ·
    simp only[Act.put,sa',sb',sc',i64_w,i32_w];rfl
   refine join_ (σ:=Value × Value × Nat) 2 #[true,true,true,true,true,true,true,true,true,false,false] (fun s_=>[(13, .agg #[s_.1, .bool t162]),(15, .tuple #[.agg #[s_.2.1, .bool t166], .int .i64 t167]),(5, .pointer (some ⟨s_.2.2,0,none⟩)),(10, .tuple #[.agg #[s_.2.1, .bool t166], .int .i64 t167]),(16, .agg #[s_.2.1, .bool t166]),(17, .int .i64 t167)]) (fun s_ w'=>(w'.cell? ⟨gb158,0,none⟩=some (.slice A0_0 l0_0.length c0_0)∧w'.cell? ⟨gb158,1,none⟩=some (.int .i64 a0_1))∧(Kd.R Kd.bool 4 w' w.heap.size (fun _=>True) s_.1 t159)∧(Kd.V Kd.bool 4 w' w.heap.size (fun k_=>k_≠gb158∧k_≠s_.2.2) s_.2.1 t163)∧(w'.heap[gb158]? = some (.cells #[.slice A0_0 l0_0.length c0_0, .int .i64 a0_1] 52 (0,0)))∧(w'.heap[s_.2.2]? = some (.cells #[.slice none 0 0, .bool false] 80 (0,0)))∧(w.heap.size≤s_.2.2)∧(w.heap.size≤s_.2.2)∧(gb158≠s_.2.2)∧(s_.2.2≠gb158)∧(Below w.heap.size w w')) ?_ ?_
   rotate_left
   ·
    intro hCont;refine two_ (i:=2) (j:=8) (Ni:=some 13) (Nj:=some 5) #[true,true,true,true,false,false,false,false,false,false,false] #[true,true,false,true,false,false,false,false,true,false,false] rfl rfl rfl rfl (two_of HT_.out (by kernel_rfl)) (by decide) (by decide) (fun K hK=>?_) (fun K hK=>?_)
    ·
     skip
     refine goes_ Try.func62 (by kernel_rfl) rfl #[.agg #[.slice A0_0 l0_0.length c0_0, .int .i64 a0_1]] (by rfl) rfl rfl (by (try simp only[List.map_toArray,List.map_cons,List.map_nil]);first|done|rfl|(simp only[List.length_drop,List.length_take];rfl)) ?_
     with_reducible refine (spec_paFirst.calls _ _ l0_0 a0_1 t159 t162 _ ?side1 ?side2 A5.out).mono ?_
     (case side1=>repeat (first|exact (Kd.C_below HR0_0.out HB.out)|(with_reducible refine ca' ?_ _)|(with_reducible refine cn' ?_ _)|(with_reducible refine cd' ?_)))
     (case side2=>exact HC0_0.out)
     rintro e w27 ⟨v160,rfl,ho0,hb⟩
     refine ⟨_,rfl,?_⟩;have n0_:=am' (Kd.R_lower ho0 (below_size (by repeat (first|(with_reducible first|exact HB.out|apply ba'|apply bd'|apply be'|refine bs' ?_ GE158.out)|exact HB.out))));have n1_:=am' (blk_below (g:=gb158) (o := .cells #[.slice A0_0 l0_0.length c0_0, .int .i64 a0_1] 52 (0,0)) (by (with_reducible repeat (first|refine kn' ?_ _|refine kd' ?_|refine ka' ?_ _));exact BK158.out) hb);have n2_:=am' (below_step (by repeat (first|(with_reducible first|exact HB.out|apply ba'|apply bd'|apply be'|refine bs' ?_ GE158.out)|exact HB.out)) hb);clear BK158;clear HB;have HO161:=n0_;have BK158:=n1_;have HB:=n2_;clear n0_ n1_ n2_;(try clear hb)
     (try clear hb2)
     (try clear hk)
     (try clear hi)
     (try clear ho0)
     obtain ⟨Ao28,co28,eo28⟩:=Kd.R_slice HO161.out
     (first|subst eo28|(injection eo28 with f1_ f2_ f3_;have f4_:=f1_.symm;have f5_:=f3_.symm;clear f1_ f2_ f3_;subst f4_;subst f5_))
     refine hK.out _ _ ⟨(blk_cell BK158.out 0).trans rfl,(blk_cell BK158.out 1).trans rfl⟩ (fun hHeld=>?_);clear hK K;refine norm_ (a':=?_) ?_ ?_
     rotate_left
     ·
      show Act.put _ (some 13) _=_
      simp only[Act.put,sa',sb',sc',i64_w,i32_w];rfl
     refine two_ (i:=4) (j:=8) (Ni:=some 15) (Nj:=some 5) #[true,true,true,true,true,false,false,false,false,false,false] #[true,true,true,true,false,false,false,false,true,false,false] rfl rfl rfl rfl (two_of HT_.out (by kernel_rfl)) (by decide) (by decide) (fun K hK=>?_) (fun K hK=>?_)
     ·
      skip
      refine goes_ Try.func61 (by kernel_rfl) rfl #[.agg #[.slice A0_0 l0_0.length c0_0, .int .i64 a0_1], .agg #[.slice Ao28 t159.length co28, .bool t162], .slice A1 l1.length c1] (by rfl) rfl rfl (by (try simp only[List.map_toArray,List.map_cons,List.map_nil]);first|done|rfl|(simp only[List.length_drop,List.length_take];rfl)) ?_
      with_reducible refine (spec_paPlay.calls k _ _ l0_0 a0_1 (fun k_=>some k_=(.slice Ao28 t159.length co28:Value).ownBlock) _ _ t159 t162 _ _ l1 t163 t166 t167 _ ?side1 ?side2 ?side3 ?side4 ?side5 A6.out).mono ?_
      (case side1=>repeat (first|exact (Kd.C_below HR0_0.out HB.out)|(with_reducible refine ca' ?_ _)|(with_reducible refine cn' ?_ _)|(with_reducible refine cd' ?_)))
      (case side2=>exact HC0_0.out)
      (case side3=>exact Kd.R_V (Kd.R_tight rfl (Kd.R_types (HO161.out) BK158.out (by decide))))
      (case side4=>repeat (first|exact (Kd.C_below HR1.out HB.out)|(with_reducible refine ca' ?_ _)|(with_reducible refine cn' ?_ _)|(with_reducible refine cd' ?_)))
      (case side5=>exact HC1.out)
      rintro e w29 ⟨v164,rfl,ho0,hb⟩
      refine ⟨_,rfl,?_⟩;have n0_:=am' (Kd.R_below (by (with_reducible repeat (first|apply ra'|apply rn'|apply rw'));exact HO161.out) hb);have n1_:=am' (Kd.V_lower (Kd.V_mono (ok':=fun k_=>k_≠gb158) ho0 (fun k_ hk_=>Or.elim hk_ (fun hs_=>((Kd.R_types (HO161.out) BK158.out (by decide)).1 k_ hs_.symm).2) (fun hn_=>(Kd.freshB (g:=gb158) (o := .cells #[.slice A0_0 l0_0.length c0_0, .int .i64 a0_1] 52 (0,0)) (by (with_reducible repeat (first|refine kn' ?_ _|refine kd' ?_|refine ka' ?_ _));exact BK158.out) k_ hn_)))) (below_size (by repeat (first|(with_reducible first|exact HB.out|apply ba'|apply bd'|apply be'|refine bs' ?_ GE158.out)|exact HB.out))));have n2_:=am' (blk_below (g:=gb158) (o := .cells #[.slice A0_0 l0_0.length c0_0, .int .i64 a0_1] 52 (0,0)) (by (with_reducible repeat (first|refine kn' ?_ _|refine kd' ?_|refine ka' ?_ _));exact BK158.out) hb);have n3_:=am' (below_step (by repeat (first|(with_reducible first|exact HB.out|apply ba'|apply bd'|apply be'|refine bs' ?_ GE158.out)|exact HB.out)) hb);clear HO161;clear BK158;clear HB;have HO161:=n0_;have HO165:=n1_;have BK158:=n2_;have HB:=n3_;clear n0_ n1_ n2_ n3_;(try clear hb)
      (try clear hb2)
      (try clear hk)
      (try clear hi)
      (try clear ho0)
      refine hK.out _ _ ⟨(blk_cell BK158.out 0).trans rfl,(blk_cell BK158.out 1).trans rfl⟩ (fun hHeld=>?_);clear hK K;refine norm_ (a':=?_) ?_ ?_
      rotate_left
      ·
       show Act.put _ (some 15) _=_
       simp only[Act.put,sa',sb',sc',i64_w,i32_w];rfl
      refine pure_ (i:=5) (N:=some 10) (v:=?_) (a':=?_) #[true,true,true,true,true,true,false,false,false,false,false] rfl rfl (any_of HT_.out (by kernel_rfl)) (fun _ _ _ h=>h) (Or.inl ⟨by rfl,?_⟩) ?_ ?_
      rotate_left
      ·
       intro w';go_simp;with_reducible rfl
      rotate_left
      ·
       simp only[Act.put,sa',sb',sc',i64_w,i32_w];rfl
      refine pure_ (i:=6) (N:=some 16) (v:=?_) (a':=?_) #[true,true,true,true,true,true,true,false,false,false,false] rfl rfl (any_of HT_.out (by kernel_rfl)) (fun _ _ _ h=>h) (Or.inl ⟨by rfl,?_⟩) ?_ ?_
      rotate_left
      ·
       intro w';go_simp;with_reducible rfl
      rotate_left
      ·
       simp only[Act.put,sa',sb',sc',i64_w,i32_w];rfl
      refine pure_ (i:=7) (N:=some 17) (v:=?_) (a':=?_) #[true,true,true,true,true,true,true,true,false,false,false] rfl rfl (any_of HT_.out (by kernel_rfl)) (fun _ _ _ h=>h) (Or.inl ⟨by rfl,?_⟩) ?_ ?_
      rotate_left
      ·
       intro w';go_simp;with_reducible rfl
      rotate_left
      ·
       simp only[Act.put,sa',sb',sc',i64_w,i32_w];rfl
      refine one_ (i:=8) (N:=some 5) #[true,true,true,true,true,true,true,true,true,false,false] rfl rfl (one_of HT_.out (by kernel_rfl)) (by decide) (fun K hK=>?_);refine box_step ?hg (N:=5) ?hd (cs:=#[.slice none 0 0, .bool false]) (t:=80) ?hr ?_;(case hd=>rfl);(case hg=>rfl);(case hr=>first|(go_simp;done)|(go_simp;rfl))
      intro gb168 hg w30 hbox hb;have n0_:=am' (Kd.R_below (by (with_reducible repeat (first|apply ra'|apply rn'|apply rw'));exact HO161.out) hb);have n1_:=am' (Kd.V_below (Kd.V_elderB (by (with_reducible repeat (first|apply Kd.V_alloc|apply Kd.V_drewN|apply Kd.V_drew));exact HO165.out) gb168 (Nat.le_of_eq hg.symm)) hb);have n2_:=am' (blk_below (g:=gb158) (o := .cells #[.slice A0_0 l0_0.length c0_0, .int .i64 a0_1] 52 (0,0)) (by (with_reducible repeat (first|refine kn' ?_ _|refine kd' ?_|refine ka' ?_ _));exact BK158.out) hb);have n3_:=am' (below_step (by repeat (first|(with_reducible first|exact HB.out|apply ba'|apply bd'|apply be'|refine bs' ?_ GE158.out)|exact HB.out)) hb);have n4_:=am' (hbox);have n5_:=am' ((by rw[hg];exact (below_size (by repeat (first|(with_reducible first|exact HB.out|apply ba'|apply bd'|apply be'|refine bs' ?_ GE158.out)|exact HB.out))):w.heap.size≤gb168));have n6_:=am' ((by rw[hg];exact (below_size (by repeat (first|(with_reducible first|exact HB.out|apply ba'|apply bd'|apply be'|refine bs' ?_ GE158.out)|exact HB.out))):w.heap.size≤gb168));have n7_:=am' ((by rw[hg];exact Nat.ne_of_lt (blk_lt (g:=gb158) (o := .cells #[.slice A0_0 l0_0.length c0_0, .int .i64 a0_1] 52 (0,0)) (by (with_reducible repeat (first|refine kn' ?_ _|refine kd' ?_|refine ka' ?_ _));exact BK158.out)):gb158≠gb168));have n8_:=am' ((by rw[hg];exact Nat.ne_of_gt (blk_lt (g:=gb158) (o := .cells #[.slice A0_0 l0_0.length c0_0, .int .i64 a0_1] 52 (0,0)) (by (with_reducible repeat (first|refine kn' ?_ _|refine kd' ?_|refine ka' ?_ _));exact BK158.out)):gb168≠gb158));clear HO161;clear HO165;clear BK158;clear HB;have HO161:=n0_;have HO165:=n1_;have BK158:=n2_;have HB:=n3_;have BK168:=n4_;have GW168:=n5_;have GE168:=n6_;have NB158_168:=n7_;have NB168_158:=n8_;clear n0_ n1_ n2_ n3_ n4_ n5_ n6_ n7_ n8_;clear hb hbox hg;refine hK.out _ _ ⟨(blk_cell BK158.out 0).trans rfl,(blk_cell BK158.out 1).trans rfl⟩ (fun hHeld=>?_);clear hK K;refine norm_ (a':=?_) ?_ ?_
      rotate_left
      ·
       show Act.put _ (some 5) _=_
       simp only[Act.put,sa',sb',sc',i64_w,i32_w];rfl
      exact norm_ (by simp only[putAll,Act.put,sa',sb',sc']) (hCont (.slice Ao28 t159.length co28,v164,gb168) _ ⟨hHeld,(by (with_reducible repeat (first|apply ra'|apply rn'|apply rw'));exact HO161.out),(by (with_reducible repeat (first|apply Kd.V_alloc|apply Kd.V_drewN|apply Kd.V_drew));exact HO165.out),(by (with_reducible repeat (first|refine kn' ?_ _|refine kd' ?_|refine ka' ?_ _));exact BK158.out),(by (with_reducible repeat (first|refine kn' ?_ _|refine kd' ?_|refine ka' ?_ _));exact BK168.out),GW168.out,GE168.out,NB158_168.out,NB168_158.out,(by repeat (first|(with_reducible first|exact HB.out|apply ba'|apply bd'|apply be'|refine bs' ?_ GE158.out|refine bs' ?_ GE168.out)|exact HB.out))⟩)
     ·
      skip
      refine box_step ?hg (N:=5) ?hd (cs:=#[.slice none 0 0, .bool false]) (t:=80) ?hr ?_;(case hd=>rfl);(case hg=>rfl);(case hr=>first|(go_simp;done)|(go_simp;rfl))
      intro gb168 hg w28 hbox hb;have n0_:=am' (Kd.R_below (by (with_reducible repeat (first|apply ra'|apply rn'|apply rw'));exact HO161.out) hb);have n1_:=am' (blk_below (g:=gb158) (o := .cells #[.slice A0_0 l0_0.length c0_0, .int .i64 a0_1] 52 (0,0)) (by (with_reducible repeat (first|refine kn' ?_ _|refine kd' ?_|refine ka' ?_ _));exact BK158.out) hb);have n2_:=am' (below_step (by repeat (first|(with_reducible first|exact HB.out|apply ba'|apply bd'|apply be'|refine bs' ?_ GE158.out)|exact HB.out)) hb);have n3_:=am' (hbox);have n4_:=am' ((by rw[hg];exact (below_size (by repeat (first|(with_reducible first|exact HB.out|apply ba'|apply bd'|apply be'|refine bs' ?_ GE158.out)|exact HB.out))):w.heap.size≤gb168));have n5_:=am' ((by rw[hg];exact (below_size (by repeat (first|(with_reducible first|exact HB.out|apply ba'|apply bd'|apply be'|refine bs' ?_ GE158.out)|exact HB.out))):w.heap.size≤gb168));have n6_:=am' ((by rw[hg];exact Nat.ne_of_lt (blk_lt (g:=gb158) (o := .cells #[.slice A0_0 l0_0.length c0_0, .int .i64 a0_1] 52 (0,0)) (by (with_reducible repeat (first|refine kn' ?_ _|refine kd' ?_|refine ka' ?_ _));exact BK158.out)):gb158≠gb168));have n7_:=am' ((by rw[hg];exact Nat.ne_of_gt (blk_lt (g:=gb158) (o := .cells #[.slice A0_0 l0_0.length c0_0, .int .i64 a0_1] 52 (0,0)) (by (with_reducible repeat (first|refine kn' ?_ _|refine kd' ?_|refine ka' ?_ _));exact BK158.out)):gb168≠gb158));clear HO161;clear BK158;clear HB;have HO161:=n0_;have BK158:=n1_;have HB:=n2_;have BK168:=n3_;have GW168:=n4_;have GE168:=n5_;have NB158_168:=n6_;have NB168_158:=n7_;clear n0_ n1_ n2_ n3_ n4_ n5_ n6_ n7_;clear hb hbox hg;obtain ⟨Ao29,co29,eo29⟩:=Kd.R_slice HO161.out
      (first|subst eo29|(injection eo29 with f1_ f2_ f3_;have f4_:=f1_.symm;have f5_:=f3_.symm;clear f1_ f2_ f3_;subst f4_;subst f5_))
      refine hK.out _ _ ⟨(blk_cell BK158.out 0).trans rfl,(blk_cell BK158.out 1).trans rfl⟩ (fun hHeld=>?_);clear hK K;refine norm_ (a':=?_) ?_ ?_
      rotate_left
      ·
       show Act.put _ (some 5) _=_
       simp only[Act.put,sa',sb',sc',i64_w,i32_w];rfl
      refine one_ (i:=4) (N:=some 15) #[true,true,true,true,true,false,false,false,true,false,false] rfl rfl (one_of HT_.out (by kernel_rfl)) (by decide) (fun K hK=>?_);refine goes_ Try.func61 (by kernel_rfl) rfl #[.agg #[.slice A0_0 l0_0.length c0_0, .int .i64 a0_1], .agg #[.slice Ao29 t159.length co29, .bool t162], .slice A1 l1.length c1] (by rfl) rfl rfl (by (try simp only[List.map_toArray,List.map_cons,List.map_nil]);first|done|rfl|(simp only[List.length_drop,List.length_take];rfl)) ?_
      with_reducible refine (spec_paPlay.calls k _ _ l0_0 a0_1 (fun k_=>some k_=(.slice Ao29 t159.length co29:Value).ownBlock) _ _ t159 t162 _ _ l1 t163 t166 t167 _ ?side1 ?side2 ?side3 ?side4 ?side5 A6.out).mono ?_
      (case side1=>repeat (first|exact (Kd.C_below HR0_0.out HB.out)|(with_reducible refine ca' ?_ _)|(with_reducible refine cn' ?_ _)|(with_reducible refine cd' ?_)))
      (case side2=>exact HC0_0.out)
      (case side3=>exact Kd.R_V (Kd.R_tight rfl (Kd.R_types (Kd.R_types (HO161.out) BK158.out (by decide)) BK168.out (by decide))))
      (case side4=>repeat (first|exact (Kd.C_below HR1.out HB.out)|(with_reducible refine ca' ?_ _)|(with_reducible refine cn' ?_ _)|(with_reducible refine cd' ?_)))
      (case side5=>exact HC1.out)
      rintro e w30 ⟨v164,rfl,ho0,hb⟩
      refine ⟨_,rfl,?_⟩;have n0_:=am' (Kd.R_below (by (with_reducible repeat (first|apply ra'|apply rn'|apply rw'));exact HO161.out) hb);have n1_:=am' (Kd.V_lower (Kd.V_mono (ok':=fun k_=>k_≠gb158∧k_≠gb168) ho0 (fun k_ hk_=>⟨Or.elim hk_ (fun hs_=>((Kd.R_types (Kd.R_types (HO161.out) BK158.out (by decide)) BK168.out (by decide)).1 k_ hs_.symm).1.2) (fun hn_=>(Kd.freshB (g:=gb158) (o := .cells #[.slice A0_0 l0_0.length c0_0, .int .i64 a0_1] 52 (0,0)) (by (with_reducible repeat (first|refine kn' ?_ _|refine kd' ?_|refine ka' ?_ _));exact BK158.out) k_ hn_)),Or.elim hk_ (fun hs_=>((Kd.R_types (Kd.R_types (HO161.out) BK158.out (by decide)) BK168.out (by decide)).1 k_ hs_.symm).2) (fun hn_=>(Kd.freshB (g:=gb168) (o := .cells #[.slice none 0 0, .bool false] 80 (0,0)) (by (with_reducible repeat (first|refine kn' ?_ _|refine kd' ?_|refine ka' ?_ _));exact BK168.out) k_ hn_))⟩)) (below_size (by repeat (first|(with_reducible first|exact HB.out|apply ba'|apply bd'|apply be'|refine bs' ?_ GE158.out|refine bs' ?_ GE168.out)|exact HB.out))));have n2_:=am' (blk_below (g:=gb158) (o := .cells #[.slice A0_0 l0_0.length c0_0, .int .i64 a0_1] 52 (0,0)) (by (with_reducible repeat (first|refine kn' ?_ _|refine kd' ?_|refine ka' ?_ _));exact BK158.out) hb);have n3_:=am' (blk_below (g:=gb168) (o := .cells #[.slice none 0 0, .bool false] 80 (0,0)) (by (with_reducible repeat (first|refine kn' ?_ _|refine kd' ?_|refine ka' ?_ _));exact BK168.out) hb);have n4_:=am' (below_step (by repeat (first|(with_reducible first|exact HB.out|apply ba'|apply bd'|apply be'|refine bs' ?_ GE158.out|refine bs' ?_ GE168.out)|exact HB.out)) hb);clear HO161;clear BK158;clear BK168;clear HB;have HO161:=n0_;have HO165:=n1_;have BK158:=n2_;have BK168:=n3_;have HB:=n4_;clear n0_ n1_ n2_ n3_ n4_;(try clear hb)
      (try clear hb2)
      (try clear hk)
      (try clear hi)
      (try clear ho0)
      refine hK.out _ _ ⟨(blk_cell BK158.out 0).trans rfl,(blk_cell BK158.out 1).trans rfl⟩ (fun hHeld=>?_);clear hK K;refine norm_ (a':=?_) ?_ ?_
      rotate_left
      ·
       show Act.put _ (some 15) _=_
       simp only[Act.put,sa',sb',sc',i64_w,i32_w];rfl
      refine pure_ (i:=5) (N:=some 10) (v:=?_) (a':=?_) #[true,true,true,true,true,true,false,false,true,false,false] rfl rfl (any_of HT_.out (by kernel_rfl)) (fun _ _ _ h=>h) (Or.inl ⟨by rfl,?_⟩) ?_ ?_
      rotate_left
      ·
       intro w';go_simp;with_reducible rfl
      rotate_left
      ·
       simp only[Act.put,sa',sb',sc',i64_w,i32_w];rfl
      refine pure_ (i:=6) (N:=some 16) (v:=?_) (a':=?_) #[true,true,true,true,true,true,true,false,true,false,false] rfl rfl (any_of HT_.out (by kernel_rfl)) (fun _ _ _ h=>h) (Or.inl ⟨by rfl,?_⟩) ?_ ?_
      rotate_left
      ·
       intro w';go_simp;with_reducible rfl
      rotate_left
      ·
       simp only[Act.put,sa',sb',sc',i64_w,i32_w];rfl
      refine pure_ (i:=7) (N:=some 17) (v:=?_) (a':=?_) #[true,true,true,true,true,true,true,true,true,false,false] rfl rfl (any_of HT_.out (by kernel_rfl)) (fun _ _ _ h=>h) (Or.inl ⟨by rfl,?_⟩) ?_ ?_
      rotate_left
      ·
       intro w';go_simp;with_reducible rfl
      rotate_left
      ·
       simp only[Act.put,sa',sb',sc',i64_w,i32_w];rfl
      exact norm_ (by simp only[putAll,Act.put,sa',sb',sc']) (hCont (.slice Ao29 t159.length co29,v164,gb168) _ ⟨hHeld,(by (with_reducible repeat (first|apply ra'|apply rn'|apply rw'));exact HO161.out),(by (with_reducible repeat (first|apply Kd.V_alloc|apply Kd.V_drewN|apply Kd.V_drew));exact HO165.out),(by (with_reducible repeat (first|refine kn' ?_ _|refine kd' ?_|refine ka' ?_ _));exact BK158.out),(by (with_reducible repeat (first|refine kn' ?_ _|refine kd' ?_|refine ka' ?_ _));exact BK168.out),GW168.out,GE168.out,NB158_168.out,NB168_158.out,(by repeat (first|(with_reducible first|exact HB.out|apply ba'|apply bd'|apply be'|refine bs' ?_ GE158.out|refine bs' ?_ GE168.out)|exact HB.out))⟩)
    ·
     skip
     refine box_step ?hg (N:=5) ?hd (cs:=#[.slice none 0 0, .bool false]) (t:=80) ?hr ?_;(case hd=>rfl);(case hg=>rfl);(case hr=>first|(go_simp;done)|(go_simp;rfl))
     intro gb168 hg w27 hbox hb;have n0_:=am' (blk_below (g:=gb158) (o := .cells #[.slice A0_0 l0_0.length c0_0, .int .i64 a0_1] 52 (0,0)) (by (with_reducible repeat (first|refine kn' ?_ _|refine kd' ?_|refine ka' ?_ _));exact BK158.out) hb);have n1_:=am' (below_step (by repeat (first|(with_reducible first|exact HB.out|apply ba'|apply bd'|apply be'|refine bs' ?_ GE158.out)|exact HB.out)) hb);have n2_:=am' (hbox);have n3_:=am' ((by rw[hg];exact (below_size (by repeat (first|(with_reducible first|exact HB.out|apply ba'|apply bd'|apply be'|refine bs' ?_ GE158.out)|exact HB.out))):w.heap.size≤gb168));have n4_:=am' ((by rw[hg];exact (below_size (by repeat (first|(with_reducible first|exact HB.out|apply ba'|apply bd'|apply be'|refine bs' ?_ GE158.out)|exact HB.out))):w.heap.size≤gb168));have n5_:=am' ((by rw[hg];exact Nat.ne_of_lt (blk_lt (g:=gb158) (o := .cells #[.slice A0_0 l0_0.length c0_0, .int .i64 a0_1] 52 (0,0)) (by (with_reducible repeat (first|refine kn' ?_ _|refine kd' ?_|refine ka' ?_ _));exact BK158.out)):gb158≠gb168));have n6_:=am' ((by rw[hg];exact Nat.ne_of_gt (blk_lt (g:=gb158) (o := .cells #[.slice A0_0 l0_0.length c0_0, .int .i64 a0_1] 52 (0,0)) (by (with_reducible repeat (first|refine kn' ?_ _|refine kd' ?_|refine ka' ?_ _));exact BK158.out)):gb168≠gb158));clear BK158;clear HB;have BK158:=n0_;have HB:=n1_;have BK168:=n2_;have GW168:=n3_;have GE168:=n4_;have NB158_168:=n5_;have NB168_158:=n6_;clear n0_ n1_ n2_ n3_ n4_ n5_ n6_;clear hb hbox hg;refine hK.out _ _ ⟨(blk_cell BK158.out 0).trans rfl,(blk_cell BK158.out 1).trans rfl⟩ (fun hHeld=>?_);clear hK K;refine norm_ (a':=?_) ?_ ?_
     rotate_left
     ·
      show Act.put _ (some 5) _=_
      simp only[Act.put,sa',sb',sc',i64_w,i32_w];rfl
     refine one_ (i:=2) (N:=some 13) #[true,true,true,true,false,false,false,false,true,false,false] rfl rfl (one_of HT_.out (by kernel_rfl)) (by decide) (fun K hK=>?_);refine goes_ Try.func62 (by kernel_rfl) rfl #[.agg #[.slice A0_0 l0_0.length c0_0, .int .i64 a0_1]] (by rfl) rfl rfl (by (try simp only[List.map_toArray,List.map_cons,List.map_nil]);first|done|rfl|(simp only[List.length_drop,List.length_take];rfl)) ?_
     with_reducible refine (spec_paFirst.calls _ _ l0_0 a0_1 t159 t162 _ ?side1 ?side2 A5.out).mono ?_
     (case side1=>repeat (first|exact (Kd.C_below HR0_0.out HB.out)|(with_reducible refine ca' ?_ _)|(with_reducible refine cn' ?_ _)|(with_reducible refine cd' ?_)))
     (case side2=>exact HC0_0.out)
     rintro e w28 ⟨v160,rfl,ho0,hb⟩
     refine ⟨_,rfl,?_⟩;have n0_:=am' (Kd.R_lower ho0 (below_size (by repeat (first|(with_reducible first|exact HB.out|apply ba'|apply bd'|apply be'|refine bs' ?_ GE158.out|refine bs' ?_ GE168.out)|exact HB.out))));have n1_:=am' (blk_below (g:=gb158) (o := .cells #[.slice A0_0 l0_0.length c0_0, .int .i64 a0_1] 52 (0,0)) (by (with_reducible repeat (first|refine kn' ?_ _|refine kd' ?_|refine ka' ?_ _));exact BK158.out) hb);have n2_:=am' (blk_below (g:=gb168) (o := .cells #[.slice none 0 0, .bool false] 80 (0,0)) (by (with_reducible repeat (first|refine kn' ?_ _|refine kd' ?_|refine ka' ?_ _));exact BK168.out) hb);have n3_:=am' (below_step (by repeat (first|(with_reducible first|exact HB.out|apply ba'|apply bd'|apply be'|refine bs' ?_ GE158.out|refine bs' ?_ GE168.out)|exact HB.out)) hb);clear BK158;clear BK168;clear HB;have HO161:=n0_;have BK158:=n1_;have BK168:=n2_;have HB:=n3_;clear n0_ n1_ n2_ n3_;(try clear hb)
     (try clear hb2)
     (try clear hk)
     (try clear hi)
     (try clear ho0)
     obtain ⟨Ao29,co29,eo29⟩:=Kd.R_slice HO161.out
     (first|subst eo29|(injection eo29 with f1_ f2_ f3_;have f4_:=f1_.symm;have f5_:=f3_.symm;clear f1_ f2_ f3_;subst f4_;subst f5_))
     refine hK.out _ _ ⟨(blk_cell BK158.out 0).trans rfl,(blk_cell BK158.out 1).trans rfl⟩ (fun hHeld=>?_);clear hK K;refine norm_ (a':=?_) ?_ ?_
     rotate_left
     ·
      show Act.put _ (some 13) _=_
      simp only[Act.put,sa',sb',sc',i64_w,i32_w];rfl
     refine one_ (i:=4) (N:=some 15) #[true,true,true,true,true,false,false,false,true,false,false] rfl rfl (one_of HT_.out (by kernel_rfl)) (by decide) (fun K hK=>?_);refine goes_ Try.func61 (by kernel_rfl) rfl #[.agg #[.slice A0_0 l0_0.length c0_0, .int .i64 a0_1], .agg #[.slice Ao29 t159.length co29, .bool t162], .slice A1 l1.length c1] (by rfl) rfl rfl (by (try simp only[List.map_toArray,List.map_cons,List.map_nil]);first|done|rfl|(simp only[List.length_drop,List.length_take];rfl)) ?_
     with_reducible refine (spec_paPlay.calls k _ _ l0_0 a0_1 (fun k_=>some k_=(.slice Ao29 t159.length co29:Value).ownBlock) _ _ t159 t162 _ _ l1 t163 t166 t167 _ ?side1 ?side2 ?side3 ?side4 ?side5 A6.out).mono ?_
     (case side1=>repeat (first|exact (Kd.C_below HR0_0.out HB.out)|(with_reducible refine ca' ?_ _)|(with_reducible refine cn' ?_ _)|(with_reducible refine cd' ?_)))
     (case side2=>exact HC0_0.out)
     (case side3=>exact Kd.R_V (Kd.R_tight rfl (Kd.R_types (Kd.R_types (HO161.out) BK158.out (by decide)) BK168.out (by decide))))
     (case side4=>repeat (first|exact (Kd.C_below HR1.out HB.out)|(with_reducible refine ca' ?_ _)|(with_reducible refine cn' ?_ _)|(with_reducible refine cd' ?_)))
     (case side5=>exact HC1.out)
     rintro e w30 ⟨v164,rfl,ho0,hb⟩
     refine ⟨_,rfl,?_⟩;have n0_:=am' (Kd.R_below (by (with_reducible repeat (first|apply ra'|apply rn'|apply rw'));exact HO161.out) hb);have n1_:=am' (Kd.V_lower (Kd.V_mono (ok':=fun k_=>k_≠gb158∧k_≠gb168) ho0 (fun k_ hk_=>⟨Or.elim hk_ (fun hs_=>((Kd.R_types (Kd.R_types (HO161.out) BK158.out (by decide)) BK168.out (by decide)).1 k_ hs_.symm).1.2) (fun hn_=>(Kd.freshB (g:=gb158) (o := .cells #[.slice A0_0 l0_0.length c0_0, .int .i64 a0_1] 52 (0,0)) (by (with_reducible repeat (first|refine kn' ?_ _|refine kd' ?_|refine ka' ?_ _));exact BK158.out) k_ hn_)),Or.elim hk_ (fun hs_=>((Kd.R_types (Kd.R_types (HO161.out) BK158.out (by decide)) BK168.out (by decide)).1 k_ hs_.symm).2) (fun hn_=>(Kd.freshB (g:=gb168) (o := .cells #[.slice none 0 0, .bool false] 80 (0,0)) (by (with_reducible repeat (first|refine kn' ?_ _|refine kd' ?_|refine ka' ?_ _));exact BK168.out) k_ hn_))⟩)) (below_size (by repeat (first|(with_reducible first|exact HB.out|apply ba'|apply bd'|apply be'|refine bs' ?_ GE158.out|refine bs' ?_ GE168.out)|exact HB.out))));have n2_:=am' (blk_below (g:=gb158) (o := .cells #[.slice A0_0 l0_0.length c0_0, .int .i64 a0_1] 52 (0,0)) (by (with_reducible repeat (first|refine kn' ?_ _|refine kd' ?_|refine ka' ?_ _));exact BK158.out) hb);have n3_:=am' (blk_below (g:=gb168) (o := .cells #[.slice none 0 0, .bool false] 80 (0,0)) (by (with_reducible repeat (first|refine kn' ?_ _|refine kd' ?_|refine ka' ?_ _));exact BK168.out) hb);have n4_:=am' (below_step (by repeat (first|(with_reducible first|exact HB.out|apply ba'|apply bd'|apply be'|refine bs' ?_ GE158.out|refine bs' ?_ GE168.out)|exact HB.out)) hb);clear HO161;clear BK158;clear BK168;clear HB;have HO161:=n0_;have HO165:=n1_;have BK158:=n2_;have BK168:=n3_;have HB:=n4_;clear n0_ n1_ n2_ n3_ n4_;(try clear hb)
     (try clear hb2)
     (try clear hk)
     (try clear hi)
     (try clear ho0)
     refine hK.out _ _ ⟨(blk_cell BK158.out 0).trans rfl,(blk_cell BK158.out 1).trans rfl⟩ (fun hHeld=>?_);clear hK K;refine norm_ (a':=?_) ?_ ?_
     rotate_left
     ·
      show Act.put _ (some 15) _=_
      simp only[Act.put,sa',sb',sc',i64_w,i32_w];rfl
     refine pure_ (i:=5) (N:=some 10) (v:=?_) (a':=?_) #[true,true,true,true,true,true,false,false,true,false,false] rfl rfl (any_of HT_.out (by kernel_rfl)) (fun _ _ _ h=>h) (Or.inl ⟨by rfl,?_⟩) ?_ ?_
     rotate_left
     ·
      intro w';go_simp;with_reducible rfl
     rotate_left
     ·
      simp only[Act.put,sa',sb',sc',i64_w,i32_w];rfl
     refine pure_ (i:=6) (N:=some 16) (v:=?_) (a':=?_) #[true,true,true,true,true,true,true,false,true,false,false] rfl rfl (any_of HT_.out (by kernel_rfl)) (fun _ _ _ h=>h) (Or.inl ⟨by rfl,?_⟩) ?_ ?_
     rotate_left
     ·
      intro w';go_simp;with_reducible rfl
     rotate_left
     ·
      simp only[Act.put,sa',sb',sc',i64_w,i32_w];rfl
     refine pure_ (i:=7) (N:=some 17) (v:=?_) (a':=?_) #[true,true,true,true,true,true,true,true,true,false,false] rfl rfl (any_of HT_.out (by kernel_rfl)) (fun _ _ _ h=>h) (Or.inl ⟨by rfl,?_⟩) ?_ ?_
     rotate_left
     ·
      intro w';go_simp;with_reducible rfl
     rotate_left
     ·
      simp only[Act.put,sa',sb',sc',i64_w,i32_w];rfl
     exact norm_ (by simp only[putAll,Act.put,sa',sb',sc']) (hCont (.slice Ao29 t159.length co29,v164,gb168) _ ⟨hHeld,(by (with_reducible repeat (first|apply ra'|apply rn'|apply rw'));exact HO161.out),(by (with_reducible repeat (first|apply Kd.V_alloc|apply Kd.V_drewN|apply Kd.V_drew));exact HO165.out),(by (with_reducible repeat (first|refine kn' ?_ _|refine kd' ?_|refine ka' ?_ _));exact BK158.out),(by (with_reducible repeat (first|refine kn' ?_ _|refine kd' ?_|refine ka' ?_ _));exact BK168.out),GW168.out,GE168.out,NB158_168.out,NB168_158.out,(by repeat (first|(with_reducible first|exact HB.out|apply ba'|apply bd'|apply be'|refine bs' ?_ GE158.out|refine bs' ?_ GE168.out)|exact HB.out))⟩)
   rintro ⟨v160,v164,gb168⟩ w31 ⟨hS_,h0_,h1_,h2_,h3_,h4_,h5_,h6_,h7_,h8_⟩
   have n0_:Aside0 (Kd.R Kd.bool 4 w31 w.heap.size (fun _=>True) v160 t159):=⟨h0_⟩
   have n1_:Aside0 (Kd.V Kd.bool 4 w31 w.heap.size (fun k_=>k_≠gb158∧k_≠gb168) v164 t163):=⟨h1_⟩
   have n2_:Aside0 (w31.heap[gb158]? = some (.cells #[.slice A0_0 l0_0.length c0_0, .int .i64 a0_1] 52 (0,0))):=⟨h2_⟩
   have n3_:Aside0 (w31.heap[gb168]? = some (.cells #[.slice none 0 0, .bool false] 80 (0,0))):=⟨h3_⟩
   have n4_:Aside0 (w.heap.size≤gb168):=⟨h4_⟩
   have n5_:Aside0 (w.heap.size≤gb168):=⟨h5_⟩
   have n6_:Aside0 (gb158≠gb168):=⟨h6_⟩
   have n7_:Aside0 (gb168≠gb158):=⟨h7_⟩
   have n8_:Aside0 (Below w.heap.size w w31):=⟨h8_⟩
   clear BK158;clear HB;clear h0_ h1_ h2_ h3_ h4_ h5_ h6_ h7_ h8_;have HO161:=n0_;have HO165:=n1_;have BK158:=n2_;have BK168:=n3_;have GW168:=n4_;have GE168:=n5_;have NB158_168:=n6_;have NB168_158:=n7_;have HB:=n8_;clear n0_ n1_ n2_ n3_ n4_ n5_ n6_ n7_ n8_;have hHeld:w31.cell? ⟨gb158,0,none⟩=some (.slice A0_0 l0_0.length c0_0)∧w31.cell? ⟨gb158,1,none⟩=some (.int .i64 a0_1):=hS_;obtain ⟨Ao32,co32,eo32⟩:=Kd.V_slice HO165.out
   (first|subst eo32|(injection eo32 with f1_ f2_ f3_;have f4_:=f1_.symm;have f5_:=f3_.symm;clear f1_ f2_ f3_;subst f4_;subst f5_))
   refine norm_ (a':=?_) ?_ ?_
   rotate_left
   ·
    simp only[putAll,Act.put,sa',sb',sc'];rfl
   refine one_ (i:=9) (N:=none) #[true,true,true,true,true,true,true,true,true,true,false] rfl rfl (one_of HT_.out (by kernel_rfl)) (by decide) (fun K hK=>?_);have hs33:w31.cell? ⟨gb168,0,none⟩=some (.slice none 0 0):=(blk_cell BK168.out 0).trans rfl;have hfs33:=blk_frozen BK168.out 0;have hns33_0:=NB158_168.out;have hms33_0:=NB168_158.out;have hs34:w31.cell? ⟨gb168,1,none⟩=some (.bool false):=(blk_cell BK168.out 1).trans rfl;have hfs34:=blk_frozen BK168.out 1;have hns34_0:=NB158_168.out;have hms34_0:=NB168_158.out;refine skip_ (w1:=?_) (by rfl) rfl ?_ ?_
   rotate_left
   ·
    go_simp;rfl
   refine hK.out _ _ ⟨((cell_far (p:=⟨gb168,_,none⟩) NB158_168.out _).trans (((cell_far (p:=⟨gb168,_,none⟩) NB158_168.out _).trans (hHeld.1)))),((cell_far (p:=⟨gb168,_,none⟩) NB158_168.out _).trans (((cell_far (p:=⟨gb168,_,none⟩) NB158_168.out _).trans (hHeld.2))))⟩ (fun hHeld=>?_);clear hK K;refine pure_ (i:=10) (N:=some 6) (v:=?_) (a':=?_) #[true,true,true,true,true,true,true,true,true,true,true] rfl rfl (any_of HT_.out (by kernel_rfl)) (fun _ _ _ h=>h) (Or.inl ⟨by rfl,?_⟩) ?_ ?_
   rotate_left
   ·
    intro w';go_simp;with_reducible rfl
   rotate_left
   ·
    simp only[Act.put,sa',sb',sc',i64_w,i32_w];rfl
   refine done_ (done_of HT_.out (by kernel_rfl)) ?_
   try go_wp2
   have n0_:Aside0 (Kd.R Kd.bool 4 ((w31.setCell ⟨gb168,0,none⟩ (.slice Ao32 t163.length co32)).setCell ⟨gb168,1,none⟩ (.bool t166)) w.heap.size (fun _=>True) v160 t159):=⟨by (with_reducible repeat (first|apply ra'|apply rn'|apply rw'));exact Kd.R_mono (Kd.R_far (p:=⟨gb168,1,none⟩) (Kd.R_far (p:=⟨gb168,0,none⟩) (Kd.R_types HO161.out BK168.out (by decide)) (fun _ hk=>hk.2) (.slice Ao32 t163.length co32)) (fun _ hk=>hk.2) (.bool t166)) (fun _ hk=>trivial)⟩
   have n1_:Aside0 (Kd.V Kd.bool 4 ((w31.setCell ⟨gb168,0,none⟩ (.slice Ao32 t163.length co32)).setCell ⟨gb168,1,none⟩ (.bool t166)) w.heap.size (fun k_=>k_≠gb158∧k_≠gb168) (.slice Ao32 t163.length co32) t163):=⟨by (with_reducible repeat (first|apply Kd.V_alloc|apply Kd.V_drewN|apply Kd.V_drew));exact Kd.V_mono (Kd.V_far (p:=⟨gb168,1,none⟩) (Kd.V_far (p:=⟨gb168,0,none⟩) (Kd.V_mono HO165.out (fun k_ hk=>(⟨hk,hk.2⟩:_∧k_≠gb168))) (fun _ hk=>hk.2) (.slice Ao32 t163.length co32)) (fun _ hk=>hk.2) (.bool t166)) (fun _ hk=>⟨hk.1.1,hk.1.2⟩)⟩
   have n2_:Aside0 (((w31.setCell ⟨gb168,0,none⟩ (.slice Ao32 t163.length co32)).setCell ⟨gb168,1,none⟩ (.bool t166)).heap[gb158]? = some (.cells #[.slice A0_0 l0_0.length c0_0, .int .i64 a0_1] 52 (0,0))):=⟨by (with_reducible repeat (first|refine kn' ?_ _|refine kd' ?_|refine ka' ?_ _));refine blk_far ?_ NB158_168.out _;(with_reducible repeat (first|refine kn' ?_ _|refine kd' ?_|refine ka' ?_ _));refine blk_far ?_ NB158_168.out _;(with_reducible repeat (first|refine kn' ?_ _|refine kd' ?_|refine ka' ?_ _));exact BK158.out⟩
   have n3_:Aside0 (((w31.setCell ⟨gb168,0,none⟩ (.slice Ao32 t163.length co32)).setCell ⟨gb168,1,none⟩ (.bool t166)).heap[gb168]? = some (.cells #[.slice Ao32 t163.length co32, .bool t166] 80 (0,0))):=⟨by (with_reducible repeat (first|refine kn' ?_ _|refine kd' ?_|refine ka' ?_ _));refine blk_put (cs:=#[.slice Ao32 t163.length co32, .bool false]) ?_ 1 _ rfl;(with_reducible repeat (first|refine kn' ?_ _|refine kd' ?_|refine ka' ?_ _));refine blk_put (cs:=#[.slice none 0 0, .bool false]) ?_ 0 _ rfl;(with_reducible repeat (first|refine kn' ?_ _|refine kd' ?_|refine ka' ?_ _));exact BK168.out⟩
   have n4_:Aside0 (Below w.heap.size w ((w31.setCell ⟨gb168,0,none⟩ (.slice Ao32 t163.length co32)).setCell ⟨gb168,1,none⟩ (.bool t166))):=⟨by repeat (first|(with_reducible first|exact HB.out|apply ba'|apply bd'|apply be'|refine bs' ?_ GE158.out|refine bs' ?_ GE168.out)|exact HB.out)⟩
   (try clear HO161)
   (try clear HO165)
   (try clear BK158)
   (try clear BK168)
   (try clear HB)
   generalize ((w31.setCell ⟨gb168,0,none⟩ (.slice Ao32 t163.length co32)).setCell ⟨gb168,1,none⟩ (.bool t166))=w35 at n0_ n1_ n2_ n3_ n4_ ⊢
   have HO161:=n0_;have HO165:=n1_;have BK158:=n2_;have BK168:=n3_;have HB:=n4_;clear n0_ n1_ n2_ n3_ n4_;have n0_:=am' (rw' HO161.out);have n1_:=am' (Kd.V_drew HO165.out);have n2_:=am' (kd' BK158.out);have n3_:=am' (kd' BK168.out);have n4_:=am' (be' HB.out);clear HO161;clear HO165;clear BK158;clear BK168;clear HB;have HO161:=n0_;have HO165:=n1_;have BK158:=n2_;have BK168:=n3_;have HB:=n4_;clear n0_ n1_ n2_ n3_ n4_;refine start_ (n:=11) (S:=fun w'=>True) (ds:=[]) #[false,false,false,false,false,false,false,false,false,false,false] (by kernel_rfl) rfl rfl trivial (fun hHeld=>?_);refine with_tabW spec_paPlan.tab4 spec_paPlan.bits4 (fun HT_ HW_=>?_);generalize w35.drew=w36 at HO161 HO165 BK158 BK168 HB hHeld ⊢
   refine pure_ (i:=0) (N:=some 18) (v:=?_) (a':=?_) #[true,false,false,false,false,false,false,false,false,false,false] rfl rfl (any_of HT_.out (by kernel_rfl)) (fun _ _ _ h=>h) (Or.inl ⟨by rfl,?_⟩) ?_ ?_
   rotate_left
   ·
    intro w';go_simp;with_reducible rfl
   rotate_left
   ·
    simp only[Act.put,sa',sb',sc',i64_w,i32_w];rfl
   refine pure_ (i:=1) (N:=some 19) (v:=?_) (a':=?_) #[true,true,false,false,false,false,false,false,false,false,false] rfl rfl (any_of HT_.out (by kernel_rfl)) (fun _ _ _ h=>h) (Or.inl ⟨by rfl,?_⟩) ?_ ?_
   rotate_left
   ·
    intro w';go_simp;with_reducible rfl
   rotate_left
   ·
    simp only[Act.put,sa',sb',sc',i64_w,i32_w];rfl
   refine pure_ (i:=2) (N:=some 20) (v:=?_) (a':=?_) #[true,true,true,false,false,false,false,false,false,false,false] rfl rfl (any_of HT_.out (by kernel_rfl)) (fun _ _ _ h=>h) (Or.inl ⟨by rfl,?_⟩) ?_ ?_
   rotate_left
   ·
    intro w';go_simp;with_reducible rfl
   rotate_left
   ·
    simp only[Act.put,sa',sb',sc',i64_w,i32_w];rfl
   refine pure_ (i:=3) (N:=some 21) (v:=?_) (a':=?_) #[true,true,true,true,false,false,false,false,false,false,false] rfl rfl (any_of HT_.out (by kernel_rfl)) (fun _ _ _ h=>h) (Or.inl ⟨by rfl,?_⟩) ?_ ?_
   rotate_left
   ·
    intro w';go_simp;with_reducible rfl
   rotate_left
   ·
    simp only[Act.put,sa',sb',sc',i64_w,i32_w];rfl
   refine pure_ (i:=4) (N:=some 22) (v:=?_) (a':=?_) #[true,true,true,true,true,false,false,false,false,false,false] rfl rfl (any_of HT_.out (by kernel_rfl)) (fun _ _ _ h=>h) (Or.inl ⟨by rfl,?_⟩) ?_ ?_
   rotate_left
   ·
    intro w';go_simp;with_reducible rfl
   rotate_left
   ·
    simp only[Act.put,sa',sb',sc',i64_w,i32_w];rfl
   refine pure_ (i:=5) (N:=some 23) (v:=undef) (a':=?_) #[true,true,true,true,true,true,false,false,false,false,false] rfl rfl (any_of HT_.out (by kernel_rfl)) (fun _ _ _ h=>h) (Or.inr ⟨by rfl,rfl⟩) ?_ ?_
   rotate_left
   ·
    simp only[Act.put,sa',sb',sc',i64_w,i32_w];rfl
   refine pure_ (i:=6) (N:=some 24) (v:=undef) (a':=?_) #[true,true,true,true,true,true,true,false,false,false,false] rfl rfl (any_of HT_.out (by kernel_rfl)) (fun _ _ _ h=>h) (Or.inr ⟨by rfl,rfl⟩) ?_ ?_
   rotate_left
   ·
    simp only[Act.put,sa',sb',sc',i64_w,i32_w];rfl
   refine pure_ (i:=7) (N:=some 25) (v:=undef) (a':=?_) #[true,true,true,true,true,true,true,true,false,false,false] rfl rfl (any_of HT_.out (by kernel_rfl)) (fun _ _ _ h=>h) (Or.inr ⟨by rfl,rfl⟩) ?_ ?_
   rotate_left
   ·
    simp only[Act.put,sa',sb',sc',i64_w,i32_w];rfl
   refine pure_ (i:=8) (N:=some 26) (v:=undef) (a':=?_) #[true,true,true,true,true,true,true,true,true,false,false] rfl rfl (any_of HT_.out (by kernel_rfl)) (fun _ _ _ h=>h) (Or.inr ⟨by rfl,rfl⟩) ?_ ?_
   rotate_left
   ·
    simp only[Act.put,sa',sb',sc',i64_w,i32_w];rfl
   refine pure_ (i:=9) (N:=some 27) (v:=?_) (a':=?_) #[true,true,true,true,true,true,true,true,true,true,false] rfl rfl (any_of HT_.out (by kernel_rfl)) (fun _ _ _ h=>h) (Or.inl ⟨by rfl,?_⟩) ?_ ?_
   rotate_left
   ·
    intro w';go_simp;with_reducible rfl
   rotate_left
   ·
    simp only[Act.put,sa',sb',sc',i64_w,i32_w];rfl
   refine pure_ (i:=10) (N:=some 4) (v:=?_) (a':=?_) #[true,true,true,true,true,true,true,true,true,true,true] rfl rfl (any_of HT_.out (by kernel_rfl)) (fun _ _ _ h=>h) (Or.inl ⟨by rfl,?_⟩) ?_ ?_
   rotate_left
   ·
    intro w';go_simp;with_reducible rfl
   rotate_left
   ·
    simp only[Act.put,sa',sb',sc',i64_w,i32_w];rfl
   refine done_ (done_of HT_.out (by kernel_rfl)) ?_
   try go_wp2
   go_ret
   exact ⟨by first|rfl|(simp[errW_none,errW_some] <;> rfl)|(simp[*,errW_none,errW_some] <;> rfl),by repeat (first|(with_reducible first|exact HB.out|apply ba'|apply bd'|apply be'|refine bs' ?_ GE158.out|refine bs' ?_ GE168.out)|exact HB.out)⟩
end Go.Proofs.Ytdomojenlofieaa.C1
