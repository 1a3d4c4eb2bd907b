import Derived.Test.YtihieplobgehaaaC1zx0
import Derived.Test.YtihieplobgehaaaC1zx1
import Derived.Test.YtihieplobgehaaaC1zx2
import Derived.Test.YtihieplobgehaaaC1zx4
import Derived.Test.YtihieplobgehaaaC1zx6
import Derived.Test.YtihieplobgehaaaC1zx7
import Derived.Test.YtihieplobgehaaaC1zAl
namespace Go.Proofs.Ytihieplobgehaaa.C1
open Go.RowKit Go.Proofs.YtihieplobgehaaaW.PrintWords Go.Proofs.YtihieplobgehaaaW.PrintLast Go.Proofs.YtihieplobgehaaaW.PrintMore Go.Proofs.Ytihieplobgehaaa.H
attribute [local go_sem] max2_int min2_int max_two min_two max_three min_three max_four min_four
set_option linter.unusedVariables false
set_option linter.unusedSimpArgs false
mutual
def spec_FarthestStates.l0:Nat→List Int→Int→List Int→Int→Int→List Int→Int→Option ((List (S54)) × Int × Bool)
 | 0,_,_,_,_,_,_,_=>none
 | k+1,x5,x6,x19,x20,x21,x233000,x233001=>if x21 < x20 then (if 0≤x21 then (if x21 < (x19.length:Int) then (if (rd x19 x21) < 0 then ((spec_seState.f k x21 (x233000.length:Int)).bind fun bt242=>((spec_paState.f k x233000 x233001 bt242.1 bt242.2).bind fun t246=>(if t246=true then (some (([]:List (S54)),0,false)) else ((spec_l1Most.f x6 (rd x19 x21)).bind fun t247=>(spec_FarthestStates.l0 k x5 t247 x19 x20 (wrap64 (x21+1)) x233000 x233001))))) else ((spec_l1Most.f x6 (rd x19 x21)).bind fun t248=>(spec_FarthestStates.l0 k x5 t248 x19 x20 (wrap64 (x21+1)) x233000 x233001))) else (none)) else (none)) else (spec_FarthestStates.l1 k x6 ([]:List (S54)) x5 (x5.length:Int) 0 x233000 x233001)
def spec_FarthestStates.l1:Nat→Int→List (S54)→List Int→Int→Int→List Int→Int→Option ((List (S54)) × Int × Bool)
 | 0,_,_,_,_,_,_,_=>none
 | k+1,x6,x9,x41,x42,x43,x233000,x233001=>if x43 < x42 then (if 0≤x43 then (if x43 < (x41.length:Int) then (if (rd x41 x43)=x6 then ((spec_seState.f k x43 (x233000.length:Int)).bind fun bt250=>(if x9.length < 4398046511104 then (spec_FarthestStates.l1 k x6 (x9 ++ [(⟨bt250.1,bt250.2⟩:S54)]) x41 x42 (wrap64 (x43+1)) x233000 x233001) else (none))) else (spec_FarthestStates.l1 k x6 x9 x41 x42 (wrap64 (x43+1)) x233000 x233001)) else (none)) else (none)) else (some (x9,x6,true))
end
def spec_FarthestStates.f (k:Nat) (l0_0:List Int) (a0_1:Int):Option ((List (S54)) × Int × Bool):=(spec_paGood.f k l0_0 a0_1).bind fun t233=>(if t233=true then ((spec_paFirst.f l0_0 a0_1).bind fun bt234=>((spec_seFar.f k l0_0 a0_1 bt234.1 bt234.2).bind fun t238=>(spec_FarthestStates.l0 k t238 0 t238 (t238.length:Int) 0 l0_0 a0_1))) else (some (([]:List (S54)),0,false)))
def spec_FarthestStates.T8:Bool × List (List Nat × List Nat):=(true,[([],[]),([0],[0]),([1],[1]),([2],[2]),([2],[2]),([2],[2]),([5,2],[2,5]),([6,2],[2,6]),([4,7,2,2],[2,4,7]),([3,8,8,2],[2,3,8]),([2,9],[2,9])])
def spec_FarthestStates.B8:List Nat:=[0,1,3,7,7,7,39,103,247,511,1023]
theorem spec_FarthestStates.tab8:rtab .any (opsOf Try.f10 8)=spec_FarthestStates.T8:=by kernel_rfl
theorem spec_FarthestStates.bits8:waitsOk spec_FarthestStates.T8.2 spec_FarthestStates.B8=true:=by kernel_rfl
set_option maxHeartbeats 8000000 in
set_option maxRecDepth 100000 in
theorem spec_FarthestStates.calls (k:Nat) (A0_0:Option Addr) (c0_0:Nat) (l0_0:List Int) (a0_1:Int) (r1:List (S54)) (r2:Int) (r3:Bool) (w:World) (hr0_0:Kd.C (Kd.int .i64) w A0_0 l0_0.length l0_0) (hc0_0:l0_0.length≤c0_0) (h:spec_FarthestStates.f k l0_0 a0_1=some (r1,r2,r3)) :
  Calls Try.prog 10 #[.agg #[.slice A0_0 l0_0.length c0_0, .int .i64 a0_1]] w fun e w'=>∃ v0_:Value,e = .returned (.tuple #[v0_, .int .i64 r2, .bool r3])∧Kd.S k54 54 w' w.heap.size (fun _=>True) v0_ r1∧Below w.heap.size w w':=by
 have hu28:=Try.underlying28
 have HR0_0:=am' hr0_0
 have HC0_0:=am' hc0_0
 clear hr0_0 hc0_0;have HB:=am' (Below.refl w.heap.size w)
 have H:((spec_paGood.f k l0_0 a0_1).bind fun t233=>(if t233=true then ((spec_paFirst.f l0_0 a0_1).bind fun bt234=>((spec_seFar.f k l0_0 a0_1 bt234.1 bt234.2).bind fun t238=>(spec_FarthestStates.l0 k t238 0 t238 (t238.length:Int) 0 l0_0 a0_1))) else (some (([]:List (S54)),0,false))))=some (r1,r2,r3):=h
 clear h;replace H:=Option.bind_eq_some_iff.mp H
 obtain ⟨t233,A20,H⟩:=H
 replace H:(if t233=true then ((spec_paFirst.f l0_0 a0_1).bind fun bt234=>((spec_seFar.f k l0_0 a0_1 bt234.1 bt234.2).bind fun t238=>(spec_FarthestStates.l0 k t238 0 t238 (t238.length:Int) 0 l0_0 a0_1))) else (some (([]:List (S54)),0,false)))=some (r1,r2,r3):=H
 have A2:=am' A20
 clear A20;by_cases c3:t233=true
 ·
  subst c3;have H1:((spec_paFirst.f l0_0 a0_1).bind fun bt234=>((spec_seFar.f k l0_0 a0_1 bt234.1 bt234.2).bind fun t238=>(spec_FarthestStates.l0 k t238 0 t238 (t238.length:Int) 0 l0_0 a0_1)))=some (r1,r2,r3):=by rw[if_pos rfl] at H;exact H
  clear H;have H:=H1;clear H1;replace H:=Option.bind_eq_some_iff.mp H;obtain ⟨⟨t234,t237⟩,A40,H⟩:=H;replace H:((spec_seFar.f k l0_0 a0_1 t234 t237).bind fun t238=>(spec_FarthestStates.l0 k t238 0 t238 (t238.length:Int) 0 l0_0 a0_1))=some (r1,r2,r3):=H;have A4:=am' A40;clear A40;replace H:=Option.bind_eq_some_iff.mp H;obtain ⟨t238,A50,H⟩:=H;replace H:(spec_FarthestStates.l0 k t238 0 t238 (t238.length:Int) 0 l0_0 a0_1)=some (r1,r2,r3):=H;have A5:=am' A50;clear A50;have H':=am' H;clear H;go_enter Try.func10,Try.ntmps10
  try go_wp2_with (first|((with_reducible refine gate_dst (N:=1) rfl ?_);(try (refine gate_guard (by rfl) ?_;dsimp only));refine box_event ?hg (N:=1) ?hd (cs:=#[.slice A0_0 l0_0.length c0_0, .int .i64 a0_1]) (t:=28) ?hr ?_;(case hd=>rfl);(case hg=>rfl);(case hr=>first|(go_simp;done)|(go_simp;rfl));intro gb232 hg w6 hbox hb;have n0_:=am' (below_step (by repeat (first|(with_reducible first|exact HB.out|apply ba'|apply bd'|apply be')|exact HB.out)) hb);have n1_:=am' (hbox);have n2_:=am' ((by rw[hg];exact (below_size (by repeat (first|(with_reducible first|exact HB.out|apply ba'|apply bd'|apply be')|exact HB.out))):w.heap.size≤gb232));have n3_:=am' ((by rw[hg];exact (below_size (by repeat (first|(with_reducible first|exact HB.out|apply ba'|apply bd'|apply be')|exact HB.out))):w.heap.size≤gb232));clear HB;have HB:=n0_;have BK232:=n1_;have GW232:=n2_;have GE232:=n3_;clear n0_ n1_ n2_ n3_;clear hb hbox hg;have hcz7_0:w6.cell? ⟨gb232,0,none⟩=some (.slice A0_0 l0_0.length c0_0):=(blk_cell BK232.out 0).trans rfl;have hcz7_1:w6.cell? ⟨gb232,1,none⟩=some (.int .i64 a0_1):=(blk_cell BK232.out 1).trans rfl;have hfz7_0:=blk_frozen BK232.out 0;have hfz7_1:=blk_frozen BK232.out 1)|((with_reducible refine gate_callee (f:=17) rfl ?_);refine goesL_ (some 13) rfl rfl Try.func17 (by kernel_rfl) rfl #[.agg #[.slice A0_0 l0_0.length c0_0, .int .i64 a0_1]] rfl (by (try simp only[List.map_toArray,List.map_cons,List.map_nil]);first|done|rfl|(simp only[List.length_drop,List.length_take];rfl)) ?_;(with_reducible refine (spec_paGood.calls k _ _ l0_0 a0_1 true _ ?side1 ?side2 A2.out).mono ?_);(case side1=>repeat (first|exact (Kd.C_below HR0_0.out HB.out)|(with_reducible refine ca' ?_ _)|(with_reducible refine cn' ?_ _)|(with_reducible refine cd' ?_)));(case side2=>exact HC0_0.out);rintro e w8 ⟨rfl,hb⟩;refine ⟨_,rfl,?_⟩;have n0_:=am' (blk_below (g:=gb232) (o := .cells #[.slice A0_0 l0_0.length c0_0, .int .i64 a0_1] 28 (0,0)) (by (with_reducible repeat (first|refine kn' ?_ _|refine kd' ?_|refine ka' ?_ _));exact BK232.out) hb);have n1_:=am' (below_step (by repeat (first|(with_reducible first|exact HB.out|apply ba'|apply bd'|apply be'|refine bs' ?_ GE232.out)|exact HB.out)) hb);clear BK232;clear HB;have BK232:=n0_;have HB:=n1_;clear n0_ n1_;(try clear hb);(try clear hb2);(try clear hk);(try clear hi)))
  have n0_:=am' (kd' BK232.out);have n1_:=am' (be' HB.out);clear BK232;clear HB;have BK232:=n0_;have HB:=n1_;clear n0_ n1_;refine start_ (n:=5) (S:=fun w'=>w'.cell? ⟨gb232,0,none⟩=some (.slice A0_0 l0_0.length c0_0)∧w'.cell? ⟨gb232,1,none⟩=some (.int .i64 a0_1)) (ds:=[]) #[false,false,false,false,false] (by kernel_rfl) rfl rfl ⟨(blk_cell BK232.out 0).trans rfl,(blk_cell BK232.out 1).trans rfl⟩ (fun hHeld=>?_);generalize w8.drew=w9 at BK232 HB hHeld ⊢
  refine take_ (i:=0) (N:=some 15) (v:=?_) (a':=?_) #[true,false,false,false,false] rfl rfl (by kernel_rfl) (fun _ _ _ h=>h) (Or.inl ⟨by rfl,?_⟩) hHeld ?_ ?_
  rotate_left
  ·
   rintro w' ⟨s0,s1⟩
   go_simp;with_reducible rfl
  rotate_left
  ·
   simp only[Act.put,sa',sb',sc',i64_w,i32_w];rfl
  refine take_ (i:=1) (N:=some 16) (v:=?_) (a':=?_) #[true,true,false,false,false] rfl rfl (by kernel_rfl) (fun _ _ _ h=>h) (Or.inl ⟨by rfl,?_⟩) hHeld ?_ ?_
  rotate_left
  ·
   rintro w' ⟨s0,s1⟩
   go_simp;with_reducible rfl
  rotate_left
  ·
   simp only[Act.put,sa',sb',sc',i64_w,i32_w];rfl
  refine one_ (i:=2) (N:=some 17) #[true,true,true,false,false] rfl rfl (by kernel_rfl) (by decide) (fun K hK=>?_);refine goes_ Try.func26 (by kernel_rfl) rfl #[.agg #[.slice A0_0 l0_0.length c0_0, .int .i64 a0_1]] (by rfl) rfl rfl (by (try simp only[List.map_toArray,List.map_cons,List.map_nil]);first|done|rfl|(simp only[List.length_drop,List.length_take];rfl)) ?_
  with_reducible refine (spec_paFirst.calls _ _ l0_0 a0_1 t234 t237 _ ?side1 ?side2 A4.out).mono ?_
  (case side1=>repeat (first|exact (Kd.C_below HR0_0.out HB.out)|(with_reducible refine ca' ?_ _)|(with_reducible refine cn' ?_ _)|(with_reducible refine cd' ?_)))
  (case side2=>exact HC0_0.out)
  rintro e w10 ⟨v235,rfl,ho0,hb⟩
  refine ⟨_,rfl,?_⟩;have n0_:=am' (Kd.R_lower ho0 (below_size (by repeat (first|(with_reducible first|exact HB.out|apply ba'|apply bd'|apply be'|refine bs' ?_ GE232.out)|exact HB.out))));have n1_:=am' (blk_below (g:=gb232) (o := .cells #[.slice A0_0 l0_0.length c0_0, .int .i64 a0_1] 28 (0,0)) (by (with_reducible repeat (first|refine kn' ?_ _|refine kd' ?_|refine ka' ?_ _));exact BK232.out) hb);have n2_:=am' (below_step (by repeat (first|(with_reducible first|exact HB.out|apply ba'|apply bd'|apply be'|refine bs' ?_ GE232.out)|exact HB.out)) hb);clear BK232;clear HB;have HO236:=n0_;have BK232:=n1_;have HB:=n2_;clear n0_ n1_ n2_;(try clear hb)
  (try clear hb2)
  (try clear hk)
  (try clear hi)
  (try clear ho0)
  obtain ⟨Ao11,co11,eo11⟩:=Kd.R_slice HO236.out
  (first|subst eo11|(injection eo11 with f1_ f2_ f3_;have f4_:=f1_.symm;have f5_:=f3_.symm;clear f1_ f2_ f3_;subst f4_;subst f5_))
  refine hK.out _ _ ⟨(blk_cell BK232.out 0).trans rfl,(blk_cell BK232.out 1).trans rfl⟩ (fun hHeld=>?_);clear hK K;refine norm_ (a':=?_) ?_ ?_
  rotate_left
  ·
   show Act.put _ (some 17) _=_
   simp only[Act.put,sa',sb',sc',i64_w,i32_w];rfl
  refine one_ (i:=3) (N:=some 18) #[true,true,true,true,false] rfl rfl (by kernel_rfl) (by decide) (fun K hK=>?_);refine goes_ Try.func25 (by kernel_rfl) rfl #[.agg #[.slice A0_0 l0_0.length c0_0, .int .i64 a0_1], .agg #[.slice Ao11 t234.length co11, .bool t237]] (by rfl) rfl rfl (by (try simp only[List.map_toArray,List.map_cons,List.map_nil]);first|done|rfl|(simp only[List.length_drop,List.length_take];rfl)) ?_
  with_reducible refine (spec_seFar.calls k _ _ l0_0 a0_1 _ _ t234 t237 t238 _ ?side1 ?side2 ?side3 ?side4 A5.out).mono ?_
  (case side1=>repeat (first|exact (Kd.C_below HR0_0.out HB.out)|(with_reducible refine ca' ?_ _)|(with_reducible refine cn' ?_ _)|(with_reducible refine cd' ?_)))
  (case side2=>exact HC0_0.out)
  (case side3=>repeat (first|exact (Kd.R_reads' HO236.out).2.2|(with_reducible refine ca' ?_ _)|(with_reducible refine cn' ?_ _)|(with_reducible refine cd' ?_)))
  (case side4=>exact (Kd.R_reads' HO236.out).2.1)
  rintro e w12 ⟨v239,rfl,ho0,hb⟩
  refine ⟨_,rfl,?_⟩;have n0_:=am' (Kd.R_below (by (with_reducible repeat (first|apply ra'|apply rn'|apply rw'));exact HO236.out) hb);have n1_:=am' (Kd.R_lower ho0 (below_size (by repeat (first|(with_reducible first|exact HB.out|apply ba'|apply bd'|apply be'|refine bs' ?_ GE232.out)|exact HB.out))));have n2_:=am' (blk_below (g:=gb232) (o := .cells #[.slice A0_0 l0_0.length c0_0, .int .i64 a0_1] 28 (0,0)) (by (with_reducible repeat (first|refine kn' ?_ _|refine kd' ?_|refine ka' ?_ _));exact BK232.out) hb);have n3_:=am' (below_step (by repeat (first|(with_reducible first|exact HB.out|apply ba'|apply bd'|apply be'|refine bs' ?_ GE232.out)|exact HB.out)) hb);clear HO236;clear BK232;clear HB;have HO236:=n0_;have HO240:=n1_;have BK232:=n2_;have HB:=n3_;clear n0_ n1_ n2_ n3_;(try clear hb)
  (try clear hb2)
  (try clear hk)
  (try clear hi)
  (try clear ho0)
  refine hK.out _ _ ⟨(blk_cell BK232.out 0).trans rfl,(blk_cell BK232.out 1).trans rfl⟩ (fun hHeld=>?_);clear hK K;refine norm_ (a':=?_) ?_ ?_
  rotate_left
  ·
   show Act.put _ (some 18) _=_
   simp only[Act.put,sa',sb',sc',i64_w,i32_w];rfl
  refine pure_ (i:=4) (N:=some 5) (v:=?_) (a':=?_) #[true,true,true,true,true] rfl rfl (by kernel_rfl) (fun _ _ _ h=>h) (Or.inl ⟨by rfl,?_⟩) ?_ ?_
  rotate_left
  ·
   intro w';go_simp;with_reducible rfl
  rotate_left
  ·
   simp only[Act.put,sa',sb',sc',i64_w,i32_w];rfl
  refine done_ (by kernel_rfl) ?_
  obtain ⟨Ao13,co13,eo13⟩:=Kd.R_slice HO240.out;subst eo13;try go_wp2
  go_loopg [6,21] k (fun kq v6 v21 w'=>∃ (x6_1:Int) (x21_1:Int),v6 = .int .i64 x6_1∧v21 = .int .i64 x21_1∧Aside0 (spec_FarthestStates.l0 kq t238 x6_1 t238 (t238.length:Int) x21_1 l0_0 a0_1=some (r1,r2,r3))∧Aside0 (kq≤k)∧Aside0 (Kd.R (Kd.int .i64) 3 w' w.heap.size (fun _=>True) (.slice Ao13 t238.length co13) t238)∧Aside0 (Kd.R (Kd.int .i64) 3 w' w.heap.size (fun _=>True) (.slice Ao13 t238.length co13) t238)∧Aside0 (w'.heap[gb232]? = some (.cells #[(.slice A0_0 l0_0.length c0_0), .int .i64 a0_1] 28 (0,0)))∧Aside0 (Below w.heap.size w w'))
  case atStart=>exact ⟨(0),(0),(by first|rfl|(simp;done)|(simp[*];done)),(by first|rfl|(simp;done)|(simp[*];done)),H',⟨Nat.le_refl _⟩,⟨by (with_reducible repeat (first|apply ra'|apply rn'|apply rw'));exact HO240.out⟩,⟨by (with_reducible repeat (first|apply ra'|apply rn'|apply rw'));exact HO240.out⟩,⟨by (with_reducible repeat (first|refine kn' ?_ _|refine kd' ?_|refine ka' ?_ _));exact BK232.out⟩,⟨by repeat (first|(with_reducible first|exact HB.out|apply ba'|apply bd'|apply be'|refine bs' ?_ GE232.out)|exact HB.out)⟩⟩
  case round =>
   clear H';try clear c1
   try clear c2
   try clear p2
   try clear c3
   try clear c10
   try clear hcz7_0
   try clear hcz7_1
   try clear hfz7_0
   try clear hfz7_1
   obtain ⟨x6_1,x21_1,rfl,rfl,HA,HK1,HO_5,HO_19,BK232,HB⟩:=hrel;cases gk with
   | zero=>exact absurd HA.out (by simp[spec_FarthestStates.l0])
   | succ k1 =>
    have H:=HA.out;clear HA;simp only[spec_FarthestStates.l0] at H;by_cases c14:x21_1 < (t238.length:Int)
    ·
     rw[if_pos c14] at H;have c14b0:decide (x21_1 < (t238.length:Int))=true:=decide_eq_true c14;clear c14;by_cases c15:0≤x21_1
     ·
      rw[if_pos c15] at H;have c15b0:decide (0≤x21_1)=true:=decide_eq_true c15;clear c15;by_cases c16:x21_1 < (t238.length:Int)
      ·
       rw[if_pos c16] at H;have c16b0:decide (x21_1 < (t238.length:Int))=true:=decide_eq_true c16;clear c16;by_cases c17:(rd t238 x21_1) < 0
       ·
        rw[if_pos c17] at H;have c17b0:decide ((rd t238 x21_1) < 0)=true:=decide_eq_true c17;clear c17;replace H:=Option.bind_eq_some_iff.mp H;obtain ⟨⟨t242,t245⟩,A180,H⟩:=H;replace H:((spec_paState.f k1 l0_0 a0_1 t242 t245).bind fun t246=>(if t246=true then (some (([]:List (S54)),0,false)) else ((spec_l1Most.f x6_1 (rd t238 x21_1)).bind fun t247=>(spec_FarthestStates.l0 k1 t238 t247 t238 (t238.length:Int) (wrap64 (x21_1+1)) l0_0 a0_1))))=some (r1,r2,r3):=H;have A18:=am' A180;clear A180;replace H:=Option.bind_eq_some_iff.mp H;obtain ⟨t246,A190,H⟩:=H;replace H:(if t246=true then (some (([]:List (S54)),0,false)) else ((spec_l1Most.f x6_1 (rd t238 x21_1)).bind fun t247=>(spec_FarthestStates.l0 k1 t238 t247 t238 (t238.length:Int) (wrap64 (x21_1+1)) l0_0 a0_1)))=some (r1,r2,r3):=H;have A19:=am' A190;clear A190;by_cases c20:t246=true
        ·
         subst c20;have H1:(some (([]:List (S54)),0,false))=some (r1,r2,r3):=by rw[if_pos rfl] at H;exact H
         clear H;have H:=H1;clear H1;simp only[Option.some.injEq,Prod.mk.injEq] at H;obtain ⟨rfl,rfl,rfl⟩:=H;have p241:0≤(x21_1:Int):=of_decide_eq_true (by first|(with_reducible assumption)|assumption);have q241:x21_1 < (t238.length:Int):=of_decide_eq_true (by first|(with_reducible assumption)|assumption);obtain ⟨ad241,e241,hx241_0⟩:=Kd.at_int (Kd.R_reads' HO_19.out).2.2 x21_1 p241 q241;cases e241;replace p241:=eq_true p241;replace q241:=eq_true q241
         try go_wp2
         have n0_:=am' (rw' HO_5.out);have n1_:=am' (rw' HO_19.out);have n2_:=am' (kd' BK232.out);have n3_:=am' (be' HB.out);clear HO_5;clear HO_19;clear BK232;clear HB;have HO_5:=n0_;have HO_19:=n1_;have BK232:=n2_;have HB:=n3_;clear n0_ n1_ n2_ n3_;refine start_ (n:=11) (S:=fun w'=>w'.cell? ⟨gb232,0,none⟩=some (.slice A0_0 l0_0.length c0_0)∧w'.cell? ⟨gb232,1,none⟩=some (.int .i64 a0_1)) (ds:=[]) #[false,false,false,false,false,false,false,false,false,false,false] (by kernel_rfl) rfl rfl ⟨(blk_cell BK232.out 0).trans rfl,(blk_cell BK232.out 1).trans rfl⟩ (fun hHeld=>?_);refine with_tabW spec_FarthestStates.tab8 spec_FarthestStates.bits8 (fun HT_ HW_=>?_);generalize wr.drew=w21 at HO_5 HO_19 BK232 HB hHeld ⊢
         refine pure_ (i:=0) (N:=some 26) (v:=?_) (a':=?_) #[true,false,false,false,false,false,false,false,false,false,false] rfl rfl (any_of HT_.out (by kernel_rfl)) (fun _ _ _ h=>h) (Or.inl ⟨by rfl,?_⟩) ?_ ?_
         rotate_left
         ·
          intro w';go_simp;with_reducible rfl
         rotate_left
         ·
          simp only[Act.put,sa',sb',sc',i64_w,i32_w];rfl
         refine pure_ (i:=1) (N:=some 27) (v:=?_) (a':=?_) #[true,true,false,false,false,false,false,false,false,false,false] rfl rfl (any_of HT_.out (by kernel_rfl)) (fun _ _ _ h=>h) (Or.inl ⟨by rfl,?_⟩) ?_ ?_
         rotate_left
         ·
          intro w';go_simp;with_reducible rfl
         rotate_left
         ·
          simp only[Act.put,sa',sb',sc',i64_w,i32_w];rfl
         refine pure_ (i:=2) (N:=some 28) (v:=?_) (a':=?_) #[true,true,true,false,false,false,false,false,false,false,false] rfl rfl (any_of HT_.out (by kernel_rfl)) (fun _ _ _ h=>h) (Or.inl ⟨by rfl,?_⟩) ?_ ?_
         rotate_left
         ·
          intro w';go_simp;with_reducible rfl
         rotate_left
         ·
          simp only[Act.put,sa',sb',sc',i64_w,i32_w];rfl
         refine pure_ (i:=4) (N:=some 30) (v:=?_) (a':=?_) #[true,true,true,false,true,false,false,false,false,false,false] rfl rfl (any_of HT_.out (by kernel_rfl)) (fun _ _ _ h=>h) (Or.inl ⟨by rfl,?_⟩) ?_ ?_
         rotate_left
         ·
          intro w';go_simp;with_reducible rfl
         rotate_left
         ·
          simp only[Act.put,sa',sb',sc',i64_w,i32_w];rfl
         refine pure_ (i:=5) (N:=some 31) (v:=?_) (a':=?_) #[true,true,true,false,true,true,false,false,false,false,false] rfl rfl (any_of HT_.out (by kernel_rfl)) (fun _ _ _ h=>h) (Or.inl ⟨by rfl,?_⟩) ?_ ?_
         rotate_left
         ·
          intro w';go_simp;with_reducible rfl
         rotate_left
         ·
          simp only[Act.put,sa',sb',sc',i64_w,i32_w];rfl
         refine take_ (i:=3) (N:=some 29) (v:=?_) (a':=?_) #[true,true,true,true,true,true,false,false,false,false,false] rfl rfl (take_ofW HT_.out HW_.out (by kernel_rfl)) (fun _ _ _ h=>h) (Or.inl ⟨by rfl,?_⟩) hHeld ?_ ?_
         rotate_left
         ·
          rintro w' ⟨s0,s1⟩
          go_simp;with_reducible rfl
         rotate_left
         ·
          simp only[Act.put,sa',sb',sc',i64_w,i32_w];rfl
         refine take_ (i:=6) (N:=some 32) (v:=?_) (a':=?_) #[true,true,true,true,true,true,true,false,false,false,false] rfl rfl (take_ofW HT_.out HW_.out (by kernel_rfl)) (fun _ _ _ h=>h) (Or.inl ⟨by rfl,?_⟩) hHeld ?_ ?_
         rotate_left
         ·
          rintro w' ⟨s0,s1⟩
          go_simp;with_reducible rfl
         rotate_left
         ·
          simp only[Act.put,sa',sb',sc',i64_w,i32_w];rfl
         refine pure_ (i:=7) (N:=some 33) (v:=?_) (a':=?_) #[true,true,true,true,true,true,true,true,false,false,false] rfl rfl (any_of HT_.out (by kernel_rfl)) (fun _ _ _ h=>h) (Or.inl ⟨by rfl,?_⟩) ?_ ?_
         rotate_left
         ·
          intro w';go_simp;with_reducible rfl
         rotate_left
         ·
          simp only[Act.put,sa',sb',sc',i64_w,i32_w];rfl
         refine one_ (i:=8) (N:=some 34) #[true,true,true,true,true,true,true,true,true,false,false] rfl rfl (one_of HT_.out (by kernel_rfl)) (by decide) (fun K hK=>?_);refine goes_ Try.func28 (by kernel_rfl) rfl #[.int .i64 x21_1, .int .i64 (l0_0.length:Int)] (by rfl) rfl rfl (by (try simp only[List.map_toArray,List.map_cons,List.map_nil]);first|done|rfl|(simp only[List.length_drop,List.length_take];rfl)) ?_
         with_reducible refine (spec_seState.calls k1 x21_1 (l0_0.length:Int) t242 t245 _ A18.out).mono ?_
         rintro e w22 ⟨v243,rfl,ho0,hb⟩
         refine ⟨_,rfl,?_⟩;have n0_:=am' (Kd.R_below (by (with_reducible repeat (first|apply ra'|apply rn'|apply rw'));exact HO_5.out) hb);have n1_:=am' (Kd.R_below (by (with_reducible repeat (first|apply ra'|apply rn'|apply rw'));exact HO_19.out) hb);have n2_:=am' (Kd.R_lower ho0 (below_size (by repeat (first|(with_reducible first|exact HB.out|apply ba'|apply bd'|apply be'|refine bs' ?_ GE232.out)|exact HB.out))));have n3_:=am' (blk_below (g:=gb232) (o := .cells #[.slice A0_0 l0_0.length c0_0, .int .i64 a0_1] 28 (0,0)) (by (with_reducible repeat (first|refine kn' ?_ _|refine kd' ?_|refine ka' ?_ _));exact BK232.out) hb);have n4_:=am' (below_step (by repeat (first|(with_reducible first|exact HB.out|apply ba'|apply bd'|apply be'|refine bs' ?_ GE232.out)|exact HB.out)) hb);clear HO_5;clear HO_19;clear BK232;clear HB;have HO_5:=n0_;have HO_19:=n1_;have HO244:=n2_;have BK232:=n3_;have HB:=n4_;clear n0_ n1_ n2_ n3_ n4_;(try clear hb)
         (try clear hb2)
         (try clear hk)
         (try clear hi)
         (try clear ho0)
         obtain ⟨Ao23,co23,eo23⟩:=Kd.R_slice HO244.out
         (first|subst eo23|(injection eo23 with f1_ f2_ f3_;have f4_:=f1_.symm;have f5_:=f3_.symm;clear f1_ f2_ f3_;subst f4_;subst f5_))
         refine hK.out _ _ ⟨(blk_cell BK232.out 0).trans rfl,(blk_cell BK232.out 1).trans rfl⟩ (fun hHeld=>?_);clear hK K;refine norm_ (a':=?_) ?_ ?_
         rotate_left
         ·
          show Act.put _ (some 34) _=_
          simp only[Act.put,sa',sb',sc',i64_w,i32_w];rfl
         refine one_ (i:=9) (N:=some 35) #[true,true,true,true,true,true,true,true,true,true,false] rfl rfl (one_of HT_.out (by kernel_rfl)) (by decide) (fun K hK=>?_);refine goes_ Try.func27 (by kernel_rfl) rfl #[.agg #[.slice A0_0 l0_0.length c0_0, .int .i64 a0_1], .agg #[.slice Ao23 t242.length co23, .bool t245]] (by rfl) rfl rfl (by (try simp only[List.map_toArray,List.map_cons,List.map_nil]);first|done|rfl|(simp only[List.length_drop,List.length_take];rfl)) ?_
         with_reducible refine (spec_paState.calls k1 _ _ l0_0 a0_1 _ _ t242 t245 true _ ?side1 ?side2 ?side3 ?side4 A19.out).mono ?_
         (case side1=>repeat (first|exact (Kd.C_below HR0_0.out HB.out)|(with_reducible refine ca' ?_ _)|(with_reducible refine cn' ?_ _)|(with_reducible refine cd' ?_)))
         (case side2=>exact HC0_0.out)
         (case side3=>repeat (first|exact (Kd.R_reads' HO244.out).2.2|(with_reducible refine ca' ?_ _)|(with_reducible refine cn' ?_ _)|(with_reducible refine cd' ?_)))
         (case side4=>exact (Kd.R_reads' HO244.out).2.1)
         rintro e w24 ⟨rfl,hb⟩
         refine ⟨_,rfl,?_⟩;have n0_:=am' (Kd.R_below (by (with_reducible repeat (first|apply ra'|apply rn'|apply rw'));exact HO_5.out) hb);have n1_:=am' (Kd.R_below (by (with_reducible repeat (first|apply ra'|apply rn'|apply rw'));exact HO_19.out) hb);have n2_:=am' (Kd.R_below (by (with_reducible repeat (first|apply ra'|apply rn'|apply rw'));exact HO244.out) hb);have n3_:=am' (blk_below (g:=gb232) (o := .cells #[.slice A0_0 l0_0.length c0_0, .int .i64 a0_1] 28 (0,0)) (by (with_reducible repeat (first|refine kn' ?_ _|refine kd' ?_|refine ka' ?_ _));exact BK232.out) hb);have n4_:=am' (below_step (by repeat (first|(with_reducible first|exact HB.out|apply ba'|apply bd'|apply be'|refine bs' ?_ GE232.out)|exact HB.out)) hb);clear HO_5;clear HO_19;clear HO244;clear BK232;clear HB;have HO_5:=n0_;have HO_19:=n1_;have HO244:=n2_;have BK232:=n3_;have HB:=n4_;clear n0_ n1_ n2_ n3_ n4_;(try clear hb)
         (try clear hb2)
         (try clear hk)
         (try clear hi)
         refine hK.out _ _ ⟨(blk_cell BK232.out 0).trans rfl,(blk_cell BK232.out 1).trans rfl⟩ (fun hHeld=>?_);clear hK K;refine norm_ (a':=?_) ?_ ?_
         rotate_left
         ·
          show Act.put _ (some 35) _=_
          simp only[Act.put,sa',sb',sc',i64_w,i32_w];rfl
         refine pure_ (i:=10) (N:=some 36) (v:=?_) (a':=?_) #[true,true,true,true,true,true,true,true,true,true,true] rfl rfl (any_of HT_.out (by kernel_rfl)) (fun _ _ _ h=>h) (Or.inl ⟨by rfl,?_⟩) ?_ ?_
         rotate_left
         ·
          intro w';go_simp;with_reducible rfl
         rotate_left
         ·
          simp only[Act.put,sa',sb',sc',i64_w,i32_w];rfl
         refine done_ (done_of HT_.out (by kernel_rfl)) ?_
         try go_wp2
         go_ret3
         exact ⟨_,by first|rfl|(simp[errW_none,errW_some] <;> rfl)|(simp[*,errW_none,errW_some] <;> rfl),by first|exact Kd.S_nil _ _ _ _ _|exact Kd.N_nil _ _ _ _ _|exact Kd.V_nil _ _ _ _ _|exact Kd.Q_nil _ _ _ _ _|exact Kd.R_nil _ _ _ _ _,by repeat (first|(with_reducible first|exact HB.out|apply ba'|apply bd'|apply be'|refine bs' ?_ GE232.out)|exact HB.out)⟩
        ·
         replace c20:=Bool.eq_false_iff.mpr c20;subst c20;have H1:((spec_l1Most.f x6_1 (rd t238 x21_1)).bind fun t247=>(spec_FarthestStates.l0 k1 t238 t247 t238 (t238.length:Int) (wrap64 (x21_1+1)) l0_0 a0_1))=some (r1,r2,r3):=by rw[if_neg (show ¬ (false=true) by decide)] at H;exact H
         clear H;have H:=H1;clear H1;replace H:=Option.bind_eq_some_iff.mp H;obtain ⟨t247,A250,H⟩:=H;replace H:(spec_FarthestStates.l0 k1 t238 t247 t238 (t238.length:Int) (wrap64 (x21_1+1)) l0_0 a0_1)=some (r1,r2,r3):=H;have A25:=am' A250;clear A250;have H':=am' H;clear H;have p241:0≤(x21_1:Int):=of_decide_eq_true (by first|(with_reducible assumption)|assumption);have q241:x21_1 < (t238.length:Int):=of_decide_eq_true (by first|(with_reducible assumption)|assumption);obtain ⟨ad241,e241,hx241_0⟩:=Kd.at_int (Kd.R_reads' HO_19.out).2.2 x21_1 p241 q241;cases e241;replace p241:=eq_true p241;replace q241:=eq_true q241
         try go_wp2
         have n0_:=am' (rw' HO_5.out);have n1_:=am' (rw' HO_19.out);have n2_:=am' (kd' BK232.out);have n3_:=am' (be' HB.out);clear HO_5;clear HO_19;clear BK232;clear HB;have HO_5:=n0_;have HO_19:=n1_;have BK232:=n2_;have HB:=n3_;clear n0_ n1_ n2_ n3_;refine start_ (n:=11) (S:=fun w'=>w'.cell? ⟨gb232,0,none⟩=some (.slice A0_0 l0_0.length c0_0)∧w'.cell? ⟨gb232,1,none⟩=some (.int .i64 a0_1)) (ds:=[]) #[false,false,false,false,false,false,false,false,false,false,false] (by kernel_rfl) rfl rfl ⟨(blk_cell BK232.out 0).trans rfl,(blk_cell BK232.out 1).trans rfl⟩ (fun hHeld=>?_);refine with_tabW spec_FarthestStates.tab8 spec_FarthestStates.bits8 (fun HT_ HW_=>?_);generalize wr.drew=w26 at HO_5 HO_19 BK232 HB hHeld ⊢
         refine pure_ (i:=0) (N:=some 26) (v:=?_) (a':=?_) #[true,false,false,false,false,false,false,false,false,false,false] rfl rfl (any_of HT_.out (by kernel_rfl)) (fun _ _ _ h=>h) (Or.inl ⟨by rfl,?_⟩) ?_ ?_
         rotate_left
         ·
          intro w';go_simp;with_reducible rfl
         rotate_left
         ·
          simp only[Act.put,sa',sb',sc',i64_w,i32_w];rfl
         refine pure_ (i:=1) (N:=some 27) (v:=?_) (a':=?_) #[true,true,false,false,false,false,false,false,false,false,false] rfl rfl (any_of HT_.out (by kernel_rfl)) (fun _ _ _ h=>h) (Or.inl ⟨by rfl,?_⟩) ?_ ?_
         rotate_left
         ·
          intro w';go_simp;with_reducible rfl
         rotate_left
         ·
          simp only[Act.put,sa',sb',sc',i64_w,i32_w];rfl
         refine pure_ (i:=2) (N:=some 28) (v:=?_) (a':=?_) #[true,true,true,false,false,false,false,false,false,false,false] rfl rfl (any_of HT_.out (by kernel_rfl)) (fun _ _ _ h=>h) (Or.inl ⟨by rfl,?_⟩) ?_ ?_
         rotate_left
         ·
          intro w';go_simp;with_reducible rfl
         rotate_left
         ·
          simp only[Act.put,sa',sb',sc',i64_w,i32_w];rfl
         refine pure_ (i:=4) (N:=some 30) (v:=?_) (a':=?_) #[true,true,true,false,true,false,false,false,false,false,false] rfl rfl (any_of HT_.out (by kernel_rfl)) (fun _ _ _ h=>h) (Or.inl ⟨by rfl,?_⟩) ?_ ?_
         rotate_left
         ·
          intro w';go_simp;with_reducible rfl
         rotate_left
         ·
          simp only[Act.put,sa',sb',sc',i64_w,i32_w];rfl
         refine pure_ (i:=5) (N:=some 31) (v:=?_) (a':=?_) #[true,true,true,false,true,true,false,false,false,false,false] rfl rfl (any_of HT_.out (by kernel_rfl)) (fun _ _ _ h=>h) (Or.inl ⟨by rfl,?_⟩) ?_ ?_
         rotate_left
         ·
          intro w';go_simp;with_reducible rfl
         rotate_left
         ·
          simp only[Act.put,sa',sb',sc',i64_w,i32_w];rfl
         refine take_ (i:=3) (N:=some 29) (v:=?_) (a':=?_) #[true,true,true,true,true,true,false,false,false,false,false] rfl rfl (take_ofW HT_.out HW_.out (by kernel_rfl)) (fun _ _ _ h=>h) (Or.inl ⟨by rfl,?_⟩) hHeld ?_ ?_
         rotate_left
         ·
          rintro w' ⟨s0,s1⟩
          go_simp;with_reducible rfl
         rotate_left
         ·
          simp only[Act.put,sa',sb',sc',i64_w,i32_w];rfl
         refine take_ (i:=6) (N:=some 32) (v:=?_) (a':=?_) #[true,true,true,true,true,true,true,false,false,false,false] rfl rfl (take_ofW HT_.out HW_.out (by kernel_rfl)) (fun _ _ _ h=>h) (Or.inl ⟨by rfl,?_⟩) hHeld ?_ ?_
         rotate_left
         ·
          rintro w' ⟨s0,s1⟩
          go_simp;with_reducible rfl
         rotate_left
         ·
          simp only[Act.put,sa',sb',sc',i64_w,i32_w];rfl
         refine pure_ (i:=7) (N:=some 33) (v:=?_) (a':=?_) #[true,true,true,true,true,true,true,true,false,false,false] rfl rfl (any_of HT_.out (by kernel_rfl)) (fun _ _ _ h=>h) (Or.inl ⟨by rfl,?_⟩) ?_ ?_
         rotate_left
         ·
          intro w';go_simp;with_reducible rfl
         rotate_left
         ·
          simp only[Act.put,sa',sb',sc',i64_w,i32_w];rfl
         refine one_ (i:=8) (N:=some 34) #[true,true,true,true,true,true,true,true,true,false,false] rfl rfl (one_of HT_.out (by kernel_rfl)) (by decide) (fun K hK=>?_);refine goes_ Try.func28 (by kernel_rfl) rfl #[.int .i64 x21_1, .int .i64 (l0_0.length:Int)] (by rfl) rfl rfl (by (try simp only[List.map_toArray,List.map_cons,List.map_nil]);first|done|rfl|(simp only[List.length_drop,List.length_take];rfl)) ?_
         with_reducible refine (spec_seState.calls k1 x21_1 (l0_0.length:Int) t242 t245 _ A18.out).mono ?_
         rintro e w27 ⟨v243,rfl,ho0,hb⟩
         refine ⟨_,rfl,?_⟩;have n0_:=am' (Kd.R_below (by (with_reducible repeat (first|apply ra'|apply rn'|apply rw'));exact HO_5.out) hb);have n1_:=am' (Kd.R_below (by (with_reducible repeat (first|apply ra'|apply rn'|apply rw'));exact HO_19.out) hb);have n2_:=am' (Kd.R_lower ho0 (below_size (by repeat (first|(with_reducible first|exact HB.out|apply ba'|apply bd'|apply be'|refine bs' ?_ GE232.out)|exact HB.out))));have n3_:=am' (blk_below (g:=gb232) (o := .cells #[.slice A0_0 l0_0.length c0_0, .int .i64 a0_1] 28 (0,0)) (by (with_reducible repeat (first|refine kn' ?_ _|refine kd' ?_|refine ka' ?_ _));exact BK232.out) hb);have n4_:=am' (below_step (by repeat (first|(with_reducible first|exact HB.out|apply ba'|apply bd'|apply be'|refine bs' ?_ GE232.out)|exact HB.out)) hb);clear HO_5;clear HO_19;clear BK232;clear HB;have HO_5:=n0_;have HO_19:=n1_;have HO244:=n2_;have BK232:=n3_;have HB:=n4_;clear n0_ n1_ n2_ n3_ n4_;(try clear hb)
         (try clear hb2)
         (try clear hk)
         (try clear hi)
         (try clear ho0)
         obtain ⟨Ao28,co28,eo28⟩:=Kd.R_slice HO244.out
         (first|subst eo28|(injection eo28 with f1_ f2_ f3_;have f4_:=f1_.symm;have f5_:=f3_.symm;clear f1_ f2_ f3_;subst f4_;subst f5_))
         refine hK.out _ _ ⟨(blk_cell BK232.out 0).trans rfl,(blk_cell BK232.out 1).trans rfl⟩ (fun hHeld=>?_);clear hK K;refine norm_ (a':=?_) ?_ ?_
         rotate_left
         ·
          show Act.put _ (some 34) _=_
          simp only[Act.put,sa',sb',sc',i64_w,i32_w];rfl
         refine one_ (i:=9) (N:=some 35) #[true,true,true,true,true,true,true,true,true,true,false] rfl rfl (one_of HT_.out (by kernel_rfl)) (by decide) (fun K hK=>?_);refine goes_ Try.func27 (by kernel_rfl) rfl #[.agg #[.slice A0_0 l0_0.length c0_0, .int .i64 a0_1], .agg #[.slice Ao28 t242.length co28, .bool t245]] (by rfl) rfl rfl (by (try simp only[List.map_toArray,List.map_cons,List.map_nil]);first|done|rfl|(simp only[List.length_drop,List.length_take];rfl)) ?_
         with_reducible refine (spec_paState.calls k1 _ _ l0_0 a0_1 _ _ t242 t245 false _ ?side1 ?side2 ?side3 ?side4 A19.out).mono ?_
         (case side1=>repeat (first|exact (Kd.C_below HR0_0.out HB.out)|(with_reducible refine ca' ?_ _)|(with_reducible refine cn' ?_ _)|(with_reducible refine cd' ?_)))
         (case side2=>exact HC0_0.out)
         (case side3=>repeat (first|exact (Kd.R_reads' HO244.out).2.2|(with_reducible refine ca' ?_ _)|(with_reducible refine cn' ?_ _)|(with_reducible refine cd' ?_)))
         (case side4=>exact (Kd.R_reads' HO244.out).2.1)
         rintro e w29 ⟨rfl,hb⟩
         refine ⟨_,rfl,?_⟩;have n0_:=am' (Kd.R_below (by (with_reducible repeat (first|apply ra'|apply rn'|apply rw'));exact HO_5.out) hb);have n1_:=am' (Kd.R_below (by (with_reducible repeat (first|apply ra'|apply rn'|apply rw'));exact HO_19.out) hb);have n2_:=am' (Kd.R_below (by (with_reducible repeat (first|apply ra'|apply rn'|apply rw'));exact HO244.out) hb);have n3_:=am' (blk_below (g:=gb232) (o := .cells #[.slice A0_0 l0_0.length c0_0, .int .i64 a0_1] 28 (0,0)) (by (with_reducible repeat (first|refine kn' ?_ _|refine kd' ?_|refine ka' ?_ _));exact BK232.out) hb);have n4_:=am' (below_step (by repeat (first|(with_reducible first|exact HB.out|apply ba'|apply bd'|apply be'|refine bs' ?_ GE232.out)|exact HB.out)) hb);clear HO_5;clear HO_19;clear HO244;clear BK232;clear HB;have HO_5:=n0_;have HO_19:=n1_;have HO244:=n2_;have BK232:=n3_;have HB:=n4_;clear n0_ n1_ n2_ n3_ n4_;(try clear hb)
         (try clear hb2)
         (try clear hk)
         (try clear hi)
         refine hK.out _ _ ⟨(blk_cell BK232.out 0).trans rfl,(blk_cell BK232.out 1).trans rfl⟩ (fun hHeld=>?_);clear hK K;refine norm_ (a':=?_) ?_ ?_
         rotate_left
         ·
          show Act.put _ (some 35) _=_
          simp only[Act.put,sa',sb',sc',i64_w,i32_w];rfl
         refine pure_ (i:=10) (N:=some 36) (v:=?_) (a':=?_) #[true,true,true,true,true,true,true,true,true,true,true] rfl rfl (any_of HT_.out (by kernel_rfl)) (fun _ _ _ h=>h) (Or.inl ⟨by rfl,?_⟩) ?_ ?_
         rotate_left
         ·
          intro w';go_simp;with_reducible rfl
         rotate_left
         ·
          simp only[Act.put,sa',sb',sc',i64_w,i32_w];rfl
         refine done_ (done_of HT_.out (by kernel_rfl)) ?_
         try go_wp2_with (first|((with_reducible refine gate_callee (f:=29) rfl ?_);refine goesL_ (some 39) rfl rfl Try.func29 (by kernel_rfl) rfl #[.int .i64 x6_1, .int .i64 (rd t238 x21_1)] rfl (by (try simp only[List.map_toArray,List.map_cons,List.map_nil]);first|done|rfl|(simp only[List.length_drop,List.length_take];rfl)) ?_;(with_reducible refine (spec_l1Most.calls x6_1 (rd t238 x21_1) t247 _ A25.out).mono ?_);rintro e w' ⟨rfl,⟨nd,rfl⟩⟩;refine ⟨_,rfl,?_⟩))
         go_roundg k1
         case measure=>have:=HK1.out;omega
         case rel=>exact ⟨(t247),(wrap64 (x21_1+1)),(by first|rfl|(simp;done)|(simp[*];done)),(by first|rfl|(simp;done)|(simp[*];done)),H',⟨by have:=HK1.out;omega⟩,⟨by (with_reducible repeat (first|apply ra'|apply rn'|apply rw'));exact HO_5.out⟩,⟨by (with_reducible repeat (first|apply ra'|apply rn'|apply rw'));exact HO_19.out⟩,⟨by (with_reducible repeat (first|refine kn' ?_ _|refine kd' ?_|refine ka' ?_ _));exact BK232.out⟩,⟨by repeat (first|(with_reducible first|exact HB.out|apply ba'|apply bd'|apply be'|refine bs' ?_ GE232.out)|exact HB.out)⟩⟩
       ·
        rw[if_neg c17] at H;have c17b0:decide ((rd t238 x21_1) < 0)=false:=decide_eq_false c17;clear c17;replace H:=Option.bind_eq_some_iff.mp H;obtain ⟨t248,A300,H⟩:=H;replace H:(spec_FarthestStates.l0 k1 t238 t248 t238 (t238.length:Int) (wrap64 (x21_1+1)) l0_0 a0_1)=some (r1,r2,r3):=H;have A30:=am' A300;clear A300;have H':=am' H;clear H;have p241:0≤(x21_1:Int):=of_decide_eq_true (by first|(with_reducible assumption)|assumption);have q241:x21_1 < (t238.length:Int):=of_decide_eq_true (by first|(with_reducible assumption)|assumption);obtain ⟨ad241,e241,hx241_0⟩:=Kd.at_int (Kd.R_reads' HO_19.out).2.2 x21_1 p241 q241;cases e241;replace p241:=eq_true p241;replace q241:=eq_true q241
        try go_wp2
        have n0_:=am' (rw' HO_5.out);have n1_:=am' (rw' HO_19.out);have n2_:=am' (kd' BK232.out);have n3_:=am' (be' HB.out);clear HO_5;clear HO_19;clear BK232;clear HB;have HO_5:=n0_;have HO_19:=n1_;have BK232:=n2_;have HB:=n3_;clear n0_ n1_ n2_ n3_;refine start_ (n:=11) (S:=fun w'=>True) (ds:=[]) #[false,false,false,false,false,false,false,false,false,false,false] (by kernel_rfl) rfl rfl trivial (fun hHeld=>?_);refine with_tabW spec_FarthestStates.tab8 spec_FarthestStates.bits8 (fun HT_ HW_=>?_);generalize wr.drew=w31 at HO_5 HO_19 BK232 HB hHeld ⊢
        refine pure_ (i:=0) (N:=some 26) (v:=?_) (a':=?_) #[true,false,false,false,false,false,false,false,false,false,false] rfl rfl (any_of HT_.out (by kernel_rfl)) (fun _ _ _ h=>h) (Or.inl ⟨by rfl,?_⟩) ?_ ?_
        rotate_left
        ·
         intro w';go_simp;with_reducible rfl
        rotate_left
        ·
         simp only[Act.put,sa',sb',sc',i64_w,i32_w];rfl
        refine pure_ (i:=1) (N:=some 27) (v:=?_) (a':=?_) #[true,true,false,false,false,false,false,false,false,false,false] rfl rfl (any_of HT_.out (by kernel_rfl)) (fun _ _ _ h=>h) (Or.inl ⟨by rfl,?_⟩) ?_ ?_
        rotate_left
        ·
         intro w';go_simp;with_reducible rfl
        rotate_left
        ·
         simp only[Act.put,sa',sb',sc',i64_w,i32_w];rfl
        refine pure_ (i:=2) (N:=some 28) (v:=?_) (a':=?_) #[true,true,true,false,false,false,false,false,false,false,false] rfl rfl (any_of HT_.out (by kernel_rfl)) (fun _ _ _ h=>h) (Or.inl ⟨by rfl,?_⟩) ?_ ?_
        rotate_left
        ·
         intro w';go_simp;with_reducible rfl
        rotate_left
        ·
         simp only[Act.put,sa',sb',sc',i64_w,i32_w];rfl
        refine pure_ (i:=3) (N:=some 29) (v:=undef) (a':=?_) #[true,true,true,true,false,false,false,false,false,false,false] rfl rfl (any_of HT_.out (by kernel_rfl)) (fun _ _ _ h=>h) (Or.inr ⟨by rfl,rfl⟩) ?_ ?_
        rotate_left
        ·
         simp only[Act.put,sa',sb',sc',i64_w,i32_w];rfl
        refine pure_ (i:=4) (N:=some 30) (v:=undef) (a':=?_) #[true,true,true,true,true,false,false,false,false,false,false] rfl rfl (any_of HT_.out (by kernel_rfl)) (fun _ _ _ h=>h) (Or.inr ⟨by rfl,rfl⟩) ?_ ?_
        rotate_left
        ·
         simp only[Act.put,sa',sb',sc',i64_w,i32_w];rfl
        refine pure_ (i:=5) (N:=some 31) (v:=undef) (a':=?_) #[true,true,true,true,true,true,false,false,false,false,false] rfl rfl (any_of HT_.out (by kernel_rfl)) (fun _ _ _ h=>h) (Or.inr ⟨by rfl,rfl⟩) ?_ ?_
        rotate_left
        ·
         simp only[Act.put,sa',sb',sc',i64_w,i32_w];rfl
        refine pure_ (i:=6) (N:=some 32) (v:=undef) (a':=?_) #[true,true,true,true,true,true,true,false,false,false,false] rfl rfl (any_of HT_.out (by kernel_rfl)) (fun _ _ _ h=>h) (Or.inr ⟨by rfl,rfl⟩) ?_ ?_
        rotate_left
        ·
         simp only[Act.put,sa',sb',sc',i64_w,i32_w];rfl
        refine pure_ (i:=7) (N:=some 33) (v:=undef) (a':=?_) #[true,true,true,true,true,true,true,true,false,false,false] rfl rfl (any_of HT_.out (by kernel_rfl)) (fun _ _ _ h=>h) (Or.inr ⟨by rfl,rfl⟩) ?_ ?_
        rotate_left
        ·
         simp only[Act.put,sa',sb',sc',i64_w,i32_w];rfl
        refine pure_ (i:=8) (N:=some 34) (v:=undef) (a':=?_) #[true,true,true,true,true,true,true,true,true,false,false] rfl rfl (any_of HT_.out (by kernel_rfl)) (fun _ _ _ h=>h) (Or.inr ⟨by rfl,rfl⟩) ?_ ?_
        rotate_left
        ·
         simp only[Act.put,sa',sb',sc',i64_w,i32_w];rfl
        refine pure_ (i:=9) (N:=some 35) (v:=undef) (a':=?_) #[true,true,true,true,true,true,true,true,true,true,false] rfl rfl (any_of HT_.out (by kernel_rfl)) (fun _ _ _ h=>h) (Or.inr ⟨by rfl,rfl⟩) ?_ ?_
        rotate_left
        ·
         simp only[Act.put,sa',sb',sc',i64_w,i32_w];rfl
        refine pure_ (i:=10) (N:=some 36) (v:=?_) (a':=?_) #[true,true,true,true,true,true,true,true,true,true,true] rfl rfl (any_of HT_.out (by kernel_rfl)) (fun _ _ _ h=>h) (Or.inl ⟨by rfl,?_⟩) ?_ ?_
        rotate_left
        ·
         intro w';go_simp;with_reducible rfl
        rotate_left
        ·
         simp only[Act.put,sa',sb',sc',i64_w,i32_w];rfl
        refine done_ (done_of HT_.out (by kernel_rfl)) ?_
        try go_wp2_with (first|((with_reducible refine gate_callee (f:=29) rfl ?_);refine goesL_ (some 39) rfl rfl Try.func29 (by kernel_rfl) rfl #[.int .i64 x6_1, .int .i64 (rd t238 x21_1)] rfl (by (try simp only[List.map_toArray,List.map_cons,List.map_nil]);first|done|rfl|(simp only[List.length_drop,List.length_take];rfl)) ?_;(with_reducible refine (spec_l1Most.calls x6_1 (rd t238 x21_1) t248 _ A30.out).mono ?_);rintro e w' ⟨rfl,⟨nd,rfl⟩⟩;refine ⟨_,rfl,?_⟩))
        go_roundg k1
        case measure=>have:=HK1.out;omega
        case rel=>exact ⟨(t248),(wrap64 (x21_1+1)),(by first|rfl|(simp;done)|(simp[*];done)),(by first|rfl|(simp;done)|(simp[*];done)),H',⟨by have:=HK1.out;omega⟩,⟨by (with_reducible repeat (first|apply ra'|apply rn'|apply rw'));exact HO_5.out⟩,⟨by (with_reducible repeat (first|apply ra'|apply rn'|apply rw'));exact HO_19.out⟩,⟨by (with_reducible repeat (first|refine kn' ?_ _|refine kd' ?_|refine ka' ?_ _));exact BK232.out⟩,⟨by repeat (first|(with_reducible first|exact HB.out|apply ba'|apply bd'|apply be'|refine bs' ?_ GE232.out)|exact HB.out)⟩⟩
      ·
       rw[if_neg c16] at H;exact absurd H (by simp)
     ·
      rw[if_neg c15] at H;exact absurd H (by simp)
    ·
     rw[if_neg c14] at H;have c14b0:decide (x21_1 < (t238.length:Int))=false:=decide_eq_false c14;clear c14;have H':=am' H;clear H;go_wp2;go_loopg [9,43] k1 (fun kq v9 v43 w'=>∃ (x9_2:List (S54)) (x43_2:Int),v43 = .int .i64 x43_2∧Aside0 (spec_FarthestStates.l1 kq x6_1 x9_2 t238 (t238.length:Int) x43_2 l0_0 a0_1=some (r1,r2,r3))∧Aside0 (kq≤k1)∧Aside0 (Kd.S k54 54 w' w.heap.size (fun _=>True) v9 x9_2)∧Aside0 (Kd.R (Kd.int .i64) 3 w' w.heap.size (fun _=>True) (.slice Ao13 t238.length co13) t238)∧Aside0 (w'.heap[gb232]? = some (.cells #[(.slice A0_0 l0_0.length c0_0), .int .i64 a0_1] 28 (0,0)))∧Aside0 (Below w.heap.size w w'))
     case atStart=>exact ⟨(([]:List (S54))),(0),(by first|rfl|(simp;done)|(simp[*];done)),H',⟨Nat.le_refl _⟩,⟨by first|exact Kd.S_nil _ _ _ _ _|exact Kd.N_nil _ _ _ _ _|exact Kd.V_nil _ _ _ _ _|exact Kd.Q_nil _ _ _ _ _|exact Kd.R_nil _ _ _ _ _⟩,⟨by (with_reducible repeat (first|apply ra'|apply rn'|apply rw'));exact HO_5.out⟩,⟨by (with_reducible repeat (first|refine kn' ?_ _|refine kd' ?_|refine ka' ?_ _));exact BK232.out⟩,⟨by repeat (first|(with_reducible first|exact HB.out|apply ba'|apply bd'|apply be'|refine bs' ?_ GE232.out)|exact HB.out)⟩⟩
     case round =>
      clear H';try clear c1
      try clear c2
      try clear p2
      try clear q2
      try clear hx2
      try clear c3
      try clear p6
      try clear c10
      try clear c14
      try clear c14b0
      try clear c15
      try clear c15b0
      try clear c16
      try clear c16b0
      try clear c17
      try clear c17b0
      try clear c20
      try clear p24
      try clear q24
      try clear hx24
      try clear c25
      try clear c26
      try clear c27
      try clear c28
      try clear c29
      try clear hcz7_0
      try clear hcz7_1
      try clear hfz7_0
      try clear hfz7_1
      try clear hx241_0
      try clear p2
      try clear p241
      try clear q241
      obtain ⟨x9_2,x43_2,rfl,HA,HK2,HO_9,HO_41,BK232,HB⟩:=hrel;cases gk with
      | zero=>exact absurd HA.out (by simp[spec_FarthestStates.l1])
      | succ k2 =>
       have H:=HA.out;clear HA;simp only[spec_FarthestStates.l1] at H;by_cases c32:x43_2 < (t238.length:Int)
       ·
        rw[if_pos c32] at H;have c32b0:decide (x43_2 < (t238.length:Int))=true:=decide_eq_true c32;clear c32;by_cases c33:0≤x43_2
        ·
         rw[if_pos c33] at H;have c33b0:decide (0≤x43_2)=true:=decide_eq_true c33;clear c33;by_cases c34:x43_2 < (t238.length:Int)
         ·
          rw[if_pos c34] at H;have c34b0:decide (x43_2 < (t238.length:Int))=true:=decide_eq_true c34;clear c34;by_cases c35:(rd t238 x43_2)=x6_1
          ·
           rw[if_pos c35] at H;have c35b0:((rd t238 x43_2) == x6_1)=true:=beq_iff_eq.mpr c35;have c35b1:((rd t238 x43_2) != x6_1)=false:=bne_eq_false_iff_eq.mpr c35;clear c35;replace H:=Option.bind_eq_some_iff.mp H;obtain ⟨⟨t250,t253⟩,A360,H⟩:=H;replace H:(if x9_2.length < 4398046511104 then (spec_FarthestStates.l1 k2 x6_1 (x9_2 ++ [(⟨t250,t253⟩:S54)]) t238 (t238.length:Int) (wrap64 (x43_2+1)) l0_0 a0_1) else (none))=some (r1,r2,r3):=H;have A36:=am' A360;clear A360;by_cases c37:x9_2.length < 4398046511104
           ·
            rw[if_pos c37] at H;have LMc37:=am' c37;clear c37;obtain ⟨y254,hy254⟩:∃ y_:List (S54),y_=(x9_2 ++ [(⟨t250,t253⟩:S54)]):=⟨_,rfl⟩
            replace H:(spec_FarthestStates.l1 k2 x6_1 y254 t238 (t238.length:Int) (wrap64 (x43_2+1)) l0_0 a0_1)=some (r1,r2,r3):=by first|(rw[hy254];with_reducible exact H)|(have H2_:=(Option.bind_some _ _).symm.trans H;rw[hy254];with_reducible exact H2_)|(have H2_:=(Option.bind_some _ _).symm.trans H;with_reducible exact H2_)|with_reducible exact H|(rw[hy254];exact H)|exact H
            have Ny254:=am' hy254;clear hy254;have H':=am' H;clear H;have p249:0≤(x43_2:Int):=of_decide_eq_true (by first|(with_reducible assumption)|assumption);have q249:x43_2 < (t238.length:Int):=of_decide_eq_true (by first|(with_reducible assumption)|assumption);obtain ⟨ad249,e249,hx249_0⟩:=Kd.at_int (Kd.R_reads' HO_41.out).2.2 x43_2 p249 q249;cases e249;replace p249:=eq_true p249;replace q249:=eq_true q249;have hcz38_0:wr.cell? ⟨gb232,0,none⟩=some (.slice A0_0 l0_0.length c0_0):=(blk_cell BK232.out 0).trans rfl;have hcz38_1:wr.cell? ⟨gb232,1,none⟩=some (.int .i64 a0_1):=(blk_cell BK232.out 1).trans rfl;have hfz38_0:=blk_frozen BK232.out 0;have hfz38_1:=blk_frozen BK232.out 1;go_wp2_with (first|((with_reducible refine gate_callee (f:=28) rfl ?_);refine goesL_ (some 56) rfl rfl Try.func28 (by kernel_rfl) rfl #[.int .i64 x43_2, .int .i64 (l0_0.length:Int)] rfl (by (try simp only[List.map_toArray,List.map_cons,List.map_nil]);first|done|rfl|(simp only[List.length_drop,List.length_take];rfl)) ?_;(with_reducible refine (spec_seState.calls k2 x43_2 (l0_0.length:Int) t250 t253 _ A36.out).mono ?_);rintro e w39 ⟨v251,rfl,ho0,hb⟩;refine ⟨_,rfl,?_⟩;have n0_:=am' (Kd.S_elder' (by (with_reducible repeat (first|apply Kd.S_alloc|apply Kd.S_drewN|apply Kd.S_drew));exact HO_9.out) (Kd.R_base ho0) hb);have n1_:=am' (Kd.R_below (by (with_reducible repeat (first|apply ra'|apply rn'|apply rw'));exact HO_41.out) hb);have n2_:=am' (Kd.R_lower ho0 (below_size (by repeat (first|(with_reducible first|exact HB.out|apply ba'|apply bd'|apply be'|refine bs' ?_ GE232.out)|exact HB.out))));have n3_:=am' (blk_below (g:=gb232) (o := .cells #[.slice A0_0 l0_0.length c0_0, .int .i64 a0_1] 28 (0,0)) (by (with_reducible repeat (first|refine kn' ?_ _|refine kd' ?_|refine ka' ?_ _));exact BK232.out) hb);have n4_:=am' (below_step (by repeat (first|(with_reducible first|exact HB.out|apply ba'|apply bd'|apply be'|refine bs' ?_ GE232.out)|exact HB.out)) hb);clear HO_9;clear HO_41;clear BK232;clear HB;have HO_9:=n0_;have HO_41:=n1_;have HO252:=n2_;have BK232:=n3_;have HB:=n4_;clear n0_ n1_ n2_ n3_ n4_;(try clear hb);(try clear hb2);(try clear hk);(try clear hi);(try clear ho0);obtain ⟨Ao41,co41,eo41⟩:=Kd.R_slice HO252.out;subst eo41)|((with_reducible refine gate_builtin (b := .append) (xs:=#[.tmp 51, .tmp 57]) rfl ?_);(try (refine gate_guard (by rfl) ?_;dsimp only));at_builtin;refine Kd.S_append k54 (w0:=w) w.heap.size rfl (.tmp 51) (.tmp 57) 32 54 (.agg #[(.slice none 0 0),(.bool false)]) 32 rfl Try.underlying32 info54 rfl (by decide) (by omega) u9 x9_2 (⟨t250,t253⟩:S54) [.slice Ao41 t250.length co41, .bool t253] (fun _=>True) (fun k_=>some k_=(.slice Ao41 t250.length co41:Value).ownBlock) rfl rfl ?aP (fun k_ hk_=>((Kd.R_mono (ok':=fun k_=>((fun _=>True)) k_∧some k_≠(u9:Value).ownBlock) (Kd.R_apart' (HO252.out) (Kd.S_typed HO_9.out) (by decide)) (fun k_ hk=>⟨trivial,hk.2⟩))).1 k_ hk_.symm) ?aF ?aO ?aB ?aS ?aL ?_;(case aP=>exact k54_mkM _ _ _ (⟨t250,t253⟩:S54) (Kd.R_mono (Kd.R_tight rfl (Kd.R_mono (ok':=fun k_=>((fun _=>True)) k_∧some k_≠(u9:Value).ownBlock) (Kd.R_apart' (HO252.out) (Kd.S_typed HO_9.out) (by decide)) (fun k_ hk=>⟨trivial,hk.2⟩))) (fun _ h_=>h_)));(case aB=>exact (by repeat (first|(with_reducible first|exact HB.out|apply ba'|apply bd'|apply be'|refine bs' ?_ GE232.out)|exact HB.out)));(case aF=>exact (fun _ _=>trivial));(case aO=>exact (by (with_reducible repeat (first|apply Kd.S_alloc|apply Kd.S_drewN|apply Kd.S_drew));exact Kd.S_mono HO_9.out (fun k_ hk=>⟨trivial,fun e_=>hk.2 e_⟩)));(case aS=>exact (below_size (by repeat (first|(with_reducible first|exact HB.out|apply ba'|apply bd'|apply be'|refine bs' ?_ GE232.out)|exact HB.out))));(case aL=>have:=LMc37.out;omega);intro v255 w40 ho hb hg hat;rw[← Ny254.out] at ho;have n0_:=am' (Kd.R_over' (by (with_reducible repeat (first|apply ra'|apply rn'|apply rw'));exact HO_41.out) (Kd.S_typed (by (with_reducible repeat (first|apply Kd.S_alloc|apply Kd.S_drewN|apply Kd.S_drew));exact HO_9.out)) (by decide) hg);have n1_:=am' (blk_grown (g:=gb232) (o := .cells #[.slice A0_0 l0_0.length c0_0, .int .i64 a0_1] 28 (0,0)) (by (with_reducible repeat (first|refine kn' ?_ _|refine kd' ?_|refine ka' ?_ _));exact BK232.out) hg (Kd.S_ne HO_9.out BK232.out (by decide)));have n2_:=am' (hb);have n3_:=am' (ho);clear HO_41;clear BK232;clear HB;clear HO_9;clear HO252;have HO_41:=n0_;have BK232:=n1_;have HB:=n2_;have HO256:=n3_;clear n0_ n1_ n2_ n3_;clear ho hb hg hat))
            go_roundg k2
            case measure=>have:=HK1.out;have:=HK2.out;omega
            case rel=>exact ⟨(y254),(wrap64 (x43_2+1)),(by first|rfl|(simp;done)|(simp[*];done)),H',⟨by have:=HK1.out;have:=HK2.out;omega⟩,⟨by (with_reducible repeat (first|apply Kd.S_alloc|apply Kd.S_drewN|apply Kd.S_drew));exact HO256.out⟩,⟨by (with_reducible repeat (first|apply ra'|apply rn'|apply rw'));exact HO_41.out⟩,⟨by (with_reducible repeat (first|refine kn' ?_ _|refine kd' ?_|refine ka' ?_ _));exact BK232.out⟩,⟨by repeat (first|(with_reducible first|exact HB.out|apply ba'|apply bd'|apply be'|refine bs' ?_ GE232.out)|exact HB.out)⟩⟩
           ·
            rw[if_neg c37] at H;exact absurd H (by simp)
          ·
           rw[if_neg c35] at H;have c35b0:((rd t238 x43_2) == x6_1)=false:=beq_eq_false_iff_ne.mpr c35;have c35b1:((rd t238 x43_2) != x6_1)=true:=bne_iff_ne.mpr c35;have H':=am' H;clear H;have p249:0≤(x43_2:Int):=of_decide_eq_true (by first|(with_reducible assumption)|assumption);have q249:x43_2 < (t238.length:Int):=of_decide_eq_true (by first|(with_reducible assumption)|assumption);obtain ⟨ad249,e249,hx249_0⟩:=Kd.at_int (Kd.R_reads' HO_41.out).2.2 x43_2 p249 q249;cases e249;replace p249:=eq_true p249;replace q249:=eq_true q249;go_wp2;go_roundg k2
           case measure=>have:=HK1.out;have:=HK2.out;omega
           case rel=>exact ⟨(x9_2),(wrap64 (x43_2+1)),(by first|rfl|(simp;done)|(simp[*];done)),H',⟨by have:=HK1.out;have:=HK2.out;omega⟩,⟨by (with_reducible repeat (first|apply Kd.S_alloc|apply Kd.S_drewN|apply Kd.S_drew));exact HO_9.out⟩,⟨by (with_reducible repeat (first|apply ra'|apply rn'|apply rw'));exact HO_41.out⟩,⟨by (with_reducible repeat (first|refine kn' ?_ _|refine kd' ?_|refine ka' ?_ _));exact BK232.out⟩,⟨by repeat (first|(with_reducible first|exact HB.out|apply ba'|apply bd'|apply be'|refine bs' ?_ GE232.out)|exact HB.out)⟩⟩
         ·
          rw[if_neg c34] at H;exact absurd H (by simp)
        ·
         rw[if_neg c33] at H;exact absurd H (by simp)
       ·
        rw[if_neg c32] at H;have c32b0:decide (x43_2 < (t238.length:Int))=false:=decide_eq_false c32;clear c32;simp only[Option.some.injEq,Prod.mk.injEq] at H;obtain ⟨rfl,rfl,rfl⟩:=H;go_wp2;go_ret3
        exact ⟨_,by first|rfl|(simp[errW_none,errW_some] <;> rfl)|(simp[*,errW_none,errW_some] <;> rfl),by (with_reducible repeat (first|apply Kd.S_alloc|apply Kd.S_drewN|apply Kd.S_drew));exact HO_9.out,by repeat (first|(with_reducible first|exact HB.out|apply ba'|apply bd'|apply be'|refine bs' ?_ GE232.out)|exact HB.out)⟩
 ·
  replace c3:=Bool.eq_false_iff.mpr c3;subst c3;have H1:(some (([]:List (S54)),0,false))=some (r1,r2,r3):=by rw[if_neg (show ¬ (false=true) by decide)] at H;exact H
  clear H;have H:=H1;clear H1;simp only[Option.some.injEq,Prod.mk.injEq] at H;obtain ⟨rfl,rfl,rfl⟩:=H;go_enter Try.func10,Try.ntmps10;go_wp2_with (first|((with_reducible refine gate_dst (N:=1) rfl ?_);(try (refine gate_guard (by rfl) ?_;dsimp only));refine box_event ?hg (N:=1) ?hd (cs:=#[.slice A0_0 l0_0.length c0_0, .int .i64 a0_1]) (t:=28) ?hr ?_;(case hd=>rfl);(case hg=>rfl);(case hr=>first|(go_simp;done)|(go_simp;rfl));intro gb232 hg w42 hbox hb;have n0_:=am' (below_step (by repeat (first|(with_reducible first|exact HB.out|apply ba'|apply bd'|apply be')|exact HB.out)) hb);have n1_:=am' (hbox);have n2_:=am' ((by rw[hg];exact (below_size (by repeat (first|(with_reducible first|exact HB.out|apply ba'|apply bd'|apply be')|exact HB.out))):w.heap.size≤gb232));have n3_:=am' ((by rw[hg];exact (below_size (by repeat (first|(with_reducible first|exact HB.out|apply ba'|apply bd'|apply be')|exact HB.out))):w.heap.size≤gb232));clear HB;have HB:=n0_;have BK232:=n1_;have GW232:=n2_;have GE232:=n3_;clear n0_ n1_ n2_ n3_;clear hb hbox hg;have hcz43_0:w42.cell? ⟨gb232,0,none⟩=some (.slice A0_0 l0_0.length c0_0):=(blk_cell BK232.out 0).trans rfl;have hcz43_1:w42.cell? ⟨gb232,1,none⟩=some (.int .i64 a0_1):=(blk_cell BK232.out 1).trans rfl;have hfz43_0:=blk_frozen BK232.out 0;have hfz43_1:=blk_frozen BK232.out 1)|((with_reducible refine gate_callee (f:=17) rfl ?_);refine goesL_ (some 13) rfl rfl Try.func17 (by kernel_rfl) rfl #[.agg #[.slice A0_0 l0_0.length c0_0, .int .i64 a0_1]] rfl (by (try simp only[List.map_toArray,List.map_cons,List.map_nil]);first|done|rfl|(simp only[List.length_drop,List.length_take];rfl)) ?_;(with_reducible refine (spec_paGood.calls k _ _ l0_0 a0_1 false _ ?side1 ?side2 A2.out).mono ?_);(case side1=>repeat (first|exact (Kd.C_below HR0_0.out HB.out)|(with_reducible refine ca' ?_ _)|(with_reducible refine cn' ?_ _)|(with_reducible refine cd' ?_)));(case side2=>exact HC0_0.out);rintro e w44 ⟨rfl,hb⟩;refine ⟨_,rfl,?_⟩;have n0_:=am' (blk_below (g:=gb232) (o := .cells #[.slice A0_0 l0_0.length c0_0, .int .i64 a0_1] 28 (0,0)) (by (with_reducible repeat (first|refine kn' ?_ _|refine kd' ?_|refine ka' ?_ _));exact BK232.out) hb);have n1_:=am' (below_step (by repeat (first|(with_reducible first|exact HB.out|apply ba'|apply bd'|apply be'|refine bs' ?_ GE232.out)|exact HB.out)) hb);clear BK232;clear HB;have BK232:=n0_;have HB:=n1_;clear n0_ n1_;(try clear hb);(try clear hb2);(try clear hk);(try clear hi)));go_ret3
  exact ⟨_,by first|rfl|(simp[errW_none,errW_some] <;> rfl)|(simp[*,errW_none,errW_some] <;> rfl),by first|exact Kd.S_nil _ _ _ _ _|exact Kd.N_nil _ _ _ _ _|exact Kd.V_nil _ _ _ _ _|exact Kd.Q_nil _ _ _ _ _|exact Kd.R_nil _ _ _ _ _,by repeat (first|(with_reducible first|exact HB.out|apply ba'|apply bd'|apply be'|refine bs' ?_ GE232.out)|exact HB.out)⟩
def impl_in.f (a0:Int) (a1:Int) (a2:Int):Option (Bool):=if a1≤a0 then (some (decide (a0≤a2))) else (some false)
set_option maxHeartbeats 8000000 in
set_option maxRecDepth 100000 in
theorem impl_in.calls (a0:Int) (a1:Int) (a2:Int) (r:Bool) (w:World) (h:impl_in.f a0 a1 a2=some r) :
  Calls Try.prog 46 #[.int .i64 a0, .int .i64 a1, .int .i64 a2] w fun e w'=>e = .returned (.bool r)∧Drawn0 w w':=by
 have H:(if a1≤a0 then (some (decide (a0≤a2))) else (some false))=some r:=h
 clear h;by_cases c4:a1≤a0
 ·
  rw[if_pos c4] at H;have c4b0:decide (a1≤a0)=true:=decide_eq_true c4;clear c4;obtain rfl:=Option.some.inj H;go_enter Try.func46,Try.ntmps46;go_wp2;go_ret
  exact ⟨by first|rfl|(simp;done)|(simp[*];done),by repeat (first|exact Drawn0.refl _|apply Drawn0.step)⟩
 ·
  rw[if_neg c4] at H;have c4b0:decide (a1≤a0)=false:=decide_eq_false c4;clear c4;obtain rfl:=Option.some.inj H;go_enter Try.func46,Try.ntmps46;go_wp2;go_ret
  exact ⟨by first|rfl|(simp;done)|(simp[*];done),by repeat (first|exact Drawn0.refl _|apply Drawn0.step)⟩
end Go.Proofs.Ytihieplobgehaaa.C1
