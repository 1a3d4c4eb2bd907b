import Derived.Test.YtihieplobgehaaaC1zx0
import Derived.Test.YtihieplobgehaaaC1zx12
import Derived.Test.YtihieplobgehaaaC1zAl
namespace Go.Proofs.Ytihieplobgehaaa.C1
open Go.RowKit Go.Proofs.YtihieplobgehaaaW.PrintWords Go.Proofs.YtihieplobgehaaaW.PrintLast Go.Proofs.YtihieplobgehaaaW.PrintMore Go.Proofs.Ytihieplobgehaaa.H
attribute [local go_sem] max2_int min2_int max_two min_two max_three min_three max_four min_four
set_option linter.unusedVariables false
set_option linter.unusedSimpArgs false
mutual
def impl_inOrder.l0:Nat→Int→List (S54)→Int→Int→Option ((List (S54)))
 | 0,_,_,_,_=>none
 | k+1,x0,x3,x9,x10=>if x10 < x9 then (if 0≤x0 then (if (x0:Int).toNat≤281474976710656 then ((some (List.replicate (x0:Int).toNat false:List Bool)).bind fun y297=>(impl_inOrder.l1 k x0 x3 x10 x9 x10 (y297.length:Int) 0 y297 ((Go.bits .and .i64 (shr .i64 x10 x0) 1) == 1))) else (none)) else (none)) else (some x3)
def impl_inOrder.l1:Nat→Int→List (S54)→Int→Int→Int→Int→Int→List Bool→Bool→Option ((List (S54)))
 | 0,_,_,_,_,_,_,_,_,_=>none
 | k+1,x0,x3,x4,x9,x10,x23,x24,x301000,x301001=>if x24 < x23 then (if 0≤(wrap64 ((wrap64 (x0 - 1)) - x24)) then (if 0≤x24 then (if x24 < (x301000.length:Int) then (impl_inOrder.l1 k x0 x3 x4 x9 x10 x23 (wrap64 (x24+1)) (x301000.set (x24:Int).toNat ((Go.bits .and .i64 (shr .i64 x4 (wrap64 ((wrap64 (x0 - 1)) - x24))) 1) == 1)) x301001) else (none)) else (none)) else (none)) else ((impl_isStateOf.f k x0 x301000 x301001).bind fun t302=>(if t302=true then (if x3.length < 4398046511104 then (impl_inOrder.l0 k x0 (x3 ++ [(⟨x301000,x301001⟩:S54)]) x9 (wrap64 (x10+1))) else (none)) else (impl_inOrder.l0 k x0 x3 x9 (wrap64 (x10+1)))))
end
def impl_inOrder.f (k:Nat) (a0:Int):Option ((List (S54))):=if 0≤a0 then (impl_inOrder.l0 k a0 (([]:List (S54))) (shl .i64 2 a0) 0) else (none)
def impl_inOrder.T5:Bool × List (List Nat × List Nat):=(true,[([],[]),([0,0],[0]),([],[]),([],[]),([2,3],[2,3]),([4],[4]),([5],[5]),([1,6],[1,6]),([],[]),([8,7,0,1,2,3,4,5,6,7,8],[7,8])])
def impl_inOrder.B5:List Nat:=[0,1,0,0,12,28,60,127,0,511]
theorem impl_inOrder.tab5:rtab .any (opsOf Try.f32 5)=impl_inOrder.T5:=by kernel_rfl
theorem impl_inOrder.bits5:waitsOk impl_inOrder.T5.2 impl_inOrder.B5=true:=by kernel_rfl
def impl_inOrder.T9:Bool × List (List Nat × List Nat):=(true,[([],[]),([0],[0]),([],[]),([],[]),([],[]),([4],[4]),([],[]),([5,6],[5,6]),([3,7],[3,7]),([8],[8]),([9],[9]),([1,2,0,1,2,3,4,5,6,7,8,9,10],[1,2]),([11,10,0,1,2,3,4,5,6,7,8,9,10],[10,11])])
def impl_inOrder.B9:List Nat:=[0,1,0,0,0,16,0,112,248,504,1016,2047,4095]
theorem impl_inOrder.tab9:rtab .any (opsOf Try.f32 9)=impl_inOrder.T9:=by kernel_rfl
theorem impl_inOrder.bits9:waitsOk impl_inOrder.T9.2 impl_inOrder.B9=true:=by kernel_rfl
set_option maxHeartbeats 8000000 in
set_option maxRecDepth 100000 in
theorem impl_inOrder.calls (k:Nat) (a0:Int) (r:List (S54)) (w:World) (h:impl_inOrder.f k a0=some r) :
  Calls Try.prog 32 #[.int .i64 a0] w fun e w'=>∃ v0_:Value,e = .returned (v0_)∧Kd.S k54 54 w' w.heap.size (fun _=>True) v0_ r∧Below w.heap.size w w':=by
 have hu54:=Try.underlying54
 have HB:=am' (Below.refl w.heap.size w)
 have H:(if 0≤a0 then (impl_inOrder.l0 k a0 (([]:List (S54))) (shl .i64 2 a0) 0) else (none))=some r:=h
 clear h;obtain ⟨y294,hy294⟩:∃ y_:List (S54),y_=(([]:List (S54))):=⟨_,rfl⟩
 replace H:(if 0≤a0 then (impl_inOrder.l0 k a0 y294 (shl .i64 2 a0) 0) else (none))=some r:=by first|(rw[hy294];with_reducible exact H)|(have H2_:=(Option.bind_some _ _).symm.trans H;rw[hy294];with_reducible exact H2_)|(have H2_:=(Option.bind_some _ _).symm.trans H;with_reducible exact H2_)|with_reducible exact H|(rw[hy294];exact H)|exact H
 have Ny294:=am' hy294
 clear hy294;by_cases c2:0≤a0
 ·
  rw[if_pos c2] at H;have c2b0:=eq_true c2;have c2b1:decide (0≤a0)=true:=decide_eq_true c2;clear c2;obtain ⟨ji3,hji3⟩:∃ j_:Int,(shl .i64 2 a0)=j_:=⟨_,rfl⟩
  replace H:(impl_inOrder.l0 k a0 y294 ji3 0)=some r:=by first|(rw[hji3] at H;exact H)|(simp only[hji3] at H ⊢;exact H)
  have hji3_:(IntKind.i64.wrap (2 * 2 ^ min a0.toNat 64))=ji3:=hji3;have hji3z:a0≤64→(IntKind.i64.wrap (2 * 2 ^ a0.toNat))=ji3:=shl_small hji3;have hji3y:(wrap64 (2 * 2 ^ min a0.toNat 64))=ji3:=(i64_w _).symm.trans hji3_;have hji3x:a0≤64→(wrap64 (2 * 2 ^ a0.toNat))=ji3:=fun h_=>(i64_w _).symm.trans (hji3z h_)
  have H':=am' H;clear H;go_enter Try.func32,Try.ntmps32;go_wp2_with (first|((with_reducible refine gate_dst (N:=7) rfl ?_);refine Kd.S_lit k54 _ 54 ?hg (N:=7) ?hd (xs:=([]:List (S54))) (inner:=[]) (ok:=fun _=>True) (okp:=fun _=>True) ?hr ?hp (fun _ hk=>hk) trivial (Below.refl _ _) (Nat.le_refl _) (by simp) ?_;(case hd=>rfl);(case hg=>rfl);(case hr=>first|(go_simp;done)|(go_simp;rfl));(case hp=>exact (Reps.none _ _));intro v295 w4 ho5 hb hg_ hnew_;clear hg_ hnew_;(first|rw[← Ny294.out] at ho5|(simp only[Int.reduceToNat] at ho5;rw[← Ny294.out] at ho5));have n0_:=am' (Kd.S_lower ho5 (below_size (by repeat (first|(with_reducible first|exact HB.out|apply ba'|apply bd'|apply be')|exact HB.out))));have n1_:=am' (below_step (by repeat (first|(with_reducible first|exact HB.out|apply ba'|apply bd'|apply be')|exact HB.out)) hb);clear HB;have HO296:=n0_;have HB:=n1_;clear n0_ n1_;clear hb ho5));go_loopg [3,10] k (fun kq v3 v10 w'=>∃ (x3_1:List (S54)) (x10_1:Int),v10 = .int .i64 x10_1∧Aside0 (impl_inOrder.l0 kq a0 x3_1 ji3 x10_1=some r)∧Aside0 (kq≤k)∧Aside0 (Kd.S k54 54 w' w.heap.size (fun _=>True) v3 x3_1)∧Aside0 (Below w.heap.size w w'))
  case atStart=>exact ⟨(y294),(0),(by first|rfl|(simp;done)|(simp[*];done)),H',⟨Nat.le_refl _⟩,⟨by (with_reducible repeat (first|apply Kd.S_alloc|apply Kd.S_drewN|apply Kd.S_drew));exact HO296.out⟩,⟨by repeat (first|(with_reducible first|exact HB.out|apply ba'|apply bd'|apply be')|exact HB.out)⟩⟩
  case round =>
   clear H';try clear c2
   try clear c2b0
   try clear c2b1
   try clear p2
   try clear c3
   obtain ⟨x3_1,x10_1,rfl,HA,HK1,HO_3,HB⟩:=hrel;cases gk with
   | zero=>exact absurd HA.out (by simp[impl_inOrder.l0])
   | succ k1 =>
    have H:=HA.out;clear HA;simp only[impl_inOrder.l0] at H;by_cases c6:x10_1 < ji3
    ·
     rw[if_pos c6] at H;have c6b0:decide (x10_1 < ji3)=true:=decide_eq_true c6;clear c6;by_cases c7:0≤a0
     ·
      rw[if_pos c7] at H;have c7b0:=eq_true c7;have c7b1:decide (0≤a0)=true:=decide_eq_true c7;clear c7;by_cases c8:(a0:Int).toNat≤281474976710656
      ·
       rw[if_pos c8] at H;have c8b0:=eq_true c8;have c8b1:decide ((a0:Int).toNat≤281474976710656)=true:=decide_eq_true c8;clear c8;obtain ⟨y297,hy297⟩:∃ y_:List Bool,y_=(List.replicate (a0:Int).toNat false):=⟨_,rfl⟩
       replace H:(impl_inOrder.l1 k1 a0 x3_1 x10_1 ji3 x10_1 (y297.length:Int) 0 y297 ((Go.bits .and .i64 (shr .i64 x10_1 a0) 1) == 1))=some r:=by first|(rw[hy297];with_reducible exact H)|(have H2_:=(Option.bind_some _ _).symm.trans H;rw[hy297];with_reducible exact H2_)|(have H2_:=(Option.bind_some _ _).symm.trans H;with_reducible exact H2_)|with_reducible exact H|(rw[hy297];exact H)|exact H
       have Ny297:=am' hy297;clear hy297;have c9b0:=eq_true (of_decide_eq_true (by first|(with_reducible assumption)|assumption):0≤a0);obtain ⟨ji10,hji10⟩:∃ j_:Int,(shr .i64 x10_1 a0)=j_:=⟨_,rfl⟩
       replace H:(impl_inOrder.l1 k1 a0 x3_1 x10_1 ji3 x10_1 (y297.length:Int) 0 y297 ((Go.bits .and .i64 (ji10) 1) == 1))=some r:=by first|(rw[hji10] at H;exact H)|(simp only[hji10] at H ⊢;exact H)
       have hji10_:(x10_1 / 2 ^ min a0.toNat 64)=ji10:=hji10;have hji10z:a0≤64→(x10_1 / 2 ^ a0.toNat)=ji10:=shr_small hji10;have H':=am' H;clear H;try go_wp2
       have n0_:=am' (Kd.S_drew HO_3.out);have n1_:=am' (be' HB.out);clear HO_3;clear HB;have HO_3:=n0_;have HB:=n1_;clear n0_ n1_;refine start_ (n:=10) (S:=fun w'=>True) (ds:=[]) #[false,false,false,false,false,false,false,false,false,false] (by kernel_rfl) rfl rfl trivial (fun hHeld=>?_);refine with_tabW impl_inOrder.tab5 impl_inOrder.bits5 (fun HT_ HW_=>?_);generalize wr.drew=w11 at HO_3 HB hHeld ⊢
       refine pure_ (i:=0) (N:=some 13) (v:=?_) (a':=?_) #[true,false,false,false,false,false,false,false,false,false] rfl rfl (any_of HT_.out (by kernel_rfl)) (fun _ _ _ h=>h) (Or.inl ⟨by rfl,?_⟩) ?_ ?_
       rotate_left
       ·
        intro w';go_simp;with_reducible rfl
       rotate_left
       ·
        simp only[Act.put,sa',sb',sc',i64_w,i32_w];rfl
       refine pure_ (i:=2) (N:=some 15) (v:=?_) (a':=?_) #[true,false,true,false,false,false,false,false,false,false] rfl rfl (any_of HT_.out (by kernel_rfl)) (fun _ _ _ h=>h) (Or.inl ⟨by rfl,?_⟩) ?_ ?_
       rotate_left
       ·
        intro w';go_simp;with_reducible rfl
       rotate_left
       ·
        simp only[Act.put,sa',sb',sc',i64_w,i32_w];rfl
       refine pure_ (i:=3) (N:=some 16) (v:=?_) (a':=?_) #[true,false,true,true,false,false,false,false,false,false] rfl rfl (any_of HT_.out (by kernel_rfl)) (fun _ _ _ h=>h) (Or.inl ⟨by rfl,?_⟩) ?_ ?_
       rotate_left
       ·
        intro w';go_simp;with_reducible rfl
       rotate_left
       ·
        simp only[Act.put,sa',sb',sc',i64_w,i32_w];rfl
       refine pure_ (i:=4) (N:=some 17) (v:=?_) (a':=?_) #[true,false,true,true,true,false,false,false,false,false] rfl rfl (any_of HT_.out (by kernel_rfl)) (fun _ _ _ h=>h) (Or.inl ⟨by rfl,?_⟩) ?_ ?_
       rotate_left
       ·
        intro w';go_simp;with_reducible rfl
       rotate_left
       ·
        simp only[Act.put,sa',sb',sc',i64_w,i32_w];rfl
       refine pure_ (i:=5) (N:=some 18) (v:=?_) (a':=?_) #[true,false,true,true,true,true,false,false,false,false] rfl rfl (any_of HT_.out (by kernel_rfl)) (fun _ _ _ h=>h) (Or.inl ⟨by rfl,?_⟩) ?_ ?_
       rotate_left
       ·
        intro w';go_simp;with_reducible rfl
       rotate_left
       ·
        simp only[Act.put,sa',sb',sc',i64_w,i32_w];rfl
       refine pure_ (i:=6) (N:=some 19) (v:=?_) (a':=?_) #[true,false,true,true,true,true,true,false,false,false] rfl rfl (any_of HT_.out (by kernel_rfl)) (fun _ _ _ h=>h) (Or.inl ⟨by rfl,?_⟩) ?_ ?_
       rotate_left
       ·
        intro w';go_simp;with_reducible rfl
       rotate_left
       ·
        simp only[Act.put,sa',sb',sc',i64_w,i32_w];rfl
       refine join_ (σ:=Value × Nat) 1 #[true,true,true,true,true,true,true,true,true,false] (fun s_=>[(14,s_.1),(5, .pointer (some ⟨s_.2,0,none⟩)),(20, .agg #[s_.1, .bool ((Go.bits .and .i64 (ji10) 1) == 1)])]) (fun s_ w'=>(Kd.R Kd.bool 4 w' w.heap.size (fun _=>True) s_.1 y297)∧(Kd.S k54 54 w' w.heap.size (fun k_=>some k_≠(s_.1:Value).ownBlock∧k_≠s_.2) u3 x3_1)∧(w'.heap[s_.2]? = some (.cells #[.slice none 0 0, .bool false] 54 (0,0)))∧(w.heap.size≤s_.2)∧(w.heap.size≤s_.2)∧(Below w.heap.size w w')) ?_ ?_
       rotate_left
       ·
        intro hCont;refine two_ (i:=1) (j:=8) (Ni:=some 14) (Nj:=some 5) #[true,true,true,true,true,true,true,false,false,false] #[true,false,true,true,true,true,true,false,true,false] rfl rfl rfl rfl (two_of HT_.out (by kernel_rfl)) (by decide) (by decide) (fun K hK=>?_) (fun K hK=>?_)
        ·
         skip
         refine Kd.R_make_step Kd.bool _ 4 (by rfl) (N:=14) rfl 52 _ _ rfl a0 rfl rfl Try.underlying52 (.bool false) 1 info4 rfl (by decide) (by omega) false (ok:=fun _=>True) (okp:=fun _=>True) rfl (fun _ hk=>hk) trivial (of_decide_eq_true (by first|(with_reducible assumption)|assumption)) (Nat.le_trans (Nat.mul_le_mul_right _ (of_decide_eq_true (by first|(with_reducible assumption)|assumption):a0.toNat≤281474976710656)) (by omega)) (Below.refl _ _) (Nat.le_refl _) ?_
         intro v298 w12 ho13 hb hg_ hnew_;clear hg_ hnew_;(first|rw[← Ny297.out] at ho13|(simp only[Int.reduceToNat] at ho13;rw[← Ny297.out] at ho13))
         have n0_:=am' (Kd.S_elder' (by (with_reducible repeat (first|apply Kd.S_alloc|apply Kd.S_drewN|apply Kd.S_drew));exact HO_3.out) (Kd.R_base ho13) hb);have n1_:=am' (Kd.R_lower ho13 (below_size (by repeat (first|(with_reducible first|exact HB.out|apply ba'|apply bd'|apply be')|exact HB.out))));have n2_:=am' (below_step (by repeat (first|(with_reducible first|exact HB.out|apply ba'|apply bd'|apply be')|exact HB.out)) hb);clear HO_3;clear HB;have HO_3:=n0_;have HO299:=n1_;have HB:=n2_;clear n0_ n1_ n2_;clear hb ho13;obtain ⟨Ao14,co14,eo14⟩:=Kd.R_slice HO299.out
         (first|subst eo14|(injection eo14 with f1_ f2_ f3_;have f4_:=f1_.symm;have f5_:=f3_.symm;clear f1_ f2_ f3_;subst f4_;subst f5_))
         refine hK.out _ _ trivial (fun hHeld=>?_);clear hK K;refine norm_ (a':=?_) ?_ ?_
         rotate_left
         ·
          show Act.put _ (some 14) _=_
          simp only[Act.put,sa',sb',sc',i64_w,i32_w];rfl
         refine pure_ (i:=7) (N:=some 20) (v:=?_) (a':=?_) #[true,true,true,true,true,true,true,true,false,false] rfl rfl (any_of HT_.out (by kernel_rfl)) (fun _ _ _ h=>h) (Or.inl ⟨by rfl,?_⟩) ?_ ?_
         rotate_left
         ·
          intro w';go_simp;with_reducible rfl
         rotate_left
         ·
          simp only[Act.put,sa',sb',sc',i64_w,i32_w];rfl
         refine one_ (i:=8) (N:=some 5) #[true,true,true,true,true,true,true,true,true,false] rfl rfl (one_of HT_.out (by kernel_rfl)) (by decide) (fun K hK=>?_);refine box_step ?hg (N:=5) ?hd (cs:=#[.slice none 0 0, .bool false]) (t:=54) ?hr ?_;(case hd=>rfl);(case hg=>rfl);(case hr=>first|(go_simp;done)|(go_simp;rfl))
         intro gb300 hg w15 hbox hb;have n0_:=am' (Kd.S_below (Kd.S_elderB (by (with_reducible repeat (first|apply Kd.S_alloc|apply Kd.S_drewN|apply Kd.S_drew));exact HO_3.out) gb300 (Nat.le_of_eq hg.symm)) hb);have n1_:=am' (Kd.R_below (by (with_reducible repeat (first|apply ra'|apply rn'|apply rw'));exact HO299.out) hb);have n2_:=am' (below_step (by repeat (first|(with_reducible first|exact HB.out|apply ba'|apply bd'|apply be')|exact HB.out)) hb);have n3_:=am' (hbox);have n4_:=am' ((by rw[hg];exact (below_size (by repeat (first|(with_reducible first|exact HB.out|apply ba'|apply bd'|apply be')|exact HB.out))):w.heap.size≤gb300));have n5_:=am' ((by rw[hg];exact (below_size (by repeat (first|(with_reducible first|exact HB.out|apply ba'|apply bd'|apply be')|exact HB.out))):w.heap.size≤gb300));clear HO_3;clear HO299;clear HB;have HO_3:=n0_;have HO299:=n1_;have HB:=n2_;have BK300:=n3_;have GW300:=n4_;have GE300:=n5_;clear n0_ n1_ n2_ n3_ n4_ n5_;clear hb hbox hg;refine hK.out _ _ trivial (fun hHeld=>?_);clear hK K;refine norm_ (a':=?_) ?_ ?_
         rotate_left
         ·
          show Act.put _ (some 5) _=_
          simp only[Act.put,sa',sb',sc',i64_w,i32_w];rfl
         exact norm_ (by simp only[putAll,Act.put,sa',sb',sc']) (hCont (.slice Ao14 y297.length co14,gb300) _ ⟨(by (with_reducible repeat (first|apply ra'|apply rn'|apply rw'));exact HO299.out),(by (with_reducible repeat (first|apply Kd.S_alloc|apply Kd.S_drewN|apply Kd.S_drew));exact Kd.S_mono HO_3.out (fun _ hk=>⟨hk.1.2,hk.2⟩)),(by (with_reducible repeat (first|refine kn' ?_ _|refine kd' ?_|refine ka' ?_ _));exact BK300.out),GW300.out,GE300.out,(by repeat (first|(with_reducible first|exact HB.out|apply ba'|apply bd'|apply be'|refine bs' ?_ GE300.out)|exact HB.out))⟩)
        ·
         skip
         refine box_step ?hg (N:=5) ?hd (cs:=#[.slice none 0 0, .bool false]) (t:=54) ?hr ?_;(case hd=>rfl);(case hg=>rfl);(case hr=>first|(go_simp;done)|(go_simp;rfl))
         intro gb300 hg w12 hbox hb;have n0_:=am' (Kd.S_below (Kd.S_elderB (by (with_reducible repeat (first|apply Kd.S_alloc|apply Kd.S_drewN|apply Kd.S_drew));exact HO_3.out) gb300 (Nat.le_of_eq hg.symm)) hb);have n1_:=am' (below_step (by repeat (first|(with_reducible first|exact HB.out|apply ba'|apply bd'|apply be')|exact HB.out)) hb);have n2_:=am' (hbox);have n3_:=am' ((by rw[hg];exact (below_size (by repeat (first|(with_reducible first|exact HB.out|apply ba'|apply bd'|apply be')|exact HB.out))):w.heap.size≤gb300));have n4_:=am' ((by rw[hg];exact (below_size (by repeat (first|(with_reducible first|exact HB.out|apply ba'|apply bd'|apply be')|exact HB.out))):w.heap.size≤gb300));clear HO_3;clear HB;have HO_3:=n0_;have HB:=n1_;have BK300:=n2_;have GW300:=n3_;have GE300:=n4_;clear n0_ n1_ n2_ n3_ n4_;clear hb hbox hg;refine hK.out _ _ trivial (fun hHeld=>?_);clear hK K;refine norm_ (a':=?_) ?_ ?_
         rotate_left
         ·
          show Act.put _ (some 5) _=_
          simp only[Act.put,sa',sb',sc',i64_w,i32_w];rfl
         refine one_ (i:=1) (N:=some 14) #[true,true,true,true,true,true,true,false,true,false] rfl rfl (one_of HT_.out (by kernel_rfl)) (by decide) (fun K hK=>?_);refine Kd.R_make_step Kd.bool _ 4 (by rfl) (N:=14) rfl 52 _ _ rfl a0 rfl rfl Try.underlying52 (.bool false) 1 info4 rfl (by decide) (by omega) false (ok:=fun _=>True) (okp:=fun _=>True) rfl (fun _ hk=>hk) trivial (of_decide_eq_true (by first|(with_reducible assumption)|assumption)) (Nat.le_trans (Nat.mul_le_mul_right _ (of_decide_eq_true (by first|(with_reducible assumption)|assumption):a0.toNat≤281474976710656)) (by omega)) (Below.refl _ _) (Nat.le_refl _) ?_
         intro v298 w13 ho14 hb hg_ hnew_;clear hg_ hnew_;(first|rw[← Ny297.out] at ho14|(simp only[Int.reduceToNat] at ho14;rw[← Ny297.out] at ho14))
         have n0_:=am' (Kd.S_elder' (by (with_reducible repeat (first|apply Kd.S_alloc|apply Kd.S_drewN|apply Kd.S_drew));exact HO_3.out) (Kd.R_base ho14) hb);have n1_:=am' (Kd.R_lower ho14 (below_size (by repeat (first|(with_reducible first|exact HB.out|apply ba'|apply bd'|apply be'|refine bs' ?_ GE300.out)|exact HB.out))));have n2_:=am' (blk_below (g:=gb300) (o := .cells #[.slice none 0 0, .bool false] 54 (0,0)) (by (with_reducible repeat (first|refine kn' ?_ _|refine kd' ?_|refine ka' ?_ _));exact BK300.out) hb);have n3_:=am' (below_step (by repeat (first|(with_reducible first|exact HB.out|apply ba'|apply bd'|apply be'|refine bs' ?_ GE300.out)|exact HB.out)) hb);clear HO_3;clear BK300;clear HB;have HO_3:=n0_;have HO299:=n1_;have BK300:=n2_;have HB:=n3_;clear n0_ n1_ n2_ n3_;clear hb ho14;obtain ⟨Ao15,co15,eo15⟩:=Kd.R_slice HO299.out
         (first|subst eo15|(injection eo15 with f1_ f2_ f3_;have f4_:=f1_.symm;have f5_:=f3_.symm;clear f1_ f2_ f3_;subst f4_;subst f5_))
         refine hK.out _ _ trivial (fun hHeld=>?_);clear hK K;refine norm_ (a':=?_) ?_ ?_
         rotate_left
         ·
          show Act.put _ (some 14) _=_
          simp only[Act.put,sa',sb',sc',i64_w,i32_w];rfl
         refine pure_ (i:=7) (N:=some 20) (v:=?_) (a':=?_) #[true,true,true,true,true,true,true,true,true,false] rfl rfl (any_of HT_.out (by kernel_rfl)) (fun _ _ _ h=>h) (Or.inl ⟨by rfl,?_⟩) ?_ ?_
         rotate_left
         ·
          intro w';go_simp;with_reducible rfl
         rotate_left
         ·
          simp only[Act.put,sa',sb',sc',i64_w,i32_w];rfl
         exact norm_ (by simp only[putAll,Act.put,sa',sb',sc']) (hCont (.slice Ao15 y297.length co15,gb300) _ ⟨(by (with_reducible repeat (first|apply ra'|apply rn'|apply rw'));exact HO299.out),(by (with_reducible repeat (first|apply Kd.S_alloc|apply Kd.S_drewN|apply Kd.S_drew));exact Kd.S_mono HO_3.out (fun _ hk=>⟨hk.2,hk.1.2⟩)),(by (with_reducible repeat (first|refine kn' ?_ _|refine kd' ?_|refine ka' ?_ _));exact BK300.out),GW300.out,GE300.out,(by repeat (first|(with_reducible first|exact HB.out|apply ba'|apply bd'|apply be'|refine bs' ?_ GE300.out)|exact HB.out))⟩)
       rintro ⟨v298,gb300⟩ w16 ⟨h0_,h1_,h2_,h3_,h4_,h5_⟩
       have n0_:Aside0 (Kd.R Kd.bool 4 w16 w.heap.size (fun _=>True) v298 y297):=⟨h0_⟩
       have n1_:Aside0 (Kd.S k54 54 w16 w.heap.size (fun k_=>some k_≠(v298:Value).ownBlock∧k_≠gb300) u3 x3_1):=⟨h1_⟩
       have n2_:Aside0 (w16.heap[gb300]? = some (.cells #[.slice none 0 0, .bool false] 54 (0,0))):=⟨h2_⟩
       have n3_:Aside0 (w.heap.size≤gb300):=⟨h3_⟩
       have n4_:Aside0 (w.heap.size≤gb300):=⟨h4_⟩
       have n5_:Aside0 (Below w.heap.size w w16):=⟨h5_⟩
       clear HO_3;clear HB;clear h0_ h1_ h2_ h3_ h4_ h5_;have HO299:=n0_;have HO_3:=n1_;have BK300:=n2_;have GW300:=n3_;have GE300:=n4_;have HB:=n5_;clear n0_ n1_ n2_ n3_ n4_ n5_;have hHeld:=trivial;obtain ⟨Ao17,co17,eo17⟩:=Kd.R_slice HO299.out
       (first|subst eo17|(injection eo17 with f1_ f2_ f3_;have f4_:=f1_.symm;have f5_:=f3_.symm;clear f1_ f2_ f3_;subst f4_;subst f5_))
       refine norm_ (a':=?_) ?_ ?_
       rotate_left
       ·
        simp only[putAll,Act.put,sa',sb',sc'];rfl
       refine one_ (i:=9) (N:=none) #[true,true,true,true,true,true,true,true,true,true] rfl rfl (one_of HT_.out (by kernel_rfl)) (by decide) (fun K hK=>?_);have hs18:w16.cell? ⟨gb300,0,none⟩=some (.slice none 0 0):=(blk_cell BK300.out 0).trans rfl;have hfs18:=blk_frozen BK300.out 0;have hs19:w16.cell? ⟨gb300,1,none⟩=some (.bool false):=(blk_cell BK300.out 1).trans rfl;have hfs19:=blk_frozen BK300.out 1;refine skip_ (w1:=?_) (by rfl) rfl ?_ ?_
       rotate_left
       ·
        go_simp;rfl
       refine hK.out _ _ trivial (fun hHeld=>?_);clear hK K;refine done_ (done_of HT_.out (by kernel_rfl)) ?_
       have hcz20_0:w16.cell? ⟨gb300,0,none⟩=some (.slice none 0 0):=(blk_cell BK300.out 0).trans rfl;have hcz20_1:w16.cell? ⟨gb300,1,none⟩=some (.bool false):=(blk_cell BK300.out 1).trans rfl;have hfz20_0:=blk_frozen BK300.out 0;have hfz20_1:=blk_frozen BK300.out 1
       try go_wp2
       go_loopg [24] k1 (fun kq v24 w'=>∃ (x24_2:Int) (x301000_2:List Bool) (u301000:Value),v24 = .int .i64 x24_2∧Aside0 (impl_inOrder.l1 kq a0 x3_1 x10_1 ji3 x10_1 (y297.length:Int) x24_2 x301000_2 ((Go.bits .and .i64 (ji10) 1) == 1)=some r)∧Aside0 (kq≤k1)∧Aside0 (Kd.S k54 54 w' w.heap.size (fun k_=>some k_≠(u301000:Value).ownBlock∧k_≠gb300) u3 x3_1)∧Aside0 (Kd.R Kd.bool 4 w' w.heap.size (fun _=>True) u301000 x301000_2)∧Aside0 (w'.heap[gb300]? = some (.cells #[u301000, .bool ((Go.bits .and .i64 (ji10) 1) == 1)] 54 (0,0)))∧Aside0 (Below w.heap.size w w'))
       case atStart=>exact ⟨(0),(y297),(.slice Ao17 y297.length co17),(by first|rfl|(simp;done)|(simp[*];done)),H',⟨Nat.le_refl _⟩,⟨by (with_reducible repeat (first|apply Kd.S_alloc|apply Kd.S_drewN|apply Kd.S_drew));exact Kd.S_mono (Kd.S_far (p:=⟨gb300,1,none⟩) (Kd.S_far (p:=⟨gb300,0,none⟩) (Kd.S_mono HO_3.out (fun k_ hk=>(⟨hk,hk.2⟩:_∧k_≠gb300))) (fun _ hk=>hk.2) (.slice Ao17 y297.length co17)) (fun _ hk=>hk.2) (.bool ((Go.bits .and .i64 (ji10) 1) == 1))) (fun _ hk=>⟨hk.1.1,hk.1.2⟩)⟩,⟨by (with_reducible repeat (first|apply ra'|apply rn'|apply rw'));exact Kd.R_mono (Kd.R_far (p:=⟨gb300,1,none⟩) (Kd.R_far (p:=⟨gb300,0,none⟩) (Kd.R_types HO299.out BK300.out (by decide)) (fun _ hk=>hk.2) (.slice Ao17 y297.length co17)) (fun _ hk=>hk.2) (.bool ((Go.bits .and .i64 (ji10) 1) == 1))) (fun _ hk=>trivial)⟩,⟨by (with_reducible repeat (first|refine kn' ?_ _|refine kd' ?_|refine ka' ?_ _));refine blk_put (cs:=#[.slice Ao17 y297.length co17, .bool false]) ?_ 1 _ rfl;(with_reducible repeat (first|refine kn' ?_ _|refine kd' ?_|refine ka' ?_ _));refine blk_put (cs:=#[.slice none 0 0, .bool false]) ?_ 0 _ rfl;(with_reducible repeat (first|refine kn' ?_ _|refine kd' ?_|refine ka' ?_ _));exact BK300.out⟩,⟨by repeat (first|(with_reducible first|exact HB.out|apply ba'|apply bd'|apply be'|refine bs' ?_ GE300.out)|exact HB.out)⟩⟩
       case round =>
        clear H';try clear c2
        try clear c2b0
        try clear c2b1
        try clear p2
        try clear c3
        try clear c6
        try clear c6b0
        try clear p6
        try clear c7
        try clear c7b0
        try clear c7b1
        try clear c8
        try clear c8b0
        try clear c8b1
        try clear c9
        try clear c9b0
        try clear hcz20_0
        try clear hcz20_1
        try clear hfz20_0
        try clear hfz20_1
        try clear p2
        obtain ⟨x24_2,x301000_2,u301000,rfl,HA,HK2,HO_3,HO_301000,BK300,HB⟩:=hrel;cases gk with
        | zero=>exact absurd HA.out (by simp[impl_inOrder.l1])
        | succ k2 =>
         have H:=HA.out;clear HA;simp only[impl_inOrder.l1] at H;by_cases c21:x24_2 < (y297.length:Int)
         ·
          rw[if_pos c21] at H;have c21b0:decide (x24_2 < (y297.length:Int))=true:=decide_eq_true c21;clear c21;obtain ⟨ji22,hji22⟩:∃ j_:Int,(wrap64 ((wrap64 (a0 - 1)) - x24_2))=j_:=⟨_,rfl⟩
          replace H:(if 0≤(ji22) then (if 0≤x24_2 then (if x24_2 < (x301000_2.length:Int) then (impl_inOrder.l1 k2 a0 x3_1 x10_1 ji3 x10_1 (y297.length:Int) (wrap64 (x24_2+1)) (x301000_2.set (x24_2:Int).toNat ((Go.bits .and .i64 (shr .i64 x10_1 (ji22)) 1) == 1)) ((Go.bits .and .i64 (ji10) 1) == 1)) else (none)) else (none)) else (none))=some r:=by first|(rw[hji22] at H;exact H)|(simp only[hji22] at H ⊢;exact H)
          have hji22w:(IntKind.i64.wrap ((wrap64 (a0 - 1)) - x24_2))=ji22:=(i64_w _).trans hji22;by_cases c23:0≤(ji22)
          ·
           rw[if_pos c23] at H;have c23b0:=eq_true c23;have c23b1:decide (0≤(ji22))=true:=decide_eq_true c23;clear c23;obtain ⟨ji24,hji24⟩:∃ j_:Int,(shr .i64 x10_1 (ji22))=j_:=⟨_,rfl⟩
           replace H:(if 0≤x24_2 then (if x24_2 < (x301000_2.length:Int) then (impl_inOrder.l1 k2 a0 x3_1 x10_1 ji3 x10_1 (y297.length:Int) (wrap64 (x24_2+1)) (x301000_2.set (x24_2:Int).toNat ((Go.bits .and .i64 (ji24) 1) == 1)) ((Go.bits .and .i64 (ji10) 1) == 1)) else (none)) else (none))=some r:=by first|(rw[hji24] at H;exact H)|(simp only[hji24] at H ⊢;exact H)
           have hji24_:(x10_1 / 2 ^ min (ji22).toNat 64)=ji24:=hji24;have hji24z:(ji22)≤64→(x10_1 / 2 ^ (ji22).toNat)=ji24:=shr_small hji24;by_cases c25:0≤x24_2
           ·
            rw[if_pos c25] at H;have c25b0:decide (0≤x24_2)=true:=decide_eq_true c25;clear c25;by_cases c26:x24_2 < (x301000_2.length:Int)
            ·
             rw[if_pos c26] at H;have c26b0:decide (x24_2 < (x301000_2.length:Int))=true:=decide_eq_true c26;clear c26;obtain ⟨y301,hy301⟩:∃ y_:List Bool,y_=(x301000_2.set (x24_2:Int).toNat ((Go.bits .and .i64 (ji24) 1) == 1)):=⟨_,rfl⟩
             replace H:(impl_inOrder.l1 k2 a0 x3_1 x10_1 ji3 x10_1 (y297.length:Int) (wrap64 (x24_2+1)) y301 ((Go.bits .and .i64 (ji10) 1) == 1))=some r:=by first|(rw[hy301];with_reducible exact H)|(have H2_:=(Option.bind_some _ _).symm.trans H;rw[hy301];with_reducible exact H2_)|(have H2_:=(Option.bind_some _ _).symm.trans H;with_reducible exact H2_)|with_reducible exact H|(rw[hy301];exact H)|exact H
             have Ny301:=am' hy301;clear hy301;have H':=am' H;clear H;try go_wp2
             have n0_:=am' (Kd.S_drew HO_3.out);have n1_:=am' (rw' HO_301000.out);have n2_:=am' (kd' BK300.out);have n3_:=am' (be' HB.out);clear HO_3;clear HO_301000;clear BK300;clear HB;have HO_3:=n0_;have HO_301000:=n1_;have BK300:=n2_;have HB:=n3_;clear n0_ n1_ n2_ n3_;have p27:0≤(x24_2:Int):=of_decide_eq_true (by first|(with_reducible assumption)|assumption);have q27:(x24_2:Int) < ((x301000_2.length:Int):Int):=of_decide_eq_true (by first|(with_reducible assumption)|assumption);obtain ⟨go27,co27,eo27,gb27,gl27,cl27,HG27⟩:=Kd.R_form HO_301000.out (by omega)
             (first|cases eo27|(injection eo27 with ea_ en_ ec_;(first|subst ea_|(injection ea_ with ea_;subst ea_));subst ec_;clear en_))
             have GB27:=am' gb27;have GG27:=am' HG27;clear gb27 gl27 HG27;obtain ⟨hx27_0,hf27_0⟩:=Kd.R_celln false HO_301000.out (x24_2:Int) p27 q27;replace p27:=eq_true p27;replace q27:=eq_true q27;have HP29:=Kd.R_putn HO_301000.out (x24_2:Int) ((Go.bits .and .i64 (ji24) 1) == 1);rw[← Ny301.out] at HP29;have HQ29:=am' HP29;clear HP29;refine start_ (n:=13) (S:=fun w'=>w'.cell? ⟨gb300,0,none⟩=some (.slice (some ⟨go27,0,none⟩) x301000_2.length co27)∧w'.cell? ⟨gb300,1,none⟩=some (.bool ((Go.bits .and .i64 (ji10) 1) == 1))) (ds:=[12]) #[false,false,false,false,false,false,false,false,false,false,false,false,false] (by kernel_rfl) rfl rfl ⟨(blk_cell BK300.out 0).trans rfl,(blk_cell BK300.out 1).trans rfl⟩ (fun hHeld=>?_);refine with_tabW impl_inOrder.tab9 impl_inOrder.bits9 (fun HT_ HW_=>?_);generalize wr.drew=w28 at HO_3 HO_301000 BK300 HB GG27 HQ29 hf27_0 hx27_0 hHeld ⊢
             refine pure_ (i:=0) (N:=some 27) (v:=?_) (a':=?_) #[true,false,false,false,false,false,false,false,false,false,false,false,false] rfl rfl (any_of HT_.out (by kernel_rfl)) (fun _ _ _ h=>h) (Or.inl ⟨by rfl,?_⟩) ?_ ?_
             rotate_left
             ·
              intro w';go_simp;with_reducible rfl
             rotate_left
             ·
              simp only[Act.put,sa',sb',sc',i64_w,i32_w];rfl
             refine pure_ (i:=2) (N:=some 29) (v:=?_) (a':=?_) #[true,false,true,false,false,false,false,false,false,false,false,false,false] rfl rfl (any_of HT_.out (by kernel_rfl)) (fun _ _ _ h=>h) (Or.inl ⟨by rfl,?_⟩) ?_ ?_
             rotate_left
             ·
              intro w';go_simp;with_reducible rfl
             rotate_left
             ·
              simp only[Act.put,sa',sb',sc',i64_w,i32_w];rfl
             refine pure_ (i:=3) (N:=some 30) (v:=?_) (a':=?_) #[true,false,true,true,false,false,false,false,false,false,false,false,false] rfl rfl (any_of HT_.out (by kernel_rfl)) (fun _ _ _ h=>h) (Or.inl ⟨by rfl,?_⟩) ?_ ?_
             rotate_left
             ·
              intro w';go_simp;with_reducible rfl
             rotate_left
             ·
              simp only[Act.put,sa',sb',sc',i64_w,i32_w];rfl
             refine pure_ (i:=4) (N:=some 31) (v:=?_) (a':=?_) #[true,false,true,true,true,false,false,false,false,false,false,false,false] rfl rfl (any_of HT_.out (by kernel_rfl)) (fun _ _ _ h=>h) (Or.inl ⟨by rfl,?_⟩) ?_ ?_
             rotate_left
             ·
              intro w';go_simp;with_reducible rfl
             rotate_left
             ·
              simp only[Act.put,sa',sb',sc',i64_w,i32_w];rfl
             refine pure_ (i:=5) (N:=some 32) (v:=?_) (a':=?_) #[true,false,true,true,true,true,false,false,false,false,false,false,false] rfl rfl (any_of HT_.out (by kernel_rfl)) (fun _ _ _ h=>h) (Or.inl ⟨by rfl,?_⟩) ?_ ?_
             rotate_left
             ·
              intro w';go_simp;with_reducible rfl
             rotate_left
             ·
              simp only[Act.put,sa',sb',sc',i64_w,i32_w];rfl
             refine pure_ (i:=6) (N:=some 33) (v:=?_) (a':=?_) #[true,false,true,true,true,true,true,false,false,false,false,false,false] rfl rfl (any_of HT_.out (by kernel_rfl)) (fun _ _ _ h=>h) (Or.inl ⟨by rfl,?_⟩) ?_ ?_
             rotate_left
             ·
              intro w';go_simp;with_reducible rfl
             rotate_left
             ·
              simp only[Act.put,sa',sb',sc',i64_w,i32_w];rfl
             refine pure_ (i:=7) (N:=some 34) (v:=?_) (a':=?_) #[true,false,true,true,true,true,true,true,false,false,false,false,false] rfl rfl (any_of HT_.out (by kernel_rfl)) (fun _ _ _ h=>h) (Or.inl ⟨by rfl,?_⟩) ?_ ?_
             rotate_left
             ·
              intro w';go_simp;with_reducible rfl
             rotate_left
             ·
              simp only[Act.put,sa',sb',sc',i64_w,i32_w];rfl
             refine pure_ (i:=8) (N:=some 35) (v:=?_) (a':=?_) #[true,false,true,true,true,true,true,true,true,false,false,false,false] rfl rfl (any_of HT_.out (by kernel_rfl)) (fun _ _ _ h=>h) (Or.inl ⟨by rfl,?_⟩) ?_ ?_
             rotate_left
             ·
              intro w';go_simp;with_reducible rfl
             rotate_left
             ·
              simp only[Act.put,sa',sb',sc',i64_w,i32_w];rfl
             refine pure_ (i:=9) (N:=some 36) (v:=?_) (a':=?_) #[true,false,true,true,true,true,true,true,true,true,false,false,false] rfl rfl (any_of HT_.out (by kernel_rfl)) (fun _ _ _ h=>h) (Or.inl ⟨by rfl,?_⟩) ?_ ?_
             rotate_left
             ·
              intro w';go_simp;with_reducible rfl
             rotate_left
             ·
              simp only[Act.put,sa',sb',sc',i64_w,i32_w];rfl
             refine pure_ (i:=10) (N:=some 37) (v:=?_) (a':=?_) #[true,false,true,true,true,true,true,true,true,true,true,false,false] rfl rfl (any_of HT_.out (by kernel_rfl)) (fun _ _ _ h=>h) (Or.inl ⟨by rfl,?_⟩) ?_ ?_
             rotate_left
             ·
              intro w';go_simp;with_reducible rfl
             rotate_left
             ·
              simp only[Act.put,sa',sb',sc',i64_w,i32_w];rfl
             refine take_ (i:=1) (N:=some 28) (v:=?_) (a':=?_) #[true,true,true,true,true,true,true,true,true,true,true,false,false] rfl rfl (take_ofW HT_.out HW_.out (by kernel_rfl)) (fun _ _ _ h=>h) (Or.inl ⟨by rfl,?_⟩) hHeld ?_ ?_
             rotate_left
             ·
              rintro w' ⟨s0,s1⟩
              go_simp;with_reducible rfl
             rotate_left
             ·
              simp only[Act.put,sa',sb',sc',i64_w,i32_w];rfl
             refine pure_ (i:=11) (N:=some 38) (v:=?_) (a':=?_) #[true,true,true,true,true,true,true,true,true,true,true,true,false] rfl rfl (any_of HT_.out (by kernel_rfl)) (fun _ _ _ h=>h) (Or.inl ⟨by rfl,?_⟩) ?_ ?_
             rotate_left
             ·
              intro w';go_simp;with_reducible rfl
             rotate_left
             ·
              simp only[Act.put,sa',sb',sc',i64_w,i32_w];rfl
             refine last_ (i:=12) (N:=none) #[true,true,true,true,true,true,true,true,true,true,true,true,true] rfl rfl (one_of HT_.out (by kernel_rfl)) (by decide) (fun K hK=>?_);refine skip_ (w1:=?_) (by rfl) rfl ?_ ?_
             rotate_left
             ·
              go_simp;rfl
             refine hK.out _ _ ?_
             clear hK K;refine done_ (done_of HT_.out (by kernel_rfl)) ?_
             try go_wp2
             go_roundg k2
             case measure=>have:=HK1.out;have:=HK2.out;omega
             case rel=>exact ⟨(wrap64 (x24_2+1)),(y301),(.slice (some ⟨go27,0,none⟩) x301000_2.length co27),(by first|rfl|(simp;done)|(simp[*];done)),H',⟨by have:=HK1.out;have:=HK2.out;omega⟩,⟨by (with_reducible repeat (first|apply Kd.S_alloc|apply Kd.S_drewN|apply Kd.S_drew));exact Kd.S_mono (Kd.S_far (p:=⟨go27,(x24_2:Int).toNat,none⟩) (Kd.S_mono HO_3.out (fun k_ hk=>(⟨hk,fun e_=>hk.1 (by rw[e_];rfl)⟩:_∧k_≠go27))) (fun _ hk=>hk.2) (.bool ((Go.bits .and .i64 (ji24) 1) == 1))) (fun _ hk=>⟨hk.1.1,hk.1.2⟩)⟩,⟨by (with_reducible repeat (first|apply ra'|apply rn'|apply rw'));exact HQ29.out⟩,⟨by (with_reducible repeat (first|refine kn' ?_ _|refine kd' ?_|refine ka' ?_ _));refine blk_far ?_ (by have h_:=Kd.R_ne HO_301000.out BK300.out (by decide);intro e_;exact h_ (by rw[e_];rfl)) _;(with_reducible repeat (first|refine kn' ?_ _|refine kd' ?_|refine ka' ?_ _));exact BK300.out⟩,⟨by repeat (first|(with_reducible first|exact HB.out|apply ba'|apply bd'|apply be'|refine bs' ?_ GB27.out|refine bs' ?_ GE300.out)|exact HB.out)⟩⟩
            ·
             rw[if_neg c26] at H;exact absurd H (by simp)
           ·
            rw[if_neg c25] at H;exact absurd H (by simp)
          ·
           rw[if_neg c23] at H;exact absurd H (by simp)
         ·
          rw[if_neg c21] at H;have c21b0:decide (x24_2 < (y297.length:Int))=false:=decide_eq_false c21;clear c21;replace H:=Option.bind_eq_some_iff.mp H;obtain ⟨t302,A300,H⟩:=H;replace H:(if t302=true then (if x3_1.length < 4398046511104 then (impl_inOrder.l0 k2 a0 (x3_1 ++ [(⟨x301000_2,((Go.bits .and .i64 (ji10) 1) == 1)⟩:S54)]) ji3 (wrap64 (x10_1+1))) else (none)) else (impl_inOrder.l0 k2 a0 x3_1 ji3 (wrap64 (x10_1+1))))=some r:=H;have A30:=am' A300;clear A300;by_cases c31:t302=true
          ·
           subst c31;have H1:(if x3_1.length < 4398046511104 then (impl_inOrder.l0 k2 a0 (x3_1 ++ [(⟨x301000_2,((Go.bits .and .i64 (ji10) 1) == 1)⟩:S54)]) ji3 (wrap64 (x10_1+1))) else (none))=some r:=by rw[if_pos rfl] at H;exact H
           clear H;have H:=H1;clear H1;by_cases c32:x3_1.length < 4398046511104
           ·
            rw[if_pos c32] at H;have LMc32:=am' c32;clear c32;obtain ⟨y303,hy303⟩:∃ y_:List (S54),y_=(x3_1 ++ [(⟨x301000_2,((Go.bits .and .i64 (ji10) 1) == 1)⟩:S54)]):=⟨_,rfl⟩
            replace H:(impl_inOrder.l0 k2 a0 y303 ji3 (wrap64 (x10_1+1)))=some r:=by first|(rw[hy303];with_reducible exact H)|(have H2_:=(Option.bind_some _ _).symm.trans H;rw[hy303];with_reducible exact H2_)|(have H2_:=(Option.bind_some _ _).symm.trans H;with_reducible exact H2_)|with_reducible exact H|(rw[hy303];exact H)|exact H
            have Ny303:=am' hy303;clear hy303;have H':=am' H;clear H;have hcz33_0:wr.cell? ⟨gb300,0,none⟩=some (u301000):=(blk_cell BK300.out 0).trans rfl;have hcz33_1:wr.cell? ⟨gb300,1,none⟩=some (.bool ((Go.bits .and .i64 (ji10) 1) == 1)):=(blk_cell BK300.out 1).trans rfl;have hfz33_0:=blk_frozen BK300.out 0;have hfz33_1:=blk_frozen BK300.out 1;obtain ⟨Ao34,co34,eo34⟩:=Kd.R_slice HO_301000.out;subst eo34;go_wp2_with (first|((with_reducible refine gate_callee (f:=60) rfl ?_);refine goesL_ (some 42) rfl rfl Try.func60 (by kernel_rfl) rfl #[.int .i64 a0, .agg #[.slice Ao34 x301000_2.length co34, .bool ((Go.bits .and .i64 (ji10) 1) == 1)]] rfl (by (try simp only[List.map_toArray,List.map_cons,List.map_nil]);first|done|(simp only[hji10];rfl)|rfl|(simp only[List.length_drop,List.length_take];rfl)) ?_;(with_reducible refine (impl_isStateOf.calls k2 a0 _ _ x301000_2 ((Go.bits .and .i64 (ji10) 1) == 1) true _ ?side1 ?side2 A30.out).mono ?_);(case side1=>repeat (first|exact (Kd.R_reads' HO_301000.out).2.2|(with_reducible refine ca' ?_ _)|(with_reducible refine cn' ?_ _)|(with_reducible refine cd' ?_)));(case side2=>exact (Kd.R_reads' HO_301000.out).2.1);rintro e w35 ⟨rfl,hb⟩;refine ⟨_,rfl,?_⟩;have n0_:=am' (Kd.S_below (by (with_reducible repeat (first|apply Kd.S_alloc|apply Kd.S_drewN|apply Kd.S_drew));exact HO_3.out) hb);have n1_:=am' (Kd.R_below (by (with_reducible repeat (first|apply ra'|apply rn'|apply rw'));exact HO_301000.out) hb);have n2_:=am' (blk_below (g:=gb300) (o := .cells #[.slice Ao34 x301000_2.length co34, .bool ((Go.bits .and .i64 (ji10) 1) == 1)] 54 (0,0)) (by (with_reducible repeat (first|refine kn' ?_ _|refine kd' ?_|refine ka' ?_ _));exact BK300.out) hb);have n3_:=am' (below_step (by repeat (first|(with_reducible first|exact HB.out|apply ba'|apply bd'|apply be'|refine bs' ?_ GE300.out)|exact HB.out)) hb);clear HO_3;clear HO_301000;clear BK300;clear HB;have HO_3:=n0_;have HO_301000:=n1_;have BK300:=n2_;have HB:=n3_;clear n0_ n1_ n2_ n3_;(try clear hb);(try clear hb2);(try clear hk);(try clear hi);have hcz36_0:w35.cell? ⟨gb300,0,none⟩=some (.slice Ao34 x301000_2.length co34):=(blk_cell BK300.out 0).trans rfl;have hcz36_1:w35.cell? ⟨gb300,1,none⟩=some (.bool ((Go.bits .and .i64 (ji10) 1) == 1)):=(blk_cell BK300.out 1).trans rfl;have hfz36_0:=blk_frozen BK300.out 0;have hfz36_1:=blk_frozen BK300.out 1)|((with_reducible refine gate_builtin (b := .append) (xs:=#[.tmp 43, .tmp 45]) rfl ?_);at_builtin;refine Kd.S_append k54 (w0:=w) w.heap.size rfl (.tmp 43) (.tmp 45) 32 54 (.agg #[(.slice none 0 0),(.bool false)]) 32 rfl Try.underlying32 info54 rfl (by decide) (by omega) u3 x3_1 (⟨x301000_2,((Go.bits .and .i64 (ji10) 1) == 1)⟩:S54) [.slice Ao34 x301000_2.length co34, .bool ((Go.bits .and .i64 (ji10) 1) == 1)] (fun k_=>k_≠gb300) (fun k_=>some k_=(.slice Ao34 x301000_2.length co34:Value).ownBlock) rfl rfl ?aP (fun k_ hk_=>((Kd.R_mono (ok':=fun k_=>((fun k_=>k_≠gb300)) k_∧some k_≠(u3:Value).ownBlock) (Kd.R_types (Kd.R_apart' (HO_301000.out) (Kd.S_typed HO_3.out) (by decide)) BK300.out (by decide)) (fun k_ hk=>⟨hk.2,hk.1.2⟩))).1 k_ hk_.symm) ?aF ?aO ?aB ?aS ?aL ?_;(case aP=>exact k54_mkM _ _ _ (⟨x301000_2,((Go.bits .and .i64 (ji10) 1) == 1)⟩:S54) (Kd.R_mono (Kd.R_tight rfl (Kd.R_mono (ok':=fun k_=>((fun k_=>k_≠gb300)) k_∧some k_≠(u3:Value).ownBlock) (Kd.R_types (Kd.R_apart' (HO_301000.out) (Kd.S_typed HO_3.out) (by decide)) BK300.out (by decide)) (fun k_ hk=>⟨hk.2,hk.1.2⟩))) (fun _ h_=>h_)));(case aB=>exact (by repeat (first|(with_reducible first|exact HB.out|apply ba'|apply bd'|apply be'|refine bs' ?_ GE300.out)|exact HB.out)));(case aF=>exact (fun k_ hk=>Kd.freshB (g:=gb300) (o := .cells #[.slice Ao34 x301000_2.length co34, .bool ((Go.bits .and .i64 (ji10) 1) == 1)] 54 (0,0)) (by (with_reducible repeat (first|refine kn' ?_ _|refine kd' ?_|refine ka' ?_ _));exact BK300.out) k_ hk));(case aO=>exact (by (with_reducible repeat (first|apply Kd.S_alloc|apply Kd.S_drewN|apply Kd.S_drew));exact Kd.S_mono HO_3.out (fun k_ hk=>⟨hk.2,fun e_=>hk.1 e_⟩)));(case aS=>exact (below_size (by repeat (first|(with_reducible first|exact HB.out|apply ba'|apply bd'|apply be'|refine bs' ?_ GE300.out)|exact HB.out))));(case aL=>have:=LMc32.out;omega);intro v304 w37 ho hb hg hat;rw[← Ny303.out] at ho;have n0_:=am' (blk_grown (g:=gb300) (o := .cells #[.slice Ao34 x301000_2.length co34, .bool ((Go.bits .and .i64 (ji10) 1) == 1)] 54 (0,0)) (by (with_reducible repeat (first|refine kn' ?_ _|refine kd' ?_|refine ka' ?_ _));exact BK300.out) hg (Kd.S_away HO_3.out (fun _ hk=>hk.2)));have n1_:=am' (hb);have n2_:=am' (ho);clear BK300;clear HB;clear HO_3;clear HO_301000;have BK300:=n0_;have HB:=n1_;have HO305:=n2_;clear n0_ n1_ n2_;clear ho hb hg hat))
            go_roundg k2
            case measure=>have:=HK1.out;have:=HK2.out;omega
            case rel=>exact ⟨(y303),(wrap64 (x10_1+1)),(by first|rfl|(simp;done)|(simp[*];done)),H',⟨by have:=HK1.out;have:=HK2.out;omega⟩,⟨by (with_reducible repeat (first|apply Kd.S_alloc|apply Kd.S_drewN|apply Kd.S_drew));exact Kd.S_mono HO305.out (fun _ hk=>trivial)⟩,⟨by repeat (first|(with_reducible first|exact HB.out|apply ba'|apply bd'|apply be'|refine bs' ?_ GE300.out)|exact HB.out)⟩⟩
           ·
            rw[if_neg c32] at H;exact absurd H (by simp)
          ·
           replace c31:=Bool.eq_false_iff.mpr c31;subst c31;have H1:(impl_inOrder.l0 k2 a0 x3_1 ji3 (wrap64 (x10_1+1)))=some r:=by rw[if_neg (show ¬ (false=true) by decide)] at H;exact H
           clear H;have H:=H1;clear H1;have H':=am' H;clear H;have hcz38_0:wr.cell? ⟨gb300,0,none⟩=some (u301000):=(blk_cell BK300.out 0).trans rfl;have hcz38_1:wr.cell? ⟨gb300,1,none⟩=some (.bool ((Go.bits .and .i64 (ji10) 1) == 1)):=(blk_cell BK300.out 1).trans rfl;have hfz38_0:=blk_frozen BK300.out 0;have hfz38_1:=blk_frozen BK300.out 1;obtain ⟨Ao39,co39,eo39⟩:=Kd.R_slice HO_301000.out;subst eo39;go_wp2_with (first|((with_reducible refine gate_callee (f:=60) rfl ?_);refine goesL_ (some 42) rfl rfl Try.func60 (by kernel_rfl) rfl #[.int .i64 a0, .agg #[.slice Ao39 x301000_2.length co39, .bool ((Go.bits .and .i64 (ji10) 1) == 1)]] rfl (by (try simp only[List.map_toArray,List.map_cons,List.map_nil]);first|done|(simp only[hji10];rfl)|rfl|(simp only[List.length_drop,List.length_take];rfl)) ?_;(with_reducible refine (impl_isStateOf.calls k2 a0 _ _ x301000_2 ((Go.bits .and .i64 (ji10) 1) == 1) false _ ?side1 ?side2 A30.out).mono ?_);(case side1=>repeat (first|exact (Kd.R_reads' HO_301000.out).2.2|(with_reducible refine ca' ?_ _)|(with_reducible refine cn' ?_ _)|(with_reducible refine cd' ?_)));(case side2=>exact (Kd.R_reads' HO_301000.out).2.1);rintro e w40 ⟨rfl,hb⟩;refine ⟨_,rfl,?_⟩;have n0_:=am' (Kd.S_below (by (with_reducible repeat (first|apply Kd.S_alloc|apply Kd.S_drewN|apply Kd.S_drew));exact HO_3.out) hb);have n1_:=am' (Kd.R_below (by (with_reducible repeat (first|apply ra'|apply rn'|apply rw'));exact HO_301000.out) hb);have n2_:=am' (blk_below (g:=gb300) (o := .cells #[.slice Ao39 x301000_2.length co39, .bool ((Go.bits .and .i64 (ji10) 1) == 1)] 54 (0,0)) (by (with_reducible repeat (first|refine kn' ?_ _|refine kd' ?_|refine ka' ?_ _));exact BK300.out) hb);have n3_:=am' (below_step (by repeat (first|(with_reducible first|exact HB.out|apply ba'|apply bd'|apply be'|refine bs' ?_ GE300.out)|exact HB.out)) hb);clear HO_3;clear HO_301000;clear BK300;clear HB;have HO_3:=n0_;have HO_301000:=n1_;have BK300:=n2_;have HB:=n3_;clear n0_ n1_ n2_ n3_;(try clear hb);(try clear hb2);(try clear hk);(try clear hi)));go_roundg k2
           case measure=>have:=HK1.out;have:=HK2.out;omega
           case rel=>exact ⟨(x3_1),(wrap64 (x10_1+1)),(by first|rfl|(simp;done)|(simp[*];done)),H',⟨by have:=HK1.out;have:=HK2.out;omega⟩,⟨by (with_reducible repeat (first|apply Kd.S_alloc|apply Kd.S_drewN|apply Kd.S_drew));exact Kd.S_mono HO_3.out (fun _ hk=>trivial)⟩,⟨by repeat (first|(with_reducible first|exact HB.out|apply ba'|apply bd'|apply be'|refine bs' ?_ GE300.out)|exact HB.out)⟩⟩
      ·
       rw[if_neg c8] at H;exact absurd H (by simp)
     ·
      rw[if_neg c7] at H;exact absurd H (by simp)
    ·
     rw[if_neg c6] at H;have c6b0:decide (x10_1 < ji3)=false:=decide_eq_false c6;clear c6;obtain rfl:=Option.some.inj H;go_wp2;go_ret
     exact ⟨_,by first|rfl|(simp[errW_none,errW_some] <;> rfl)|(simp only[← hji3];first|rfl|(simp[errW_none,errW_some] <;> rfl))|(simp[*,errW_none,errW_some] <;> rfl),by (with_reducible repeat (first|apply Kd.S_alloc|apply Kd.S_drewN|apply Kd.S_drew));exact HO_3.out,by repeat (first|(with_reducible first|exact HB.out|apply ba'|apply bd'|apply be')|exact HB.out)⟩
 ·
  rw[if_neg c2] at H;exact absurd H (by simp)
end Go.Proofs.Ytihieplobgehaaa.C1
