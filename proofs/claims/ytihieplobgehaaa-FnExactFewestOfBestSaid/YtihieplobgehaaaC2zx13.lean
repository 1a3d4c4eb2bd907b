import Derived.Test.YtihieplobgehaaaC2zx0
import Derived.Test.YtihieplobgehaaaC2zx12
import Derived.Test.YtihieplobgehaaaC2zAl
namespace Go.Proofs.Ytihieplobgehaaa.C2
open Go.RowKit Go.Proofs.YtihieplobgehaaaW.PrintWords Go.Proofs.YtihieplobgehaaaW.PrintLast Go.Proofs.YtihieplobgehaaaW.PrintMore Go.Proofs.Ytihieplobgehaaa.H
attribute [local go_sem] max2_int min2_int max_two min_two max_three min_three max_four min_four
set_option linter.unusedVariables false
set_option linter.unusedSimpArgs false
def impl_State_moved.l0:Nat→List Int→Int→Int→List Bool→Bool→Option (List Bool × Bool)
 | 0,_,_,_,_,_=>none
 | k+1,x15,x16,x17,x370000,x370001=>if x17 < x16 then (if 0≤x17 then (if x17 < (x15.length:Int) then (if 0≤(rd x15 x17) then (if (rd x15 x17) < (x370000.length:Int) then (impl_State_moved.l0 k x15 x16 (wrap64 (x17+1)) (x370000.set ((rd x15 x17):Int).toNat x370001) x370001) else (none)) else (none)) else (none)) else (none)) else (some (x370000,x370001))
def impl_State_moved.f (k:Nat) (l0_0:List Bool) (a0_1:Bool) (l1:List Int):Option (List Bool × Bool):=(slices_Clone_bool_bool.f l0_0).bind fun t366=>(impl_State_moved.l0 k l1 (l1.length:Int) 0 t366 (!a0_1))
def impl_State_moved.T1:Bool × List (List Nat × List Nat):=(true,[([],[]),([0],[0]),([1],[1]),([],[]),([3],[3]),([4],[4]),([2,5],[2,5]),([],[]),([7,6,2,0,1,2,3,4,5,6,7],[6,7])])
def impl_State_moved.B1:List Nat:=[0,1,3,0,8,24,63,0,255]
theorem impl_State_moved.tab1:rtab .any (opsOf Try.f58 1)=impl_State_moved.T1:=by kernel_rfl
theorem impl_State_moved.bits1:waitsOk impl_State_moved.T1.2 impl_State_moved.B1=true:=by kernel_rfl
set_option maxHeartbeats 8000000 in
set_option maxRecDepth 100000 in
theorem impl_State_moved.calls (k:Nat) (A0_0:Option Addr) (c0_0:Nat) (l0_0:List Bool) (a0_1:Bool) (A1:Option Addr) (c1:Nat) (l1:List Int) (r1:List Bool) (r2:Bool) (w:World) (hr0_0:Kd.C Kd.bool w A0_0 l0_0.length l0_0) (hc0_0:l0_0.length≤c0_0) (hr1:Kd.C (Kd.int .i64) w A1 l1.length l1) (hc1:l1.length≤c1) (h:impl_State_moved.f k l0_0 a0_1 l1=some (r1,r2)) :
  Calls Try.prog 58 #[.agg #[.slice A0_0 l0_0.length c0_0, .bool a0_1], .slice A1 l1.length c1] w fun e w'=>∃ v0_:Value,e = .returned (.agg #[v0_, .bool r2])∧Kd.R Kd.bool 4 w' w.heap.size (fun _=>True) v0_ r1∧Below w.heap.size w w':=by
 have hu54:=Try.underlying54
 have HR0_0:=am' hr0_0
 have HC0_0:=am' hc0_0
 clear hr0_0 hc0_0;have HR1:=am' hr1
 have HC1:=am' hc1
 clear hr1 hc1;have HB:=am' (Below.refl w.heap.size w)
 have H:((slices_Clone_bool_bool.f l0_0).bind fun t366=>(impl_State_moved.l0 k l1 (l1.length:Int) 0 t366 (!a0_1)))=some (r1,r2):=h
 clear h;replace H:=Option.bind_eq_some_iff.mp H
 obtain ⟨t366,A30,H⟩:=H
 replace H:(impl_State_moved.l0 k l1 (l1.length:Int) 0 t366 (!a0_1))=some (r1,r2):=H
 have A3:=am' A30
 clear A30;have H':=am' H
 clear H;go_enter Try.func58,Try.ntmps58
 try go_wp2_with (first|((with_reducible refine gate_dst (N:=2) rfl ?_);refine box_event ?hg (N:=2) ?hd (cs:=#[.slice A0_0 l0_0.length c0_0, .bool a0_1]) (t:=54) ?hr ?_;(case hd=>rfl);(case hg=>rfl);(case hr=>first|(go_simp;done)|(go_simp;rfl));intro gb364 hg w4 hbox hb;have n0_:=am' (bt' xb' hb);have n1_:=am' (hbox);have n2_:=am' ((by rw[hg];exact (bz' xb'):w.heap.size≤gb364));have n3_:=am' ((by rw[hg];exact (bz' xb'):w.heap.size≤gb364));clear HB;have HB:=n0_;have BK364:=n1_;have GW364:=n2_;have GE364:=n3_;clear n0_ n1_ n2_ n3_;clear hb hbox hg)|((with_reducible refine gate_dst (N:=4) rfl ?_);refine box_event ?hg (N:=4) ?hd (cs:=#[.slice none 0 0, .bool false]) (t:=54) ?hr ?_;(case hd=>rfl);(case hg=>rfl);(case hr=>first|(go_simp;done)|(go_simp;rfl));intro gb365 hg w5 hbox hb;have n0_:=am' (bb' (g:=gb364) (o := .cells #[.slice A0_0 l0_0.length c0_0, .bool a0_1] 54 (0,0)) (kk' BK364.out) hb);have n1_:=am' (bt' (yb' GE364.out) hb);have n2_:=am' (hbox);have n3_:=am' ((by rw[hg];exact (bz' (yb' GE364.out)):w.heap.size≤gb365));have n4_:=am' ((by rw[hg];exact (bz' (yb' GE364.out)):w.heap.size≤gb365));have n5_:=am' ((by rw[hg];exact Nat.ne_of_lt (blk_lt (g:=gb364) (o := .cells #[.slice A0_0 l0_0.length c0_0, .bool a0_1] 54 (0,0)) (kk' BK364.out)):gb364≠gb365));have n6_:=am' ((by rw[hg];exact Nat.ne_of_gt (blk_lt (g:=gb364) (o := .cells #[.slice A0_0 l0_0.length c0_0, .bool a0_1] 54 (0,0)) (kk' BK364.out)):gb365≠gb364));clear BK364;clear HB;have BK364:=n0_;have HB:=n1_;have BK365:=n2_;have GW365:=n3_;have GE365:=n4_;have NB364_365:=n5_;have NB365_364:=n6_;clear n0_ n1_ n2_ n3_ n4_ n5_ n6_;clear hb hbox hg))
 have n0_:=am' (kd' BK364.out)
 have n1_:=am' (kd' BK365.out)
 have n2_:=am' (be' HB.out)
 clear BK364;clear BK365;clear HB;have BK364:=n0_;have BK365:=n1_;have HB:=n2_;clear n0_ n1_ n2_;refine start_ (n:=9) (S:=fun w'=>w'.cell? ⟨gb364,0,none⟩=some (.slice A0_0 l0_0.length c0_0)∧w'.cell? ⟨gb364,1,none⟩=some (.bool a0_1)) (ds:=[]) #[false,false,false,false,false,false,false,false,false] xk' rfl rfl ⟨(bc' BK364.out 0).trans rfl,(bc' BK364.out 1).trans rfl⟩ (fun hHeld=>?_);refine with_tabW impl_State_moved.tab1 impl_State_moved.bits1 (fun HT_ HW_=>?_)
 generalize w5.drew=w6 at BK364 BK365 HB hHeld ⊢
 refine pure_ (i:=0) (N:=some 8) (v:=?_) (a':=?_) #[true,false,false,false,false,false,false,false,false] rfl rfl (any_of HT_.out xk') (fun _ _ _ h=>h) (Or.inl ⟨by rfl,?_⟩) ?_ ?_
 rotate_left
 ·
  intro w';go_simp;with_reducible rfl
 rotate_left
 ·
  simp only[Act.put,sa',sb',sc',i64_w,i32_w];rfl
 refine pure_ (i:=3) (N:=some 11) (v:=?_) (a':=?_) #[true,false,false,true,false,false,false,false,false] rfl rfl (any_of HT_.out xk') (fun _ _ _ h=>h) (Or.inl ⟨by rfl,?_⟩) ?_ ?_
 rotate_left
 ·
  intro w';go_simp;with_reducible rfl
 rotate_left
 ·
  simp only[Act.put,sa',sb',sc',i64_w,i32_w];rfl
 refine take_ (i:=1) (N:=some 9) (v:=?_) (a':=?_) #[true,true,false,true,false,false,false,false,false] rfl rfl (take_ofW HT_.out HW_.out xk') (fun _ _ _ h=>h) (Or.inl ⟨by rfl,?_⟩) hHeld ?_ ?_
 rotate_left
 ·
  rintro w' ⟨s0,s1⟩
  go_simp;with_reducible rfl
 rotate_left
 ·
  simp only[Act.put,sa',sb',sc',i64_w,i32_w];rfl
 refine take_ (i:=4) (N:=some 12) (v:=?_) (a':=?_) #[true,true,false,true,true,false,false,false,false] rfl rfl (take_ofW HT_.out HW_.out xk') (fun _ _ _ h=>h) (Or.inl ⟨by rfl,?_⟩) hHeld ?_ ?_
 rotate_left
 ·
  rintro w' ⟨s0,s1⟩
  go_simp;with_reducible rfl
 rotate_left
 ·
  simp only[Act.put,sa',sb',sc',i64_w,i32_w];rfl
 refine pure_ (i:=5) (N:=some 13) (v:=?_) (a':=?_) #[true,true,false,true,true,true,false,false,false] rfl rfl (any_of HT_.out xk') (fun _ _ _ h=>h) (Or.inl ⟨by rfl,?_⟩) ?_ ?_
 rotate_left
 ·
  intro w';go_simp;with_reducible rfl
 rotate_left
 ·
  simp only[Act.put,sa',sb',sc',i64_w,i32_w];rfl
 refine join_ (σ:=Value × Nat) 1 #[true,true,true,true,true,true,true,true,false] (fun s_=>[(10,s_.1),(5, .pointer (some ⟨s_.2,0,none⟩)),(14, .agg #[s_.1, .bool (!a0_1)])]) (fun s_ w'=>(w'.cell? ⟨gb364,0,none⟩=some (.slice A0_0 l0_0.length c0_0)∧w'.cell? ⟨gb364,1,none⟩=some (.bool a0_1))∧(Kd.R Kd.bool 4 w' w.heap.size (fun _=>True) s_.1 t366)∧(w'.heap[gb364]? = some (.cells #[.slice A0_0 l0_0.length c0_0, .bool a0_1] 54 (0,0)))∧(w'.heap[gb365]? = some (.cells #[.slice none 0 0, .bool false] 54 (0,0)))∧(w'.heap[s_.2]? = some (.cells #[.slice none 0 0, .bool false] 54 (0,0)))∧(w.heap.size≤s_.2)∧(w.heap.size≤s_.2)∧(gb364≠s_.2)∧(s_.2≠gb364)∧(gb365≠s_.2)∧(s_.2≠gb365)∧(Below w.heap.size w w')) ?_ ?_
 rotate_left
 ·
  intro hCont;refine two_ (i:=2) (j:=7) (Ni:=some 10) (Nj:=some 5) #[true,true,true,true,true,true,false,false,false] #[true,true,false,true,true,true,false,true,false] rfl rfl rfl rfl (two_of HT_.out xk') (by decide) (by decide) (fun K hK=>?_) (fun K hK=>?_)
  ·
   skip
   refine goes_ Try.func70 xk' rfl #[.slice A0_0 l0_0.length c0_0] (by rfl) rfl rfl xl' ?_
   with_reducible refine (slices_Clone_bool_bool.calls _ _ l0_0 t366 _ ?side1 ?side2 A3.out).mono ?_
   (case side1=>exact kc' (cb' HR0_0.out HB.out))
   (case side2=>exact HC0_0.out)
   rintro e w7 ⟨v367,rfl,ho0,hb⟩
   refine ⟨_,rfl,?_⟩;have n0_:=am' (Kd.R_lower ho0 (bz' (y2' GE364.out GE365.out)));have n1_:=am' (bb' (g:=gb364) (o := .cells #[.slice A0_0 l0_0.length c0_0, .bool a0_1] 54 (0,0)) (kk' BK364.out) hb);have n2_:=am' (bb' (g:=gb365) (o := .cells #[.slice none 0 0, .bool false] 54 (0,0)) (kk' BK365.out) hb);have n3_:=am' (bt' (y2' GE364.out GE365.out) hb);clear BK364;clear BK365;clear HB;have HO368:=n0_;have BK364:=n1_;have BK365:=n2_;have HB:=n3_;clear n0_ n1_ n2_ n3_;(try clear hb)
   (try clear hb2)
   (try clear hk)
   (try clear hi)
   (try clear ho0)
   obtain ⟨Ao8,co8,eo8⟩:=Kd.R_slice HO368.out
   (first|subst eo8|(injection eo8 with f1_ f2_ f3_;have f4_:=f1_.symm;have f5_:=f3_.symm;clear f1_ f2_ f3_;subst f4_;subst f5_))
   refine hK.out _ _ ⟨(bc' BK364.out 0).trans rfl,(bc' BK364.out 1).trans rfl⟩ (fun hHeld=>?_);clear hK K;refine norm_ (a':=?_) ?_ ?_
   rotate_left
   ·
    show Act.put _ (some 10) _=_
    simp only[Act.put,sa',sb',sc',i64_w,i32_w];rfl
   refine pure_ (i:=6) (N:=some 14) (v:=?_) (a':=?_) #[true,true,true,true,true,true,true,false,false] rfl rfl (any_of HT_.out xk') (fun _ _ _ h=>h) (Or.inl ⟨by rfl,?_⟩) ?_ ?_
   rotate_left
   ·
    intro w';go_simp;with_reducible rfl
   rotate_left
   ·
    simp only[Act.put,sa',sb',sc',i64_w,i32_w];rfl
   refine one_ (i:=7) (N:=some 5) #[true,true,true,true,true,true,true,true,false] rfl rfl (one_of HT_.out xk') (by decide) (fun K hK=>?_);refine box_step ?hg (N:=5) ?hd (cs:=#[.slice none 0 0, .bool false]) (t:=54) ?hr ?_;(case hd=>rfl);(case hg=>rfl);(case hr=>first|(go_simp;done)|(go_simp;rfl))
   intro gb369 hg w9 hbox hb;have n0_:=am' (rb' (kr' HO368.out) hb);have n1_:=am' (bb' (g:=gb364) (o := .cells #[.slice A0_0 l0_0.length c0_0, .bool a0_1] 54 (0,0)) (kk' BK364.out) hb);have n2_:=am' (bb' (g:=gb365) (o := .cells #[.slice none 0 0, .bool false] 54 (0,0)) (kk' BK365.out) hb);have n3_:=am' (bt' (y2' GE364.out GE365.out) hb);have n4_:=am' (hbox);have n5_:=am' ((by rw[hg];exact (bz' (y2' GE364.out GE365.out)):w.heap.size≤gb369));have n6_:=am' ((by rw[hg];exact (bz' (y2' GE364.out GE365.out)):w.heap.size≤gb369));have n7_:=am' ((by rw[hg];exact Nat.ne_of_lt (blk_lt (g:=gb364) (o := .cells #[.slice A0_0 l0_0.length c0_0, .bool a0_1] 54 (0,0)) (kk' BK364.out)):gb364≠gb369));have n8_:=am' ((by rw[hg];exact Nat.ne_of_gt (blk_lt (g:=gb364) (o := .cells #[.slice A0_0 l0_0.length c0_0, .bool a0_1] 54 (0,0)) (kk' BK364.out)):gb369≠gb364));have n9_:=am' ((by rw[hg];exact Nat.ne_of_lt (blk_lt (g:=gb365) (o := .cells #[.slice none 0 0, .bool false] 54 (0,0)) (kk' BK365.out)):gb365≠gb369));have n10_:=am' ((by rw[hg];exact Nat.ne_of_gt (blk_lt (g:=gb365) (o := .cells #[.slice none 0 0, .bool false] 54 (0,0)) (kk' BK365.out)):gb369≠gb365));clear HO368;clear BK364;clear BK365;clear HB;have HO368:=n0_;have BK364:=n1_;have BK365:=n2_;have HB:=n3_;have BK369:=n4_;have GW369:=n5_;have GE369:=n6_;have NB364_369:=n7_;have NB369_364:=n8_;have NB365_369:=n9_;have NB369_365:=n10_;clear n0_ n1_ n2_ n3_ n4_ n5_ n6_ n7_ n8_ n9_ n10_;clear hb hbox hg;refine hK.out _ _ ⟨(bc' BK364.out 0).trans rfl,(bc' BK364.out 1).trans rfl⟩ (fun hHeld=>?_);clear hK K;refine norm_ (a':=?_) ?_ ?_
   rotate_left
   ·
    show Act.put _ (some 5) _=_
    simp only[Act.put,sa',sb',sc',i64_w,i32_w];rfl
   exact norm_ (by simp only[putAll,Act.put,sa',sb',sc']) (hCont (.slice Ao8 t366.length co8,gb369) _ ⟨hHeld,(kr' HO368.out),(kk' BK364.out),(kk' BK365.out),(kk' BK369.out),GW369.out,GE369.out,NB364_369.out,NB369_364.out,NB365_369.out,NB369_365.out,(y3' GE364.out GE365.out GE369.out)⟩)
  ·
   skip
   refine box_step ?hg (N:=5) ?hd (cs:=#[.slice none 0 0, .bool false]) (t:=54) ?hr ?_;(case hd=>rfl);(case hg=>rfl);(case hr=>first|(go_simp;done)|(go_simp;rfl))
   intro gb369 hg w7 hbox hb;have n0_:=am' (bb' (g:=gb364) (o := .cells #[.slice A0_0 l0_0.length c0_0, .bool a0_1] 54 (0,0)) (kk' BK364.out) hb);have n1_:=am' (bb' (g:=gb365) (o := .cells #[.slice none 0 0, .bool false] 54 (0,0)) (kk' BK365.out) hb);have n2_:=am' (bt' (y2' GE364.out GE365.out) hb);have n3_:=am' (hbox);have n4_:=am' ((by rw[hg];exact (bz' (y2' GE364.out GE365.out)):w.heap.size≤gb369));have n5_:=am' ((by rw[hg];exact (bz' (y2' GE364.out GE365.out)):w.heap.size≤gb369));have n6_:=am' ((by rw[hg];exact Nat.ne_of_lt (blk_lt (g:=gb364) (o := .cells #[.slice A0_0 l0_0.length c0_0, .bool a0_1] 54 (0,0)) (kk' BK364.out)):gb364≠gb369));have n7_:=am' ((by rw[hg];exact Nat.ne_of_gt (blk_lt (g:=gb364) (o := .cells #[.slice A0_0 l0_0.length c0_0, .bool a0_1] 54 (0,0)) (kk' BK364.out)):gb369≠gb364));have n8_:=am' ((by rw[hg];exact Nat.ne_of_lt (blk_lt (g:=gb365) (o := .cells #[.slice none 0 0, .bool false] 54 (0,0)) (kk' BK365.out)):gb365≠gb369));have n9_:=am' ((by rw[hg];exact Nat.ne_of_gt (blk_lt (g:=gb365) (o := .cells #[.slice none 0 0, .bool false] 54 (0,0)) (kk' BK365.out)):gb369≠gb365));clear BK364;clear BK365;clear HB;have BK364:=n0_;have BK365:=n1_;have HB:=n2_;have BK369:=n3_;have GW369:=n4_;have GE369:=n5_;have NB364_369:=n6_;have NB369_364:=n7_;have NB365_369:=n8_;have NB369_365:=n9_;clear n0_ n1_ n2_ n3_ n4_ n5_ n6_ n7_ n8_ n9_;clear hb hbox hg;refine hK.out _ _ ⟨(bc' BK364.out 0).trans rfl,(bc' BK364.out 1).trans rfl⟩ (fun hHeld=>?_);clear hK K;refine norm_ (a':=?_) ?_ ?_
   rotate_left
   ·
    show Act.put _ (some 5) _=_
    simp only[Act.put,sa',sb',sc',i64_w,i32_w];rfl
   refine one_ (i:=2) (N:=some 10) #[true,true,true,true,true,true,false,true,false] rfl rfl (one_of HT_.out xk') (by decide) (fun K hK=>?_);refine goes_ Try.func70 xk' rfl #[.slice A0_0 l0_0.length c0_0] (by rfl) rfl rfl xl' ?_
   with_reducible refine (slices_Clone_bool_bool.calls _ _ l0_0 t366 _ ?side1 ?side2 A3.out).mono ?_
   (case side1=>exact kc' (cb' HR0_0.out HB.out))
   (case side2=>exact HC0_0.out)
   rintro e w8 ⟨v367,rfl,ho0,hb⟩
   refine ⟨_,rfl,?_⟩;have n0_:=am' (Kd.R_lower ho0 (bz' (y3' GE364.out GE365.out GE369.out)));have n1_:=am' (bb' (g:=gb364) (o := .cells #[.slice A0_0 l0_0.length c0_0, .bool a0_1] 54 (0,0)) (kk' BK364.out) hb);have n2_:=am' (bb' (g:=gb365) (o := .cells #[.slice none 0 0, .bool false] 54 (0,0)) (kk' BK365.out) hb);have n3_:=am' (bb' (g:=gb369) (o := .cells #[.slice none 0 0, .bool false] 54 (0,0)) (kk' BK369.out) hb);have n4_:=am' (bt' (y3' GE364.out GE365.out GE369.out) hb);clear BK364;clear BK365;clear BK369;clear HB;have HO368:=n0_;have BK364:=n1_;have BK365:=n2_;have BK369:=n3_;have HB:=n4_;clear n0_ n1_ n2_ n3_ n4_;(try clear hb)
   (try clear hb2)
   (try clear hk)
   (try clear hi)
   (try clear ho0)
   obtain ⟨Ao9,co9,eo9⟩:=Kd.R_slice HO368.out
   (first|subst eo9|(injection eo9 with f1_ f2_ f3_;have f4_:=f1_.symm;have f5_:=f3_.symm;clear f1_ f2_ f3_;subst f4_;subst f5_))
   refine hK.out _ _ ⟨(bc' BK364.out 0).trans rfl,(bc' BK364.out 1).trans rfl⟩ (fun hHeld=>?_);clear hK K;refine norm_ (a':=?_) ?_ ?_
   rotate_left
   ·
    show Act.put _ (some 10) _=_
    simp only[Act.put,sa',sb',sc',i64_w,i32_w];rfl
   refine pure_ (i:=6) (N:=some 14) (v:=?_) (a':=?_) #[true,true,true,true,true,true,true,true,false] rfl rfl (any_of HT_.out xk') (fun _ _ _ h=>h) (Or.inl ⟨by rfl,?_⟩) ?_ ?_
   rotate_left
   ·
    intro w';go_simp;with_reducible rfl
   rotate_left
   ·
    simp only[Act.put,sa',sb',sc',i64_w,i32_w];rfl
   exact norm_ (by simp only[putAll,Act.put,sa',sb',sc']) (hCont (.slice Ao9 t366.length co9,gb369) _ ⟨hHeld,(kr' HO368.out),(kk' BK364.out),(kk' BK365.out),(kk' BK369.out),GW369.out,GE369.out,NB364_369.out,NB369_364.out,NB365_369.out,NB369_365.out,(y3' GE364.out GE365.out GE369.out)⟩)
 rintro ⟨v367,gb369⟩ w10 ⟨hS_,h0_,h1_,h2_,h3_,h4_,h5_,h6_,h7_,h8_,h9_,h10_⟩
 have n0_:Aside0 (Kd.R Kd.bool 4 w10 w.heap.size (fun _=>True) v367 t366):=⟨h0_⟩
 have n1_:Aside0 (w10.heap[gb364]? = some (.cells #[.slice A0_0 l0_0.length c0_0, .bool a0_1] 54 (0,0))):=⟨h1_⟩
 have n2_:Aside0 (w10.heap[gb365]? = some (.cells #[.slice none 0 0, .bool false] 54 (0,0))):=⟨h2_⟩
 have n3_:Aside0 (w10.heap[gb369]? = some (.cells #[.slice none 0 0, .bool false] 54 (0,0))):=⟨h3_⟩
 have n4_:Aside0 (w.heap.size≤gb369):=⟨h4_⟩
 have n5_:Aside0 (w.heap.size≤gb369):=⟨h5_⟩
 have n6_:Aside0 (gb364≠gb369):=⟨h6_⟩
 have n7_:Aside0 (gb369≠gb364):=⟨h7_⟩
 have n8_:Aside0 (gb365≠gb369):=⟨h8_⟩
 have n9_:Aside0 (gb369≠gb365):=⟨h9_⟩
 have n10_:Aside0 (Below w.heap.size w w10):=⟨h10_⟩
 clear BK364;clear BK365;clear HB;clear h0_ h1_ h2_ h3_ h4_ h5_ h6_ h7_ h8_ h9_ h10_;have HO368:=n0_;have BK364:=n1_;have BK365:=n2_;have BK369:=n3_;have GW369:=n4_;have GE369:=n5_;have NB364_369:=n6_;have NB369_364:=n7_;have NB365_369:=n8_;have NB369_365:=n9_;have HB:=n10_;clear n0_ n1_ n2_ n3_ n4_ n5_ n6_ n7_ n8_ n9_ n10_;have hHeld:w10.cell? ⟨gb364,0,none⟩=some (.slice A0_0 l0_0.length c0_0)∧w10.cell? ⟨gb364,1,none⟩=some (.bool a0_1):=hS_
 obtain ⟨Ao11,co11,eo11⟩:=Kd.R_slice HO368.out
 (first|subst eo11|(injection eo11 with f1_ f2_ f3_;have f4_:=f1_.symm;have f5_:=f3_.symm;clear f1_ f2_ f3_;subst f4_;subst f5_))
 refine norm_ (a':=?_) ?_ ?_
 rotate_left
 ·
  simp only[putAll,Act.put,sa',sb',sc'];rfl
 refine one_ (i:=8) (N:=none) #[true,true,true,true,true,true,true,true,true] rfl rfl (one_of HT_.out xk') (by decide) (fun K hK=>?_)
 have hs12:w10.cell? ⟨gb369,0,none⟩=some (.slice none 0 0):=(bc' BK369.out 0).trans rfl
 have hfs12:=bf' BK369.out 0
 have hns12_0:=NB364_369.out
 have hns12_1:=NB365_369.out
 have hms12_0:=NB369_364.out
 have hms12_1:=NB369_365.out
 have hs13:w10.cell? ⟨gb369,1,none⟩=some (.bool false):=(bc' BK369.out 1).trans rfl
 have hfs13:=bf' BK369.out 1
 have hns13_0:=NB364_369.out
 have hns13_1:=NB365_369.out
 have hms13_0:=NB369_364.out
 have hms13_1:=NB369_365.out
 refine skip_ (w1:=?_) (by rfl) rfl ?_ ?_
 rotate_left
 ·
  go_simp;rfl
 refine hK.out _ _ ⟨((cell_far (p:=⟨gb369,_,none⟩) NB364_369.out _).trans (((cell_far (p:=⟨gb369,_,none⟩) NB364_369.out _).trans (hHeld.1)))),((cell_far (p:=⟨gb369,_,none⟩) NB364_369.out _).trans (((cell_far (p:=⟨gb369,_,none⟩) NB364_369.out _).trans (hHeld.2))))⟩ (fun hHeld=>?_)
 clear hK K;refine done_ (done_of HT_.out xk') ?_
 try go_wp2
 go_loopg [17] k (fun kq v17 w'=>∃ (x17_1:Int) (x370000_1:List Bool) (u370000:Value),v17 = .int .i64 x17_1∧Aside0 (impl_State_moved.l0 kq l1 (l1.length:Int) x17_1 x370000_1 (!a0_1)=some (r1,r2))∧Aside0 (kq≤k)∧Aside0 (Kd.R Kd.bool 4 w' w.heap.size (fun _=>True) u370000 x370000_1)∧Aside0 (w'.heap[gb364]? = some (.cells #[(.slice A0_0 l0_0.length c0_0), .bool a0_1] 54 (0,0)))∧Aside0 (w'.heap[gb365]? = some (.cells #[(.slice none 0 0), .bool false] 54 (0,0)))∧Aside0 (w'.heap[gb369]? = some (.cells #[u370000, .bool (!a0_1)] 54 (0,0)))∧Aside0 (Below w.heap.size w w'))
 case atStart=>exact ⟨(0),(t366),(.slice Ao11 t366.length co11),xs',H',⟨Nat.le_refl _⟩,⟨by (with_reducible repeat (first|apply ra'|apply rn'|apply rw'));exact Kd.R_mono (Kd.R_far (p:=⟨gb369,1,none⟩) (Kd.R_far (p:=⟨gb369,0,none⟩) (Kd.R_types HO368.out BK369.out (by decide)) (fun _ hk=>hk.2) (.slice Ao11 t366.length co11)) (fun _ hk=>hk.2) (.bool (!a0_1))) (fun _ hk=>trivial)⟩,⟨by (with_reducible repeat (first|refine kn' ?_ _|refine kd' ?_|refine ka' ?_ _));refine blk_far ?_ NB364_369.out _;(with_reducible repeat (first|refine kn' ?_ _|refine kd' ?_|refine ka' ?_ _));refine blk_far ?_ NB364_369.out _;(with_reducible repeat (first|refine kn' ?_ _|refine kd' ?_|refine ka' ?_ _));exact BK364.out⟩,⟨by (with_reducible repeat (first|refine kn' ?_ _|refine kd' ?_|refine ka' ?_ _));refine blk_far ?_ NB365_369.out _;(with_reducible repeat (first|refine kn' ?_ _|refine kd' ?_|refine ka' ?_ _));refine blk_far ?_ NB365_369.out _;(with_reducible repeat (first|refine kn' ?_ _|refine kd' ?_|refine ka' ?_ _));exact BK365.out⟩,⟨by (with_reducible repeat (first|refine kn' ?_ _|refine kd' ?_|refine ka' ?_ _));refine blk_put (cs:=#[.slice Ao11 t366.length co11, .bool false]) ?_ 1 _ rfl;(with_reducible repeat (first|refine kn' ?_ _|refine kd' ?_|refine ka' ?_ _));refine blk_put (cs:=#[.slice none 0 0, .bool false]) ?_ 0 _ rfl;(with_reducible repeat (first|refine kn' ?_ _|refine kd' ?_|refine ka' ?_ _));exact BK369.out⟩,⟨y3' GE364.out GE365.out GE369.out⟩⟩
 case round =>
  clear H';try clear c1
  try clear p2
  try clear c5
  try clear c7
  obtain ⟨x17_1,x370000_1,u370000,rfl,HA,HK1,HO_370000,BK364,BK365,BK369,HB⟩:=hrel;cases gk with
  | zero=>exact absurd HA.out (by simp[impl_State_moved.l0])
  | succ k1 =>
   have H:=HA.out;clear HA;simp only[impl_State_moved.l0] at H;by_cases c14:x17_1 < (l1.length:Int)
   ·
    rw[if_pos c14] at H;have c14b0:decide (x17_1 < (l1.length:Int))=true:=dt' c14;clear c14;by_cases c15:0≤x17_1
    ·
     rw[if_pos c15] at H;have c15b0:decide (0≤x17_1)=true:=dt' c15;clear c15;by_cases c16:x17_1 < (l1.length:Int)
     ·
      rw[if_pos c16] at H;have c16b0:decide (x17_1 < (l1.length:Int))=true:=dt' c16;clear c16;by_cases c17:0≤(rd l1 x17_1)
      ·
       rw[if_pos c17] at H;have c17b0:decide (0≤(rd l1 x17_1))=true:=dt' c17;clear c17;by_cases c18:(rd l1 x17_1) < (x370000_1.length:Int)
       ·
        rw[if_pos c18] at H;have c18b0:decide ((rd l1 x17_1) < (x370000_1.length:Int))=true:=dt' c18;clear c18;obtain ⟨y371,hy371⟩:∃ y_:List Bool,y_=(x370000_1.set ((rd l1 x17_1):Int).toNat (!a0_1)):=⟨_,rfl⟩
        replace H:(impl_State_moved.l0 k1 l1 (l1.length:Int) (wrap64 (x17_1+1)) y371 (!a0_1))=some (r1,r2):=by first|(rw[hy371];with_reducible exact H)|(have H2_:=(Option.bind_some _ _).symm.trans H;rw[hy371];with_reducible exact H2_)|(have H2_:=(Option.bind_some _ _).symm.trans H;with_reducible exact H2_)|with_reducible exact H|(rw[hy371];exact H)|exact H
        have Ny371:=am' hy371;clear hy371;have H':=am' H;clear H;have p370:0≤(x17_1:Int):=od' xa';have q370:x17_1 < (l1.length:Int):=od' xa';obtain ⟨ad370,e370,hx370_0⟩:=Kd.at_int HR1.out x17_1 p370 q370;cases e370;replace hx370_0:=(HB.out.cell (bl' w _ hx370_0)).trans hx370_0;replace p370:=eq_true p370;replace q370:=eq_true q370;have hnb20:=NB369_364.out;have hnc20:=NB364_369.out;have hnb21:=NB369_365.out;have hnc21:=NB365_369.out;have hcz22_0:wr.cell? ⟨gb369,0,none⟩=some (u370000):=(bc' BK369.out 0).trans rfl;have hcz22_1:wr.cell? ⟨gb369,1,none⟩=some (.bool (!a0_1)):=(bc' BK369.out 1).trans rfl;have hfz22_0:=bf' BK369.out 0;have hfz22_1:=bf' BK369.out 1;have p19:0≤((rd l1 x17_1):Int):=od' xa';have q19:((rd l1 x17_1):Int) < ((x370000_1.length:Int):Int):=od' xa';obtain ⟨go19,co19,eo19,gb19,gl19,cl19,HG19⟩:=Kd.R_form HO_370000.out (by omega)
        (first|cases eo19|(injection eo19 with ea_ en_ ec_;(first|subst ea_|(injection ea_ with ea_;subst ea_));subst ec_;clear en_))
        have GB19:=am' gb19;have GG19:=am' HG19;clear gb19 gl19 HG19;obtain ⟨hx19_0,hf19_0⟩:=Kd.R_celln false HO_370000.out ((rd l1 x17_1):Int) p19 q19;replace p19:=eq_true p19;replace q19:=eq_true q19;have HP23:=Kd.R_putg HO_370000.out ((rd l1 x17_1):Int) (!a0_1);go_wp2_with (first|((with_reducible refine gate_store (t:=4) (p:=26) rfl ?_);refine store_event (t:=4) (p:=26) (v:=?vo_w24) (w1:=(wr.setCell ⟨go19,((rd l1 x17_1):Int).toNat,none⟩ (.bool (!a0_1)))) ?hg ?ho ?hn ?hr ?_;(case ho=>rfl);(case hg=>rfl);(case hn=>rfl);(case hr=>first|(go_simp;done)|(go_simp;rfl));intro w24 hw;have hg:wr.grownBy w24 (some go19):=(by rw[hw];exact HP23.2);have hp_:Kd.R Kd.bool 4 w24 w.heap.size (fun _=>True) (.slice (some ⟨go19,0,none⟩) x370000_1.length co19) y371:=(by rw[hw,Ny371.out];exact HP23.1);clear HP23;have n0_:=am' (hp_);have n1_:=am' (blk_grown (g:=gb364) (o := .cells #[.slice A0_0 l0_0.length c0_0, .bool a0_1] 54 (0,0)) (kk' BK364.out) hg (Kd.R_ne HO_370000.out BK364.out (by decide)));have n2_:=am' (blk_grown (g:=gb365) (o := .cells #[.slice none 0 0, .bool false] 54 (0,0)) (kk' BK365.out) hg (Kd.R_ne HO_370000.out BK365.out (by decide)));have n3_:=am' (blk_grown (g:=gb369) (o := .cells #[.slice (some ⟨go19,0,none⟩) x370000_1.length co19, .bool (!a0_1)] 54 (0,0)) (kk' BK369.out) hg (Kd.R_ne HO_370000.out BK369.out (by decide)));have n4_:=am' ((by rw[hw];exact bs' (HB.out) GB19.out:Below w.heap.size w w24));clear HO_370000;clear BK364;clear BK365;clear BK369;clear HB;have HO_370000:=n0_;have BK364:=n1_;have BK365:=n2_;have BK369:=n3_;have HB:=n4_;clear n0_ n1_ n2_ n3_ n4_;clear hg hw hp_));go_roundg k1
        case measure=>have:=HK1.out;omega
        case rel=>exact ⟨(wrap64 (x17_1+1)),(y371),(.slice (some ⟨go19,0,none⟩) x370000_1.length co19),xs',H',⟨by have:=HK1.out;omega⟩,⟨kr' HO_370000.out⟩,⟨kk' BK364.out⟩,⟨kk' BK365.out⟩,⟨kk' BK369.out⟩,⟨y3' GE364.out GE365.out GE369.out⟩⟩
       ·
        rw[if_neg c18] at H;exact absurd H (by simp)
      ·
       rw[if_neg c17] at H;exact absurd H (by simp)
     ·
      rw[if_neg c16] at H;exact absurd H (by simp)
    ·
     rw[if_neg c15] at H;exact absurd H (by simp)
   ·
    rw[if_neg c14] at H;have c14b0:decide (x17_1 < (l1.length:Int))=false:=df' c14;clear c14;simp only[Option.some.injEq,Prod.mk.injEq] at H;obtain ⟨rfl,rfl⟩:=H;have hnb25:=NB369_364.out;have hnc25:=NB364_369.out;have hnb26:=NB369_365.out;have hnc26:=NB365_369.out;have hcz27_0:wr.cell? ⟨gb369,0,none⟩=some (u370000):=(bc' BK369.out 0).trans rfl;have hcz27_1:wr.cell? ⟨gb369,1,none⟩=some (.bool (!a0_1)):=(bc' BK369.out 1).trans rfl;have hfz27_0:=bf' BK369.out 0;have hfz27_1:=bf' BK369.out 1;obtain ⟨Ao28,co28,eo28⟩:=Kd.R_slice HO_370000.out;subst eo28;have hnb29:=NB365_364.out;have hnc29:=NB364_365.out;have hcz30_0:wr.cell? ⟨gb365,0,none⟩=some (.slice none 0 0):=(bc' BK365.out 0).trans rfl;have hcz30_1:wr.cell? ⟨gb365,1,none⟩=some (.bool false):=(bc' BK365.out 1).trans rfl;have hfz30_0:=bf' BK365.out 0;have hfz30_1:=bf' BK365.out 1;go_wp2;refine bodyPost_ret (results_cell_row rfl _ _ gb365 54 #[.slice Ao28 x370000_1.length co28, .bool (!a0_1)] (0,0) _ rfl (by (with_reducible repeat (first|refine kn' ?_ _|refine kd' ?_|refine ka' ?_ _));refine blk_put (cs:=#[.slice Ao28 x370000_1.length co28, .bool false]) ?_ 1 _ rfl;(with_reducible repeat (first|refine kn' ?_ _|refine kd' ?_|refine ka' ?_ _));refine blk_put (cs:=#[.slice none 0 0, .bool false]) ?_ 0 _ rfl;(with_reducible repeat (first|refine kn' ?_ _|refine kd' ?_|refine ka' ?_ _));exact BK365.out) Try.underlying54 rfl xk') rfl ?_
    exact ⟨_,by first|rfl|(simp[errW_none,errW_some] <;> rfl)|(simp[*,errW_none,errW_some] <;> rfl),by (with_reducible repeat (first|apply ra'|apply rn'|apply rw'));exact Kd.R_mono (Kd.R_far (p:=⟨gb365,1,none⟩) (Kd.R_far (p:=⟨gb365,0,none⟩) (Kd.R_types HO_370000.out BK365.out (by decide)) (fun _ hk=>hk.2) (.slice Ao28 x370000_1.length co28)) (fun _ hk=>hk.2) (.bool (!a0_1))) (fun _ hk=>trivial),y3' GE364.out GE365.out GE369.out⟩
def bits_Mul64.f (a0:Int) (a1:Int):Option (Int × Int):=some (IntKind.u64.wrap ((IntKind.u64.wrap ((IntKind.u64.wrap ((a0 / 4294967296) * (a1 / 4294967296)))+((IntKind.u64.wrap ((IntKind.u64.wrap ((a0 / 4294967296) * (Go.bits .and .u64 a1 4294967295)))+((IntKind.u64.wrap ((Go.bits .and .u64 a0 4294967295) * (Go.bits .and .u64 a1 4294967295))) / 4294967296))) / 4294967296)))+((IntKind.u64.wrap ((Go.bits .and .u64 (IntKind.u64.wrap ((IntKind.u64.wrap ((a0 / 4294967296) * (Go.bits .and .u64 a1 4294967295)))+((IntKind.u64.wrap ((Go.bits .and .u64 a0 4294967295) * (Go.bits .and .u64 a1 4294967295))) / 4294967296))) 4294967295)+(IntKind.u64.wrap ((Go.bits .and .u64 a0 4294967295) * (a1 / 4294967296))))) / 4294967296)),IntKind.u64.wrap (a0 * a1))
set_option maxHeartbeats 8000000 in
set_option maxRecDepth 100000 in
theorem bits_Mul64.calls (a0:Int) (a1:Int) (r1:Int) (r2:Int) (w:World) (h:bits_Mul64.f a0 a1=some (r1,r2)) :
  Calls Try.prog 77 #[.int .u64 a0, .int .u64 a1] w fun e w'=>e = .returned (.tuple #[.int .u64 r1, .int .u64 r2])∧Drawn0 w w':=by
 have H:(some (IntKind.u64.wrap ((IntKind.u64.wrap ((IntKind.u64.wrap ((a0 / 4294967296) * (a1 / 4294967296)))+((IntKind.u64.wrap ((IntKind.u64.wrap ((a0 / 4294967296) * (Go.bits .and .u64 a1 4294967295)))+((IntKind.u64.wrap ((Go.bits .and .u64 a0 4294967295) * (Go.bits .and .u64 a1 4294967295))) / 4294967296))) / 4294967296)))+((IntKind.u64.wrap ((Go.bits .and .u64 (IntKind.u64.wrap ((IntKind.u64.wrap ((a0 / 4294967296) * (Go.bits .and .u64 a1 4294967295)))+((IntKind.u64.wrap ((Go.bits .and .u64 a0 4294967295) * (Go.bits .and .u64 a1 4294967295))) / 4294967296))) 4294967295)+(IntKind.u64.wrap ((Go.bits .and .u64 a0 4294967295) * (a1 / 4294967296))))) / 4294967296)),IntKind.u64.wrap (a0 * a1)))=some (r1,r2):=h
 clear h;simp only[Option.some.injEq,Prod.mk.injEq] at H
 obtain ⟨rfl,rfl⟩:=H
 go_enter Try.func77,Try.ntmps77
 go_wp2
 go_ret2
 exact ⟨xs',by repeat (first|exact Drawn0.refl _|apply Drawn0.step)⟩
def bits_Mul.f (a0:Int) (a1:Int):Option (Int × Int):=(bits_Mul64.f a0 a1).bind fun bt372=>(some (bt372.1,bt372.2))
set_option maxHeartbeats 8000000 in
set_option maxRecDepth 100000 in
theorem bits_Mul.calls (a0:Int) (a1:Int) (r1:Int) (r2:Int) (w:World) (h:bits_Mul.f a0 a1=some (r1,r2)) :
  Calls Try.prog 71 #[.int .u64 a0, .int .u64 a1] w fun e w'=>e = .returned (.tuple #[.int .u64 r1, .int .u64 r2])∧Drawn0 w w':=by
 have H:((bits_Mul64.f a0 a1).bind fun bt372=>(some (bt372.1,bt372.2)))=some (r1,r2):=h
 clear h;replace H:=Option.bind_eq_some_iff.mp H
 obtain ⟨⟨t372,t373⟩,A30,H⟩:=H
 replace H:(some (t372,t373))=some (r1,r2):=H
 have A3:=am' A30
 clear A30;simp only[Option.some.injEq,Prod.mk.injEq] at H
 obtain ⟨rfl,rfl⟩:=H
 go_enter Try.func71,Try.ntmps71
 go_wp2_with (first|((with_reducible refine gate_callee (f:=77) rfl ?_);refine goesL_ (some 25) rfl rfl Try.func77 xk' rfl #[.int .u64 a0, .int .u64 a1] rfl xl' ?_;(with_reducible refine (bits_Mul64.calls a0 a1 t372 t373 _ A3.out).mono ?_);rintro e w' ⟨rfl,⟨nd,rfl⟩⟩;refine ⟨_,rfl,?_⟩))
 go_ret2
 exact ⟨xs',by repeat (first|exact Drawn0.refl _|apply Drawn0.step)⟩
set_option maxRecDepth 100000 in
theorem mulOneI (m:Nat) (h:m≤1024):bits_Mul.f 1 (m:Int)=some (0,(m:Int)):=by
 have e:((List.range 1025).all fun m:Nat=>decide (bits_Mul.f 1 (m:Int)=some (0,(m:Int))))=true:=by decide +kernel
 exact od' (List.all_eq_true.1 e m (by rw[List.mem_range];omega))
theorem splice_repI (n m:Nat) (v z:Value) (q:Nat) (hq:n+q≤m):splice (List.replicate n v ++ List.replicate (m - n) z) n (List.replicate q v)=List.replicate (n+q) v ++ List.replicate (m - (n+q)) z:=by
 unfold splice
 have e1:(List.replicate n v ++ List.replicate (m - n) z).take n=List.replicate n v:=by simp
 have e2:(List.replicate n v ++ List.replicate (m - n) z).drop (n+(List.replicate q v).length)=List.replicate (m - (n+q)) z:=by
  rw[List.length_replicate,List.drop_append,List.length_replicate,List.drop_replicate,List.drop_replicate];have a1:n - (n+q)=0:=by omega
  have a2:m - n - (n+q - n)=m - (n+q):=by omega
  rw[a1,a2];rfl
 rw[e1,e2,← List.append_assoc,List.replicate_append_replicate]
theorem made_repI (z:Value) (m:Nat):madeCells #[z] m=(List.replicate m z).toArray:=by
 apply Array.ext
 ·
  simp[madeCells]
 ·
  intro i h1 h2;simp[madeCells,Nat.mod_one]
theorem rep_oneI (n:Nat) (b:Int):∀ u ∈ List.replicate n (Value.int .i64 b),u.oneCell'=true:=fun u hu=>by rw[List.eq_of_mem_replicate hu];rfl
theorem rep_cellsI {w w1:World} {ad:Addr} {v:Value} (hx:w.cell? (ad.add 0)=some v) (m:Nat) (hb:Below w.heap.size w w1) (o:Obj):∀ j u,(List.replicate (min 1 m) v)[j]? = some u→(w1.alloc o).cell? (ad.add j)=some u:=by
 intro j u hu;have hb2:Below w.heap.size w (w1.alloc o):=ba' hb o
 have hj:j < min 1 m:=by have:=(List.getElem?_eq_some_iff.1 hu).1;simpa using this
 obtain rfl:j=0:=by omega
 rw[List.getElem?_replicate,if_pos hj] at hu
 cases hu
 exact (hb2.cell (bl' w _ hx)).trans hx
theorem rep_firstI {w:World} {g m t:Nat} {v z:Value} (h:w.heap[g]? = some (.cells (splice (List.replicate m z) 0 (List.replicate (min 1 m) v)).toArray t (0,0))):w.heap[g]? = some (.cells (List.replicate (min 1 m) v ++ List.replicate (m - min 1 m) z).toArray t (0,0)):=by
 have:=splice_repI 0 m v z (min 1 m) (by omega)
 simp only[List.replicate_zero,List.nil_append,Nat.sub_zero,Nat.zero_add] at this
 rwa [this] at h
theorem rep_nextI {w:World} {g m n t:Nat} {v z:Value} (h:w.heap[g]? = some (.cells (splice (List.replicate n v ++ List.replicate (m - n) z) n (List.replicate (min n (m - n)) v)).toArray t (0,0))) (hn:n≤m:=by omega):w.heap[g]? = some (.cells (List.replicate (n+min n (m - n)) v ++ List.replicate (m - (n+min n (m - n))) z).toArray t (0,0)):=by
 rwa [splice_repI n m v z _ (by omega)] at h
theorem rep_selfI {w:World} {g m n t:Nat} {v z:Value} (h:w.heap[g]? = some (.cells (List.replicate n v ++ List.replicate (m - n) z).toArray t (0,0))) (hn:n≤m):∀ j u,(List.replicate (min n (m - n)) v)[j]? = some u→w.cell? ((⟨g,0,none⟩:Addr).add j)=some u:=by
 intro j u hu;have hj:j < min n (m - n):=by have:=(List.getElem?_eq_some_iff.1 hu).1;simpa using this
 rw[List.getElem?_replicate,if_pos hj] at hu
 cases hu
 have ha:(⟨g,0,none⟩:Addr).add j=⟨g,j,none⟩:=by unfold Addr.add;split <;> simp_all
 rw[ha,bc' h j,List.getElem?_toArray,List.getElem?_append_left (by simp;omega),List.getElem?_replicate,if_pos (by omega)]
theorem rep_rowI {w:World} {base m:Nat} {v:Int} (hm:m≤1024) (h:w.heap[base]? = some (.cells (List.replicate m (Value.int .i64 v) ++ List.replicate (m - m) (Value.int .i64 0)).toArray 3 (0,0))):Kd.R (Kd.int .i64) 3 w base (fun _=>True) (.slice (some ⟨base,0,none⟩) m m) (List.replicate m v):=by
 refine Kd.R_of_own ?_ (fun _ _=>trivial)
 refine ⟨by simp[encs], .inr ⟨base,m,_,by simp,Nat.le_refl _,h,by simp,by unfold maxLen;omega,by simp,?_⟩⟩
 simp[encs]
set_option maxHeartbeats 4000000 in
set_option maxRecDepth 100000 in
theorem repeat_callsI (A0:Option Addr) (c0:Nat) (v:Int) (m:Nat) (hm:m≤1024) (w:World) (hr0:Kd.C (Kd.int .i64) w A0 1 [v]) :
  Calls Try.prog 59 #[.slice A0 1 c0, .int .i64 (m:Int)] w fun e w'=>∃ v0_:Value,e = .returned (v0_)∧Kd.R (Kd.int .i64) 3 w' w.heap.size (fun _=>True) v0_ (List.replicate m v)∧Below w.heap.size w w':=by
 obtain ⟨ad,rfl,hx0⟩:=Kd.at_int hr0 0 (by omega) (by omega)
 have hx:w.cell? (ad.add 0)=some (.int .i64 v):=by simpa [rd] using hx0
 have hinfo:(Try.prog.info? 3).map (fun i=>(i.zero,i.size,i.bytes))=some (some (.int .i64 0),1,8):=by kernel_rfl
 have hsz1:(Try.prog.info? 3).map (·.size)=some 1:=by kernel_rfl
 have hmul:=mulOneI m hm
 have hmk:=fun W:World=>run_make_row' (P:=Try.prog) 22 3 (.int .i64 0) 8 Try.underlying22 hinfo rfl .i64 .i64 m (by omega) (by omega) W
 rw[made_repI (.int .i64 0) m] at hmk
 have HX:=am' hx
 have HI:=am' hsz1
 have HM:=am' hmul
 clear hr0 hx0 hx hinfo hsz1 hmul;have hm0:(0:Int)≤(m:Int):=by omega
 have hm8:(m:Int)≤1024:=by omega
 go_enter Try.func59,Try.ntmps59
 go_wp2_with (first|(go_at_call 71;refine (bits_Mul.calls 1 m 0 m _ HM.out).mono ?_;rintro e w' ⟨rfl,⟨nd,rfl⟩⟩)|((with_reducible refine gate_builtin (b := .copy) (xs:=#[.tmp 31, .tmp 32]) rfl ?_);refine wpList_copy_splice rfl (.tmp 31) (.tmp 32) 22 22 rfl 3 Try.underlying22 HI.out (some ⟨w.heap.size,0,none⟩) (some ad) m m 1 c0 rfl rfl w.heap.size 0 (List.replicate m (.int .i64 0)) 3 ?hg1 (List.replicate (min 1 m) (.int .i64 v)) ?hn1 ?hp1 ?hf1 ?ho1 w.heap.size w ?hb1 (Nat.le_refl _) ?_;(case hg1=>exact heap_alloc_new (w.drewN nd) _);(case hn1=>simp [Nat.min_def]);(case hp1=>exact fun hp=>⟨rfl,ad,rfl,rep_cellsI HX.out m (bd' (Below.refl _ _) nd) _⟩);(case hf1=>simp;omega);(case ho1=>exact rep_oneI _ _);(case hb1=>exact ba' (bd' (Below.refl _ _) nd) _);intro w1 hc1 hb1;have HC1:=am' (rep_firstI hc1.out);have HB1:=am' hb1;clear hc1 hb1))
 go_loopg [8] m (fun gg s8 wr=>∃ n:Nat,s8 = .int .i64 (n:Int)∧min 1 m≤n∧n≤m∧m - n≤gg∧Aside0 (wr.heap[w.heap.size]? = some (.cells (List.replicate n (Value.int .i64 v) ++ List.replicate (m - n) (Value.int .i64 0)).toArray 3 (0,0)))∧Aside0 (Below w.heap.size w wr))
 case atStart=>exact ⟨min 1 m,by simp,Nat.le_refl _,Nat.min_le_right _ _,by omega,HC1,HB1⟩
 case round =>
  obtain ⟨n,rfl,h1n,hnm,hng,HC,HB⟩:=hrel;clear HC1 HB1;by_cases hlt:n < m
  ·
   have d0:decide ((n:Int) < (m:Int))=true:=by simp;omega
   have q0:(0≤(n:Int))=True:=by simp
   have q1:((n:Int)≤(m:Int))=True:=by simp;omega
   go_wp2;go_region_law (refine step_copy_splice rfl (.tmp 41) (.tmp 44) 22 22 rfl 3 Try.underlying22 HI.out (some ⟨w.heap.size,n,none⟩) (some ⟨w.heap.size,0,none⟩) (m - n) (m - n) n m ?hd ?hs w.heap.size n (List.replicate n (Value.int .i64 v) ++ List.replicate (m - n) (Value.int .i64 0)) 3 ?hg1 (List.replicate (min n (m - n)) (Value.int .i64 v)) ?hn1 ?hp1 ?hf1 (rep_oneI _ _) w.heap.size w ?hb1 (Nat.le_refl _) ?_;(case hd=>go_simp;omega);(case hs=>go_simp);(case hg1=>exact HC.out);(case hn1=>simp [Nat.min_def]);(case hp1=>exact fun hp=>⟨rfl,_,rfl,rep_selfI HC.out hnm⟩);(case hf1=>simp;omega);(case hb1=>exact bd' HB.out 1);intro w1 hc1 hb1;have HC1:=am' (rep_nextI hc1.out);have HB1:=am' hb1;clear hc1 hb1)
   go_wp2;go_roundg (m - (n+min n (m - n)))
   case measure=>omega
   case rel=>exact ⟨n+min n (m - n),by (show Value.int _ _=Value.int _ _);congr 1;exact (i64_w _).trans ((wr_id (a:=(n:Int)+(min n (m - n):Nat)) (by omega) (by omega)).trans (Int.natCast_add _ _).symm),by omega,by omega,by omega,HC1,HB1⟩
  ·
   have d0:decide ((n:Int) < (m:Int))=false:=by simp;omega
   go_wp2;go_ret
   obtain rfl:n=m:=by omega
   refine ⟨_,rfl,?_,HB.out⟩;exact rep_rowI hm HC.out
end Go.Proofs.Ytihieplobgehaaa.C2
