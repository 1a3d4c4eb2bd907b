import Derived.Test.YtabhhkiipilghaaC2zx0
import Derived.Test.YtabhhkiipilghaaC2zx1
import Derived.Test.YtabhhkiipilghaaC2zx2
import Derived.Test.YtabhhkiipilghaaC2zAl
namespace Go.Proofs.Ytabhhkiipilghaa.C2
open Go.RowKit Go.Proofs.YtabhhkiipilghaaW.PrintWords Go.Proofs.YtabhhkiipilghaaW.PrintLast Go.Proofs.YtabhhkiipilghaaW.PrintMore Go.Proofs.Ytabhhkiipilghaa.H
attribute [local go_sem] max2_int min2_int max_two min_two max_three min_three max_four min_four
set_option linter.unusedVariables false
set_option linter.unusedSimpArgs false
def impl_State_moved.l0:Nat→List Int→Int→Int→List Bool→Bool→Option (List Bool × Bool)
 | 0,_,_,_,_,_=>none
 | k+1,x15,x16,x17,x140000,x140001=>if x17 < x16 then (if 0≤x17 then (if x17 < (x15.length:Int) then (if 0≤(rd x15 x17) then (if (rd x15 x17) < (x140000.length:Int) then (impl_State_moved.l0 k x15 x16 (wrap64 (x17+1)) (x140000.set ((rd x15 x17):Int).toNat x140001) x140001) else (none)) else (none)) else (none)) else (none)) else (some (x140000,x140001))
def impl_State_moved.f (k:Nat) (l0_0:List Bool) (a0_1:Bool) (l1:List Int):Option (List Bool × Bool):=(slices_Clone_bool_bool.f l0_0).bind fun t136=>(impl_State_moved.l0 k l1 (l1.length:Int) 0 t136 (!a0_1))
theorem impl_State_moved.mono_l:∀ k,(∀ y0 y1 y2 y3 y4,LeO (impl_State_moved.l0 k y0 y1 y2 y3 y4) (impl_State_moved.l0 (k+1) y0 y1 y2 y3 y4))
 | 0=>fun _ _ _ _ _ r h=>by simp[impl_State_moved.l0] at h
 | k+1=>by
  have ih0:=impl_State_moved.mono_l k
  ·
   intro y0 y1 y2 y3 y4;unfold impl_State_moved.l0
   repeat' first
   | (with_reducible exact ih0 _ _ _ _ _)
   | (with_reducible exact LeO.refl _)
   | (with_reducible exact LeO.none _)
   | (with_reducible refine LeO.ite ?_ ?_)
   | (with_reducible refine LeO.bind ?_ (fun _=>?_))
   | exact ih0 _ _ _ _ _
   | exact LeO.none _
   | refine LeO.ite ?_ ?_
   | refine LeO.bind ?_ (fun _=>?_)
theorem impl_State_moved.mono:∀ a0 a1 a2 k,LeO (impl_State_moved.f k a0 a1 a2) (impl_State_moved.f (k+1) a0 a1 a2):=by
 intro a0 a1 a2 k;have ih0:=impl_State_moved.mono_l k
 unfold impl_State_moved.f
 repeat' first
   | (with_reducible exact ih0 _ _ _ _ _)
   | (with_reducible exact LeO.refl _)
   | (with_reducible exact LeO.none _)
   | (with_reducible refine LeO.ite ?_ ?_)
   | (with_reducible refine LeO.bind ?_ (fun _=>?_))
   | exact ih0 _ _ _ _ _
   | exact LeO.none _
   | refine LeO.ite ?_ ?_
   | refine LeO.bind ?_ (fun _=>?_)
def impl_State_moved.T1:Bool × List (List Nat × List Nat):=(true,[([],[]),([0],[0]),([1],[1]),([],[]),([3],[3]),([4],[4]),([2,5],[2,5]),([],[]),([7,6,2,0,1,2,3,4,5,6,7],[6,7])])
def impl_State_moved.B1:List Nat:=[0,1,3,0,8,24,63,0,255]
theorem impl_State_moved.tab1:rtab .any (opsOf Try.f50 1)=impl_State_moved.T1:=by kernel_rfl
theorem impl_State_moved.bits1:waitsOk impl_State_moved.T1.2 impl_State_moved.B1=true:=by kernel_rfl
set_option maxHeartbeats 8000000 in
set_option maxRecDepth 100000 in
theorem impl_State_moved.calls (k:Nat) (A0_0:Option Addr) (c0_0:Nat) (l0_0:List Bool) (a0_1:Bool) (A1:Option Addr) (c1:Nat) (l1:List Int) (r1:List Bool) (r2:Bool) (w:World) (hr0_0:Kd.C Kd.bool w A0_0 l0_0.length l0_0) (hc0_0:l0_0.length≤c0_0) (hr1:Kd.C (Kd.int .i64) w A1 l1.length l1) (hc1:l1.length≤c1) (h:impl_State_moved.f k l0_0 a0_1 l1=some (r1,r2)) :
  Calls Try.prog 50 #[.agg #[.slice A0_0 l0_0.length c0_0, .bool a0_1], .slice A1 l1.length c1] w fun e w'=>∃ v0_:Value,e = .returned (.agg #[v0_, .bool r2])∧Kd.R Kd.bool 4 w' w.heap.size (fun _=>True) v0_ r1∧Below w.heap.size w w':=by
 have hu35:=Try.underlying35
 have HR0_0:=am' hr0_0
 have HC0_0:=am' hc0_0
 clear hr0_0 hc0_0;have HR1:=am' hr1
 have HC1:=am' hc1
 clear hr1 hc1;have HB:=am' (Below.refl w.heap.size w)
 have H:((slices_Clone_bool_bool.f l0_0).bind fun t136=>(impl_State_moved.l0 k l1 (l1.length:Int) 0 t136 (!a0_1)))=some (r1,r2):=h
 clear h;replace H:=Option.bind_eq_some_iff.mp H
 obtain ⟨t136,A30,H⟩:=H
 replace H:(impl_State_moved.l0 k l1 (l1.length:Int) 0 t136 (!a0_1))=some (r1,r2):=H
 have A3:=am' A30
 clear A30;have H':=am' H
 clear H;go_enter Try.func50,Try.ntmps50
 try go_wp2_with (first|((with_reducible refine gate_dst (N:=2) rfl ?_);refine box_event ?hg (N:=2) ?hd (cs:=#[.slice A0_0 l0_0.length c0_0, .bool a0_1]) (t:=35) ?hr ?_;(case hd=>rfl);(case hg=>rfl);(case hr=>first|(go_simp;done)|(go_simp;rfl));intro gb134 hg w4 hbox hb;have n0_:=am' (bt' xb' hb);have n1_:=am' (hbox);have n2_:=am' ((by rw[hg];exact (bz' xb'):w.heap.size≤gb134));have n3_:=am' ((by rw[hg];exact (bz' xb'):w.heap.size≤gb134));clear HB;have HB:=n0_;have BK134:=n1_;have GW134:=n2_;have GE134:=n3_;clear n0_ n1_ n2_ n3_;clear hb hbox hg)|((with_reducible refine gate_dst (N:=4) rfl ?_);refine box_event ?hg (N:=4) ?hd (cs:=#[.slice none 0 0, .bool false]) (t:=35) ?hr ?_;(case hd=>rfl);(case hg=>rfl);(case hr=>first|(go_simp;done)|(go_simp;rfl));intro gb135 hg w5 hbox hb;have n0_:=am' (bb' (g:=gb134) (o := .cells #[.slice A0_0 l0_0.length c0_0, .bool a0_1] 35 (0,0)) (kk' BK134.out) hb);have n1_:=am' (bt' (yb' GE134.out) hb);have n2_:=am' (hbox);have n3_:=am' ((by rw[hg];exact (bz' (yb' GE134.out)):w.heap.size≤gb135));have n4_:=am' ((by rw[hg];exact (bz' (yb' GE134.out)):w.heap.size≤gb135));have n5_:=am' ((by rw[hg];exact Nat.ne_of_lt (blk_lt (g:=gb134) (o := .cells #[.slice A0_0 l0_0.length c0_0, .bool a0_1] 35 (0,0)) (kk' BK134.out)):gb134≠gb135));have n6_:=am' ((by rw[hg];exact Nat.ne_of_gt (blk_lt (g:=gb134) (o := .cells #[.slice A0_0 l0_0.length c0_0, .bool a0_1] 35 (0,0)) (kk' BK134.out)):gb135≠gb134));clear BK134;clear HB;have BK134:=n0_;have HB:=n1_;have BK135:=n2_;have GW135:=n3_;have GE135:=n4_;have NB134_135:=n5_;have NB135_134:=n6_;clear n0_ n1_ n2_ n3_ n4_ n5_ n6_;clear hb hbox hg))
 have n0_:=am' (kd' BK134.out)
 have n1_:=am' (kd' BK135.out)
 have n2_:=am' (be' HB.out)
 clear BK134;clear BK135;clear HB;have BK134:=n0_;have BK135:=n1_;have HB:=n2_;clear n0_ n1_ n2_;refine start_ (n:=9) (S:=fun w'=>w'.cell? ⟨gb134,0,none⟩=some (.slice A0_0 l0_0.length c0_0)∧w'.cell? ⟨gb134,1,none⟩=some (.bool a0_1)) (ds:=[]) #[false,false,false,false,false,false,false,false,false] xk' rfl rfl ⟨(bc' BK134.out 0).trans rfl,(bc' BK134.out 1).trans rfl⟩ (fun hHeld=>?_);refine with_tabW impl_State_moved.tab1 impl_State_moved.bits1 (fun HT_ HW_=>?_)
 generalize w5.drew=w6 at BK134 BK135 HB hHeld ⊢
 refine pure_ (i:=0) (N:=some 8) (v:=?_) (a':=?_) #[true,false,false,false,false,false,false,false,false] rfl rfl (any_of HT_.out xk') (fun _ _ _ h=>h) (Or.inl ⟨by rfl,?_⟩) ?_ ?_
 rotate_left
 ·
  intro w';go_simp;with_reducible rfl
 rotate_left
 ·
  simp only[Act.put,sa',sb',sc',i64_w,i32_w];rfl
 refine pure_ (i:=3) (N:=some 11) (v:=?_) (a':=?_) #[true,false,false,true,false,false,false,false,false] rfl rfl (any_of HT_.out xk') (fun _ _ _ h=>h) (Or.inl ⟨by rfl,?_⟩) ?_ ?_
 rotate_left
 ·
  intro w';go_simp;with_reducible rfl
 rotate_left
 ·
  simp only[Act.put,sa',sb',sc',i64_w,i32_w];rfl
 refine take_ (i:=1) (N:=some 9) (v:=?_) (a':=?_) #[true,true,false,true,false,false,false,false,false] rfl rfl (take_ofW HT_.out HW_.out xk') (fun _ _ _ h=>h) (Or.inl ⟨by rfl,?_⟩) hHeld ?_ ?_
 rotate_left
 ·
  rintro w' ⟨s0,s1⟩
  go_simp;with_reducible rfl
 rotate_left
 ·
  simp only[Act.put,sa',sb',sc',i64_w,i32_w];rfl
 refine take_ (i:=4) (N:=some 12) (v:=?_) (a':=?_) #[true,true,false,true,true,false,false,false,false] rfl rfl (take_ofW HT_.out HW_.out xk') (fun _ _ _ h=>h) (Or.inl ⟨by rfl,?_⟩) hHeld ?_ ?_
 rotate_left
 ·
  rintro w' ⟨s0,s1⟩
  go_simp;with_reducible rfl
 rotate_left
 ·
  simp only[Act.put,sa',sb',sc',i64_w,i32_w];rfl
 refine pure_ (i:=5) (N:=some 13) (v:=?_) (a':=?_) #[true,true,false,true,true,true,false,false,false] rfl rfl (any_of HT_.out xk') (fun _ _ _ h=>h) (Or.inl ⟨by rfl,?_⟩) ?_ ?_
 rotate_left
 ·
  intro w';go_simp;with_reducible rfl
 rotate_left
 ·
  simp only[Act.put,sa',sb',sc',i64_w,i32_w];rfl
 refine join_ (σ:=Value × Nat) 1 #[true,true,true,true,true,true,true,true,false] (fun s_=>[(10,s_.1),(5, .pointer (some ⟨s_.2,0,none⟩)),(14, .agg #[s_.1, .bool (!a0_1)])]) (fun s_ w'=>(w'.cell? ⟨gb134,0,none⟩=some (.slice A0_0 l0_0.length c0_0)∧w'.cell? ⟨gb134,1,none⟩=some (.bool a0_1))∧(Kd.R Kd.bool 4 w' w.heap.size (fun _=>True) s_.1 t136)∧(w'.heap[gb134]? = some (.cells #[.slice A0_0 l0_0.length c0_0, .bool a0_1] 35 (0,0)))∧(w'.heap[gb135]? = some (.cells #[.slice none 0 0, .bool false] 35 (0,0)))∧(w'.heap[s_.2]? = some (.cells #[.slice none 0 0, .bool false] 35 (0,0)))∧(w.heap.size≤s_.2)∧(w.heap.size≤s_.2)∧(gb134≠s_.2)∧(s_.2≠gb134)∧(gb135≠s_.2)∧(s_.2≠gb135)∧(Below w.heap.size w w')) ?_ ?_
 rotate_left
 ·
  intro hCont;refine two_ (i:=2) (j:=7) (Ni:=some 10) (Nj:=some 5) #[true,true,true,true,true,true,false,false,false] #[true,true,false,true,true,true,false,true,false] rfl rfl rfl rfl (two_of HT_.out xk') (by decide) (by decide) (fun K hK=>?_) (fun K hK=>?_)
  ·
   skip
   refine goes_ Try.func74 xk' rfl #[.slice A0_0 l0_0.length c0_0] (by rfl) rfl rfl xl' ?_
   with_reducible refine (slices_Clone_bool_bool.calls _ _ l0_0 t136 _ ?side1 ?side2 A3.out).mono ?_
   (case side1=>exact kc' (cb' HR0_0.out HB.out))
   (case side2=>exact HC0_0.out)
   rintro e w7 ⟨v137,rfl,ho0,hb⟩
   refine ⟨_,rfl,?_⟩;have n0_:=am' (Kd.R_lower ho0 (bz' (y2' GE134.out GE135.out)));have n1_:=am' (bb' (g:=gb134) (o := .cells #[.slice A0_0 l0_0.length c0_0, .bool a0_1] 35 (0,0)) (kk' BK134.out) hb);have n2_:=am' (bb' (g:=gb135) (o := .cells #[.slice none 0 0, .bool false] 35 (0,0)) (kk' BK135.out) hb);have n3_:=am' (bt' (y2' GE134.out GE135.out) hb);clear BK134;clear BK135;clear HB;have HO138:=n0_;have BK134:=n1_;have BK135:=n2_;have HB:=n3_;clear n0_ n1_ n2_ n3_;(try clear hb)
   (try clear hb2)
   (try clear hk)
   (try clear hi)
   (try clear ho0)
   obtain ⟨Ao8,co8,eo8⟩:=Kd.R_slice HO138.out
   (first|subst eo8|(injection eo8 with f1_ f2_ f3_;have f4_:=f1_.symm;have f5_:=f3_.symm;clear f1_ f2_ f3_;subst f4_;subst f5_))
   refine hK.out _ _ ⟨(bc' BK134.out 0).trans rfl,(bc' BK134.out 1).trans rfl⟩ (fun hHeld=>?_);clear hK K;refine norm_ (a':=?_) ?_ ?_
   rotate_left
   ·
    show Act.put _ (some 10) _=_
    simp only[Act.put,sa',sb',sc',i64_w,i32_w];rfl
   refine pure_ (i:=6) (N:=some 14) (v:=?_) (a':=?_) #[true,true,true,true,true,true,true,false,false] rfl rfl (any_of HT_.out xk') (fun _ _ _ h=>h) (Or.inl ⟨by rfl,?_⟩) ?_ ?_
   rotate_left
   ·
    intro w';go_simp;with_reducible rfl
   rotate_left
   ·
    simp only[Act.put,sa',sb',sc',i64_w,i32_w];rfl
   refine one_ (i:=7) (N:=some 5) #[true,true,true,true,true,true,true,true,false] rfl rfl (one_of HT_.out xk') (by decide) (fun K hK=>?_);refine box_step ?hg (N:=5) ?hd (cs:=#[.slice none 0 0, .bool false]) (t:=35) ?hr ?_;(case hd=>rfl);(case hg=>rfl);(case hr=>first|(go_simp;done)|(go_simp;rfl))
   intro gb139 hg w9 hbox hb;have n0_:=am' (rb' (kr' HO138.out) hb);have n1_:=am' (bb' (g:=gb134) (o := .cells #[.slice A0_0 l0_0.length c0_0, .bool a0_1] 35 (0,0)) (kk' BK134.out) hb);have n2_:=am' (bb' (g:=gb135) (o := .cells #[.slice none 0 0, .bool false] 35 (0,0)) (kk' BK135.out) hb);have n3_:=am' (bt' (y2' GE134.out GE135.out) hb);have n4_:=am' (hbox);have n5_:=am' ((by rw[hg];exact (bz' (y2' GE134.out GE135.out)):w.heap.size≤gb139));have n6_:=am' ((by rw[hg];exact (bz' (y2' GE134.out GE135.out)):w.heap.size≤gb139));have n7_:=am' ((by rw[hg];exact Nat.ne_of_lt (blk_lt (g:=gb134) (o := .cells #[.slice A0_0 l0_0.length c0_0, .bool a0_1] 35 (0,0)) (kk' BK134.out)):gb134≠gb139));have n8_:=am' ((by rw[hg];exact Nat.ne_of_gt (blk_lt (g:=gb134) (o := .cells #[.slice A0_0 l0_0.length c0_0, .bool a0_1] 35 (0,0)) (kk' BK134.out)):gb139≠gb134));have n9_:=am' ((by rw[hg];exact Nat.ne_of_lt (blk_lt (g:=gb135) (o := .cells #[.slice none 0 0, .bool false] 35 (0,0)) (kk' BK135.out)):gb135≠gb139));have n10_:=am' ((by rw[hg];exact Nat.ne_of_gt (blk_lt (g:=gb135) (o := .cells #[.slice none 0 0, .bool false] 35 (0,0)) (kk' BK135.out)):gb139≠gb135));clear HO138;clear BK134;clear BK135;clear HB;have HO138:=n0_;have BK134:=n1_;have BK135:=n2_;have HB:=n3_;have BK139:=n4_;have GW139:=n5_;have GE139:=n6_;have NB134_139:=n7_;have NB139_134:=n8_;have NB135_139:=n9_;have NB139_135:=n10_;clear n0_ n1_ n2_ n3_ n4_ n5_ n6_ n7_ n8_ n9_ n10_;clear hb hbox hg;refine hK.out _ _ ⟨(bc' BK134.out 0).trans rfl,(bc' BK134.out 1).trans rfl⟩ (fun hHeld=>?_);clear hK K;refine norm_ (a':=?_) ?_ ?_
   rotate_left
   ·
    show Act.put _ (some 5) _=_
    simp only[Act.put,sa',sb',sc',i64_w,i32_w];rfl
   exact norm_ (by simp only[putAll,Act.put,sa',sb',sc']) (hCont (.slice Ao8 t136.length co8,gb139) _ ⟨hHeld,(kr' HO138.out),(kk' BK134.out),(kk' BK135.out),(kk' BK139.out),GW139.out,GE139.out,NB134_139.out,NB139_134.out,NB135_139.out,NB139_135.out,(y3' GE134.out GE135.out GE139.out)⟩)
  ·
   skip
   refine box_step ?hg (N:=5) ?hd (cs:=#[.slice none 0 0, .bool false]) (t:=35) ?hr ?_;(case hd=>rfl);(case hg=>rfl);(case hr=>first|(go_simp;done)|(go_simp;rfl))
   intro gb139 hg w7 hbox hb;have n0_:=am' (bb' (g:=gb134) (o := .cells #[.slice A0_0 l0_0.length c0_0, .bool a0_1] 35 (0,0)) (kk' BK134.out) hb);have n1_:=am' (bb' (g:=gb135) (o := .cells #[.slice none 0 0, .bool false] 35 (0,0)) (kk' BK135.out) hb);have n2_:=am' (bt' (y2' GE134.out GE135.out) hb);have n3_:=am' (hbox);have n4_:=am' ((by rw[hg];exact (bz' (y2' GE134.out GE135.out)):w.heap.size≤gb139));have n5_:=am' ((by rw[hg];exact (bz' (y2' GE134.out GE135.out)):w.heap.size≤gb139));have n6_:=am' ((by rw[hg];exact Nat.ne_of_lt (blk_lt (g:=gb134) (o := .cells #[.slice A0_0 l0_0.length c0_0, .bool a0_1] 35 (0,0)) (kk' BK134.out)):gb134≠gb139));have n7_:=am' ((by rw[hg];exact Nat.ne_of_gt (blk_lt (g:=gb134) (o := .cells #[.slice A0_0 l0_0.length c0_0, .bool a0_1] 35 (0,0)) (kk' BK134.out)):gb139≠gb134));have n8_:=am' ((by rw[hg];exact Nat.ne_of_lt (blk_lt (g:=gb135) (o := .cells #[.slice none 0 0, .bool false] 35 (0,0)) (kk' BK135.out)):gb135≠gb139));have n9_:=am' ((by rw[hg];exact Nat.ne_of_gt (blk_lt (g:=gb135) (o := .cells #[.slice none 0 0, .bool false] 35 (0,0)) (kk' BK135.out)):gb139≠gb135));clear BK134;clear BK135;clear HB;have BK134:=n0_;have BK135:=n1_;have HB:=n2_;have BK139:=n3_;have GW139:=n4_;have GE139:=n5_;have NB134_139:=n6_;have NB139_134:=n7_;have NB135_139:=n8_;have NB139_135:=n9_;clear n0_ n1_ n2_ n3_ n4_ n5_ n6_ n7_ n8_ n9_;clear hb hbox hg;refine hK.out _ _ ⟨(bc' BK134.out 0).trans rfl,(bc' BK134.out 1).trans rfl⟩ (fun hHeld=>?_);clear hK K;refine norm_ (a':=?_) ?_ ?_
   rotate_left
   ·
    show Act.put _ (some 5) _=_
    simp only[Act.put,sa',sb',sc',i64_w,i32_w];rfl
   refine one_ (i:=2) (N:=some 10) #[true,true,true,true,true,true,false,true,false] rfl rfl (one_of HT_.out xk') (by decide) (fun K hK=>?_);refine goes_ Try.func74 xk' rfl #[.slice A0_0 l0_0.length c0_0] (by rfl) rfl rfl xl' ?_
   with_reducible refine (slices_Clone_bool_bool.calls _ _ l0_0 t136 _ ?side1 ?side2 A3.out).mono ?_
   (case side1=>exact kc' (cb' HR0_0.out HB.out))
   (case side2=>exact HC0_0.out)
   rintro e w8 ⟨v137,rfl,ho0,hb⟩
   refine ⟨_,rfl,?_⟩;have n0_:=am' (Kd.R_lower ho0 (bz' (y3' GE134.out GE135.out GE139.out)));have n1_:=am' (bb' (g:=gb134) (o := .cells #[.slice A0_0 l0_0.length c0_0, .bool a0_1] 35 (0,0)) (kk' BK134.out) hb);have n2_:=am' (bb' (g:=gb135) (o := .cells #[.slice none 0 0, .bool false] 35 (0,0)) (kk' BK135.out) hb);have n3_:=am' (bb' (g:=gb139) (o := .cells #[.slice none 0 0, .bool false] 35 (0,0)) (kk' BK139.out) hb);have n4_:=am' (bt' (y3' GE134.out GE135.out GE139.out) hb);clear BK134;clear BK135;clear BK139;clear HB;have HO138:=n0_;have BK134:=n1_;have BK135:=n2_;have BK139:=n3_;have HB:=n4_;clear n0_ n1_ n2_ n3_ n4_;(try clear hb)
   (try clear hb2)
   (try clear hk)
   (try clear hi)
   (try clear ho0)
   obtain ⟨Ao9,co9,eo9⟩:=Kd.R_slice HO138.out
   (first|subst eo9|(injection eo9 with f1_ f2_ f3_;have f4_:=f1_.symm;have f5_:=f3_.symm;clear f1_ f2_ f3_;subst f4_;subst f5_))
   refine hK.out _ _ ⟨(bc' BK134.out 0).trans rfl,(bc' BK134.out 1).trans rfl⟩ (fun hHeld=>?_);clear hK K;refine norm_ (a':=?_) ?_ ?_
   rotate_left
   ·
    show Act.put _ (some 10) _=_
    simp only[Act.put,sa',sb',sc',i64_w,i32_w];rfl
   refine pure_ (i:=6) (N:=some 14) (v:=?_) (a':=?_) #[true,true,true,true,true,true,true,true,false] rfl rfl (any_of HT_.out xk') (fun _ _ _ h=>h) (Or.inl ⟨by rfl,?_⟩) ?_ ?_
   rotate_left
   ·
    intro w';go_simp;with_reducible rfl
   rotate_left
   ·
    simp only[Act.put,sa',sb',sc',i64_w,i32_w];rfl
   exact norm_ (by simp only[putAll,Act.put,sa',sb',sc']) (hCont (.slice Ao9 t136.length co9,gb139) _ ⟨hHeld,(kr' HO138.out),(kk' BK134.out),(kk' BK135.out),(kk' BK139.out),GW139.out,GE139.out,NB134_139.out,NB139_134.out,NB135_139.out,NB139_135.out,(y3' GE134.out GE135.out GE139.out)⟩)
 rintro ⟨v137,gb139⟩ w10 ⟨hS_,h0_,h1_,h2_,h3_,h4_,h5_,h6_,h7_,h8_,h9_,h10_⟩
 have n0_:Aside0 (Kd.R Kd.bool 4 w10 w.heap.size (fun _=>True) v137 t136):=⟨h0_⟩
 have n1_:Aside0 (w10.heap[gb134]? = some (.cells #[.slice A0_0 l0_0.length c0_0, .bool a0_1] 35 (0,0))):=⟨h1_⟩
 have n2_:Aside0 (w10.heap[gb135]? = some (.cells #[.slice none 0 0, .bool false] 35 (0,0))):=⟨h2_⟩
 have n3_:Aside0 (w10.heap[gb139]? = some (.cells #[.slice none 0 0, .bool false] 35 (0,0))):=⟨h3_⟩
 have n4_:Aside0 (w.heap.size≤gb139):=⟨h4_⟩
 have n5_:Aside0 (w.heap.size≤gb139):=⟨h5_⟩
 have n6_:Aside0 (gb134≠gb139):=⟨h6_⟩
 have n7_:Aside0 (gb139≠gb134):=⟨h7_⟩
 have n8_:Aside0 (gb135≠gb139):=⟨h8_⟩
 have n9_:Aside0 (gb139≠gb135):=⟨h9_⟩
 have n10_:Aside0 (Below w.heap.size w w10):=⟨h10_⟩
 clear BK134;clear BK135;clear HB;clear h0_ h1_ h2_ h3_ h4_ h5_ h6_ h7_ h8_ h9_ h10_;have HO138:=n0_;have BK134:=n1_;have BK135:=n2_;have BK139:=n3_;have GW139:=n4_;have GE139:=n5_;have NB134_139:=n6_;have NB139_134:=n7_;have NB135_139:=n8_;have NB139_135:=n9_;have HB:=n10_;clear n0_ n1_ n2_ n3_ n4_ n5_ n6_ n7_ n8_ n9_ n10_;have hHeld:w10.cell? ⟨gb134,0,none⟩=some (.slice A0_0 l0_0.length c0_0)∧w10.cell? ⟨gb134,1,none⟩=some (.bool a0_1):=hS_
 obtain ⟨Ao11,co11,eo11⟩:=Kd.R_slice HO138.out
 (first|subst eo11|(injection eo11 with f1_ f2_ f3_;have f4_:=f1_.symm;have f5_:=f3_.symm;clear f1_ f2_ f3_;subst f4_;subst f5_))
 refine norm_ (a':=?_) ?_ ?_
 rotate_left
 ·
  simp only[putAll,Act.put,sa',sb',sc'];rfl
 refine one_ (i:=8) (N:=none) #[true,true,true,true,true,true,true,true,true] rfl rfl (one_of HT_.out xk') (by decide) (fun K hK=>?_)
 have hs12:w10.cell? ⟨gb139,0,none⟩=some (.slice none 0 0):=(bc' BK139.out 0).trans rfl
 have hfs12:=bf' BK139.out 0
 have hns12_0:=NB134_139.out
 have hns12_1:=NB135_139.out
 have hms12_0:=NB139_134.out
 have hms12_1:=NB139_135.out
 have hs13:w10.cell? ⟨gb139,1,none⟩=some (.bool false):=(bc' BK139.out 1).trans rfl
 have hfs13:=bf' BK139.out 1
 have hns13_0:=NB134_139.out
 have hns13_1:=NB135_139.out
 have hms13_0:=NB139_134.out
 have hms13_1:=NB139_135.out
 refine skip_ (w1:=?_) (by rfl) rfl ?_ ?_
 rotate_left
 ·
  go_simp;rfl
 refine hK.out _ _ ⟨((cell_far (p:=⟨gb139,_,none⟩) NB134_139.out _).trans (((cell_far (p:=⟨gb139,_,none⟩) NB134_139.out _).trans (hHeld.1)))),((cell_far (p:=⟨gb139,_,none⟩) NB134_139.out _).trans (((cell_far (p:=⟨gb139,_,none⟩) NB134_139.out _).trans (hHeld.2))))⟩ (fun hHeld=>?_)
 clear hK K;refine done_ (done_of HT_.out xk') ?_
 try go_wp2
 go_loopg [17] k (fun kq v17 w'=>∃ (x17_1:Int) (x140000_1:List Bool) (u140000:Value),v17 = .int .i64 x17_1∧Aside0 (impl_State_moved.l0 kq l1 (l1.length:Int) x17_1 x140000_1 (!a0_1)=some (r1,r2))∧Aside0 (kq≤k)∧Aside0 (Kd.R Kd.bool 4 w' w.heap.size (fun _=>True) u140000 x140000_1)∧Aside0 (w'.heap[gb134]? = some (.cells #[(.slice A0_0 l0_0.length c0_0), .bool a0_1] 35 (0,0)))∧Aside0 (w'.heap[gb135]? = some (.cells #[(.slice none 0 0), .bool false] 35 (0,0)))∧Aside0 (w'.heap[gb139]? = some (.cells #[u140000, .bool (!a0_1)] 35 (0,0)))∧Aside0 (Below w.heap.size w w'))
 case atStart=>exact ⟨(0),(t136),(.slice Ao11 t136.length co11),xs',H',⟨Nat.le_refl _⟩,⟨by (with_reducible repeat (first|apply ra'|apply rn'|apply rw'));exact Kd.R_mono (Kd.R_far (p:=⟨gb139,1,none⟩) (Kd.R_far (p:=⟨gb139,0,none⟩) (Kd.R_types HO138.out BK139.out (by decide)) (fun _ hk=>hk.2) (.slice Ao11 t136.length co11)) (fun _ hk=>hk.2) (.bool (!a0_1))) (fun _ hk=>trivial)⟩,⟨by (with_reducible repeat (first|refine kn' ?_ _|refine kd' ?_|refine ka' ?_ _));refine blk_far ?_ NB134_139.out _;(with_reducible repeat (first|refine kn' ?_ _|refine kd' ?_|refine ka' ?_ _));refine blk_far ?_ NB134_139.out _;(with_reducible repeat (first|refine kn' ?_ _|refine kd' ?_|refine ka' ?_ _));exact BK134.out⟩,⟨by (with_reducible repeat (first|refine kn' ?_ _|refine kd' ?_|refine ka' ?_ _));refine blk_far ?_ NB135_139.out _;(with_reducible repeat (first|refine kn' ?_ _|refine kd' ?_|refine ka' ?_ _));refine blk_far ?_ NB135_139.out _;(with_reducible repeat (first|refine kn' ?_ _|refine kd' ?_|refine ka' ?_ _));exact BK135.out⟩,⟨by (with_reducible repeat (first|refine kn' ?_ _|refine kd' ?_|refine ka' ?_ _));refine blk_put (cs:=#[.slice Ao11 t136.length co11, .bool false]) ?_ 1 _ rfl;(with_reducible repeat (first|refine kn' ?_ _|refine kd' ?_|refine ka' ?_ _));refine blk_put (cs:=#[.slice none 0 0, .bool false]) ?_ 0 _ rfl;(with_reducible repeat (first|refine kn' ?_ _|refine kd' ?_|refine ka' ?_ _));exact BK139.out⟩,⟨y3' GE134.out GE135.out GE139.out⟩⟩
 case round =>
  clear H';try clear c1
  try clear p2
  try clear c5
  try clear c7
  obtain ⟨x17_1,x140000_1,u140000,rfl,HA,HK1,HO_140000,BK134,BK135,BK139,HB⟩:=hrel;cases gk with
  | zero=>exact absurd HA.out (by simp[impl_State_moved.l0])
  | succ k1 =>
   have H:=HA.out;clear HA;simp only[impl_State_moved.l0] at H;by_cases c14:x17_1 < (l1.length:Int)
   ·
    rw[if_pos c14] at H;have c14b0:decide (x17_1 < (l1.length:Int))=true:=dt' c14;clear c14;by_cases c15:0≤x17_1
    ·
     rw[if_pos c15] at H;have c15b0:decide (0≤x17_1)=true:=dt' c15;clear c15;by_cases c16:x17_1 < (l1.length:Int)
     ·
      rw[if_pos c16] at H;have c16b0:decide (x17_1 < (l1.length:Int))=true:=dt' c16;clear c16;by_cases c17:0≤(rd l1 x17_1)
      ·
       rw[if_pos c17] at H;have c17b0:decide (0≤(rd l1 x17_1))=true:=dt' c17;clear c17;by_cases c18:(rd l1 x17_1) < (x140000_1.length:Int)
       ·
        rw[if_pos c18] at H;have c18b0:decide ((rd l1 x17_1) < (x140000_1.length:Int))=true:=dt' c18;clear c18;obtain ⟨y141,hy141⟩:∃ y_:List Bool,y_=(x140000_1.set ((rd l1 x17_1):Int).toNat (!a0_1)):=⟨_,rfl⟩
        replace H:(impl_State_moved.l0 k1 l1 (l1.length:Int) (wrap64 (x17_1+1)) y141 (!a0_1))=some (r1,r2):=by first|(rw[hy141];with_reducible exact H)|(have H2_:=(Option.bind_some _ _).symm.trans H;rw[hy141];with_reducible exact H2_)|(have H2_:=(Option.bind_some _ _).symm.trans H;with_reducible exact H2_)|with_reducible exact H|(rw[hy141];exact H)|exact H
        have Ny141:=am' hy141;clear hy141;have H':=am' H;clear H;have p140:0≤(x17_1:Int):=od' xa';have q140:x17_1 < (l1.length:Int):=od' xa';obtain ⟨ad140,e140,hx140_0⟩:=Kd.at_int HR1.out x17_1 p140 q140;cases e140;replace hx140_0:=(HB.out.cell (bl' w _ hx140_0)).trans hx140_0;replace p140:=eq_true p140;replace q140:=eq_true q140;have hnb20:=NB139_134.out;have hnc20:=NB134_139.out;have hnb21:=NB139_135.out;have hnc21:=NB135_139.out;have hcz22_0:wr.cell? ⟨gb139,0,none⟩=some (u140000):=(bc' BK139.out 0).trans rfl;have hcz22_1:wr.cell? ⟨gb139,1,none⟩=some (.bool (!a0_1)):=(bc' BK139.out 1).trans rfl;have hfz22_0:=bf' BK139.out 0;have hfz22_1:=bf' BK139.out 1;have p19:0≤((rd l1 x17_1):Int):=od' xa';have q19:((rd l1 x17_1):Int) < ((x140000_1.length:Int):Int):=od' xa';obtain ⟨go19,co19,eo19,gb19,gl19,cl19,HG19⟩:=Kd.R_form HO_140000.out (by omega)
        (first|cases eo19|(injection eo19 with ea_ en_ ec_;(first|subst ea_|(injection ea_ with ea_;subst ea_));subst ec_;clear en_))
        have GB19:=am' gb19;have GG19:=am' HG19;clear gb19 gl19 HG19;obtain ⟨hx19_0,hf19_0⟩:=Kd.R_celln false HO_140000.out ((rd l1 x17_1):Int) p19 q19;replace p19:=eq_true p19;replace q19:=eq_true q19;have HP23:=Kd.R_putg HO_140000.out ((rd l1 x17_1):Int) (!a0_1);go_wp2_with (first|((with_reducible refine gate_store (t:=4) (p:=26) rfl ?_);refine store_event (t:=4) (p:=26) (v:=?vo_w24) (w1:=(wr.setCell ⟨go19,((rd l1 x17_1):Int).toNat,none⟩ (.bool (!a0_1)))) ?hg ?ho ?hn ?hr ?_;(case ho=>rfl);(case hg=>rfl);(case hn=>rfl);(case hr=>first|(go_simp;done)|(go_simp;rfl));intro w24 hw;have hg:wr.grownBy w24 (some go19):=(by rw[hw];exact HP23.2);have hp_:Kd.R Kd.bool 4 w24 w.heap.size (fun _=>True) (.slice (some ⟨go19,0,none⟩) x140000_1.length co19) y141:=(by rw[hw,Ny141.out];exact HP23.1);clear HP23;have n0_:=am' (hp_);have n1_:=am' (blk_grown (g:=gb134) (o := .cells #[.slice A0_0 l0_0.length c0_0, .bool a0_1] 35 (0,0)) (kk' BK134.out) hg (Kd.R_ne HO_140000.out BK134.out (by decide)));have n2_:=am' (blk_grown (g:=gb135) (o := .cells #[.slice none 0 0, .bool false] 35 (0,0)) (kk' BK135.out) hg (Kd.R_ne HO_140000.out BK135.out (by decide)));have n3_:=am' (blk_grown (g:=gb139) (o := .cells #[.slice (some ⟨go19,0,none⟩) x140000_1.length co19, .bool (!a0_1)] 35 (0,0)) (kk' BK139.out) hg (Kd.R_ne HO_140000.out BK139.out (by decide)));have n4_:=am' ((by rw[hw];exact bs' (HB.out) GB19.out:Below w.heap.size w w24));clear HO_140000;clear BK134;clear BK135;clear BK139;clear HB;have HO_140000:=n0_;have BK134:=n1_;have BK135:=n2_;have BK139:=n3_;have HB:=n4_;clear n0_ n1_ n2_ n3_ n4_;clear hg hw hp_));go_roundg k1
        case measure=>have:=HK1.out;omega
        case rel=>exact ⟨(wrap64 (x17_1+1)),(y141),(.slice (some ⟨go19,0,none⟩) x140000_1.length co19),xs',H',⟨by have:=HK1.out;omega⟩,⟨kr' HO_140000.out⟩,⟨kk' BK134.out⟩,⟨kk' BK135.out⟩,⟨kk' BK139.out⟩,⟨y3' GE134.out GE135.out GE139.out⟩⟩
       ·
        rw[if_neg c18] at H;exact absurd H (by simp)
      ·
       rw[if_neg c17] at H;exact absurd H (by simp)
     ·
      rw[if_neg c16] at H;exact absurd H (by simp)
    ·
     rw[if_neg c15] at H;exact absurd H (by simp)
   ·
    rw[if_neg c14] at H;have c14b0:decide (x17_1 < (l1.length:Int))=false:=df' c14;clear c14;simp only[Option.some.injEq,Prod.mk.injEq] at H;obtain ⟨rfl,rfl⟩:=H;have hnb25:=NB139_134.out;have hnc25:=NB134_139.out;have hnb26:=NB139_135.out;have hnc26:=NB135_139.out;have hcz27_0:wr.cell? ⟨gb139,0,none⟩=some (u140000):=(bc' BK139.out 0).trans rfl;have hcz27_1:wr.cell? ⟨gb139,1,none⟩=some (.bool (!a0_1)):=(bc' BK139.out 1).trans rfl;have hfz27_0:=bf' BK139.out 0;have hfz27_1:=bf' BK139.out 1;obtain ⟨Ao28,co28,eo28⟩:=Kd.R_slice HO_140000.out;subst eo28;have hnb29:=NB135_134.out;have hnc29:=NB134_135.out;have hcz30_0:wr.cell? ⟨gb135,0,none⟩=some (.slice none 0 0):=(bc' BK135.out 0).trans rfl;have hcz30_1:wr.cell? ⟨gb135,1,none⟩=some (.bool false):=(bc' BK135.out 1).trans rfl;have hfz30_0:=bf' BK135.out 0;have hfz30_1:=bf' BK135.out 1;go_wp2;refine bodyPost_ret (results_cell_row rfl _ _ gb135 35 #[.slice Ao28 x140000_1.length co28, .bool (!a0_1)] (0,0) _ rfl (by (with_reducible repeat (first|refine kn' ?_ _|refine kd' ?_|refine ka' ?_ _));refine blk_put (cs:=#[.slice Ao28 x140000_1.length co28, .bool false]) ?_ 1 _ rfl;(with_reducible repeat (first|refine kn' ?_ _|refine kd' ?_|refine ka' ?_ _));refine blk_put (cs:=#[.slice none 0 0, .bool false]) ?_ 0 _ rfl;(with_reducible repeat (first|refine kn' ?_ _|refine kd' ?_|refine ka' ?_ _));exact BK135.out) Try.underlying35 rfl xk') rfl ?_
    exact ⟨_,by first|rfl|(simp[errW_none,errW_some] <;> rfl)|(simp[*,errW_none,errW_some] <;> rfl),by (with_reducible repeat (first|apply ra'|apply rn'|apply rw'));exact Kd.R_mono (Kd.R_far (p:=⟨gb135,1,none⟩) (Kd.R_far (p:=⟨gb135,0,none⟩) (Kd.R_types HO_140000.out BK135.out (by decide)) (fun _ hk=>hk.2) (.slice Ao28 x140000_1.length co28)) (fun _ hk=>hk.2) (.bool (!a0_1))) (fun _ hk=>trivial),y3' GE134.out GE135.out GE139.out⟩
def StaFr (ps:Nat) (A1:Option Addr) (c1:Nat) (ov:List Bool) (tr:Bool) (W:World) (O:Nat→Prop):Prop :=
 W.heap[ps]? = some (.cells #[.slice A1 ov.length c1, .bool tr] 35 (0,0))∧¬ O ps∧Kd.F Kd.bool W (fun k=>¬ O k) A1 ov.length ov∧ov.length≤c1
theorem StaFr.turn {ps:Nat} {A1:Option Addr} {c1:Nat} {ov:List Bool} {tr:Bool} {w W:World} {O O':Nat→Prop} (h:StaFr ps A1 c1 ov tr w O) (hk:Kept w W O) (ho:∀ k,O' k→O k∨w.heap.size≤k):StaFr ps A1 c1 ov tr W O':=by
 obtain ⟨h1,h2,h3,h4⟩:=h
 refine ⟨blk_kept h1 hk h2,fun q=>?_,Kd.F_mono (Kd.F_kept (Kd.F_bound h3) hk (fun _ q=>q.1)) (fun k q q2=>by rcases ho k q2 with q3|q3;exact q.1 q3;omega),h4⟩
 rcases ho _ q with q|q
 ·
  exact h2 q
 ·
  have:=blk_lt h1;omega
def cmpInv (B bo ps:Nat) (A1:Option Addr) (c1:Nat) (ov:List Bool) (tr:Bool) (s:List (List Int)) (W:World) (O:Nat→Prop):Prop:=OutInv B bo s W O∧StaFr ps A1 c1 ov tr W O
def cmpS (k:Nat) (ov:List Bool) (tr:Bool) (s:List (List Int)) (l:List Int):Option (List (List Int)):=(impl_calm.f k l).bind fun t=>if t=true then (impl_State_moved.f k ov tr l).bind fun mm=>(impl_State_isCalm.f k mm.1 mm.2).bind fun t2=>if t2=true then pushS s l else some s else some s
theorem cmpS_up (k:Nat) (ov:List Bool) (tr:Bool) (s:List (List Int)) (l:List Int):LeO (cmpS k ov tr s l) (cmpS (k+1) ov tr s l):=by
 unfold cmpS
 exact LeO.bind (impl_calm.mono _ _) (fun _=>LeO.ite (LeO.bind (impl_State_moved.mono _ _ _ _) (fun _=>LeO.bind (impl_State_isCalm.mono _ _ _) (fun _=>LeO.refl _))) (LeO.refl _))
set_option maxHeartbeats 2000000 in
set_option maxRecDepth 100000 in
theorem company1_each (k:Nat) (B bo ps:Nat) (A1:Option Addr) (c1:Nat) (ov:List Bool) (tr:Bool):EachOk B 67 #[.pointer (some ⟨ps,0,none⟩), .pointer (some ⟨bo,0,none⟩)] (cmpInv B bo ps A1 c1 ov tr) (cmpS k ov tr):=by
 intro s s' O W0 W vl l hinv hbel hR hs;obtain ⟨hout,hfr⟩:=hinv
 have hfr:=hfr.turn (O':=O) (Kept.of_below hbel O) (fun _ h => .inl h)
 obtain ⟨Al,cl,rfl,hlc,hC⟩:=Kd.R_reads hR
 unfold cmpS at hs
 obtain ⟨t,ht,hs⟩:=Option.bind_eq_some_iff.mp hs
 have HK:=am' (fun (W1:World) (hb:Below W.heap.size W W1)=>impl_calm.calls k Al cl l t W1 (cb' hC hb) hlc ht)
 have HM:=am' (fun (W1:World) (hb:Below W.heap.size W W1) (mo:List Bool) (mt:Bool) (hmv:impl_State_moved.f k ov tr l=some (mo,mt))=>impl_State_moved.calls k A1 c1 ov tr Al cl l mo mt W1 (cb' (Kd.F_now hfr.2.2.1) hb) hfr.2.2.2 (cb' hC hb) hlc hmv)
 have x0:W.cell? ⟨ps,0,none⟩=some (.slice A1 ov.length c1):=(bc' hfr.1 0).trans rfl
 have x1:W.cell? ⟨ps,1,none⟩=some (.bool tr):=(bc' hfr.1 1).trans rfl
 have hu:=Try.underlying35
 have HFR:=am' hfr
 have HOUT:=am' hout
 have HBEL:=am' hbel
 have HR0:=am' hR
 have HBW:=am' (show B≤W.heap.size by
  obtain ⟨v,h1,h2,_⟩:=hout;have:=blk_lt h1;have:=hbel.size;omega)
 clear hfr hout hbel hR hC hlc ht;cases t with
 | false =>
  simp only[Bool.false_eq_true,if_false,Option.some.injEq] at hs;subst hs;clear x0 x1;go_enter Try.func67,Try.ntmps67;go_wp2_with fail;refine (HK.out _ (Below.refl _ _)).mono ?_
  rintro e w2 ⟨rfl,hb⟩
  have HB2:=am' hb;clear hb;go_wp2;go_end0
  have hb2:Below W0.heap.size W0 w2:=HBEL.out.trans (HB2.out.mono HBEL.out.size);exact ⟨rfl,HB2.out.mono HBW.out,O,⟨HOUT.out.below hb2,HFR.out.turn (Kept.of_below HB2.out O) (fun _ h => .inl h)⟩,Kept.of_below HB2.out O,fun k h => .inl h⟩
 | true =>
  simp only[if_true] at hs;obtain ⟨⟨mo,mt⟩,hmv,hs⟩:=Option.bind_eq_some_iff.mp hs;obtain ⟨t2,ht2,hs⟩:=Option.bind_eq_some_iff.mp hs;dsimp only at ht2
  have HMV:=am' hmv;have HI:=am' (fun (W1:World) (A2:Option Addr) (c2:Nat) (hc:Kd.C Kd.bool W1 A2 mo.length mo) (hl:mo.length≤c2)=>impl_State_isCalm.calls k A2 c2 mo mt t2 W1 hc hl ht2);clear hmv ht2;cases t2 with
  | false =>
   simp only[Bool.false_eq_true,if_false,Option.some.injEq] at hs;subst hs;go_enter Try.func67,Try.ntmps67;go_wp2_with fail;refine (HK.out _ (Below.refl _ _)).mono ?_
   rintro e w3 ⟨rfl,hb⟩
   have HB3:=am' hb;have z0:=(hb.cell (bl' W _ x0)).trans x0;have z1:=(hb.cell (bl' W _ x1)).trans x1;clear hb x0 x1;go_wp2_with fail;refine (HM.out _ HB3.out mo mt HMV.out).mono ?_
   rintro e w4 ⟨v4,rfl,ho4,hb4⟩
   obtain ⟨A4,c4,rfl,hc4,hC4⟩:=Kd.R_reads ho4;have HB4:=am' (bt' HB3.out hb4);have HC4:=am' hC4;have HL4:=am' hc4;clear ho4 hb4 hC4 hc4 z0 z1;go_wp2_with fail;refine (HI.out _ A4 c4 HC4.out HL4.out).mono ?_
   rintro e w2 ⟨rfl,hb⟩
   have HB2:=am' (bt' HB4.out hb);clear hb;go_wp2;go_end0
   have hb2:Below W0.heap.size W0 w2:=HBEL.out.trans (HB2.out.mono HBEL.out.size);exact ⟨rfl,HB2.out.mono HBW.out,O,⟨HOUT.out.below hb2,HFR.out.turn (Kept.of_below HB2.out O) (fun _ h => .inl h)⟩,Kept.of_below HB2.out O,fun k h => .inl h⟩
  | true =>
   simp only[if_true] at hs;obtain ⟨v,hbo,hB,hS,rfl⟩:=HOUT.out
   obtain ⟨hlim,rfl⟩:s.length < 1099511627776∧s ++ [l]=s':=by
    unfold pushS at hs
    by_cases h:s.length < 1099511627776
    ·
     rw[if_pos h] at hs;exact ⟨h,os' hs⟩
    ·
     rw[if_neg h] at hs;cases hs
   have hinfo:=am' (show (Try.prog.info? 28).map (fun i=>(i.zero,i.size,i.bytes))=some (some (.slice none 0 0),1,24) by kernel_rfl);have HL:=am' hlim;have HBO0:=am' hbo;have HS0:=am' hS;have HBE:=am' hB;have HLO:=am' (blk_lt hbo);have HVL:=am' (Kd.S_lt hS);clear hbo hS hs hlim hB HOUT;go_enter Try.func67,Try.ntmps67;go_wp2_with fail;refine (HK.out _ (Below.refl _ _)).mono ?_
   rintro e w3 ⟨rfl,hb⟩
   have HB3:=am' hb;have z0:=(hb.cell (bl' W _ x0)).trans x0;have z1:=(hb.cell (bl' W _ x1)).trans x1;clear hb x0 x1;go_wp2_with fail;refine (HM.out _ HB3.out mo mt HMV.out).mono ?_
   rintro e w4 ⟨v4,rfl,ho4,hb4⟩
   obtain ⟨A4,c4,rfl,hc4,hC4⟩:=Kd.R_reads ho4;have HB4:=am' (bt' HB3.out hb4);have HC4:=am' hC4;have HL4:=am' hc4;clear ho4 hb4 hC4 hc4 z0 z1;go_wp2_with fail;refine (HI.out _ A4 c4 HC4.out HL4.out).mono ?_
   rintro e w2 ⟨rfl,hb⟩
   have HB2:=am' (bt' HB4.out hb);clear hb;have hb2:Below W0.heap.size W0 w2:=bt' HBEL.out HB2.out;have HSZ:=am' hb2.size;have HBO:=am' (bb' HBO0.out hb2);have HS:=am' (Kd.S_mono (Kd.S_old HS0.out hb2) (ok':=fun k=>k≠bo∧¬ W0.heap.size≤k) (fun k hk=>⟨hk.1,by omega⟩));have HR:=am' (rb' HR0.out HB2.out);have HBB:=am' (show Below B W w2 from HB2.out.mono (by have:=HBEL.out.size;have:=HLO.out;have:=HBE.out;omega));clear hb2;have y0:w2.cell? ⟨bo,0,none⟩=some v:=(bc' HBO.out 0).trans rfl;have y1:=bf' HBO.out 0;go_wp2_with ((with_reducible refine gate_builtin (b := .append) (xs:=#[.tmp 12, .tmp 14]) rfl ?_);at_builtin;refine Kd.S_append (Kd.slice 3 (Kd.int .i64)) (w0:=W) B rfl (.tmp 12) (.tmp 14) 22 28 (.slice none 0 0) 24 rfl Try.underlying22 hinfo.out rfl (by decide) (by omega) v s l [.slice Al l.length cl] (fun k=>k≠bo) (fun k=>W0.heap.size≤k∧k < w2.heap.size∧k≠bo) rfl rfl ?aP ?aK ?aF ?aO ?aB ?aS ?aL ?_;(case aP=>exact ⟨_,rfl,Kd.R_lower (Kd.R_mono (Kd.R_bound HR.out) (fun k hk=>⟨hk.2.1,hk.2.2.1,by have:=HLO.out;have:=hk.2.1;omega⟩)) (by have:=HLO.out;have:=HBE.out;omega)⟩);(case aK=>exact fun k hk=>⟨hk.2.2,fun e=>by have:=HVL.out k e.symm;omega⟩);(case aF=>exact fun k hk=>by have:=HLO.out;have:=HSZ.out;omega);(case aO=>exact Kd.S_mono HS.out (fun k hk=>⟨hk.1,fun q=>hk.2 q.1⟩));(case aB=>exact HBB.out);(case aS=>have:=HLO.out;have:=HSZ.out;have:=HBE.out;omega);(case aL=>have:=HL.out;omega);intro v1 w1 ho hb hg hat;obtain ⟨A1_,c1_,e1⟩:=Kd.S_slice ho;rw[List.length_append,List.length_singleton] at e1;subst e1;have HY:=am' ((hg.block bo (Nat.lt_of_lt_of_le HLO.out HSZ.out) (Kd.S_away HS.out (fun k hk=>hk.1))).trans HBO.out);have z0:w1.cell? ⟨bo,0,none⟩=some v:=(bc' HY.out 0).trans rfl;have z1:=bf' HY.out 0;have HO:=am' ho;have HB1:=am' hb;have HG1:=am' hg;have HA1:=am' hat;clear ho hb hg hat);go_end0
   have hkp:Kept W (w1.setCell ⟨bo,0,none⟩ (.slice A1_ (s.length+1) c1_)) (fun k=>k=bo∨some k=v.ownBlock):=Kept.setCell (Kept.of_grown HG1.out (Kept.of_below HB2.out _) (fun k hk => .inl (.inr hk.symm))) (.inl (.inl rfl)) _
   have hnew:∀ k,(k=bo∨some k=(Value.slice A1_ (s.length+1) c1_).ownBlock)→(k=bo∨some k=v.ownBlock)∨W.heap.size≤k:=by
    rintro k (rfl|hk)
    ·
     exact .inl (.inl rfl)
    ·
     rcases HA1.out with q|⟨b,q,hb⟩
     ·
      exact .inl (.inr (hk.trans q))
     ·
      rw[q] at hk;cases hk;exact .inr (Nat.le_trans HB2.out.size hb)
   exact ⟨rfl,HB1.out.setCell HBE.out _,_,⟨⟨_,blk_put HY.out 0 _ rfl,HBE.out,Kd.S_far HO.out (p:=⟨bo,0,none⟩) (fun k hk=>hk) _,rfl⟩,HFR.out.turn hkp hnew⟩,hkp,hnew⟩
def impl_Company_rows.f (k:Nat) (a0_0:Int) (a0_1:Int) (l1_0:List Bool) (a1_1:Bool):Option (List (List Int)) :=
 (impl_State_side.f k l1_0 a1_1 a1_1).bind fun sd=>if sd.length≤20 then (grpsF a0_1 sd []).foldlM (cmpS k l1_0 a1_1) [] else none
theorem impl_Company_rows.mono:∀ a0 a1 a2 a3 k,LeO (impl_Company_rows.f k a0 a1 a2 a3) (impl_Company_rows.f (k+1) a0 a1 a2 a3):=by
 intro a0 a1 a2 a3 k;unfold impl_Company_rows.f
 refine LeO.bind (impl_State_side.mono _ _ _ _) (fun t=>LeO.ite (foldlM_leO (fun s x=>cmpS_up _ _ _ _ _) _ _) (LeO.refl _))
set_option maxHeartbeats 2000000 in
set_option maxRecDepth 100000 in
theorem impl_Company_rows.calls (k:Nat) (a0_0:Int) (a0_1:Int) (A1_0:Option Addr) (c1_0:Nat) (l1_0:List Bool) (a1_1:Bool) (r:List (List Int)) (w:World) (hr1_0:Kd.C Kd.bool w A1_0 l1_0.length l1_0) (hc1_0:l1_0.length≤c1_0) (h:impl_Company_rows.f k a0_0 a0_1 l1_0 a1_1=some r) :
  Calls Try.prog 41 #[.agg #[.int .i64 a0_0, .int .i64 a0_1], .agg #[.slice A1_0 l1_0.length c1_0, .bool a1_1]] w fun e w'=>∃ v0_:Value,e = .returned (v0_)∧Kd.S (Kd.slice 3 (Kd.int .i64)) 28 w' w.heap.size (fun _=>True) v0_ r∧Below w.heap.size w w':=by
 have hu0:=Try.underlying32
 have hu1:=Try.underlying35
 unfold impl_Company_rows.f at h
 obtain ⟨sd,hsd,h⟩:=Option.bind_eq_some_iff.mp h
 by_cases hlen:sd.length≤20
 ·
  rw[if_pos hlen] at h;have HD:=am' (fun (W:World) (hb:Below w.heap.size w W)=>impl_State_side.calls k A1_0 c1_0 l1_0 a1_1 a1_1 sd W (cb' hr1_0 hb) hc1_0 hsd);have HB0:=am' (four_blocks w (.cells #[.int .i64 a0_0, .int .i64 a0_1] 32) (.cells #[.slice A1_0 l1_0.length c1_0, .bool a1_1] 35) (.cells #[] 28) (.cells #[.slice (some ⟨w.heap.size+1+1,0,none⟩) 0 0] 22));have HF0:=am' (Kd.C_F Kd.heap_bool hr1_0);have HFO:=am' h;have HLEN:=am' hlen;clear hr1_0 hsd hlen h;go_enter Try.func41,Try.ntmps41;go_wp2_with fail;generalize hW3:(((w.alloc (.cells #[.int .i64 a0_0, .int .i64 a0_1] 32)).alloc (.cells #[.slice A1_0 l1_0.length c1_0, .bool a1_1] 35)).alloc (.cells #[] 28)).alloc (.cells #[.slice (some ⟨w.heap.size+1+1,0,none⟩) 0 0] 22)=W3 at HB0 ⊢
  clear hW3;have HW3:=am' HB0.out.2.2.2.2;have HLT:=am' (blk_lt HB0.out.2.2.2.1)
  have HIN:=am' (show OutInv w.heap.size (w.heap.size+1+1+1) [] W3 (fun k=>k=w.heap.size+1+1+1∨some k=(Value.slice (some ⟨w.heap.size+1+1,0,none⟩) 0 0).ownBlock) from
   ⟨_,HB0.out.2.2.2.1,by omega,S_empty _ HB0.out.2.2.1 (by omega) (by omega),rfl⟩)
  have hno:∀ k,(k=w.heap.size+1+1+1∨some k=(Value.slice (some ⟨w.heap.size+1+1,0,none⟩) 0 0).ownBlock)→w.heap.size+1+1≤k:=by
   rintro k (rfl|q)
   ·
    omega
   ·
    have q:=os' (show some _=some _ from q);simp at q;omega
  have HNO:=am' hno;clear hno
  have HCF:=am' (show StaFr (w.heap.size+1) A1_0 c1_0 l1_0 a1_1 W3 (fun k=>k=w.heap.size+1+1+1∨some k=(Value.slice (some ⟨w.heap.size+1+1,0,none⟩) 0 0).ownBlock) from
   ⟨HB0.out.2.1,fun q=>by have:=HNO.out _ q;omega,Kd.F_mono (Kd.F_below HF0.out HW3.out) (fun k hk q=>by have:=HNO.out _ q;omega),hc1_0⟩)
  have x0:W3.cell? ⟨w.heap.size+1,0,none⟩=some (.slice A1_0 l1_0.length c1_0):=(bc' HB0.out.2.1 0).trans rfl;have x1:W3.cell? ⟨w.heap.size+1,1,none⟩=some (.bool a1_1):=(bc' HB0.out.2.1 1).trans rfl;have x2:W3.cell? ⟨w.heap.size,1,none⟩=some (.int .i64 a0_1):=(bc' HB0.out.1 1).trans rfl;have HR0:=am' (Below.refl W3.heap.size W3);clear HF0
  go_region_held3 (fun w'=>w'.cell? ⟨w.heap.size+1,0,none⟩=some (.slice A1_0 l1_0.length c1_0)∧w'.cell? ⟨w.heap.size+1,1,none⟩=some (.bool a1_1)∧w'.cell? ⟨w.heap.size,1,none⟩=some (.int .i64 a0_1))
   (first|exact ⟨z0,z1,z2⟩|exact ⟨y0,y1,y2⟩|go_keep)
   (first
    | ((go_at_call 65;refine (HD.out _ ?_).mono ?_;(repeat (first|(with_reducible exact HW3.out)|apply be'|apply bd'));rintro e w4 ⟨vs,rfl,ho,hb⟩;have HR4:=am' (bt' (by repeat (first|(with_reducible exact HR0.out)|apply be'|apply bd')) hb);have HO4:=am' ho;clear hb ho;have y0:=(HR4.out.cell (bl' W3 _ x0)).trans x0;have y1:=(HR4.out.cell (bl' W3 _ x1)).trans x1;have y2:=(HR4.out.cell (bl' W3 _ x2)).trans x2;obtain ⟨As,cs,es,hcs,_⟩:=Kd.R_reads HO4.out;subst es;have HCS:=am' hcs;clear hcs))
    | ((go_at_call 66;refine (groups_any (company1_each k w.heap.size (w.heap.size+1+1+1) (w.heap.size+1) A1_0 c1_0 l1_0 a1_1) (fun s W O h=>OutInv.lt s W O h.1) (enters_of Try.func67 xk' rfl) sd a0_1 As cs HCS.out (by have:=HLEN.out;omega) [] r _ _ ?gB (fun W hb=>⟨HIN.out.below (bt' HR4.out (by (first|exact hb|(simpa using hb)))),HCF.out.turn (Kept.of_below (bt' HR4.out (by (first|exact hb|(simpa using hb)))) _) (fun _ h => .inl h)⟩) ?gF HFO.out).mono ?_;(case gB=>exact Nat.le_trans HW3.out.size (by have:=HR4.out.size;first|exact this|simpa using this));(case gF=>exact Kd.F_mono (Kd.R_F (Kd.R_bound HO4.out)) (fun k hk q=>by have:=HLT.out;have:=hk.2.1;rcases q with q|q;(subst q;(simp at this;omega));(have q:=os' (show some _=some _ from q);simp at q this;omega)));rintro e w5 ⟨rfl,hb5,O5,⟨⟨v5,hv5,_,hS5,_⟩,_⟩,hk5,ho5⟩;have HV5:=am' hv5;have HS5:=am' hS5;have HB5:=am' hb5;have z0:=cell_kept y0 hk5 (fun q=>by have:=HNO.out _ q;(try simp at this);omega);have z1:=cell_kept y1 hk5 (fun q=>by have:=HNO.out _ q;(try simp at this);omega);have z2:=cell_kept y2 hk5 (fun q=>by have:=HNO.out _ q;(try simp at this);omega);clear hv5 hS5 hb5 hk5 ho5)))
  all_goals
   have hv5:w5.cell? ⟨w.heap.size+1+1+1,0,none⟩=some v5:=(bc' HV5.out 0).trans rfl;go_wp2;go_ret
   exact ⟨_,rfl,Kd.S_mono HS5.out (fun _ _=>trivial),(HW3.out.trans (HR4.out.mono (by have:=HW3.out.size;omega))).trans HB5.out⟩
 ·
  rw[if_neg hlen] at h;cases h
def impl_RowsOf.f (k:Nat) (a0_0:Int) (a0_1:Int) (l1_0:List Bool) (a1_1:Bool):Option ((List (List Int)) × Bool):=(impl_Company_hasState.f k a0_0 a0_1 l1_0 a1_1).bind fun t144=>(if t144=true then ((impl_State_isCalm.f k l1_0 a1_1).bind fun t145=>(if t145=true then ((impl_Company_rows.f k a0_0 a0_1 l1_0 a1_1).bind fun t146=>(some (t146,true))) else (some (([]:List (List Int)),false)))) else (some (([]:List (List Int)),false)))
theorem impl_RowsOf.mono:∀ a0 a1 a2 a3 k,LeO (impl_RowsOf.f k a0 a1 a2 a3) (impl_RowsOf.f (k+1) a0 a1 a2 a3):=by
 intro a0 a1 a2 a3 k;unfold impl_RowsOf.f
 repeat' first
   | (with_reducible exact impl_Company_hasState.mono _ _ _ _ _)
   | (with_reducible exact impl_Company_rows.mono _ _ _ _ _)
   | (with_reducible exact impl_State_isCalm.mono _ _ _)
   | (with_reducible exact LeO.refl _)
   | (with_reducible exact LeO.none _)
   | (with_reducible refine LeO.ite ?_ ?_)
   | (with_reducible refine LeO.bind ?_ (fun _=>?_))
   | exact impl_Company_hasState.mono _ _ _ _ _
   | exact impl_Company_rows.mono _ _ _ _ _
   | exact impl_State_isCalm.mono _ _ _
   | exact LeO.none _
   | refine LeO.ite ?_ ?_
   | refine LeO.bind ?_ (fun _=>?_)
set_option maxHeartbeats 8000000 in
set_option maxRecDepth 100000 in
theorem impl_RowsOf.calls (k:Nat) (a0_0:Int) (a0_1:Int) (A1_0:Option Addr) (c1_0:Nat) (l1_0:List Bool) (a1_1:Bool) (r1:List (List Int)) (r2:Bool) (w:World) (hr1_0:Kd.C Kd.bool w A1_0 l1_0.length l1_0) (hc1_0:l1_0.length≤c1_0) (h:impl_RowsOf.f k a0_0 a0_1 l1_0 a1_1=some (r1,r2)) :
  Calls Try.prog 14 #[.agg #[.int .i64 a0_0, .int .i64 a0_1], .agg #[.slice A1_0 l1_0.length c1_0, .bool a1_1]] w fun e w'=>∃ v0_:Value,e = .returned (.tuple #[v0_, .bool r2])∧Kd.S (Kd.slice 3 (Kd.int .i64)) 28 w' w.heap.size (fun _=>True) v0_ r1∧Below w.heap.size w w':=by
 have hu32:=Try.underlying32
 have hu35:=Try.underlying35
 have HR1_0:=am' hr1_0
 have HC1_0:=am' hc1_0
 clear hr1_0 hc1_0;have HB:=am' (Below.refl w.heap.size w)
 have H:((impl_Company_hasState.f k a0_0 a0_1 l1_0 a1_1).bind fun t144=>(if t144=true then ((impl_State_isCalm.f k l1_0 a1_1).bind fun t145=>(if t145=true then ((impl_Company_rows.f k a0_0 a0_1 l1_0 a1_1).bind fun t146=>(some (t146,true))) else (some (([]:List (List Int)),false)))) else (some (([]:List (List Int)),false))))=some (r1,r2):=h
 clear h;replace H:=Option.bind_eq_some_iff.mp H
 obtain ⟨t144,A30,H⟩:=H
 replace H:(if t144=true then ((impl_State_isCalm.f k l1_0 a1_1).bind fun t145=>(if t145=true then ((impl_Company_rows.f k a0_0 a0_1 l1_0 a1_1).bind fun t146=>(some (t146,true))) else (some (([]:List (List Int)),false)))) else (some (([]:List (List Int)),false)))=some (r1,r2):=H
 have A3:=am' A30
 clear A30;by_cases c4:t144=true
 ·
  subst c4;have H1:((impl_State_isCalm.f k l1_0 a1_1).bind fun t145=>(if t145=true then ((impl_Company_rows.f k a0_0 a0_1 l1_0 a1_1).bind fun t146=>(some (t146,true))) else (some (([]:List (List Int)),false))))=some (r1,r2):=by rw[if_pos rfl] at H;exact H
  clear H;have H:=H1;clear H1;replace H:=Option.bind_eq_some_iff.mp H;obtain ⟨t145,A50,H⟩:=H;replace H:(if t145=true then ((impl_Company_rows.f k a0_0 a0_1 l1_0 a1_1).bind fun t146=>(some (t146,true))) else (some (([]:List (List Int)),false)))=some (r1,r2):=H;have A5:=am' A50;clear A50;by_cases c6:t145=true
  ·
   subst c6;have H1:((impl_Company_rows.f k a0_0 a0_1 l1_0 a1_1).bind fun t146=>(some (t146,true)))=some (r1,r2):=by rw[if_pos rfl] at H;exact H
   clear H;have H:=H1;clear H1;replace H:=Option.bind_eq_some_iff.mp H;obtain ⟨t146,A70,H⟩:=H;replace H:(some (t146,true))=some (r1,r2):=H;have A7:=am' A70;clear A70;simp only[Option.some.injEq,Prod.mk.injEq] at H;obtain ⟨rfl,rfl⟩:=H;go_enter Try.func14,Try.ntmps14;go_wp2_with (first|((with_reducible refine gate_dst (N:=2) rfl ?_);refine box_event ?hg (N:=2) ?hd (cs:=#[.int .i64 a0_0, .int .i64 a0_1]) (t:=32) ?hr ?_;(case hd=>rfl);(case hg=>rfl);(case hr=>first|(go_simp;done)|(go_simp;rfl));intro gb142 hg w8 hbox hb;have n0_:=am' (bt' xb' hb);have n1_:=am' (hbox);have n2_:=am' ((by rw[hg];exact (bz' xb'):w.heap.size≤gb142));have n3_:=am' ((by rw[hg];exact (bz' xb'):w.heap.size≤gb142));clear HB;have HB:=n0_;have BK142:=n1_;have GW142:=n2_;have GE142:=n3_;clear n0_ n1_ n2_ n3_;clear hb hbox hg)|((with_reducible refine gate_dst (N:=3) rfl ?_);refine box_event ?hg (N:=3) ?hd (cs:=#[.slice A1_0 l1_0.length c1_0, .bool a1_1]) (t:=35) ?hr ?_;(case hd=>rfl);(case hg=>rfl);(case hr=>first|(go_simp;done)|(go_simp;rfl));intro gb143 hg w9 hbox hb;have n0_:=am' (bb' (g:=gb142) (o := .cells #[.int .i64 a0_0, .int .i64 a0_1] 32 (0,0)) (kk' BK142.out) hb);have n1_:=am' (bt' (yb' GE142.out) hb);have n2_:=am' (hbox);have n3_:=am' ((by rw[hg];exact (bz' (yb' GE142.out)):w.heap.size≤gb143));have n4_:=am' ((by rw[hg];exact (bz' (yb' GE142.out)):w.heap.size≤gb143));have n5_:=am' ((by rw[hg];exact Nat.ne_of_lt (blk_lt (g:=gb142) (o := .cells #[.int .i64 a0_0, .int .i64 a0_1] 32 (0,0)) (kk' BK142.out)):gb142≠gb143));have n6_:=am' ((by rw[hg];exact Nat.ne_of_gt (blk_lt (g:=gb142) (o := .cells #[.int .i64 a0_0, .int .i64 a0_1] 32 (0,0)) (kk' BK142.out)):gb143≠gb142));clear BK142;clear HB;have BK142:=n0_;have HB:=n1_;have BK143:=n2_;have GW143:=n3_;have GE143:=n4_;have NB142_143:=n5_;have NB143_142:=n6_;clear n0_ n1_ n2_ n3_ n4_ n5_ n6_;clear hb hbox hg;have hnb10:=NB142_143.out;have hnc10:=NB143_142.out;have hcz11_0:w9.cell? ⟨gb142,0,none⟩=some (.int .i64 a0_0):=(bc' BK142.out 0).trans rfl;have hcz11_1:w9.cell? ⟨gb142,1,none⟩=some (.int .i64 a0_1):=(bc' BK142.out 1).trans rfl;have hfz11_0:=bf' BK142.out 0;have hfz11_1:=bf' BK142.out 1;have hcz12_0:w9.cell? ⟨gb143,0,none⟩=some (.slice A1_0 l1_0.length c1_0):=(bc' BK143.out 0).trans rfl;have hcz12_1:w9.cell? ⟨gb143,1,none⟩=some (.bool a1_1):=(bc' BK143.out 1).trans rfl;have hfz12_0:=bf' BK143.out 0;have hfz12_1:=bf' BK143.out 1)|((with_reducible refine gate_callee (f:=39) rfl ?_);refine goesL_ (some 8) rfl rfl Try.func39 xk' rfl #[.agg #[.int .i64 a0_0, .int .i64 a0_1], .agg #[.slice A1_0 l1_0.length c1_0, .bool a1_1]] rfl xl' ?_;(with_reducible refine (impl_Company_hasState.calls k a0_0 a0_1 _ _ l1_0 a1_1 true _ ?side1 ?side2 A3.out).mono ?_);(case side1=>exact kc' (cb' HR1_0.out HB.out));(case side2=>exact HC1_0.out);rintro e w13 ⟨rfl,hb⟩;refine ⟨_,rfl,?_⟩;have n0_:=am' (bb' (g:=gb142) (o := .cells #[.int .i64 a0_0, .int .i64 a0_1] 32 (0,0)) (kk' BK142.out) hb);have n1_:=am' (bb' (g:=gb143) (o := .cells #[.slice A1_0 l1_0.length c1_0, .bool a1_1] 35 (0,0)) (kk' BK143.out) hb);have n2_:=am' (bt' (y2' GE142.out GE143.out) hb);clear BK142;clear BK143;clear HB;have BK142:=n0_;have BK143:=n1_;have HB:=n2_;clear n0_ n1_ n2_;(try clear hb);(try clear hb2);(try clear hk);(try clear hi);have hcz14_0:w13.cell? ⟨gb143,0,none⟩=some (.slice A1_0 l1_0.length c1_0):=(bc' BK143.out 0).trans rfl;have hcz14_1:w13.cell? ⟨gb143,1,none⟩=some (.bool a1_1):=(bc' BK143.out 1).trans rfl;have hfz14_0:=bf' BK143.out 0;have hfz14_1:=bf' BK143.out 1)|(go_at_call 40;(with_reducible refine (impl_State_isCalm.calls k _ _ l1_0 a1_1 true _ ?side1 ?side2 A5.out).mono ?_);(case side1=>exact kc' (cb' HR1_0.out HB.out));(case side2=>exact HC1_0.out);rintro e w15 ⟨rfl,hb⟩;have n0_:=am' (bb' (g:=gb142) (o := .cells #[.int .i64 a0_0, .int .i64 a0_1] 32 (0,0)) (kk' BK142.out) hb);have n1_:=am' (bb' (g:=gb143) (o := .cells #[.slice A1_0 l1_0.length c1_0, .bool a1_1] 35 (0,0)) (kk' BK143.out) hb);have n2_:=am' (bt' (y2' GE142.out GE143.out) hb);clear BK142;clear BK143;clear HB;have BK142:=n0_;have BK143:=n1_;have HB:=n2_;clear n0_ n1_ n2_;(try clear hb);(try clear hb2);(try clear hk);(try clear hi);have hcz16_0:w15.cell? ⟨gb142,0,none⟩=some (.int .i64 a0_0):=(bc' BK142.out 0).trans rfl;have hcz16_1:w15.cell? ⟨gb142,1,none⟩=some (.int .i64 a0_1):=(bc' BK142.out 1).trans rfl;have hfz16_0:=bf' BK142.out 0;have hfz16_1:=bf' BK142.out 1;have hcz17_0:w15.cell? ⟨gb143,0,none⟩=some (.slice A1_0 l1_0.length c1_0):=(bc' BK143.out 0).trans rfl;have hcz17_1:w15.cell? ⟨gb143,1,none⟩=some (.bool a1_1):=(bc' BK143.out 1).trans rfl;have hfz17_0:=bf' BK143.out 0;have hfz17_1:=bf' BK143.out 1)|((with_reducible refine gate_callee (f:=41) rfl ?_);refine goesL_ (some 17) rfl rfl Try.func41 xk' rfl #[.agg #[.int .i64 a0_0, .int .i64 a0_1], .agg #[.slice A1_0 l1_0.length c1_0, .bool a1_1]] rfl xl' ?_;(with_reducible refine (impl_Company_rows.calls k a0_0 a0_1 _ _ l1_0 a1_1 t146 _ ?side1 ?side2 A7.out).mono ?_);(case side1=>exact kc' (cb' HR1_0.out HB.out));(case side2=>exact HC1_0.out);rintro e w18 ⟨v147,rfl,ho0,hb⟩;refine ⟨_,rfl,?_⟩;have n0_:=am' (Kd.S_lower ho0 (bz' (y2' GE142.out GE143.out)));have n1_:=am' (bb' (g:=gb142) (o := .cells #[.int .i64 a0_0, .int .i64 a0_1] 32 (0,0)) (kk' BK142.out) hb);have n2_:=am' (bb' (g:=gb143) (o := .cells #[.slice A1_0 l1_0.length c1_0, .bool a1_1] 35 (0,0)) (kk' BK143.out) hb);have n3_:=am' (bt' (y2' GE142.out GE143.out) hb);clear BK142;clear BK143;clear HB;have HO148:=n0_;have BK142:=n1_;have BK143:=n2_;have HB:=n3_;clear n0_ n1_ n2_ n3_;(try clear hb);(try clear hb2);(try clear hk);(try clear hi);(try clear ho0)))
   go_ret2
   exact ⟨_,by first|rfl|(simp[errW_none,errW_some] <;> rfl)|(simp[*,errW_none,errW_some] <;> rfl),kS' HO148.out,y2' GE142.out GE143.out⟩
  ·
   replace c6:=Bool.eq_false_iff.mpr c6;subst c6;have H1:(some (([]:List (List Int)),false))=some (r1,r2):=by rw[if_neg (show ¬ (false=true) by decide)] at H;exact H
   clear H;have H:=H1;clear H1;simp only[Option.some.injEq,Prod.mk.injEq] at H;obtain ⟨rfl,rfl⟩:=H;go_enter Try.func14,Try.ntmps14;go_wp2_with (first|((with_reducible refine gate_dst (N:=2) rfl ?_);refine box_event ?hg (N:=2) ?hd (cs:=#[.int .i64 a0_0, .int .i64 a0_1]) (t:=32) ?hr ?_;(case hd=>rfl);(case hg=>rfl);(case hr=>first|(go_simp;done)|(go_simp;rfl));intro gb142 hg w19 hbox hb;have n0_:=am' (bt' xb' hb);have n1_:=am' (hbox);have n2_:=am' ((by rw[hg];exact (bz' xb'):w.heap.size≤gb142));have n3_:=am' ((by rw[hg];exact (bz' xb'):w.heap.size≤gb142));clear HB;have HB:=n0_;have BK142:=n1_;have GW142:=n2_;have GE142:=n3_;clear n0_ n1_ n2_ n3_;clear hb hbox hg)|((with_reducible refine gate_dst (N:=3) rfl ?_);refine box_event ?hg (N:=3) ?hd (cs:=#[.slice A1_0 l1_0.length c1_0, .bool a1_1]) (t:=35) ?hr ?_;(case hd=>rfl);(case hg=>rfl);(case hr=>first|(go_simp;done)|(go_simp;rfl));intro gb143 hg w20 hbox hb;have n0_:=am' (bb' (g:=gb142) (o := .cells #[.int .i64 a0_0, .int .i64 a0_1] 32 (0,0)) (kk' BK142.out) hb);have n1_:=am' (bt' (yb' GE142.out) hb);have n2_:=am' (hbox);have n3_:=am' ((by rw[hg];exact (bz' (yb' GE142.out)):w.heap.size≤gb143));have n4_:=am' ((by rw[hg];exact (bz' (yb' GE142.out)):w.heap.size≤gb143));have n5_:=am' ((by rw[hg];exact Nat.ne_of_lt (blk_lt (g:=gb142) (o := .cells #[.int .i64 a0_0, .int .i64 a0_1] 32 (0,0)) (kk' BK142.out)):gb142≠gb143));have n6_:=am' ((by rw[hg];exact Nat.ne_of_gt (blk_lt (g:=gb142) (o := .cells #[.int .i64 a0_0, .int .i64 a0_1] 32 (0,0)) (kk' BK142.out)):gb143≠gb142));clear BK142;clear HB;have BK142:=n0_;have HB:=n1_;have BK143:=n2_;have GW143:=n3_;have GE143:=n4_;have NB142_143:=n5_;have NB143_142:=n6_;clear n0_ n1_ n2_ n3_ n4_ n5_ n6_;clear hb hbox hg;have hnb21:=NB142_143.out;have hnc21:=NB143_142.out;have hcz22_0:w20.cell? ⟨gb142,0,none⟩=some (.int .i64 a0_0):=(bc' BK142.out 0).trans rfl;have hcz22_1:w20.cell? ⟨gb142,1,none⟩=some (.int .i64 a0_1):=(bc' BK142.out 1).trans rfl;have hfz22_0:=bf' BK142.out 0;have hfz22_1:=bf' BK142.out 1;have hcz23_0:w20.cell? ⟨gb143,0,none⟩=some (.slice A1_0 l1_0.length c1_0):=(bc' BK143.out 0).trans rfl;have hcz23_1:w20.cell? ⟨gb143,1,none⟩=some (.bool a1_1):=(bc' BK143.out 1).trans rfl;have hfz23_0:=bf' BK143.out 0;have hfz23_1:=bf' BK143.out 1)|((with_reducible refine gate_callee (f:=39) rfl ?_);refine goesL_ (some 8) rfl rfl Try.func39 xk' rfl #[.agg #[.int .i64 a0_0, .int .i64 a0_1], .agg #[.slice A1_0 l1_0.length c1_0, .bool a1_1]] rfl xl' ?_;(with_reducible refine (impl_Company_hasState.calls k a0_0 a0_1 _ _ l1_0 a1_1 true _ ?side1 ?side2 A3.out).mono ?_);(case side1=>exact kc' (cb' HR1_0.out HB.out));(case side2=>exact HC1_0.out);rintro e w24 ⟨rfl,hb⟩;refine ⟨_,rfl,?_⟩;have n0_:=am' (bb' (g:=gb142) (o := .cells #[.int .i64 a0_0, .int .i64 a0_1] 32 (0,0)) (kk' BK142.out) hb);have n1_:=am' (bb' (g:=gb143) (o := .cells #[.slice A1_0 l1_0.length c1_0, .bool a1_1] 35 (0,0)) (kk' BK143.out) hb);have n2_:=am' (bt' (y2' GE142.out GE143.out) hb);clear BK142;clear BK143;clear HB;have BK142:=n0_;have BK143:=n1_;have HB:=n2_;clear n0_ n1_ n2_;(try clear hb);(try clear hb2);(try clear hk);(try clear hi);have hcz25_0:w24.cell? ⟨gb143,0,none⟩=some (.slice A1_0 l1_0.length c1_0):=(bc' BK143.out 0).trans rfl;have hcz25_1:w24.cell? ⟨gb143,1,none⟩=some (.bool a1_1):=(bc' BK143.out 1).trans rfl;have hfz25_0:=bf' BK143.out 0;have hfz25_1:=bf' BK143.out 1)|(go_at_call 40;(with_reducible refine (impl_State_isCalm.calls k _ _ l1_0 a1_1 false _ ?side1 ?side2 A5.out).mono ?_);(case side1=>exact kc' (cb' HR1_0.out HB.out));(case side2=>exact HC1_0.out);rintro e w26 ⟨rfl,hb⟩;have n0_:=am' (bb' (g:=gb142) (o := .cells #[.int .i64 a0_0, .int .i64 a0_1] 32 (0,0)) (kk' BK142.out) hb);have n1_:=am' (bb' (g:=gb143) (o := .cells #[.slice A1_0 l1_0.length c1_0, .bool a1_1] 35 (0,0)) (kk' BK143.out) hb);have n2_:=am' (bt' (y2' GE142.out GE143.out) hb);clear BK142;clear BK143;clear HB;have BK142:=n0_;have BK143:=n1_;have HB:=n2_;clear n0_ n1_ n2_;(try clear hb);(try clear hb2);(try clear hk);(try clear hi)))
   go_ret2
   exact ⟨_,by first|rfl|(simp[errW_none,errW_some] <;> rfl)|(simp[*,errW_none,errW_some] <;> rfl),by first|exact Kd.S_nil _ _ _ _ _|exact Kd.N_nil _ _ _ _ _|exact Kd.V_nil _ _ _ _ _|exact Kd.Q_nil _ _ _ _ _|exact Kd.R_nil _ _ _ _ _,y2' GE142.out GE143.out⟩
 ·
  replace c4:=Bool.eq_false_iff.mpr c4;subst c4;have H1:(some (([]:List (List Int)),false))=some (r1,r2):=by rw[if_neg (show ¬ (false=true) by decide)] at H;exact H
  clear H;have H:=H1;clear H1;simp only[Option.some.injEq,Prod.mk.injEq] at H;obtain ⟨rfl,rfl⟩:=H;go_enter Try.func14,Try.ntmps14;go_wp2_with (first|((with_reducible refine gate_dst (N:=2) rfl ?_);refine box_event ?hg (N:=2) ?hd (cs:=#[.int .i64 a0_0, .int .i64 a0_1]) (t:=32) ?hr ?_;(case hd=>rfl);(case hg=>rfl);(case hr=>first|(go_simp;done)|(go_simp;rfl));intro gb142 hg w27 hbox hb;have n0_:=am' (bt' xb' hb);have n1_:=am' (hbox);have n2_:=am' ((by rw[hg];exact (bz' xb'):w.heap.size≤gb142));have n3_:=am' ((by rw[hg];exact (bz' xb'):w.heap.size≤gb142));clear HB;have HB:=n0_;have BK142:=n1_;have GW142:=n2_;have GE142:=n3_;clear n0_ n1_ n2_ n3_;clear hb hbox hg)|((with_reducible refine gate_dst (N:=3) rfl ?_);refine box_event ?hg (N:=3) ?hd (cs:=#[.slice A1_0 l1_0.length c1_0, .bool a1_1]) (t:=35) ?hr ?_;(case hd=>rfl);(case hg=>rfl);(case hr=>first|(go_simp;done)|(go_simp;rfl));intro gb143 hg w28 hbox hb;have n0_:=am' (bb' (g:=gb142) (o := .cells #[.int .i64 a0_0, .int .i64 a0_1] 32 (0,0)) (kk' BK142.out) hb);have n1_:=am' (bt' (yb' GE142.out) hb);have n2_:=am' (hbox);have n3_:=am' ((by rw[hg];exact (bz' (yb' GE142.out)):w.heap.size≤gb143));have n4_:=am' ((by rw[hg];exact (bz' (yb' GE142.out)):w.heap.size≤gb143));have n5_:=am' ((by rw[hg];exact Nat.ne_of_lt (blk_lt (g:=gb142) (o := .cells #[.int .i64 a0_0, .int .i64 a0_1] 32 (0,0)) (kk' BK142.out)):gb142≠gb143));have n6_:=am' ((by rw[hg];exact Nat.ne_of_gt (blk_lt (g:=gb142) (o := .cells #[.int .i64 a0_0, .int .i64 a0_1] 32 (0,0)) (kk' BK142.out)):gb143≠gb142));clear BK142;clear HB;have BK142:=n0_;have HB:=n1_;have BK143:=n2_;have GW143:=n3_;have GE143:=n4_;have NB142_143:=n5_;have NB143_142:=n6_;clear n0_ n1_ n2_ n3_ n4_ n5_ n6_;clear hb hbox hg;have hnb29:=NB142_143.out;have hnc29:=NB143_142.out;have hcz30_0:w28.cell? ⟨gb142,0,none⟩=some (.int .i64 a0_0):=(bc' BK142.out 0).trans rfl;have hcz30_1:w28.cell? ⟨gb142,1,none⟩=some (.int .i64 a0_1):=(bc' BK142.out 1).trans rfl;have hfz30_0:=bf' BK142.out 0;have hfz30_1:=bf' BK142.out 1;have hcz31_0:w28.cell? ⟨gb143,0,none⟩=some (.slice A1_0 l1_0.length c1_0):=(bc' BK143.out 0).trans rfl;have hcz31_1:w28.cell? ⟨gb143,1,none⟩=some (.bool a1_1):=(bc' BK143.out 1).trans rfl;have hfz31_0:=bf' BK143.out 0;have hfz31_1:=bf' BK143.out 1)|((with_reducible refine gate_callee (f:=39) rfl ?_);refine goesL_ (some 8) rfl rfl Try.func39 xk' rfl #[.agg #[.int .i64 a0_0, .int .i64 a0_1], .agg #[.slice A1_0 l1_0.length c1_0, .bool a1_1]] rfl xl' ?_;(with_reducible refine (impl_Company_hasState.calls k a0_0 a0_1 _ _ l1_0 a1_1 false _ ?side1 ?side2 A3.out).mono ?_);(case side1=>exact kc' (cb' HR1_0.out HB.out));(case side2=>exact HC1_0.out);rintro e w32 ⟨rfl,hb⟩;refine ⟨_,rfl,?_⟩;have n0_:=am' (bb' (g:=gb142) (o := .cells #[.int .i64 a0_0, .int .i64 a0_1] 32 (0,0)) (kk' BK142.out) hb);have n1_:=am' (bb' (g:=gb143) (o := .cells #[.slice A1_0 l1_0.length c1_0, .bool a1_1] 35 (0,0)) (kk' BK143.out) hb);have n2_:=am' (bt' (y2' GE142.out GE143.out) hb);clear BK142;clear BK143;clear HB;have BK142:=n0_;have BK143:=n1_;have HB:=n2_;clear n0_ n1_ n2_;(try clear hb);(try clear hb2);(try clear hk);(try clear hi)))
  go_ret2
  exact ⟨_,by first|rfl|(simp[errW_none,errW_some] <;> rfl)|(simp[*,errW_none,errW_some] <;> rfl),by first|exact Kd.S_nil _ _ _ _ _|exact Kd.N_nil _ _ _ _ _|exact Kd.V_nil _ _ _ _ _|exact Kd.Q_nil _ _ _ _ _|exact Kd.R_nil _ _ _ _ _,y2' GE142.out GE143.out⟩
def spec_l1In.f (a0:Int) (a1:Int) (a2:Int):Option (Bool):=if a0 ≥ a1 then (some (decide (a0≤a2))) else (some false)
set_option maxHeartbeats 8000000 in
set_option maxRecDepth 100000 in
theorem spec_l1In.calls (a0:Int) (a1:Int) (a2:Int) (r:Bool) (w:World) (h:spec_l1In.f a0 a1 a2=some r) :
  Calls Try.prog 33 #[.int .i64 a0, .int .i64 a1, .int .i64 a2] w fun e w'=>e = .returned (.bool r)∧Drawn0 w w':=by
 have H:(if a0 ≥ a1 then (some (decide (a0≤a2))) else (some false))=some r:=h
 clear h;by_cases c4:a0 ≥ a1
 ·
  rw[if_pos c4] at H;have c4b0:decide (a1≤a0)=true:=dt' c4;clear c4;obtain rfl:=os' H;go_enter Try.func33,Try.ntmps33;go_wp2;go_ret
  exact ⟨xs',by repeat (first|exact Drawn0.refl _|apply Drawn0.step)⟩
 ·
  rw[if_neg c4] at H;have c4b0:decide (a1≤a0)=false:=df' c4;clear c4;obtain rfl:=os' H;go_enter Try.func33,Try.ntmps33;go_wp2;go_ret
  exact ⟨xs',by repeat (first|exact Drawn0.refl _|apply Drawn0.step)⟩
def spec_cuGood.f (a0_0:Int) (a0_1:Int):Option (Bool):=(spec_l1In.f a0_0 1 4).bind fun t150=>(if t150=true then ((spec_l1In.f a0_1 1 4).bind fun t151=>(some t151)) else (some false))
set_option maxHeartbeats 8000000 in
set_option maxRecDepth 100000 in
theorem spec_cuGood.calls (a0_0:Int) (a0_1:Int) (r:Bool) (w:World) (h:spec_cuGood.f a0_0 a0_1=some r) :
  Calls Try.prog 48 #[.agg #[.int .i64 a0_0, .int .i64 a0_1]] w fun e w'=>e = .returned (.bool r)∧Below w.heap.size w w':=by
 have hu32:=Try.underlying32
 have HB:=am' (Below.refl w.heap.size w)
 have H:((spec_l1In.f a0_0 1 4).bind fun t150=>(if t150=true then ((spec_l1In.f a0_1 1 4).bind fun t151=>(some t151)) else (some false)))=some r:=h
 clear h;replace H:=Option.bind_eq_some_iff.mp H
 obtain ⟨t150,A20,H⟩:=H
 replace H:(if t150=true then ((spec_l1In.f a0_1 1 4).bind fun t151=>(some t151)) else (some false))=some r:=H
 have A2:=am' A20
 clear A20;by_cases c3:t150=true
 ·
  subst c3;have H1:((spec_l1In.f a0_1 1 4).bind fun t151=>(some t151))=some r:=by rw[if_pos rfl] at H;exact H
  clear H;have H:=H1;clear H1;replace H:=Option.bind_eq_some_iff.mp H;obtain ⟨t151,A40,H⟩:=H;replace H:(some t151)=some r:=H;have A4:=am' A40;clear A40;obtain rfl:=os' H;go_enter Try.func48,Try.ntmps48;go_wp2_with (first|((with_reducible refine gate_dst (N:=1) rfl ?_);refine box_event ?hg (N:=1) ?hd (cs:=#[.int .i64 a0_0, .int .i64 a0_1]) (t:=32) ?hr ?_;(case hd=>rfl);(case hg=>rfl);(case hr=>first|(go_simp;done)|(go_simp;rfl));intro gb149 hg w5 hbox hb;have n0_:=am' (bt' xb' hb);have n1_:=am' (hbox);have n2_:=am' ((by rw[hg];exact (bz' xb'):w.heap.size≤gb149));have n3_:=am' ((by rw[hg];exact (bz' xb'):w.heap.size≤gb149));clear HB;have HB:=n0_;have BK149:=n1_;have GW149:=n2_;have GE149:=n3_;clear n0_ n1_ n2_ n3_;clear hb hbox hg;have hcz6_0:w5.cell? ⟨gb149,0,none⟩=some (.int .i64 a0_0):=(bc' BK149.out 0).trans rfl;have hcz6_1:w5.cell? ⟨gb149,1,none⟩=some (.int .i64 a0_1):=(bc' BK149.out 1).trans rfl;have hfz6_0:=bf' BK149.out 0;have hfz6_1:=bf' BK149.out 1)|((with_reducible refine gate_callee (f:=33) rfl ?_);refine goesL_ (some 5) rfl rfl Try.func33 xk' rfl #[.int .i64 a0_0, .int .i64 1, .int .i64 4] rfl xl' ?_;(with_reducible refine (spec_l1In.calls a0_0 1 4 true _ A2.out).mono ?_);rintro e w' ⟨rfl,⟨nd,rfl⟩⟩;refine ⟨_,rfl,?_⟩)|(go_at_call 33;(with_reducible refine (spec_l1In.calls a0_1 1 4 t151 _ A4.out).mono ?_);rintro e w' ⟨rfl,⟨nd,rfl⟩⟩));go_ret
  exact ⟨by first|rfl|(simp[errW_none,errW_some] <;> rfl)|(simp[*,errW_none,errW_some] <;> rfl),yb' GE149.out⟩
 ·
  replace c3:=Bool.eq_false_iff.mpr c3;subst c3;have H1:(some false)=some r:=by rw[if_neg (show ¬ (false=true) by decide)] at H;exact H
  clear H;have H:=H1;clear H1;obtain rfl:=os' H;go_enter Try.func48,Try.ntmps48;go_wp2_with (first|((with_reducible refine gate_dst (N:=1) rfl ?_);refine box_event ?hg (N:=1) ?hd (cs:=#[.int .i64 a0_0, .int .i64 a0_1]) (t:=32) ?hr ?_;(case hd=>rfl);(case hg=>rfl);(case hr=>first|(go_simp;done)|(go_simp;rfl));intro gb149 hg w7 hbox hb;have n0_:=am' (bt' xb' hb);have n1_:=am' (hbox);have n2_:=am' ((by rw[hg];exact (bz' xb'):w.heap.size≤gb149));have n3_:=am' ((by rw[hg];exact (bz' xb'):w.heap.size≤gb149));clear HB;have HB:=n0_;have BK149:=n1_;have GW149:=n2_;have GE149:=n3_;clear n0_ n1_ n2_ n3_;clear hb hbox hg;have hcz8_0:w7.cell? ⟨gb149,0,none⟩=some (.int .i64 a0_0):=(bc' BK149.out 0).trans rfl;have hcz8_1:w7.cell? ⟨gb149,1,none⟩=some (.int .i64 a0_1):=(bc' BK149.out 1).trans rfl;have hfz8_0:=bf' BK149.out 0;have hfz8_1:=bf' BK149.out 1)|((with_reducible refine gate_callee (f:=33) rfl ?_);refine goesL_ (some 5) rfl rfl Try.func33 xk' rfl #[.int .i64 a0_0, .int .i64 1, .int .i64 4] rfl xl' ?_;(with_reducible refine (spec_l1In.calls a0_0 1 4 false _ A2.out).mono ?_);rintro e w' ⟨rfl,⟨nd,rfl⟩⟩;refine ⟨_,rfl,?_⟩));go_ret
  exact ⟨by first|rfl|(simp[errW_none,errW_some] <;> rfl)|(simp[*,errW_none,errW_some] <;> rfl),yb' GE149.out⟩
end Go.Proofs.Ytabhhkiipilghaa.C2
