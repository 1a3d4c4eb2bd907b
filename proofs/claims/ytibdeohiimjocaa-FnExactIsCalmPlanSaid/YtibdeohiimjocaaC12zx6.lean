import Derived.Test.YtibdeohiimjocaaC12zx0
import Derived.Test.YtibdeohiimjocaaC12zx5
import Derived.Test.YtibdeohiimjocaaC12zAl
namespace Go.Proofs.Ytibdeohiimjocaa.C12
open Go.RowKit Go.Proofs.YtibdeohiimjocaaW.PrintWords Go.Proofs.YtibdeohiimjocaaW.PrintLast Go.Proofs.YtibdeohiimjocaaW.PrintMore Go.Proofs.Ytibdeohiimjocaa.H
attribute [local go_sem] max2_int min2_int max_two min_two max_three min_three max_four min_four
set_option linter.unusedVariables false
set_option linter.unusedSimpArgs false
def impl_State_moved.l0:Nat→List Int→Int→Int→List Bool→Bool→Option (List Bool × Bool)
 | 0,_,_,_,_,_=>none
 | k+1,x15,x16,x17,x185000,x185001=>if x17 < x16 then (if 0≤x17 then (if x17 < (x15.length:Int) then (if 0≤(rd x15 x17) then (if (rd x15 x17) < (x185000.length:Int) then (impl_State_moved.l0 k x15 x16 (wrap64 (x17+1)) (x185000.set ((rd x15 x17):Int).toNat x185001) x185001) else (none)) else (none)) else (none)) else (none)) else (some (x185000,x185001))
def impl_State_moved.f (k:Nat) (l0_0:List Bool) (a0_1:Bool) (l1:List Int):Option (List Bool × Bool):=(slices_Clone_bool_bool.f l0_0).bind fun t181=>(impl_State_moved.l0 k l1 (l1.length:Int) 0 t181 (!a0_1))
theorem impl_State_moved.mono_l:∀ k,(∀ y0 y1 y2 y3 y4,LeO (impl_State_moved.l0 k y0 y1 y2 y3 y4) (impl_State_moved.l0 (k+1) y0 y1 y2 y3 y4))
 | 0=>fun _ _ _ _ _ r h=>by simp[impl_State_moved.l0] at h
 | k+1=>by
  have ih0:=impl_State_moved.mono_l k
  ·
   intro y0 y1 y2 y3 y4;unfold impl_State_moved.l0
   repeat' first
   | (with_reducible exact ih0 _ _ _ _ _)
   | (with_reducible exact LeO.refl _)
   | (with_reducible exact LeO.none _)
   | (with_reducible refine LeO.ite ?_ ?_)
   | (with_reducible refine LeO.bind ?_ (fun _=>?_))
   | exact ih0 _ _ _ _ _
   | exact LeO.none _
   | refine LeO.ite ?_ ?_
   | refine LeO.bind ?_ (fun _=>?_)
theorem impl_State_moved.mono:∀ a0 a1 a2 k,LeO (impl_State_moved.f k a0 a1 a2) (impl_State_moved.f (k+1) a0 a1 a2):=by
 intro a0 a1 a2 k;have ih0:=impl_State_moved.mono_l k
 unfold impl_State_moved.f
 repeat' first
   | (with_reducible exact ih0 _ _ _ _ _)
   | (with_reducible exact LeO.refl _)
   | (with_reducible exact LeO.none _)
   | (with_reducible refine LeO.ite ?_ ?_)
   | (with_reducible refine LeO.bind ?_ (fun _=>?_))
   | exact ih0 _ _ _ _ _
   | exact LeO.none _
   | refine LeO.ite ?_ ?_
   | refine LeO.bind ?_ (fun _=>?_)
def impl_State_moved.T1:Bool × List (List Nat × List Nat):=(true,[([],[]),([0],[0]),([1],[1]),([],[]),([3],[3]),([4],[4]),([2,5],[2,5]),([],[]),([7,6,2,0,1,2,3,4,5,6,7],[6,7])])
def impl_State_moved.B1:List Nat:=[0,1,3,0,8,24,63,0,255]
theorem impl_State_moved.tab1:rtab .any (opsOf Try.f95 1)=impl_State_moved.T1:=by kernel_rfl
theorem impl_State_moved.bits1:waitsOk impl_State_moved.T1.2 impl_State_moved.B1=true:=by kernel_rfl
set_option maxHeartbeats 8000000 in
set_option maxRecDepth 100000 in
theorem impl_State_moved.calls (k:Nat) (A0_0:Option Addr) (c0_0:Nat) (l0_0:List Bool) (a0_1:Bool) (A1:Option Addr) (c1:Nat) (l1:List Int) (r1:List Bool) (r2:Bool) (w:World) (hr0_0:Kd.C Kd.bool w A0_0 l0_0.length l0_0) (hc0_0:l0_0.length≤c0_0) (hr1:Kd.C (Kd.int .i64) w A1 l1.length l1) (hc1:l1.length≤c1) (h:impl_State_moved.f k l0_0 a0_1 l1=some (r1,r2)) :
  Calls Try.prog 95 #[.agg #[.slice A0_0 l0_0.length c0_0, .bool a0_1], .slice A1 l1.length c1] w fun e w'=>∃ v0_:Value,e = .returned (.agg #[v0_, .bool r2])∧Kd.R Kd.bool 4 w' w.heap.size (fun _=>True) v0_ r1∧Below w.heap.size w w':=by
 have hu51:=Try.underlying51
 have HR0_0:=am' hr0_0
 have HC0_0:=am' hc0_0
 clear hr0_0 hc0_0;have HR1:=am' hr1
 have HC1:=am' hc1
 clear hr1 hc1;have HB:=am' (Below.refl w.heap.size w)
 have H:((slices_Clone_bool_bool.f l0_0).bind fun t181=>(impl_State_moved.l0 k l1 (l1.length:Int) 0 t181 (!a0_1)))=some (r1,r2):=h
 clear h;replace H:=Option.bind_eq_some_iff.mp H
 obtain ⟨t181,A30,H⟩:=H
 replace H:(impl_State_moved.l0 k l1 (l1.length:Int) 0 t181 (!a0_1))=some (r1,r2):=H
 have A3:=am' A30
 clear A30;have H':=am' H
 clear H;go_enter Try.func95,Try.ntmps95
 try go_wp2_with (first|((with_reducible refine gate_dst (N:=2) rfl ?_);refine box_event ?hg (N:=2) ?hd (cs:=#[.slice A0_0 l0_0.length c0_0, .bool a0_1]) (t:=51) ?hr ?_;(case hd=>rfl);(case hg=>rfl);(case hr=>first|(go_simp;done)|(go_simp;rfl));intro gb179 hg w4 hbox hb;have n0_:=am' (below_step (by repeat (first|(with_reducible first|exact HB.out|apply ba'|apply bd'|apply be')|exact HB.out)) hb);have n1_:=am' (hbox);have n2_:=am' ((by rw[hg];exact (below_size (by repeat (first|(with_reducible first|exact HB.out|apply ba'|apply bd'|apply be')|exact HB.out))):w.heap.size≤gb179));have n3_:=am' ((by rw[hg];exact (below_size (by repeat (first|(with_reducible first|exact HB.out|apply ba'|apply bd'|apply be')|exact HB.out))):w.heap.size≤gb179));clear HB;have HB:=n0_;have BK179:=n1_;have GW179:=n2_;have GE179:=n3_;clear n0_ n1_ n2_ n3_;clear hb hbox hg)|((with_reducible refine gate_dst (N:=4) rfl ?_);refine box_event ?hg (N:=4) ?hd (cs:=#[.slice none 0 0, .bool false]) (t:=51) ?hr ?_;(case hd=>rfl);(case hg=>rfl);(case hr=>first|(go_simp;done)|(go_simp;rfl));intro gb180 hg w5 hbox hb;have n0_:=am' (blk_below (g:=gb179) (o := .cells #[.slice A0_0 l0_0.length c0_0, .bool a0_1] 51 (0,0)) (by (with_reducible repeat (first|refine kn' ?_ _|refine kd' ?_|refine ka' ?_ _));exact BK179.out) hb);have n1_:=am' (below_step (by repeat (first|(with_reducible first|exact HB.out|apply ba'|apply bd'|apply be'|refine bs' ?_ GE179.out)|exact HB.out)) hb);have n2_:=am' (hbox);have n3_:=am' ((by rw[hg];exact (below_size (by repeat (first|(with_reducible first|exact HB.out|apply ba'|apply bd'|apply be'|refine bs' ?_ GE179.out)|exact HB.out))):w.heap.size≤gb180));have n4_:=am' ((by rw[hg];exact (below_size (by repeat (first|(with_reducible first|exact HB.out|apply ba'|apply bd'|apply be'|refine bs' ?_ GE179.out)|exact HB.out))):w.heap.size≤gb180));have n5_:=am' ((by rw[hg];exact Nat.ne_of_lt (blk_lt (g:=gb179) (o := .cells #[.slice A0_0 l0_0.length c0_0, .bool a0_1] 51 (0,0)) (by (with_reducible repeat (first|refine kn' ?_ _|refine kd' ?_|refine ka' ?_ _));exact BK179.out)):gb179≠gb180));have n6_:=am' ((by rw[hg];exact Nat.ne_of_gt (blk_lt (g:=gb179) (o := .cells #[.slice A0_0 l0_0.length c0_0, .bool a0_1] 51 (0,0)) (by (with_reducible repeat (first|refine kn' ?_ _|refine kd' ?_|refine ka' ?_ _));exact BK179.out)):gb180≠gb179));clear BK179;clear HB;have BK179:=n0_;have HB:=n1_;have BK180:=n2_;have GW180:=n3_;have GE180:=n4_;have NB179_180:=n5_;have NB180_179:=n6_;clear n0_ n1_ n2_ n3_ n4_ n5_ n6_;clear hb hbox hg))
 have n0_:=am' (kd' BK179.out)
 have n1_:=am' (kd' BK180.out)
 have n2_:=am' (be' HB.out)
 clear BK179;clear BK180;clear HB;have BK179:=n0_;have BK180:=n1_;have HB:=n2_;clear n0_ n1_ n2_;refine start_ (n:=9) (S:=fun w'=>w'.cell? ⟨gb179,0,none⟩=some (.slice A0_0 l0_0.length c0_0)∧w'.cell? ⟨gb179,1,none⟩=some (.bool a0_1)) (ds:=[]) #[false,false,false,false,false,false,false,false,false] (by kernel_rfl) rfl rfl ⟨(blk_cell BK179.out 0).trans rfl,(blk_cell BK179.out 1).trans rfl⟩ (fun hHeld=>?_);refine with_tabW impl_State_moved.tab1 impl_State_moved.bits1 (fun HT_ HW_=>?_)
 generalize w5.drew=w6 at BK179 BK180 HB hHeld ⊢
 refine pure_ (i:=0) (N:=some 8) (v:=?_) (a':=?_) #[true,false,false,false,false,false,false,false,false] rfl rfl (any_of HT_.out (by kernel_rfl)) (fun _ _ _ h=>h) (Or.inl ⟨by rfl,?_⟩) ?_ ?_
 rotate_left
 ·
  intro w';go_simp;with_reducible rfl
 rotate_left
 ·
  simp only[Act.put,sa',sb',sc',i64_w,i32_w];rfl
 refine pure_ (i:=3) (N:=some 11) (v:=?_) (a':=?_) #[true,false,false,true,false,false,false,false,false] rfl rfl (any_of HT_.out (by kernel_rfl)) (fun _ _ _ h=>h) (Or.inl ⟨by rfl,?_⟩) ?_ ?_
 rotate_left
 ·
  intro w';go_simp;with_reducible rfl
 rotate_left
 ·
  simp only[Act.put,sa',sb',sc',i64_w,i32_w];rfl
 refine take_ (i:=1) (N:=some 9) (v:=?_) (a':=?_) #[true,true,false,true,false,false,false,false,false] rfl rfl (take_ofW HT_.out HW_.out (by kernel_rfl)) (fun _ _ _ h=>h) (Or.inl ⟨by rfl,?_⟩) hHeld ?_ ?_
 rotate_left
 ·
  rintro w' ⟨s0,s1⟩
  go_simp;with_reducible rfl
 rotate_left
 ·
  simp only[Act.put,sa',sb',sc',i64_w,i32_w];rfl
 refine take_ (i:=4) (N:=some 12) (v:=?_) (a':=?_) #[true,true,false,true,true,false,false,false,false] rfl rfl (take_ofW HT_.out HW_.out (by kernel_rfl)) (fun _ _ _ h=>h) (Or.inl ⟨by rfl,?_⟩) hHeld ?_ ?_
 rotate_left
 ·
  rintro w' ⟨s0,s1⟩
  go_simp;with_reducible rfl
 rotate_left
 ·
  simp only[Act.put,sa',sb',sc',i64_w,i32_w];rfl
 refine pure_ (i:=5) (N:=some 13) (v:=?_) (a':=?_) #[true,true,false,true,true,true,false,false,false] rfl rfl (any_of HT_.out (by kernel_rfl)) (fun _ _ _ h=>h) (Or.inl ⟨by rfl,?_⟩) ?_ ?_
 rotate_left
 ·
  intro w';go_simp;with_reducible rfl
 rotate_left
 ·
  simp only[Act.put,sa',sb',sc',i64_w,i32_w];rfl
 refine join_ (σ:=Value × Nat) 1 #[true,true,true,true,true,true,true,true,false] (fun s_=>[(10,s_.1),(5, .pointer (some ⟨s_.2,0,none⟩)),(14, .agg #[s_.1, .bool (!a0_1)])]) (fun s_ w'=>(w'.cell? ⟨gb179,0,none⟩=some (.slice A0_0 l0_0.length c0_0)∧w'.cell? ⟨gb179,1,none⟩=some (.bool a0_1))∧(Kd.R Kd.bool 4 w' w.heap.size (fun _=>True) s_.1 t181)∧(w'.heap[gb179]? = some (.cells #[.slice A0_0 l0_0.length c0_0, .bool a0_1] 51 (0,0)))∧(w'.heap[gb180]? = some (.cells #[.slice none 0 0, .bool false] 51 (0,0)))∧(w'.heap[s_.2]? = some (.cells #[.slice none 0 0, .bool false] 51 (0,0)))∧(w.heap.size≤s_.2)∧(w.heap.size≤s_.2)∧(gb179≠s_.2)∧(s_.2≠gb179)∧(gb180≠s_.2)∧(s_.2≠gb180)∧(Below w.heap.size w w')) ?_ ?_
 rotate_left
 ·
  intro hCont;refine two_ (i:=2) (j:=7) (Ni:=some 10) (Nj:=some 5) #[true,true,true,true,true,true,false,false,false] #[true,true,false,true,true,true,false,true,false] rfl rfl rfl rfl (two_of HT_.out (by kernel_rfl)) (by decide) (by decide) (fun K hK=>?_) (fun K hK=>?_)
  ·
   skip
   refine goes_ Try.func124 (by kernel_rfl) rfl #[.slice A0_0 l0_0.length c0_0] (by rfl) rfl rfl (by (try simp only[List.map_toArray,List.map_cons,List.map_nil]);first|done|rfl|(simp only[List.length_drop,List.length_take];rfl)) ?_
   with_reducible refine (slices_Clone_bool_bool.calls _ _ l0_0 t181 _ ?side1 ?side2 A3.out).mono ?_
   (case side1=>repeat (first|exact (Kd.C_below HR0_0.out HB.out)|(with_reducible refine ca' ?_ _)|(with_reducible refine cn' ?_ _)|(with_reducible refine cd' ?_)))
   (case side2=>exact HC0_0.out)
   rintro e w7 ⟨v182,rfl,ho0,hb⟩
   refine ⟨_,rfl,?_⟩;have n0_:=am' (Kd.R_lower ho0 (below_size (by repeat (first|(with_reducible first|exact HB.out|apply ba'|apply bd'|apply be'|refine bs' ?_ GE179.out|refine bs' ?_ GE180.out)|exact HB.out))));have n1_:=am' (blk_below (g:=gb179) (o := .cells #[.slice A0_0 l0_0.length c0_0, .bool a0_1] 51 (0,0)) (by (with_reducible repeat (first|refine kn' ?_ _|refine kd' ?_|refine ka' ?_ _));exact BK179.out) hb);have n2_:=am' (blk_below (g:=gb180) (o := .cells #[.slice none 0 0, .bool false] 51 (0,0)) (by (with_reducible repeat (first|refine kn' ?_ _|refine kd' ?_|refine ka' ?_ _));exact BK180.out) hb);have n3_:=am' (below_step (by repeat (first|(with_reducible first|exact HB.out|apply ba'|apply bd'|apply be'|refine bs' ?_ GE179.out|refine bs' ?_ GE180.out)|exact HB.out)) hb);clear BK179;clear BK180;clear HB;have HO183:=n0_;have BK179:=n1_;have BK180:=n2_;have HB:=n3_;clear n0_ n1_ n2_ n3_;(try clear hb)
   (try clear hb2)
   (try clear hk)
   (try clear hi)
   (try clear ho0)
   obtain ⟨Ao8,co8,eo8⟩:=Kd.R_slice HO183.out
   (first|subst eo8|(injection eo8 with f1_ f2_ f3_;have f4_:=f1_.symm;have f5_:=f3_.symm;clear f1_ f2_ f3_;subst f4_;subst f5_))
   refine hK.out _ _ ⟨(blk_cell BK179.out 0).trans rfl,(blk_cell BK179.out 1).trans rfl⟩ (fun hHeld=>?_);clear hK K;refine norm_ (a':=?_) ?_ ?_
   rotate_left
   ·
    show Act.put _ (some 10) _=_
    simp only[Act.put,sa',sb',sc',i64_w,i32_w];rfl
   refine pure_ (i:=6) (N:=some 14) (v:=?_) (a':=?_) #[true,true,true,true,true,true,true,false,false] rfl rfl (any_of HT_.out (by kernel_rfl)) (fun _ _ _ h=>h) (Or.inl ⟨by rfl,?_⟩) ?_ ?_
   rotate_left
   ·
    intro w';go_simp;with_reducible rfl
   rotate_left
   ·
    simp only[Act.put,sa',sb',sc',i64_w,i32_w];rfl
   refine one_ (i:=7) (N:=some 5) #[true,true,true,true,true,true,true,true,false] rfl rfl (one_of HT_.out (by kernel_rfl)) (by decide) (fun K hK=>?_);refine box_step ?hg (N:=5) ?hd (cs:=#[.slice none 0 0, .bool false]) (t:=51) ?hr ?_;(case hd=>rfl);(case hg=>rfl);(case hr=>first|(go_simp;done)|(go_simp;rfl))
   intro gb184 hg w9 hbox hb;have n0_:=am' (Kd.R_below (by (with_reducible repeat (first|apply ra'|apply rn'|apply rw'));exact HO183.out) hb);have n1_:=am' (blk_below (g:=gb179) (o := .cells #[.slice A0_0 l0_0.length c0_0, .bool a0_1] 51 (0,0)) (by (with_reducible repeat (first|refine kn' ?_ _|refine kd' ?_|refine ka' ?_ _));exact BK179.out) hb);have n2_:=am' (blk_below (g:=gb180) (o := .cells #[.slice none 0 0, .bool false] 51 (0,0)) (by (with_reducible repeat (first|refine kn' ?_ _|refine kd' ?_|refine ka' ?_ _));exact BK180.out) hb);have n3_:=am' (below_step (by repeat (first|(with_reducible first|exact HB.out|apply ba'|apply bd'|apply be'|refine bs' ?_ GE179.out|refine bs' ?_ GE180.out)|exact HB.out)) hb);have n4_:=am' (hbox);have n5_:=am' ((by rw[hg];exact (below_size (by repeat (first|(with_reducible first|exact HB.out|apply ba'|apply bd'|apply be'|refine bs' ?_ GE179.out|refine bs' ?_ GE180.out)|exact HB.out))):w.heap.size≤gb184));have n6_:=am' ((by rw[hg];exact (below_size (by repeat (first|(with_reducible first|exact HB.out|apply ba'|apply bd'|apply be'|refine bs' ?_ GE179.out|refine bs' ?_ GE180.out)|exact HB.out))):w.heap.size≤gb184));have n7_:=am' ((by rw[hg];exact Nat.ne_of_lt (blk_lt (g:=gb179) (o := .cells #[.slice A0_0 l0_0.length c0_0, .bool a0_1] 51 (0,0)) (by (with_reducible repeat (first|refine kn' ?_ _|refine kd' ?_|refine ka' ?_ _));exact BK179.out)):gb179≠gb184));have n8_:=am' ((by rw[hg];exact Nat.ne_of_gt (blk_lt (g:=gb179) (o := .cells #[.slice A0_0 l0_0.length c0_0, .bool a0_1] 51 (0,0)) (by (with_reducible repeat (first|refine kn' ?_ _|refine kd' ?_|refine ka' ?_ _));exact BK179.out)):gb184≠gb179));have n9_:=am' ((by rw[hg];exact Nat.ne_of_lt (blk_lt (g:=gb180) (o := .cells #[.slice none 0 0, .bool false] 51 (0,0)) (by (with_reducible repeat (first|refine kn' ?_ _|refine kd' ?_|refine ka' ?_ _));exact BK180.out)):gb180≠gb184));have n10_:=am' ((by rw[hg];exact Nat.ne_of_gt (blk_lt (g:=gb180) (o := .cells #[.slice none 0 0, .bool false] 51 (0,0)) (by (with_reducible repeat (first|refine kn' ?_ _|refine kd' ?_|refine ka' ?_ _));exact BK180.out)):gb184≠gb180));clear HO183;clear BK179;clear BK180;clear HB;have HO183:=n0_;have BK179:=n1_;have BK180:=n2_;have HB:=n3_;have BK184:=n4_;have GW184:=n5_;have GE184:=n6_;have NB179_184:=n7_;have NB184_179:=n8_;have NB180_184:=n9_;have NB184_180:=n10_;clear n0_ n1_ n2_ n3_ n4_ n5_ n6_ n7_ n8_ n9_ n10_;clear hb hbox hg;refine hK.out _ _ ⟨(blk_cell BK179.out 0).trans rfl,(blk_cell BK179.out 1).trans rfl⟩ (fun hHeld=>?_);clear hK K;refine norm_ (a':=?_) ?_ ?_
   rotate_left
   ·
    show Act.put _ (some 5) _=_
    simp only[Act.put,sa',sb',sc',i64_w,i32_w];rfl
   exact norm_ (by simp only[putAll,Act.put,sa',sb',sc']) (hCont (.slice Ao8 t181.length co8,gb184) _ ⟨hHeld,(by (with_reducible repeat (first|apply ra'|apply rn'|apply rw'));exact HO183.out),(by (with_reducible repeat (first|refine kn' ?_ _|refine kd' ?_|refine ka' ?_ _));exact BK179.out),(by (with_reducible repeat (first|refine kn' ?_ _|refine kd' ?_|refine ka' ?_ _));exact BK180.out),(by (with_reducible repeat (first|refine kn' ?_ _|refine kd' ?_|refine ka' ?_ _));exact BK184.out),GW184.out,GE184.out,NB179_184.out,NB184_179.out,NB180_184.out,NB184_180.out,(by repeat (first|(with_reducible first|exact HB.out|apply ba'|apply bd'|apply be'|refine bs' ?_ GE179.out|refine bs' ?_ GE180.out|refine bs' ?_ GE184.out)|exact HB.out))⟩)
  ·
   skip
   refine box_step ?hg (N:=5) ?hd (cs:=#[.slice none 0 0, .bool false]) (t:=51) ?hr ?_;(case hd=>rfl);(case hg=>rfl);(case hr=>first|(go_simp;done)|(go_simp;rfl))
   intro gb184 hg w7 hbox hb;have n0_:=am' (blk_below (g:=gb179) (o := .cells #[.slice A0_0 l0_0.length c0_0, .bool a0_1] 51 (0,0)) (by (with_reducible repeat (first|refine kn' ?_ _|refine kd' ?_|refine ka' ?_ _));exact BK179.out) hb);have n1_:=am' (blk_below (g:=gb180) (o := .cells #[.slice none 0 0, .bool false] 51 (0,0)) (by (with_reducible repeat (first|refine kn' ?_ _|refine kd' ?_|refine ka' ?_ _));exact BK180.out) hb);have n2_:=am' (below_step (by repeat (first|(with_reducible first|exact HB.out|apply ba'|apply bd'|apply be'|refine bs' ?_ GE179.out|refine bs' ?_ GE180.out)|exact HB.out)) hb);have n3_:=am' (hbox);have n4_:=am' ((by rw[hg];exact (below_size (by repeat (first|(with_reducible first|exact HB.out|apply ba'|apply bd'|apply be'|refine bs' ?_ GE179.out|refine bs' ?_ GE180.out)|exact HB.out))):w.heap.size≤gb184));have n5_:=am' ((by rw[hg];exact (below_size (by repeat (first|(with_reducible first|exact HB.out|apply ba'|apply bd'|apply be'|refine bs' ?_ GE179.out|refine bs' ?_ GE180.out)|exact HB.out))):w.heap.size≤gb184));have n6_:=am' ((by rw[hg];exact Nat.ne_of_lt (blk_lt (g:=gb179) (o := .cells #[.slice A0_0 l0_0.length c0_0, .bool a0_1] 51 (0,0)) (by (with_reducible repeat (first|refine kn' ?_ _|refine kd' ?_|refine ka' ?_ _));exact BK179.out)):gb179≠gb184));have n7_:=am' ((by rw[hg];exact Nat.ne_of_gt (blk_lt (g:=gb179) (o := .cells #[.slice A0_0 l0_0.length c0_0, .bool a0_1] 51 (0,0)) (by (with_reducible repeat (first|refine kn' ?_ _|refine kd' ?_|refine ka' ?_ _));exact BK179.out)):gb184≠gb179));have n8_:=am' ((by rw[hg];exact Nat.ne_of_lt (blk_lt (g:=gb180) (o := .cells #[.slice none 0 0, .bool false] 51 (0,0)) (by (with_reducible repeat (first|refine kn' ?_ _|refine kd' ?_|refine ka' ?_ _));exact BK180.out)):gb180≠gb184));have n9_:=am' ((by rw[hg];exact Nat.ne_of_gt (blk_lt (g:=gb180) (o := .cells #[.slice none 0 0, .bool false] 51 (0,0)) (by (with_reducible repeat (first|refine kn' ?_ _|refine kd' ?_|refine ka' ?_ _));exact BK180.out)):gb184≠gb180));clear BK179;clear BK180;clear HB;have BK179:=n0_;have BK180:=n1_;have HB:=n2_;have BK184:=n3_;have GW184:=n4_;have GE184:=n5_;have NB179_184:=n6_;have NB184_179:=n7_;have NB180_184:=n8_;have NB184_180:=n9_;clear n0_ n1_ n2_ n3_ n4_ n5_ n6_ n7_ n8_ n9_;clear hb hbox hg;refine hK.out _ _ ⟨(blk_cell BK179.out 0).trans rfl,(blk_cell BK179.out 1).trans rfl⟩ (fun hHeld=>?_);clear hK K;refine norm_ (a':=?_) ?_ ?_
   rotate_left
   ·
    show Act.put _ (some 5) _=_
    simp only[Act.put,sa',sb',sc',i64_w,i32_w];rfl
   refine one_ (i:=2) (N:=some 10) #[true,true,true,true,true,true,false,true,false] rfl rfl (one_of HT_.out (by kernel_rfl)) (by decide) (fun K hK=>?_);refine goes_ Try.func124 (by kernel_rfl) rfl #[.slice A0_0 l0_0.length c0_0] (by rfl) rfl rfl (by (try simp only[List.map_toArray,List.map_cons,List.map_nil]);first|done|rfl|(simp only[List.length_drop,List.length_take];rfl)) ?_
   with_reducible refine (slices_Clone_bool_bool.calls _ _ l0_0 t181 _ ?side1 ?side2 A3.out).mono ?_
   (case side1=>repeat (first|exact (Kd.C_below HR0_0.out HB.out)|(with_reducible refine ca' ?_ _)|(with_reducible refine cn' ?_ _)|(with_reducible refine cd' ?_)))
   (case side2=>exact HC0_0.out)
   rintro e w8 ⟨v182,rfl,ho0,hb⟩
   refine ⟨_,rfl,?_⟩;have n0_:=am' (Kd.R_lower ho0 (below_size (by repeat (first|(with_reducible first|exact HB.out|apply ba'|apply bd'|apply be'|refine bs' ?_ GE179.out|refine bs' ?_ GE180.out|refine bs' ?_ GE184.out)|exact HB.out))));have n1_:=am' (blk_below (g:=gb179) (o := .cells #[.slice A0_0 l0_0.length c0_0, .bool a0_1] 51 (0,0)) (by (with_reducible repeat (first|refine kn' ?_ _|refine kd' ?_|refine ka' ?_ _));exact BK179.out) hb);have n2_:=am' (blk_below (g:=gb180) (o := .cells #[.slice none 0 0, .bool false] 51 (0,0)) (by (with_reducible repeat (first|refine kn' ?_ _|refine kd' ?_|refine ka' ?_ _));exact BK180.out) hb);have n3_:=am' (blk_below (g:=gb184) (o := .cells #[.slice none 0 0, .bool false] 51 (0,0)) (by (with_reducible repeat (first|refine kn' ?_ _|refine kd' ?_|refine ka' ?_ _));exact BK184.out) hb);have n4_:=am' (below_step (by repeat (first|(with_reducible first|exact HB.out|apply ba'|apply bd'|apply be'|refine bs' ?_ GE179.out|refine bs' ?_ GE180.out|refine bs' ?_ GE184.out)|exact HB.out)) hb);clear BK179;clear BK180;clear BK184;clear HB;have HO183:=n0_;have BK179:=n1_;have BK180:=n2_;have BK184:=n3_;have HB:=n4_;clear n0_ n1_ n2_ n3_ n4_;(try clear hb)
   (try clear hb2)
   (try clear hk)
   (try clear hi)
   (try clear ho0)
   obtain ⟨Ao9,co9,eo9⟩:=Kd.R_slice HO183.out
   (first|subst eo9|(injection eo9 with f1_ f2_ f3_;have f4_:=f1_.symm;have f5_:=f3_.symm;clear f1_ f2_ f3_;subst f4_;subst f5_))
   refine hK.out _ _ ⟨(blk_cell BK179.out 0).trans rfl,(blk_cell BK179.out 1).trans rfl⟩ (fun hHeld=>?_);clear hK K;refine norm_ (a':=?_) ?_ ?_
   rotate_left
   ·
    show Act.put _ (some 10) _=_
    simp only[Act.put,sa',sb',sc',i64_w,i32_w];rfl
   refine pure_ (i:=6) (N:=some 14) (v:=?_) (a':=?_) #[true,true,true,true,true,true,true,true,false] rfl rfl (any_of HT_.out (by kernel_rfl)) (fun _ _ _ h=>h) (Or.inl ⟨by rfl,?_⟩) ?_ ?_
   rotate_left
   ·
    intro w';go_simp;with_reducible rfl
   rotate_left
   ·
    simp only[Act.put,sa',sb',sc',i64_w,i32_w];rfl
   exact norm_ (by simp only[putAll,Act.put,sa',sb',sc']) (hCont (.slice Ao9 t181.length co9,gb184) _ ⟨hHeld,(by (with_reducible repeat (first|apply ra'|apply rn'|apply rw'));exact HO183.out),(by (with_reducible repeat (first|refine kn' ?_ _|refine kd' ?_|refine ka' ?_ _));exact BK179.out),(by (with_reducible repeat (first|refine kn' ?_ _|refine kd' ?_|refine ka' ?_ _));exact BK180.out),(by (with_reducible repeat (first|refine kn' ?_ _|refine kd' ?_|refine ka' ?_ _));exact BK184.out),GW184.out,GE184.out,NB179_184.out,NB184_179.out,NB180_184.out,NB184_180.out,(by repeat (first|(with_reducible first|exact HB.out|apply ba'|apply bd'|apply be'|refine bs' ?_ GE179.out|refine bs' ?_ GE180.out|refine bs' ?_ GE184.out)|exact HB.out))⟩)
 rintro ⟨v182,gb184⟩ w10 ⟨hS_,h0_,h1_,h2_,h3_,h4_,h5_,h6_,h7_,h8_,h9_,h10_⟩
 have n0_:Aside0 (Kd.R Kd.bool 4 w10 w.heap.size (fun _=>True) v182 t181):=⟨h0_⟩
 have n1_:Aside0 (w10.heap[gb179]? = some (.cells #[.slice A0_0 l0_0.length c0_0, .bool a0_1] 51 (0,0))):=⟨h1_⟩
 have n2_:Aside0 (w10.heap[gb180]? = some (.cells #[.slice none 0 0, .bool false] 51 (0,0))):=⟨h2_⟩
 have n3_:Aside0 (w10.heap[gb184]? = some (.cells #[.slice none 0 0, .bool false] 51 (0,0))):=⟨h3_⟩
 have n4_:Aside0 (w.heap.size≤gb184):=⟨h4_⟩
 have n5_:Aside0 (w.heap.size≤gb184):=⟨h5_⟩
 have n6_:Aside0 (gb179≠gb184):=⟨h6_⟩
 have n7_:Aside0 (gb184≠gb179):=⟨h7_⟩
 have n8_:Aside0 (gb180≠gb184):=⟨h8_⟩
 have n9_:Aside0 (gb184≠gb180):=⟨h9_⟩
 have n10_:Aside0 (Below w.heap.size w w10):=⟨h10_⟩
 clear BK179;clear BK180;clear HB;clear h0_ h1_ h2_ h3_ h4_ h5_ h6_ h7_ h8_ h9_ h10_;have HO183:=n0_;have BK179:=n1_;have BK180:=n2_;have BK184:=n3_;have GW184:=n4_;have GE184:=n5_;have NB179_184:=n6_;have NB184_179:=n7_;have NB180_184:=n8_;have NB184_180:=n9_;have HB:=n10_;clear n0_ n1_ n2_ n3_ n4_ n5_ n6_ n7_ n8_ n9_ n10_;have hHeld:w10.cell? ⟨gb179,0,none⟩=some (.slice A0_0 l0_0.length c0_0)∧w10.cell? ⟨gb179,1,none⟩=some (.bool a0_1):=hS_
 obtain ⟨Ao11,co11,eo11⟩:=Kd.R_slice HO183.out
 (first|subst eo11|(injection eo11 with f1_ f2_ f3_;have f4_:=f1_.symm;have f5_:=f3_.symm;clear f1_ f2_ f3_;subst f4_;subst f5_))
 refine norm_ (a':=?_) ?_ ?_
 rotate_left
 ·
  simp only[putAll,Act.put,sa',sb',sc'];rfl
 refine one_ (i:=8) (N:=none) #[true,true,true,true,true,true,true,true,true] rfl rfl (one_of HT_.out (by kernel_rfl)) (by decide) (fun K hK=>?_)
 have hs12:w10.cell? ⟨gb184,0,none⟩=some (.slice none 0 0):=(blk_cell BK184.out 0).trans rfl
 have hfs12:=blk_frozen BK184.out 0
 have hns12_0:=NB179_184.out
 have hns12_1:=NB180_184.out
 have hms12_0:=NB184_179.out
 have hms12_1:=NB184_180.out
 have hs13:w10.cell? ⟨gb184,1,none⟩=some (.bool false):=(blk_cell BK184.out 1).trans rfl
 have hfs13:=blk_frozen BK184.out 1
 have hns13_0:=NB179_184.out
 have hns13_1:=NB180_184.out
 have hms13_0:=NB184_179.out
 have hms13_1:=NB184_180.out
 refine skip_ (w1:=?_) (by rfl) rfl ?_ ?_
 rotate_left
 ·
  go_simp;rfl
 refine hK.out _ _ ⟨((cell_far (p:=⟨gb184,_,none⟩) NB179_184.out _).trans (((cell_far (p:=⟨gb184,_,none⟩) NB179_184.out _).trans (hHeld.1)))),((cell_far (p:=⟨gb184,_,none⟩) NB179_184.out _).trans (((cell_far (p:=⟨gb184,_,none⟩) NB179_184.out _).trans (hHeld.2))))⟩ (fun hHeld=>?_)
 clear hK K;refine done_ (done_of HT_.out (by kernel_rfl)) ?_
 try go_wp2
 go_loopg [17] k (fun kq v17 w'=>∃ (x17_1:Int) (x185000_1:List Bool) (u185000:Value),v17 = .int .i64 x17_1∧Aside0 (impl_State_moved.l0 kq l1 (l1.length:Int) x17_1 x185000_1 (!a0_1)=some (r1,r2))∧Aside0 (kq≤k)∧Aside0 (Kd.R Kd.bool 4 w' w.heap.size (fun _=>True) u185000 x185000_1)∧Aside0 (w'.heap[gb179]? = some (.cells #[(.slice A0_0 l0_0.length c0_0), .bool a0_1] 51 (0,0)))∧Aside0 (w'.heap[gb180]? = some (.cells #[(.slice none 0 0), .bool false] 51 (0,0)))∧Aside0 (w'.heap[gb184]? = some (.cells #[u185000, .bool (!a0_1)] 51 (0,0)))∧Aside0 (Below w.heap.size w w'))
 case atStart=>exact ⟨(0),(t181),(.slice Ao11 t181.length co11),(by first|rfl|(simp;done)|(simp[*];done)),H',⟨Nat.le_refl _⟩,⟨by (with_reducible repeat (first|apply ra'|apply rn'|apply rw'));exact Kd.R_mono (Kd.R_far (p:=⟨gb184,1,none⟩) (Kd.R_far (p:=⟨gb184,0,none⟩) (Kd.R_types HO183.out BK184.out (by decide)) (fun _ hk=>hk.2) (.slice Ao11 t181.length co11)) (fun _ hk=>hk.2) (.bool (!a0_1))) (fun _ hk=>trivial)⟩,⟨by (with_reducible repeat (first|refine kn' ?_ _|refine kd' ?_|refine ka' ?_ _));refine blk_far ?_ NB179_184.out _;(with_reducible repeat (first|refine kn' ?_ _|refine kd' ?_|refine ka' ?_ _));refine blk_far ?_ NB179_184.out _;(with_reducible repeat (first|refine kn' ?_ _|refine kd' ?_|refine ka' ?_ _));exact BK179.out⟩,⟨by (with_reducible repeat (first|refine kn' ?_ _|refine kd' ?_|refine ka' ?_ _));refine blk_far ?_ NB180_184.out _;(with_reducible repeat (first|refine kn' ?_ _|refine kd' ?_|refine ka' ?_ _));refine blk_far ?_ NB180_184.out _;(with_reducible repeat (first|refine kn' ?_ _|refine kd' ?_|refine ka' ?_ _));exact BK180.out⟩,⟨by (with_reducible repeat (first|refine kn' ?_ _|refine kd' ?_|refine ka' ?_ _));refine blk_put (cs:=#[.slice Ao11 t181.length co11, .bool false]) ?_ 1 _ rfl;(with_reducible repeat (first|refine kn' ?_ _|refine kd' ?_|refine ka' ?_ _));refine blk_put (cs:=#[.slice none 0 0, .bool false]) ?_ 0 _ rfl;(with_reducible repeat (first|refine kn' ?_ _|refine kd' ?_|refine ka' ?_ _));exact BK184.out⟩,⟨by repeat (first|(with_reducible first|exact HB.out|apply ba'|apply bd'|apply be'|refine bs' ?_ GE179.out|refine bs' ?_ GE180.out|refine bs' ?_ GE184.out)|exact HB.out)⟩⟩
 case round =>
  clear H';try clear c1
  try clear p2
  try clear c9
  try clear c12
  obtain ⟨x17_1,x185000_1,u185000,rfl,HA,HK1,HO_185000,BK179,BK180,BK184,HB⟩:=hrel;cases gk with
  | zero=>exact absurd HA.out (by simp[impl_State_moved.l0])
  | succ k1 =>
   have H:=HA.out;clear HA;simp only[impl_State_moved.l0] at H;by_cases c14:x17_1 < (l1.length:Int)
   ·
    rw[if_pos c14] at H;have c14b0:decide (x17_1 < (l1.length:Int))=true:=decide_eq_true c14;clear c14;by_cases c15:0≤x17_1
    ·
     rw[if_pos c15] at H;have c15b0:decide (0≤x17_1)=true:=decide_eq_true c15;clear c15;by_cases c16:x17_1 < (l1.length:Int)
     ·
      rw[if_pos c16] at H;have c16b0:decide (x17_1 < (l1.length:Int))=true:=decide_eq_true c16;clear c16;by_cases c17:0≤(rd l1 x17_1)
      ·
       rw[if_pos c17] at H;have c17b0:decide (0≤(rd l1 x17_1))=true:=decide_eq_true c17;clear c17;by_cases c18:(rd l1 x17_1) < (x185000_1.length:Int)
       ·
        rw[if_pos c18] at H;have c18b0:decide ((rd l1 x17_1) < (x185000_1.length:Int))=true:=decide_eq_true c18;clear c18;obtain ⟨y186,hy186⟩:∃ y_:List Bool,y_=(x185000_1.set ((rd l1 x17_1):Int).toNat (!a0_1)):=⟨_,rfl⟩
        replace H:(impl_State_moved.l0 k1 l1 (l1.length:Int) (wrap64 (x17_1+1)) y186 (!a0_1))=some (r1,r2):=by first|(rw[hy186];with_reducible exact H)|(have H2_:=(Option.bind_some _ _).symm.trans H;rw[hy186];with_reducible exact H2_)|(have H2_:=(Option.bind_some _ _).symm.trans H;with_reducible exact H2_)|with_reducible exact H|(rw[hy186];exact H)|exact H
        have Ny186:=am' hy186;clear hy186;have H':=am' H;clear H;have p185:0≤(x17_1:Int):=of_decide_eq_true (by first|(with_reducible assumption)|assumption);have q185:x17_1 < (l1.length:Int):=of_decide_eq_true (by first|(with_reducible assumption)|assumption);obtain ⟨ad185,e185,hx185_0⟩:=Kd.at_int HR1.out x17_1 p185 q185;cases e185;replace hx185_0:=(HB.out.cell (bl' w _ hx185_0)).trans hx185_0;replace p185:=eq_true p185;replace q185:=eq_true q185;have hnb20:=NB184_179.out;have hnc20:=NB179_184.out;have hnb21:=NB184_180.out;have hnc21:=NB180_184.out;have hcz22_0:wr.cell? ⟨gb184,0,none⟩=some (u185000):=(blk_cell BK184.out 0).trans rfl;have hcz22_1:wr.cell? ⟨gb184,1,none⟩=some (.bool (!a0_1)):=(blk_cell BK184.out 1).trans rfl;have hfz22_0:=blk_frozen BK184.out 0;have hfz22_1:=blk_frozen BK184.out 1;have p19:0≤((rd l1 x17_1):Int):=of_decide_eq_true (by first|(with_reducible assumption)|assumption);have q19:((rd l1 x17_1):Int) < ((x185000_1.length:Int):Int):=of_decide_eq_true (by first|(with_reducible assumption)|assumption);obtain ⟨go19,co19,eo19,gb19,gl19,cl19,HG19⟩:=Kd.R_form HO_185000.out (by omega)
        (first|cases eo19|(injection eo19 with ea_ en_ ec_;(first|subst ea_|(injection ea_ with ea_;subst ea_));subst ec_;clear en_))
        have GB19:=am' gb19;have GG19:=am' HG19;clear gb19 gl19 HG19;obtain ⟨hx19_0,hf19_0⟩:=Kd.R_celln false HO_185000.out ((rd l1 x17_1):Int) p19 q19;replace p19:=eq_true p19;replace q19:=eq_true q19;have HP23:=Kd.R_putg HO_185000.out ((rd l1 x17_1):Int) (!a0_1);go_wp2_with (first|((with_reducible refine gate_store (t:=4) (p:=26) rfl ?_);refine store_event (t:=4) (p:=26) (v:=?vo_w24) (w1:=(wr.setCell ⟨go19,((rd l1 x17_1):Int).toNat,none⟩ (.bool (!a0_1)))) ?hg ?ho ?hn ?hr ?_;(case ho=>rfl);(case hg=>rfl);(case hn=>rfl);(case hr=>first|(go_simp;done)|(go_simp;rfl));intro w24 hw;have hg:wr.grownBy w24 (some go19):=(by rw[hw];exact HP23.2);have hp_:Kd.R Kd.bool 4 w24 w.heap.size (fun _=>True) (.slice (some ⟨go19,0,none⟩) x185000_1.length co19) y186:=(by rw[hw,Ny186.out];exact HP23.1);clear HP23;have n0_:=am' (hp_);have n1_:=am' (blk_grown (g:=gb179) (o := .cells #[.slice A0_0 l0_0.length c0_0, .bool a0_1] 51 (0,0)) (by (with_reducible repeat (first|refine kn' ?_ _|refine kd' ?_|refine ka' ?_ _));exact BK179.out) hg (Kd.R_ne HO_185000.out BK179.out (by decide)));have n2_:=am' (blk_grown (g:=gb180) (o := .cells #[.slice none 0 0, .bool false] 51 (0,0)) (by (with_reducible repeat (first|refine kn' ?_ _|refine kd' ?_|refine ka' ?_ _));exact BK180.out) hg (Kd.R_ne HO_185000.out BK180.out (by decide)));have n3_:=am' (blk_grown (g:=gb184) (o := .cells #[.slice (some ⟨go19,0,none⟩) x185000_1.length co19, .bool (!a0_1)] 51 (0,0)) (by (with_reducible repeat (first|refine kn' ?_ _|refine kd' ?_|refine ka' ?_ _));exact BK184.out) hg (Kd.R_ne HO_185000.out BK184.out (by decide)));have n4_:=am' ((by rw[hw];exact bs' (HB.out) GB19.out:Below w.heap.size w w24));clear HO_185000;clear BK179;clear BK180;clear BK184;clear HB;have HO_185000:=n0_;have BK179:=n1_;have BK180:=n2_;have BK184:=n3_;have HB:=n4_;clear n0_ n1_ n2_ n3_ n4_;clear hg hw hp_));go_roundg k1
        case measure=>have:=HK1.out;omega
        case rel=>exact ⟨(wrap64 (x17_1+1)),(y186),(.slice (some ⟨go19,0,none⟩) x185000_1.length co19),(by first|rfl|(simp;done)|(simp[*];done)),H',⟨by have:=HK1.out;omega⟩,⟨by (with_reducible repeat (first|apply ra'|apply rn'|apply rw'));exact HO_185000.out⟩,⟨by (with_reducible repeat (first|refine kn' ?_ _|refine kd' ?_|refine ka' ?_ _));exact BK179.out⟩,⟨by (with_reducible repeat (first|refine kn' ?_ _|refine kd' ?_|refine ka' ?_ _));exact BK180.out⟩,⟨by (with_reducible repeat (first|refine kn' ?_ _|refine kd' ?_|refine ka' ?_ _));exact BK184.out⟩,⟨by repeat (first|(with_reducible first|exact HB.out|apply ba'|apply bd'|apply be'|refine bs' ?_ GE179.out|refine bs' ?_ GE180.out|refine bs' ?_ GE184.out)|exact HB.out)⟩⟩
       ·
        rw[if_neg c18] at H;exact absurd H (by simp)
      ·
       rw[if_neg c17] at H;exact absurd H (by simp)
     ·
      rw[if_neg c16] at H;exact absurd H (by simp)
    ·
     rw[if_neg c15] at H;exact absurd H (by simp)
   ·
    rw[if_neg c14] at H;have c14b0:decide (x17_1 < (l1.length:Int))=false:=decide_eq_false c14;clear c14;simp only[Option.some.injEq,Prod.mk.injEq] at H;obtain ⟨rfl,rfl⟩:=H;have hnb25:=NB184_179.out;have hnc25:=NB179_184.out;have hnb26:=NB184_180.out;have hnc26:=NB180_184.out;have hcz27_0:wr.cell? ⟨gb184,0,none⟩=some (u185000):=(blk_cell BK184.out 0).trans rfl;have hcz27_1:wr.cell? ⟨gb184,1,none⟩=some (.bool (!a0_1)):=(blk_cell BK184.out 1).trans rfl;have hfz27_0:=blk_frozen BK184.out 0;have hfz27_1:=blk_frozen BK184.out 1;obtain ⟨Ao28,co28,eo28⟩:=Kd.R_slice HO_185000.out;subst eo28;have hnb29:=NB180_179.out;have hnc29:=NB179_180.out;have hcz30_0:wr.cell? ⟨gb180,0,none⟩=some (.slice none 0 0):=(blk_cell BK180.out 0).trans rfl;have hcz30_1:wr.cell? ⟨gb180,1,none⟩=some (.bool false):=(blk_cell BK180.out 1).trans rfl;have hfz30_0:=blk_frozen BK180.out 0;have hfz30_1:=blk_frozen BK180.out 1;go_wp2;refine bodyPost_ret (results_cell_row rfl _ _ gb180 51 #[.slice Ao28 x185000_1.length co28, .bool (!a0_1)] (0,0) _ rfl (by (with_reducible repeat (first|refine kn' ?_ _|refine kd' ?_|refine ka' ?_ _));refine blk_put (cs:=#[.slice Ao28 x185000_1.length co28, .bool false]) ?_ 1 _ rfl;(with_reducible repeat (first|refine kn' ?_ _|refine kd' ?_|refine ka' ?_ _));refine blk_put (cs:=#[.slice none 0 0, .bool false]) ?_ 0 _ rfl;(with_reducible repeat (first|refine kn' ?_ _|refine kd' ?_|refine ka' ?_ _));exact BK180.out) Try.underlying51 rfl (by kernel_rfl)) rfl ?_
    exact ⟨_,by first|rfl|(simp[errW_none,errW_some] <;> rfl)|(simp[*,errW_none,errW_some] <;> rfl),by (with_reducible repeat (first|apply ra'|apply rn'|apply rw'));exact Kd.R_mono (Kd.R_far (p:=⟨gb180,1,none⟩) (Kd.R_far (p:=⟨gb180,0,none⟩) (Kd.R_types HO_185000.out BK180.out (by decide)) (fun _ hk=>hk.2) (.slice Ao28 x185000_1.length co28)) (fun _ hk=>hk.2) (.bool (!a0_1))) (fun _ hk=>trivial),by repeat (first|(with_reducible first|exact HB.out|apply ba'|apply bd'|apply be'|refine bs' ?_ GE179.out|refine bs' ?_ GE180.out|refine bs' ?_ GE184.out)|exact HB.out)⟩
theorem in_calls (x lo hi:Int) (w:World):Calls Try.prog 72 #[.int .i64 x, .int .i64 lo, .int .i64 hi] w fun e w'=>e = .returned (.bool (inB lo hi x))∧Below w.heap.size w w' :=
 (impl_in.calls x lo hi (inB lo hi x) w (by unfold impl_in.f inB;by_cases h:lo≤x <;> simp[h])).mono fun e w' ⟨he,hd⟩=>⟨he,hd.below⟩
theorem areIn1_calls (x lo hi:Int) (b1 b2:Nat) (w:World) (h1:w.cell? ⟨b1,0,none⟩=some (.int .i64 lo)) (h2:w.cell? ⟨b2,0,none⟩=some (.int .i64 hi)) :
  Calls Try.prog 126 #[.int .i64 x, .pointer (some ⟨b1,0,none⟩), .pointer (some ⟨b2,0,none⟩)] w fun e w'=>e = .returned (.bool (!inB lo hi x))∧Below w.heap.size w w':=by
 go_enter Try.func126,Try.ntmps126
 go_wp2_with (go_at_call 72;refine (in_calls _ _ _ _).mono ?_;rintro e w' ⟨rfl,hb⟩)
 go_ret
 exact ⟨rfl,hb⟩
theorem areIn_pred (lo hi:Int) (b1 b2:Nat) (xs:List Int) (w:World) (h1:w.cell? ⟨b1,0,none⟩=some (.int .i64 lo)) (h2:w.cell? ⟨b2,0,none⟩=some (.int .i64 hi)) :
  PredOn 126 #[.pointer (some ⟨b1,0,none⟩), .pointer (some ⟨b2,0,none⟩)] (fun x => !inB lo hi x) xs w:=fun x _ W hb =>
 areIn1_calls x lo hi b1 b2 W ((hb.cell (bl' w _ h1)).trans h1) ((hb.cell (bl' w _ h2)).trans h2)
def impl_areIn.f (l0:List Int) (a1 a2 a3 a4:Int):Option Bool:=some (inB a3 a4 (l0.length:Int) && l0.all (inB a1 a2))
set_option maxHeartbeats 2000000 in
set_option maxRecDepth 100000 in
theorem impl_areIn.calls (A0:Option Addr) (c0:Nat) (l0:List Int) (a1 a2 a3 a4:Int) (r:Bool) (w:World) (hr0:Kd.C (Kd.int .i64) w A0 l0.length l0) (hc0:l0.length≤c0) (h:impl_areIn.f l0 a1 a2 a3 a4=some r) :
  Calls Try.prog 96 #[.slice A0 l0.length c0, .int .i64 a1, .int .i64 a2, .int .i64 a3, .int .i64 a4] w fun e w'=>e = .returned (.bool r)∧Below w.heap.size w w':=by
 have hbig:l0.length≤9223372036854775807:=hr0.2.1
 have HC:=am' (fun (w1:World) (h1:Below w.heap.size w w1) (b1 b2:Nat) (e1:w1.cell? ⟨b1,0,none⟩=some (.int .i64 a1)) (e2:w1.cell? ⟨b2,0,none⟩=some (.int .i64 a2)) =>
  ContainsFunc_any 126 #[.pointer (some ⟨b1,0,none⟩), .pointer (some ⟨b2,0,none⟩)] (fun x => !inB a1 a2 x) (enters_of Try.func126 (by kernel_rfl) rfl) A0 c0 l0 w1 (Kd.C_below hr0 h1) hc0 hbig (areIn_pred a1 a2 b1 b2 l0 w1 e1 e2))
 clear hr0;cases hi:inB a3 a4 (l0.length:Int) with
 | false =>
  obtain rfl:false=r:=by unfold impl_areIn.f at h;simpa [hi] using h
  clear h;go_enter Try.func96,Try.ntmps96;go_wp2_with (go_at_call 72;refine (in_calls _ _ _ _).mono ?_;rintro e w' ⟨rfl,hb⟩);go_ret
  exact ⟨rfl,(after_alloc (after_alloc hb).1).1⟩
 | true =>
  obtain rfl:l0.all (inB a1 a2)=r:=by unfold impl_areIn.f at h;simpa [hi] using h
  clear h;go_enter Try.func96,Try.ntmps96;go_wp2_with (go_at_call 72;refine (in_calls _ _ _ _).mono ?_;rintro e w' ⟨rfl,hb⟩);have h2:=after_alloc hb;have h1:=after_alloc h2.1;rw[World.size_alloc] at h2;refine (HC.out w' h1.1 _ _ ((blk_cell h1.2 0).trans rfl) ((blk_cell h2.2 0).trans rfl)).mono ?_
  rintro e w2 ⟨rfl,hb2⟩
  clear hb h2;have HB2:=am' (below_step h1.1 hb2);clear h1 hb2;go_wp2;go_ret
  refine ⟨?_,HB2.out⟩;rw[← any_not_all];rfl
def impl_rises.l0:Nat→List Int→Int→Option (Bool)
 | 0,_,_=>none
 | k+1,x0,x3=>if x3 < (x0.length:Int) then (if 0≤x3 then (if 0≤(wrap64 (x3 - 1)) then (if (wrap64 (x3 - 1)) < (x0.length:Int) then (if (rd x0 x3)≤(rd x0 (wrap64 (x3 - 1))) then (some false) else (impl_rises.l0 k x0 (wrap64 (x3+1)))) else (none)) else (none)) else (none)) else (some true)
def impl_rises.f (k:Nat) (l0:List Int):Option (Bool):=impl_rises.l0 k l0 1
theorem impl_rises.mono_l:∀ k,(∀ y0 y1,LeO (impl_rises.l0 k y0 y1) (impl_rises.l0 (k+1) y0 y1))
 | 0=>fun _ _ r h=>by simp[impl_rises.l0] at h
 | k+1=>by
  have ih0:=impl_rises.mono_l k
  ·
   intro y0 y1;unfold impl_rises.l0
   repeat' first
   | (with_reducible exact ih0 _ _)
   | (with_reducible exact LeO.refl _)
   | (with_reducible exact LeO.none _)
   | (with_reducible refine LeO.ite ?_ ?_)
   | (with_reducible refine LeO.bind ?_ (fun _=>?_))
   | exact ih0 _ _
   | exact LeO.none _
   | refine LeO.ite ?_ ?_
   | refine LeO.bind ?_ (fun _=>?_)
theorem impl_rises.mono:∀ a0 k,LeO (impl_rises.f k a0) (impl_rises.f (k+1) a0):=by
 intro a0 k;have ih0:=impl_rises.mono_l k
 unfold impl_rises.f
 repeat' first
   | (with_reducible exact ih0 _ _)
   | (with_reducible exact LeO.refl _)
   | (with_reducible exact LeO.none _)
   | (with_reducible refine LeO.ite ?_ ?_)
   | (with_reducible refine LeO.bind ?_ (fun _=>?_))
   | exact ih0 _ _
   | exact LeO.none _
   | refine LeO.ite ?_ ?_
   | refine LeO.bind ?_ (fun _=>?_)
set_option maxHeartbeats 8000000 in
set_option maxRecDepth 100000 in
theorem impl_rises.calls (k:Nat) (A0:Option Addr) (c0:Nat) (l0:List Int) (r:Bool) (w:World) (hr0:Kd.C (Kd.int .i64) w A0 l0.length l0) (hc0:l0.length≤c0) (h:impl_rises.f k l0=some r) :
  Calls Try.prog 97 #[.slice A0 l0.length c0] w fun e w'=>e = .returned (.bool r)∧Drawn0 w w':=by
 have HR0:=am' hr0
 have HC0:=am' hc0
 clear hr0 hc0;have H:(impl_rises.l0 k l0 1)=some r:=h
 clear h;have H':=am' H
 clear H;go_enter Try.func97,Try.ntmps97
 go_wp2
 repeat (go_quiet (fail);try go_wp2)
 go_loopg [3] k (fun kq v3 w'=>∃ (x3_1:Int),v3 = .int .i64 x3_1∧Aside0 (impl_rises.l0 kq l0 x3_1=some r)∧Aside0 (kq≤k)∧Drawn0 w w')
 case atStart=>exact ⟨(1),(by first|rfl|(simp;done)|(simp[*];done)),H',⟨Nat.le_refl _⟩,by repeat (first|exact Drawn0.refl _|apply Drawn0.step)⟩
 case round =>
  clear H';obtain ⟨x3_1,rfl,HA,HK1,⟨m1,rfl⟩⟩:=hrel;cases gk with
  | zero=>exact absurd HA.out (by simp[impl_rises.l0])
  | succ k1 =>
   have H:=HA.out;clear HA;simp only[impl_rises.l0] at H;by_cases c2:x3_1 < (l0.length:Int)
   ·
    rw[if_pos c2] at H;have c2b0:decide (x3_1 < (l0.length:Int))=true:=decide_eq_true c2;clear c2;by_cases c3:0≤x3_1
    ·
     rw[if_pos c3] at H;have c3b0:decide (0≤x3_1)=true:=decide_eq_true c3;clear c3;obtain ⟨ji4,hji4⟩:∃ j_:Int,(wrap64 (x3_1 - 1))=j_:=⟨_,rfl⟩
     replace H:(if 0≤(ji4) then (if (ji4) < (l0.length:Int) then (if (rd l0 x3_1)≤(rd l0 (ji4)) then (some false) else (impl_rises.l0 k1 l0 (wrap64 (x3_1+1)))) else (none)) else (none))=some r:=by first|(rw[hji4] at H;exact H)|(simp only[hji4] at H ⊢;exact H)
     have hji4w:(IntKind.i64.wrap (x3_1 - 1))=ji4:=(i64_w _).trans hji4;by_cases c5:0≤(ji4)
     ·
      rw[if_pos c5] at H;have c5b0:decide (0≤(ji4))=true:=decide_eq_true c5;clear c5;by_cases c6:(ji4) < (l0.length:Int)
      ·
       rw[if_pos c6] at H;have c6b0:decide ((ji4) < (l0.length:Int))=true:=decide_eq_true c6;clear c6;by_cases c7:(rd l0 x3_1)≤(rd l0 (ji4))
       ·
        rw[if_pos c7] at H;have c7b0:decide ((rd l0 x3_1)≤(rd l0 (ji4)))=true:=decide_eq_true c7;clear c7;obtain rfl:=Option.some.inj H;have p187:0≤(x3_1:Int):=of_decide_eq_true (by first|(with_reducible assumption)|assumption);have q187:x3_1 < (l0.length:Int):=of_decide_eq_true (by first|(with_reducible assumption)|assumption);obtain ⟨ad187,e187,hx187_0⟩:=Kd.at_int HR0.out x3_1 p187 q187;cases e187;replace p187:=eq_true p187;replace q187:=eq_true q187;have p188:0≤((ji4):Int):=of_decide_eq_true (by first|(with_reducible assumption)|assumption);have q188:(ji4) < (l0.length:Int):=of_decide_eq_true (by first|(with_reducible assumption)|assumption);obtain ⟨ad188,e188,hx188_0⟩:=Kd.at_int HR0.out (ji4) p188 q188;obtain rfl:ad187=ad188:=(by injection e188)
        replace p188:=eq_true p188;replace q188:=eq_true q188;go_wp2
        repeat (go_quiet (fail);try go_wp2)
        go_ret
        exact ⟨by first|rfl|(simp;done)|(simp only[← hji4] <;> (first|rfl|simp))|(simp[*];done),by repeat (first|exact Drawn0.refl _|apply Drawn0.step)⟩
       ·
        rw[if_neg c7] at H;have c7b0:decide ((rd l0 x3_1)≤(rd l0 (ji4)))=false:=decide_eq_false c7;clear c7;have H':=am' H;clear H;have p187:0≤(x3_1:Int):=of_decide_eq_true (by first|(with_reducible assumption)|assumption);have q187:x3_1 < (l0.length:Int):=of_decide_eq_true (by first|(with_reducible assumption)|assumption);obtain ⟨ad187,e187,hx187_0⟩:=Kd.at_int HR0.out x3_1 p187 q187;cases e187;replace p187:=eq_true p187;replace q187:=eq_true q187;have p188:0≤((ji4):Int):=of_decide_eq_true (by first|(with_reducible assumption)|assumption);have q188:(ji4) < (l0.length:Int):=of_decide_eq_true (by first|(with_reducible assumption)|assumption);obtain ⟨ad188,e188,hx188_0⟩:=Kd.at_int HR0.out (ji4) p188 q188;obtain rfl:ad187=ad188:=(by injection e188)
        replace p188:=eq_true p188;replace q188:=eq_true q188;go_wp2
        repeat (go_quiet (fail);try go_wp2)
        go_roundg k1
        case measure=>have:=HK1.out;omega
        case rel=>exact ⟨(wrap64 (x3_1+1)),(by first|rfl|(simp;done)|(simp[*];done)),H',⟨by have:=HK1.out;omega⟩,by repeat (first|exact Drawn0.refl _|apply Drawn0.step)⟩
      ·
       rw[if_neg c6] at H;exact absurd H (by simp)
     ·
      rw[if_neg c5] at H;exact absurd H (by simp)
    ·
     rw[if_neg c3] at H;exact absurd H (by simp)
   ·
    rw[if_neg c2] at H;have c2b0:decide (x3_1 < (l0.length:Int))=false:=decide_eq_false c2;clear c2;obtain rfl:=Option.some.inj H;go_wp2
    repeat (go_quiet (fail);try go_wp2)
    go_ret
    exact ⟨by first|rfl|(simp;done)|(simp[*];done),by repeat (first|exact Drawn0.refl _|apply Drawn0.step)⟩
set_option maxHeartbeats 2000000 in
set_option maxRecDepth 100000 in
theorem are1_calls (x:Int) (b1 b2:Nat) (A:Option Addr) (c:Nat) (l0:List Bool) (t over:Bool) (w:World) (h1:w.heap[b1]? = some (.cells #[.slice A l0.length c, .bool t] 51 (0,0))) (h2:w.cell? ⟨b2,0,none⟩=some (.bool over)) (hr:Kd.C Kd.bool w A l0.length l0) (hx0:0≤x) (hx1:x < (l0.length:Int)) :
  Calls Try.prog 137 #[.int .i64 x, .pointer (some ⟨b1,0,none⟩), .pointer (some ⟨b2,0,none⟩)] w fun e w'=>e = .returned (.bool (rdOf false l0 x != over))∧Below w.heap.size w w':=by
 obtain ⟨ad,e0,hx⟩:=Kd.at_bool hr x hx0 hx1
 cases e0
 have hs:w.cell? ⟨b1,0,none⟩=some (.slice (some ad) l0.length c):=(blk_cell h1 0).trans rfl
 have hbig:=hr.2.1
 have p0:=eq_true hx0
 have p1:=eq_true hx1
 clear hr h1 hx0 hx1;go_enter Try.func137,Try.ntmps137
 go_wp2
 go_quiet (fail)
 go_wp2
 go_ret
 exact ⟨rfl,bd' (Below.refl _ _) _⟩
theorem are_pred (b1 b2:Nat) (A:Option Addr) (c:Nat) (l0:List Bool) (t over:Bool) (xs:List Int) (w:World) (h1:w.heap[b1]? = some (.cells #[.slice A l0.length c, .bool t] 51 (0,0))) (h2:w.cell? ⟨b2,0,none⟩=some (.bool over)) (hr:Kd.C Kd.bool w A l0.length l0) (hx:∀ x ∈ xs,0≤x∧x < (l0.length:Int)) :
  PredOn 137 #[.pointer (some ⟨b1,0,none⟩), .pointer (some ⟨b2,0,none⟩)] (fun x=>rdOf false l0 x != over) xs w:=fun x hm W hb =>
 are1_calls x b1 b2 A c l0 t over W ((hb.block _ (blk_lt h1)).trans h1) ((hb.cell (bl' w _ h2)).trans h2) (Kd.C_below hr hb) (hx x hm).1 (hx x hm).2
def impl_State_are.f (l0_0:List Bool) (a0_1:Bool) (l1:List Int) (a2:Bool):Option Bool:=if l1.all (fun x=>decide (0≤x) && decide (x < (l0_0.length:Int))) then some (l1.all fun x=>rdOf false l0_0 x == a2) else none
set_option maxHeartbeats 2000000 in
set_option maxRecDepth 100000 in
theorem impl_State_are.calls (A0_0:Option Addr) (c0_0:Nat) (l0_0:List Bool) (a0_1:Bool) (A1:Option Addr) (c1:Nat) (l1:List Int) (a2:Bool) (r:Bool) (w:World) (hr0_0:Kd.C Kd.bool w A0_0 l0_0.length l0_0) (hc0_0:l0_0.length≤c0_0) (hr1:Kd.C (Kd.int .i64) w A1 l1.length l1) (hc1:l1.length≤c1) (h:impl_State_are.f l0_0 a0_1 l1 a2=some r) :
  Calls Try.prog 123 #[.agg #[.slice A0_0 l0_0.length c0_0, .bool a0_1], .slice A1 l1.length c1, .bool a2] w fun e w'=>e = .returned (.bool r)∧Below w.heap.size w w':=by
 obtain ⟨hin,rfl⟩:(∀ x ∈ l1,0≤x∧x < (l0_0.length:Int))∧(l1.all fun x=>rdOf false l0_0 x == a2)=r:=by
  unfold impl_State_are.f at h
  by_cases hc:l1.all (fun x=>decide (0≤x) && decide (x < (l0_0.length:Int)))=true
  ·
   rw[if_pos hc] at h;refine ⟨fun x hx=>?_,Option.some.inj h⟩;have:=List.all_eq_true.1 hc x hx;simpa using this
  ·
   rw[if_neg hc] at h;cases h
 have HC:=am' (fun (w1:World) (h1:Below w.heap.size w w1) (b1 b2:Nat) (e1:w1.heap[b1]? = some (.cells #[.slice A0_0 l0_0.length c0_0, .bool a0_1] 51 (0,0))) (e2:w1.cell? ⟨b2,0,none⟩=some (.bool a2)) =>
  ContainsFunc_any 137 #[.pointer (some ⟨b1,0,none⟩), .pointer (some ⟨b2,0,none⟩)] (fun x=>rdOf false l0_0 x != a2) (enters_of Try.func137 (by kernel_rfl) rfl) A1 c1 l1 w1 (Kd.C_below hr1 h1) hc1 hr1.2.1 (are_pred b1 b2 A0_0 c0_0 l0_0 a0_1 a2 l1 w1 e1 e2 (Kd.C_below hr0_0 h1) hin))
 clear hr0_0 hr1 h hin;have hu:=Try.underlying51
 go_enter Try.func123,Try.ntmps123
 go_wp2_with (fail)
 have hb1:Below w.heap.size w (w.alloc (.cells #[.slice A0_0 l0_0.length c0_0, .bool a0_1] 51)):=(Below.refl _ _).alloc (Nat.le_refl _) _
 refine (HC.out _ ?_ _ _ ?_ ?_).mono ?_
 ·
  exact ((Below.refl _ _).alloc (Nat.le_refl _) _).alloc (by rw[World.size_alloc];omega) _
 ·
  exact ((ba' (Below.refl _ _) _).block _ (by rw[World.size_alloc];omega)).trans (heap_alloc_new w _)
 ·
  exact cell_two _ _ _ _
 rintro e w2 ⟨rfl,hb2⟩
 have h2:=after_alloc hb2
 have HB2:=am' (after_alloc h2.1).1
 clear hb2 h2 hb1;go_wp2
 go_ret
 refine ⟨?_,HB2.out⟩
 have e:(fun x=>rdOf false l0_0 x != a2)=fun x => !(rdOf false l0_0 x == a2):=by funext x;rfl
 rw[e,← any_not_all]
 rfl
def impl_Company_isRow.f (k:Nat) (a0_0:Int) (a0_1:Int) (l1_0:List Bool) (a1_1:Bool) (l2:List Int):Option (Bool):=(impl_areIn.f l2 0 (wrap64 ((wrap64 (2 * a0_0)) - 1)) 1 a0_1).bind fun t191=>(if t191=true then ((impl_rises.f k l2).bind fun t192=>(if t192=true then ((impl_State_are.f l1_0 a1_1 l2 a1_1).bind fun t193=>(if t193=true then ((impl_calm.f k l2).bind fun t194=>(if t194=true then ((impl_State_moved.f k l1_0 a1_1 l2).bind fun bt195=>((impl_State_isCalm.f k bt195.1 bt195.2).bind fun t199=>(some t199))) else (some false))) else (some false))) else (some false))) else (some false))
theorem impl_Company_isRow.mono:∀ a0 a1 a2 a3 a4 k,LeO (impl_Company_isRow.f k a0 a1 a2 a3 a4) (impl_Company_isRow.f (k+1) a0 a1 a2 a3 a4):=by
 intro a0 a1 a2 a3 a4 k;unfold impl_Company_isRow.f
 repeat' first
   | (with_reducible exact impl_State_isCalm.mono _ _ _)
   | (with_reducible exact impl_State_moved.mono _ _ _ _)
   | (with_reducible exact impl_calm.mono _ _)
   | (with_reducible exact impl_rises.mono _ _)
   | (with_reducible exact LeO.refl _)
   | (with_reducible exact LeO.none _)
   | (with_reducible refine LeO.ite ?_ ?_)
   | (with_reducible refine LeO.bind ?_ (fun _=>?_))
   | exact impl_State_isCalm.mono _ _ _
   | exact impl_State_moved.mono _ _ _ _
   | exact impl_calm.mono _ _
   | exact impl_rises.mono _ _
   | exact LeO.none _
   | refine LeO.ite ?_ ?_
   | refine LeO.bind ?_ (fun _=>?_)
set_option maxHeartbeats 8000000 in
set_option maxRecDepth 100000 in
theorem impl_Company_isRow.calls (k:Nat) (a0_0:Int) (a0_1:Int) (A1_0:Option Addr) (c1_0:Nat) (l1_0:List Bool) (a1_1:Bool) (A2:Option Addr) (c2:Nat) (l2:List Int) (r:Bool) (w:World) (hr1_0:Kd.C Kd.bool w A1_0 l1_0.length l1_0) (hc1_0:l1_0.length≤c1_0) (hr2:Kd.C (Kd.int .i64) w A2 l2.length l2) (hc2:l2.length≤c2) (h:impl_Company_isRow.f k a0_0 a0_1 l1_0 a1_1 l2=some r) :
  Calls Try.prog 94 #[.agg #[.int .i64 a0_0, .int .i64 a0_1], .agg #[.slice A1_0 l1_0.length c1_0, .bool a1_1], .slice A2 l2.length c2] w fun e w'=>e = .returned (.bool r)∧Below w.heap.size w w':=by
 have hu40:=Try.underlying40
 have hu51:=Try.underlying51
 have HR1_0:=am' hr1_0
 have HC1_0:=am' hc1_0
 clear hr1_0 hc1_0;have HR2:=am' hr2
 have HC2:=am' hc2
 clear hr2 hc2;have HB:=am' (Below.refl w.heap.size w)
 have H:((impl_areIn.f l2 0 (wrap64 ((wrap64 (2 * a0_0)) - 1)) 1 a0_1).bind fun t191=>(if t191=true then ((impl_rises.f k l2).bind fun t192=>(if t192=true then ((impl_State_are.f l1_0 a1_1 l2 a1_1).bind fun t193=>(if t193=true then ((impl_calm.f k l2).bind fun t194=>(if t194=true then ((impl_State_moved.f k l1_0 a1_1 l2).bind fun bt195=>((impl_State_isCalm.f k bt195.1 bt195.2).bind fun t199=>(some t199))) else (some false))) else (some false))) else (some false))) else (some false)))=some r:=h
 clear h;replace H:=Option.bind_eq_some_iff.mp H
 obtain ⟨t191,A40,H⟩:=H
 replace H:(if t191=true then ((impl_rises.f k l2).bind fun t192=>(if t192=true then ((impl_State_are.f l1_0 a1_1 l2 a1_1).bind fun t193=>(if t193=true then ((impl_calm.f k l2).bind fun t194=>(if t194=true then ((impl_State_moved.f k l1_0 a1_1 l2).bind fun bt195=>((impl_State_isCalm.f k bt195.1 bt195.2).bind fun t199=>(some t199))) else (some false))) else (some false))) else (some false))) else (some false))=some r:=H
 have A4:=am' A40
 clear A40;by_cases c5:t191=true
 ·
  subst c5;have H1:((impl_rises.f k l2).bind fun t192=>(if t192=true then ((impl_State_are.f l1_0 a1_1 l2 a1_1).bind fun t193=>(if t193=true then ((impl_calm.f k l2).bind fun t194=>(if t194=true then ((impl_State_moved.f k l1_0 a1_1 l2).bind fun bt195=>((impl_State_isCalm.f k bt195.1 bt195.2).bind fun t199=>(some t199))) else (some false))) else (some false))) else (some false)))=some r:=by rw[if_pos rfl] at H;exact H
  clear H;have H:=H1;clear H1;replace H:=Option.bind_eq_some_iff.mp H;obtain ⟨t192,A60,H⟩:=H;replace H:(if t192=true then ((impl_State_are.f l1_0 a1_1 l2 a1_1).bind fun t193=>(if t193=true then ((impl_calm.f k l2).bind fun t194=>(if t194=true then ((impl_State_moved.f k l1_0 a1_1 l2).bind fun bt195=>((impl_State_isCalm.f k bt195.1 bt195.2).bind fun t199=>(some t199))) else (some false))) else (some false))) else (some false))=some r:=H;have A6:=am' A60;clear A60;by_cases c7:t192=true
  ·
   subst c7;have H1:((impl_State_are.f l1_0 a1_1 l2 a1_1).bind fun t193=>(if t193=true then ((impl_calm.f k l2).bind fun t194=>(if t194=true then ((impl_State_moved.f k l1_0 a1_1 l2).bind fun bt195=>((impl_State_isCalm.f k bt195.1 bt195.2).bind fun t199=>(some t199))) else (some false))) else (some false)))=some r:=by rw[if_pos rfl] at H;exact H
   clear H;have H:=H1;clear H1;replace H:=Option.bind_eq_some_iff.mp H;obtain ⟨t193,A80,H⟩:=H;replace H:(if t193=true then ((impl_calm.f k l2).bind fun t194=>(if t194=true then ((impl_State_moved.f k l1_0 a1_1 l2).bind fun bt195=>((impl_State_isCalm.f k bt195.1 bt195.2).bind fun t199=>(some t199))) else (some false))) else (some false))=some r:=H;have A8:=am' A80;clear A80;by_cases c9:t193=true
   ·
    subst c9;have H1:((impl_calm.f k l2).bind fun t194=>(if t194=true then ((impl_State_moved.f k l1_0 a1_1 l2).bind fun bt195=>((impl_State_isCalm.f k bt195.1 bt195.2).bind fun t199=>(some t199))) else (some false)))=some r:=by rw[if_pos rfl] at H;exact H
    clear H;have H:=H1;clear H1;replace H:=Option.bind_eq_some_iff.mp H;obtain ⟨t194,A100,H⟩:=H;replace H:(if t194=true then ((impl_State_moved.f k l1_0 a1_1 l2).bind fun bt195=>((impl_State_isCalm.f k bt195.1 bt195.2).bind fun t199=>(some t199))) else (some false))=some r:=H;have A10:=am' A100;clear A100;by_cases c11:t194=true
    ·
     subst c11;have H1:((impl_State_moved.f k l1_0 a1_1 l2).bind fun bt195=>((impl_State_isCalm.f k bt195.1 bt195.2).bind fun t199=>(some t199)))=some r:=by rw[if_pos rfl] at H;exact H
     clear H;have H:=H1;clear H1;replace H:=Option.bind_eq_some_iff.mp H;obtain ⟨⟨t195,t198⟩,A120,H⟩:=H;replace H:((impl_State_isCalm.f k t195 t198).bind fun t199=>(some t199))=some r:=H;have A12:=am' A120;clear A120;replace H:=Option.bind_eq_some_iff.mp H;obtain ⟨t199,A130,H⟩:=H;replace H:(some t199)=some r:=H;have A13:=am' A130;clear A130;obtain rfl:=Option.some.inj H;go_enter Try.func94,Try.ntmps94;go_wp2_with (first|((with_reducible refine gate_dst (N:=3) rfl ?_);refine box_event ?hg (N:=3) ?hd (cs:=#[.int .i64 a0_0, .int .i64 a0_1]) (t:=40) ?hr ?_;(case hd=>rfl);(case hg=>rfl);(case hr=>first|(go_simp;done)|(go_simp;rfl));intro gb189 hg w14 hbox hb;have n0_:=am' (below_step (by repeat (first|(with_reducible first|exact HB.out|apply ba'|apply bd'|apply be')|exact HB.out)) hb);have n1_:=am' (hbox);have n2_:=am' ((by rw[hg];exact (below_size (by repeat (first|(with_reducible first|exact HB.out|apply ba'|apply bd'|apply be')|exact HB.out))):w.heap.size≤gb189));have n3_:=am' ((by rw[hg];exact (below_size (by repeat (first|(with_reducible first|exact HB.out|apply ba'|apply bd'|apply be')|exact HB.out))):w.heap.size≤gb189));clear HB;have HB:=n0_;have BK189:=n1_;have GW189:=n2_;have GE189:=n3_;clear n0_ n1_ n2_ n3_;clear hb hbox hg)|((with_reducible refine gate_dst (N:=4) rfl ?_);refine box_event ?hg (N:=4) ?hd (cs:=#[.slice A1_0 l1_0.length c1_0, .bool a1_1]) (t:=51) ?hr ?_;(case hd=>rfl);(case hg=>rfl);(case hr=>first|(go_simp;done)|(go_simp;rfl));intro gb190 hg w15 hbox hb;have n0_:=am' (blk_below (g:=gb189) (o := .cells #[.int .i64 a0_0, .int .i64 a0_1] 40 (0,0)) (by (with_reducible repeat (first|refine kn' ?_ _|refine kd' ?_|refine ka' ?_ _));exact BK189.out) hb);have n1_:=am' (below_step (by repeat (first|(with_reducible first|exact HB.out|apply ba'|apply bd'|apply be'|refine bs' ?_ GE189.out)|exact HB.out)) hb);have n2_:=am' (hbox);have n3_:=am' ((by rw[hg];exact (below_size (by repeat (first|(with_reducible first|exact HB.out|apply ba'|apply bd'|apply be'|refine bs' ?_ GE189.out)|exact HB.out))):w.heap.size≤gb190));have n4_:=am' ((by rw[hg];exact (below_size (by repeat (first|(with_reducible first|exact HB.out|apply ba'|apply bd'|apply be'|refine bs' ?_ GE189.out)|exact HB.out))):w.heap.size≤gb190));have n5_:=am' ((by rw[hg];exact Nat.ne_of_lt (blk_lt (g:=gb189) (o := .cells #[.int .i64 a0_0, .int .i64 a0_1] 40 (0,0)) (by (with_reducible repeat (first|refine kn' ?_ _|refine kd' ?_|refine ka' ?_ _));exact BK189.out)):gb189≠gb190));have n6_:=am' ((by rw[hg];exact Nat.ne_of_gt (blk_lt (g:=gb189) (o := .cells #[.int .i64 a0_0, .int .i64 a0_1] 40 (0,0)) (by (with_reducible repeat (first|refine kn' ?_ _|refine kd' ?_|refine ka' ?_ _));exact BK189.out)):gb190≠gb189));clear BK189;clear HB;have BK189:=n0_;have HB:=n1_;have BK190:=n2_;have GW190:=n3_;have GE190:=n4_;have NB189_190:=n5_;have NB190_189:=n6_;clear n0_ n1_ n2_ n3_ n4_ n5_ n6_;clear hb hbox hg;have hnb16:=NB189_190.out;have hnc16:=NB190_189.out;have hcz17_0:w15.cell? ⟨gb189,0,none⟩=some (.int .i64 a0_0):=(blk_cell BK189.out 0).trans rfl;have hcz17_1:w15.cell? ⟨gb189,1,none⟩=some (.int .i64 a0_1):=(blk_cell BK189.out 1).trans rfl;have hfz17_0:=blk_frozen BK189.out 0;have hfz17_1:=blk_frozen BK189.out 1)|((with_reducible refine gate_callee (f:=96) rfl ?_);refine goesL_ (some 14) rfl rfl Try.func96 (by kernel_rfl) rfl #[.slice A2 l2.length c2, .int .i64 0, .int .i64 (wrap64 ((wrap64 (2 * a0_0)) - 1)), .int .i64 1, .int .i64 a0_1] rfl (by (try simp only[List.map_toArray,List.map_cons,List.map_nil]);first|done|rfl|(simp only[List.length_drop,List.length_take];rfl)) ?_;(with_reducible refine (impl_areIn.calls _ _ l2 0 (wrap64 ((wrap64 (2 * a0_0)) - 1)) 1 a0_1 true _ ?side1 ?side2 A4.out).mono ?_);(case side1=>repeat (first|exact (Kd.C_below HR2.out HB.out)|(with_reducible refine ca' ?_ _)|(with_reducible refine cn' ?_ _)|(with_reducible refine cd' ?_)));(case side2=>exact HC2.out);rintro e w18 ⟨rfl,hb⟩;refine ⟨_,rfl,?_⟩;have n0_:=am' (blk_below (g:=gb189) (o := .cells #[.int .i64 a0_0, .int .i64 a0_1] 40 (0,0)) (by (with_reducible repeat (first|refine kn' ?_ _|refine kd' ?_|refine ka' ?_ _));exact BK189.out) hb);have n1_:=am' (blk_below (g:=gb190) (o := .cells #[.slice A1_0 l1_0.length c1_0, .bool a1_1] 51 (0,0)) (by (with_reducible repeat (first|refine kn' ?_ _|refine kd' ?_|refine ka' ?_ _));exact BK190.out) hb);have n2_:=am' (below_step (by repeat (first|(with_reducible first|exact HB.out|apply ba'|apply bd'|apply be'|refine bs' ?_ GE189.out|refine bs' ?_ GE190.out)|exact HB.out)) hb);clear BK189;clear BK190;clear HB;have BK189:=n0_;have BK190:=n1_;have HB:=n2_;clear n0_ n1_ n2_;(try clear hb);(try clear hb2);(try clear hk);(try clear hi))|(go_at_call 97;(with_reducible refine (impl_rises.calls k _ _ l2 true _ ?side1 ?side2 A6.out).mono ?_);(case side1=>repeat (first|exact (Kd.C_below HR2.out HB.out)|(with_reducible refine ca' ?_ _)|(with_reducible refine cn' ?_ _)|(with_reducible refine cd' ?_)));(case side2=>exact HC2.out);rintro e w' ⟨rfl,⟨nd,rfl⟩⟩;have hcz19_0:w18.cell? ⟨gb190,0,none⟩=some (.slice A1_0 l1_0.length c1_0):=(blk_cell BK190.out 0).trans rfl;have hcz19_1:w18.cell? ⟨gb190,1,none⟩=some (.bool a1_1):=(blk_cell BK190.out 1).trans rfl;have hfz19_0:=blk_frozen BK190.out 0;have hfz19_1:=blk_frozen BK190.out 1)|(go_at_call 123;(with_reducible refine (impl_State_are.calls _ _ l1_0 a1_1 _ _ l2 a1_1 true _ ?side1 ?side2 ?side3 ?side4 A8.out).mono ?_);(case side1=>repeat (first|exact (Kd.C_below HR1_0.out (by repeat (first|(with_reducible first|exact HB.out|apply ba'|apply bd'|apply be'|refine bs' ?_ GE189.out|refine bs' ?_ GE190.out)|exact HB.out)))|(with_reducible refine ca' ?_ _)|(with_reducible refine cn' ?_ _)|(with_reducible refine cd' ?_)));(case side2=>exact HC1_0.out);(case side3=>repeat (first|exact (Kd.C_below HR2.out (by repeat (first|(with_reducible first|exact HB.out|apply ba'|apply bd'|apply be'|refine bs' ?_ GE189.out|refine bs' ?_ GE190.out)|exact HB.out)))|(with_reducible refine ca' ?_ _)|(with_reducible refine cn' ?_ _)|(with_reducible refine cd' ?_)));(case side4=>exact HC2.out);rintro e w20 ⟨rfl,hb⟩;have n0_:=am' (blk_below (g:=gb189) (o := .cells #[.int .i64 a0_0, .int .i64 a0_1] 40 (0,0)) (by (with_reducible repeat (first|refine kn' ?_ _|refine kd' ?_|refine ka' ?_ _));exact BK189.out) hb);have n1_:=am' (blk_below (g:=gb190) (o := .cells #[.slice A1_0 l1_0.length c1_0, .bool a1_1] 51 (0,0)) (by (with_reducible repeat (first|refine kn' ?_ _|refine kd' ?_|refine ka' ?_ _));exact BK190.out) hb);have n2_:=am' (below_step (by repeat (first|(with_reducible first|exact HB.out|apply ba'|apply bd'|apply be'|refine bs' ?_ GE189.out|refine bs' ?_ GE190.out)|exact HB.out)) hb);clear BK189;clear BK190;clear HB;have BK189:=n0_;have BK190:=n1_;have HB:=n2_;clear n0_ n1_ n2_;(try clear hb);(try clear hb2);(try clear hk);(try clear hi))|(go_at_call 98;(with_reducible refine (impl_calm.calls k _ _ l2 true _ ?side1 ?side2 A10.out).mono ?_);(case side1=>repeat (first|exact (Kd.C_below HR2.out HB.out)|(with_reducible refine ca' ?_ _)|(with_reducible refine cn' ?_ _)|(with_reducible refine cd' ?_)));(case side2=>exact HC2.out);rintro e w21 ⟨rfl,hb⟩;have n0_:=am' (blk_below (g:=gb189) (o := .cells #[.int .i64 a0_0, .int .i64 a0_1] 40 (0,0)) (by (with_reducible repeat (first|refine kn' ?_ _|refine kd' ?_|refine ka' ?_ _));exact BK189.out) hb);have n1_:=am' (blk_below (g:=gb190) (o := .cells #[.slice A1_0 l1_0.length c1_0, .bool a1_1] 51 (0,0)) (by (with_reducible repeat (first|refine kn' ?_ _|refine kd' ?_|refine ka' ?_ _));exact BK190.out) hb);have n2_:=am' (below_step (by repeat (first|(with_reducible first|exact HB.out|apply ba'|apply bd'|apply be'|refine bs' ?_ GE189.out|refine bs' ?_ GE190.out)|exact HB.out)) hb);clear BK189;clear BK190;clear HB;have BK189:=n0_;have BK190:=n1_;have HB:=n2_;clear n0_ n1_ n2_;(try clear hb);(try clear hb2);(try clear hk);(try clear hi);have hcz22_0:w21.cell? ⟨gb190,0,none⟩=some (.slice A1_0 l1_0.length c1_0):=(blk_cell BK190.out 0).trans rfl;have hcz22_1:w21.cell? ⟨gb190,1,none⟩=some (.bool a1_1):=(blk_cell BK190.out 1).trans rfl;have hfz22_0:=blk_frozen BK190.out 0;have hfz22_1:=blk_frozen BK190.out 1)|(go_at_call 95;(with_reducible refine (impl_State_moved.calls k _ _ l1_0 a1_1 _ _ l2 t195 t198 _ ?side1 ?side2 ?side3 ?side4 A12.out).mono ?_);(case side1=>repeat (first|exact (Kd.C_below HR1_0.out HB.out)|(with_reducible refine ca' ?_ _)|(with_reducible refine cn' ?_ _)|(with_reducible refine cd' ?_)));(case side2=>exact HC1_0.out);(case side3=>repeat (first|exact (Kd.C_below HR2.out HB.out)|(with_reducible refine ca' ?_ _)|(with_reducible refine cn' ?_ _)|(with_reducible refine cd' ?_)));(case side4=>exact HC2.out);rintro e w23 ⟨v196,rfl,ho0,hb⟩;have n0_:=am' (Kd.R_lower ho0 (below_size (by repeat (first|(with_reducible first|exact HB.out|apply ba'|apply bd'|apply be'|refine bs' ?_ GE189.out|refine bs' ?_ GE190.out)|exact HB.out))));have n1_:=am' (blk_below (g:=gb189) (o := .cells #[.int .i64 a0_0, .int .i64 a0_1] 40 (0,0)) (by (with_reducible repeat (first|refine kn' ?_ _|refine kd' ?_|refine ka' ?_ _));exact BK189.out) hb);have n2_:=am' (blk_below (g:=gb190) (o := .cells #[.slice A1_0 l1_0.length c1_0, .bool a1_1] 51 (0,0)) (by (with_reducible repeat (first|refine kn' ?_ _|refine kd' ?_|refine ka' ?_ _));exact BK190.out) hb);have n3_:=am' (below_step (by repeat (first|(with_reducible first|exact HB.out|apply ba'|apply bd'|apply be'|refine bs' ?_ GE189.out|refine bs' ?_ GE190.out)|exact HB.out)) hb);clear BK189;clear BK190;clear HB;have HO197:=n0_;have BK189:=n1_;have BK190:=n2_;have HB:=n3_;clear n0_ n1_ n2_ n3_;(try clear hb);(try clear hb2);(try clear hk);(try clear hi);(try clear ho0);obtain ⟨Ao24,co24,eo24⟩:=Kd.R_slice HO197.out;subst eo24)|(go_at_call 90;(with_reducible refine (impl_State_isCalm.calls k _ _ t195 t198 t199 _ ?side1 ?side2 A13.out).mono ?_);(case side1=>repeat (first|exact (Kd.R_reads' HO197.out).2.2|(with_reducible refine ca' ?_ _)|(with_reducible refine cn' ?_ _)|(with_reducible refine cd' ?_)));(case side2=>exact (Kd.R_reads' HO197.out).2.1);rintro e w25 ⟨rfl,hb⟩;have n0_:=am' (Kd.R_below (by (with_reducible repeat (first|apply ra'|apply rn'|apply rw'));exact HO197.out) hb);have n1_:=am' (blk_below (g:=gb189) (o := .cells #[.int .i64 a0_0, .int .i64 a0_1] 40 (0,0)) (by (with_reducible repeat (first|refine kn' ?_ _|refine kd' ?_|refine ka' ?_ _));exact BK189.out) hb);have n2_:=am' (blk_below (g:=gb190) (o := .cells #[.slice A1_0 l1_0.length c1_0, .bool a1_1] 51 (0,0)) (by (with_reducible repeat (first|refine kn' ?_ _|refine kd' ?_|refine ka' ?_ _));exact BK190.out) hb);have n3_:=am' (below_step (by repeat (first|(with_reducible first|exact HB.out|apply ba'|apply bd'|apply be'|refine bs' ?_ GE189.out|refine bs' ?_ GE190.out)|exact HB.out)) hb);clear HO197;clear BK189;clear BK190;clear HB;have HO197:=n0_;have BK189:=n1_;have BK190:=n2_;have HB:=n3_;clear n0_ n1_ n2_ n3_;(try clear hb);(try clear hb2);(try clear hk);(try clear hi)))
     go_ret
     exact ⟨by first|rfl|(simp[errW_none,errW_some] <;> rfl)|(simp[*,errW_none,errW_some] <;> rfl),by repeat (first|(with_reducible first|exact HB.out|apply ba'|apply bd'|apply be'|refine bs' ?_ GE189.out|refine bs' ?_ GE190.out)|exact HB.out)⟩
    ·
     replace c11:=Bool.eq_false_iff.mpr c11;subst c11;have H1:(some false)=some r:=by rw[if_neg (show ¬ (false=true) by decide)] at H;exact H
     clear H;have H:=H1;clear H1;obtain rfl:=Option.some.inj H;go_enter Try.func94,Try.ntmps94;go_wp2_with (first|((with_reducible refine gate_dst (N:=3) rfl ?_);refine box_event ?hg (N:=3) ?hd (cs:=#[.int .i64 a0_0, .int .i64 a0_1]) (t:=40) ?hr ?_;(case hd=>rfl);(case hg=>rfl);(case hr=>first|(go_simp;done)|(go_simp;rfl));intro gb189 hg w26 hbox hb;have n0_:=am' (below_step (by repeat (first|(with_reducible first|exact HB.out|apply ba'|apply bd'|apply be')|exact HB.out)) hb);have n1_:=am' (hbox);have n2_:=am' ((by rw[hg];exact (below_size (by repeat (first|(with_reducible first|exact HB.out|apply ba'|apply bd'|apply be')|exact HB.out))):w.heap.size≤gb189));have n3_:=am' ((by rw[hg];exact (below_size (by repeat (first|(with_reducible first|exact HB.out|apply ba'|apply bd'|apply be')|exact HB.out))):w.heap.size≤gb189));clear HB;have HB:=n0_;have BK189:=n1_;have GW189:=n2_;have GE189:=n3_;clear n0_ n1_ n2_ n3_;clear hb hbox hg)|((with_reducible refine gate_dst (N:=4) rfl ?_);refine box_event ?hg (N:=4) ?hd (cs:=#[.slice A1_0 l1_0.length c1_0, .bool a1_1]) (t:=51) ?hr ?_;(case hd=>rfl);(case hg=>rfl);(case hr=>first|(go_simp;done)|(go_simp;rfl));intro gb190 hg w27 hbox hb;have n0_:=am' (blk_below (g:=gb189) (o := .cells #[.int .i64 a0_0, .int .i64 a0_1] 40 (0,0)) (by (with_reducible repeat (first|refine kn' ?_ _|refine kd' ?_|refine ka' ?_ _));exact BK189.out) hb);have n1_:=am' (below_step (by repeat (first|(with_reducible first|exact HB.out|apply ba'|apply bd'|apply be'|refine bs' ?_ GE189.out)|exact HB.out)) hb);have n2_:=am' (hbox);have n3_:=am' ((by rw[hg];exact (below_size (by repeat (first|(with_reducible first|exact HB.out|apply ba'|apply bd'|apply be'|refine bs' ?_ GE189.out)|exact HB.out))):w.heap.size≤gb190));have n4_:=am' ((by rw[hg];exact (below_size (by repeat (first|(with_reducible first|exact HB.out|apply ba'|apply bd'|apply be'|refine bs' ?_ GE189.out)|exact HB.out))):w.heap.size≤gb190));have n5_:=am' ((by rw[hg];exact Nat.ne_of_lt (blk_lt (g:=gb189) (o := .cells #[.int .i64 a0_0, .int .i64 a0_1] 40 (0,0)) (by (with_reducible repeat (first|refine kn' ?_ _|refine kd' ?_|refine ka' ?_ _));exact BK189.out)):gb189≠gb190));have n6_:=am' ((by rw[hg];exact Nat.ne_of_gt (blk_lt (g:=gb189) (o := .cells #[.int .i64 a0_0, .int .i64 a0_1] 40 (0,0)) (by (with_reducible repeat (first|refine kn' ?_ _|refine kd' ?_|refine ka' ?_ _));exact BK189.out)):gb190≠gb189));clear BK189;clear HB;have BK189:=n0_;have HB:=n1_;have BK190:=n2_;have GW190:=n3_;have GE190:=n4_;have NB189_190:=n5_;have NB190_189:=n6_;clear n0_ n1_ n2_ n3_ n4_ n5_ n6_;clear hb hbox hg;have hnb28:=NB189_190.out;have hnc28:=NB190_189.out;have hcz29_0:w27.cell? ⟨gb189,0,none⟩=some (.int .i64 a0_0):=(blk_cell BK189.out 0).trans rfl;have hcz29_1:w27.cell? ⟨gb189,1,none⟩=some (.int .i64 a0_1):=(blk_cell BK189.out 1).trans rfl;have hfz29_0:=blk_frozen BK189.out 0;have hfz29_1:=blk_frozen BK189.out 1)|((with_reducible refine gate_callee (f:=96) rfl ?_);refine goesL_ (some 14) rfl rfl Try.func96 (by kernel_rfl) rfl #[.slice A2 l2.length c2, .int .i64 0, .int .i64 (wrap64 ((wrap64 (2 * a0_0)) - 1)), .int .i64 1, .int .i64 a0_1] rfl (by (try simp only[List.map_toArray,List.map_cons,List.map_nil]);first|done|rfl|(simp only[List.length_drop,List.length_take];rfl)) ?_;(with_reducible refine (impl_areIn.calls _ _ l2 0 (wrap64 ((wrap64 (2 * a0_0)) - 1)) 1 a0_1 true _ ?side1 ?side2 A4.out).mono ?_);(case side1=>repeat (first|exact (Kd.C_below HR2.out HB.out)|(with_reducible refine ca' ?_ _)|(with_reducible refine cn' ?_ _)|(with_reducible refine cd' ?_)));(case side2=>exact HC2.out);rintro e w30 ⟨rfl,hb⟩;refine ⟨_,rfl,?_⟩;have n0_:=am' (blk_below (g:=gb189) (o := .cells #[.int .i64 a0_0, .int .i64 a0_1] 40 (0,0)) (by (with_reducible repeat (first|refine kn' ?_ _|refine kd' ?_|refine ka' ?_ _));exact BK189.out) hb);have n1_:=am' (blk_below (g:=gb190) (o := .cells #[.slice A1_0 l1_0.length c1_0, .bool a1_1] 51 (0,0)) (by (with_reducible repeat (first|refine kn' ?_ _|refine kd' ?_|refine ka' ?_ _));exact BK190.out) hb);have n2_:=am' (below_step (by repeat (first|(with_reducible first|exact HB.out|apply ba'|apply bd'|apply be'|refine bs' ?_ GE189.out|refine bs' ?_ GE190.out)|exact HB.out)) hb);clear BK189;clear BK190;clear HB;have BK189:=n0_;have BK190:=n1_;have HB:=n2_;clear n0_ n1_ n2_;(try clear hb);(try clear hb2);(try clear hk);(try clear hi))|(go_at_call 97;(with_reducible refine (impl_rises.calls k _ _ l2 true _ ?side1 ?side2 A6.out).mono ?_);(case side1=>repeat (first|exact (Kd.C_below HR2.out HB.out)|(with_reducible refine ca' ?_ _)|(with_reducible refine cn' ?_ _)|(with_reducible refine cd' ?_)));(case side2=>exact HC2.out);rintro e w' ⟨rfl,⟨nd,rfl⟩⟩;have hcz31_0:w30.cell? ⟨gb190,0,none⟩=some (.slice A1_0 l1_0.length c1_0):=(blk_cell BK190.out 0).trans rfl;have hcz31_1:w30.cell? ⟨gb190,1,none⟩=some (.bool a1_1):=(blk_cell BK190.out 1).trans rfl;have hfz31_0:=blk_frozen BK190.out 0;have hfz31_1:=blk_frozen BK190.out 1)|(go_at_call 123;(with_reducible refine (impl_State_are.calls _ _ l1_0 a1_1 _ _ l2 a1_1 true _ ?side1 ?side2 ?side3 ?side4 A8.out).mono ?_);(case side1=>repeat (first|exact (Kd.C_below HR1_0.out (by repeat (first|(with_reducible first|exact HB.out|apply ba'|apply bd'|apply be'|refine bs' ?_ GE189.out|refine bs' ?_ GE190.out)|exact HB.out)))|(with_reducible refine ca' ?_ _)|(with_reducible refine cn' ?_ _)|(with_reducible refine cd' ?_)));(case side2=>exact HC1_0.out);(case side3=>repeat (first|exact (Kd.C_below HR2.out (by repeat (first|(with_reducible first|exact HB.out|apply ba'|apply bd'|apply be'|refine bs' ?_ GE189.out|refine bs' ?_ GE190.out)|exact HB.out)))|(with_reducible refine ca' ?_ _)|(with_reducible refine cn' ?_ _)|(with_reducible refine cd' ?_)));(case side4=>exact HC2.out);rintro e w32 ⟨rfl,hb⟩;have n0_:=am' (blk_below (g:=gb189) (o := .cells #[.int .i64 a0_0, .int .i64 a0_1] 40 (0,0)) (by (with_reducible repeat (first|refine kn' ?_ _|refine kd' ?_|refine ka' ?_ _));exact BK189.out) hb);have n1_:=am' (blk_below (g:=gb190) (o := .cells #[.slice A1_0 l1_0.length c1_0, .bool a1_1] 51 (0,0)) (by (with_reducible repeat (first|refine kn' ?_ _|refine kd' ?_|refine ka' ?_ _));exact BK190.out) hb);have n2_:=am' (below_step (by repeat (first|(with_reducible first|exact HB.out|apply ba'|apply bd'|apply be'|refine bs' ?_ GE189.out|refine bs' ?_ GE190.out)|exact HB.out)) hb);clear BK189;clear BK190;clear HB;have BK189:=n0_;have BK190:=n1_;have HB:=n2_;clear n0_ n1_ n2_;(try clear hb);(try clear hb2);(try clear hk);(try clear hi))|(go_at_call 98;(with_reducible refine (impl_calm.calls k _ _ l2 false _ ?side1 ?side2 A10.out).mono ?_);(case side1=>repeat (first|exact (Kd.C_below HR2.out HB.out)|(with_reducible refine ca' ?_ _)|(with_reducible refine cn' ?_ _)|(with_reducible refine cd' ?_)));(case side2=>exact HC2.out);rintro e w33 ⟨rfl,hb⟩;have n0_:=am' (blk_below (g:=gb189) (o := .cells #[.int .i64 a0_0, .int .i64 a0_1] 40 (0,0)) (by (with_reducible repeat (first|refine kn' ?_ _|refine kd' ?_|refine ka' ?_ _));exact BK189.out) hb);have n1_:=am' (blk_below (g:=gb190) (o := .cells #[.slice A1_0 l1_0.length c1_0, .bool a1_1] 51 (0,0)) (by (with_reducible repeat (first|refine kn' ?_ _|refine kd' ?_|refine ka' ?_ _));exact BK190.out) hb);have n2_:=am' (below_step (by repeat (first|(with_reducible first|exact HB.out|apply ba'|apply bd'|apply be'|refine bs' ?_ GE189.out|refine bs' ?_ GE190.out)|exact HB.out)) hb);clear BK189;clear BK190;clear HB;have BK189:=n0_;have BK190:=n1_;have HB:=n2_;clear n0_ n1_ n2_;(try clear hb);(try clear hb2);(try clear hk);(try clear hi)))
     go_ret
     exact ⟨by first|rfl|(simp[errW_none,errW_some] <;> rfl)|(simp[*,errW_none,errW_some] <;> rfl),by repeat (first|(with_reducible first|exact HB.out|apply ba'|apply bd'|apply be'|refine bs' ?_ GE189.out|refine bs' ?_ GE190.out)|exact HB.out)⟩
   ·
    replace c9:=Bool.eq_false_iff.mpr c9;subst c9;have H1:(some false)=some r:=by rw[if_neg (show ¬ (false=true) by decide)] at H;exact H
    clear H;have H:=H1;clear H1;obtain rfl:=Option.some.inj H;go_enter Try.func94,Try.ntmps94;go_wp2_with (first|((with_reducible refine gate_dst (N:=3) rfl ?_);refine box_event ?hg (N:=3) ?hd (cs:=#[.int .i64 a0_0, .int .i64 a0_1]) (t:=40) ?hr ?_;(case hd=>rfl);(case hg=>rfl);(case hr=>first|(go_simp;done)|(go_simp;rfl));intro gb189 hg w34 hbox hb;have n0_:=am' (below_step (by repeat (first|(with_reducible first|exact HB.out|apply ba'|apply bd'|apply be')|exact HB.out)) hb);have n1_:=am' (hbox);have n2_:=am' ((by rw[hg];exact (below_size (by repeat (first|(with_reducible first|exact HB.out|apply ba'|apply bd'|apply be')|exact HB.out))):w.heap.size≤gb189));have n3_:=am' ((by rw[hg];exact (below_size (by repeat (first|(with_reducible first|exact HB.out|apply ba'|apply bd'|apply be')|exact HB.out))):w.heap.size≤gb189));clear HB;have HB:=n0_;have BK189:=n1_;have GW189:=n2_;have GE189:=n3_;clear n0_ n1_ n2_ n3_;clear hb hbox hg)|((with_reducible refine gate_dst (N:=4) rfl ?_);refine box_event ?hg (N:=4) ?hd (cs:=#[.slice A1_0 l1_0.length c1_0, .bool a1_1]) (t:=51) ?hr ?_;(case hd=>rfl);(case hg=>rfl);(case hr=>first|(go_simp;done)|(go_simp;rfl));intro gb190 hg w35 hbox hb;have n0_:=am' (blk_below (g:=gb189) (o := .cells #[.int .i64 a0_0, .int .i64 a0_1] 40 (0,0)) (by (with_reducible repeat (first|refine kn' ?_ _|refine kd' ?_|refine ka' ?_ _));exact BK189.out) hb);have n1_:=am' (below_step (by repeat (first|(with_reducible first|exact HB.out|apply ba'|apply bd'|apply be'|refine bs' ?_ GE189.out)|exact HB.out)) hb);have n2_:=am' (hbox);have n3_:=am' ((by rw[hg];exact (below_size (by repeat (first|(with_reducible first|exact HB.out|apply ba'|apply bd'|apply be'|refine bs' ?_ GE189.out)|exact HB.out))):w.heap.size≤gb190));have n4_:=am' ((by rw[hg];exact (below_size (by repeat (first|(with_reducible first|exact HB.out|apply ba'|apply bd'|apply be'|refine bs' ?_ GE189.out)|exact HB.out))):w.heap.size≤gb190));have n5_:=am' ((by rw[hg];exact Nat.ne_of_lt (blk_lt (g:=gb189) (o := .cells #[.int .i64 a0_0, .int .i64 a0_1] 40 (0,0)) (by (with_reducible repeat (first|refine kn' ?_ _|refine kd' ?_|refine ka' ?_ _));exact BK189.out)):gb189≠gb190));have n6_:=am' ((by rw[hg];exact Nat.ne_of_gt (blk_lt (g:=gb189) (o := .cells #[.int .i64 a0_0, .int .i64 a0_1] 40 (0,0)) (by (with_reducible repeat (first|refine kn' ?_ _|refine kd' ?_|refine ka' ?_ _));exact BK189.out)):gb190≠gb189));clear BK189;clear HB;have BK189:=n0_;have HB:=n1_;have BK190:=n2_;have GW190:=n3_;have GE190:=n4_;have NB189_190:=n5_;have NB190_189:=n6_;clear n0_ n1_ n2_ n3_ n4_ n5_ n6_;clear hb hbox hg;have hnb36:=NB189_190.out;have hnc36:=NB190_189.out;have hcz37_0:w35.cell? ⟨gb189,0,none⟩=some (.int .i64 a0_0):=(blk_cell BK189.out 0).trans rfl;have hcz37_1:w35.cell? ⟨gb189,1,none⟩=some (.int .i64 a0_1):=(blk_cell BK189.out 1).trans rfl;have hfz37_0:=blk_frozen BK189.out 0;have hfz37_1:=blk_frozen BK189.out 1)|((with_reducible refine gate_callee (f:=96) rfl ?_);refine goesL_ (some 14) rfl rfl Try.func96 (by kernel_rfl) rfl #[.slice A2 l2.length c2, .int .i64 0, .int .i64 (wrap64 ((wrap64 (2 * a0_0)) - 1)), .int .i64 1, .int .i64 a0_1] rfl (by (try simp only[List.map_toArray,List.map_cons,List.map_nil]);first|done|rfl|(simp only[List.length_drop,List.length_take];rfl)) ?_;(with_reducible refine (impl_areIn.calls _ _ l2 0 (wrap64 ((wrap64 (2 * a0_0)) - 1)) 1 a0_1 true _ ?side1 ?side2 A4.out).mono ?_);(case side1=>repeat (first|exact (Kd.C_below HR2.out HB.out)|(with_reducible refine ca' ?_ _)|(with_reducible refine cn' ?_ _)|(with_reducible refine cd' ?_)));(case side2=>exact HC2.out);rintro e w38 ⟨rfl,hb⟩;refine ⟨_,rfl,?_⟩;have n0_:=am' (blk_below (g:=gb189) (o := .cells #[.int .i64 a0_0, .int .i64 a0_1] 40 (0,0)) (by (with_reducible repeat (first|refine kn' ?_ _|refine kd' ?_|refine ka' ?_ _));exact BK189.out) hb);have n1_:=am' (blk_below (g:=gb190) (o := .cells #[.slice A1_0 l1_0.length c1_0, .bool a1_1] 51 (0,0)) (by (with_reducible repeat (first|refine kn' ?_ _|refine kd' ?_|refine ka' ?_ _));exact BK190.out) hb);have n2_:=am' (below_step (by repeat (first|(with_reducible first|exact HB.out|apply ba'|apply bd'|apply be'|refine bs' ?_ GE189.out|refine bs' ?_ GE190.out)|exact HB.out)) hb);clear BK189;clear BK190;clear HB;have BK189:=n0_;have BK190:=n1_;have HB:=n2_;clear n0_ n1_ n2_;(try clear hb);(try clear hb2);(try clear hk);(try clear hi))|(go_at_call 97;(with_reducible refine (impl_rises.calls k _ _ l2 true _ ?side1 ?side2 A6.out).mono ?_);(case side1=>repeat (first|exact (Kd.C_below HR2.out HB.out)|(with_reducible refine ca' ?_ _)|(with_reducible refine cn' ?_ _)|(with_reducible refine cd' ?_)));(case side2=>exact HC2.out);rintro e w' ⟨rfl,⟨nd,rfl⟩⟩;have hcz39_0:w38.cell? ⟨gb190,0,none⟩=some (.slice A1_0 l1_0.length c1_0):=(blk_cell BK190.out 0).trans rfl;have hcz39_1:w38.cell? ⟨gb190,1,none⟩=some (.bool a1_1):=(blk_cell BK190.out 1).trans rfl;have hfz39_0:=blk_frozen BK190.out 0;have hfz39_1:=blk_frozen BK190.out 1)|(go_at_call 123;(with_reducible refine (impl_State_are.calls _ _ l1_0 a1_1 _ _ l2 a1_1 false _ ?side1 ?side2 ?side3 ?side4 A8.out).mono ?_);(case side1=>repeat (first|exact (Kd.C_below HR1_0.out (by repeat (first|(with_reducible first|exact HB.out|apply ba'|apply bd'|apply be'|refine bs' ?_ GE189.out|refine bs' ?_ GE190.out)|exact HB.out)))|(with_reducible refine ca' ?_ _)|(with_reducible refine cn' ?_ _)|(with_reducible refine cd' ?_)));(case side2=>exact HC1_0.out);(case side3=>repeat (first|exact (Kd.C_below HR2.out (by repeat (first|(with_reducible first|exact HB.out|apply ba'|apply bd'|apply be'|refine bs' ?_ GE189.out|refine bs' ?_ GE190.out)|exact HB.out)))|(with_reducible refine ca' ?_ _)|(with_reducible refine cn' ?_ _)|(with_reducible refine cd' ?_)));(case side4=>exact HC2.out);rintro e w40 ⟨rfl,hb⟩;have n0_:=am' (blk_below (g:=gb189) (o := .cells #[.int .i64 a0_0, .int .i64 a0_1] 40 (0,0)) (by (with_reducible repeat (first|refine kn' ?_ _|refine kd' ?_|refine ka' ?_ _));exact BK189.out) hb);have n1_:=am' (blk_below (g:=gb190) (o := .cells #[.slice A1_0 l1_0.length c1_0, .bool a1_1] 51 (0,0)) (by (with_reducible repeat (first|refine kn' ?_ _|refine kd' ?_|refine ka' ?_ _));exact BK190.out) hb);have n2_:=am' (below_step (by repeat (first|(with_reducible first|exact HB.out|apply ba'|apply bd'|apply be'|refine bs' ?_ GE189.out|refine bs' ?_ GE190.out)|exact HB.out)) hb);clear BK189;clear BK190;clear HB;have BK189:=n0_;have BK190:=n1_;have HB:=n2_;clear n0_ n1_ n2_;(try clear hb);(try clear hb2);(try clear hk);(try clear hi)))
    go_ret
    exact ⟨by first|rfl|(simp[errW_none,errW_some] <;> rfl)|(simp[*,errW_none,errW_some] <;> rfl),by repeat (first|(with_reducible first|exact HB.out|apply ba'|apply bd'|apply be'|refine bs' ?_ GE189.out|refine bs' ?_ GE190.out)|exact HB.out)⟩
  ·
   replace c7:=Bool.eq_false_iff.mpr c7;subst c7;have H1:(some false)=some r:=by rw[if_neg (show ¬ (false=true) by decide)] at H;exact H
   clear H;have H:=H1;clear H1;obtain rfl:=Option.some.inj H;go_enter Try.func94,Try.ntmps94;go_wp2_with (first|((with_reducible refine gate_dst (N:=3) rfl ?_);refine box_event ?hg (N:=3) ?hd (cs:=#[.int .i64 a0_0, .int .i64 a0_1]) (t:=40) ?hr ?_;(case hd=>rfl);(case hg=>rfl);(case hr=>first|(go_simp;done)|(go_simp;rfl));intro gb189 hg w41 hbox hb;have n0_:=am' (below_step (by repeat (first|(with_reducible first|exact HB.out|apply ba'|apply bd'|apply be')|exact HB.out)) hb);have n1_:=am' (hbox);have n2_:=am' ((by rw[hg];exact (below_size (by repeat (first|(with_reducible first|exact HB.out|apply ba'|apply bd'|apply be')|exact HB.out))):w.heap.size≤gb189));have n3_:=am' ((by rw[hg];exact (below_size (by repeat (first|(with_reducible first|exact HB.out|apply ba'|apply bd'|apply be')|exact HB.out))):w.heap.size≤gb189));clear HB;have HB:=n0_;have BK189:=n1_;have GW189:=n2_;have GE189:=n3_;clear n0_ n1_ n2_ n3_;clear hb hbox hg)|((with_reducible refine gate_dst (N:=4) rfl ?_);refine box_event ?hg (N:=4) ?hd (cs:=#[.slice A1_0 l1_0.length c1_0, .bool a1_1]) (t:=51) ?hr ?_;(case hd=>rfl);(case hg=>rfl);(case hr=>first|(go_simp;done)|(go_simp;rfl));intro gb190 hg w42 hbox hb;have n0_:=am' (blk_below (g:=gb189) (o := .cells #[.int .i64 a0_0, .int .i64 a0_1] 40 (0,0)) (by (with_reducible repeat (first|refine kn' ?_ _|refine kd' ?_|refine ka' ?_ _));exact BK189.out) hb);have n1_:=am' (below_step (by repeat (first|(with_reducible first|exact HB.out|apply ba'|apply bd'|apply be'|refine bs' ?_ GE189.out)|exact HB.out)) hb);have n2_:=am' (hbox);have n3_:=am' ((by rw[hg];exact (below_size (by repeat (first|(with_reducible first|exact HB.out|apply ba'|apply bd'|apply be'|refine bs' ?_ GE189.out)|exact HB.out))):w.heap.size≤gb190));have n4_:=am' ((by rw[hg];exact (below_size (by repeat (first|(with_reducible first|exact HB.out|apply ba'|apply bd'|apply be'|refine bs' ?_ GE189.out)|exact HB.out))):w.heap.size≤gb190));have n5_:=am' ((by rw[hg];exact Nat.ne_of_lt (blk_lt (g:=gb189) (o := .cells #[.int .i64 a0_0, .int .i64 a0_1] 40 (0,0)) (by (with_reducible repeat (first|refine kn' ?_ _|refine kd' ?_|refine ka' ?_ _));exact BK189.out)):gb189≠gb190));have n6_:=am' ((by rw[hg];exact Nat.ne_of_gt (blk_lt (g:=gb189) (o := .cells #[.int .i64 a0_0, .int .i64 a0_1] 40 (0,0)) (by (with_reducible repeat (first|refine kn' ?_ _|refine kd' ?_|refine ka' ?_ _));exact BK189.out)):gb190≠gb189));clear BK189;clear HB;have BK189:=n0_;have HB:=n1_;have BK190:=n2_;have GW190:=n3_;have GE190:=n4_;have NB189_190:=n5_;have NB190_189:=n6_;clear n0_ n1_ n2_ n3_ n4_ n5_ n6_;clear hb hbox hg;have hnb43:=NB189_190.out;have hnc43:=NB190_189.out;have hcz44_0:w42.cell? ⟨gb189,0,none⟩=some (.int .i64 a0_0):=(blk_cell BK189.out 0).trans rfl;have hcz44_1:w42.cell? ⟨gb189,1,none⟩=some (.int .i64 a0_1):=(blk_cell BK189.out 1).trans rfl;have hfz44_0:=blk_frozen BK189.out 0;have hfz44_1:=blk_frozen BK189.out 1)|((with_reducible refine gate_callee (f:=96) rfl ?_);refine goesL_ (some 14) rfl rfl Try.func96 (by kernel_rfl) rfl #[.slice A2 l2.length c2, .int .i64 0, .int .i64 (wrap64 ((wrap64 (2 * a0_0)) - 1)), .int .i64 1, .int .i64 a0_1] rfl (by (try simp only[List.map_toArray,List.map_cons,List.map_nil]);first|done|rfl|(simp only[List.length_drop,List.length_take];rfl)) ?_;(with_reducible refine (impl_areIn.calls _ _ l2 0 (wrap64 ((wrap64 (2 * a0_0)) - 1)) 1 a0_1 true _ ?side1 ?side2 A4.out).mono ?_);(case side1=>repeat (first|exact (Kd.C_below HR2.out HB.out)|(with_reducible refine ca' ?_ _)|(with_reducible refine cn' ?_ _)|(with_reducible refine cd' ?_)));(case side2=>exact HC2.out);rintro e w45 ⟨rfl,hb⟩;refine ⟨_,rfl,?_⟩;have n0_:=am' (blk_below (g:=gb189) (o := .cells #[.int .i64 a0_0, .int .i64 a0_1] 40 (0,0)) (by (with_reducible repeat (first|refine kn' ?_ _|refine kd' ?_|refine ka' ?_ _));exact BK189.out) hb);have n1_:=am' (blk_below (g:=gb190) (o := .cells #[.slice A1_0 l1_0.length c1_0, .bool a1_1] 51 (0,0)) (by (with_reducible repeat (first|refine kn' ?_ _|refine kd' ?_|refine ka' ?_ _));exact BK190.out) hb);have n2_:=am' (below_step (by repeat (first|(with_reducible first|exact HB.out|apply ba'|apply bd'|apply be'|refine bs' ?_ GE189.out|refine bs' ?_ GE190.out)|exact HB.out)) hb);clear BK189;clear BK190;clear HB;have BK189:=n0_;have BK190:=n1_;have HB:=n2_;clear n0_ n1_ n2_;(try clear hb);(try clear hb2);(try clear hk);(try clear hi))|(go_at_call 97;(with_reducible refine (impl_rises.calls k _ _ l2 false _ ?side1 ?side2 A6.out).mono ?_);(case side1=>repeat (first|exact (Kd.C_below HR2.out HB.out)|(with_reducible refine ca' ?_ _)|(with_reducible refine cn' ?_ _)|(with_reducible refine cd' ?_)));(case side2=>exact HC2.out);rintro e w' ⟨rfl,⟨nd,rfl⟩⟩))
   go_ret
   exact ⟨by first|rfl|(simp[errW_none,errW_some] <;> rfl)|(simp[*,errW_none,errW_some] <;> rfl),by repeat (first|(with_reducible first|exact HB.out|apply ba'|apply bd'|apply be'|refine bs' ?_ GE189.out|refine bs' ?_ GE190.out)|exact HB.out)⟩
 ·
  replace c5:=Bool.eq_false_iff.mpr c5;subst c5;have H1:(some false)=some r:=by rw[if_neg (show ¬ (false=true) by decide)] at H;exact H
  clear H;have H:=H1;clear H1;obtain rfl:=Option.some.inj H;go_enter Try.func94,Try.ntmps94;go_wp2_with (first|((with_reducible refine gate_dst (N:=3) rfl ?_);refine box_event ?hg (N:=3) ?hd (cs:=#[.int .i64 a0_0, .int .i64 a0_1]) (t:=40) ?hr ?_;(case hd=>rfl);(case hg=>rfl);(case hr=>first|(go_simp;done)|(go_simp;rfl));intro gb189 hg w46 hbox hb;have n0_:=am' (below_step (by repeat (first|(with_reducible first|exact HB.out|apply ba'|apply bd'|apply be')|exact HB.out)) hb);have n1_:=am' (hbox);have n2_:=am' ((by rw[hg];exact (below_size (by repeat (first|(with_reducible first|exact HB.out|apply ba'|apply bd'|apply be')|exact HB.out))):w.heap.size≤gb189));have n3_:=am' ((by rw[hg];exact (below_size (by repeat (first|(with_reducible first|exact HB.out|apply ba'|apply bd'|apply be')|exact HB.out))):w.heap.size≤gb189));clear HB;have HB:=n0_;have BK189:=n1_;have GW189:=n2_;have GE189:=n3_;clear n0_ n1_ n2_ n3_;clear hb hbox hg)|((with_reducible refine gate_dst (N:=4) rfl ?_);refine box_event ?hg (N:=4) ?hd (cs:=#[.slice A1_0 l1_0.length c1_0, .bool a1_1]) (t:=51) ?hr ?_;(case hd=>rfl);(case hg=>rfl);(case hr=>first|(go_simp;done)|(go_simp;rfl));intro gb190 hg w47 hbox hb;have n0_:=am' (blk_below (g:=gb189) (o := .cells #[.int .i64 a0_0, .int .i64 a0_1] 40 (0,0)) (by (with_reducible repeat (first|refine kn' ?_ _|refine kd' ?_|refine ka' ?_ _));exact BK189.out) hb);have n1_:=am' (below_step (by repeat (first|(with_reducible first|exact HB.out|apply ba'|apply bd'|apply be'|refine bs' ?_ GE189.out)|exact HB.out)) hb);have n2_:=am' (hbox);have n3_:=am' ((by rw[hg];exact (below_size (by repeat (first|(with_reducible first|exact HB.out|apply ba'|apply bd'|apply be'|refine bs' ?_ GE189.out)|exact HB.out))):w.heap.size≤gb190));have n4_:=am' ((by rw[hg];exact (below_size (by repeat (first|(with_reducible first|exact HB.out|apply ba'|apply bd'|apply be'|refine bs' ?_ GE189.out)|exact HB.out))):w.heap.size≤gb190));have n5_:=am' ((by rw[hg];exact Nat.ne_of_lt (blk_lt (g:=gb189) (o := .cells #[.int .i64 a0_0, .int .i64 a0_1] 40 (0,0)) (by (with_reducible repeat (first|refine kn' ?_ _|refine kd' ?_|refine ka' ?_ _));exact BK189.out)):gb189≠gb190));have n6_:=am' ((by rw[hg];exact Nat.ne_of_gt (blk_lt (g:=gb189) (o := .cells #[.int .i64 a0_0, .int .i64 a0_1] 40 (0,0)) (by (with_reducible repeat (first|refine kn' ?_ _|refine kd' ?_|refine ka' ?_ _));exact BK189.out)):gb190≠gb189));clear BK189;clear HB;have BK189:=n0_;have HB:=n1_;have BK190:=n2_;have GW190:=n3_;have GE190:=n4_;have NB189_190:=n5_;have NB190_189:=n6_;clear n0_ n1_ n2_ n3_ n4_ n5_ n6_;clear hb hbox hg;have hnb48:=NB189_190.out;have hnc48:=NB190_189.out;have hcz49_0:w47.cell? ⟨gb189,0,none⟩=some (.int .i64 a0_0):=(blk_cell BK189.out 0).trans rfl;have hcz49_1:w47.cell? ⟨gb189,1,none⟩=some (.int .i64 a0_1):=(blk_cell BK189.out 1).trans rfl;have hfz49_0:=blk_frozen BK189.out 0;have hfz49_1:=blk_frozen BK189.out 1)|((with_reducible refine gate_callee (f:=96) rfl ?_);refine goesL_ (some 14) rfl rfl Try.func96 (by kernel_rfl) rfl #[.slice A2 l2.length c2, .int .i64 0, .int .i64 (wrap64 ((wrap64 (2 * a0_0)) - 1)), .int .i64 1, .int .i64 a0_1] rfl (by (try simp only[List.map_toArray,List.map_cons,List.map_nil]);first|done|rfl|(simp only[List.length_drop,List.length_take];rfl)) ?_;(with_reducible refine (impl_areIn.calls _ _ l2 0 (wrap64 ((wrap64 (2 * a0_0)) - 1)) 1 a0_1 false _ ?side1 ?side2 A4.out).mono ?_);(case side1=>repeat (first|exact (Kd.C_below HR2.out HB.out)|(with_reducible refine ca' ?_ _)|(with_reducible refine cn' ?_ _)|(with_reducible refine cd' ?_)));(case side2=>exact HC2.out);rintro e w50 ⟨rfl,hb⟩;refine ⟨_,rfl,?_⟩;have n0_:=am' (blk_below (g:=gb189) (o := .cells #[.int .i64 a0_0, .int .i64 a0_1] 40 (0,0)) (by (with_reducible repeat (first|refine kn' ?_ _|refine kd' ?_|refine ka' ?_ _));exact BK189.out) hb);have n1_:=am' (blk_below (g:=gb190) (o := .cells #[.slice A1_0 l1_0.length c1_0, .bool a1_1] 51 (0,0)) (by (with_reducible repeat (first|refine kn' ?_ _|refine kd' ?_|refine ka' ?_ _));exact BK190.out) hb);have n2_:=am' (below_step (by repeat (first|(with_reducible first|exact HB.out|apply ba'|apply bd'|apply be'|refine bs' ?_ GE189.out|refine bs' ?_ GE190.out)|exact HB.out)) hb);clear BK189;clear BK190;clear HB;have BK189:=n0_;have BK190:=n1_;have HB:=n2_;clear n0_ n1_ n2_;(try clear hb);(try clear hb2);(try clear hk);(try clear hi)))
  go_ret
  exact ⟨by first|rfl|(simp[errW_none,errW_some] <;> rfl)|(simp[*,errW_none,errW_some] <;> rfl),by repeat (first|(with_reducible first|exact HB.out|apply ba'|apply bd'|apply be'|refine bs' ?_ GE189.out|refine bs' ?_ GE190.out)|exact HB.out)⟩
def impl_last.f (a0:Int):Option (Int):=if 0≤(wrap64 (a0+1)) then (some (wrap64 ((shl .i64 1 (wrap64 (a0+1))) - 1))) else (none)
set_option maxHeartbeats 8000000 in
set_option maxRecDepth 100000 in
theorem impl_last.calls (a0:Int) (r:Int) (w:World) (h:impl_last.f a0=some r) :
  Calls Try.prog 110 #[.int .i64 a0] w fun e w'=>e = .returned (.int .i64 r)∧Drawn0 w w':=by
 have H:(if 0≤(wrap64 (a0+1)) then (some (wrap64 ((shl .i64 1 (wrap64 (a0+1))) - 1))) else (none))=some r:=h
 clear h;obtain ⟨ji2,hji2⟩:∃ j_:Int,(wrap64 (a0+1))=j_:=⟨_,rfl⟩
 replace H:(if 0≤(ji2) then (some (wrap64 ((shl .i64 1 (ji2)) - 1))) else (none))=some r:=by first|(rw[hji2] at H;exact H)|(simp only[hji2] at H ⊢;exact H)
 have hji2w:(IntKind.i64.wrap (a0+1))=ji2:=(i64_w _).trans hji2
 by_cases c3:0≤(ji2)
 ·
  rw[if_pos c3] at H;have c3b0:=eq_true c3;have c3b1:decide (0≤(ji2))=true:=decide_eq_true c3;clear c3;obtain ⟨ji4,hji4⟩:∃ j_:Int,(shl .i64 1 (ji2))=j_:=⟨_,rfl⟩
  replace H:(some (wrap64 ((ji4) - 1)))=some r:=by first|(rw[hji4] at H;exact H)|(simp only[hji4] at H ⊢;exact H)
  have hji4_:(IntKind.i64.wrap (1 * 2 ^ min (ji2).toNat 64))=ji4:=hji4;have hji4z:(ji2)≤64→(IntKind.i64.wrap (1 * 2 ^ (ji2).toNat))=ji4:=shl_small hji4;have hji4u:(IntKind.i64.wrap (2 ^ min (ji2).toNat 64))=ji4:=by have h_:=hji4_;rw[Int.one_mul] at h_;exact h_
  have hji4v:(ji2)≤64→(IntKind.i64.wrap (2 ^ (ji2).toNat))=ji4:=fun hle_=>by have h_:=hji4z hle_;rw[Int.one_mul] at h_;exact h_
  have hji4y:(wrap64 (1 * 2 ^ min (ji2).toNat 64))=ji4:=(i64_w _).symm.trans hji4_;have hji4x:(ji2)≤64→(wrap64 (1 * 2 ^ (ji2).toNat))=ji4:=fun h_=>(i64_w _).symm.trans (hji4z h_)
  obtain rfl:=Option.some.inj H;go_enter Try.func110,Try.ntmps110;go_wp2;go_ret
  exact ⟨by first|rfl|(simp;done)|(simp only[← hji2,← hji4] <;> (first|rfl|simp))|(simp[*];done),by repeat (first|exact Drawn0.refl _|apply Drawn0.step)⟩
 ·
  rw[if_neg c3] at H;exact absurd H (by simp)
def bits_Mul64.f (a0:Int) (a1:Int):Option (Int × Int):=some (IntKind.u64.wrap ((IntKind.u64.wrap ((IntKind.u64.wrap ((a0 / 4294967296) * (a1 / 4294967296)))+((IntKind.u64.wrap ((IntKind.u64.wrap ((a0 / 4294967296) * (Go.bits .and .u64 a1 4294967295)))+((IntKind.u64.wrap ((Go.bits .and .u64 a0 4294967295) * (Go.bits .and .u64 a1 4294967295))) / 4294967296))) / 4294967296)))+((IntKind.u64.wrap ((Go.bits .and .u64 (IntKind.u64.wrap ((IntKind.u64.wrap ((a0 / 4294967296) * (Go.bits .and .u64 a1 4294967295)))+((IntKind.u64.wrap ((Go.bits .and .u64 a0 4294967295) * (Go.bits .and .u64 a1 4294967295))) / 4294967296))) 4294967295)+(IntKind.u64.wrap ((Go.bits .and .u64 a0 4294967295) * (a1 / 4294967296))))) / 4294967296)),IntKind.u64.wrap (a0 * a1))
set_option maxHeartbeats 8000000 in
set_option maxRecDepth 100000 in
theorem bits_Mul64.calls (a0:Int) (a1:Int) (r1:Int) (r2:Int) (w:World) (h:bits_Mul64.f a0 a1=some (r1,r2)) :
  Calls Try.prog 144 #[.int .u64 a0, .int .u64 a1] w fun e w'=>e = .returned (.tuple #[.int .u64 r1, .int .u64 r2])∧Drawn0 w w':=by
 have H:(some (IntKind.u64.wrap ((IntKind.u64.wrap ((IntKind.u64.wrap ((a0 / 4294967296) * (a1 / 4294967296)))+((IntKind.u64.wrap ((IntKind.u64.wrap ((a0 / 4294967296) * (Go.bits .and .u64 a1 4294967295)))+((IntKind.u64.wrap ((Go.bits .and .u64 a0 4294967295) * (Go.bits .and .u64 a1 4294967295))) / 4294967296))) / 4294967296)))+((IntKind.u64.wrap ((Go.bits .and .u64 (IntKind.u64.wrap ((IntKind.u64.wrap ((a0 / 4294967296) * (Go.bits .and .u64 a1 4294967295)))+((IntKind.u64.wrap ((Go.bits .and .u64 a0 4294967295) * (Go.bits .and .u64 a1 4294967295))) / 4294967296))) 4294967295)+(IntKind.u64.wrap ((Go.bits .and .u64 a0 4294967295) * (a1 / 4294967296))))) / 4294967296)),IntKind.u64.wrap (a0 * a1)))=some (r1,r2):=h
 clear h;simp only[Option.some.injEq,Prod.mk.injEq] at H
 obtain ⟨rfl,rfl⟩:=H
 go_enter Try.func144,Try.ntmps144
 go_wp2
 go_ret2
 exact ⟨by first|rfl|(simp;done)|(simp[*];done),by repeat (first|exact Drawn0.refl _|apply Drawn0.step)⟩
def bits_Mul.f (a0:Int) (a1:Int):Option (Int × Int):=(bits_Mul64.f a0 a1).bind fun bt200=>(some (bt200.1,bt200.2))
set_option maxHeartbeats 8000000 in
set_option maxRecDepth 100000 in
theorem bits_Mul.calls (a0:Int) (a1:Int) (r1:Int) (r2:Int) (w:World) (h:bits_Mul.f a0 a1=some (r1,r2)) :
  Calls Try.prog 140 #[.int .u64 a0, .int .u64 a1] w fun e w'=>e = .returned (.tuple #[.int .u64 r1, .int .u64 r2])∧Drawn0 w w':=by
 have H:((bits_Mul64.f a0 a1).bind fun bt200=>(some (bt200.1,bt200.2)))=some (r1,r2):=h
 clear h;replace H:=Option.bind_eq_some_iff.mp H
 obtain ⟨⟨t200,t201⟩,A30,H⟩:=H
 replace H:(some (t200,t201))=some (r1,r2):=H
 have A3:=am' A30
 clear A30;simp only[Option.some.injEq,Prod.mk.injEq] at H
 obtain ⟨rfl,rfl⟩:=H
 go_enter Try.func140,Try.ntmps140
 go_wp2_with (first|((with_reducible refine gate_callee (f:=144) rfl ?_);refine goesL_ (some 25) rfl rfl Try.func144 (by kernel_rfl) rfl #[.int .u64 a0, .int .u64 a1] rfl (by (try simp only[List.map_toArray,List.map_cons,List.map_nil]);first|done|rfl|(simp only[List.length_drop,List.length_take];rfl)) ?_;(with_reducible refine (bits_Mul64.calls a0 a1 t200 t201 _ A3.out).mono ?_);rintro e w' ⟨rfl,⟨nd,rfl⟩⟩;refine ⟨_,rfl,?_⟩))
 go_ret2
 exact ⟨by first|rfl|(simp;done)|(simp[*];done),by repeat (first|exact Drawn0.refl _|apply Drawn0.step)⟩
end Go.Proofs.Ytibdeohiimjocaa.C12
