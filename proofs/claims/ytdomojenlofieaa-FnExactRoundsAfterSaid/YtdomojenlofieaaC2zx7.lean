import Derived.Test.YtdomojenlofieaaC2zx0
import Derived.Test.YtdomojenlofieaaC2zx6
import Derived.Test.YtdomojenlofieaaC2zAl
namespace Go.Proofs.Ytdomojenlofieaa.C2
open Go.RowKit Go.Proofs.YtdomojenlofieaaW.PrintWords Go.Proofs.YtdomojenlofieaaW.PrintLast Go.Proofs.YtdomojenlofieaaW.PrintMore Go.Proofs.Ytdomojenlofieaa.H
attribute [local go_sem] max2_int min2_int max_two min_two max_three min_three max_four min_four
set_option linter.unusedVariables false
set_option linter.unusedSimpArgs false
mutual
def impl_Camp_after.l0:Nat→List (List Int)→Int→Int→List Bool→Int→List Bool→Int→Option (List Bool × Int)
 | 0,_,_,_,_,_,_,_=>none
 | k+1,x16,x17,x18,x229000,x229001,x234000,x234001=>if x18 < x17 then (if 0≤x18 then (if x18 < (x16.length:Int) then (if 0 < ((rd_L2 x16 x18).length:Int) then (if 0≤(rd (rd_L2 x16 x18) 0) then (if (rd (rd_L2 x16 x18) 0) < (x229000.length:Int) then ((impl_bit.f (rdOf false x229000 (rd (rd_L2 x16 x18) 0))).bind fun t237=>(impl_Camp_after.l1 k x16 x17 x18 (rd_L2 x16 x18) ((rd_L2 x16 x18).length:Int) 0 x229000 x229001 x234000 (wrap64 (x234001+(wrap64 (1 - (wrap64 (2 * t237)))))))) else (none)) else (none)) else (none)) else (none)) else (none)) else (some (x234000,x234001))
def impl_Camp_after.l1:Nat→List (List Int)→Int→Int→List Int→Int→Int→List Bool→Int→List Bool→Int→Option (List Bool × Int)
 | 0,_,_,_,_,_,_,_,_,_,_=>none
 | k+1,x16,x17,x18,x36,x37,x38,x229000,x229001,x234000,x234001=>if x38 < x37 then (if 0≤x38 then (if x38 < (x36.length:Int) then (if 0≤(rd x36 x38) then (if (rd x36 x38) < (x229000.length:Int) then (if (rd x36 x38) < (x234000.length:Int) then (impl_Camp_after.l1 k x16 x17 x18 x36 x37 (wrap64 (x38+1)) x229000 x229001 (x234000.set ((rd x36 x38):Int).toNat (!(rdOf false x229000 (rd x36 x38)))) x234001) else (none)) else (none)) else (none)) else (none)) else (none)) else (impl_Camp_after.l0 k x16 x17 (wrap64 (x18+1)) x229000 x229001 x234000 x234001)
end
def impl_Camp_after.f (k:Nat) (l0_0:List Bool) (a0_1:Int) (l1:List (List Int)):Option (List Bool × Int):=(slices_Clone_bool_bool.f l0_0).bind fun t230=>(impl_Camp_after.l0 k l1 (l1.length:Int) 0 l0_0 a0_1 t230 a0_1)
def impl_Camp_after.T1:Bool × List (List Nat × List Nat):=(true,[([],[]),([0],[0]),([1],[1]),([],[]),([3],[3]),([2,4],[2,4]),([],[]),([6,5,2,0,1,2,3,4,5,6],[5,6])])
def impl_Camp_after.B1:List Nat:=[0,1,3,0,8,31,0,127]
theorem impl_Camp_after.tab1:rtab .any (opsOf Try.f58 1)=impl_Camp_after.T1:=by kernel_rfl
theorem impl_Camp_after.bits1:waitsOk impl_Camp_after.T1.2 impl_Camp_after.B1=true:=by kernel_rfl
def impl_Camp_after.T5:Bool × List (List Nat × List Nat):=(true,[([],[]),([0],[0]),([],[]),([2],[2]),([],[]),([4],[4]),([5],[5]),([3,6],[3,6]),([7],[7]),([8],[8]),([9],[9]),([10],[10]),([1,11],[1,11]),([0,1,2,3,4,5,6,7,8,9,10,11,12],[]),([13,12,9,0,1,2,3,4,5,6,7,8,9,10,11,12],[12,13])])
def impl_Camp_after.B5:List Nat:=[0,1,0,4,0,16,48,124,252,508,1020,2044,4095,8191,16383]
theorem impl_Camp_after.tab5:rtab .any (opsOf Try.f58 5)=impl_Camp_after.T5:=by kernel_rfl
theorem impl_Camp_after.bits5:waitsOk impl_Camp_after.T5.2 impl_Camp_after.B5=true:=by kernel_rfl
def impl_Camp_after.T9:Bool × List (List Nat × List Nat):=(true,[([],[]),([0],[0]),([],[]),([],[]),([3],[3]),([],[]),([4,5],[4,5]),([6],[6]),([7],[7]),([1,2,0,1,2,3,4,5,6,7,8],[1,2]),([9,8,0,1,2,3,4,5,6,7,8],[8,9])])
def impl_Camp_after.B9:List Nat:=[0,1,0,0,8,0,56,120,248,511,1023]
theorem impl_Camp_after.tab9:rtab .any (opsOf Try.f58 9)=impl_Camp_after.T9:=by kernel_rfl
theorem impl_Camp_after.bits9:waitsOk impl_Camp_after.T9.2 impl_Camp_after.B9=true:=by kernel_rfl
set_option maxHeartbeats 8000000 in
set_option maxRecDepth 100000 in
theorem impl_Camp_after.calls (k:Nat) (A0_0:Option Addr) (c0_0:Nat) (l0_0:List Bool) (a0_1:Int) (A1:Option Addr) (c1:Nat) (l1:List (List Int)) (r1:List Bool) (r2:Int) (w:World) (hr0_0:Kd.C Kd.bool w A0_0 l0_0.length l0_0) (hc0_0:l0_0.length≤c0_0) (hr1:Kd.C (Kd.slice 3 (Kd.int .i64)) w A1 l1.length l1) (hc1:l1.length≤c1) (h:impl_Camp_after.f k l0_0 a0_1 l1=some (r1,r2)) :
  Calls Try.prog 58 #[.agg #[.slice A0_0 l0_0.length c0_0, .int .i64 a0_1], .slice A1 l1.length c1] w fun e w'=>∃ v0_:Value,e = .returned (.agg #[v0_, .int .i64 r2])∧Kd.R Kd.bool 4 w' w.heap.size (fun _=>True) v0_ r1∧Below w.heap.size w w':=by
 have hu32:=Try.underlying32
 have HR0_0:=am' hr0_0
 have HC0_0:=am' hc0_0
 clear hr0_0 hc0_0;have HR1:=am' hr1
 have HC1:=am' hc1
 clear hr1 hc1;have HB:=am' (Below.refl w.heap.size w)
 have H:((slices_Clone_bool_bool.f l0_0).bind fun t230=>(impl_Camp_after.l0 k l1 (l1.length:Int) 0 l0_0 a0_1 t230 a0_1))=some (r1,r2):=h
 clear h;replace H:=Option.bind_eq_some_iff.mp H
 obtain ⟨t230,A30,H⟩:=H
 replace H:(impl_Camp_after.l0 k l1 (l1.length:Int) 0 l0_0 a0_1 t230 a0_1)=some (r1,r2):=H
 have A3:=am' A30
 clear A30;have H':=am' H
 clear H;go_enter Try.func58,Try.ntmps58
 try go_wp2_with (first|((with_reducible refine gate_dst (N:=2) rfl ?_);refine box_event ?hg (N:=2) ?hd (cs:=#[.slice A0_0 l0_0.length c0_0, .int .i64 a0_1]) (t:=32) ?hr ?_;(case hd=>rfl);(case hg=>rfl);(case hr=>first|(go_simp;done)|(go_simp;rfl));intro gb228 hg w4 hbox hb;have n0_:=am' (bt' xb' hb);have n1_:=am' (hbox);have n2_:=am' ((by rw[hg];exact (bz' xb'):w.heap.size≤gb228));have n3_:=am' ((by rw[hg];exact (bz' xb'):w.heap.size≤gb228));clear HB;have HB:=n0_;have BK228:=n1_;have GW228:=n2_;have GE228:=n3_;clear n0_ n1_ n2_ n3_;clear hb hbox hg)|((with_reducible refine gate_dst (N:=4) rfl ?_);refine box_event ?hg (N:=4) ?hd (cs:=#[.slice none 0 0, .int .i64 0]) (t:=32) ?hr ?_;(case hd=>rfl);(case hg=>rfl);(case hr=>first|(go_simp;done)|(go_simp;rfl));intro gb229 hg w5 hbox hb;have n0_:=am' (bb' (g:=gb228) (o := .cells #[.slice A0_0 l0_0.length c0_0, .int .i64 a0_1] 32 (0,0)) (kk' BK228.out) hb);have n1_:=am' (bt' (yb' GE228.out) hb);have n2_:=am' (hbox);have n3_:=am' ((by rw[hg];exact (bz' (yb' GE228.out)):w.heap.size≤gb229));have n4_:=am' ((by rw[hg];exact (bz' (yb' GE228.out)):w.heap.size≤gb229));have n5_:=am' ((by rw[hg];exact Nat.ne_of_lt (blk_lt (g:=gb228) (o := .cells #[.slice A0_0 l0_0.length c0_0, .int .i64 a0_1] 32 (0,0)) (kk' BK228.out)):gb228≠gb229));have n6_:=am' ((by rw[hg];exact Nat.ne_of_gt (blk_lt (g:=gb228) (o := .cells #[.slice A0_0 l0_0.length c0_0, .int .i64 a0_1] 32 (0,0)) (kk' BK228.out)):gb229≠gb228));clear BK228;clear HB;have BK228:=n0_;have HB:=n1_;have BK229:=n2_;have GW229:=n3_;have GE229:=n4_;have NB228_229:=n5_;have NB229_228:=n6_;clear n0_ n1_ n2_ n3_ n4_ n5_ n6_;clear hb hbox hg))
 have n0_:=am' (kd' BK228.out)
 have n1_:=am' (kd' BK229.out)
 have n2_:=am' (be' HB.out)
 clear BK228;clear BK229;clear HB;have BK228:=n0_;have BK229:=n1_;have HB:=n2_;clear n0_ n1_ n2_;refine start_ (n:=8) (S:=fun w'=>w'.cell? ⟨gb228,0,none⟩=some (.slice A0_0 l0_0.length c0_0)∧w'.cell? ⟨gb228,1,none⟩=some (.int .i64 a0_1)) (ds:=[]) #[false,false,false,false,false,false,false,false] xk' rfl rfl ⟨(bc' BK228.out 0).trans rfl,(bc' BK228.out 1).trans rfl⟩ (fun hHeld=>?_);refine with_tabW impl_Camp_after.tab1 impl_Camp_after.bits1 (fun HT_ HW_=>?_)
 generalize w5.drew=w6 at BK228 BK229 HB hHeld ⊢
 refine pure_ (i:=0) (N:=some 10) (v:=?_) (a':=?_) #[true,false,false,false,false,false,false,false] rfl rfl (any_of HT_.out xk') (fun _ _ _ h=>h) (Or.inl ⟨by rfl,?_⟩) ?_ ?_
 rotate_left
 ·
  intro w';go_simp;with_reducible rfl
 rotate_left
 ·
  simp only[Act.put,sa',sb',sc',i64_w,i32_w];rfl
 refine pure_ (i:=3) (N:=some 13) (v:=?_) (a':=?_) #[true,false,false,true,false,false,false,false] rfl rfl (any_of HT_.out xk') (fun _ _ _ h=>h) (Or.inl ⟨by rfl,?_⟩) ?_ ?_
 rotate_left
 ·
  intro w';go_simp;with_reducible rfl
 rotate_left
 ·
  simp only[Act.put,sa',sb',sc',i64_w,i32_w];rfl
 refine take_ (i:=1) (N:=some 11) (v:=?_) (a':=?_) #[true,true,false,true,false,false,false,false] rfl rfl (take_ofW HT_.out HW_.out xk') (fun _ _ _ h=>h) (Or.inl ⟨by rfl,?_⟩) hHeld ?_ ?_
 rotate_left
 ·
  rintro w' ⟨s0,s1⟩
  go_simp;with_reducible rfl
 rotate_left
 ·
  simp only[Act.put,sa',sb',sc',i64_w,i32_w];rfl
 refine take_ (i:=4) (N:=some 14) (v:=?_) (a':=?_) #[true,true,false,true,true,false,false,false] rfl rfl (take_ofW HT_.out HW_.out xk') (fun _ _ _ h=>h) (Or.inl ⟨by rfl,?_⟩) hHeld ?_ ?_
 rotate_left
 ·
  rintro w' ⟨s0,s1⟩
  go_simp;with_reducible rfl
 rotate_left
 ·
  simp only[Act.put,sa',sb',sc',i64_w,i32_w];rfl
 refine join_ (σ:=Value × Nat) 1 #[true,true,true,true,true,true,true,false] (fun s_=>[(12,s_.1),(5, .pointer (some ⟨s_.2,0,none⟩)),(15, .agg #[s_.1, .int .i64 a0_1])]) (fun s_ w'=>(w'.cell? ⟨gb228,0,none⟩=some (.slice A0_0 l0_0.length c0_0)∧w'.cell? ⟨gb228,1,none⟩=some (.int .i64 a0_1))∧(Kd.R Kd.bool 4 w' w.heap.size (fun _=>True) s_.1 t230)∧(w'.heap[gb228]? = some (.cells #[.slice A0_0 l0_0.length c0_0, .int .i64 a0_1] 32 (0,0)))∧(w'.heap[gb229]? = some (.cells #[.slice none 0 0, .int .i64 0] 32 (0,0)))∧(w'.heap[s_.2]? = some (.cells #[.slice none 0 0, .int .i64 0] 32 (0,0)))∧(w.heap.size≤s_.2)∧(w.heap.size≤s_.2)∧(gb228≠s_.2)∧(s_.2≠gb228)∧(gb229≠s_.2)∧(s_.2≠gb229)∧(Below w.heap.size w w')) ?_ ?_
 rotate_left
 ·
  intro hCont;refine two_ (i:=2) (j:=6) (Ni:=some 12) (Nj:=some 5) #[true,true,true,true,true,false,false,false] #[true,true,false,true,true,false,true,false] rfl rfl rfl rfl (two_of HT_.out xk') (by decide) (by decide) (fun K hK=>?_) (fun K hK=>?_)
  ·
   skip
   refine goes_ Try.func73 xk' rfl #[.slice A0_0 l0_0.length c0_0] (by rfl) rfl rfl xl' ?_
   with_reducible refine (slices_Clone_bool_bool.calls _ _ l0_0 t230 _ ?side1 ?side2 A3.out).mono ?_
   (case side1=>exact kc' (cb' HR0_0.out HB.out))
   (case side2=>exact HC0_0.out)
   rintro e w7 ⟨v231,rfl,ho0,hb⟩
   refine ⟨_,rfl,?_⟩;have n0_:=am' (Kd.R_lower ho0 (bz' (y2' GE228.out GE229.out)));have n1_:=am' (bb' (g:=gb228) (o := .cells #[.slice A0_0 l0_0.length c0_0, .int .i64 a0_1] 32 (0,0)) (kk' BK228.out) hb);have n2_:=am' (bb' (g:=gb229) (o := .cells #[.slice none 0 0, .int .i64 0] 32 (0,0)) (kk' BK229.out) hb);have n3_:=am' (bt' (y2' GE228.out GE229.out) hb);clear BK228;clear BK229;clear HB;have HO232:=n0_;have BK228:=n1_;have BK229:=n2_;have HB:=n3_;clear n0_ n1_ n2_ n3_;(try clear hb)
   (try clear hb2)
   (try clear hk)
   (try clear hi)
   (try clear ho0)
   obtain ⟨Ao8,co8,eo8⟩:=Kd.R_slice HO232.out
   (first|subst eo8|(injection eo8 with f1_ f2_ f3_;have f4_:=f1_.symm;have f5_:=f3_.symm;clear f1_ f2_ f3_;subst f4_;subst f5_))
   refine hK.out _ _ ⟨(bc' BK228.out 0).trans rfl,(bc' BK228.out 1).trans rfl⟩ (fun hHeld=>?_);clear hK K;refine norm_ (a':=?_) ?_ ?_
   rotate_left
   ·
    show Act.put _ (some 12) _=_
    simp only[Act.put,sa',sb',sc',i64_w,i32_w];rfl
   refine pure_ (i:=5) (N:=some 15) (v:=?_) (a':=?_) #[true,true,true,true,true,true,false,false] rfl rfl (any_of HT_.out xk') (fun _ _ _ h=>h) (Or.inl ⟨by rfl,?_⟩) ?_ ?_
   rotate_left
   ·
    intro w';go_simp;with_reducible rfl
   rotate_left
   ·
    simp only[Act.put,sa',sb',sc',i64_w,i32_w];rfl
   refine one_ (i:=6) (N:=some 5) #[true,true,true,true,true,true,true,false] rfl rfl (one_of HT_.out xk') (by decide) (fun K hK=>?_);refine box_step ?hg (N:=5) ?hd (cs:=#[.slice none 0 0, .int .i64 0]) (t:=32) ?hr ?_;(case hd=>rfl);(case hg=>rfl);(case hr=>first|(go_simp;done)|(go_simp;rfl))
   intro gb233 hg w9 hbox hb;have n0_:=am' (rb' (kr' HO232.out) hb);have n1_:=am' (bb' (g:=gb228) (o := .cells #[.slice A0_0 l0_0.length c0_0, .int .i64 a0_1] 32 (0,0)) (kk' BK228.out) hb);have n2_:=am' (bb' (g:=gb229) (o := .cells #[.slice none 0 0, .int .i64 0] 32 (0,0)) (kk' BK229.out) hb);have n3_:=am' (bt' (y2' GE228.out GE229.out) hb);have n4_:=am' (hbox);have n5_:=am' ((by rw[hg];exact (bz' (y2' GE228.out GE229.out)):w.heap.size≤gb233));have n6_:=am' ((by rw[hg];exact (bz' (y2' GE228.out GE229.out)):w.heap.size≤gb233));have n7_:=am' ((by rw[hg];exact Nat.ne_of_lt (blk_lt (g:=gb228) (o := .cells #[.slice A0_0 l0_0.length c0_0, .int .i64 a0_1] 32 (0,0)) (kk' BK228.out)):gb228≠gb233));have n8_:=am' ((by rw[hg];exact Nat.ne_of_gt (blk_lt (g:=gb228) (o := .cells #[.slice A0_0 l0_0.length c0_0, .int .i64 a0_1] 32 (0,0)) (kk' BK228.out)):gb233≠gb228));have n9_:=am' ((by rw[hg];exact Nat.ne_of_lt (blk_lt (g:=gb229) (o := .cells #[.slice none 0 0, .int .i64 0] 32 (0,0)) (kk' BK229.out)):gb229≠gb233));have n10_:=am' ((by rw[hg];exact Nat.ne_of_gt (blk_lt (g:=gb229) (o := .cells #[.slice none 0 0, .int .i64 0] 32 (0,0)) (kk' BK229.out)):gb233≠gb229));clear HO232;clear BK228;clear BK229;clear HB;have HO232:=n0_;have BK228:=n1_;have BK229:=n2_;have HB:=n3_;have BK233:=n4_;have GW233:=n5_;have GE233:=n6_;have NB228_233:=n7_;have NB233_228:=n8_;have NB229_233:=n9_;have NB233_229:=n10_;clear n0_ n1_ n2_ n3_ n4_ n5_ n6_ n7_ n8_ n9_ n10_;clear hb hbox hg;refine hK.out _ _ ⟨(bc' BK228.out 0).trans rfl,(bc' BK228.out 1).trans rfl⟩ (fun hHeld=>?_);clear hK K;refine norm_ (a':=?_) ?_ ?_
   rotate_left
   ·
    show Act.put _ (some 5) _=_
    simp only[Act.put,sa',sb',sc',i64_w,i32_w];rfl
   exact norm_ (by simp only[putAll,Act.put,sa',sb',sc']) (hCont (.slice Ao8 t230.length co8,gb233) _ ⟨hHeld,(kr' HO232.out),(kk' BK228.out),(kk' BK229.out),(kk' BK233.out),GW233.out,GE233.out,NB228_233.out,NB233_228.out,NB229_233.out,NB233_229.out,(y3' GE228.out GE229.out GE233.out)⟩)
  ·
   skip
   refine box_step ?hg (N:=5) ?hd (cs:=#[.slice none 0 0, .int .i64 0]) (t:=32) ?hr ?_;(case hd=>rfl);(case hg=>rfl);(case hr=>first|(go_simp;done)|(go_simp;rfl))
   intro gb233 hg w7 hbox hb;have n0_:=am' (bb' (g:=gb228) (o := .cells #[.slice A0_0 l0_0.length c0_0, .int .i64 a0_1] 32 (0,0)) (kk' BK228.out) hb);have n1_:=am' (bb' (g:=gb229) (o := .cells #[.slice none 0 0, .int .i64 0] 32 (0,0)) (kk' BK229.out) hb);have n2_:=am' (bt' (y2' GE228.out GE229.out) hb);have n3_:=am' (hbox);have n4_:=am' ((by rw[hg];exact (bz' (y2' GE228.out GE229.out)):w.heap.size≤gb233));have n5_:=am' ((by rw[hg];exact (bz' (y2' GE228.out GE229.out)):w.heap.size≤gb233));have n6_:=am' ((by rw[hg];exact Nat.ne_of_lt (blk_lt (g:=gb228) (o := .cells #[.slice A0_0 l0_0.length c0_0, .int .i64 a0_1] 32 (0,0)) (kk' BK228.out)):gb228≠gb233));have n7_:=am' ((by rw[hg];exact Nat.ne_of_gt (blk_lt (g:=gb228) (o := .cells #[.slice A0_0 l0_0.length c0_0, .int .i64 a0_1] 32 (0,0)) (kk' BK228.out)):gb233≠gb228));have n8_:=am' ((by rw[hg];exact Nat.ne_of_lt (blk_lt (g:=gb229) (o := .cells #[.slice none 0 0, .int .i64 0] 32 (0,0)) (kk' BK229.out)):gb229≠gb233));have n9_:=am' ((by rw[hg];exact Nat.ne_of_gt (blk_lt (g:=gb229) (o := .cells #[.slice none 0 0, .int .i64 0] 32 (0,0)) (kk' BK229.out)):gb233≠gb229));clear BK228;clear BK229;clear HB;have BK228:=n0_;have BK229:=n1_;have HB:=n2_;have BK233:=n3_;have GW233:=n4_;have GE233:=n5_;have NB228_233:=n6_;have NB233_228:=n7_;have NB229_233:=n8_;have NB233_229:=n9_;clear n0_ n1_ n2_ n3_ n4_ n5_ n6_ n7_ n8_ n9_;clear hb hbox hg;refine hK.out _ _ ⟨(bc' BK228.out 0).trans rfl,(bc' BK228.out 1).trans rfl⟩ (fun hHeld=>?_);clear hK K;refine norm_ (a':=?_) ?_ ?_
   rotate_left
   ·
    show Act.put _ (some 5) _=_
    simp only[Act.put,sa',sb',sc',i64_w,i32_w];rfl
   refine one_ (i:=2) (N:=some 12) #[true,true,true,true,true,false,true,false] rfl rfl (one_of HT_.out xk') (by decide) (fun K hK=>?_);refine goes_ Try.func73 xk' rfl #[.slice A0_0 l0_0.length c0_0] (by rfl) rfl rfl xl' ?_
   with_reducible refine (slices_Clone_bool_bool.calls _ _ l0_0 t230 _ ?side1 ?side2 A3.out).mono ?_
   (case side1=>exact kc' (cb' HR0_0.out HB.out))
   (case side2=>exact HC0_0.out)
   rintro e w8 ⟨v231,rfl,ho0,hb⟩
   refine ⟨_,rfl,?_⟩;have n0_:=am' (Kd.R_lower ho0 (bz' (y3' GE228.out GE229.out GE233.out)));have n1_:=am' (bb' (g:=gb228) (o := .cells #[.slice A0_0 l0_0.length c0_0, .int .i64 a0_1] 32 (0,0)) (kk' BK228.out) hb);have n2_:=am' (bb' (g:=gb229) (o := .cells #[.slice none 0 0, .int .i64 0] 32 (0,0)) (kk' BK229.out) hb);have n3_:=am' (bb' (g:=gb233) (o := .cells #[.slice none 0 0, .int .i64 0] 32 (0,0)) (kk' BK233.out) hb);have n4_:=am' (bt' (y3' GE228.out GE229.out GE233.out) hb);clear BK228;clear BK229;clear BK233;clear HB;have HO232:=n0_;have BK228:=n1_;have BK229:=n2_;have BK233:=n3_;have HB:=n4_;clear n0_ n1_ n2_ n3_ n4_;(try clear hb)
   (try clear hb2)
   (try clear hk)
   (try clear hi)
   (try clear ho0)
   obtain ⟨Ao9,co9,eo9⟩:=Kd.R_slice HO232.out
   (first|subst eo9|(injection eo9 with f1_ f2_ f3_;have f4_:=f1_.symm;have f5_:=f3_.symm;clear f1_ f2_ f3_;subst f4_;subst f5_))
   refine hK.out _ _ ⟨(bc' BK228.out 0).trans rfl,(bc' BK228.out 1).trans rfl⟩ (fun hHeld=>?_);clear hK K;refine norm_ (a':=?_) ?_ ?_
   rotate_left
   ·
    show Act.put _ (some 12) _=_
    simp only[Act.put,sa',sb',sc',i64_w,i32_w];rfl
   refine pure_ (i:=5) (N:=some 15) (v:=?_) (a':=?_) #[true,true,true,true,true,true,true,false] rfl rfl (any_of HT_.out xk') (fun _ _ _ h=>h) (Or.inl ⟨by rfl,?_⟩) ?_ ?_
   rotate_left
   ·
    intro w';go_simp;with_reducible rfl
   rotate_left
   ·
    simp only[Act.put,sa',sb',sc',i64_w,i32_w];rfl
   exact norm_ (by simp only[putAll,Act.put,sa',sb',sc']) (hCont (.slice Ao9 t230.length co9,gb233) _ ⟨hHeld,(kr' HO232.out),(kk' BK228.out),(kk' BK229.out),(kk' BK233.out),GW233.out,GE233.out,NB228_233.out,NB233_228.out,NB229_233.out,NB233_229.out,(y3' GE228.out GE229.out GE233.out)⟩)
 rintro ⟨v231,gb233⟩ w10 ⟨hS_,h0_,h1_,h2_,h3_,h4_,h5_,h6_,h7_,h8_,h9_,h10_⟩
 have n0_:Aside0 (Kd.R Kd.bool 4 w10 w.heap.size (fun _=>True) v231 t230):=⟨h0_⟩
 have n1_:Aside0 (w10.heap[gb228]? = some (.cells #[.slice A0_0 l0_0.length c0_0, .int .i64 a0_1] 32 (0,0))):=⟨h1_⟩
 have n2_:Aside0 (w10.heap[gb229]? = some (.cells #[.slice none 0 0, .int .i64 0] 32 (0,0))):=⟨h2_⟩
 have n3_:Aside0 (w10.heap[gb233]? = some (.cells #[.slice none 0 0, .int .i64 0] 32 (0,0))):=⟨h3_⟩
 have n4_:Aside0 (w.heap.size≤gb233):=⟨h4_⟩
 have n5_:Aside0 (w.heap.size≤gb233):=⟨h5_⟩
 have n6_:Aside0 (gb228≠gb233):=⟨h6_⟩
 have n7_:Aside0 (gb233≠gb228):=⟨h7_⟩
 have n8_:Aside0 (gb229≠gb233):=⟨h8_⟩
 have n9_:Aside0 (gb233≠gb229):=⟨h9_⟩
 have n10_:Aside0 (Below w.heap.size w w10):=⟨h10_⟩
 clear BK228;clear BK229;clear HB;clear h0_ h1_ h2_ h3_ h4_ h5_ h6_ h7_ h8_ h9_ h10_;have HO232:=n0_;have BK228:=n1_;have BK229:=n2_;have BK233:=n3_;have GW233:=n4_;have GE233:=n5_;have NB228_233:=n6_;have NB233_228:=n7_;have NB229_233:=n8_;have NB233_229:=n9_;have HB:=n10_;clear n0_ n1_ n2_ n3_ n4_ n5_ n6_ n7_ n8_ n9_ n10_;have hHeld:w10.cell? ⟨gb228,0,none⟩=some (.slice A0_0 l0_0.length c0_0)∧w10.cell? ⟨gb228,1,none⟩=some (.int .i64 a0_1):=hS_
 obtain ⟨Ao11,co11,eo11⟩:=Kd.R_slice HO232.out
 (first|subst eo11|(injection eo11 with f1_ f2_ f3_;have f4_:=f1_.symm;have f5_:=f3_.symm;clear f1_ f2_ f3_;subst f4_;subst f5_))
 refine norm_ (a':=?_) ?_ ?_
 rotate_left
 ·
  simp only[putAll,Act.put,sa',sb',sc'];rfl
 refine one_ (i:=7) (N:=none) #[true,true,true,true,true,true,true,true] rfl rfl (one_of HT_.out xk') (by decide) (fun K hK=>?_)
 have hs12:w10.cell? ⟨gb233,0,none⟩=some (.slice none 0 0):=(bc' BK233.out 0).trans rfl
 have hfs12:=bf' BK233.out 0
 have hns12_0:=NB228_233.out
 have hns12_1:=NB229_233.out
 have hms12_0:=NB233_228.out
 have hms12_1:=NB233_229.out
 have hs13:w10.cell? ⟨gb233,1,none⟩=some (.int .i64 0):=(bc' BK233.out 1).trans rfl
 have hfs13:=bf' BK233.out 1
 have hns13_0:=NB228_233.out
 have hns13_1:=NB229_233.out
 have hms13_0:=NB233_228.out
 have hms13_1:=NB233_229.out
 refine skip_ (w1:=?_) (by rfl) rfl ?_ ?_
 rotate_left
 ·
  go_simp;rfl
 refine hK.out _ _ ⟨((cell_far (p:=⟨gb233,_,none⟩) NB228_233.out _).trans (((cell_far (p:=⟨gb233,_,none⟩) NB228_233.out _).trans (hHeld.1)))),((cell_far (p:=⟨gb233,_,none⟩) NB228_233.out _).trans (((cell_far (p:=⟨gb233,_,none⟩) NB228_233.out _).trans (hHeld.2))))⟩ (fun hHeld=>?_)
 clear hK K;refine done_ (done_of HT_.out xk') ?_
 try go_wp2
 go_loopg [18] k (fun kq v18 w'=>∃ (x18_1:Int) (x234000_1:List Bool) (x234001_1:Int) (u234000:Value),v18 = .int .i64 x18_1∧Aside0 (impl_Camp_after.l0 kq l1 (l1.length:Int) x18_1 l0_0 a0_1 x234000_1 x234001_1=some (r1,r2))∧Aside0 (kq≤k)∧Aside0 (Kd.R Kd.bool 4 w' w.heap.size (fun _=>True) u234000 x234000_1)∧Aside0 (w'.heap[gb228]? = some (.cells #[(.slice A0_0 l0_0.length c0_0), .int .i64 a0_1] 32 (0,0)))∧Aside0 (w'.heap[gb229]? = some (.cells #[(.slice none 0 0), .int .i64 0] 32 (0,0)))∧Aside0 (w'.heap[gb233]? = some (.cells #[u234000, .int .i64 x234001_1] 32 (0,0)))∧Aside0 (Below w.heap.size w w'))
 case atStart=>exact ⟨(0),(t230),(a0_1),(.slice Ao11 t230.length co11),xs',H',⟨Nat.le_refl _⟩,⟨by (with_reducible repeat (first|apply ra'|apply rn'|apply rw'));exact Kd.R_mono (Kd.R_far (p:=⟨gb233,1,none⟩) (Kd.R_far (p:=⟨gb233,0,none⟩) (Kd.R_types HO232.out BK233.out (by decide)) (fun _ hk=>hk.2) (.slice Ao11 t230.length co11)) (fun _ hk=>hk.2) (.int .i64 a0_1)) (fun _ hk=>trivial)⟩,⟨by (with_reducible repeat (first|refine kn' ?_ _|refine kd' ?_|refine ka' ?_ _));refine blk_far ?_ NB228_233.out _;(with_reducible repeat (first|refine kn' ?_ _|refine kd' ?_|refine ka' ?_ _));refine blk_far ?_ NB228_233.out _;(with_reducible repeat (first|refine kn' ?_ _|refine kd' ?_|refine ka' ?_ _));exact BK228.out⟩,⟨by (with_reducible repeat (first|refine kn' ?_ _|refine kd' ?_|refine ka' ?_ _));refine blk_far ?_ NB229_233.out _;(with_reducible repeat (first|refine kn' ?_ _|refine kd' ?_|refine ka' ?_ _));refine blk_far ?_ NB229_233.out _;(with_reducible repeat (first|refine kn' ?_ _|refine kd' ?_|refine ka' ?_ _));exact BK229.out⟩,⟨by (with_reducible repeat (first|refine kn' ?_ _|refine kd' ?_|refine ka' ?_ _));refine blk_put (cs:=#[.slice Ao11 t230.length co11, .int .i64 0]) ?_ 1 _ rfl;(with_reducible repeat (first|refine kn' ?_ _|refine kd' ?_|refine ka' ?_ _));refine blk_put (cs:=#[.slice none 0 0, .int .i64 0]) ?_ 0 _ rfl;(with_reducible repeat (first|refine kn' ?_ _|refine kd' ?_|refine ka' ?_ _));exact BK233.out⟩,⟨y3' GE228.out GE229.out GE233.out⟩⟩
 case round =>
  clear H';try clear c1
  try clear p2
  try clear c5
  try clear c7
  obtain ⟨x18_1,x234000_1,x234001_1,u234000,rfl,HA,HK1,HO_234000,BK228,BK229,BK233,HB⟩:=hrel;cases gk with
  | zero=>exact absurd HA.out (by simp[impl_Camp_after.l0])
  | succ k1 =>
   have H:=HA.out;clear HA;simp only[impl_Camp_after.l0] at H;by_cases c14:x18_1 < (l1.length:Int)
   ·
    rw[if_pos c14] at H;have c14b0:decide (x18_1 < (l1.length:Int))=true:=dt' c14;clear c14;by_cases c15:0≤x18_1
    ·
     rw[if_pos c15] at H;have c15b0:decide (0≤x18_1)=true:=dt' c15;clear c15;by_cases c16:x18_1 < (l1.length:Int)
     ·
      rw[if_pos c16] at H;have c16b0:decide (x18_1 < (l1.length:Int))=true:=dt' c16;clear c16;by_cases c17:0 < ((rd_L2 l1 x18_1).length:Int)
      ·
       rw[if_pos c17] at H;have c17b0:decide (0 < ((rd_L2 l1 x18_1).length:Int))=true:=dt' c17;have c17b1:decide (0 < (rd_L2 l1 x18_1).length)=true:=dt' (by omega);clear c17;by_cases c18:0≤(rd (rd_L2 l1 x18_1) 0)
       ·
        rw[if_pos c18] at H;have c18b0:decide (0≤(rd (rd_L2 l1 x18_1) 0))=true:=dt' c18;clear c18;by_cases c19:(rd (rd_L2 l1 x18_1) 0) < (l0_0.length:Int)
        ·
         rw[if_pos c19] at H;have c19b0:decide ((rd (rd_L2 l1 x18_1) 0) < (l0_0.length:Int))=true:=dt' c19;clear c19;replace H:=Option.bind_eq_some_iff.mp H;obtain ⟨t237,A200,H⟩:=H;replace H:(impl_Camp_after.l1 k1 l1 (l1.length:Int) x18_1 (rd_L2 l1 x18_1) ((rd_L2 l1 x18_1).length:Int) 0 l0_0 a0_1 x234000_1 (wrap64 (x234001_1+(wrap64 (1 - (wrap64 (2 * t237)))))))=some (r1,r2):=H;have A20:=am' A200;clear A200;have H':=am' H;clear H;have p234:0≤(x18_1:Int):=od' xa';have q234:x18_1 < (l1.length:Int):=od' xa';obtain ⟨ad234,A234_0,c234_0,e234,hx234_0,hl234_0,hi234_0⟩:=at_L2 HR1.out x18_1 p234 q234;cases e234;replace hx234_0:=(HB.out.cell (bl' w _ hx234_0)).trans hx234_0;have HR234_0:=am' hi234_0;have HC234_0:=am' hl234_0;clear hi234_0 hl234_0;replace p234:=eq_true p234;replace q234:=eq_true q234
         try go_wp2
         have n0_:=am' (rw' HO_234000.out);have n1_:=am' (kd' BK228.out);have n2_:=am' (kd' BK229.out);have n3_:=am' (kd' BK233.out);have n4_:=am' (be' HB.out);clear HO_234000;clear BK228;clear BK229;clear BK233;clear HB;have HO_234000:=n0_;have BK228:=n1_;have BK229:=n2_;have BK233:=n3_;have HB:=n4_;clear n0_ n1_ n2_ n3_ n4_;have p235:0≤(0:Int):=(by omega)
         have q235:0 < ((rd_L2 l1 x18_1).length:Int):=od' xa';obtain ⟨ad235,e235,hx235_0⟩:=Kd.at_int HR234_0.out 0 p235 q235;have hw235_0:=hx235_0;(try rw [show ((0:Int)).toNat=0 from rfl] at hw235_0)
         (try rw [show 0 * 1=0 from rfl] at hw235_0)
         (try rw [Addr.add_zero'] at hw235_0)
         cases e235
         have qi235:(0 < (rd_L2 l1 x18_1).length)=True:=eq_true (by omega)
         (try rw [show ((0:Int)).toNat=0 from rfl] at hx235_0)
         (try rw [Addr.add_zero'] at hx235_0)
         replace hx235_0:=(HB.out.cell (bl' w _ hx235_0)).trans hx235_0;replace p235:=eq_true p235;replace q235:=eq_true q235;have p236:0≤((rd (rd_L2 l1 x18_1) 0):Int):=od' xa';have q236:(rd (rd_L2 l1 x18_1) 0) < (l0_0.length:Int):=od' xa';obtain ⟨ad236,e236,hx236_0⟩:=Kd.at_bool HR0_0.out (rd (rd_L2 l1 x18_1) 0) p236 q236;have hw236_0:=hx236_0;cases e236;replace hx236_0:=(HB.out.cell (bl' w _ hx236_0)).trans hx236_0;replace p236:=eq_true p236;replace q236:=eq_true q236;refine start_ (n:=15) (S:=fun w'=>w'.cell? ⟨gb233,0,none⟩=some (u234000)∧w'.cell? ⟨gb233,1,none⟩=some (.int .i64 x234001_1)∧w'.cell? ⟨gb228,0,none⟩=some (.slice (some ad236) l0_0.length c0_0)∧w'.cell? ⟨gb228,1,none⟩=some (.int .i64 a0_1)∧w'.cell? ad235=some (.int .i64 (rd (rd_L2 l1 x18_1) 0))∧w'.cell? (ad236.add ((rd (rd_L2 l1 x18_1) 0)).toNat)=some (.bool (rdOf false l0_0 (rd (rd_L2 l1 x18_1) 0)))) (ds:=[14]) #[false,false,false,false,false,false,false,false,false,false,false,false,false,false,false] xk' rfl rfl ⟨(bc' BK233.out 0).trans rfl,(bc' BK233.out 1).trans rfl,(bc' BK228.out 0).trans rfl,(bc' BK228.out 1).trans rfl,((HB.out.cell (bl' w _ hw235_0)).trans hw235_0),((HB.out.cell (bl' w _ hw236_0)).trans hw236_0)⟩ (fun hHeld=>?_);refine with_tabW impl_Camp_after.tab5 impl_Camp_after.bits5 (fun HT_ HW_=>?_);generalize wr.drew=w21 at HO_234000 BK228 BK229 BK233 HB hx235_0 hx236_0 hHeld ⊢
         refine pure_ (i:=0) (N:=some 22) (v:=?_) (a':=?_) #[true,false,false,false,false,false,false,false,false,false,false,false,false,false,false] rfl rfl (any_of HT_.out xk') (fun _ _ _ h=>h) (Or.inl ⟨by rfl,?_⟩) ?_ ?_
         rotate_left
         ·
          intro w';go_simp;with_reducible rfl
         rotate_left
         ·
          simp only[Act.put,sa',sb',sc',i64_w,i32_w];rfl
         refine pure_ (i:=2) (N:=some 24) (v:=?_) (a':=?_) #[true,false,true,false,false,false,false,false,false,false,false,false,false,false,false] rfl rfl (any_of HT_.out xk') (fun _ _ _ h=>h) (Or.inl ⟨by rfl,?_⟩) ?_ ?_
         rotate_left
         ·
          intro w';go_simp;with_reducible rfl
         rotate_left
         ·
          simp only[Act.put,sa',sb',sc',i64_w,i32_w];rfl
         refine pure_ (i:=4) (N:=some 26) (v:=?_) (a':=?_) #[true,false,true,false,true,false,false,false,false,false,false,false,false,false,false] rfl rfl (any_of HT_.out xk') (fun _ _ _ h=>h) (Or.inl ⟨by rfl,?_⟩) ?_ ?_
         rotate_left
         ·
          intro w';go_simp;with_reducible rfl
         rotate_left
         ·
          simp only[Act.put,sa',sb',sc',i64_w,i32_w];rfl
         refine pure_ (i:=5) (N:=some 27) (v:=?_) (a':=?_) #[true,false,true,false,true,true,false,false,false,false,false,false,false,false,false] rfl rfl (any_of HT_.out xk') (fun _ _ _ h=>h) (Or.inl ⟨by rfl,?_⟩) ?_ ?_
         rotate_left
         ·
          intro w';go_simp;with_reducible rfl
         rotate_left
         ·
          simp only[Act.put,sa',sb',sc',i64_w,i32_w];rfl
         refine take_ (i:=1) (N:=some 23) (v:=?_) (a':=?_) #[true,true,true,false,true,true,false,false,false,false,false,false,false,false,false] rfl rfl (take_ofW HT_.out HW_.out xk') (fun _ _ _ h=>h) (Or.inl ⟨by rfl,?_⟩) hHeld ?_ ?_
         rotate_left
         ·
          rintro w' ⟨s0,s1,s2,s3,s4,s5⟩
          go_simp;with_reducible rfl
         rotate_left
         ·
          simp only[Act.put,sa',sb',sc',i64_w,i32_w];rfl
         refine take_ (i:=3) (N:=some 25) (v:=?_) (a':=?_) #[true,true,true,true,true,true,false,false,false,false,false,false,false,false,false] rfl rfl (take_ofW HT_.out HW_.out xk') (fun _ _ _ h=>h) (Or.inl ⟨by rfl,?_⟩) hHeld ?_ ?_
         rotate_left
         ·
          rintro w' ⟨s0,s1,s2,s3,s4,s5⟩
          go_simp;with_reducible rfl
         rotate_left
         ·
          simp only[Act.put,sa',sb',sc',i64_w,i32_w];rfl
         refine take_ (i:=6) (N:=some 28) (v:=?_) (a':=?_) #[true,true,true,true,true,true,true,false,false,false,false,false,false,false,false] rfl rfl (take_ofW HT_.out HW_.out xk') (fun _ _ _ h=>h) (Or.inl ⟨by rfl,?_⟩) hHeld ?_ ?_
         rotate_left
         ·
          rintro w' ⟨s0,s1,s2,s3,s4,s5⟩
          go_simp;with_reducible rfl
         rotate_left
         ·
          simp only[Act.put,sa',sb',sc',i64_w,i32_w];rfl
         refine pure_ (i:=7) (N:=some 29) (v:=?_) (a':=?_) #[true,true,true,true,true,true,true,true,false,false,false,false,false,false,false] rfl rfl (any_of HT_.out xk') (fun _ _ _ h=>h) (Or.inl ⟨by rfl,?_⟩) ?_ ?_
         rotate_left
         ·
          intro w';go_simp;with_reducible rfl
         rotate_left
         ·
          simp only[Act.put,sa',sb',sc',i64_w,i32_w];rfl
         refine take_ (i:=8) (N:=some 30) (v:=?_) (a':=?_) #[true,true,true,true,true,true,true,true,true,false,false,false,false,false,false] rfl rfl (take_ofW HT_.out HW_.out xk') (fun _ _ _ h=>h) (Or.inl ⟨by rfl,?_⟩) hHeld ?_ ?_
         rotate_left
         ·
          rintro w' ⟨s0,s1,s2,s3,s4,s5⟩
          go_simp;with_reducible rfl
         rotate_left
         ·
          simp only[Act.put,sa',sb',sc',i64_w,i32_w];rfl
         refine one_ (i:=9) (N:=some 31) #[true,true,true,true,true,true,true,true,true,true,false,false,false,false,false] rfl rfl (one_of HT_.out xk') (by decide) (fun K hK=>?_);refine goes_ Try.func74 xk' rfl #[.bool (rdOf false l0_0 (rd (rd_L2 l1 x18_1) 0))] (by rfl) rfl rfl xl' ?_
         with_reducible refine (impl_bit.calls (rdOf false l0_0 (rd (rd_L2 l1 x18_1) 0)) t237 _ A20.out).mono ?_
         rintro e w' ⟨rfl,⟨nd,rfl⟩⟩
         refine ⟨_,rfl,?_⟩;refine hK.out _ _ ⟨(bc' BK233.out 0).trans rfl,(bc' BK233.out 1).trans rfl,(bc' BK228.out 0).trans rfl,(bc' BK228.out 1).trans rfl,((HB.out.cell (bl' w _ hw235_0)).trans hw235_0),((HB.out.cell (bl' w _ hw236_0)).trans hw236_0)⟩ (fun hHeld=>?_);clear hK K;refine norm_ (a':=?_) ?_ ?_
         rotate_left
         ·
          show Act.put _ (some 31) _=_
          simp only[Act.put,sa',sb',sc',i64_w,i32_w];rfl
         refine pure_ (i:=10) (N:=some 32) (v:=?_) (a':=?_) #[true,true,true,true,true,true,true,true,true,true,true,false,false,false,false] rfl rfl (any_of HT_.out xk') (fun _ _ _ h=>h) (Or.inl ⟨by rfl,?_⟩) ?_ ?_
         rotate_left
         ·
          intro w';go_simp;with_reducible rfl
         rotate_left
         ·
          simp only[Act.put,sa',sb',sc',i64_w,i32_w];rfl
         refine pure_ (i:=11) (N:=some 33) (v:=?_) (a':=?_) #[true,true,true,true,true,true,true,true,true,true,true,true,false,false,false] rfl rfl (any_of HT_.out xk') (fun _ _ _ h=>h) (Or.inl ⟨by rfl,?_⟩) ?_ ?_
         rotate_left
         ·
          intro w';go_simp;with_reducible rfl
         rotate_left
         ·
          simp only[Act.put,sa',sb',sc',i64_w,i32_w];rfl
         refine pure_ (i:=12) (N:=some 34) (v:=?_) (a':=?_) #[true,true,true,true,true,true,true,true,true,true,true,true,true,false,false] rfl rfl (any_of HT_.out xk') (fun _ _ _ h=>h) (Or.inl ⟨by rfl,?_⟩) ?_ ?_
         rotate_left
         ·
          intro w';go_simp;with_reducible rfl
         rotate_left
         ·
          simp only[Act.put,sa',sb',sc',i64_w,i32_w];rfl
         refine pure_ (i:=13) (N:=some 35) (v:=?_) (a':=?_) #[true,true,true,true,true,true,true,true,true,true,true,true,true,true,false] rfl rfl (any_of HT_.out xk') (fun _ _ _ h=>h) (Or.inl ⟨by rfl,?_⟩) ?_ ?_
         rotate_left
         ·
          intro w';go_simp;with_reducible rfl
         rotate_left
         ·
          simp only[Act.put,sa',sb',sc',i64_w,i32_w];rfl
         refine last_ (i:=14) (N:=none) #[true,true,true,true,true,true,true,true,true,true,true,true,true,true,true] rfl rfl (one_of HT_.out xk') (by decide) (fun K hK=>?_);have hs22:w21.cell? ⟨gb233,1,none⟩=some (.int .i64 x234001_1):=(bc' BK233.out 1).trans rfl;have hfs22:=bf' BK233.out 1;have hns22_0:=NB228_233.out;have hns22_1:=NB229_233.out;have hms22_0:=NB233_228.out;have hms22_1:=NB233_229.out;refine skip_ (w1:=?_) (by rfl) rfl ?_ ?_
         rotate_left
         ·
          go_simp;rfl
         refine hK.out _ _ ?_
         clear hK K;refine done_ (done_of HT_.out xk') ?_
         try go_wp2
         go_loopg [38] k1 (fun kq v38 w'=>∃ (x38_2:Int) (x234000_2:List Bool) (u234000:Value),v38 = .int .i64 x38_2∧Aside0 (impl_Camp_after.l1 kq l1 (l1.length:Int) x18_1 (rd_L2 l1 x18_1) ((rd_L2 l1 x18_1).length:Int) x38_2 l0_0 a0_1 x234000_2 (wrap64 (x234001_1+(wrap64 (1 - (wrap64 (2 * t237))))))=some (r1,r2))∧Aside0 (kq≤k1)∧Aside0 (Kd.R Kd.bool 4 w' w.heap.size (fun _=>True) u234000 x234000_2)∧Aside0 (w'.heap[gb228]? = some (.cells #[(.slice (some ad236) l0_0.length c0_0), .int .i64 a0_1] 32 (0,0)))∧Aside0 (w'.heap[gb229]? = some (.cells #[(.slice none 0 0), .int .i64 0] 32 (0,0)))∧Aside0 (w'.heap[gb233]? = some (.cells #[u234000, .int .i64 (wrap64 (x234001_1+(wrap64 (1 - (wrap64 (2 * t237))))))] 32 (0,0)))∧Aside0 (Below w.heap.size w w'))
         case atStart=>exact ⟨(0),(x234000_1),(u234000),xs',H',⟨Nat.le_refl _⟩,⟨by (with_reducible repeat (first|apply ra'|apply rn'|apply rw'));exact Kd.R_mono (Kd.R_far (p:=⟨gb233,1,none⟩) (Kd.R_types HO_234000.out BK233.out (by decide)) (fun _ hk=>hk.2) (.int .i64 (wrap64 (x234001_1+(wrap64 (1 - (wrap64 (2 * t237)))))))) (fun _ hk=>trivial)⟩,⟨by (with_reducible repeat (first|refine kn' ?_ _|refine kd' ?_|refine ka' ?_ _));refine blk_far ?_ NB228_233.out _;(with_reducible repeat (first|refine kn' ?_ _|refine kd' ?_|refine ka' ?_ _));exact BK228.out⟩,⟨by (with_reducible repeat (first|refine kn' ?_ _|refine kd' ?_|refine ka' ?_ _));refine blk_far ?_ NB229_233.out _;(with_reducible repeat (first|refine kn' ?_ _|refine kd' ?_|refine ka' ?_ _));exact BK229.out⟩,⟨by (with_reducible repeat (first|refine kn' ?_ _|refine kd' ?_|refine ka' ?_ _));refine blk_put (cs:=#[u234000, .int .i64 x234001_1]) ?_ 1 _ rfl;(with_reducible repeat (first|refine kn' ?_ _|refine kd' ?_|refine ka' ?_ _));exact BK233.out⟩,⟨y3' GE228.out GE229.out GE233.out⟩⟩
         case round =>
          clear H';try clear c1
          try clear c2
          try clear p2
          try clear q2
          try clear hx2
          try clear qi2
          try clear c5
          try clear p6
          try clear c7
          try clear c14
          try clear c14b0
          try clear c15
          try clear c15b0
          try clear c16
          try clear c16b0
          try clear c17
          try clear c17b0
          try clear c17b1
          try clear c18
          try clear c18b0
          try clear c19
          try clear c19b0
          try clear hx234_0
          try clear hx235_0
          try clear hx236_0
          try clear p2
          try clear p234
          try clear p235
          try clear p236
          try clear q234
          try clear q235
          try clear q236
          obtain ⟨x38_2,x234000_2,u234000,rfl,HA,HK2,HO_234000,BK228,BK229,BK233,HB⟩:=hrel;cases gk with
          | zero=>exact absurd HA.out (by simp[impl_Camp_after.l1])
          | succ k2 =>
           have H:=HA.out;clear HA;simp only[impl_Camp_after.l1] at H;by_cases c23:x38_2 < ((rd_L2 l1 x18_1).length:Int)
           ·
            rw[if_pos c23] at H;have c23b0:decide (x38_2 < ((rd_L2 l1 x18_1).length:Int))=true:=dt' c23;clear c23;by_cases c24:0≤x38_2
            ·
             rw[if_pos c24] at H;have c24b0:decide (0≤x38_2)=true:=dt' c24;clear c24;by_cases c25:x38_2 < ((rd_L2 l1 x18_1).length:Int)
             ·
              rw[if_pos c25] at H;have c25b0:decide (x38_2 < ((rd_L2 l1 x18_1).length:Int))=true:=dt' c25;clear c25;by_cases c26:0≤(rd (rd_L2 l1 x18_1) x38_2)
              ·
               rw[if_pos c26] at H;have c26b0:decide (0≤(rd (rd_L2 l1 x18_1) x38_2))=true:=dt' c26;clear c26;by_cases c27:(rd (rd_L2 l1 x18_1) x38_2) < (l0_0.length:Int)
               ·
                rw[if_pos c27] at H;have c27b0:decide ((rd (rd_L2 l1 x18_1) x38_2) < (l0_0.length:Int))=true:=dt' c27;clear c27;by_cases c28:(rd (rd_L2 l1 x18_1) x38_2) < (x234000_2.length:Int)
                ·
                 rw[if_pos c28] at H;have c28b0:decide ((rd (rd_L2 l1 x18_1) x38_2) < (x234000_2.length:Int))=true:=dt' c28;clear c28;obtain ⟨y240,hy240⟩:∃ y_:List Bool,y_=(x234000_2.set ((rd (rd_L2 l1 x18_1) x38_2):Int).toNat (!(rdOf false l0_0 (rd (rd_L2 l1 x18_1) x38_2)))):=⟨_,rfl⟩
                 replace H:(impl_Camp_after.l1 k2 l1 (l1.length:Int) x18_1 (rd_L2 l1 x18_1) ((rd_L2 l1 x18_1).length:Int) (wrap64 (x38_2+1)) l0_0 a0_1 y240 (wrap64 (x234001_1+(wrap64 (1 - (wrap64 (2 * t237)))))))=some (r1,r2):=by first|(rw[hy240];with_reducible exact H)|(have H2_:=(Option.bind_some _ _).symm.trans H;rw[hy240];with_reducible exact H2_)|(have H2_:=(Option.bind_some _ _).symm.trans H;with_reducible exact H2_)|with_reducible exact H|(rw[hy240];exact H)|exact H
                 have Ny240:=am' hy240;clear hy240;have H':=am' H;clear H;have p238:0≤(x38_2:Int):=od' xa';have q238:x38_2 < ((rd_L2 l1 x18_1).length:Int):=od' xa';obtain ⟨ad238,e238,hx238_0⟩:=Kd.at_int HR234_0.out x38_2 p238 q238;obtain rfl:ad235=ad238:=(by injection e238)
                 replace hx238_0:=(HB.out.cell (bl' w _ hx238_0)).trans hx238_0;replace p238:=eq_true p238;replace q238:=eq_true q238
                 try go_wp2
                 have n0_:=am' (rw' HO_234000.out);have n1_:=am' (kd' BK228.out);have n2_:=am' (kd' BK229.out);have n3_:=am' (kd' BK233.out);have n4_:=am' (be' HB.out);clear HO_234000;clear BK228;clear BK229;clear BK233;clear HB;have HO_234000:=n0_;have BK228:=n1_;have BK229:=n2_;have BK233:=n3_;have HB:=n4_;clear n0_ n1_ n2_ n3_ n4_;have p239:0≤((rd (rd_L2 l1 x18_1) x38_2):Int):=od' xa';have q239:(rd (rd_L2 l1 x18_1) x38_2) < (l0_0.length:Int):=od' xa';obtain ⟨ad239,e239,hx239_0⟩:=Kd.at_bool HR0_0.out (rd (rd_L2 l1 x18_1) x38_2) p239 q239;have hw239_0:=hx239_0;obtain rfl:ad236=ad239:=(by injection e239)
                 replace hx239_0:=(HB.out.cell (bl' w _ hx239_0)).trans hx239_0;replace p239:=eq_true p239;replace q239:=eq_true q239;have p29:0≤((rd (rd_L2 l1 x18_1) x38_2):Int):=od' xa';have q29:((rd (rd_L2 l1 x18_1) x38_2):Int) < ((x234000_2.length:Int):Int):=od' xa';obtain ⟨go29,co29,eo29,gb29,gl29,cl29,HG29⟩:=Kd.R_form HO_234000.out (by omega)
                 (first|cases eo29|(injection eo29 with ea_ en_ ec_;(first|subst ea_|(injection ea_ with ea_;subst ea_));subst ec_;clear en_))
                 have GB29:=am' gb29;have GG29:=am' HG29;clear gb29 gl29 HG29;obtain ⟨hx29_0,hf29_0⟩:=Kd.R_celln false HO_234000.out ((rd (rd_L2 l1 x18_1) x38_2):Int) p29 q29;replace p29:=eq_true p29;replace q29:=eq_true q29;have HP31:=Kd.R_putn HO_234000.out ((rd (rd_L2 l1 x18_1) x38_2):Int) (!(rdOf false l0_0 (rd (rd_L2 l1 x18_1) x38_2)));rw[← Ny240.out] at HP31;have HQ31:=am' HP31;clear HP31;refine start_ (n:=11) (S:=fun w'=>w'.cell? ⟨gb233,0,none⟩=some (.slice (some ⟨go29,0,none⟩) x234000_2.length co29)∧w'.cell? ⟨gb233,1,none⟩=some (.int .i64 (wrap64 (x234001_1+(wrap64 (1 - (wrap64 (2 * t237)))))))∧w'.cell? ⟨gb228,0,none⟩=some (.slice (some ad236) l0_0.length c0_0)∧w'.cell? ⟨gb228,1,none⟩=some (.int .i64 a0_1)∧w'.cell? (ad236.add ((rd (rd_L2 l1 x18_1) x38_2)).toNat)=some (.bool (rdOf false l0_0 (rd (rd_L2 l1 x18_1) x38_2)))) (ds:=[10]) #[false,false,false,false,false,false,false,false,false,false,false] xk' rfl rfl ⟨(bc' BK233.out 0).trans rfl,(bc' BK233.out 1).trans rfl,(bc' BK228.out 0).trans rfl,(bc' BK228.out 1).trans rfl,((HB.out.cell (bl' w _ hw239_0)).trans hw239_0)⟩ (fun hHeld=>?_);refine with_tabW impl_Camp_after.tab9 impl_Camp_after.bits9 (fun HT_ HW_=>?_);generalize wr.drew=w30 at HO_234000 BK228 BK229 BK233 HB GG29 HQ31 hf29_0 hx239_0 hx29_0 hHeld ⊢
                 refine pure_ (i:=0) (N:=some 42) (v:=?_) (a':=?_) #[true,false,false,false,false,false,false,false,false,false,false] rfl rfl (any_of HT_.out xk') (fun _ _ _ h=>h) (Or.inl ⟨by rfl,?_⟩) ?_ ?_
                 rotate_left
                 ·
                  intro w';go_simp;with_reducible rfl
                 rotate_left
                 ·
                  simp only[Act.put,sa',sb',sc',i64_w,i32_w];rfl
                 refine pure_ (i:=2) (N:=some 44) (v:=?_) (a':=?_) #[true,false,true,false,false,false,false,false,false,false,false] rfl rfl (any_of HT_.out xk') (fun _ _ _ h=>h) (Or.inl ⟨by rfl,?_⟩) ?_ ?_
                 rotate_left
                 ·
                  intro w';go_simp;with_reducible rfl
                 rotate_left
                 ·
                  simp only[Act.put,sa',sb',sc',i64_w,i32_w];rfl
                 refine pure_ (i:=3) (N:=some 45) (v:=?_) (a':=?_) #[true,false,true,true,false,false,false,false,false,false,false] rfl rfl (any_of HT_.out xk') (fun _ _ _ h=>h) (Or.inl ⟨by rfl,?_⟩) ?_ ?_
                 rotate_left
                 ·
                  intro w';go_simp;with_reducible rfl
                 rotate_left
                 ·
                  simp only[Act.put,sa',sb',sc',i64_w,i32_w];rfl
                 refine pure_ (i:=5) (N:=some 47) (v:=?_) (a':=?_) #[true,false,true,true,false,true,false,false,false,false,false] rfl rfl (any_of HT_.out xk') (fun _ _ _ h=>h) (Or.inl ⟨by rfl,?_⟩) ?_ ?_
                 rotate_left
                 ·
                  intro w';go_simp;with_reducible rfl
                 rotate_left
                 ·
                  simp only[Act.put,sa',sb',sc',i64_w,i32_w];rfl
                 refine take_ (i:=1) (N:=some 43) (v:=?_) (a':=?_) #[true,true,true,true,false,true,false,false,false,false,false] rfl rfl (take_ofW HT_.out HW_.out xk') (fun _ _ _ h=>h) (Or.inl ⟨by rfl,?_⟩) hHeld ?_ ?_
                 rotate_left
                 ·
                  rintro w' ⟨s0,s1,s2,s3,s4⟩
                  go_simp;with_reducible rfl
                 rotate_left
                 ·
                  simp only[Act.put,sa',sb',sc',i64_w,i32_w];rfl
                 refine take_ (i:=4) (N:=some 46) (v:=?_) (a':=?_) #[true,true,true,true,true,true,false,false,false,false,false] rfl rfl (take_ofW HT_.out HW_.out xk') (fun _ _ _ h=>h) (Or.inl ⟨by rfl,?_⟩) hHeld ?_ ?_
                 rotate_left
                 ·
                  rintro w' ⟨s0,s1,s2,s3,s4⟩
                  go_simp;with_reducible rfl
                 rotate_left
                 ·
                  simp only[Act.put,sa',sb',sc',i64_w,i32_w];rfl
                 refine pure_ (i:=6) (N:=some 48) (v:=?_) (a':=?_) #[true,true,true,true,true,true,true,false,false,false,false] rfl rfl (any_of HT_.out xk') (fun _ _ _ h=>h) (Or.inl ⟨by rfl,?_⟩) ?_ ?_
                 rotate_left
                 ·
                  intro w';go_simp;with_reducible rfl
                 rotate_left
                 ·
                  simp only[Act.put,sa',sb',sc',i64_w,i32_w];rfl
                 refine take_ (i:=7) (N:=some 49) (v:=?_) (a':=?_) #[true,true,true,true,true,true,true,true,false,false,false] rfl rfl (take_ofW HT_.out HW_.out xk') (fun _ _ _ h=>h) (Or.inl ⟨by rfl,?_⟩) hHeld ?_ ?_
                 rotate_left
                 ·
                  rintro w' ⟨s0,s1,s2,s3,s4⟩
                  go_simp;with_reducible rfl
                 rotate_left
                 ·
                  simp only[Act.put,sa',sb',sc',i64_w,i32_w];rfl
                 refine pure_ (i:=8) (N:=some 50) (v:=?_) (a':=?_) #[true,true,true,true,true,true,true,true,true,false,false] rfl rfl (any_of HT_.out xk') (fun _ _ _ h=>h) (Or.inl ⟨by rfl,?_⟩) ?_ ?_
                 rotate_left
                 ·
                  intro w';go_simp;with_reducible rfl
                 rotate_left
                 ·
                  simp only[Act.put,sa',sb',sc',i64_w,i32_w];rfl
                 refine pure_ (i:=9) (N:=some 51) (v:=?_) (a':=?_) #[true,true,true,true,true,true,true,true,true,true,false] rfl rfl (any_of HT_.out xk') (fun _ _ _ h=>h) (Or.inl ⟨by rfl,?_⟩) ?_ ?_
                 rotate_left
                 ·
                  intro w';go_simp;with_reducible rfl
                 rotate_left
                 ·
                  simp only[Act.put,sa',sb',sc',i64_w,i32_w];rfl
                 refine last_ (i:=10) (N:=none) #[true,true,true,true,true,true,true,true,true,true,true] rfl rfl (one_of HT_.out xk') (by decide) (fun K hK=>?_);refine skip_ (w1:=?_) (by rfl) rfl ?_ ?_
                 rotate_left
                 ·
                  go_simp;rfl
                 refine hK.out _ _ ?_
                 clear hK K;refine done_ (done_of HT_.out xk') ?_
                 try go_wp2
                 go_roundg k2
                 case measure=>have:=HK1.out;have:=HK2.out;omega
                 case rel=>exact ⟨(wrap64 (x38_2+1)),(y240),(.slice (some ⟨go29,0,none⟩) x234000_2.length co29),xs',H',⟨by have:=HK1.out;have:=HK2.out;omega⟩,⟨kr' HQ31.out⟩,⟨by (with_reducible repeat (first|refine kn' ?_ _|refine kd' ?_|refine ka' ?_ _));refine blk_far ?_ (by have h_:=Kd.R_ne HO_234000.out BK228.out (by decide);intro e_;exact h_ (by rw[e_];rfl)) _;(with_reducible repeat (first|refine kn' ?_ _|refine kd' ?_|refine ka' ?_ _));exact BK228.out⟩,⟨by (with_reducible repeat (first|refine kn' ?_ _|refine kd' ?_|refine ka' ?_ _));refine blk_far ?_ (by have h_:=Kd.R_ne HO_234000.out BK229.out (by decide);intro e_;exact h_ (by rw[e_];rfl)) _;(with_reducible repeat (first|refine kn' ?_ _|refine kd' ?_|refine ka' ?_ _));exact BK229.out⟩,⟨by (with_reducible repeat (first|refine kn' ?_ _|refine kd' ?_|refine ka' ?_ _));refine blk_far ?_ (by have h_:=Kd.R_ne HO_234000.out BK233.out (by decide);intro e_;exact h_ (by rw[e_];rfl)) _;(with_reducible repeat (first|refine kn' ?_ _|refine kd' ?_|refine ka' ?_ _));exact BK233.out⟩,⟨y4' GB29.out GE228.out GE229.out GE233.out⟩⟩
                ·
                 rw[if_neg c28] at H;exact absurd H (by simp)
               ·
                rw[if_neg c27] at H;exact absurd H (by simp)
              ·
               rw[if_neg c26] at H;exact absurd H (by simp)
             ·
              rw[if_neg c25] at H;exact absurd H (by simp)
            ·
             rw[if_neg c24] at H;exact absurd H (by simp)
           ·
            rw[if_neg c23] at H;have c23b0:decide (x38_2 < ((rd_L2 l1 x18_1).length:Int))=false:=df' c23;clear c23;have H':=am' H;clear H;go_wp2;go_roundg k2
            case measure=>have:=HK1.out;have:=HK2.out;omega
            case rel=>exact ⟨(wrap64 (x18_1+1)),(x234000_2),((wrap64 (x234001_1+(wrap64 (1 - (wrap64 (2 * t237))))))),(u234000),xs',H',⟨by have:=HK1.out;have:=HK2.out;omega⟩,⟨kr' HO_234000.out⟩,⟨kk' BK228.out⟩,⟨kk' BK229.out⟩,⟨kk' BK233.out⟩,⟨y3' GE228.out GE229.out GE233.out⟩⟩
        ·
         rw[if_neg c19] at H;exact absurd H (by simp)
       ·
        rw[if_neg c18] at H;exact absurd H (by simp)
      ·
       rw[if_neg c17] at H;exact absurd H (by simp)
     ·
      rw[if_neg c16] at H;exact absurd H (by simp)
    ·
     rw[if_neg c15] at H;exact absurd H (by simp)
   ·
    rw[if_neg c14] at H;have c14b0:decide (x18_1 < (l1.length:Int))=false:=df' c14;clear c14;simp only[Option.some.injEq,Prod.mk.injEq] at H;obtain ⟨rfl,rfl⟩:=H;have hnb32:=NB233_228.out;have hnc32:=NB228_233.out;have hnb33:=NB233_229.out;have hnc33:=NB229_233.out;have hcz34_0:wr.cell? ⟨gb233,0,none⟩=some (u234000):=(bc' BK233.out 0).trans rfl;have hcz34_1:wr.cell? ⟨gb233,1,none⟩=some (.int .i64 x234001_1):=(bc' BK233.out 1).trans rfl;have hfz34_0:=bf' BK233.out 0;have hfz34_1:=bf' BK233.out 1;obtain ⟨Ao35,co35,eo35⟩:=Kd.R_slice HO_234000.out;subst eo35;have hnb36:=NB229_228.out;have hnc36:=NB228_229.out;have hcz37_0:wr.cell? ⟨gb229,0,none⟩=some (.slice none 0 0):=(bc' BK229.out 0).trans rfl;have hcz37_1:wr.cell? ⟨gb229,1,none⟩=some (.int .i64 0):=(bc' BK229.out 1).trans rfl;have hfz37_0:=bf' BK229.out 0;have hfz37_1:=bf' BK229.out 1;go_wp2;refine bodyPost_ret (results_cell_row rfl _ _ gb229 32 #[.slice Ao35 x234000_1.length co35, .int .i64 x234001_1] (0,0) _ rfl (by (with_reducible repeat (first|refine kn' ?_ _|refine kd' ?_|refine ka' ?_ _));refine blk_put (cs:=#[.slice Ao35 x234000_1.length co35, .int .i64 0]) ?_ 1 _ rfl;(with_reducible repeat (first|refine kn' ?_ _|refine kd' ?_|refine ka' ?_ _));refine blk_put (cs:=#[.slice none 0 0, .int .i64 0]) ?_ 0 _ rfl;(with_reducible repeat (first|refine kn' ?_ _|refine kd' ?_|refine ka' ?_ _));exact BK229.out) Try.underlying32 rfl xk') rfl ?_
    exact ⟨_,by first|rfl|(simp[errW_none,errW_some] <;> rfl)|(simp[*,errW_none,errW_some] <;> rfl),by (with_reducible repeat (first|apply ra'|apply rn'|apply rw'));exact Kd.R_mono (Kd.R_far (p:=⟨gb229,1,none⟩) (Kd.R_far (p:=⟨gb229,0,none⟩) (Kd.R_types HO_234000.out BK229.out (by decide)) (fun _ hk=>hk.2) (.slice Ao35 x234000_1.length co35)) (fun _ hk=>hk.2) (.int .i64 x234001_1)) (fun _ hk=>trivial),y3' GE228.out GE229.out GE233.out⟩
end Go.Proofs.Ytdomojenlofieaa.C2
