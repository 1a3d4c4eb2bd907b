import Derived.Test.YtikjdmiohpdnaaaC20zx0
import Derived.Test.YtikjdmiohpdnaaaC20zx5
import Derived.Test.YtikjdmiohpdnaaaC20zAl
namespace Go.Proofs.Ytikjdmiohpdnaaa.C20
open Go.RowKit Go.Proofs.YtikjdmiohpdnaaaW.PrintWords Go.Proofs.YtikjdmiohpdnaaaW.PrintLast Go.Proofs.YtikjdmiohpdnaaaW.PrintMore Go.Proofs.Ytikjdmiohpdnaaa.H
attribute [local go_sem] max2_int min2_int max_two min_two max_three min_three max_four min_four
set_option linter.unusedVariables false
set_option linter.unusedSimpArgs false
mutual
def spec_loCan.j0:Nat→List Int→Bool→List Int→List Bool→Int→List Bool→Bool→Option (Bool)
 | 0,_,_,_,_,_,_,_=>none
 | k+1,x2,x29,x194000,x194001,x194002,x195000,x195001=>if x29=true then (some false) else (spec_loCan.l0 k false x2 (x2.length:Int) 0 x194000 x194001 x194002 x195000 x195001)
def spec_loCan.l0:Nat→Bool→List Int→Int→Int→List Int→List Bool→Int→List Bool→Bool→Option (Bool)
 | 0,_,_,_,_,_,_,_,_,_=>none
 | k+1,x7,x30,x31,x32,x194000,x194001,x194002,x195000,x195001=>if x32 < x31 then (if 0≤x32 then (if x32 < (x30.length:Int) then (if 0≤(rd x30 x32) then (if (rd x30 x32) < (x195000.length:Int) then (if ((rdOf false x195000 (rd x30 x32)) != x195001)=true then (some false) else (if x7=true then (spec_loCan.l0 k true x30 x31 (wrap64 (x32+1)) x194000 x194001 x194002 x195000 x195001) else (if (rd x30 x32) < (x194001.length:Int) then (spec_loCan.l0 k (rdOf false x194001 (rd x30 x32)) x30 x31 (wrap64 (x32+1)) x194000 x194001 x194002 x195000 x195001) else (none)))) else (none)) else (none)) else (none)) else (none)) else (some x7)
end
def spec_loCan.f (k:Nat) (l0_0:List Int) (l0_1:List Bool) (a0_2:Int) (l1_0:List Bool) (a1_1:Bool) (l2:List Int):Option (Bool):=if (l2.length:Int)=0 then (spec_loCan.j0 k l2 true l0_0 l0_1 a0_2 l1_0 a1_1) else ((spec_l1Rising.f k l2 0 (wrap64 ((l0_0.length:Int) - 1))).bind fun t195=>(if t195=true then ((spec_loLoad.f k l0_0 l0_1 a0_2 l2).bind fun t196=>(spec_loCan.j0 k l2 (decide (t196 > a0_2)) l0_0 l0_1 a0_2 l1_0 a1_1)) else (spec_loCan.j0 k l2 true l0_0 l0_1 a0_2 l1_0 a1_1)))
def spec_loCan.T1:Bool × List (List Nat × List Nat):=(true,[([],[]),([0],[0]),([1],[1]),([2],[2]),([3],[3]),([3],[3]),([5,3],[3,5]),([6,3],[3,6]),([7,3],[3,7]),([4,8,3,3],[3,4,8]),([9,3],[3,9]),([3,10],[3,10]),([11,9],[11]),([12],[12]),([12],[12]),([13,14,12,12],[12,13,14]),([12],[12]),([16,12],[12,16]),([15,17,12],[12,15,17]),([12,18],[12,18])])
def spec_loCan.B1:List Nat:=[0,1,3,7,15,15,47,111,239,511,1023,2047,4095,8191,8191,32767,8191,73727,262143,524287]
theorem spec_loCan.tab1:rtab .any (opsOf Try.f59 1)=spec_loCan.T1:=by kernel_rfl
theorem spec_loCan.bits1:waitsOk spec_loCan.T1.2 spec_loCan.B1=true:=by kernel_rfl
def spec_loCan.T7:Bool × List (List Nat × List Nat):=(true,[([],[]),([0],[0]),([],[]),([1,2],[1,2]),([3],[3]),([],[]),([5],[5]),([4,6],[4,6])])
def spec_loCan.B7:List Nat:=[0,1,0,7,15,0,32,127]
theorem spec_loCan.tab7:rtab .any (opsOf Try.f59 7)=spec_loCan.T7:=by kernel_rfl
theorem spec_loCan.bits7:waitsOk spec_loCan.T7.2 spec_loCan.B7=true:=by kernel_rfl
set_option maxHeartbeats 8000000 in
set_option maxRecDepth 100000 in
theorem spec_loCan.calls (k:Nat) (A0_0:Option Addr) (c0_0:Nat) (l0_0:List Int) (A0_1:Option Addr) (c0_1:Nat) (l0_1:List Bool) (a0_2:Int) (A1_0:Option Addr) (c1_0:Nat) (l1_0:List Bool) (a1_1:Bool) (A2:Option Addr) (c2:Nat) (l2:List Int) (r:Bool) (w:World) (hr0_0:Kd.C (Kd.int .i64) w A0_0 l0_0.length l0_0) (hc0_0:l0_0.length≤c0_0) (hr0_1:Kd.C Kd.bool w A0_1 l0_1.length l0_1) (hc0_1:l0_1.length≤c0_1) (hr1_0:Kd.C Kd.bool w A1_0 l1_0.length l1_0) (hc1_0:l1_0.length≤c1_0) (hr2:Kd.C (Kd.int .i64) w A2 l2.length l2) (hc2:l2.length≤c2) (h:spec_loCan.f k l0_0 l0_1 a0_2 l1_0 a1_1 l2=some r) :
  Calls Try.prog 59 #[.agg #[.slice A0_0 l0_0.length c0_0, .slice A0_1 l0_1.length c0_1, .int .i64 a0_2], .agg #[.slice A1_0 l1_0.length c1_0, .bool a1_1], .slice A2 l2.length c2] w fun e w'=>e = .returned (.bool r)∧Below w.heap.size w w':=by
 have hu29:=Try.underlying29
 have hu38:=Try.underlying38
 have HR0_0:=am' hr0_0
 have HC0_0:=am' hc0_0
 clear hr0_0 hc0_0;have HR0_1:=am' hr0_1
 have HC0_1:=am' hc0_1
 clear hr0_1 hc0_1;have HR1_0:=am' hr1_0
 have HC1_0:=am' hc1_0
 clear hr1_0 hc1_0;have HR2:=am' hr2
 have HC2:=am' hc2
 clear hr2 hc2;have HB:=am' (Below.refl w.heap.size w)
 have H:(if (l2.length:Int)=0 then (spec_loCan.j0 k l2 true l0_0 l0_1 a0_2 l1_0 a1_1) else ((spec_l1Rising.f k l2 0 (wrap64 ((l0_0.length:Int) - 1))).bind fun t195=>(if t195=true then ((spec_loLoad.f k l0_0 l0_1 a0_2 l2).bind fun t196=>(spec_loCan.j0 k l2 (decide (t196 > a0_2)) l0_0 l0_1 a0_2 l1_0 a1_1)) else (spec_loCan.j0 k l2 true l0_0 l0_1 a0_2 l1_0 a1_1))))=some r:=h
 clear h;have HC4:=am' H
 clear H;go_enter Try.func59,Try.ntmps59
 go_upto_region 1 with (first|((with_reducible refine gate_dst (N:=3) rfl ?_);(try (refine gate_guard (by rfl) ?_;dsimp only));refine box_event ?hg (N:=3) ?hd (cs:=#[.slice A0_0 l0_0.length c0_0, .slice A0_1 l0_1.length c0_1, .int .i64 a0_2]) (t:=29) ?hr ?_;(case hd=>rfl);(case hg=>rfl);(case hr=>first|(go_simp;done)|(go_simp;rfl));intro gb193 hg w5 hbox hb;have n0_:=am' (bt' xb' hb);have n1_:=am' (hbox);have n2_:=am' ((by rw[hg];exact (bz' xb'):w.heap.size≤gb193));have n3_:=am' ((by rw[hg];exact (bz' xb'):w.heap.size≤gb193));clear HB;have HB:=n0_;have BK193:=n1_;have GW193:=n2_;have GE193:=n3_;clear n0_ n1_ n2_ n3_;clear hb hbox hg)|((with_reducible refine gate_dst (N:=4) rfl ?_);(try (refine gate_guard (by rfl) ?_;dsimp only));refine box_event ?hg (N:=4) ?hd (cs:=#[.slice A1_0 l1_0.length c1_0, .bool a1_1]) (t:=38) ?hr ?_;(case hd=>rfl);(case hg=>rfl);(case hr=>first|(go_simp;done)|(go_simp;rfl));intro gb194 hg w6 hbox hb;have n0_:=am' (bb' (g:=gb193) (o := .cells #[.slice A0_0 l0_0.length c0_0, .slice A0_1 l0_1.length c0_1, .int .i64 a0_2] 29 (0,0)) (kk' BK193.out) hb);have n1_:=am' (bt' (yb' GE193.out) hb);have n2_:=am' (hbox);have n3_:=am' ((by rw[hg];exact (bz' (yb' GE193.out)):w.heap.size≤gb194));have n4_:=am' ((by rw[hg];exact (bz' (yb' GE193.out)):w.heap.size≤gb194));have n5_:=am' ((by rw[hg];exact Nat.ne_of_lt (blk_lt (g:=gb193) (o := .cells #[.slice A0_0 l0_0.length c0_0, .slice A0_1 l0_1.length c0_1, .int .i64 a0_2] 29 (0,0)) (kk' BK193.out)):gb193≠gb194));have n6_:=am' ((by rw[hg];exact Nat.ne_of_gt (blk_lt (g:=gb193) (o := .cells #[.slice A0_0 l0_0.length c0_0, .slice A0_1 l0_1.length c0_1, .int .i64 a0_2] 29 (0,0)) (kk' BK193.out)):gb194≠gb193));clear BK193;clear HB;have BK193:=n0_;have HB:=n1_;have BK194:=n2_;have GW194:=n3_;have GE194:=n4_;have NB193_194:=n5_;have NB194_193:=n6_;clear n0_ n1_ n2_ n3_ n4_ n5_ n6_;clear hb hbox hg))
 (try simp only[Act.put,sa',sb',sc'])
 go_cut [29] (fun v29 wc=>∃ (kq:Nat) (x29_3:Bool),v29 = .bool x29_3∧Aside0 (spec_loCan.j0 kq l2 x29_3 l0_0 l0_1 a0_2 l1_0 a1_1=some r)∧Aside0 (kq≤k)∧Aside0 (wc.heap[gb193]? = some (.cells #[(.slice A0_0 l0_0.length c0_0),(.slice A0_1 l0_1.length c0_1), .int .i64 a0_2] 29 (0,0)))∧Aside0 (wc.heap[gb194]? = some (.cells #[(.slice A1_0 l1_0.length c1_0), .bool a1_1] 38 (0,0)))∧Aside0 (Below w.heap.size w wc))
 case first =>
  have H:=HC4.out;clear HC4;by_cases c7:(l2.length:Int)=0
  ·
   rw[if_pos c7] at H;have c7b0:((l2.length:Int) == 0)=true:=beq_iff_eq.mpr c7;have c7b1:((l2.length:Int) != 0)=false:=bne_eq_false_iff_eq.mpr c7;clear c7;(first|rw[c7b0]|(simp only[i64_w,i32_w];rw[c7b0])|skip)
   have H':=am' H;clear H;try go_wp2
   have n0_:=am' (kd' BK193.out);have n1_:=am' (kd' BK194.out);have n2_:=am' (be' HB.out);clear BK193;clear BK194;clear HB;have BK193:=n0_;have BK194:=n1_;have HB:=n2_;clear n0_ n1_ n2_;refine start_ (n:=20) (S:=fun w'=>True) (ds:=[]) #[false,false,false,false,false,false,false,false,false,false,false,false,false,false,false,false,false,false,false,false] xk' rfl rfl trivial (fun hHeld=>?_);refine with_tabW spec_loCan.tab1 spec_loCan.bits1 (fun HT_ HW_=>?_);generalize w6.drew=w8 at BK193 BK194 HB hHeld ⊢
   refine pure_ (i:=0) (N:=some 10) (v:=?_) (a':=?_) #[true,false,false,false,false,false,false,false,false,false,false,false,false,false,false,false,false,false,false,false] rfl rfl (any_of HT_.out xk') (fun _ _ _ h=>h) (Or.inl ⟨by rfl,?_⟩) ?_ ?_
   rotate_left
   ·
    intro w';go_simp;with_reducible rfl
   rotate_left
   ·
    simp only[Act.put,sa',sb',sc',i64_w,i32_w];rfl
   refine pure_ (i:=1) (N:=some 11) (v:=?_) (a':=?_) #[true,true,false,false,false,false,false,false,false,false,false,false,false,false,false,false,false,false,false,false] rfl rfl (any_of HT_.out xk') (fun _ _ _ h=>h) (Or.inl ⟨by rfl,?_⟩) ?_ ?_
   rotate_left
   ·
    intro w';go_simp;with_reducible rfl
   rotate_left
   ·
    simp only[Act.put,sa',sb',sc',i64_w,i32_w];rfl
   refine pure_ (i:=2) (N:=some 12) (v:=?_) (a':=?_) #[true,true,true,false,false,false,false,false,false,false,false,false,false,false,false,false,false,false,false,false] rfl rfl (any_of HT_.out xk') (fun _ _ _ h=>h) (Or.inl ⟨by rfl,?_⟩) ?_ ?_
   rotate_left
   ·
    intro w';go_simp;with_reducible rfl
   rotate_left
   ·
    simp only[Act.put,sa',sb',sc',i64_w,i32_w];rfl
   refine pure_ (i:=3) (N:=some 13) (v:=?_) (a':=?_) #[true,true,true,true,false,false,false,false,false,false,false,false,false,false,false,false,false,false,false,false] rfl rfl (any_of HT_.out xk') (fun _ _ _ h=>h) (Or.inl ⟨by rfl,?_⟩) ?_ ?_
   rotate_left
   ·
    intro w';go_simp;with_reducible rfl
   rotate_left
   ·
    simp only[Act.put,sa',sb',sc',i64_w,i32_w];rfl
   refine pure_ (i:=4) (N:=some 14) (v:=undef) (a':=?_) #[true,true,true,true,true,false,false,false,false,false,false,false,false,false,false,false,false,false,false,false] rfl rfl (any_of HT_.out xk') (fun _ _ _ h=>h) (Or.inr ⟨by rfl,rfl⟩) ?_ ?_
   rotate_left
   ·
    simp only[Act.put,sa',sb',sc',i64_w,i32_w];rfl
   refine pure_ (i:=5) (N:=some 15) (v:=undef) (a':=?_) #[true,true,true,true,true,true,false,false,false,false,false,false,false,false,false,false,false,false,false,false] rfl rfl (any_of HT_.out xk') (fun _ _ _ h=>h) (Or.inr ⟨by rfl,rfl⟩) ?_ ?_
   rotate_left
   ·
    simp only[Act.put,sa',sb',sc',i64_w,i32_w];rfl
   refine pure_ (i:=6) (N:=some 16) (v:=undef) (a':=?_) #[true,true,true,true,true,true,true,false,false,false,false,false,false,false,false,false,false,false,false,false] rfl rfl (any_of HT_.out xk') (fun _ _ _ h=>h) (Or.inr ⟨by rfl,rfl⟩) ?_ ?_
   rotate_left
   ·
    simp only[Act.put,sa',sb',sc',i64_w,i32_w];rfl
   refine pure_ (i:=7) (N:=some 17) (v:=undef) (a':=?_) #[true,true,true,true,true,true,true,true,false,false,false,false,false,false,false,false,false,false,false,false] rfl rfl (any_of HT_.out xk') (fun _ _ _ h=>h) (Or.inr ⟨by rfl,rfl⟩) ?_ ?_
   rotate_left
   ·
    simp only[Act.put,sa',sb',sc',i64_w,i32_w];rfl
   refine pure_ (i:=8) (N:=some 18) (v:=undef) (a':=?_) #[true,true,true,true,true,true,true,true,true,false,false,false,false,false,false,false,false,false,false,false] rfl rfl (any_of HT_.out xk') (fun _ _ _ h=>h) (Or.inr ⟨by rfl,rfl⟩) ?_ ?_
   rotate_left
   ·
    simp only[Act.put,sa',sb',sc',i64_w,i32_w];rfl
   refine pure_ (i:=9) (N:=some 19) (v:=undef) (a':=?_) #[true,true,true,true,true,true,true,true,true,true,false,false,false,false,false,false,false,false,false,false] rfl rfl (any_of HT_.out xk') (fun _ _ _ h=>h) (Or.inr ⟨by rfl,rfl⟩) ?_ ?_
   rotate_left
   ·
    simp only[Act.put,sa',sb',sc',i64_w,i32_w];rfl
   refine pure_ (i:=10) (N:=some 20) (v:=undef) (a':=?_) #[true,true,true,true,true,true,true,true,true,true,true,false,false,false,false,false,false,false,false,false] rfl rfl (any_of HT_.out xk') (fun _ _ _ h=>h) (Or.inr ⟨by rfl,rfl⟩) ?_ ?_
   rotate_left
   ·
    simp only[Act.put,sa',sb',sc',i64_w,i32_w];rfl
   refine pure_ (i:=11) (N:=some 21) (v:=?_) (a':=?_) #[true,true,true,true,true,true,true,true,true,true,true,true,false,false,false,false,false,false,false,false] rfl rfl (any_of HT_.out xk') (fun _ _ _ h=>h) (Or.inl ⟨by rfl,?_⟩) ?_ ?_
   rotate_left
   ·
    intro w';go_simp;with_reducible rfl
   rotate_left
   ·
    simp only[Act.put,sa',sb',sc',i64_w,i32_w];rfl
   refine pure_ (i:=12) (N:=some 22) (v:=?_) (a':=?_) #[true,true,true,true,true,true,true,true,true,true,true,true,true,false,false,false,false,false,false,false] rfl rfl (any_of HT_.out xk') (fun _ _ _ h=>h) (Or.inl ⟨by rfl,?_⟩) ?_ ?_
   rotate_left
   ·
    intro w';go_simp;with_reducible rfl
   rotate_left
   ·
    simp only[Act.put,sa',sb',sc',i64_w,i32_w];rfl
   refine pure_ (i:=13) (N:=some 23) (v:=undef) (a':=?_) #[true,true,true,true,true,true,true,true,true,true,true,true,true,true,false,false,false,false,false,false] rfl rfl (any_of HT_.out xk') (fun _ _ _ h=>h) (Or.inr ⟨by rfl,rfl⟩) ?_ ?_
   rotate_left
   ·
    simp only[Act.put,sa',sb',sc',i64_w,i32_w];rfl
   refine pure_ (i:=14) (N:=some 24) (v:=undef) (a':=?_) #[true,true,true,true,true,true,true,true,true,true,true,true,true,true,true,false,false,false,false,false] rfl rfl (any_of HT_.out xk') (fun _ _ _ h=>h) (Or.inr ⟨by rfl,rfl⟩) ?_ ?_
   rotate_left
   ·
    simp only[Act.put,sa',sb',sc',i64_w,i32_w];rfl
   refine pure_ (i:=15) (N:=some 25) (v:=undef) (a':=?_) #[true,true,true,true,true,true,true,true,true,true,true,true,true,true,true,true,false,false,false,false] rfl rfl (any_of HT_.out xk') (fun _ _ _ h=>h) (Or.inr ⟨by rfl,rfl⟩) ?_ ?_
   rotate_left
   ·
    simp only[Act.put,sa',sb',sc',i64_w,i32_w];rfl
   refine pure_ (i:=16) (N:=some 26) (v:=undef) (a':=?_) #[true,true,true,true,true,true,true,true,true,true,true,true,true,true,true,true,true,false,false,false] rfl rfl (any_of HT_.out xk') (fun _ _ _ h=>h) (Or.inr ⟨by rfl,rfl⟩) ?_ ?_
   rotate_left
   ·
    simp only[Act.put,sa',sb',sc',i64_w,i32_w];rfl
   refine pure_ (i:=17) (N:=some 27) (v:=undef) (a':=?_) #[true,true,true,true,true,true,true,true,true,true,true,true,true,true,true,true,true,true,false,false] rfl rfl (any_of HT_.out xk') (fun _ _ _ h=>h) (Or.inr ⟨by rfl,rfl⟩) ?_ ?_
   rotate_left
   ·
    simp only[Act.put,sa',sb',sc',i64_w,i32_w];rfl
   refine pure_ (i:=18) (N:=some 28) (v:=undef) (a':=?_) #[true,true,true,true,true,true,true,true,true,true,true,true,true,true,true,true,true,true,true,false] rfl rfl (any_of HT_.out xk') (fun _ _ _ h=>h) (Or.inr ⟨by rfl,rfl⟩) ?_ ?_
   rotate_left
   ·
    simp only[Act.put,sa',sb',sc',i64_w,i32_w];rfl
   refine pure_ (i:=19) (N:=some 29) (v:=?_) (a':=?_) #[true,true,true,true,true,true,true,true,true,true,true,true,true,true,true,true,true,true,true,true] rfl rfl (any_of HT_.out xk') (fun _ _ _ h=>h) (Or.inl ⟨by rfl,?_⟩) ?_ ?_
   rotate_left
   ·
    intro w';go_simp;with_reducible rfl
   rotate_left
   ·
    simp only[Act.put,sa',sb',sc',i64_w,i32_w];rfl
   refine done_ (done_of HT_.out xk') ?_
   try go_wp2
   go_meet
   case rel=>exact ⟨_,(true),xs',H',⟨by first|omega|exact Nat.le_refl _⟩,⟨kk' BK193.out⟩,⟨kk' BK194.out⟩,⟨y2' GE193.out GE194.out⟩⟩
  ·
   rw[if_neg c7] at H;have c7b0:((l2.length:Int) == 0)=false:=beq_eq_false_iff_ne.mpr c7;have c7b1:((l2.length:Int) != 0)=true:=bne_iff_ne.mpr c7;have c7b2:¬ (l2=[]):=fun h_=>c7 (by rw[h_];rfl)
   (first|rw[c7b0]|(simp only[i64_w,i32_w];rw[c7b0])|skip)
   replace H:=Option.bind_eq_some_iff.mp H;obtain ⟨t195,A90,H⟩:=H;replace H:(if t195=true then ((spec_loLoad.f k l0_0 l0_1 a0_2 l2).bind fun t196=>(spec_loCan.j0 k l2 (decide (t196 > a0_2)) l0_0 l0_1 a0_2 l1_0 a1_1)) else (spec_loCan.j0 k l2 true l0_0 l0_1 a0_2 l1_0 a1_1))=some r:=H;have A9:=am' A90;clear A90;by_cases c10:t195=true
   ·
    subst c10;have H1:((spec_loLoad.f k l0_0 l0_1 a0_2 l2).bind fun t196=>(spec_loCan.j0 k l2 (decide (t196 > a0_2)) l0_0 l0_1 a0_2 l1_0 a1_1))=some r:=by rw[if_pos rfl] at H;exact H
    clear H;have H:=H1;clear H1;replace H:=Option.bind_eq_some_iff.mp H;obtain ⟨t196,A110,H⟩:=H;replace H:(spec_loCan.j0 k l2 (decide (t196 > a0_2)) l0_0 l0_1 a0_2 l1_0 a1_1)=some r:=H;have A11:=am' A110;clear A110;have H':=am' H;clear H;try go_wp2
    have n0_:=am' (kd' BK193.out);have n1_:=am' (kd' BK194.out);have n2_:=am' (be' HB.out);clear BK193;clear BK194;clear HB;have BK193:=n0_;have BK194:=n1_;have HB:=n2_;clear n0_ n1_ n2_;refine start_ (n:=20) (S:=fun w'=>w'.cell? ⟨gb193,0,none⟩=some (.slice A0_0 l0_0.length c0_0)∧w'.cell? ⟨gb193,1,none⟩=some (.slice A0_1 l0_1.length c0_1)∧w'.cell? ⟨gb193,2,none⟩=some (.int .i64 a0_2)) (ds:=[]) #[false,false,false,false,false,false,false,false,false,false,false,false,false,false,false,false,false,false,false,false] xk' rfl rfl ⟨(bc' BK193.out 0).trans rfl,(bc' BK193.out 1).trans rfl,(bc' BK193.out 2).trans rfl⟩ (fun hHeld=>?_);refine with_tabW spec_loCan.tab1 spec_loCan.bits1 (fun HT_ HW_=>?_);generalize w6.drew=w12 at BK193 BK194 HB hHeld ⊢
    refine pure_ (i:=0) (N:=some 10) (v:=?_) (a':=?_) #[true,false,false,false,false,false,false,false,false,false,false,false,false,false,false,false,false,false,false,false] rfl rfl (any_of HT_.out xk') (fun _ _ _ h=>h) (Or.inl ⟨by rfl,?_⟩) ?_ ?_
    rotate_left
    ·
     intro w';go_simp;with_reducible rfl
    rotate_left
    ·
     simp only[Act.put,sa',sb',sc',i64_w,i32_w];rfl
    refine pure_ (i:=1) (N:=some 11) (v:=?_) (a':=?_) #[true,true,false,false,false,false,false,false,false,false,false,false,false,false,false,false,false,false,false,false] rfl rfl (any_of HT_.out xk') (fun _ _ _ h=>h) (Or.inl ⟨by rfl,?_⟩) ?_ ?_
    rotate_left
    ·
     intro w';go_simp;with_reducible rfl
    rotate_left
    ·
     simp only[Act.put,sa',sb',sc',i64_w,i32_w];rfl
    refine pure_ (i:=2) (N:=some 12) (v:=?_) (a':=?_) #[true,true,true,false,false,false,false,false,false,false,false,false,false,false,false,false,false,false,false,false] rfl rfl (any_of HT_.out xk') (fun _ _ _ h=>h) (Or.inl ⟨by rfl,?_⟩) ?_ ?_
    rotate_left
    ·
     intro w';go_simp;with_reducible rfl
    rotate_left
    ·
     simp only[Act.put,sa',sb',sc',i64_w,i32_w];rfl
    refine pure_ (i:=3) (N:=some 13) (v:=?_) (a':=?_) #[true,true,true,true,false,false,false,false,false,false,false,false,false,false,false,false,false,false,false,false] rfl rfl (any_of HT_.out xk') (fun _ _ _ h=>h) (Or.inl ⟨by rfl,?_⟩) ?_ ?_
    rotate_left
    ·
     intro w';go_simp;with_reducible rfl
    rotate_left
    ·
     simp only[Act.put,sa',sb',sc',i64_w,i32_w];rfl
    refine pure_ (i:=4) (N:=some 14) (v:=?_) (a':=?_) #[true,true,true,true,true,false,false,false,false,false,false,false,false,false,false,false,false,false,false,false] rfl rfl (any_of HT_.out xk') (fun _ _ _ h=>h) (Or.inl ⟨by rfl,?_⟩) ?_ ?_
    rotate_left
    ·
     intro w';go_simp;with_reducible rfl
    rotate_left
    ·
     simp only[Act.put,sa',sb',sc',i64_w,i32_w];rfl
    refine pure_ (i:=5) (N:=some 15) (v:=?_) (a':=?_) #[true,true,true,true,true,true,false,false,false,false,false,false,false,false,false,false,false,false,false,false] rfl rfl (any_of HT_.out xk') (fun _ _ _ h=>h) (Or.inl ⟨by rfl,?_⟩) ?_ ?_
    rotate_left
    ·
     intro w';go_simp;with_reducible rfl
    rotate_left
    ·
     simp only[Act.put,sa',sb',sc',i64_w,i32_w];rfl
    refine take_ (i:=6) (N:=some 16) (v:=?_) (a':=?_) #[true,true,true,true,true,true,true,false,false,false,false,false,false,false,false,false,false,false,false,false] rfl rfl (take_ofW HT_.out HW_.out xk') (fun _ _ _ h=>h) (Or.inl ⟨by rfl,?_⟩) hHeld ?_ ?_
    rotate_left
    ·
     rintro w' ⟨s0,s1,s2⟩
     go_simp;with_reducible rfl
    rotate_left
    ·
     simp only[Act.put,sa',sb',sc',i64_w,i32_w];rfl
    refine pure_ (i:=7) (N:=some 17) (v:=?_) (a':=?_) #[true,true,true,true,true,true,true,true,false,false,false,false,false,false,false,false,false,false,false,false] rfl rfl (any_of HT_.out xk') (fun _ _ _ h=>h) (Or.inl ⟨by rfl,?_⟩) ?_ ?_
    rotate_left
    ·
     intro w';go_simp;with_reducible rfl
    rotate_left
    ·
     simp only[Act.put,sa',sb',sc',i64_w,i32_w];rfl
    refine pure_ (i:=8) (N:=some 18) (v:=?_) (a':=?_) #[true,true,true,true,true,true,true,true,true,false,false,false,false,false,false,false,false,false,false,false] rfl rfl (any_of HT_.out xk') (fun _ _ _ h=>h) (Or.inl ⟨by rfl,?_⟩) ?_ ?_
    rotate_left
    ·
     intro w';go_simp;with_reducible rfl
    rotate_left
    ·
     simp only[Act.put,sa',sb',sc',i64_w,i32_w];rfl
    refine one_ (i:=9) (N:=some 19) #[true,true,true,true,true,true,true,true,true,true,false,false,false,false,false,false,false,false,false,false] rfl rfl (one_of HT_.out xk') (by decide) (fun K hK=>?_);refine goes_ Try.func51 xk' rfl #[.slice A2 l2.length c2, .int .i64 0, .int .i64 (wrap64 ((l0_0.length:Int) - 1))] (by rfl) rfl rfl xl' ?_
    with_reducible refine (spec_l1Rising.calls k _ _ l2 0 (wrap64 ((l0_0.length:Int) - 1)) true _ ?side1 ?side2 A9.out).mono ?_
    (case side1=>exact kc' (cb' HR2.out HB.out))
    (case side2=>exact HC2.out)
    rintro e w' ⟨rfl,⟨nd,rfl⟩⟩
    refine ⟨_,rfl,?_⟩;refine hK.out _ _ ⟨(bc' BK193.out 0).trans rfl,(bc' BK193.out 1).trans rfl,(bc' BK193.out 2).trans rfl⟩ (fun hHeld=>?_);clear hK K;refine norm_ (a':=?_) ?_ ?_
    rotate_left
    ·
     show Act.put _ (some 19) _=_
     simp only[Act.put,sa',sb',sc',i64_w,i32_w];rfl
    refine pure_ (i:=10) (N:=some 20) (v:=?_) (a':=?_) #[true,true,true,true,true,true,true,true,true,true,true,false,false,false,false,false,false,false,false,false] rfl rfl (any_of HT_.out xk') (fun _ _ _ h=>h) (Or.inl ⟨by rfl,?_⟩) ?_ ?_
    rotate_left
    ·
     intro w';go_simp;with_reducible rfl
    rotate_left
    ·
     simp only[Act.put,sa',sb',sc',i64_w,i32_w];rfl
    refine pure_ (i:=11) (N:=some 21) (v:=?_) (a':=?_) #[true,true,true,true,true,true,true,true,true,true,true,true,false,false,false,false,false,false,false,false] rfl rfl (any_of HT_.out xk') (fun _ _ _ h=>h) (Or.inl ⟨by rfl,?_⟩) ?_ ?_
    rotate_left
    ·
     intro w';go_simp;with_reducible rfl
    rotate_left
    ·
     simp only[Act.put,sa',sb',sc',i64_w,i32_w];rfl
    refine pure_ (i:=12) (N:=some 22) (v:=?_) (a':=?_) #[true,true,true,true,true,true,true,true,true,true,true,true,true,false,false,false,false,false,false,false] rfl rfl (any_of HT_.out xk') (fun _ _ _ h=>h) (Or.inl ⟨by rfl,?_⟩) ?_ ?_
    rotate_left
    ·
     intro w';go_simp;with_reducible rfl
    rotate_left
    ·
     simp only[Act.put,sa',sb',sc',i64_w,i32_w];rfl
    refine pure_ (i:=14) (N:=some 24) (v:=?_) (a':=?_) #[true,true,true,true,true,true,true,true,true,true,true,true,true,false,true,false,false,false,false,false] rfl rfl (any_of HT_.out xk') (fun _ _ _ h=>h) (Or.inl ⟨by rfl,?_⟩) ?_ ?_
    rotate_left
    ·
     intro w';go_simp;with_reducible rfl
    rotate_left
    ·
     simp only[Act.put,sa',sb',sc',i64_w,i32_w];rfl
    refine pure_ (i:=16) (N:=some 26) (v:=?_) (a':=?_) #[true,true,true,true,true,true,true,true,true,true,true,true,true,false,true,false,true,false,false,false] rfl rfl (any_of HT_.out xk') (fun _ _ _ h=>h) (Or.inl ⟨by rfl,?_⟩) ?_ ?_
    rotate_left
    ·
     intro w';go_simp;with_reducible rfl
    rotate_left
    ·
     simp only[Act.put,sa',sb',sc',i64_w,i32_w];rfl
    refine take_ (i:=13) (N:=some 23) (v:=?_) (a':=?_) #[true,true,true,true,true,true,true,true,true,true,true,true,true,true,true,false,true,false,false,false] rfl rfl (take_ofW HT_.out HW_.out xk') (fun _ _ _ h=>h) (Or.inl ⟨by rfl,?_⟩) hHeld ?_ ?_
    rotate_left
    ·
     rintro w' ⟨s0,s1,s2⟩
     go_simp;with_reducible rfl
    rotate_left
    ·
     simp only[Act.put,sa',sb',sc',i64_w,i32_w];rfl
    refine take_ (i:=17) (N:=some 27) (v:=?_) (a':=?_) #[true,true,true,true,true,true,true,true,true,true,true,true,true,true,true,false,true,true,false,false] rfl rfl (take_ofW HT_.out HW_.out xk') (fun _ _ _ h=>h) (Or.inl ⟨by rfl,?_⟩) hHeld ?_ ?_
    rotate_left
    ·
     rintro w' ⟨s0,s1,s2⟩
     go_simp;with_reducible rfl
    rotate_left
    ·
     simp only[Act.put,sa',sb',sc',i64_w,i32_w];rfl
    refine one_ (i:=15) (N:=some 25) #[true,true,true,true,true,true,true,true,true,true,true,true,true,true,true,true,true,true,false,false] rfl rfl (one_of HT_.out xk') (by decide) (fun K hK=>?_);refine goes_ Try.func52 xk' rfl #[.agg #[.slice A0_0 l0_0.length c0_0, .slice A0_1 l0_1.length c0_1, .int .i64 a0_2], .slice A2 l2.length c2] (by rfl) rfl rfl xl' ?_
    with_reducible refine (spec_loLoad.calls k _ _ l0_0 _ _ l0_1 a0_2 _ _ l2 t196 _ ?side1 ?side2 ?side3 ?side4 ?side5 ?side6 A11.out).mono ?_
    (case side1=>exact kc' (cb' HR0_0.out (y2' GE193.out GE194.out)))
    (case side2=>exact HC0_0.out)
    (case side3=>exact kc' (cb' HR0_1.out (y2' GE193.out GE194.out)))
    (case side4=>exact HC0_1.out)
    (case side5=>exact kc' (cb' HR2.out (y2' GE193.out GE194.out)))
    (case side6=>exact HC2.out)
    rintro e w13 ⟨rfl,hb⟩
    refine ⟨_,rfl,?_⟩;have n0_:=am' (bb' (g:=gb193) (o := .cells #[.slice A0_0 l0_0.length c0_0, .slice A0_1 l0_1.length c0_1, .int .i64 a0_2] 29 (0,0)) (kk' BK193.out) hb);have n1_:=am' (bb' (g:=gb194) (o := .cells #[.slice A1_0 l1_0.length c1_0, .bool a1_1] 38 (0,0)) (kk' BK194.out) hb);have n2_:=am' (bt' (y2' GE193.out GE194.out) hb);clear BK193;clear BK194;clear HB;have BK193:=n0_;have BK194:=n1_;have HB:=n2_;clear n0_ n1_ n2_;(try clear hb)
    (try clear hb2)
    (try clear hk)
    (try clear hi)
    refine hK.out _ _ ⟨(bc' BK193.out 0).trans rfl,(bc' BK193.out 1).trans rfl,(bc' BK193.out 2).trans rfl⟩ (fun hHeld=>?_);clear hK K;refine norm_ (a':=?_) ?_ ?_
    rotate_left
    ·
     show Act.put _ (some 25) _=_
     simp only[Act.put,sa',sb',sc',i64_w,i32_w];rfl
    refine pure_ (i:=18) (N:=some 28) (v:=?_) (a':=?_) #[true,true,true,true,true,true,true,true,true,true,true,true,true,true,true,true,true,true,true,false] rfl rfl (any_of HT_.out xk') (fun _ _ _ h=>h) (Or.inl ⟨by rfl,?_⟩) ?_ ?_
    rotate_left
    ·
     intro w';go_simp;with_reducible rfl
    rotate_left
    ·
     simp only[Act.put,sa',sb',sc',i64_w,i32_w];rfl
    refine pure_ (i:=19) (N:=some 29) (v:=?_) (a':=?_) #[true,true,true,true,true,true,true,true,true,true,true,true,true,true,true,true,true,true,true,true] rfl rfl (any_of HT_.out xk') (fun _ _ _ h=>h) (Or.inl ⟨by rfl,?_⟩) ?_ ?_
    rotate_left
    ·
     intro w';go_simp;with_reducible rfl
    rotate_left
    ·
     simp only[Act.put,sa',sb',sc',i64_w,i32_w];rfl
    refine done_ (done_of HT_.out xk') ?_
    try go_wp2
    go_meet
    case rel=>exact ⟨_,(decide (t196 > a0_2)),xs',H',⟨by first|omega|exact Nat.le_refl _⟩,⟨kk' BK193.out⟩,⟨kk' BK194.out⟩,⟨y2' GE193.out GE194.out⟩⟩
   ·
    replace c10:=Bool.eq_false_iff.mpr c10;subst c10;have H1:(spec_loCan.j0 k l2 true l0_0 l0_1 a0_2 l1_0 a1_1)=some r:=by rw[if_neg (show ¬ (false=true) by decide)] at H;exact H
    clear H;have H:=H1;clear H1;have H':=am' H;clear H;try go_wp2
    have n0_:=am' (kd' BK193.out);have n1_:=am' (kd' BK194.out);have n2_:=am' (be' HB.out);clear BK193;clear BK194;clear HB;have BK193:=n0_;have BK194:=n1_;have HB:=n2_;clear n0_ n1_ n2_;refine start_ (n:=20) (S:=fun w'=>w'.cell? ⟨gb193,0,none⟩=some (.slice A0_0 l0_0.length c0_0)∧w'.cell? ⟨gb193,1,none⟩=some (.slice A0_1 l0_1.length c0_1)∧w'.cell? ⟨gb193,2,none⟩=some (.int .i64 a0_2)) (ds:=[]) #[false,false,false,false,false,false,false,false,false,false,false,false,false,false,false,false,false,false,false,false] xk' rfl rfl ⟨(bc' BK193.out 0).trans rfl,(bc' BK193.out 1).trans rfl,(bc' BK193.out 2).trans rfl⟩ (fun hHeld=>?_);refine with_tabW spec_loCan.tab1 spec_loCan.bits1 (fun HT_ HW_=>?_);generalize w6.drew=w14 at BK193 BK194 HB hHeld ⊢
    refine pure_ (i:=0) (N:=some 10) (v:=?_) (a':=?_) #[true,false,false,false,false,false,false,false,false,false,false,false,false,false,false,false,false,false,false,false] rfl rfl (any_of HT_.out xk') (fun _ _ _ h=>h) (Or.inl ⟨by rfl,?_⟩) ?_ ?_
    rotate_left
    ·
     intro w';go_simp;with_reducible rfl
    rotate_left
    ·
     simp only[Act.put,sa',sb',sc',i64_w,i32_w];rfl
    refine pure_ (i:=1) (N:=some 11) (v:=?_) (a':=?_) #[true,true,false,false,false,false,false,false,false,false,false,false,false,false,false,false,false,false,false,false] rfl rfl (any_of HT_.out xk') (fun _ _ _ h=>h) (Or.inl ⟨by rfl,?_⟩) ?_ ?_
    rotate_left
    ·
     intro w';go_simp;with_reducible rfl
    rotate_left
    ·
     simp only[Act.put,sa',sb',sc',i64_w,i32_w];rfl
    refine pure_ (i:=2) (N:=some 12) (v:=?_) (a':=?_) #[true,true,true,false,false,false,false,false,false,false,false,false,false,false,false,false,false,false,false,false] rfl rfl (any_of HT_.out xk') (fun _ _ _ h=>h) (Or.inl ⟨by rfl,?_⟩) ?_ ?_
    rotate_left
    ·
     intro w';go_simp;with_reducible rfl
    rotate_left
    ·
     simp only[Act.put,sa',sb',sc',i64_w,i32_w];rfl
    refine pure_ (i:=3) (N:=some 13) (v:=?_) (a':=?_) #[true,true,true,true,false,false,false,false,false,false,false,false,false,false,false,false,false,false,false,false] rfl rfl (any_of HT_.out xk') (fun _ _ _ h=>h) (Or.inl ⟨by rfl,?_⟩) ?_ ?_
    rotate_left
    ·
     intro w';go_simp;with_reducible rfl
    rotate_left
    ·
     simp only[Act.put,sa',sb',sc',i64_w,i32_w];rfl
    refine pure_ (i:=4) (N:=some 14) (v:=?_) (a':=?_) #[true,true,true,true,true,false,false,false,false,false,false,false,false,false,false,false,false,false,false,false] rfl rfl (any_of HT_.out xk') (fun _ _ _ h=>h) (Or.inl ⟨by rfl,?_⟩) ?_ ?_
    rotate_left
    ·
     intro w';go_simp;with_reducible rfl
    rotate_left
    ·
     simp only[Act.put,sa',sb',sc',i64_w,i32_w];rfl
    refine pure_ (i:=5) (N:=some 15) (v:=?_) (a':=?_) #[true,true,true,true,true,true,false,false,false,false,false,false,false,false,false,false,false,false,false,false] rfl rfl (any_of HT_.out xk') (fun _ _ _ h=>h) (Or.inl ⟨by rfl,?_⟩) ?_ ?_
    rotate_left
    ·
     intro w';go_simp;with_reducible rfl
    rotate_left
    ·
     simp only[Act.put,sa',sb',sc',i64_w,i32_w];rfl
    refine take_ (i:=6) (N:=some 16) (v:=?_) (a':=?_) #[true,true,true,true,true,true,true,false,false,false,false,false,false,false,false,false,false,false,false,false] rfl rfl (take_ofW HT_.out HW_.out xk') (fun _ _ _ h=>h) (Or.inl ⟨by rfl,?_⟩) hHeld ?_ ?_
    rotate_left
    ·
     rintro w' ⟨s0,s1,s2⟩
     go_simp;with_reducible rfl
    rotate_left
    ·
     simp only[Act.put,sa',sb',sc',i64_w,i32_w];rfl
    refine pure_ (i:=7) (N:=some 17) (v:=?_) (a':=?_) #[true,true,true,true,true,true,true,true,false,false,false,false,false,false,false,false,false,false,false,false] rfl rfl (any_of HT_.out xk') (fun _ _ _ h=>h) (Or.inl ⟨by rfl,?_⟩) ?_ ?_
    rotate_left
    ·
     intro w';go_simp;with_reducible rfl
    rotate_left
    ·
     simp only[Act.put,sa',sb',sc',i64_w,i32_w];rfl
    refine pure_ (i:=8) (N:=some 18) (v:=?_) (a':=?_) #[true,true,true,true,true,true,true,true,true,false,false,false,false,false,false,false,false,false,false,false] rfl rfl (any_of HT_.out xk') (fun _ _ _ h=>h) (Or.inl ⟨by rfl,?_⟩) ?_ ?_
    rotate_left
    ·
     intro w';go_simp;with_reducible rfl
    rotate_left
    ·
     simp only[Act.put,sa',sb',sc',i64_w,i32_w];rfl
    refine one_ (i:=9) (N:=some 19) #[true,true,true,true,true,true,true,true,true,true,false,false,false,false,false,false,false,false,false,false] rfl rfl (one_of HT_.out xk') (by decide) (fun K hK=>?_);refine goes_ Try.func51 xk' rfl #[.slice A2 l2.length c2, .int .i64 0, .int .i64 (wrap64 ((l0_0.length:Int) - 1))] (by rfl) rfl rfl xl' ?_
    with_reducible refine (spec_l1Rising.calls k _ _ l2 0 (wrap64 ((l0_0.length:Int) - 1)) false _ ?side1 ?side2 A9.out).mono ?_
    (case side1=>exact kc' (cb' HR2.out HB.out))
    (case side2=>exact HC2.out)
    rintro e w' ⟨rfl,⟨nd,rfl⟩⟩
    refine ⟨_,rfl,?_⟩;refine hK.out _ _ ⟨(bc' BK193.out 0).trans rfl,(bc' BK193.out 1).trans rfl,(bc' BK193.out 2).trans rfl⟩ (fun hHeld=>?_);clear hK K;refine norm_ (a':=?_) ?_ ?_
    rotate_left
    ·
     show Act.put _ (some 19) _=_
     simp only[Act.put,sa',sb',sc',i64_w,i32_w];rfl
    refine pure_ (i:=10) (N:=some 20) (v:=?_) (a':=?_) #[true,true,true,true,true,true,true,true,true,true,true,false,false,false,false,false,false,false,false,false] rfl rfl (any_of HT_.out xk') (fun _ _ _ h=>h) (Or.inl ⟨by rfl,?_⟩) ?_ ?_
    rotate_left
    ·
     intro w';go_simp;with_reducible rfl
    rotate_left
    ·
     simp only[Act.put,sa',sb',sc',i64_w,i32_w];rfl
    refine pure_ (i:=11) (N:=some 21) (v:=?_) (a':=?_) #[true,true,true,true,true,true,true,true,true,true,true,true,false,false,false,false,false,false,false,false] rfl rfl (any_of HT_.out xk') (fun _ _ _ h=>h) (Or.inl ⟨by rfl,?_⟩) ?_ ?_
    rotate_left
    ·
     intro w';go_simp;with_reducible rfl
    rotate_left
    ·
     simp only[Act.put,sa',sb',sc',i64_w,i32_w];rfl
    refine pure_ (i:=12) (N:=some 22) (v:=?_) (a':=?_) #[true,true,true,true,true,true,true,true,true,true,true,true,true,false,false,false,false,false,false,false] rfl rfl (any_of HT_.out xk') (fun _ _ _ h=>h) (Or.inl ⟨by rfl,?_⟩) ?_ ?_
    rotate_left
    ·
     intro w';go_simp;with_reducible rfl
    rotate_left
    ·
     simp only[Act.put,sa',sb',sc',i64_w,i32_w];rfl
    refine pure_ (i:=13) (N:=some 23) (v:=undef) (a':=?_) #[true,true,true,true,true,true,true,true,true,true,true,true,true,true,false,false,false,false,false,false] rfl rfl (any_of HT_.out xk') (fun _ _ _ h=>h) (Or.inr ⟨by rfl,rfl⟩) ?_ ?_
    rotate_left
    ·
     simp only[Act.put,sa',sb',sc',i64_w,i32_w];rfl
    refine pure_ (i:=14) (N:=some 24) (v:=undef) (a':=?_) #[true,true,true,true,true,true,true,true,true,true,true,true,true,true,true,false,false,false,false,false] rfl rfl (any_of HT_.out xk') (fun _ _ _ h=>h) (Or.inr ⟨by rfl,rfl⟩) ?_ ?_
    rotate_left
    ·
     simp only[Act.put,sa',sb',sc',i64_w,i32_w];rfl
    refine pure_ (i:=15) (N:=some 25) (v:=undef) (a':=?_) #[true,true,true,true,true,true,true,true,true,true,true,true,true,true,true,true,false,false,false,false] rfl rfl (any_of HT_.out xk') (fun _ _ _ h=>h) (Or.inr ⟨by rfl,rfl⟩) ?_ ?_
    rotate_left
    ·
     simp only[Act.put,sa',sb',sc',i64_w,i32_w];rfl
    refine pure_ (i:=16) (N:=some 26) (v:=undef) (a':=?_) #[true,true,true,true,true,true,true,true,true,true,true,true,true,true,true,true,true,false,false,false] rfl rfl (any_of HT_.out xk') (fun _ _ _ h=>h) (Or.inr ⟨by rfl,rfl⟩) ?_ ?_
    rotate_left
    ·
     simp only[Act.put,sa',sb',sc',i64_w,i32_w];rfl
    refine pure_ (i:=17) (N:=some 27) (v:=undef) (a':=?_) #[true,true,true,true,true,true,true,true,true,true,true,true,true,true,true,true,true,true,false,false] rfl rfl (any_of HT_.out xk') (fun _ _ _ h=>h) (Or.inr ⟨by rfl,rfl⟩) ?_ ?_
    rotate_left
    ·
     simp only[Act.put,sa',sb',sc',i64_w,i32_w];rfl
    refine pure_ (i:=18) (N:=some 28) (v:=undef) (a':=?_) #[true,true,true,true,true,true,true,true,true,true,true,true,true,true,true,true,true,true,true,false] rfl rfl (any_of HT_.out xk') (fun _ _ _ h=>h) (Or.inr ⟨by rfl,rfl⟩) ?_ ?_
    rotate_left
    ·
     simp only[Act.put,sa',sb',sc',i64_w,i32_w];rfl
    refine pure_ (i:=19) (N:=some 29) (v:=?_) (a':=?_) #[true,true,true,true,true,true,true,true,true,true,true,true,true,true,true,true,true,true,true,true] rfl rfl (any_of HT_.out xk') (fun _ _ _ h=>h) (Or.inl ⟨by rfl,?_⟩) ?_ ?_
    rotate_left
    ·
     intro w';go_simp;with_reducible rfl
    rotate_left
    ·
     simp only[Act.put,sa',sb',sc',i64_w,i32_w];rfl
    refine done_ (done_of HT_.out xk') ?_
    try go_wp2
    go_meet
    case rel=>exact ⟨_,(true),xs',H',⟨by first|omega|exact Nat.le_refl _⟩,⟨kk' BK193.out⟩,⟨kk' BK194.out⟩,⟨y2' GE193.out GE194.out⟩⟩
 case rest =>
  clear HC4;try clear c1
  try clear c2
  try clear p2
  try clear c5
  try clear p6
  try clear c7
  try clear c7b0
  try clear c7b1
  try clear c7b2
  try clear c10
  obtain ⟨kq,x29_3,rfl,HA,HJ3,BK193,BK194,HB⟩:=hcut;cases kq with
  | zero=>exact absurd HA.out (by simp[spec_loCan.j0])
  | succ kj3 =>
   have H:=HA.out;clear HA;simp only[spec_loCan.j0] at H;by_cases c15:x29_3=true
   ·
    subst c15;have H1:(some false)=some r:=by rw[if_pos rfl] at H;exact H
    clear H;have H:=H1;clear H1;obtain rfl:=os' H;go_wp2;go_ret
    exact ⟨by first|rfl|(simp[errW_none,errW_some] <;> rfl)|(simp[*,errW_none,errW_some] <;> rfl),y2' GE193.out GE194.out⟩
   ·
    replace c15:=Bool.eq_false_iff.mpr c15;subst c15;have H1:(spec_loCan.l0 kj3 false l2 (l2.length:Int) 0 l0_0 l0_1 a0_2 l1_0 a1_1)=some r:=by rw[if_neg (show ¬ (false=true) by decide)] at H;exact H
    clear H;have H:=H1;clear H1;have H':=am' H;clear H;go_wp2;go_loopg [7,32] kj3 (fun kq v7 v32 w'=>∃ (x7_2:Bool) (x32_2:Int),v7 = .bool x7_2∧v32 = .int .i64 x32_2∧Aside0 (spec_loCan.l0 kq x7_2 l2 (l2.length:Int) x32_2 l0_0 l0_1 a0_2 l1_0 a1_1=some r)∧Aside0 (kq≤kj3)∧Aside0 (w'.heap[gb193]? = some (.cells #[(.slice A0_0 l0_0.length c0_0),(.slice A0_1 l0_1.length c0_1), .int .i64 a0_2] 29 (0,0)))∧Aside0 (w'.heap[gb194]? = some (.cells #[(.slice A1_0 l1_0.length c1_0), .bool a1_1] 38 (0,0)))∧Aside0 (Below w.heap.size w w'))
    case atStart=>exact ⟨(false),(0),xs',xs',H',⟨Nat.le_refl _⟩,⟨kk' BK193.out⟩,⟨kk' BK194.out⟩,⟨y2' GE193.out GE194.out⟩⟩
    case round =>
     clear H';try clear c1
     try clear c2
     try clear p2
     try clear c5
     try clear p6
     try clear c7
     try clear c7b0
     try clear c7b1
     try clear c7b2
     try clear c10
     try clear c15
     try clear p2
     try clear p6
     obtain ⟨x7_2,x32_2,rfl,rfl,HA,HK2,BK193,BK194,HB⟩:=hrel;cases gk with
     | zero=>exact absurd HA.out (by simp[spec_loCan.l0])
     | succ k2 =>
      have H:=HA.out;clear HA;simp only[spec_loCan.l0] at H;by_cases c16:x32_2 < (l2.length:Int)
      ·
       rw[if_pos c16] at H;have c16b0:decide (x32_2 < (l2.length:Int))=true:=dt' c16;clear c16;by_cases c17:0≤x32_2
       ·
        rw[if_pos c17] at H;have c17b0:decide (0≤x32_2)=true:=dt' c17;clear c17;by_cases c18:x32_2 < (l2.length:Int)
        ·
         rw[if_pos c18] at H;have c18b0:decide (x32_2 < (l2.length:Int))=true:=dt' c18;clear c18;by_cases c19:0≤(rd l2 x32_2)
         ·
          rw[if_pos c19] at H;have c19b0:decide (0≤(rd l2 x32_2))=true:=dt' c19;clear c19;by_cases c20:(rd l2 x32_2) < (l1_0.length:Int)
          ·
           rw[if_pos c20] at H;have c20b0:decide ((rd l2 x32_2) < (l1_0.length:Int))=true:=dt' c20;clear c20;by_cases c21:((rdOf false l1_0 (rd l2 x32_2)) != a1_1)=true
           ·
            rw[if_pos c21] at H;have c21b0:((rdOf false l1_0 (rd l2 x32_2)) != a1_1)=true:=c21
            (try (have c21b1:decide ((rdOf false l1_0 (rd l2 x32_2))=a1_1)=false:=by simpa using c21))
            (try (have c21b2:((rdOf false l1_0 (rd l2 x32_2)) == a1_1)=false:=by simpa using c21))
            (try (have c21b3:¬ ((rdOf false l1_0 (rd l2 x32_2))=a1_1):=by simpa using c21))
            clear c21;obtain rfl:=os' H;have p197:0≤(x32_2:Int):=od' xa';have q197:x32_2 < (l2.length:Int):=od' xa';obtain ⟨ad197,e197,hx197_0⟩:=Kd.at_int HR2.out x32_2 p197 q197;cases e197;replace hx197_0:=(HB.out.cell (bl' w _ hx197_0)).trans hx197_0;replace p197:=eq_true p197;replace q197:=eq_true q197
            try go_wp2
            have n0_:=am' (kd' BK193.out);have n1_:=am' (kd' BK194.out);have n2_:=am' (be' HB.out);clear BK193;clear BK194;clear HB;have BK193:=n0_;have BK194:=n1_;have HB:=n2_;clear n0_ n1_ n2_;have p198:0≤((rd l2 x32_2):Int):=od' xa';have q198:(rd l2 x32_2) < (l1_0.length:Int):=od' xa';obtain ⟨ad198,e198,hx198_0⟩:=Kd.at_bool HR1_0.out (rd l2 x32_2) p198 q198;have hw198_0:=hx198_0;cases e198;replace hx198_0:=(HB.out.cell (bl' w _ hx198_0)).trans hx198_0;replace p198:=eq_true p198;replace q198:=eq_true q198;refine start_ (n:=8) (S:=fun w'=>w'.cell? ⟨gb194,0,none⟩=some (.slice (some ad198) l1_0.length c1_0)∧w'.cell? ⟨gb194,1,none⟩=some (.bool a1_1)∧w'.cell? (ad198.add ((rd l2 x32_2)).toNat)=some (.bool (rdOf false l1_0 (rd l2 x32_2)))) (ds:=[]) #[false,false,false,false,false,false,false,false] xk' rfl rfl ⟨(bc' BK194.out 0).trans rfl,(bc' BK194.out 1).trans rfl,((HB.out.cell (bl' w _ hw198_0)).trans hw198_0)⟩ (fun hHeld=>?_);refine with_tabW spec_loCan.tab7 spec_loCan.bits7 (fun HT_ HW_=>?_);generalize wr.drew=w22 at BK193 BK194 HB hx198_0 hHeld ⊢
            refine pure_ (i:=0) (N:=some 36) (v:=?_) (a':=?_) #[true,false,false,false,false,false,false,false] rfl rfl (any_of HT_.out xk') (fun _ _ _ h=>h) (Or.inl ⟨by rfl,?_⟩) ?_ ?_
            rotate_left
            ·
             intro w';go_simp;with_reducible rfl
            rotate_left
            ·
             simp only[Act.put,sa',sb',sc',i64_w,i32_w];rfl
            refine pure_ (i:=2) (N:=some 38) (v:=?_) (a':=?_) #[true,false,true,false,false,false,false,false] rfl rfl (any_of HT_.out xk') (fun _ _ _ h=>h) (Or.inl ⟨by rfl,?_⟩) ?_ ?_
            rotate_left
            ·
             intro w';go_simp;with_reducible rfl
            rotate_left
            ·
             simp only[Act.put,sa',sb',sc',i64_w,i32_w];rfl
            refine pure_ (i:=5) (N:=some 41) (v:=?_) (a':=?_) #[true,false,true,false,false,true,false,false] rfl rfl (any_of HT_.out xk') (fun _ _ _ h=>h) (Or.inl ⟨by rfl,?_⟩) ?_ ?_
            rotate_left
            ·
             intro w';go_simp;with_reducible rfl
            rotate_left
            ·
             simp only[Act.put,sa',sb',sc',i64_w,i32_w];rfl
            refine take_ (i:=1) (N:=some 37) (v:=?_) (a':=?_) #[true,true,true,false,false,true,false,false] rfl rfl (take_ofW HT_.out HW_.out xk') (fun _ _ _ h=>h) (Or.inl ⟨by rfl,?_⟩) hHeld ?_ ?_
            rotate_left
            ·
             rintro w' ⟨s0,s1,s2⟩
             go_simp;with_reducible rfl
            rotate_left
            ·
             simp only[Act.put,sa',sb',sc',i64_w,i32_w];rfl
            refine pure_ (i:=3) (N:=some 39) (v:=?_) (a':=?_) #[true,true,true,true,false,true,false,false] rfl rfl (any_of HT_.out xk') (fun _ _ _ h=>h) (Or.inl ⟨by rfl,?_⟩) ?_ ?_
            rotate_left
            ·
             intro w';go_simp;with_reducible rfl
            rotate_left
            ·
             simp only[Act.put,sa',sb',sc',i64_w,i32_w];rfl
            refine take_ (i:=4) (N:=some 40) (v:=?_) (a':=?_) #[true,true,true,true,true,true,false,false] rfl rfl (take_ofW HT_.out HW_.out xk') (fun _ _ _ h=>h) (Or.inl ⟨by rfl,?_⟩) hHeld ?_ ?_
            rotate_left
            ·
             rintro w' ⟨s0,s1,s2⟩
             go_simp;with_reducible rfl
            rotate_left
            ·
             simp only[Act.put,sa',sb',sc',i64_w,i32_w];rfl
            refine take_ (i:=6) (N:=some 42) (v:=?_) (a':=?_) #[true,true,true,true,true,true,true,false] rfl rfl (take_ofW HT_.out HW_.out xk') (fun _ _ _ h=>h) (Or.inl ⟨by rfl,?_⟩) hHeld ?_ ?_
            rotate_left
            ·
             rintro w' ⟨s0,s1,s2⟩
             go_simp;with_reducible rfl
            rotate_left
            ·
             simp only[Act.put,sa',sb',sc',i64_w,i32_w];rfl
            refine pure_ (i:=7) (N:=some 43) (v:=?_) (a':=?_) #[true,true,true,true,true,true,true,true] rfl rfl (any_of HT_.out xk') (fun _ _ _ h=>h) (Or.inl ⟨by rfl,?_⟩) ?_ ?_
            rotate_left
            ·
             intro w';go_simp;with_reducible rfl
            rotate_left
            ·
             simp only[Act.put,sa',sb',sc',i64_w,i32_w];rfl
            refine done_ (done_of HT_.out xk') ?_
            try go_wp2
            go_ret
            exact ⟨by first|rfl|(simp[errW_none,errW_some] <;> rfl)|(simp[*,errW_none,errW_some] <;> rfl),y2' GE193.out GE194.out⟩
           ·
            rw[if_neg c21] at H;have c21b0:((rdOf false l1_0 (rd l2 x32_2)) != a1_1)=false:=by simpa using c21
            (try (have c21b1:decide ((rdOf false l1_0 (rd l2 x32_2))=a1_1)=true:=by simpa using c21))
            (try (have c21b2:((rdOf false l1_0 (rd l2 x32_2)) == a1_1)=true:=by simpa using c21))
            clear c21;by_cases c23:x7_2=true
            ·
             subst c23;have H1:(spec_loCan.l0 k2 true l2 (l2.length:Int) (wrap64 (x32_2+1)) l0_0 l0_1 a0_2 l1_0 a1_1)=some r:=by rw[if_pos rfl] at H;exact H
             clear H;have H:=H1;clear H1;have H':=am' H;clear H;have p197:0≤(x32_2:Int):=od' xa';have q197:x32_2 < (l2.length:Int):=od' xa';obtain ⟨ad197,e197,hx197_0⟩:=Kd.at_int HR2.out x32_2 p197 q197;cases e197;replace hx197_0:=(HB.out.cell (bl' w _ hx197_0)).trans hx197_0;replace p197:=eq_true p197;replace q197:=eq_true q197
             try go_wp2
             have n0_:=am' (kd' BK193.out);have n1_:=am' (kd' BK194.out);have n2_:=am' (be' HB.out);clear BK193;clear BK194;clear HB;have BK193:=n0_;have BK194:=n1_;have HB:=n2_;clear n0_ n1_ n2_;have p198:0≤((rd l2 x32_2):Int):=od' xa';have q198:(rd l2 x32_2) < (l1_0.length:Int):=od' xa';obtain ⟨ad198,e198,hx198_0⟩:=Kd.at_bool HR1_0.out (rd l2 x32_2) p198 q198;have hw198_0:=hx198_0;cases e198;replace hx198_0:=(HB.out.cell (bl' w _ hx198_0)).trans hx198_0;replace p198:=eq_true p198;replace q198:=eq_true q198;refine start_ (n:=8) (S:=fun w'=>w'.cell? ⟨gb194,0,none⟩=some (.slice (some ad198) l1_0.length c1_0)∧w'.cell? ⟨gb194,1,none⟩=some (.bool a1_1)∧w'.cell? (ad198.add ((rd l2 x32_2)).toNat)=some (.bool (rdOf false l1_0 (rd l2 x32_2)))) (ds:=[]) #[false,false,false,false,false,false,false,false] xk' rfl rfl ⟨(bc' BK194.out 0).trans rfl,(bc' BK194.out 1).trans rfl,((HB.out.cell (bl' w _ hw198_0)).trans hw198_0)⟩ (fun hHeld=>?_);refine with_tabW spec_loCan.tab7 spec_loCan.bits7 (fun HT_ HW_=>?_);generalize wr.drew=w24 at BK193 BK194 HB hx198_0 hHeld ⊢
             refine pure_ (i:=0) (N:=some 36) (v:=?_) (a':=?_) #[true,false,false,false,false,false,false,false] rfl rfl (any_of HT_.out xk') (fun _ _ _ h=>h) (Or.inl ⟨by rfl,?_⟩) ?_ ?_
             rotate_left
             ·
              intro w';go_simp;with_reducible rfl
             rotate_left
             ·
              simp only[Act.put,sa',sb',sc',i64_w,i32_w];rfl
             refine pure_ (i:=2) (N:=some 38) (v:=?_) (a':=?_) #[true,false,true,false,false,false,false,false] rfl rfl (any_of HT_.out xk') (fun _ _ _ h=>h) (Or.inl ⟨by rfl,?_⟩) ?_ ?_
             rotate_left
             ·
              intro w';go_simp;with_reducible rfl
             rotate_left
             ·
              simp only[Act.put,sa',sb',sc',i64_w,i32_w];rfl
             refine pure_ (i:=5) (N:=some 41) (v:=?_) (a':=?_) #[true,false,true,false,false,true,false,false] rfl rfl (any_of HT_.out xk') (fun _ _ _ h=>h) (Or.inl ⟨by rfl,?_⟩) ?_ ?_
             rotate_left
             ·
              intro w';go_simp;with_reducible rfl
             rotate_left
             ·
              simp only[Act.put,sa',sb',sc',i64_w,i32_w];rfl
             refine take_ (i:=1) (N:=some 37) (v:=?_) (a':=?_) #[true,true,true,false,false,true,false,false] rfl rfl (take_ofW HT_.out HW_.out xk') (fun _ _ _ h=>h) (Or.inl ⟨by rfl,?_⟩) hHeld ?_ ?_
             rotate_left
             ·
              rintro w' ⟨s0,s1,s2⟩
              go_simp;with_reducible rfl
             rotate_left
             ·
              simp only[Act.put,sa',sb',sc',i64_w,i32_w];rfl
             refine pure_ (i:=3) (N:=some 39) (v:=?_) (a':=?_) #[true,true,true,true,false,true,false,false] rfl rfl (any_of HT_.out xk') (fun _ _ _ h=>h) (Or.inl ⟨by rfl,?_⟩) ?_ ?_
             rotate_left
             ·
              intro w';go_simp;with_reducible rfl
             rotate_left
             ·
              simp only[Act.put,sa',sb',sc',i64_w,i32_w];rfl
             refine take_ (i:=4) (N:=some 40) (v:=?_) (a':=?_) #[true,true,true,true,true,true,false,false] rfl rfl (take_ofW HT_.out HW_.out xk') (fun _ _ _ h=>h) (Or.inl ⟨by rfl,?_⟩) hHeld ?_ ?_
             rotate_left
             ·
              rintro w' ⟨s0,s1,s2⟩
              go_simp;with_reducible rfl
             rotate_left
             ·
              simp only[Act.put,sa',sb',sc',i64_w,i32_w];rfl
             refine take_ (i:=6) (N:=some 42) (v:=?_) (a':=?_) #[true,true,true,true,true,true,true,false] rfl rfl (take_ofW HT_.out HW_.out xk') (fun _ _ _ h=>h) (Or.inl ⟨by rfl,?_⟩) hHeld ?_ ?_
             rotate_left
             ·
              rintro w' ⟨s0,s1,s2⟩
              go_simp;with_reducible rfl
             rotate_left
             ·
              simp only[Act.put,sa',sb',sc',i64_w,i32_w];rfl
             refine pure_ (i:=7) (N:=some 43) (v:=?_) (a':=?_) #[true,true,true,true,true,true,true,true] rfl rfl (any_of HT_.out xk') (fun _ _ _ h=>h) (Or.inl ⟨by rfl,?_⟩) ?_ ?_
             rotate_left
             ·
              intro w';go_simp;with_reducible rfl
             rotate_left
             ·
              simp only[Act.put,sa',sb',sc',i64_w,i32_w];rfl
             refine done_ (done_of HT_.out xk') ?_
             try go_wp2
             go_roundg k2
             case measure=>have:=HJ3.out;have:=HK2.out;omega
             case rel=>exact ⟨(true),(wrap64 (x32_2+1)),xs',xs',H',⟨by have:=HJ3.out;have:=HK2.out;omega⟩,⟨kk' BK193.out⟩,⟨kk' BK194.out⟩,⟨y2' GE193.out GE194.out⟩⟩
            ·
             replace c23:=Bool.eq_false_iff.mpr c23;subst c23;have H1:(if (rd l2 x32_2) < (l0_1.length:Int) then (spec_loCan.l0 k2 (rdOf false l0_1 (rd l2 x32_2)) l2 (l2.length:Int) (wrap64 (x32_2+1)) l0_0 l0_1 a0_2 l1_0 a1_1) else (none))=some r:=by rw[if_neg (show ¬ (false=true) by decide)] at H;exact H
             clear H;have H:=H1;clear H1;by_cases c25:(rd l2 x32_2) < (l0_1.length:Int)
             ·
              rw[if_pos c25] at H;have c25b0:decide ((rd l2 x32_2) < (l0_1.length:Int))=true:=dt' c25;clear c25;have H':=am' H;clear H;have p197:0≤(x32_2:Int):=od' xa';have q197:x32_2 < (l2.length:Int):=od' xa';obtain ⟨ad197,e197,hx197_0⟩:=Kd.at_int HR2.out x32_2 p197 q197;cases e197;replace hx197_0:=(HB.out.cell (bl' w _ hx197_0)).trans hx197_0;replace p197:=eq_true p197;replace q197:=eq_true q197
              try go_wp2
              have n0_:=am' (kd' BK193.out);have n1_:=am' (kd' BK194.out);have n2_:=am' (be' HB.out);clear BK193;clear BK194;clear HB;have BK193:=n0_;have BK194:=n1_;have HB:=n2_;clear n0_ n1_ n2_;have p198:0≤((rd l2 x32_2):Int):=od' xa';have q198:(rd l2 x32_2) < (l1_0.length:Int):=od' xa';obtain ⟨ad198,e198,hx198_0⟩:=Kd.at_bool HR1_0.out (rd l2 x32_2) p198 q198;have hw198_0:=hx198_0;cases e198;replace hx198_0:=(HB.out.cell (bl' w _ hx198_0)).trans hx198_0;replace p198:=eq_true p198;replace q198:=eq_true q198;refine start_ (n:=8) (S:=fun w'=>w'.cell? ⟨gb194,0,none⟩=some (.slice (some ad198) l1_0.length c1_0)∧w'.cell? ⟨gb194,1,none⟩=some (.bool a1_1)∧w'.cell? (ad198.add ((rd l2 x32_2)).toNat)=some (.bool (rdOf false l1_0 (rd l2 x32_2)))) (ds:=[]) #[false,false,false,false,false,false,false,false] xk' rfl rfl ⟨(bc' BK194.out 0).trans rfl,(bc' BK194.out 1).trans rfl,((HB.out.cell (bl' w _ hw198_0)).trans hw198_0)⟩ (fun hHeld=>?_);refine with_tabW spec_loCan.tab7 spec_loCan.bits7 (fun HT_ HW_=>?_);generalize wr.drew=w26 at BK193 BK194 HB hx198_0 hHeld ⊢
              refine pure_ (i:=0) (N:=some 36) (v:=?_) (a':=?_) #[true,false,false,false,false,false,false,false] rfl rfl (any_of HT_.out xk') (fun _ _ _ h=>h) (Or.inl ⟨by rfl,?_⟩) ?_ ?_
              rotate_left
              ·
               intro w';go_simp;with_reducible rfl
              rotate_left
              ·
               simp only[Act.put,sa',sb',sc',i64_w,i32_w];rfl
              refine pure_ (i:=2) (N:=some 38) (v:=?_) (a':=?_) #[true,false,true,false,false,false,false,false] rfl rfl (any_of HT_.out xk') (fun _ _ _ h=>h) (Or.inl ⟨by rfl,?_⟩) ?_ ?_
              rotate_left
              ·
               intro w';go_simp;with_reducible rfl
              rotate_left
              ·
               simp only[Act.put,sa',sb',sc',i64_w,i32_w];rfl
              refine pure_ (i:=5) (N:=some 41) (v:=?_) (a':=?_) #[true,false,true,false,false,true,false,false] rfl rfl (any_of HT_.out xk') (fun _ _ _ h=>h) (Or.inl ⟨by rfl,?_⟩) ?_ ?_
              rotate_left
              ·
               intro w';go_simp;with_reducible rfl
              rotate_left
              ·
               simp only[Act.put,sa',sb',sc',i64_w,i32_w];rfl
              refine take_ (i:=1) (N:=some 37) (v:=?_) (a':=?_) #[true,true,true,false,false,true,false,false] rfl rfl (take_ofW HT_.out HW_.out xk') (fun _ _ _ h=>h) (Or.inl ⟨by rfl,?_⟩) hHeld ?_ ?_
              rotate_left
              ·
               rintro w' ⟨s0,s1,s2⟩
               go_simp;with_reducible rfl
              rotate_left
              ·
               simp only[Act.put,sa',sb',sc',i64_w,i32_w];rfl
              refine pure_ (i:=3) (N:=some 39) (v:=?_) (a':=?_) #[true,true,true,true,false,true,false,false] rfl rfl (any_of HT_.out xk') (fun _ _ _ h=>h) (Or.inl ⟨by rfl,?_⟩) ?_ ?_
              rotate_left
              ·
               intro w';go_simp;with_reducible rfl
              rotate_left
              ·
               simp only[Act.put,sa',sb',sc',i64_w,i32_w];rfl
              refine take_ (i:=4) (N:=some 40) (v:=?_) (a':=?_) #[true,true,true,true,true,true,false,false] rfl rfl (take_ofW HT_.out HW_.out xk') (fun _ _ _ h=>h) (Or.inl ⟨by rfl,?_⟩) hHeld ?_ ?_
              rotate_left
              ·
               rintro w' ⟨s0,s1,s2⟩
               go_simp;with_reducible rfl
              rotate_left
              ·
               simp only[Act.put,sa',sb',sc',i64_w,i32_w];rfl
              refine take_ (i:=6) (N:=some 42) (v:=?_) (a':=?_) #[true,true,true,true,true,true,true,false] rfl rfl (take_ofW HT_.out HW_.out xk') (fun _ _ _ h=>h) (Or.inl ⟨by rfl,?_⟩) hHeld ?_ ?_
              rotate_left
              ·
               rintro w' ⟨s0,s1,s2⟩
               go_simp;with_reducible rfl
              rotate_left
              ·
               simp only[Act.put,sa',sb',sc',i64_w,i32_w];rfl
              refine pure_ (i:=7) (N:=some 43) (v:=?_) (a':=?_) #[true,true,true,true,true,true,true,true] rfl rfl (any_of HT_.out xk') (fun _ _ _ h=>h) (Or.inl ⟨by rfl,?_⟩) ?_ ?_
              rotate_left
              ·
               intro w';go_simp;with_reducible rfl
              rotate_left
              ·
               simp only[Act.put,sa',sb',sc',i64_w,i32_w];rfl
              refine done_ (done_of HT_.out xk') ?_
              have hnb27:=NB193_194.out;have hnc27:=NB194_193.out;have hcz28_0:w26.cell? ⟨gb193,0,none⟩=some (.slice A0_0 l0_0.length c0_0):=(bc' BK193.out 0).trans rfl;have hcz28_1:w26.cell? ⟨gb193,1,none⟩=some (.slice A0_1 l0_1.length c0_1):=(bc' BK193.out 1).trans rfl;have hcz28_2:w26.cell? ⟨gb193,2,none⟩=some (.int .i64 a0_2):=(bc' BK193.out 2).trans rfl;have hfz28_0:=bf' BK193.out 0;have hfz28_1:=bf' BK193.out 1;have hfz28_2:=bf' BK193.out 2;have p199:0≤((rd l2 x32_2):Int):=od' xa';have q199:(rd l2 x32_2) < (l0_1.length:Int):=od' xa';obtain ⟨ad199,e199,hx199_0⟩:=Kd.at_bool HR0_1.out (rd l2 x32_2) p199 q199;cases e199;replace hx199_0:=(HB.out.cell (bl' w _ hx199_0)).trans hx199_0;replace p199:=eq_true p199;replace q199:=eq_true q199
              try go_wp2
              go_roundg k2
              case measure=>have:=HJ3.out;have:=HK2.out;omega
              case rel=>exact ⟨(rdOf false l0_1 (rd l2 x32_2)),(wrap64 (x32_2+1)),xs',xs',H',⟨by have:=HJ3.out;have:=HK2.out;omega⟩,⟨kk' BK193.out⟩,⟨kk' BK194.out⟩,⟨y2' GE193.out GE194.out⟩⟩
             ·
              rw[if_neg c25] at H;exact absurd H (by simp)
          ·
           rw[if_neg c20] at H;exact absurd H (by simp)
         ·
          rw[if_neg c19] at H;exact absurd H (by simp)
        ·
         rw[if_neg c18] at H;exact absurd H (by simp)
       ·
        rw[if_neg c17] at H;exact absurd H (by simp)
      ·
       rw[if_neg c16] at H;have c16b0:decide (x32_2 < (l2.length:Int))=false:=df' c16;clear c16;obtain rfl:=os' H;go_wp2;go_ret
       exact ⟨by first|rfl|(simp[errW_none,errW_some] <;> rfl)|(simp[*,errW_none,errW_some] <;> rfl),y2' GE193.out GE194.out⟩
end Go.Proofs.Ytikjdmiohpdnaaa.C20
