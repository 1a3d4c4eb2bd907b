import Derived.Test.YtdomojenlofieaaC2zx0
import Derived.Test.YtdomojenlofieaaC2zx8
import Derived.Test.YtdomojenlofieaaC2zAl
namespace Go.Proofs.Ytdomojenlofieaa.C2
open Go.RowKit Go.Proofs.YtdomojenlofieaaW.PrintWords Go.Proofs.YtdomojenlofieaaW.PrintLast Go.Proofs.YtdomojenlofieaaW.PrintMore Go.Proofs.Ytdomojenlofieaa.H
attribute [local go_sem] max2_int min2_int max_two min_two max_three min_three max_four min_four
set_option linter.unusedVariables false
set_option linter.unusedSimpArgs false
def impl_Night_together.f (l0_0:List Int) (a0_1:Int) (a0_2:Int) (l1_0:List Bool) (a1_1:Int) (l2:List Int) (l3:List Int):Option (Bool):=if 0 < (l2.length:Int) then (if 0≤(rd l2 0) then (if (rd l2 0) < (l1_0.length:Int) then ((impl_share.f l2 l3).bind fun t257=>(if t257=true then (some false) else (if 0 < (l3.length:Int) then (if 0≤(rd l3 0) then (if (rd l3 0) < (l1_0.length:Int) then (if ((rdOf false l1_0 (rd l2 0)) != (rdOf false l1_0 (rd l3 0)))=true then (some true) else ((impl_Night_torches.f l0_0 a0_1 a0_2 l1_0 a1_1 (rdOf false l1_0 (rd l2 0))).bind fun t260=>(some (decide (t260 > 1))))) else (none)) else (none)) else (none)))) else (none)) else (none)) else (none)
def impl_Night_together.T1:Bool × List (List Nat × List Nat):=(true,[([],[]),([0],[0]),([],[]),([2],[2]),([3],[3]),([1,4],[1,4]),([5],[5]),([6,0,1,2,3,4,5,6],[6])])
def impl_Night_together.B1:List Nat:=[0,1,0,4,12,31,63,127]
theorem impl_Night_together.tab1:rtab .any (opsOf Try.f79 1)=impl_Night_together.T1:=by kernel_rfl
theorem impl_Night_together.bits1:waitsOk impl_Night_together.T1.2 impl_Night_together.B1=true:=by kernel_rfl
def impl_Night_together.T2:Bool × List (List Nat × List Nat):=(true,[([],[]),([],[]),([0,1],[0,1]),([2],[2]),([3,2],[3]),([4],[4]),([4],[4]),([6,4],[4,6]),([4],[4]),([8,4],[4,8]),([9,4],[4,9]),([7,10,4],[4,7,10]),([11,4],[4,11]),([5,12,4],[4,5,12]),([13,4,4],[4,13]),([14],[14]),([14],[14]),([14],[14]),([15,16,17,14,14],[14,15,16,17]),([18,14],[14,18]),([14,19,4],[4,14,19]),([4,20],[4,20]),([21,18,0,1,2,3,4,5,6,7,8,9,10,11,12,13,14,15,16,17,18,19,20,21],[21])])
def impl_Night_together.B2:List Nat:=[0,0,3,7,15,31,31,95,31,287,799,2015,4063,8191,16383,32767,32767,32767,262143,524287,1048575,2097151,4194303]
theorem impl_Night_together.tab2:rtab .any (opsOf Try.f79 2)=impl_Night_together.T2:=by kernel_rfl
theorem impl_Night_together.bits2:waitsOk impl_Night_together.T2.2 impl_Night_together.B2=true:=by kernel_rfl
set_option maxHeartbeats 8000000 in
set_option maxRecDepth 100000 in
theorem impl_Night_together.calls (A0_0:Option Addr) (c0_0:Nat) (l0_0:List Int) (a0_1:Int) (a0_2:Int) (A1_0:Option Addr) (c1_0:Nat) (l1_0:List Bool) (a1_1:Int) (A2:Option Addr) (c2:Nat) (l2:List Int) (A3:Option Addr) (c3:Nat) (l3:List Int) (r:Bool) (w:World) (hr0_0:Kd.C (Kd.int .i64) w A0_0 l0_0.length l0_0) (hc0_0:l0_0.length≤c0_0) (hr1_0:Kd.C Kd.bool w A1_0 l1_0.length l1_0) (hc1_0:l1_0.length≤c1_0) (hr2:Kd.C (Kd.int .i64) w A2 l2.length l2) (hc2:l2.length≤c2) (hr3:Kd.C (Kd.int .i64) w A3 l3.length l3) (hc3:l3.length≤c3) (h:impl_Night_together.f l0_0 a0_1 a0_2 l1_0 a1_1 l2 l3=some r) :
  Calls Try.prog 79 #[.agg #[.slice A0_0 l0_0.length c0_0, .int .i64 a0_1, .int .i64 a0_2], .agg #[.slice A1_0 l1_0.length c1_0, .int .i64 a1_1], .slice A2 l2.length c2, .slice A3 l3.length c3] w fun e w'=>e = .returned (.bool r)∧Below w.heap.size w w':=by
 have hu35:=Try.underlying35
 have hu32:=Try.underlying32
 have HR0_0:=am' hr0_0
 have HC0_0:=am' hc0_0
 clear hr0_0 hc0_0;have HR1_0:=am' hr1_0
 have HC1_0:=am' hc1_0
 clear hr1_0 hc1_0;have HR2:=am' hr2
 have HC2:=am' hc2
 clear hr2 hc2;have HR3:=am' hr3
 have HC3:=am' hc3
 clear hr3 hc3;have HB:=am' (Below.refl w.heap.size w)
 have H:(if 0 < (l2.length:Int) then (if 0≤(rd l2 0) then (if (rd l2 0) < (l1_0.length:Int) then ((impl_share.f l2 l3).bind fun t257=>(if t257=true then (some false) else (if 0 < (l3.length:Int) then (if 0≤(rd l3 0) then (if (rd l3 0) < (l1_0.length:Int) then (if ((rdOf false l1_0 (rd l2 0)) != (rdOf false l1_0 (rd l3 0)))=true then (some true) else ((impl_Night_torches.f l0_0 a0_1 a0_2 l1_0 a1_1 (rdOf false l1_0 (rd l2 0))).bind fun t260=>(some (decide (t260 > 1))))) else (none)) else (none)) else (none)))) else (none)) else (none)) else (none))=some r:=h
 clear h;by_cases c5:0 < (l2.length:Int)
 ·
  rw[if_pos c5] at H;have c5b0:decide (0 < (l2.length:Int))=true:=dt' c5;have c5b1:decide (0 < l2.length)=true:=dt' (by omega);clear c5;by_cases c6:0≤(rd l2 0)
  ·
   rw[if_pos c6] at H;have c6b0:decide (0≤(rd l2 0))=true:=dt' c6;clear c6;by_cases c7:(rd l2 0) < (l1_0.length:Int)
   ·
    rw[if_pos c7] at H;have c7b0:decide ((rd l2 0) < (l1_0.length:Int))=true:=dt' c7;clear c7;replace H:=Option.bind_eq_some_iff.mp H;obtain ⟨t257,A80,H⟩:=H;replace H:(if t257=true then (some false) else (if 0 < (l3.length:Int) then (if 0≤(rd l3 0) then (if (rd l3 0) < (l1_0.length:Int) then (if ((rdOf false l1_0 (rd l2 0)) != (rdOf false l1_0 (rd l3 0)))=true then (some true) else ((impl_Night_torches.f l0_0 a0_1 a0_2 l1_0 a1_1 (rdOf false l1_0 (rd l2 0))).bind fun t260=>(some (decide (t260 > 1))))) else (none)) else (none)) else (none)))=some r:=H;have A8:=am' A80;clear A80;by_cases c9:t257=true
    ·
     subst c9;have H1:(some false)=some r:=by rw[if_pos rfl] at H;exact H
     clear H;have H:=H1;clear H1;obtain rfl:=os' H;go_enter Try.func79,Try.ntmps79
     try go_wp2_with (first|((with_reducible refine gate_dst (N:=4) rfl ?_);refine box_event ?hg (N:=4) ?hd (cs:=#[.slice A0_0 l0_0.length c0_0, .int .i64 a0_1, .int .i64 a0_2]) (t:=35) ?hr ?_;(case hd=>rfl);(case hg=>rfl);(case hr=>first|(go_simp;done)|(go_simp;rfl));intro gb253 hg w10 hbox hb;have n0_:=am' (bt' xb' hb);have n1_:=am' (hbox);have n2_:=am' ((by rw[hg];exact (bz' xb'):w.heap.size≤gb253));have n3_:=am' ((by rw[hg];exact (bz' xb'):w.heap.size≤gb253));clear HB;have HB:=n0_;have BK253:=n1_;have GW253:=n2_;have GE253:=n3_;clear n0_ n1_ n2_ n3_;clear hb hbox hg)|((with_reducible refine gate_dst (N:=5) rfl ?_);refine box_event ?hg (N:=5) ?hd (cs:=#[.slice A1_0 l1_0.length c1_0, .int .i64 a1_1]) (t:=32) ?hr ?_;(case hd=>rfl);(case hg=>rfl);(case hr=>first|(go_simp;done)|(go_simp;rfl));intro gb254 hg w11 hbox hb;have n0_:=am' (bb' (g:=gb253) (o := .cells #[.slice A0_0 l0_0.length c0_0, .int .i64 a0_1, .int .i64 a0_2] 35 (0,0)) (kk' BK253.out) hb);have n1_:=am' (bt' (yb' GE253.out) hb);have n2_:=am' (hbox);have n3_:=am' ((by rw[hg];exact (bz' (yb' GE253.out)):w.heap.size≤gb254));have n4_:=am' ((by rw[hg];exact (bz' (yb' GE253.out)):w.heap.size≤gb254));have n5_:=am' ((by rw[hg];exact Nat.ne_of_lt (blk_lt (g:=gb253) (o := .cells #[.slice A0_0 l0_0.length c0_0, .int .i64 a0_1, .int .i64 a0_2] 35 (0,0)) (kk' BK253.out)):gb253≠gb254));have n6_:=am' ((by rw[hg];exact Nat.ne_of_gt (blk_lt (g:=gb253) (o := .cells #[.slice A0_0 l0_0.length c0_0, .int .i64 a0_1, .int .i64 a0_2] 35 (0,0)) (kk' BK253.out)):gb254≠gb253));clear BK253;clear HB;have BK253:=n0_;have HB:=n1_;have BK254:=n2_;have GW254:=n3_;have GE254:=n4_;have NB253_254:=n5_;have NB254_253:=n6_;clear n0_ n1_ n2_ n3_ n4_ n5_ n6_;clear hb hbox hg))
     have n0_:=am' (kd' BK253.out);have n1_:=am' (kd' BK254.out);have n2_:=am' (be' HB.out);clear BK253;clear BK254;clear HB;have BK253:=n0_;have BK254:=n1_;have HB:=n2_;clear n0_ n1_ n2_;have p255:0≤(0:Int):=(by omega)
     have q255:0 < (l2.length:Int):=od' xa';obtain ⟨ad255,e255,hx255_0⟩:=Kd.at_int HR2.out 0 p255 q255;have hw255_0:=hx255_0;(try rw [show ((0:Int)).toNat=0 from rfl] at hw255_0)
     (try rw [show 0 * 1=0 from rfl] at hw255_0)
     (try rw [Addr.add_zero'] at hw255_0)
     cases e255
     have qi255:(0 < l2.length)=True:=eq_true (by omega)
     (try rw [show ((0:Int)).toNat=0 from rfl] at hx255_0)
     (try rw [Addr.add_zero'] at hx255_0)
     replace hx255_0:=(HB.out.cell (bl' w _ hx255_0)).trans hx255_0;replace p255:=eq_true p255;replace q255:=eq_true q255;have p256:0≤((rd l2 0):Int):=od' xa';have q256:(rd l2 0) < (l1_0.length:Int):=od' xa';obtain ⟨ad256,e256,hx256_0⟩:=Kd.at_bool HR1_0.out (rd l2 0) p256 q256;have hw256_0:=hx256_0;cases e256;replace hx256_0:=(HB.out.cell (bl' w _ hx256_0)).trans hx256_0;replace p256:=eq_true p256;replace q256:=eq_true q256;refine start_ (n:=8) (S:=fun w'=>w'.cell? ⟨gb254,0,none⟩=some (.slice (some ad256) l1_0.length c1_0)∧w'.cell? ⟨gb254,1,none⟩=some (.int .i64 a1_1)∧w'.cell? ad255=some (.int .i64 (rd l2 0))∧w'.cell? (ad256.add ((rd l2 0)).toNat)=some (.bool (rdOf false l1_0 (rd l2 0)))) (ds:=[]) #[false,false,false,false,false,false,false,false] xk' rfl rfl ⟨(bc' BK254.out 0).trans rfl,(bc' BK254.out 1).trans rfl,((HB.out.cell (bl' w _ hw255_0)).trans hw255_0),((HB.out.cell (bl' w _ hw256_0)).trans hw256_0)⟩ (fun hHeld=>?_);refine with_tabW impl_Night_together.tab1 impl_Night_together.bits1 (fun HT_ HW_=>?_);generalize w11.drew=w12 at BK253 BK254 HB hx255_0 hx256_0 hHeld ⊢
     refine pure_ (i:=0) (N:=some 10) (v:=?_) (a':=?_) #[true,false,false,false,false,false,false,false] rfl rfl (any_of HT_.out xk') (fun _ _ _ h=>h) (Or.inl ⟨by rfl,?_⟩) ?_ ?_
     rotate_left
     ·
      intro w';go_simp;with_reducible rfl
     rotate_left
     ·
      simp only[Act.put,sa',sb',sc',i64_w,i32_w];rfl
     refine pure_ (i:=2) (N:=some 12) (v:=?_) (a':=?_) #[true,false,true,false,false,false,false,false] rfl rfl (any_of HT_.out xk') (fun _ _ _ h=>h) (Or.inl ⟨by rfl,?_⟩) ?_ ?_
     rotate_left
     ·
      intro w';go_simp;with_reducible rfl
     rotate_left
     ·
      simp only[Act.put,sa',sb',sc',i64_w,i32_w];rfl
     refine pure_ (i:=3) (N:=some 13) (v:=?_) (a':=?_) #[true,false,true,true,false,false,false,false] rfl rfl (any_of HT_.out xk') (fun _ _ _ h=>h) (Or.inl ⟨by rfl,?_⟩) ?_ ?_
     rotate_left
     ·
      intro w';go_simp;with_reducible rfl
     rotate_left
     ·
      simp only[Act.put,sa',sb',sc',i64_w,i32_w];rfl
     refine take_ (i:=1) (N:=some 11) (v:=?_) (a':=?_) #[true,true,true,true,false,false,false,false] rfl rfl (take_ofW HT_.out HW_.out xk') (fun _ _ _ h=>h) (Or.inl ⟨by rfl,?_⟩) hHeld ?_ ?_
     rotate_left
     ·
      rintro w' ⟨s0,s1,s2,s3⟩
      go_simp;with_reducible rfl
     rotate_left
     ·
      simp only[Act.put,sa',sb',sc',i64_w,i32_w];rfl
     refine take_ (i:=4) (N:=some 14) (v:=?_) (a':=?_) #[true,true,true,true,true,false,false,false] rfl rfl (take_ofW HT_.out HW_.out xk') (fun _ _ _ h=>h) (Or.inl ⟨by rfl,?_⟩) hHeld ?_ ?_
     rotate_left
     ·
      rintro w' ⟨s0,s1,s2,s3⟩
      go_simp;with_reducible rfl
     rotate_left
     ·
      simp only[Act.put,sa',sb',sc',i64_w,i32_w];rfl
     refine pure_ (i:=5) (N:=some 15) (v:=?_) (a':=?_) #[true,true,true,true,true,true,false,false] rfl rfl (any_of HT_.out xk') (fun _ _ _ h=>h) (Or.inl ⟨by rfl,?_⟩) ?_ ?_
     rotate_left
     ·
      intro w';go_simp;with_reducible rfl
     rotate_left
     ·
      simp only[Act.put,sa',sb',sc',i64_w,i32_w];rfl
     refine take_ (i:=6) (N:=some 16) (v:=?_) (a':=?_) #[true,true,true,true,true,true,true,false] rfl rfl (take_ofW HT_.out HW_.out xk') (fun _ _ _ h=>h) (Or.inl ⟨by rfl,?_⟩) hHeld ?_ ?_
     rotate_left
     ·
      rintro w' ⟨s0,s1,s2,s3⟩
      go_simp;with_reducible rfl
     rotate_left
     ·
      simp only[Act.put,sa',sb',sc',i64_w,i32_w];rfl
     refine pure_ (i:=7) (N:=some 9) (v:=?_) (a':=?_) #[true,true,true,true,true,true,true,true] rfl rfl (any_of HT_.out xk') (fun _ _ _ h=>h) (Or.inl ⟨by rfl,?_⟩) ?_ ?_
     rotate_left
     ·
      intro w';go_simp;with_reducible rfl
     rotate_left
     ·
      simp only[Act.put,sa',sb',sc',i64_w,i32_w];rfl
     refine done_ (done_of HT_.out xk') ?_
     try go_wp2
     have n0_:=am' (kd' BK253.out);have n1_:=am' (kd' BK254.out);have n2_:=am' (be' HB.out);clear BK253;clear BK254;clear HB;have BK253:=n0_;have BK254:=n1_;have HB:=n2_;clear n0_ n1_ n2_;refine start_ (n:=23) (S:=fun w'=>True) (ds:=[]) #[false,false,false,false,false,false,false,false,false,false,false,false,false,false,false,false,false,false,false,false,false,false,false] xk' rfl rfl trivial (fun hHeld=>?_);refine with_tabW impl_Night_together.tab2 impl_Night_together.bits2 (fun HT_ HW_=>?_);generalize w12.drew=w13 at BK253 BK254 HB hHeld ⊢
     refine pure_ (i:=0) (N:=some 17) (v:=?_) (a':=?_) #[true,false,false,false,false,false,false,false,false,false,false,false,false,false,false,false,false,false,false,false,false,false,false] rfl rfl (any_of HT_.out xk') (fun _ _ _ h=>h) (Or.inl ⟨by rfl,?_⟩) ?_ ?_
     rotate_left
     ·
      intro w';go_simp;with_reducible rfl
     rotate_left
     ·
      simp only[Act.put,sa',sb',sc',i64_w,i32_w];rfl
     refine pure_ (i:=1) (N:=some 18) (v:=?_) (a':=?_) #[true,true,false,false,false,false,false,false,false,false,false,false,false,false,false,false,false,false,false,false,false,false,false] rfl rfl (any_of HT_.out xk') (fun _ _ _ h=>h) (Or.inl ⟨by rfl,?_⟩) ?_ ?_
     rotate_left
     ·
      intro w';go_simp;with_reducible rfl
     rotate_left
     ·
      simp only[Act.put,sa',sb',sc',i64_w,i32_w];rfl
     refine one_ (i:=2) (N:=some 19) #[true,true,true,false,false,false,false,false,false,false,false,false,false,false,false,false,false,false,false,false,false,false,false] rfl rfl (one_of HT_.out xk') (by decide) (fun K hK=>?_);refine goes_ Try.func93 xk' rfl #[.slice (some ad255) l2.length c2, .slice A3 l3.length c3] (by rfl) rfl rfl xl' ?_
     with_reducible refine (impl_share.calls _ _ l2 _ _ l3 true _ ?side1 ?side2 ?side3 ?side4 A8.out).mono ?_
     (case side1=>exact kc' (cb' HR2.out HB.out))
     (case side2=>exact HC2.out)
     (case side3=>exact kc' (cb' HR3.out HB.out))
     (case side4=>exact HC3.out)
     rintro e w14 ⟨rfl,hb⟩
     refine ⟨_,rfl,?_⟩;have n0_:=am' (bb' (g:=gb253) (o := .cells #[.slice A0_0 l0_0.length c0_0, .int .i64 a0_1, .int .i64 a0_2] 35 (0,0)) (kk' BK253.out) hb);have n1_:=am' (bb' (g:=gb254) (o := .cells #[.slice (some ad256) l1_0.length c1_0, .int .i64 a1_1] 32 (0,0)) (kk' BK254.out) hb);have n2_:=am' (bt' (y2' GE253.out GE254.out) hb);clear BK253;clear BK254;clear HB;have BK253:=n0_;have BK254:=n1_;have HB:=n2_;clear n0_ n1_ n2_;(try clear hb)
     (try clear hb2)
     (try clear hk)
     (try clear hi)
     refine hK.out _ _ trivial (fun hHeld=>?_);clear hK K;refine norm_ (a':=?_) ?_ ?_
     rotate_left
     ·
      show Act.put _ (some 19) _=_
      simp only[Act.put,sa',sb',sc',i64_w,i32_w];rfl
     refine pure_ (i:=3) (N:=some 20) (v:=?_) (a':=?_) #[true,true,true,true,false,false,false,false,false,false,false,false,false,false,false,false,false,false,false,false,false,false,false] rfl rfl (any_of HT_.out xk') (fun _ _ _ h=>h) (Or.inl ⟨by rfl,?_⟩) ?_ ?_
     rotate_left
     ·
      intro w';go_simp;with_reducible rfl
     rotate_left
     ·
      simp only[Act.put,sa',sb',sc',i64_w,i32_w];rfl
     refine pure_ (i:=4) (N:=some 21) (v:=?_) (a':=?_) #[true,true,true,true,true,false,false,false,false,false,false,false,false,false,false,false,false,false,false,false,false,false,false] rfl rfl (any_of HT_.out xk') (fun _ _ _ h=>h) (Or.inl ⟨by rfl,?_⟩) ?_ ?_
     rotate_left
     ·
      intro w';go_simp;with_reducible rfl
     rotate_left
     ·
      simp only[Act.put,sa',sb',sc',i64_w,i32_w];rfl
     refine pure_ (i:=5) (N:=some 22) (v:=undef) (a':=?_) #[true,true,true,true,true,true,false,false,false,false,false,false,false,false,false,false,false,false,false,false,false,false,false] rfl rfl (any_of HT_.out xk') (fun _ _ _ h=>h) (Or.inr ⟨by rfl,rfl⟩) ?_ ?_
     rotate_left
     ·
      simp only[Act.put,sa',sb',sc',i64_w,i32_w];rfl
     refine pure_ (i:=6) (N:=some 23) (v:=undef) (a':=?_) #[true,true,true,true,true,true,true,false,false,false,false,false,false,false,false,false,false,false,false,false,false,false,false] rfl rfl (any_of HT_.out xk') (fun _ _ _ h=>h) (Or.inr ⟨by rfl,rfl⟩) ?_ ?_
     rotate_left
     ·
      simp only[Act.put,sa',sb',sc',i64_w,i32_w];rfl
     refine pure_ (i:=7) (N:=some 24) (v:=undef) (a':=?_) #[true,true,true,true,true,true,true,true,false,false,false,false,false,false,false,false,false,false,false,false,false,false,false] rfl rfl (any_of HT_.out xk') (fun _ _ _ h=>h) (Or.inr ⟨by rfl,rfl⟩) ?_ ?_
     rotate_left
     ·
      simp only[Act.put,sa',sb',sc',i64_w,i32_w];rfl
     refine pure_ (i:=8) (N:=some 25) (v:=undef) (a':=?_) #[true,true,true,true,true,true,true,true,true,false,false,false,false,false,false,false,false,false,false,false,false,false,false] rfl rfl (any_of HT_.out xk') (fun _ _ _ h=>h) (Or.inr ⟨by rfl,rfl⟩) ?_ ?_
     rotate_left
     ·
      simp only[Act.put,sa',sb',sc',i64_w,i32_w];rfl
     refine pure_ (i:=9) (N:=some 26) (v:=undef) (a':=?_) #[true,true,true,true,true,true,true,true,true,true,false,false,false,false,false,false,false,false,false,false,false,false,false] rfl rfl (any_of HT_.out xk') (fun _ _ _ h=>h) (Or.inr ⟨by rfl,rfl⟩) ?_ ?_
     rotate_left
     ·
      simp only[Act.put,sa',sb',sc',i64_w,i32_w];rfl
     refine pure_ (i:=10) (N:=some 27) (v:=undef) (a':=?_) #[true,true,true,true,true,true,true,true,true,true,true,false,false,false,false,false,false,false,false,false,false,false,false] rfl rfl (any_of HT_.out xk') (fun _ _ _ h=>h) (Or.inr ⟨by rfl,rfl⟩) ?_ ?_
     rotate_left
     ·
      simp only[Act.put,sa',sb',sc',i64_w,i32_w];rfl
     refine pure_ (i:=11) (N:=some 28) (v:=undef) (a':=?_) #[true,true,true,true,true,true,true,true,true,true,true,true,false,false,false,false,false,false,false,false,false,false,false] rfl rfl (any_of HT_.out xk') (fun _ _ _ h=>h) (Or.inr ⟨by rfl,rfl⟩) ?_ ?_
     rotate_left
     ·
      simp only[Act.put,sa',sb',sc',i64_w,i32_w];rfl
     refine pure_ (i:=12) (N:=some 29) (v:=undef) (a':=?_) #[true,true,true,true,true,true,true,true,true,true,true,true,true,false,false,false,false,false,false,false,false,false,false] rfl rfl (any_of HT_.out xk') (fun _ _ _ h=>h) (Or.inr ⟨by rfl,rfl⟩) ?_ ?_
     rotate_left
     ·
      simp only[Act.put,sa',sb',sc',i64_w,i32_w];rfl
     refine pure_ (i:=13) (N:=some 30) (v:=undef) (a':=?_) #[true,true,true,true,true,true,true,true,true,true,true,true,true,true,false,false,false,false,false,false,false,false,false] rfl rfl (any_of HT_.out xk') (fun _ _ _ h=>h) (Or.inr ⟨by rfl,rfl⟩) ?_ ?_
     rotate_left
     ·
      simp only[Act.put,sa',sb',sc',i64_w,i32_w];rfl
     refine pure_ (i:=14) (N:=some 31) (v:=undef) (a':=?_) #[true,true,true,true,true,true,true,true,true,true,true,true,true,true,true,false,false,false,false,false,false,false,false] rfl rfl (any_of HT_.out xk') (fun _ _ _ h=>h) (Or.inr ⟨by rfl,rfl⟩) ?_ ?_
     rotate_left
     ·
      simp only[Act.put,sa',sb',sc',i64_w,i32_w];rfl
     refine pure_ (i:=15) (N:=some 32) (v:=undef) (a':=?_) #[true,true,true,true,true,true,true,true,true,true,true,true,true,true,true,true,false,false,false,false,false,false,false] rfl rfl (any_of HT_.out xk') (fun _ _ _ h=>h) (Or.inr ⟨by rfl,rfl⟩) ?_ ?_
     rotate_left
     ·
      simp only[Act.put,sa',sb',sc',i64_w,i32_w];rfl
     refine pure_ (i:=16) (N:=some 33) (v:=undef) (a':=?_) #[true,true,true,true,true,true,true,true,true,true,true,true,true,true,true,true,true,false,false,false,false,false,false] rfl rfl (any_of HT_.out xk') (fun _ _ _ h=>h) (Or.inr ⟨by rfl,rfl⟩) ?_ ?_
     rotate_left
     ·
      simp only[Act.put,sa',sb',sc',i64_w,i32_w];rfl
     refine pure_ (i:=17) (N:=some 34) (v:=undef) (a':=?_) #[true,true,true,true,true,true,true,true,true,true,true,true,true,true,true,true,true,true,false,false,false,false,false] rfl rfl (any_of HT_.out xk') (fun _ _ _ h=>h) (Or.inr ⟨by rfl,rfl⟩) ?_ ?_
     rotate_left
     ·
      simp only[Act.put,sa',sb',sc',i64_w,i32_w];rfl
     refine pure_ (i:=18) (N:=some 35) (v:=undef) (a':=?_) #[true,true,true,true,true,true,true,true,true,true,true,true,true,true,true,true,true,true,true,false,false,false,false] rfl rfl (any_of HT_.out xk') (fun _ _ _ h=>h) (Or.inr ⟨by rfl,rfl⟩) ?_ ?_
     rotate_left
     ·
      simp only[Act.put,sa',sb',sc',i64_w,i32_w];rfl
     refine pure_ (i:=19) (N:=some 36) (v:=undef) (a':=?_) #[true,true,true,true,true,true,true,true,true,true,true,true,true,true,true,true,true,true,true,true,false,false,false] rfl rfl (any_of HT_.out xk') (fun _ _ _ h=>h) (Or.inr ⟨by rfl,rfl⟩) ?_ ?_
     rotate_left
     ·
      simp only[Act.put,sa',sb',sc',i64_w,i32_w];rfl
     refine pure_ (i:=20) (N:=some 37) (v:=undef) (a':=?_) #[true,true,true,true,true,true,true,true,true,true,true,true,true,true,true,true,true,true,true,true,true,false,false] rfl rfl (any_of HT_.out xk') (fun _ _ _ h=>h) (Or.inr ⟨by rfl,rfl⟩) ?_ ?_
     rotate_left
     ·
      simp only[Act.put,sa',sb',sc',i64_w,i32_w];rfl
     refine pure_ (i:=21) (N:=some 38) (v:=?_) (a':=?_) #[true,true,true,true,true,true,true,true,true,true,true,true,true,true,true,true,true,true,true,true,true,true,false] rfl rfl (any_of HT_.out xk') (fun _ _ _ h=>h) (Or.inl ⟨by rfl,?_⟩) ?_ ?_
     rotate_left
     ·
      intro w';go_simp;with_reducible rfl
     rotate_left
     ·
      simp only[Act.put,sa',sb',sc',i64_w,i32_w];rfl
     refine pure_ (i:=22) (N:=some 8) (v:=?_) (a':=?_) #[true,true,true,true,true,true,true,true,true,true,true,true,true,true,true,true,true,true,true,true,true,true,true] rfl rfl (any_of HT_.out xk') (fun _ _ _ h=>h) (Or.inl ⟨by rfl,?_⟩) ?_ ?_
     rotate_left
     ·
      intro w';go_simp;with_reducible rfl
     rotate_left
     ·
      simp only[Act.put,sa',sb',sc',i64_w,i32_w];rfl
     refine done_ (done_of HT_.out xk') ?_
     try go_wp2
     go_ret
     exact ⟨by first|rfl|(simp[errW_none,errW_some] <;> rfl)|(simp[*,errW_none,errW_some] <;> rfl),y2' GE253.out GE254.out⟩
    ·
     replace c9:=Bool.eq_false_iff.mpr c9;subst c9;have H1:(if 0 < (l3.length:Int) then (if 0≤(rd l3 0) then (if (rd l3 0) < (l1_0.length:Int) then (if ((rdOf false l1_0 (rd l2 0)) != (rdOf false l1_0 (rd l3 0)))=true then (some true) else ((impl_Night_torches.f l0_0 a0_1 a0_2 l1_0 a1_1 (rdOf false l1_0 (rd l2 0))).bind fun t260=>(some (decide (t260 > 1))))) else (none)) else (none)) else (none))=some r:=by rw[if_neg (show ¬ (false=true) by decide)] at H;exact H
     clear H;have H:=H1;clear H1;by_cases c15:0 < (l3.length:Int)
     ·
      rw[if_pos c15] at H;have c15b0:decide (0 < (l3.length:Int))=true:=dt' c15;have c15b1:decide (0 < l3.length)=true:=dt' (by omega);clear c15;by_cases c16:0≤(rd l3 0)
      ·
       rw[if_pos c16] at H;have c16b0:decide (0≤(rd l3 0))=true:=dt' c16;clear c16;by_cases c17:(rd l3 0) < (l1_0.length:Int)
       ·
        rw[if_pos c17] at H;have c17b0:decide ((rd l3 0) < (l1_0.length:Int))=true:=dt' c17;clear c17;by_cases c18:((rdOf false l1_0 (rd l2 0)) != (rdOf false l1_0 (rd l3 0)))=true
        ·
         rw[if_pos c18] at H;have c18b0:((rdOf false l1_0 (rd l2 0)) != (rdOf false l1_0 (rd l3 0)))=true:=c18
         (try (have c18b1:decide ((rdOf false l1_0 (rd l2 0))=(rdOf false l1_0 (rd l3 0)))=false:=by simpa using c18))
         (try (have c18b2:((rdOf false l1_0 (rd l2 0)) == (rdOf false l1_0 (rd l3 0)))=false:=by simpa using c18))
         (try (have c18b3:¬ ((rdOf false l1_0 (rd l2 0))=(rdOf false l1_0 (rd l3 0))):=by simpa using c18))
         clear c18;obtain rfl:=os' H;go_enter Try.func79,Try.ntmps79
         try go_wp2_with (first|((with_reducible refine gate_dst (N:=4) rfl ?_);refine box_event ?hg (N:=4) ?hd (cs:=#[.slice A0_0 l0_0.length c0_0, .int .i64 a0_1, .int .i64 a0_2]) (t:=35) ?hr ?_;(case hd=>rfl);(case hg=>rfl);(case hr=>first|(go_simp;done)|(go_simp;rfl));intro gb253 hg w19 hbox hb;have n0_:=am' (bt' xb' hb);have n1_:=am' (hbox);have n2_:=am' ((by rw[hg];exact (bz' xb'):w.heap.size≤gb253));have n3_:=am' ((by rw[hg];exact (bz' xb'):w.heap.size≤gb253));clear HB;have HB:=n0_;have BK253:=n1_;have GW253:=n2_;have GE253:=n3_;clear n0_ n1_ n2_ n3_;clear hb hbox hg)|((with_reducible refine gate_dst (N:=5) rfl ?_);refine box_event ?hg (N:=5) ?hd (cs:=#[.slice A1_0 l1_0.length c1_0, .int .i64 a1_1]) (t:=32) ?hr ?_;(case hd=>rfl);(case hg=>rfl);(case hr=>first|(go_simp;done)|(go_simp;rfl));intro gb254 hg w20 hbox hb;have n0_:=am' (bb' (g:=gb253) (o := .cells #[.slice A0_0 l0_0.length c0_0, .int .i64 a0_1, .int .i64 a0_2] 35 (0,0)) (kk' BK253.out) hb);have n1_:=am' (bt' (yb' GE253.out) hb);have n2_:=am' (hbox);have n3_:=am' ((by rw[hg];exact (bz' (yb' GE253.out)):w.heap.size≤gb254));have n4_:=am' ((by rw[hg];exact (bz' (yb' GE253.out)):w.heap.size≤gb254));have n5_:=am' ((by rw[hg];exact Nat.ne_of_lt (blk_lt (g:=gb253) (o := .cells #[.slice A0_0 l0_0.length c0_0, .int .i64 a0_1, .int .i64 a0_2] 35 (0,0)) (kk' BK253.out)):gb253≠gb254));have n6_:=am' ((by rw[hg];exact Nat.ne_of_gt (blk_lt (g:=gb253) (o := .cells #[.slice A0_0 l0_0.length c0_0, .int .i64 a0_1, .int .i64 a0_2] 35 (0,0)) (kk' BK253.out)):gb254≠gb253));clear BK253;clear HB;have BK253:=n0_;have HB:=n1_;have BK254:=n2_;have GW254:=n3_;have GE254:=n4_;have NB253_254:=n5_;have NB254_253:=n6_;clear n0_ n1_ n2_ n3_ n4_ n5_ n6_;clear hb hbox hg))
         have n0_:=am' (kd' BK253.out);have n1_:=am' (kd' BK254.out);have n2_:=am' (be' HB.out);clear BK253;clear BK254;clear HB;have BK253:=n0_;have BK254:=n1_;have HB:=n2_;clear n0_ n1_ n2_;have p255:0≤(0:Int):=(by omega)
         have q255:0 < (l2.length:Int):=od' xa';obtain ⟨ad255,e255,hx255_0⟩:=Kd.at_int HR2.out 0 p255 q255;have hw255_0:=hx255_0;(try rw [show ((0:Int)).toNat=0 from rfl] at hw255_0)
         (try rw [show 0 * 1=0 from rfl] at hw255_0)
         (try rw [Addr.add_zero'] at hw255_0)
         cases e255
         have qi255:(0 < l2.length)=True:=eq_true (by omega)
         (try rw [show ((0:Int)).toNat=0 from rfl] at hx255_0)
         (try rw [Addr.add_zero'] at hx255_0)
         replace hx255_0:=(HB.out.cell (bl' w _ hx255_0)).trans hx255_0;replace p255:=eq_true p255;replace q255:=eq_true q255;have p256:0≤((rd l2 0):Int):=od' xa';have q256:(rd l2 0) < (l1_0.length:Int):=od' xa';obtain ⟨ad256,e256,hx256_0⟩:=Kd.at_bool HR1_0.out (rd l2 0) p256 q256;have hw256_0:=hx256_0;cases e256;replace hx256_0:=(HB.out.cell (bl' w _ hx256_0)).trans hx256_0;replace p256:=eq_true p256;replace q256:=eq_true q256;refine start_ (n:=8) (S:=fun w'=>w'.cell? ⟨gb254,0,none⟩=some (.slice (some ad256) l1_0.length c1_0)∧w'.cell? ⟨gb254,1,none⟩=some (.int .i64 a1_1)∧w'.cell? ad255=some (.int .i64 (rd l2 0))∧w'.cell? (ad256.add ((rd l2 0)).toNat)=some (.bool (rdOf false l1_0 (rd l2 0)))) (ds:=[]) #[false,false,false,false,false,false,false,false] xk' rfl rfl ⟨(bc' BK254.out 0).trans rfl,(bc' BK254.out 1).trans rfl,((HB.out.cell (bl' w _ hw255_0)).trans hw255_0),((HB.out.cell (bl' w _ hw256_0)).trans hw256_0)⟩ (fun hHeld=>?_);refine with_tabW impl_Night_together.tab1 impl_Night_together.bits1 (fun HT_ HW_=>?_);generalize w20.drew=w21 at BK253 BK254 HB hx255_0 hx256_0 hHeld ⊢
         refine pure_ (i:=0) (N:=some 10) (v:=?_) (a':=?_) #[true,false,false,false,false,false,false,false] rfl rfl (any_of HT_.out xk') (fun _ _ _ h=>h) (Or.inl ⟨by rfl,?_⟩) ?_ ?_
         rotate_left
         ·
          intro w';go_simp;with_reducible rfl
         rotate_left
         ·
          simp only[Act.put,sa',sb',sc',i64_w,i32_w];rfl
         refine pure_ (i:=2) (N:=some 12) (v:=?_) (a':=?_) #[true,false,true,false,false,false,false,false] rfl rfl (any_of HT_.out xk') (fun _ _ _ h=>h) (Or.inl ⟨by rfl,?_⟩) ?_ ?_
         rotate_left
         ·
          intro w';go_simp;with_reducible rfl
         rotate_left
         ·
          simp only[Act.put,sa',sb',sc',i64_w,i32_w];rfl
         refine pure_ (i:=3) (N:=some 13) (v:=?_) (a':=?_) #[true,false,true,true,false,false,false,false] rfl rfl (any_of HT_.out xk') (fun _ _ _ h=>h) (Or.inl ⟨by rfl,?_⟩) ?_ ?_
         rotate_left
         ·
          intro w';go_simp;with_reducible rfl
         rotate_left
         ·
          simp only[Act.put,sa',sb',sc',i64_w,i32_w];rfl
         refine take_ (i:=1) (N:=some 11) (v:=?_) (a':=?_) #[true,true,true,true,false,false,false,false] rfl rfl (take_ofW HT_.out HW_.out xk') (fun _ _ _ h=>h) (Or.inl ⟨by rfl,?_⟩) hHeld ?_ ?_
         rotate_left
         ·
          rintro w' ⟨s0,s1,s2,s3⟩
          go_simp;with_reducible rfl
         rotate_left
         ·
          simp only[Act.put,sa',sb',sc',i64_w,i32_w];rfl
         refine take_ (i:=4) (N:=some 14) (v:=?_) (a':=?_) #[true,true,true,true,true,false,false,false] rfl rfl (take_ofW HT_.out HW_.out xk') (fun _ _ _ h=>h) (Or.inl ⟨by rfl,?_⟩) hHeld ?_ ?_
         rotate_left
         ·
          rintro w' ⟨s0,s1,s2,s3⟩
          go_simp;with_reducible rfl
         rotate_left
         ·
          simp only[Act.put,sa',sb',sc',i64_w,i32_w];rfl
         refine pure_ (i:=5) (N:=some 15) (v:=?_) (a':=?_) #[true,true,true,true,true,true,false,false] rfl rfl (any_of HT_.out xk') (fun _ _ _ h=>h) (Or.inl ⟨by rfl,?_⟩) ?_ ?_
         rotate_left
         ·
          intro w';go_simp;with_reducible rfl
         rotate_left
         ·
          simp only[Act.put,sa',sb',sc',i64_w,i32_w];rfl
         refine take_ (i:=6) (N:=some 16) (v:=?_) (a':=?_) #[true,true,true,true,true,true,true,false] rfl rfl (take_ofW HT_.out HW_.out xk') (fun _ _ _ h=>h) (Or.inl ⟨by rfl,?_⟩) hHeld ?_ ?_
         rotate_left
         ·
          rintro w' ⟨s0,s1,s2,s3⟩
          go_simp;with_reducible rfl
         rotate_left
         ·
          simp only[Act.put,sa',sb',sc',i64_w,i32_w];rfl
         refine pure_ (i:=7) (N:=some 9) (v:=?_) (a':=?_) #[true,true,true,true,true,true,true,true] rfl rfl (any_of HT_.out xk') (fun _ _ _ h=>h) (Or.inl ⟨by rfl,?_⟩) ?_ ?_
         rotate_left
         ·
          intro w';go_simp;with_reducible rfl
         rotate_left
         ·
          simp only[Act.put,sa',sb',sc',i64_w,i32_w];rfl
         refine done_ (done_of HT_.out xk') ?_
         try go_wp2
         have n0_:=am' (kd' BK253.out);have n1_:=am' (kd' BK254.out);have n2_:=am' (be' HB.out);clear BK253;clear BK254;clear HB;have BK253:=n0_;have BK254:=n1_;have HB:=n2_;clear n0_ n1_ n2_;have p258:0≤(0:Int):=(by omega)
         have q258:0 < (l3.length:Int):=od' xa';obtain ⟨ad258,e258,hx258_0⟩:=Kd.at_int HR3.out 0 p258 q258;have hw258_0:=hx258_0;(try rw [show ((0:Int)).toNat=0 from rfl] at hw258_0)
         (try rw [show 0 * 1=0 from rfl] at hw258_0)
         (try rw [Addr.add_zero'] at hw258_0)
         cases e258
         have qi258:(0 < l3.length)=True:=eq_true (by omega)
         (try rw [show ((0:Int)).toNat=0 from rfl] at hx258_0)
         (try rw [Addr.add_zero'] at hx258_0)
         replace hx258_0:=(HB.out.cell (bl' w _ hx258_0)).trans hx258_0;replace p258:=eq_true p258;replace q258:=eq_true q258;have p259:0≤((rd l3 0):Int):=od' xa';have q259:(rd l3 0) < (l1_0.length:Int):=od' xa';obtain ⟨ad259,e259,hx259_0⟩:=Kd.at_bool HR1_0.out (rd l3 0) p259 q259;have hw259_0:=hx259_0;obtain rfl:ad256=ad259:=(by injection e259)
         replace hx259_0:=(HB.out.cell (bl' w _ hx259_0)).trans hx259_0;replace p259:=eq_true p259;replace q259:=eq_true q259;refine start_ (n:=23) (S:=fun w'=>w'.cell? ⟨gb254,0,none⟩=some (.slice (some ad256) l1_0.length c1_0)∧w'.cell? ⟨gb254,1,none⟩=some (.int .i64 a1_1)∧w'.cell? ad258=some (.int .i64 (rd l3 0))∧w'.cell? (ad256.add ((rd l3 0)).toNat)=some (.bool (rdOf false l1_0 (rd l3 0)))) (ds:=[]) #[false,false,false,false,false,false,false,false,false,false,false,false,false,false,false,false,false,false,false,false,false,false,false] xk' rfl rfl ⟨(bc' BK254.out 0).trans rfl,(bc' BK254.out 1).trans rfl,((HB.out.cell (bl' w _ hw258_0)).trans hw258_0),((HB.out.cell (bl' w _ hw259_0)).trans hw259_0)⟩ (fun hHeld=>?_);refine with_tabW impl_Night_together.tab2 impl_Night_together.bits2 (fun HT_ HW_=>?_);generalize w21.drew=w22 at BK253 BK254 HB hx258_0 hx259_0 hHeld ⊢
         refine pure_ (i:=0) (N:=some 17) (v:=?_) (a':=?_) #[true,false,false,false,false,false,false,false,false,false,false,false,false,false,false,false,false,false,false,false,false,false,false] rfl rfl (any_of HT_.out xk') (fun _ _ _ h=>h) (Or.inl ⟨by rfl,?_⟩) ?_ ?_
         rotate_left
         ·
          intro w';go_simp;with_reducible rfl
         rotate_left
         ·
          simp only[Act.put,sa',sb',sc',i64_w,i32_w];rfl
         refine pure_ (i:=1) (N:=some 18) (v:=?_) (a':=?_) #[true,true,false,false,false,false,false,false,false,false,false,false,false,false,false,false,false,false,false,false,false,false,false] rfl rfl (any_of HT_.out xk') (fun _ _ _ h=>h) (Or.inl ⟨by rfl,?_⟩) ?_ ?_
         rotate_left
         ·
          intro w';go_simp;with_reducible rfl
         rotate_left
         ·
          simp only[Act.put,sa',sb',sc',i64_w,i32_w];rfl
         refine one_ (i:=2) (N:=some 19) #[true,true,true,false,false,false,false,false,false,false,false,false,false,false,false,false,false,false,false,false,false,false,false] rfl rfl (one_of HT_.out xk') (by decide) (fun K hK=>?_);refine goes_ Try.func93 xk' rfl #[.slice (some ad255) l2.length c2, .slice (some ad258) l3.length c3] (by rfl) rfl rfl xl' ?_
         with_reducible refine (impl_share.calls _ _ l2 _ _ l3 false _ ?side1 ?side2 ?side3 ?side4 A8.out).mono ?_
         (case side1=>exact kc' (cb' HR2.out HB.out))
         (case side2=>exact HC2.out)
         (case side3=>exact kc' (cb' HR3.out HB.out))
         (case side4=>exact HC3.out)
         rintro e w23 ⟨rfl,hb⟩
         refine ⟨_,rfl,?_⟩;have n0_:=am' (bb' (g:=gb253) (o := .cells #[.slice A0_0 l0_0.length c0_0, .int .i64 a0_1, .int .i64 a0_2] 35 (0,0)) (kk' BK253.out) hb);have n1_:=am' (bb' (g:=gb254) (o := .cells #[.slice (some ad256) l1_0.length c1_0, .int .i64 a1_1] 32 (0,0)) (kk' BK254.out) hb);have n2_:=am' (bt' (y2' GE253.out GE254.out) hb);clear BK253;clear BK254;clear HB;have BK253:=n0_;have BK254:=n1_;have HB:=n2_;clear n0_ n1_ n2_;(try clear hb)
         (try clear hb2)
         (try clear hk)
         (try clear hi)
         refine hK.out _ _ ⟨(bc' BK254.out 0).trans rfl,(bc' BK254.out 1).trans rfl,((HB.out.cell (bl' w _ hw258_0)).trans hw258_0),((HB.out.cell (bl' w _ hw259_0)).trans hw259_0)⟩ (fun hHeld=>?_);clear hK K;refine norm_ (a':=?_) ?_ ?_
         rotate_left
         ·
          show Act.put _ (some 19) _=_
          simp only[Act.put,sa',sb',sc',i64_w,i32_w];rfl
         refine pure_ (i:=3) (N:=some 20) (v:=?_) (a':=?_) #[true,true,true,true,false,false,false,false,false,false,false,false,false,false,false,false,false,false,false,false,false,false,false] rfl rfl (any_of HT_.out xk') (fun _ _ _ h=>h) (Or.inl ⟨by rfl,?_⟩) ?_ ?_
         rotate_left
         ·
          intro w';go_simp;with_reducible rfl
         rotate_left
         ·
          simp only[Act.put,sa',sb',sc',i64_w,i32_w];rfl
         refine pure_ (i:=4) (N:=some 21) (v:=?_) (a':=?_) #[true,true,true,true,true,false,false,false,false,false,false,false,false,false,false,false,false,false,false,false,false,false,false] rfl rfl (any_of HT_.out xk') (fun _ _ _ h=>h) (Or.inl ⟨by rfl,?_⟩) ?_ ?_
         rotate_left
         ·
          intro w';go_simp;with_reducible rfl
         rotate_left
         ·
          simp only[Act.put,sa',sb',sc',i64_w,i32_w];rfl
         refine pure_ (i:=5) (N:=some 22) (v:=?_) (a':=?_) #[true,true,true,true,true,true,false,false,false,false,false,false,false,false,false,false,false,false,false,false,false,false,false] rfl rfl (any_of HT_.out xk') (fun _ _ _ h=>h) (Or.inl ⟨by rfl,?_⟩) ?_ ?_
         rotate_left
         ·
          intro w';go_simp;with_reducible rfl
         rotate_left
         ·
          simp only[Act.put,sa',sb',sc',i64_w,i32_w];rfl
         refine pure_ (i:=6) (N:=some 23) (v:=?_) (a':=?_) #[true,true,true,true,true,true,true,false,false,false,false,false,false,false,false,false,false,false,false,false,false,false,false] rfl rfl (any_of HT_.out xk') (fun _ _ _ h=>h) (Or.inl ⟨by rfl,?_⟩) ?_ ?_
         rotate_left
         ·
          intro w';go_simp;with_reducible rfl
         rotate_left
         ·
          simp only[Act.put,sa',sb',sc',i64_w,i32_w];rfl
         refine pure_ (i:=8) (N:=some 25) (v:=?_) (a':=?_) #[true,true,true,true,true,true,true,false,true,false,false,false,false,false,false,false,false,false,false,false,false,false,false] rfl rfl (any_of HT_.out xk') (fun _ _ _ h=>h) (Or.inl ⟨by rfl,?_⟩) ?_ ?_
         rotate_left
         ·
          intro w';go_simp;with_reducible rfl
         rotate_left
         ·
          simp only[Act.put,sa',sb',sc',i64_w,i32_w];rfl
         refine pure_ (i:=9) (N:=some 26) (v:=?_) (a':=?_) #[true,true,true,true,true,true,true,false,true,true,false,false,false,false,false,false,false,false,false,false,false,false,false] rfl rfl (any_of HT_.out xk') (fun _ _ _ h=>h) (Or.inl ⟨by rfl,?_⟩) ?_ ?_
         rotate_left
         ·
          intro w';go_simp;with_reducible rfl
         rotate_left
         ·
          simp only[Act.put,sa',sb',sc',i64_w,i32_w];rfl
         refine take_ (i:=7) (N:=some 24) (v:=?_) (a':=?_) #[true,true,true,true,true,true,true,true,true,true,false,false,false,false,false,false,false,false,false,false,false,false,false] rfl rfl (take_ofW HT_.out HW_.out xk') (fun _ _ _ h=>h) (Or.inl ⟨by rfl,?_⟩) hHeld ?_ ?_
         rotate_left
         ·
          rintro w' ⟨s0,s1,s2,s3⟩
          go_simp;with_reducible rfl
         rotate_left
         ·
          simp only[Act.put,sa',sb',sc',i64_w,i32_w];rfl
         refine take_ (i:=10) (N:=some 27) (v:=?_) (a':=?_) #[true,true,true,true,true,true,true,true,true,true,true,false,false,false,false,false,false,false,false,false,false,false,false] rfl rfl (take_ofW HT_.out HW_.out xk') (fun _ _ _ h=>h) (Or.inl ⟨by rfl,?_⟩) hHeld ?_ ?_
         rotate_left
         ·
          rintro w' ⟨s0,s1,s2,s3⟩
          go_simp;with_reducible rfl
         rotate_left
         ·
          simp only[Act.put,sa',sb',sc',i64_w,i32_w];rfl
         refine pure_ (i:=11) (N:=some 28) (v:=?_) (a':=?_) #[true,true,true,true,true,true,true,true,true,true,true,true,false,false,false,false,false,false,false,false,false,false,false] rfl rfl (any_of HT_.out xk') (fun _ _ _ h=>h) (Or.inl ⟨by rfl,?_⟩) ?_ ?_
         rotate_left
         ·
          intro w';go_simp;with_reducible rfl
         rotate_left
         ·
          simp only[Act.put,sa',sb',sc',i64_w,i32_w];rfl
         refine take_ (i:=12) (N:=some 29) (v:=?_) (a':=?_) #[true,true,true,true,true,true,true,true,true,true,true,true,true,false,false,false,false,false,false,false,false,false,false] rfl rfl (take_ofW HT_.out HW_.out xk') (fun _ _ _ h=>h) (Or.inl ⟨by rfl,?_⟩) hHeld ?_ ?_
         rotate_left
         ·
          rintro w' ⟨s0,s1,s2,s3⟩
          go_simp;with_reducible rfl
         rotate_left
         ·
          simp only[Act.put,sa',sb',sc',i64_w,i32_w];rfl
         refine pure_ (i:=13) (N:=some 30) (v:=?_) (a':=?_) #[true,true,true,true,true,true,true,true,true,true,true,true,true,true,false,false,false,false,false,false,false,false,false] rfl rfl (any_of HT_.out xk') (fun _ _ _ h=>h) (Or.inl ⟨by rfl,?_⟩) ?_ ?_
         rotate_left
         ·
          intro w';go_simp;with_reducible rfl
         rotate_left
         ·
          simp only[Act.put,sa',sb',sc',i64_w,i32_w];rfl
         refine pure_ (i:=14) (N:=some 31) (v:=?_) (a':=?_) #[true,true,true,true,true,true,true,true,true,true,true,true,true,true,true,false,false,false,false,false,false,false,false] rfl rfl (any_of HT_.out xk') (fun _ _ _ h=>h) (Or.inl ⟨by rfl,?_⟩) ?_ ?_
         rotate_left
         ·
          intro w';go_simp;with_reducible rfl
         rotate_left
         ·
          simp only[Act.put,sa',sb',sc',i64_w,i32_w];rfl
         refine pure_ (i:=15) (N:=some 32) (v:=undef) (a':=?_) #[true,true,true,true,true,true,true,true,true,true,true,true,true,true,true,true,false,false,false,false,false,false,false] rfl rfl (any_of HT_.out xk') (fun _ _ _ h=>h) (Or.inr ⟨by rfl,rfl⟩) ?_ ?_
         rotate_left
         ·
          simp only[Act.put,sa',sb',sc',i64_w,i32_w];rfl
         refine pure_ (i:=16) (N:=some 33) (v:=undef) (a':=?_) #[true,true,true,true,true,true,true,true,true,true,true,true,true,true,true,true,true,false,false,false,false,false,false] rfl rfl (any_of HT_.out xk') (fun _ _ _ h=>h) (Or.inr ⟨by rfl,rfl⟩) ?_ ?_
         rotate_left
         ·
          simp only[Act.put,sa',sb',sc',i64_w,i32_w];rfl
         refine pure_ (i:=17) (N:=some 34) (v:=undef) (a':=?_) #[true,true,true,true,true,true,true,true,true,true,true,true,true,true,true,true,true,true,false,false,false,false,false] rfl rfl (any_of HT_.out xk') (fun _ _ _ h=>h) (Or.inr ⟨by rfl,rfl⟩) ?_ ?_
         rotate_left
         ·
          simp only[Act.put,sa',sb',sc',i64_w,i32_w];rfl
         refine pure_ (i:=18) (N:=some 35) (v:=undef) (a':=?_) #[true,true,true,true,true,true,true,true,true,true,true,true,true,true,true,true,true,true,true,false,false,false,false] rfl rfl (any_of HT_.out xk') (fun _ _ _ h=>h) (Or.inr ⟨by rfl,rfl⟩) ?_ ?_
         rotate_left
         ·
          simp only[Act.put,sa',sb',sc',i64_w,i32_w];rfl
         refine pure_ (i:=19) (N:=some 36) (v:=undef) (a':=?_) #[true,true,true,true,true,true,true,true,true,true,true,true,true,true,true,true,true,true,true,true,false,false,false] rfl rfl (any_of HT_.out xk') (fun _ _ _ h=>h) (Or.inr ⟨by rfl,rfl⟩) ?_ ?_
         rotate_left
         ·
          simp only[Act.put,sa',sb',sc',i64_w,i32_w];rfl
         refine pure_ (i:=20) (N:=some 37) (v:=?_) (a':=?_) #[true,true,true,true,true,true,true,true,true,true,true,true,true,true,true,true,true,true,true,true,true,false,false] rfl rfl (any_of HT_.out xk') (fun _ _ _ h=>h) (Or.inl ⟨by rfl,?_⟩) ?_ ?_
         rotate_left
         ·
          intro w';go_simp;with_reducible rfl
         rotate_left
         ·
          simp only[Act.put,sa',sb',sc',i64_w,i32_w];rfl
         refine pure_ (i:=21) (N:=some 38) (v:=?_) (a':=?_) #[true,true,true,true,true,true,true,true,true,true,true,true,true,true,true,true,true,true,true,true,true,true,false] rfl rfl (any_of HT_.out xk') (fun _ _ _ h=>h) (Or.inl ⟨by rfl,?_⟩) ?_ ?_
         rotate_left
         ·
          intro w';go_simp;with_reducible rfl
         rotate_left
         ·
          simp only[Act.put,sa',sb',sc',i64_w,i32_w];rfl
         refine pure_ (i:=22) (N:=some 8) (v:=?_) (a':=?_) #[true,true,true,true,true,true,true,true,true,true,true,true,true,true,true,true,true,true,true,true,true,true,true] rfl rfl (any_of HT_.out xk') (fun _ _ _ h=>h) (Or.inl ⟨by rfl,?_⟩) ?_ ?_
         rotate_left
         ·
          intro w';go_simp;with_reducible rfl
         rotate_left
         ·
          simp only[Act.put,sa',sb',sc',i64_w,i32_w];rfl
         refine done_ (done_of HT_.out xk') ?_
         try go_wp2
         go_ret
         exact ⟨by first|rfl|(simp[errW_none,errW_some] <;> rfl)|(simp[*,errW_none,errW_some] <;> rfl),y2' GE253.out GE254.out⟩
        ·
         rw[if_neg c18] at H;have c18b0:((rdOf false l1_0 (rd l2 0)) != (rdOf false l1_0 (rd l3 0)))=false:=by simpa using c18
         (try (have c18b1:decide ((rdOf false l1_0 (rd l2 0))=(rdOf false l1_0 (rd l3 0)))=true:=by simpa using c18))
         (try (have c18b2:((rdOf false l1_0 (rd l2 0)) == (rdOf false l1_0 (rd l3 0)))=true:=by simpa using c18))
         clear c18;replace H:=Option.bind_eq_some_iff.mp H;obtain ⟨t260,A240,H⟩:=H;replace H:(some (decide (t260 > 1)))=some r:=H;have A24:=am' A240;clear A240;obtain rfl:=os' H;go_enter Try.func79,Try.ntmps79
         try go_wp2_with (first|((with_reducible refine gate_dst (N:=4) rfl ?_);refine box_event ?hg (N:=4) ?hd (cs:=#[.slice A0_0 l0_0.length c0_0, .int .i64 a0_1, .int .i64 a0_2]) (t:=35) ?hr ?_;(case hd=>rfl);(case hg=>rfl);(case hr=>first|(go_simp;done)|(go_simp;rfl));intro gb253 hg w25 hbox hb;have n0_:=am' (bt' xb' hb);have n1_:=am' (hbox);have n2_:=am' ((by rw[hg];exact (bz' xb'):w.heap.size≤gb253));have n3_:=am' ((by rw[hg];exact (bz' xb'):w.heap.size≤gb253));clear HB;have HB:=n0_;have BK253:=n1_;have GW253:=n2_;have GE253:=n3_;clear n0_ n1_ n2_ n3_;clear hb hbox hg)|((with_reducible refine gate_dst (N:=5) rfl ?_);refine box_event ?hg (N:=5) ?hd (cs:=#[.slice A1_0 l1_0.length c1_0, .int .i64 a1_1]) (t:=32) ?hr ?_;(case hd=>rfl);(case hg=>rfl);(case hr=>first|(go_simp;done)|(go_simp;rfl));intro gb254 hg w26 hbox hb;have n0_:=am' (bb' (g:=gb253) (o := .cells #[.slice A0_0 l0_0.length c0_0, .int .i64 a0_1, .int .i64 a0_2] 35 (0,0)) (kk' BK253.out) hb);have n1_:=am' (bt' (yb' GE253.out) hb);have n2_:=am' (hbox);have n3_:=am' ((by rw[hg];exact (bz' (yb' GE253.out)):w.heap.size≤gb254));have n4_:=am' ((by rw[hg];exact (bz' (yb' GE253.out)):w.heap.size≤gb254));have n5_:=am' ((by rw[hg];exact Nat.ne_of_lt (blk_lt (g:=gb253) (o := .cells #[.slice A0_0 l0_0.length c0_0, .int .i64 a0_1, .int .i64 a0_2] 35 (0,0)) (kk' BK253.out)):gb253≠gb254));have n6_:=am' ((by rw[hg];exact Nat.ne_of_gt (blk_lt (g:=gb253) (o := .cells #[.slice A0_0 l0_0.length c0_0, .int .i64 a0_1, .int .i64 a0_2] 35 (0,0)) (kk' BK253.out)):gb254≠gb253));clear BK253;clear HB;have BK253:=n0_;have HB:=n1_;have BK254:=n2_;have GW254:=n3_;have GE254:=n4_;have NB253_254:=n5_;have NB254_253:=n6_;clear n0_ n1_ n2_ n3_ n4_ n5_ n6_;clear hb hbox hg))
         have n0_:=am' (kd' BK253.out);have n1_:=am' (kd' BK254.out);have n2_:=am' (be' HB.out);clear BK253;clear BK254;clear HB;have BK253:=n0_;have BK254:=n1_;have HB:=n2_;clear n0_ n1_ n2_;have p255:0≤(0:Int):=(by omega)
         have q255:0 < (l2.length:Int):=od' xa';obtain ⟨ad255,e255,hx255_0⟩:=Kd.at_int HR2.out 0 p255 q255;have hw255_0:=hx255_0;(try rw [show ((0:Int)).toNat=0 from rfl] at hw255_0)
         (try rw [show 0 * 1=0 from rfl] at hw255_0)
         (try rw [Addr.add_zero'] at hw255_0)
         cases e255
         have qi255:(0 < l2.length)=True:=eq_true (by omega)
         (try rw [show ((0:Int)).toNat=0 from rfl] at hx255_0)
         (try rw [Addr.add_zero'] at hx255_0)
         replace hx255_0:=(HB.out.cell (bl' w _ hx255_0)).trans hx255_0;replace p255:=eq_true p255;replace q255:=eq_true q255;have p256:0≤((rd l2 0):Int):=od' xa';have q256:(rd l2 0) < (l1_0.length:Int):=od' xa';obtain ⟨ad256,e256,hx256_0⟩:=Kd.at_bool HR1_0.out (rd l2 0) p256 q256;have hw256_0:=hx256_0;cases e256;replace hx256_0:=(HB.out.cell (bl' w _ hx256_0)).trans hx256_0;replace p256:=eq_true p256;replace q256:=eq_true q256;refine start_ (n:=8) (S:=fun w'=>w'.cell? ⟨gb254,0,none⟩=some (.slice (some ad256) l1_0.length c1_0)∧w'.cell? ⟨gb254,1,none⟩=some (.int .i64 a1_1)∧w'.cell? ad255=some (.int .i64 (rd l2 0))∧w'.cell? (ad256.add ((rd l2 0)).toNat)=some (.bool (rdOf false l1_0 (rd l2 0)))) (ds:=[]) #[false,false,false,false,false,false,false,false] xk' rfl rfl ⟨(bc' BK254.out 0).trans rfl,(bc' BK254.out 1).trans rfl,((HB.out.cell (bl' w _ hw255_0)).trans hw255_0),((HB.out.cell (bl' w _ hw256_0)).trans hw256_0)⟩ (fun hHeld=>?_);refine with_tabW impl_Night_together.tab1 impl_Night_together.bits1 (fun HT_ HW_=>?_);generalize w26.drew=w27 at BK253 BK254 HB hx255_0 hx256_0 hHeld ⊢
         refine pure_ (i:=0) (N:=some 10) (v:=?_) (a':=?_) #[true,false,false,false,false,false,false,false] rfl rfl (any_of HT_.out xk') (fun _ _ _ h=>h) (Or.inl ⟨by rfl,?_⟩) ?_ ?_
         rotate_left
         ·
          intro w';go_simp;with_reducible rfl
         rotate_left
         ·
          simp only[Act.put,sa',sb',sc',i64_w,i32_w];rfl
         refine pure_ (i:=2) (N:=some 12) (v:=?_) (a':=?_) #[true,false,true,false,false,false,false,false] rfl rfl (any_of HT_.out xk') (fun _ _ _ h=>h) (Or.inl ⟨by rfl,?_⟩) ?_ ?_
         rotate_left
         ·
          intro w';go_simp;with_reducible rfl
         rotate_left
         ·
          simp only[Act.put,sa',sb',sc',i64_w,i32_w];rfl
         refine pure_ (i:=3) (N:=some 13) (v:=?_) (a':=?_) #[true,false,true,true,false,false,false,false] rfl rfl (any_of HT_.out xk') (fun _ _ _ h=>h) (Or.inl ⟨by rfl,?_⟩) ?_ ?_
         rotate_left
         ·
          intro w';go_simp;with_reducible rfl
         rotate_left
         ·
          simp only[Act.put,sa',sb',sc',i64_w,i32_w];rfl
         refine take_ (i:=1) (N:=some 11) (v:=?_) (a':=?_) #[true,true,true,true,false,false,false,false] rfl rfl (take_ofW HT_.out HW_.out xk') (fun _ _ _ h=>h) (Or.inl ⟨by rfl,?_⟩) hHeld ?_ ?_
         rotate_left
         ·
          rintro w' ⟨s0,s1,s2,s3⟩
          go_simp;with_reducible rfl
         rotate_left
         ·
          simp only[Act.put,sa',sb',sc',i64_w,i32_w];rfl
         refine take_ (i:=4) (N:=some 14) (v:=?_) (a':=?_) #[true,true,true,true,true,false,false,false] rfl rfl (take_ofW HT_.out HW_.out xk') (fun _ _ _ h=>h) (Or.inl ⟨by rfl,?_⟩) hHeld ?_ ?_
         rotate_left
         ·
          rintro w' ⟨s0,s1,s2,s3⟩
          go_simp;with_reducible rfl
         rotate_left
         ·
          simp only[Act.put,sa',sb',sc',i64_w,i32_w];rfl
         refine pure_ (i:=5) (N:=some 15) (v:=?_) (a':=?_) #[true,true,true,true,true,true,false,false] rfl rfl (any_of HT_.out xk') (fun _ _ _ h=>h) (Or.inl ⟨by rfl,?_⟩) ?_ ?_
         rotate_left
         ·
          intro w';go_simp;with_reducible rfl
         rotate_left
         ·
          simp only[Act.put,sa',sb',sc',i64_w,i32_w];rfl
         refine take_ (i:=6) (N:=some 16) (v:=?_) (a':=?_) #[true,true,true,true,true,true,true,false] rfl rfl (take_ofW HT_.out HW_.out xk') (fun _ _ _ h=>h) (Or.inl ⟨by rfl,?_⟩) hHeld ?_ ?_
         rotate_left
         ·
          rintro w' ⟨s0,s1,s2,s3⟩
          go_simp;with_reducible rfl
         rotate_left
         ·
          simp only[Act.put,sa',sb',sc',i64_w,i32_w];rfl
         refine pure_ (i:=7) (N:=some 9) (v:=?_) (a':=?_) #[true,true,true,true,true,true,true,true] rfl rfl (any_of HT_.out xk') (fun _ _ _ h=>h) (Or.inl ⟨by rfl,?_⟩) ?_ ?_
         rotate_left
         ·
          intro w';go_simp;with_reducible rfl
         rotate_left
         ·
          simp only[Act.put,sa',sb',sc',i64_w,i32_w];rfl
         refine done_ (done_of HT_.out xk') ?_
         try go_wp2
         have n0_:=am' (kd' BK253.out);have n1_:=am' (kd' BK254.out);have n2_:=am' (be' HB.out);clear BK253;clear BK254;clear HB;have BK253:=n0_;have BK254:=n1_;have HB:=n2_;clear n0_ n1_ n2_;have p258:0≤(0:Int):=(by omega)
         have q258:0 < (l3.length:Int):=od' xa';obtain ⟨ad258,e258,hx258_0⟩:=Kd.at_int HR3.out 0 p258 q258;have hw258_0:=hx258_0;(try rw [show ((0:Int)).toNat=0 from rfl] at hw258_0)
         (try rw [show 0 * 1=0 from rfl] at hw258_0)
         (try rw [Addr.add_zero'] at hw258_0)
         cases e258
         have qi258:(0 < l3.length)=True:=eq_true (by omega)
         (try rw [show ((0:Int)).toNat=0 from rfl] at hx258_0)
         (try rw [Addr.add_zero'] at hx258_0)
         replace hx258_0:=(HB.out.cell (bl' w _ hx258_0)).trans hx258_0;replace p258:=eq_true p258;replace q258:=eq_true q258;have p259:0≤((rd l3 0):Int):=od' xa';have q259:(rd l3 0) < (l1_0.length:Int):=od' xa';obtain ⟨ad259,e259,hx259_0⟩:=Kd.at_bool HR1_0.out (rd l3 0) p259 q259;have hw259_0:=hx259_0;obtain rfl:ad256=ad259:=(by injection e259)
         replace hx259_0:=(HB.out.cell (bl' w _ hx259_0)).trans hx259_0;replace p259:=eq_true p259;replace q259:=eq_true q259;refine start_ (n:=23) (S:=fun w'=>w'.cell? ⟨gb254,0,none⟩=some (.slice (some ad256) l1_0.length c1_0)∧w'.cell? ⟨gb254,1,none⟩=some (.int .i64 a1_1)∧w'.cell? ⟨gb253,0,none⟩=some (.slice A0_0 l0_0.length c0_0)∧w'.cell? ⟨gb253,1,none⟩=some (.int .i64 a0_1)∧w'.cell? ⟨gb253,2,none⟩=some (.int .i64 a0_2)∧w'.cell? ad258=some (.int .i64 (rd l3 0))∧w'.cell? (ad256.add ((rd l3 0)).toNat)=some (.bool (rdOf false l1_0 (rd l3 0)))) (ds:=[]) #[false,false,false,false,false,false,false,false,false,false,false,false,false,false,false,false,false,false,false,false,false,false,false] xk' rfl rfl ⟨(bc' BK254.out 0).trans rfl,(bc' BK254.out 1).trans rfl,(bc' BK253.out 0).trans rfl,(bc' BK253.out 1).trans rfl,(bc' BK253.out 2).trans rfl,((HB.out.cell (bl' w _ hw258_0)).trans hw258_0),((HB.out.cell (bl' w _ hw259_0)).trans hw259_0)⟩ (fun hHeld=>?_);refine with_tabW impl_Night_together.tab2 impl_Night_together.bits2 (fun HT_ HW_=>?_);generalize w27.drew=w28 at BK253 BK254 HB hx258_0 hx259_0 hHeld ⊢
         refine pure_ (i:=0) (N:=some 17) (v:=?_) (a':=?_) #[true,false,false,false,false,false,false,false,false,false,false,false,false,false,false,false,false,false,false,false,false,false,false] rfl rfl (any_of HT_.out xk') (fun _ _ _ h=>h) (Or.inl ⟨by rfl,?_⟩) ?_ ?_
         rotate_left
         ·
          intro w';go_simp;with_reducible rfl
         rotate_left
         ·
          simp only[Act.put,sa',sb',sc',i64_w,i32_w];rfl
         refine pure_ (i:=1) (N:=some 18) (v:=?_) (a':=?_) #[true,true,false,false,false,false,false,false,false,false,false,false,false,false,false,false,false,false,false,false,false,false,false] rfl rfl (any_of HT_.out xk') (fun _ _ _ h=>h) (Or.inl ⟨by rfl,?_⟩) ?_ ?_
         rotate_left
         ·
          intro w';go_simp;with_reducible rfl
         rotate_left
         ·
          simp only[Act.put,sa',sb',sc',i64_w,i32_w];rfl
         refine one_ (i:=2) (N:=some 19) #[true,true,true,false,false,false,false,false,false,false,false,false,false,false,false,false,false,false,false,false,false,false,false] rfl rfl (one_of HT_.out xk') (by decide) (fun K hK=>?_);refine goes_ Try.func93 xk' rfl #[.slice (some ad255) l2.length c2, .slice (some ad258) l3.length c3] (by rfl) rfl rfl xl' ?_
         with_reducible refine (impl_share.calls _ _ l2 _ _ l3 false _ ?side1 ?side2 ?side3 ?side4 A8.out).mono ?_
         (case side1=>exact kc' (cb' HR2.out HB.out))
         (case side2=>exact HC2.out)
         (case side3=>exact kc' (cb' HR3.out HB.out))
         (case side4=>exact HC3.out)
         rintro e w29 ⟨rfl,hb⟩
         refine ⟨_,rfl,?_⟩;have n0_:=am' (bb' (g:=gb253) (o := .cells #[.slice A0_0 l0_0.length c0_0, .int .i64 a0_1, .int .i64 a0_2] 35 (0,0)) (kk' BK253.out) hb);have n1_:=am' (bb' (g:=gb254) (o := .cells #[.slice (some ad256) l1_0.length c1_0, .int .i64 a1_1] 32 (0,0)) (kk' BK254.out) hb);have n2_:=am' (bt' (y2' GE253.out GE254.out) hb);clear BK253;clear BK254;clear HB;have BK253:=n0_;have BK254:=n1_;have HB:=n2_;clear n0_ n1_ n2_;(try clear hb)
         (try clear hb2)
         (try clear hk)
         (try clear hi)
         refine hK.out _ _ ⟨(bc' BK254.out 0).trans rfl,(bc' BK254.out 1).trans rfl,(bc' BK253.out 0).trans rfl,(bc' BK253.out 1).trans rfl,(bc' BK253.out 2).trans rfl,((HB.out.cell (bl' w _ hw258_0)).trans hw258_0),((HB.out.cell (bl' w _ hw259_0)).trans hw259_0)⟩ (fun hHeld=>?_);clear hK K;refine norm_ (a':=?_) ?_ ?_
         rotate_left
         ·
          show Act.put _ (some 19) _=_
          simp only[Act.put,sa',sb',sc',i64_w,i32_w];rfl
         refine pure_ (i:=3) (N:=some 20) (v:=?_) (a':=?_) #[true,true,true,true,false,false,false,false,false,false,false,false,false,false,false,false,false,false,false,false,false,false,false] rfl rfl (any_of HT_.out xk') (fun _ _ _ h=>h) (Or.inl ⟨by rfl,?_⟩) ?_ ?_
         rotate_left
         ·
          intro w';go_simp;with_reducible rfl
         rotate_left
         ·
          simp only[Act.put,sa',sb',sc',i64_w,i32_w];rfl
         refine pure_ (i:=4) (N:=some 21) (v:=?_) (a':=?_) #[true,true,true,true,true,false,false,false,false,false,false,false,false,false,false,false,false,false,false,false,false,false,false] rfl rfl (any_of HT_.out xk') (fun _ _ _ h=>h) (Or.inl ⟨by rfl,?_⟩) ?_ ?_
         rotate_left
         ·
          intro w';go_simp;with_reducible rfl
         rotate_left
         ·
          simp only[Act.put,sa',sb',sc',i64_w,i32_w];rfl
         refine pure_ (i:=5) (N:=some 22) (v:=?_) (a':=?_) #[true,true,true,true,true,true,false,false,false,false,false,false,false,false,false,false,false,false,false,false,false,false,false] rfl rfl (any_of HT_.out xk') (fun _ _ _ h=>h) (Or.inl ⟨by rfl,?_⟩) ?_ ?_
         rotate_left
         ·
          intro w';go_simp;with_reducible rfl
         rotate_left
         ·
          simp only[Act.put,sa',sb',sc',i64_w,i32_w];rfl
         refine pure_ (i:=6) (N:=some 23) (v:=?_) (a':=?_) #[true,true,true,true,true,true,true,false,false,false,false,false,false,false,false,false,false,false,false,false,false,false,false] rfl rfl (any_of HT_.out xk') (fun _ _ _ h=>h) (Or.inl ⟨by rfl,?_⟩) ?_ ?_
         rotate_left
         ·
          intro w';go_simp;with_reducible rfl
         rotate_left
         ·
          simp only[Act.put,sa',sb',sc',i64_w,i32_w];rfl
         refine pure_ (i:=8) (N:=some 25) (v:=?_) (a':=?_) #[true,true,true,true,true,true,true,false,true,false,false,false,false,false,false,false,false,false,false,false,false,false,false] rfl rfl (any_of HT_.out xk') (fun _ _ _ h=>h) (Or.inl ⟨by rfl,?_⟩) ?_ ?_
         rotate_left
         ·
          intro w';go_simp;with_reducible rfl
         rotate_left
         ·
          simp only[Act.put,sa',sb',sc',i64_w,i32_w];rfl
         refine pure_ (i:=9) (N:=some 26) (v:=?_) (a':=?_) #[true,true,true,true,true,true,true,false,true,true,false,false,false,false,false,false,false,false,false,false,false,false,false] rfl rfl (any_of HT_.out xk') (fun _ _ _ h=>h) (Or.inl ⟨by rfl,?_⟩) ?_ ?_
         rotate_left
         ·
          intro w';go_simp;with_reducible rfl
         rotate_left
         ·
          simp only[Act.put,sa',sb',sc',i64_w,i32_w];rfl
         refine take_ (i:=7) (N:=some 24) (v:=?_) (a':=?_) #[true,true,true,true,true,true,true,true,true,true,false,false,false,false,false,false,false,false,false,false,false,false,false] rfl rfl (take_ofW HT_.out HW_.out xk') (fun _ _ _ h=>h) (Or.inl ⟨by rfl,?_⟩) hHeld ?_ ?_
         rotate_left
         ·
          rintro w' ⟨s0,s1,s2,s3,s4,s5,s6⟩
          go_simp;with_reducible rfl
         rotate_left
         ·
          simp only[Act.put,sa',sb',sc',i64_w,i32_w];rfl
         refine take_ (i:=10) (N:=some 27) (v:=?_) (a':=?_) #[true,true,true,true,true,true,true,true,true,true,true,false,false,false,false,false,false,false,false,false,false,false,false] rfl rfl (take_ofW HT_.out HW_.out xk') (fun _ _ _ h=>h) (Or.inl ⟨by rfl,?_⟩) hHeld ?_ ?_
         rotate_left
         ·
          rintro w' ⟨s0,s1,s2,s3,s4,s5,s6⟩
          go_simp;with_reducible rfl
         rotate_left
         ·
          simp only[Act.put,sa',sb',sc',i64_w,i32_w];rfl
         refine pure_ (i:=11) (N:=some 28) (v:=?_) (a':=?_) #[true,true,true,true,true,true,true,true,true,true,true,true,false,false,false,false,false,false,false,false,false,false,false] rfl rfl (any_of HT_.out xk') (fun _ _ _ h=>h) (Or.inl ⟨by rfl,?_⟩) ?_ ?_
         rotate_left
         ·
          intro w';go_simp;with_reducible rfl
         rotate_left
         ·
          simp only[Act.put,sa',sb',sc',i64_w,i32_w];rfl
         refine take_ (i:=12) (N:=some 29) (v:=?_) (a':=?_) #[true,true,true,true,true,true,true,true,true,true,true,true,true,false,false,false,false,false,false,false,false,false,false] rfl rfl (take_ofW HT_.out HW_.out xk') (fun _ _ _ h=>h) (Or.inl ⟨by rfl,?_⟩) hHeld ?_ ?_
         rotate_left
         ·
          rintro w' ⟨s0,s1,s2,s3,s4,s5,s6⟩
          go_simp;with_reducible rfl
         rotate_left
         ·
          simp only[Act.put,sa',sb',sc',i64_w,i32_w];rfl
         refine pure_ (i:=13) (N:=some 30) (v:=?_) (a':=?_) #[true,true,true,true,true,true,true,true,true,true,true,true,true,true,false,false,false,false,false,false,false,false,false] rfl rfl (any_of HT_.out xk') (fun _ _ _ h=>h) (Or.inl ⟨by rfl,?_⟩) ?_ ?_
         rotate_left
         ·
          intro w';go_simp;with_reducible rfl
         rotate_left
         ·
          simp only[Act.put,sa',sb',sc',i64_w,i32_w];rfl
         refine pure_ (i:=14) (N:=some 31) (v:=?_) (a':=?_) #[true,true,true,true,true,true,true,true,true,true,true,true,true,true,true,false,false,false,false,false,false,false,false] rfl rfl (any_of HT_.out xk') (fun _ _ _ h=>h) (Or.inl ⟨by rfl,?_⟩) ?_ ?_
         rotate_left
         ·
          intro w';go_simp;with_reducible rfl
         rotate_left
         ·
          simp only[Act.put,sa',sb',sc',i64_w,i32_w];rfl
         refine pure_ (i:=17) (N:=some 34) (v:=?_) (a':=?_) #[true,true,true,true,true,true,true,true,true,true,true,true,true,true,true,false,false,true,false,false,false,false,false] rfl rfl (any_of HT_.out xk') (fun _ _ _ h=>h) (Or.inl ⟨by rfl,?_⟩) ?_ ?_
         rotate_left
         ·
          intro w';go_simp;with_reducible rfl
         rotate_left
         ·
          simp only[Act.put,sa',sb',sc',i64_w,i32_w];rfl
         refine take_ (i:=15) (N:=some 32) (v:=?_) (a':=?_) #[true,true,true,true,true,true,true,true,true,true,true,true,true,true,true,true,false,true,false,false,false,false,false] rfl rfl (take_ofW HT_.out HW_.out xk') (fun _ _ _ h=>h) (Or.inl ⟨by rfl,?_⟩) hHeld ?_ ?_
         rotate_left
         ·
          rintro w' ⟨s0,s1,s2,s3,s4,s5,s6⟩
          go_simp;with_reducible rfl
         rotate_left
         ·
          simp only[Act.put,sa',sb',sc',i64_w,i32_w];rfl
         refine take_ (i:=16) (N:=some 33) (v:=?_) (a':=?_) #[true,true,true,true,true,true,true,true,true,true,true,true,true,true,true,true,true,true,false,false,false,false,false] rfl rfl (take_ofW HT_.out HW_.out xk') (fun _ _ _ h=>h) (Or.inl ⟨by rfl,?_⟩) hHeld ?_ ?_
         rotate_left
         ·
          rintro w' ⟨s0,s1,s2,s3,s4,s5,s6⟩
          go_simp;with_reducible rfl
         rotate_left
         ·
          simp only[Act.put,sa',sb',sc',i64_w,i32_w];rfl
         refine one_ (i:=18) (N:=some 35) #[true,true,true,true,true,true,true,true,true,true,true,true,true,true,true,true,true,true,true,false,false,false,false] rfl rfl (one_of HT_.out xk') (by decide) (fun K hK=>?_);refine goes_ Try.func76 xk' rfl #[.agg #[.slice A0_0 l0_0.length c0_0, .int .i64 a0_1, .int .i64 a0_2], .agg #[.slice (some ad256) l1_0.length c1_0, .int .i64 a1_1], .bool (rdOf false l1_0 (rd l2 0))] (by rfl) rfl rfl xl' ?_
         with_reducible refine (impl_Night_torches.calls _ _ l0_0 a0_1 a0_2 _ _ l1_0 a1_1 (rdOf false l1_0 (rd l2 0)) t260 _ ?side1 ?side2 ?side3 ?side4 A24.out).mono ?_
         (case side1=>exact kc' (cb' HR0_0.out HB.out))
         (case side2=>exact HC0_0.out)
         (case side3=>exact kc' (cb' HR1_0.out HB.out))
         (case side4=>exact HC1_0.out)
         rintro e w30 ⟨rfl,hb⟩
         refine ⟨_,rfl,?_⟩;have n0_:=am' (bb' (g:=gb253) (o := .cells #[.slice A0_0 l0_0.length c0_0, .int .i64 a0_1, .int .i64 a0_2] 35 (0,0)) (kk' BK253.out) hb);have n1_:=am' (bb' (g:=gb254) (o := .cells #[.slice (some ad256) l1_0.length c1_0, .int .i64 a1_1] 32 (0,0)) (kk' BK254.out) hb);have n2_:=am' (bt' (y2' GE253.out GE254.out) hb);clear BK253;clear BK254;clear HB;have BK253:=n0_;have BK254:=n1_;have HB:=n2_;clear n0_ n1_ n2_;(try clear hb)
         (try clear hb2)
         (try clear hk)
         (try clear hi)
         refine hK.out _ _ ⟨(bc' BK254.out 0).trans rfl,(bc' BK254.out 1).trans rfl,(bc' BK253.out 0).trans rfl,(bc' BK253.out 1).trans rfl,(bc' BK253.out 2).trans rfl,((HB.out.cell (bl' w _ hw258_0)).trans hw258_0),((HB.out.cell (bl' w _ hw259_0)).trans hw259_0)⟩ (fun hHeld=>?_);clear hK K;refine norm_ (a':=?_) ?_ ?_
         rotate_left
         ·
          show Act.put _ (some 35) _=_
          simp only[Act.put,sa',sb',sc',i64_w,i32_w];rfl
         refine pure_ (i:=19) (N:=some 36) (v:=?_) (a':=?_) #[true,true,true,true,true,true,true,true,true,true,true,true,true,true,true,true,true,true,true,true,false,false,false] rfl rfl (any_of HT_.out xk') (fun _ _ _ h=>h) (Or.inl ⟨by rfl,?_⟩) ?_ ?_
         rotate_left
         ·
          intro w';go_simp;with_reducible rfl
         rotate_left
         ·
          simp only[Act.put,sa',sb',sc',i64_w,i32_w];rfl
         refine pure_ (i:=20) (N:=some 37) (v:=?_) (a':=?_) #[true,true,true,true,true,true,true,true,true,true,true,true,true,true,true,true,true,true,true,true,true,false,false] rfl rfl (any_of HT_.out xk') (fun _ _ _ h=>h) (Or.inl ⟨by rfl,?_⟩) ?_ ?_
         rotate_left
         ·
          intro w';go_simp;with_reducible rfl
         rotate_left
         ·
          simp only[Act.put,sa',sb',sc',i64_w,i32_w];rfl
         refine pure_ (i:=21) (N:=some 38) (v:=?_) (a':=?_) #[true,true,true,true,true,true,true,true,true,true,true,true,true,true,true,true,true,true,true,true,true,true,false] rfl rfl (any_of HT_.out xk') (fun _ _ _ h=>h) (Or.inl ⟨by rfl,?_⟩) ?_ ?_
         rotate_left
         ·
          intro w';go_simp;with_reducible rfl
         rotate_left
         ·
          simp only[Act.put,sa',sb',sc',i64_w,i32_w];rfl
         refine pure_ (i:=22) (N:=some 8) (v:=?_) (a':=?_) #[true,true,true,true,true,true,true,true,true,true,true,true,true,true,true,true,true,true,true,true,true,true,true] rfl rfl (any_of HT_.out xk') (fun _ _ _ h=>h) (Or.inl ⟨by rfl,?_⟩) ?_ ?_
         rotate_left
         ·
          intro w';go_simp;with_reducible rfl
         rotate_left
         ·
          simp only[Act.put,sa',sb',sc',i64_w,i32_w];rfl
         refine done_ (done_of HT_.out xk') ?_
         try go_wp2
         go_ret
         exact ⟨by first|rfl|(simp[errW_none,errW_some] <;> rfl)|(simp[*,errW_none,errW_some] <;> rfl),y2' GE253.out GE254.out⟩
       ·
        rw[if_neg c17] at H;exact absurd H (by simp)
      ·
       rw[if_neg c16] at H;exact absurd H (by simp)
     ·
      rw[if_neg c15] at H;exact absurd H (by simp)
   ·
    rw[if_neg c7] at H;exact absurd H (by simp)
  ·
   rw[if_neg c6] at H;exact absurd H (by simp)
 ·
  rw[if_neg c5] at H;exact absurd H (by simp)
end Go.Proofs.Ytdomojenlofieaa.C2
