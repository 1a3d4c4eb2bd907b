import Derived.Test.YtmfofjloklafoaaC5zx0
import Derived.Test.YtmfofjloklafoaaC5zx5
import Derived.Test.YtmfofjloklafoaaC5zx8
import Derived.Test.YtmfofjloklafoaaC5zx9
import Derived.Test.YtmfofjloklafoaaC5zAl
namespace Go.Proofs.Ytmfofjloklafoaa.C5
open Go.RowKit Go.Proofs.YtmfofjloklafoaaW.PrintWords Go.Proofs.YtmfofjloklafoaaW.PrintLast Go.Proofs.YtmfofjloklafoaaW.PrintMore Go.Proofs.Ytmfofjloklafoaa.H
attribute [local go_sem] max2_int min2_int max_two min_two max_three min_three max_four min_four
set_option linter.unusedVariables false
set_option linter.unusedSimpArgs false
mutual
def spec_keFar.l0:Nat→List Int→List Int→Int→Int→Int→List (List Int)→Int→Option (List Int × List Int)
 | 0,_,_,_,_,_,_,_=>none
 | k+1,x4,x5,x23,x24,x262000,x262001,x262002=>if x24 < x23 then (if 0≤x24 then (if x24 < (x4.length:Int) then (spec_keFar.l0 k (x4.set (x24:Int).toNat (-1)) x5 x23 (wrap64 (x24+1)) x262000 x262001 x262002) else (none)) else (none)) else ((spec_keEnd.f k x262000 x262001 x262002).bind fun bt269=>((spec_keIndex.f k bt269.1 bt269.2).bind fun t273=>(if 0≤t273 then (if t273 < (x4.length:Int) then (if t273 < (x5.length:Int) then (spec_keFar.l1 k (x4.set (t273:Int).toNat 0) (x5.set (t273:Int).toNat 1) (([t273]:List Int)) 0 x262000 x262001 x262002) else (none)) else (none)) else (none))))
def spec_keFar.l1:Nat→List Int→List Int→List Int→Int→Int→List (List Int)→Int→Option (List Int × List Int)
 | 0,_,_,_,_,_,_,_=>none
 | k+1,x4,x5,x8,x9,x262000,x262001,x262002=>if x9 < (x8.length:Int) then (if 0≤x9 then ((spec_keBank.f k (rd x8 x9) x262000).bind fun bt280=>((spec_keRides.f k x262000 x262001 x262002 bt280.1 bt280.2).bind fun t285=>(spec_keFar.l2 k x4 x5 x8 x9 t285 (t285.length:Int) 0 x262000 x262001 x262002 bt280.1 bt280.2))) else (none)) else (some (x4,x5))
def spec_keFar.l2:Nat→List Int→List Int→List Int→Int→List (List Int)→Int→Int→Int→List (List Int)→Int→List Bool→Bool→Option (List Int × List Int)
 | 0,_,_,_,_,_,_,_,_,_,_,_,_=>none
 | k+1,x4,x5,x8,x9,x57,x58,x59,x262000,x262001,x262002,x285000,x285001=>if x59 < x58 then (if 0≤x59 then (if x59 < (x57.length:Int) then ((spec_keRide.f k x285000 x285001 (rd_L1 x57 x59)).bind fun bt289=>((spec_keIndex.f k bt289.1 bt289.2).bind fun t293=>(if 0≤t293 then (if t293 < (x4.length:Int) then (if (rd x4 t293) < 0 then (if 0≤x9 then (if x9 < (x8.length:Int) then (if 0≤(rd x8 x9) then (if (rd x8 x9) < (x4.length:Int) then ((some (x4.set (t293:Int).toNat (wrap64 ((rd x4 (rd x8 x9))+1)):List Int)).bind fun y297=>(if x8.length < 17592186044416 then ((some (x8 ++ [t293]:List Int)).bind fun y298=>(if x9 < (y298.length:Int) then (if 0≤(rd y298 x9) then (if (rd y298 x9) < (x4.length:Int) then (if (rd y297 t293)=(wrap64 ((rd y297 (rd y298 x9))+1)) then (if t293 < (x5.length:Int) then (if (rd y298 x9) < (x5.length:Int) then (spec_keFar.l2 k y297 (x5.set (t293:Int).toNat (wrap64 ((rd x5 t293)+(rd x5 (rd y298 x9))))) y298 x9 x57 x58 (wrap64 (x59+1)) x262000 x262001 x262002 x285000 x285001) else (none)) else (none)) else (spec_keFar.l2 k y297 x5 y298 x9 x57 x58 (wrap64 (x59+1)) x262000 x262001 x262002 x285000 x285001)) else (none)) else (none)) else (none))) else (none))) else (none)) else (none)) else (none)) else (none)) else (if 0≤x9 then (if x9 < (x8.length:Int) then (if 0≤(rd x8 x9) then (if (rd x8 x9) < (x4.length:Int) then (if (rd x4 t293)=(wrap64 ((rd x4 (rd x8 x9))+1)) then (if t293 < (x5.length:Int) then (if (rd x8 x9) < (x5.length:Int) then (spec_keFar.l2 k x4 (x5.set (t293:Int).toNat (wrap64 ((rd x5 t293)+(rd x5 (rd x8 x9))))) x8 x9 x57 x58 (wrap64 (x59+1)) x262000 x262001 x262002 x285000 x285001) else (none)) else (none)) else (spec_keFar.l2 k x4 x5 x8 x9 x57 x58 (wrap64 (x59+1)) x262000 x262001 x262002 x285000 x285001)) else (none)) else (none)) else (none)) else (none))) else (none)) else (none)))) else (none)) else (none)) else (spec_keFar.l1 k x4 x5 x8 (wrap64 (x9+1)) x262000 x262001 x262002)
end
def spec_keFar.f (k:Nat) (a0_0:Int) (l0_1:List (List Int)) (a0_2:Int):Option (List Int × List Int):=if 0≤a0_0 then (if 0≤(shl .i64 2 a0_0) then (if (shl .i64 2 a0_0:Int).toNat≤35184372088832 then ((some (List.replicate (shl .i64 2 a0_0:Int).toNat 0:List Int)).bind fun y262=>(spec_keFar.l0 k y262 (List.replicate (shl .i64 2 a0_0:Int).toNat 0) (y262.length:Int) 0 a0_0 l0_1 a0_2)) else (none)) else (none)) else (none)
def spec_keFar.T1:Bool × List (List Nat × List Nat):=(true,[([],[]),([0],[0]),([1],[1]),([2,2],[2]),([],[]),([4],[4]),([5],[5]),([6,6],[6]),([3,0,1,2,3],[3]),([7,8,0,1,2,3,4,5,6,7,8],[7])])
def spec_keFar.B1:List Nat:=[0,1,3,7,0,16,48,112,15,511]
theorem spec_keFar.tab1:rtab .any (opsOf Try.f69 1)=spec_keFar.T1:=by kernel_rfl
theorem spec_keFar.bits1:waitsOk spec_keFar.T1.2 spec_keFar.B1=true:=by kernel_rfl
def spec_keFar.T14:Bool × List (List Nat × List Nat):=(true,[([],[]),([],[]),([0,1],[0,1]),([2],[2]),([],[]),([4],[4]),([3,5],[3,5]),([],[]),([7,6,6,0,1,2,3,4,5,6,7],[6,7])])
def spec_keFar.B14:List Nat:=[0,0,3,7,0,16,63,0,255]
theorem spec_keFar.tab14:rtab .any (opsOf Try.f69 14)=spec_keFar.T14:=by kernel_rfl
theorem spec_keFar.bits14:waitsOk spec_keFar.T14.2 spec_keFar.B14=true:=by kernel_rfl
def spec_keFar.T22:Bool × List (List Nat × List Nat):=(true,[([],[]),([],[]),([0,1],[0,1]),([2],[2]),([],[]),([],[]),([],[]),([5,6],[5,6]),([7],[7]),([4,8],[4,8]),([9],[9]),([10],[10]),([3,11],[3,11])])
def spec_keFar.B22:List Nat:=[0,0,3,7,0,0,0,96,224,496,1008,2032,4095]
theorem spec_keFar.tab22:rtab .any (opsOf Try.f69 22)=spec_keFar.T22:=by kernel_rfl
theorem spec_keFar.bits22:waitsOk spec_keFar.T22.2 spec_keFar.B22=true:=by kernel_rfl
def spec_keFar.T23:Bool × List (List Nat × List Nat):=(true,[([],[]),([],[]),([0,1],[0,1]),([2],[2]),([],[]),([],[]),([],[]),([5,6],[5,6]),([7],[7]),([4,8],[4,8]),([9],[9]),([3,10],[3,10]),([0,1,0,1,2,3,4,5,6,7,8,9,10,11],[0,1]),([12,11,0,1,2,3,4,5,6,7,8,9,10,11],[11,12])])
def spec_keFar.B23:List Nat:=[0,0,3,7,0,0,0,96,224,496,1008,2047,4095,8191]
theorem spec_keFar.tab23:rtab .any (opsOf Try.f69 23)=spec_keFar.T23:=by kernel_rfl
theorem spec_keFar.bits23:waitsOk spec_keFar.T23.2 spec_keFar.B23=true:=by kernel_rfl
set_option maxHeartbeats 8000000 in
set_option maxRecDepth 100000 in
theorem spec_keFar.calls (k:Nat) (a0_0:Int) (A0_1:Option Addr) (c0_1:Nat) (l0_1:List (List Int)) (a0_2:Int) (r1:List Int) (r2:List Int) (w:World) (hr0_1:Kd.C (Kd.slice 3 (Kd.int .i64)) w A0_1 l0_1.length l0_1) (hc0_1:l0_1.length≤c0_1) (h:spec_keFar.f k a0_0 l0_1 a0_2=some (r1,r2)) :
  Calls Try.prog 69 #[.agg #[.int .i64 a0_0, .slice A0_1 l0_1.length c0_1, .int .i64 a0_2]] w fun e w'=>∃ v0_ v1_:Value,e = .returned (.tuple #[v0_,v1_])∧Kd.R (Kd.int .i64) 3 w' w.heap.size (fun k_=>some k_≠(v1_:Value).ownBlock) v0_ r1∧Kd.R (Kd.int .i64) 3 w' w.heap.size (fun k_=>some k_≠(v0_:Value).ownBlock) v1_ r2∧Below w.heap.size w w':=by
 have hu32:=Try.underlying32
 have hu34:=Try.underlying34
 have HR0_1:=am' hr0_1
 have HC0_1:=am' hc0_1
 clear hr0_1 hc0_1;have HB:=am' (Below.refl w.heap.size w)
 have H:(if 0≤a0_0 then (if 0≤(shl .i64 2 a0_0) then (if (shl .i64 2 a0_0:Int).toNat≤35184372088832 then ((some (List.replicate (shl .i64 2 a0_0:Int).toNat 0:List Int)).bind fun y262=>(spec_keFar.l0 k y262 (List.replicate (shl .i64 2 a0_0:Int).toNat 0) (y262.length:Int) 0 a0_0 l0_1 a0_2)) else (none)) else (none)) else (none))=some (r1,r2):=h
 clear h;by_cases c2:0≤a0_0
 ·
  rw[if_pos c2] at H;have c2b0:=eq_true c2;have c2b1:decide (0≤a0_0)=true:=dt' c2;clear c2;obtain ⟨ji3,hji3⟩:∃ j_:Int,(shl .i64 2 a0_0)=j_:=⟨_,rfl⟩
  replace H:(if 0≤(ji3) then (if (ji3:Int).toNat≤35184372088832 then ((some (List.replicate (ji3:Int).toNat 0:List Int)).bind fun y262=>(spec_keFar.l0 k y262 (List.replicate (ji3:Int).toNat 0) (y262.length:Int) 0 a0_0 l0_1 a0_2)) else (none)) else (none))=some (r1,r2):=by first|(rw[hji3] at H;exact H)|(simp only[hji3] at H ⊢;exact H)
  have hji3_:(IntKind.i64.wrap (2 * 2 ^ min a0_0.toNat 64))=ji3:=hji3;have hji3z:a0_0≤64→(IntKind.i64.wrap (2 * 2 ^ a0_0.toNat))=ji3:=shl_small hji3;have hji3y:(wrap64 (2 * 2 ^ min a0_0.toNat 64))=ji3:=(i64_w _).symm.trans hji3_;have hji3x:a0_0≤64→(wrap64 (2 * 2 ^ a0_0.toNat))=ji3:=fun h_=>(i64_w _).symm.trans (hji3z h_)
  by_cases c4:0≤(ji3)
  ·
   rw[if_pos c4] at H;have c4b0:=eq_true c4;have c4b1:decide (0≤(ji3))=true:=dt' c4;clear c4;by_cases c5:(ji3:Int).toNat≤35184372088832
   ·
    rw[if_pos c5] at H;have c5b0:=eq_true c5;have c5b1:decide ((ji3:Int).toNat≤35184372088832)=true:=dt' c5;clear c5;obtain ⟨y262,hy262⟩:∃ y_:List Int,y_=(List.replicate (ji3:Int).toNat 0):=⟨_,rfl⟩
    replace H:(spec_keFar.l0 k y262 (List.replicate (ji3:Int).toNat 0) (y262.length:Int) 0 a0_0 l0_1 a0_2)=some (r1,r2):=by first|(rw[hy262];with_reducible exact H)|(have H2_:=(Option.bind_some _ _).symm.trans H;rw[hy262];with_reducible exact H2_)|(have H2_:=(Option.bind_some _ _).symm.trans H;with_reducible exact H2_)|with_reducible exact H|(rw[hy262];exact H)|exact H
    have Ny262:=am' hy262;clear hy262;have c6b0:=eq_true (od' xa':0≤a0_0);obtain ⟨y265,hy265⟩:∃ y_:List Int,y_=(List.replicate (ji3:Int).toNat 0):=⟨_,rfl⟩
    replace H:(spec_keFar.l0 k y262 y265 (y262.length:Int) 0 a0_0 l0_1 a0_2)=some (r1,r2):=by first|(rw[hy265];with_reducible exact H)|(have H2_:=(Option.bind_some _ _).symm.trans H;rw[hy265];with_reducible exact H2_)|(have H2_:=(Option.bind_some _ _).symm.trans H;with_reducible exact H2_)|with_reducible exact H|(rw[hy265];exact H)|exact H
    have Ny265:=am' hy265;clear hy265;have H':=am' H;clear H;go_enter Try.func69,Try.ntmps69
    try go_wp2_with (first|((with_reducible refine gate_dst (N:=1) rfl ?_);refine box_event ?hg (N:=1) ?hd (cs:=#[.int .i64 a0_0, .slice A0_1 l0_1.length c0_1, .int .i64 a0_2]) (t:=32) ?hr ?_;(case hd=>rfl);(case hg=>rfl);(case hr=>first|(go_simp;done)|(go_simp;rfl));intro gb261 hg w8 hbox hb;have n0_:=am' (bt' xb' hb);have n1_:=am' (hbox);have n2_:=am' ((by rw[hg];exact (bz' xb'):w.heap.size≤gb261));have n3_:=am' ((by rw[hg];exact (bz' xb'):w.heap.size≤gb261));clear HB;have HB:=n0_;have BK261:=n1_;have GW261:=n2_;have GE261:=n3_;clear n0_ n1_ n2_ n3_;clear hb hbox hg))
    have n0_:=am' (kd' BK261.out);have n1_:=am' (be' HB.out);clear BK261;clear HB;have BK261:=n0_;have HB:=n1_;clear n0_ n1_;refine start_ (n:=10) (S:=fun w'=>w'.cell? ⟨gb261,0,none⟩=some (.int .i64 a0_0)∧w'.cell? ⟨gb261,1,none⟩=some (.slice A0_1 l0_1.length c0_1)∧w'.cell? ⟨gb261,2,none⟩=some (.int .i64 a0_2)) (ds:=[]) #[false,false,false,false,false,false,false,false,false,false] xk' rfl rfl ⟨(bc' BK261.out 0).trans rfl,(bc' BK261.out 1).trans rfl,(bc' BK261.out 2).trans rfl⟩ (fun hHeld=>?_);refine with_tabW spec_keFar.tab1 spec_keFar.bits1 (fun HT_ HW_=>?_);generalize w8.drew=w9 at BK261 HB hHeld ⊢
    refine pure_ (i:=0) (N:=some 14) (v:=?_) (a':=?_) #[true,false,false,false,false,false,false,false,false,false] rfl rfl (any_of HT_.out xk') (fun _ _ _ h=>h) (Or.inl ⟨by rfl,?_⟩) ?_ ?_
    rotate_left
    ·
     intro w';go_simp;with_reducible rfl
    rotate_left
    ·
     simp only[Act.put,sa',sb',sc',i64_w,i32_w];rfl
    refine pure_ (i:=4) (N:=some 18) (v:=?_) (a':=?_) #[true,false,false,false,true,false,false,false,false,false] rfl rfl (any_of HT_.out xk') (fun _ _ _ h=>h) (Or.inl ⟨by rfl,?_⟩) ?_ ?_
    rotate_left
    ·
     intro w';go_simp;with_reducible rfl
    rotate_left
    ·
     simp only[Act.put,sa',sb',sc',i64_w,i32_w];rfl
    refine take_ (i:=1) (N:=some 15) (v:=?_) (a':=?_) #[true,true,false,false,true,false,false,false,false,false] rfl rfl (take_ofW HT_.out HW_.out xk') (fun _ _ _ h=>h) (Or.inl ⟨by rfl,?_⟩) hHeld ?_ ?_
    rotate_left
    ·
     rintro w' ⟨s0,s1,s2⟩
     go_simp;with_reducible rfl
    rotate_left
    ·
     simp only[Act.put,sa',sb',sc',i64_w,i32_w];rfl
    refine pure_ (i:=2) (N:=some 16) (v:=?_) (a':=?_) #[true,true,true,false,true,false,false,false,false,false] rfl rfl (any_of HT_.out xk') (fun _ _ _ h=>h) (Or.inl ⟨by rfl,?_⟩) ?_ ?_
    rotate_left
    ·
     intro w';go_simp;with_reducible rfl
    rotate_left
    ·
     simp only[Act.put,sa',sb',sc',i64_w,i32_w];rfl
    refine take_ (i:=5) (N:=some 19) (v:=?_) (a':=?_) #[true,true,true,false,true,true,false,false,false,false] rfl rfl (take_ofW HT_.out HW_.out xk') (fun _ _ _ h=>h) (Or.inl ⟨by rfl,?_⟩) hHeld ?_ ?_
    rotate_left
    ·
     rintro w' ⟨s0,s1,s2⟩
     go_simp;with_reducible rfl
    rotate_left
    ·
     simp only[Act.put,sa',sb',sc',i64_w,i32_w];rfl
    refine pure_ (i:=6) (N:=some 20) (v:=?_) (a':=?_) #[true,true,true,false,true,true,true,false,false,false] rfl rfl (any_of HT_.out xk') (fun _ _ _ h=>h) (Or.inl ⟨by rfl,?_⟩) ?_ ?_
    rotate_left
    ·
     intro w';go_simp;with_reducible rfl
    rotate_left
    ·
     simp only[Act.put,sa',sb',sc',i64_w,i32_w];rfl
    refine join_ (σ:=Value × Value) 1 #[true,true,true,true,true,true,true,true,true,false] (fun s_=>[(17,s_.1),(21,s_.2),(4,s_.1)]) (fun s_ w'=>(w'.cell? ⟨gb261,0,none⟩=some (.int .i64 a0_0)∧w'.cell? ⟨gb261,1,none⟩=some (.slice A0_1 l0_1.length c0_1)∧w'.cell? ⟨gb261,2,none⟩=some (.int .i64 a0_2))∧(Kd.R (Kd.int .i64) 3 w' w.heap.size (fun k_=>some k_≠(s_.2:Value).ownBlock) s_.1 y262)∧(Kd.R (Kd.int .i64) 3 w' w.heap.size (fun k_=>some k_≠(s_.1:Value).ownBlock) s_.2 y265)∧(w'.heap[gb261]? = some (.cells #[.int .i64 a0_0, .slice A0_1 l0_1.length c0_1, .int .i64 a0_2] 32 (0,0)))∧(Below w.heap.size w w')) ?_ ?_
    rotate_left
    ·
     intro hCont;refine two_ (i:=3) (j:=7) (Ni:=some 17) (Nj:=some 21) #[true,true,true,true,true,true,true,false,false,false] #[true,true,true,false,true,true,true,true,false,false] rfl rfl rfl rfl (two_of HT_.out xk') (by decide) (by decide) (fun K hK=>?_) (fun K hK=>?_)
     ·
      skip
      refine Kd.R_make_step (Kd.int .i64) _ 3 (by rfl) (N:=17) rfl 43 _ _ rfl ji3 rfl rfl Try.underlying43 (.int .i64 0) 8 info3 rfl (by decide) (by omega) 0 (ok:=fun _=>True) (okp:=fun _=>True) rfl (fun _ hk=>hk) trivial (od' xa') (Nat.le_trans (Nat.mul_le_mul_right _ (od' xa':ji3.toNat≤35184372088832)) (by omega)) (Below.refl _ _) (Nat.le_refl _) ?_
      intro v263 w10 ho11 hb hg_ hnew_;clear hg_ hnew_;(first|rw[← Ny262.out] at ho11|(simp only[Int.reduceToNat] at ho11;rw[← Ny262.out] at ho11))
      have n0_:=am' (Kd.R_lower ho11 (bz' (yb' GE261.out)));have n1_:=am' (bb' (g:=gb261) (o := .cells #[.int .i64 a0_0, .slice A0_1 l0_1.length c0_1, .int .i64 a0_2] 32 (0,0)) (kk' BK261.out) hb);have n2_:=am' (bt' (yb' GE261.out) hb);clear BK261;clear HB;have HO264:=n0_;have BK261:=n1_;have HB:=n2_;clear n0_ n1_ n2_;clear hb ho11;refine hK.out _ _ ⟨(bc' BK261.out 0).trans rfl,(bc' BK261.out 1).trans rfl,(bc' BK261.out 2).trans rfl⟩ (fun hHeld=>?_);clear hK K;refine norm_ (a':=?_) ?_ ?_
      rotate_left
      ·
       show Act.put _ (some 17) _=_
       simp only[Act.put,sa',sb',sc',i64_w,i32_w];rfl
      refine pure_ (i:=8) (N:=some 4) (v:=?_) (a':=?_) #[true,true,true,true,true,true,true,false,true,false] rfl rfl (any_of HT_.out xk') (fun _ _ _ h=>h) (Or.inl ⟨by rfl,?_⟩) ?_ ?_
      rotate_left
      ·
       intro w';go_simp;with_reducible rfl
      rotate_left
      ·
       simp only[Act.put,sa',sb',sc',i64_w,i32_w];rfl
      refine one_ (i:=7) (N:=some 21) #[true,true,true,true,true,true,true,true,true,false] rfl rfl (one_of HT_.out xk') (by decide) (fun K hK=>?_);refine Kd.R_make_step (Kd.int .i64) _ 3 (by rfl) (N:=21) rfl 43 _ _ rfl ji3 rfl rfl Try.underlying43 (.int .i64 0) 8 info3 rfl (by decide) (by omega) 0 (ok:=fun _=>True) (okp:=fun _=>True) rfl (fun _ hk=>hk) trivial (od' xa') (Nat.le_trans (Nat.mul_le_mul_right _ (od' xa':ji3.toNat≤35184372088832)) (by omega)) (Below.refl _ _) (Nat.le_refl _) ?_
      intro v266 w12 ho13 hb hg_ hnew_;clear hg_ hnew_;(first|rw[← Ny265.out] at ho13|(simp only[Int.reduceToNat] at ho13;rw[← Ny265.out] at ho13))
      have n0_:=am' (Kd.R_elder' (kr' HO264.out) (Kd.R_base ho13) hb);have n1_:=am' (Kd.R_lower (Kd.R_new' ho13 (Kd.R_lt (kr' HO264.out))) (bz' (yb' GE261.out)));have n2_:=am' (bb' (g:=gb261) (o := .cells #[.int .i64 a0_0, .slice A0_1 l0_1.length c0_1, .int .i64 a0_2] 32 (0,0)) (kk' BK261.out) hb);have n3_:=am' (bt' (yb' GE261.out) hb);clear HO264;clear BK261;clear HB;have HO264:=n0_;have HO267:=n1_;have BK261:=n2_;have HB:=n3_;clear n0_ n1_ n2_ n3_;clear hb ho13;refine hK.out _ _ ⟨(bc' BK261.out 0).trans rfl,(bc' BK261.out 1).trans rfl,(bc' BK261.out 2).trans rfl⟩ (fun hHeld=>?_);clear hK K;refine norm_ (a':=?_) ?_ ?_
      rotate_left
      ·
       show Act.put _ (some 21) _=_
       simp only[Act.put,sa',sb',sc',i64_w,i32_w];rfl
      exact norm_ (by simp only[putAll,Act.put,sa',sb',sc']) (hCont (v263,v266) _ ⟨hHeld,(by (with_reducible repeat (first|apply ra'|apply rn'|apply rw'));exact Kd.R_mono HO264.out (fun _ hk=>hk.2)),(by (with_reducible repeat (first|apply ra'|apply rn'|apply rw'));exact Kd.R_mono HO267.out (fun _ hk=>hk.2)),(kk' BK261.out),(yb' GE261.out)⟩)
     ·
      skip
      refine Kd.R_make_step (Kd.int .i64) _ 3 (by rfl) (N:=21) rfl 43 _ _ rfl ji3 rfl rfl Try.underlying43 (.int .i64 0) 8 info3 rfl (by decide) (by omega) 0 (ok:=fun _=>True) (okp:=fun _=>True) rfl (fun _ hk=>hk) trivial (od' xa') (Nat.le_trans (Nat.mul_le_mul_right _ (od' xa':ji3.toNat≤35184372088832)) (by omega)) (Below.refl _ _) (Nat.le_refl _) ?_
      intro v266 w10 ho11 hb hg_ hnew_;clear hg_ hnew_;(first|rw[← Ny265.out] at ho11|(simp only[Int.reduceToNat] at ho11;rw[← Ny265.out] at ho11))
      have n0_:=am' (Kd.R_lower ho11 (bz' (yb' GE261.out)));have n1_:=am' (bb' (g:=gb261) (o := .cells #[.int .i64 a0_0, .slice A0_1 l0_1.length c0_1, .int .i64 a0_2] 32 (0,0)) (kk' BK261.out) hb);have n2_:=am' (bt' (yb' GE261.out) hb);clear BK261;clear HB;have HO267:=n0_;have BK261:=n1_;have HB:=n2_;clear n0_ n1_ n2_;clear hb ho11;refine hK.out _ _ ⟨(bc' BK261.out 0).trans rfl,(bc' BK261.out 1).trans rfl,(bc' BK261.out 2).trans rfl⟩ (fun hHeld=>?_);clear hK K;refine norm_ (a':=?_) ?_ ?_
      rotate_left
      ·
       show Act.put _ (some 21) _=_
       simp only[Act.put,sa',sb',sc',i64_w,i32_w];rfl
      refine one_ (i:=3) (N:=some 17) #[true,true,true,true,true,true,true,true,false,false] rfl rfl (one_of HT_.out xk') (by decide) (fun K hK=>?_);refine Kd.R_make_step (Kd.int .i64) _ 3 (by rfl) (N:=17) rfl 43 _ _ rfl ji3 rfl rfl Try.underlying43 (.int .i64 0) 8 info3 rfl (by decide) (by omega) 0 (ok:=fun _=>True) (okp:=fun _=>True) rfl (fun _ hk=>hk) trivial (od' xa') (Nat.le_trans (Nat.mul_le_mul_right _ (od' xa':ji3.toNat≤35184372088832)) (by omega)) (Below.refl _ _) (Nat.le_refl _) ?_
      intro v263 w12 ho13 hb hg_ hnew_;clear hg_ hnew_;(first|rw[← Ny262.out] at ho13|(simp only[Int.reduceToNat] at ho13;rw[← Ny262.out] at ho13))
      have n0_:=am' (Kd.R_elder' (kr' HO267.out) (Kd.R_base ho13) hb);have n1_:=am' (Kd.R_lower (Kd.R_new' ho13 (Kd.R_lt (kr' HO267.out))) (bz' (yb' GE261.out)));have n2_:=am' (bb' (g:=gb261) (o := .cells #[.int .i64 a0_0, .slice A0_1 l0_1.length c0_1, .int .i64 a0_2] 32 (0,0)) (kk' BK261.out) hb);have n3_:=am' (bt' (yb' GE261.out) hb);clear HO267;clear BK261;clear HB;have HO267:=n0_;have HO264:=n1_;have BK261:=n2_;have HB:=n3_;clear n0_ n1_ n2_ n3_;clear hb ho13;refine hK.out _ _ ⟨(bc' BK261.out 0).trans rfl,(bc' BK261.out 1).trans rfl,(bc' BK261.out 2).trans rfl⟩ (fun hHeld=>?_);clear hK K;refine norm_ (a':=?_) ?_ ?_
      rotate_left
      ·
       show Act.put _ (some 17) _=_
       simp only[Act.put,sa',sb',sc',i64_w,i32_w];rfl
      refine pure_ (i:=8) (N:=some 4) (v:=?_) (a':=?_) #[true,true,true,true,true,true,true,true,true,false] rfl rfl (any_of HT_.out xk') (fun _ _ _ h=>h) (Or.inl ⟨by rfl,?_⟩) ?_ ?_
      rotate_left
      ·
       intro w';go_simp;with_reducible rfl
      rotate_left
      ·
       simp only[Act.put,sa',sb',sc',i64_w,i32_w];rfl
      exact norm_ (by simp only[putAll,Act.put,sa',sb',sc']) (hCont (v263,v266) _ ⟨hHeld,(by (with_reducible repeat (first|apply ra'|apply rn'|apply rw'));exact Kd.R_mono HO264.out (fun _ hk=>hk.2)),(by (with_reducible repeat (first|apply ra'|apply rn'|apply rw'));exact Kd.R_mono HO267.out (fun _ hk=>hk.2)),(kk' BK261.out),(yb' GE261.out)⟩)
    rintro ⟨v263,v266⟩ w14 ⟨hS_,h0_,h1_,h2_,h3_⟩
    have n0_:Aside0 (Kd.R (Kd.int .i64) 3 w14 w.heap.size (fun k_=>some k_≠(v266:Value).ownBlock) v263 y262):=⟨h0_⟩
    have n1_:Aside0 (Kd.R (Kd.int .i64) 3 w14 w.heap.size (fun k_=>some k_≠(v263:Value).ownBlock) v266 y265):=⟨h1_⟩
    have n2_:Aside0 (w14.heap[gb261]? = some (.cells #[.int .i64 a0_0, .slice A0_1 l0_1.length c0_1, .int .i64 a0_2] 32 (0,0))):=⟨h2_⟩
    have n3_:Aside0 (Below w.heap.size w w14):=⟨h3_⟩
    clear BK261;clear HB;clear h0_ h1_ h2_ h3_;have HO264:=n0_;have HO267:=n1_;have BK261:=n2_;have HB:=n3_;clear n0_ n1_ n2_ n3_;have hHeld:w14.cell? ⟨gb261,0,none⟩=some (.int .i64 a0_0)∧w14.cell? ⟨gb261,1,none⟩=some (.slice A0_1 l0_1.length c0_1)∧w14.cell? ⟨gb261,2,none⟩=some (.int .i64 a0_2):=hS_;refine norm_ (a':=?_) ?_ ?_
    rotate_left
    ·
     simp only[putAll,Act.put,sa',sb',sc'];rfl
    refine pure_ (i:=9) (N:=some 5) (v:=?_) (a':=?_) #[true,true,true,true,true,true,true,true,true,true] rfl rfl (any_of HT_.out xk') (fun _ _ _ h=>h) (Or.inl ⟨by rfl,?_⟩) ?_ ?_
    rotate_left
    ·
     intro w';go_simp;with_reducible rfl
    rotate_left
    ·
     simp only[Act.put,sa',sb',sc',i64_w,i32_w];rfl
    refine done_ (done_of HT_.out xk') ?_
    obtain ⟨Ao15,co15,eo15⟩:=Kd.R_slice HO264.out;subst eo15;try go_wp2
    go_loopg [24] k (fun kq v24 w'=>∃ (x4_1:List Int) (x24_1:Int),v24 = .int .i64 x24_1∧Aside0 (spec_keFar.l0 kq x4_1 y265 (y262.length:Int) x24_1 a0_0 l0_1 a0_2=some (r1,r2))∧Aside0 (kq≤k)∧Aside0 (Kd.R (Kd.int .i64) 3 w' w.heap.size (fun k_=>some k_≠(v266:Value).ownBlock) (.slice Ao15 y262.length co15) x4_1)∧Aside0 (Kd.R (Kd.int .i64) 3 w' w.heap.size (fun k_=>some k_≠((.slice Ao15 y262.length co15):Value).ownBlock) v266 y265)∧Aside0 (w'.heap[gb261]? = some (.cells #[.int .i64 a0_0,(.slice A0_1 l0_1.length c0_1), .int .i64 a0_2] 32 (0,0)))∧Aside0 (Below w.heap.size w w'))
    case atStart=>exact ⟨(y262),(0),xs',H',⟨Nat.le_refl _⟩,⟨kr' HO264.out⟩,⟨kr' HO267.out⟩,⟨kk' BK261.out⟩,⟨yb' GE261.out⟩⟩
    case round =>
     clear H';try clear c2
     try clear c2b0
     try clear c2b1
     try clear p2
     try clear c4
     try clear c4b0
     try clear c4b1
     try clear c5
     try clear c5b0
     try clear c5b1
     try clear c6
     try clear c6b0
     try clear p6
     try clear c7
     try clear c7b0
     obtain ⟨x4_1,x24_1,rfl,HA,HK1,HO_4,HO_5,BK261,HB⟩:=hrel;have hl4_1:=(Kd.R_reads' HO_4.out).1;rw[hl4_1] at HO_4
     (try simp only[hl4_1])
     (try simp only[hl4_1] at BK261)
     (try simp only[hl4_1] at HO_5)
     cases gk with
     | zero=>exact absurd HA.out (by simp[spec_keFar.l0])
     | succ k1 =>
      have H:=HA.out;clear HA;simp only[spec_keFar.l0] at H;by_cases c16:x24_1 < (y262.length:Int)
      ·
       rw[if_pos c16] at H;have c16b0:decide (x24_1 < (y262.length:Int))=true:=dt' c16;clear c16;by_cases c17:0≤x24_1
       ·
        rw[if_pos c17] at H;have c17b0:decide (0≤x24_1)=true:=dt' c17;clear c17;by_cases c18:x24_1 < (x4_1.length:Int)
        ·
         rw[if_pos c18] at H;have c18b0:decide (x24_1 < (x4_1.length:Int))=true:=dt' c18;clear c18;obtain ⟨y268,hy268⟩:∃ y_:List Int,y_=(x4_1.set (x24_1:Int).toNat (-1)):=⟨_,rfl⟩
         replace H:(spec_keFar.l0 k1 y268 y265 (y262.length:Int) (wrap64 (x24_1+1)) a0_0 l0_1 a0_2)=some (r1,r2):=by first|(rw[hy268];with_reducible exact H)|(have H2_:=(Option.bind_some _ _).symm.trans H;rw[hy268];with_reducible exact H2_)|(have H2_:=(Option.bind_some _ _).symm.trans H;with_reducible exact H2_)|with_reducible exact H|(rw[hy268];exact H)|exact H
         have Ny268:=am' hy268;clear hy268;have H':=am' H;clear H;have p19:0≤(x24_1:Int):=od' xa';have q19:(x24_1:Int) < ((x4_1.length:Int):Int):=od' xa';obtain ⟨go19,co19,eo19,gb19,gl19,cl19,HG19⟩:=Kd.R_form HO_4.out (by omega)
         (first|cases eo19|(injection eo19 with ea_ en_ ec_;(first|subst ea_|(injection ea_ with ea_;subst ea_));subst ec_;clear en_))
         have GB19:=am' gb19;have GG19:=am' HG19;clear gb19 gl19 HG19;obtain ⟨hx19_0,hf19_0⟩:=Kd.R_celln 0 HO_4.out (x24_1:Int) p19 q19;replace p19:=eq_true p19;replace q19:=eq_true q19;have HP20:=Kd.R_putg HO_4.out (x24_1:Int) (-1);go_wp2_with (first|((with_reducible refine gate_store (t:=3) (p:=29) rfl ?_);refine store_event (t:=3) (p:=29) (v:=?vo_w21) (w1:=(wr.setCell ⟨go19,(x24_1:Int).toNat,none⟩ (.int .i64 (-1)))) ?hg ?ho ?hn ?hr ?_;(case ho=>rfl);(case hg=>rfl);(case hn=>rfl);(case hr=>first|(go_simp;done)|(go_simp;rfl));intro w21 hw;have hg:wr.grownBy w21 (some go19):=(by rw[hw];exact HP20.2);have hp_:Kd.R (Kd.int .i64) 3 w21 w.heap.size (fun k_=>some k_≠(v266:Value).ownBlock) (.slice (some ⟨go19,0,none⟩) x4_1.length co15) y268:=(by rw[hw,Ny268.out];exact HP20.1);clear HP20;have n0_:=am' (hp_);have n1_:=am' (Kd.R_after (v:=(.slice (some ⟨go19,0,none⟩) x4_1.length co15)) (v1:=(.slice (some ⟨go19,0,none⟩) x4_1.length co15)) (ok:=(fun _=>True)) (by (with_reducible repeat (first|apply ra'|apply rn'|apply rw'));exact Kd.R_mono HO_5.out (fun _ hk=>⟨trivial,hk⟩)) hg (.inl rfl));have n2_:=am' (blk_grown (g:=gb261) (o := .cells #[.int .i64 a0_0, .slice A0_1 l0_1.length c0_1, .int .i64 a0_2] 32 (0,0)) (kk' BK261.out) hg (Kd.R_ne HO_4.out BK261.out (by decide)));have n3_:=am' ((by rw[hw];exact bs' (HB.out) GB19.out:Below w.heap.size w w21));clear HO_4;clear HO_5;clear BK261;clear HB;have HO_4:=n0_;have HO_5:=n1_;have BK261:=n2_;have HB:=n3_;clear n0_ n1_ n2_ n3_;clear hg hw hp_))
         (try simp only[← hl4_1])
         go_roundg k1
         case measure=>have:=HK1.out;omega
         case rel=>exact ⟨(y268),(wrap64 (x24_1+1)),xs',H',⟨by have:=HK1.out;omega⟩,⟨by (try simp only[hl4_1]);(with_reducible repeat (first|apply ra'|apply rn'|apply rw'));exact HO_4.out⟩,⟨by (try simp only[hl4_1]);(with_reducible repeat (first|apply ra'|apply rn'|apply rw'));exact Kd.R_mono HO_5.out (fun _ hk=>hk.2)⟩,⟨by (try simp only[hl4_1]);(with_reducible repeat (first|refine kn' ?_ _|refine kd' ?_|refine ka' ?_ _));exact BK261.out⟩,⟨yb' GE261.out⟩⟩
        ·
         rw[if_neg c18] at H;exact absurd H (by simp)
       ·
        rw[if_neg c17] at H;exact absurd H (by simp)
      ·
       rw[if_neg c16] at H;have c16b0:decide (x24_1 < (y262.length:Int))=false:=df' c16
       (try (have c16bz:=c16b0;rw[hl4_1] at c16bz))
       clear c16;replace H:=Option.bind_eq_some_iff.mp H;obtain ⟨⟨t269,t272⟩,A220,H⟩:=H;replace H:((spec_keIndex.f k1 t269 t272).bind fun t273=>(if 0≤t273 then (if t273 < (x4_1.length:Int) then (if t273 < (y265.length:Int) then (spec_keFar.l1 k1 (x4_1.set (t273:Int).toNat 0) (y265.set (t273:Int).toNat 1) (([t273]:List Int)) 0 a0_0 l0_1 a0_2) else (none)) else (none)) else (none)))=some (r1,r2):=H;have A22:=am' A220;clear A220;replace H:=Option.bind_eq_some_iff.mp H;obtain ⟨t273,A230,H⟩:=H;replace H:(if 0≤t273 then (if t273 < (x4_1.length:Int) then (if t273 < (y265.length:Int) then (spec_keFar.l1 k1 (x4_1.set (t273:Int).toNat 0) (y265.set (t273:Int).toNat 1) (([t273]:List Int)) 0 a0_0 l0_1 a0_2) else (none)) else (none)) else (none))=some (r1,r2):=H;have A23:=am' A230;clear A230;by_cases c24:0≤t273
       ·
        rw[if_pos c24] at H;have c24b0:decide (0≤t273)=true:=dt' c24;clear c24;by_cases c25:t273 < (x4_1.length:Int)
        ·
         rw[if_pos c25] at H;have c25b0:decide (t273 < (x4_1.length:Int))=true:=dt' c25;clear c25;obtain ⟨y274,hy274⟩:∃ y_:List Int,y_=(x4_1.set (t273:Int).toNat 0):=⟨_,rfl⟩
         replace H:(if t273 < (y265.length:Int) then (spec_keFar.l1 k1 y274 (y265.set (t273:Int).toNat 1) (([t273]:List Int)) 0 a0_0 l0_1 a0_2) else (none))=some (r1,r2):=by first|(rw[hy274];with_reducible exact H)|(have H2_:=(Option.bind_some _ _).symm.trans H;rw[hy274];with_reducible exact H2_)|(have H2_:=(Option.bind_some _ _).symm.trans H;with_reducible exact H2_)|with_reducible exact H|(rw[hy274];exact H)|exact H
         have Ny274:=am' hy274;clear hy274;by_cases c27:t273 < (y265.length:Int)
         ·
          rw[if_pos c27] at H;have c27b0:decide (t273 < (y265.length:Int))=true:=dt' c27;clear c27;obtain ⟨y275,hy275⟩:∃ y_:List Int,y_=(y265.set (t273:Int).toNat 1):=⟨_,rfl⟩
          replace H:(spec_keFar.l1 k1 y274 y275 (([t273]:List Int)) 0 a0_0 l0_1 a0_2)=some (r1,r2):=by first|(rw[hy275];with_reducible exact H)|(have H2_:=(Option.bind_some _ _).symm.trans H;rw[hy275];with_reducible exact H2_)|(have H2_:=(Option.bind_some _ _).symm.trans H;with_reducible exact H2_)|with_reducible exact H|(rw[hy275];exact H)|exact H
          have Ny275:=am' hy275;clear hy275;obtain ⟨y276,hy276⟩:∃ y_:List Int,y_=(([t273]:List Int)):=⟨_,rfl⟩
          replace H:(spec_keFar.l1 k1 y274 y275 y276 0 a0_0 l0_1 a0_2)=some (r1,r2):=by first|(rw[hy276];with_reducible exact H)|(have H2_:=(Option.bind_some _ _).symm.trans H;rw[hy276];with_reducible exact H2_)|(have H2_:=(Option.bind_some _ _).symm.trans H;with_reducible exact H2_)|with_reducible exact H|(rw[hy276];exact H)|exact H
          have Ny276:=am' hy276;clear hy276;have H':=am' H;clear H;have hcz29_0:wr.cell? ⟨gb261,0,none⟩=some (.int .i64 a0_0):=(bc' BK261.out 0).trans rfl;have hcz29_1:wr.cell? ⟨gb261,1,none⟩=some (.slice A0_1 l0_1.length c0_1):=(bc' BK261.out 1).trans rfl;have hcz29_2:wr.cell? ⟨gb261,2,none⟩=some (.int .i64 a0_2):=(bc' BK261.out 2).trans rfl;have hfz29_0:=bf' BK261.out 0;have hfz29_1:=bf' BK261.out 1;have hfz29_2:=bf' BK261.out 2;go_wp2_with (first|((with_reducible refine gate_callee (f:=86) rfl ?_);refine goesL_ (some 32) rfl rfl Try.func86 xk' rfl #[.agg #[.int .i64 a0_0, .slice A0_1 l0_1.length c0_1, .int .i64 a0_2]] rfl xl' ?_;(with_reducible refine (spec_keEnd.calls k1 a0_0 _ _ l0_1 a0_2 t269 t272 _ ?side1 ?side2 A22.out).mono ?_);(case side1=>exact kc' (cb' HR0_1.out HB.out));(case side2=>exact HC0_1.out);rintro e w30 ⟨v270,rfl,ho0,hb⟩;refine ⟨_,rfl,?_⟩;have n0_:=am' (rb' (kr' HO_4.out) hb);have n1_:=am' (rb' (kr' HO_5.out) hb);have n2_:=am' (Kd.R_lower ho0 (bz' (yb' GE261.out)));have n3_:=am' (bb' (g:=gb261) (o := .cells #[.int .i64 a0_0, .slice A0_1 l0_1.length c0_1, .int .i64 a0_2] 32 (0,0)) (kk' BK261.out) hb);have n4_:=am' (bt' (yb' GE261.out) hb);clear HO_4;clear HO_5;clear BK261;clear HB;have HO_4:=n0_;have HO_5:=n1_;have HO271:=n2_;have BK261:=n3_;have HB:=n4_;clear n0_ n1_ n2_ n3_ n4_;(try clear hb);(try clear hb2);(try clear hk);(try clear hi);(try clear ho0);obtain ⟨Ao31,co31,eo31⟩:=Kd.R_slice HO271.out;subst eo31)|((with_reducible refine gate_callee (f:=70) rfl ?_);refine goesL_ (some 33) rfl rfl Try.func70 xk' rfl #[.agg #[.slice Ao31 t269.length co31, .bool t272]] rfl xl' ?_;(with_reducible refine (spec_keIndex.calls k1 _ _ t269 t272 t273 _ ?side1 ?side2 A23.out).mono ?_);(case side1=>exact kc' ((Kd.R_reads' HO271.out).2.2));(case side2=>exact (Kd.R_reads' HO271.out).2.1);rintro e w32 ⟨rfl,hb⟩;refine ⟨_,rfl,?_⟩;have n0_:=am' (rb' (kr' HO_4.out) hb);have n1_:=am' (rb' (kr' HO_5.out) hb);have n2_:=am' (rb' (kr' HO271.out) hb);have n3_:=am' (bb' (g:=gb261) (o := .cells #[.int .i64 a0_0, .slice A0_1 l0_1.length c0_1, .int .i64 a0_2] 32 (0,0)) (kk' BK261.out) hb);have n4_:=am' (bt' (yb' GE261.out) hb);clear HO_4;clear HO_5;clear HO271;clear BK261;clear HB;have HO_4:=n0_;have HO_5:=n1_;have HO271:=n2_;have BK261:=n3_;have HB:=n4_;clear n0_ n1_ n2_ n3_ n4_;(try clear hb);(try clear hb2);(try clear hk);(try clear hi);have p26:0≤(t273:Int):=od' xa';have q26:(t273:Int) < ((x4_1.length:Int):Int):=od' xa';obtain ⟨go26,co26,eo26,gb26,gl26,cl26,HG26⟩:=Kd.R_form HO_4.out (by omega);(first|cases eo26|(injection eo26 with ea_ en_ ec_;(first|subst ea_|(injection ea_ with ea_;subst ea_));subst ec_;clear en_));have GB26:=am' gb26;have GG26:=am' HG26;clear gb26 gl26 HG26;obtain ⟨hx26_0,hf26_0⟩:=Kd.R_celln 0 HO_4.out (t273:Int) p26 q26;replace p26:=eq_true p26;replace q26:=eq_true q26;obtain ⟨hy33_,hz33_⟩:=Kd.R_celln 0 HO_4.out (t273:Int) (od' xa') (od' xa');have HP33:=Kd.R_putg HO_4.out (t273:Int) 0)|((with_reducible refine gate_store (t:=3) (p:=36) rfl ?_);refine store_event (t:=3) (p:=36) (v:=?vo_w34) (w1:=(w32.setCell ⟨go26,(t273:Int).toNat,none⟩ (.int .i64 0))) ?hg ?ho ?hn ?hr ?_;(case ho=>rfl);(case hg=>rfl);(case hn=>rfl);(case hr=>first|(go_simp;done)|(go_simp;rfl));intro w34 hw;have hg:w32.grownBy w34 (some go26):=(by rw[hw];exact HP33.2);have hp_:Kd.R (Kd.int .i64) 3 w34 w.heap.size (fun k_=>some k_≠(v266:Value).ownBlock) (.slice (some ⟨go26,0,none⟩) x4_1.length co15) y274:=(by rw[hw,Ny274.out];exact HP33.1);clear HP33;have n0_:=am' (hp_);have n1_:=am' (Kd.R_after (v:=(.slice (some ⟨go26,0,none⟩) x4_1.length co15)) (v1:=(.slice (some ⟨go26,0,none⟩) x4_1.length co15)) (ok:=(fun _=>True)) (by (with_reducible repeat (first|apply ra'|apply rn'|apply rw'));exact Kd.R_mono HO_5.out (fun _ hk=>⟨trivial,hk⟩)) hg (.inl rfl));have n2_:=am' (blk_grown (g:=gb261) (o := .cells #[.int .i64 a0_0, .slice A0_1 l0_1.length c0_1, .int .i64 a0_2] 32 (0,0)) (kk' BK261.out) hg (Kd.R_ne HO_4.out BK261.out (by decide)));have n3_:=am' (Kd.R_over' (v:=(.slice (some ⟨go26,0,none⟩) x4_1.length co15)) (kr' HO271.out) (Kd.R_typed HO_4.out) (by decide) hg);have n4_:=am' ((by rw[hw];exact bs' (HB.out) GB26.out:Below w.heap.size w w34));clear HO_4;clear HO_5;clear BK261;clear HO271;clear HB;have HO_4:=n0_;have HO_5:=n1_;have BK261:=n2_;have HO271:=n3_;have HB:=n4_;clear n0_ n1_ n2_ n3_ n4_;clear hg hw hp_;have p28:0≤(t273:Int):=od' xa';have q28:(t273:Int) < ((y265.length:Int):Int):=od' xa';obtain ⟨go28,co28,eo28,gb28,gl28,cl28,HG28⟩:=Kd.R_form HO_5.out (by omega);(first|cases eo28|(injection eo28 with ea_ en_ ec_;(first|subst ea_|(injection ea_ with ea_;subst ea_));subst ec_;clear en_));have GB28:=am' gb28;have GG28:=am' HG28;clear gb28 gl28 HG28;obtain ⟨hx28_0,hf28_0⟩:=Kd.R_celln 0 HO_5.out (t273:Int) p28 q28;replace p28:=eq_true p28;replace q28:=eq_true q28;have n_:=am' (Kd.R_mono (ok':=(fun k_=>some k_≠(.slice (some ⟨go26,0,none⟩) x4_1.length co15:Value).ownBlock)) HO_5.out (fun k_ hk=>hk.2));clear HO_5;have HO_5:=n_;clear n_;obtain ⟨hy35_,hz35_⟩:=Kd.R_celln 0 HO_5.out (t273:Int) (od' xa') (od' xa');have HP35:=Kd.R_putg HO_5.out (t273:Int) 1)|((with_reducible refine gate_store (t:=3) (p:=39) rfl ?_);refine store_event (t:=3) (p:=39) (v:=?vo_w36) (w1:=(w34.setCell ⟨go28,(t273:Int).toNat,none⟩ (.int .i64 1))) ?hg ?ho ?hn ?hr ?_;(case ho=>rfl);(case hg=>rfl);(case hn=>rfl);(case hr=>first|(go_simp;done)|(go_simp;rfl));intro w36 hw;have hg:w34.grownBy w36 (some go28):=(by rw[hw];exact HP35.2);have hp_:Kd.R (Kd.int .i64) 3 w36 w.heap.size (fun k_=>some k_≠(.slice (some ⟨go26,0,none⟩) x4_1.length co15:Value).ownBlock) (.slice (some ⟨go28,0,none⟩) y265.length co28) y275:=(by rw[hw,Ny275.out];exact HP35.1);clear HP35;have n0_:=am' (Kd.R_after (v:=(.slice (some ⟨go28,0,none⟩) y265.length co28)) (v1:=(.slice (some ⟨go28,0,none⟩) y265.length co28)) (ok:=(fun _=>True)) (by (with_reducible repeat (first|apply ra'|apply rn'|apply rw'));exact Kd.R_mono HO_4.out (fun _ hk=>⟨trivial,hk⟩)) hg (.inl rfl));have n1_:=am' (hp_);have n2_:=am' (blk_grown (g:=gb261) (o := .cells #[.int .i64 a0_0, .slice A0_1 l0_1.length c0_1, .int .i64 a0_2] 32 (0,0)) (kk' BK261.out) hg (Kd.R_ne HO_5.out BK261.out (by decide)));have n3_:=am' (Kd.R_over' (v:=(.slice (some ⟨go28,0,none⟩) y265.length co28)) (kr' HO271.out) (Kd.R_typed HO_5.out) (by decide) hg);have n4_:=am' ((by rw[hw];exact bs' (HB.out) GB28.out:Below w.heap.size w w36));clear HO_4;clear HO_5;clear BK261;clear HO271;clear HB;have HO_4:=n0_;have HO_5:=n1_;have BK261:=n2_;have HO271:=n3_;have HB:=n4_;clear n0_ n1_ n2_ n3_ n4_;clear hg hw hp_)|((with_reducible refine gate_dst (N:=41) rfl ?_);refine Kd.R_lit (Kd.int .i64) _ 3 ?hg (N:=41) ?hd (xs:=([t273]:List Int)) (inner:=[.int .i64 t273]) (ok:=fun _=>True) (okp:=fun _=>True) ?hr ?hp (fun _ hk=>hk) trivial (Below.refl _ _) (Nat.le_refl _) (by simp) ?_;(case hd=>rfl);(case hg=>rfl);(case hr=>first|(go_simp;done)|(go_simp;rfl));(case hp=>exact (Reps.one (show Kd.M (Kd.int .i64) _ _ _ t273 [.int .i64 t273] from rfl) (Reps.none _ _)));intro v277 w37 ho38 hb hg_ hnew_;clear hg_ hnew_;(first|rw[← Ny276.out] at ho38|(simp only[Int.reduceToNat] at ho38;rw[← Ny276.out] at ho38));have n0_:=am' (Kd.R_elder' (kr' HO_4.out) (Kd.R_base ho38) hb);have n1_:=am' (Kd.R_elder' (kr' HO_5.out) (Kd.R_base ho38) hb);have n2_:=am' (rb' (kr' HO271.out) hb);have n3_:=am' (Kd.R_lower (Kd.R_new' (Kd.R_new' ho38 (Kd.R_lt (kr' HO_4.out))) (Kd.R_lt (kr' HO_5.out))) (bz' (yb' GE261.out)));have n4_:=am' (bb' (g:=gb261) (o := .cells #[.int .i64 a0_0, .slice A0_1 l0_1.length c0_1, .int .i64 a0_2] 32 (0,0)) (kk' BK261.out) hb);have n5_:=am' (bt' (yb' GE261.out) hb);clear HO_4;clear HO_5;clear HO271;clear BK261;clear HB;have HO_4:=n0_;have HO_5:=n1_;have HO271:=n2_;have HO278:=n3_;have BK261:=n4_;have HB:=n5_;clear n0_ n1_ n2_ n3_ n4_ n5_;clear hb ho38))
          go_loopg [8,9] k1 (fun kq v8 v9 w'=>∃ (x4_2:List Int) (x5_2:List Int) (x8_2:List Int) (x9_2:Int),v9 = .int .i64 x9_2∧Aside0 (spec_keFar.l1 kq x4_2 x5_2 x8_2 x9_2 a0_0 l0_1 a0_2=some (r1,r2))∧Aside0 (kq≤k1)∧Aside0 (Kd.R (Kd.int .i64) 3 w' w.heap.size (fun k_=>some k_≠((.slice (some ⟨go28,0,none⟩) y265.length co28):Value).ownBlock∧some k_≠(v8:Value).ownBlock) (.slice (some ⟨go26,0,none⟩) x4_1.length co15) x4_2)∧Aside0 (Kd.R (Kd.int .i64) 3 w' w.heap.size (fun k_=>some k_≠((.slice (some ⟨go26,0,none⟩) x4_1.length co15):Value).ownBlock∧some k_≠(v8:Value).ownBlock) (.slice (some ⟨go28,0,none⟩) y265.length co28) x5_2)∧Aside0 (Kd.R (Kd.int .i64) 3 w' w.heap.size (fun k_=>some k_≠((.slice (some ⟨go26,0,none⟩) x4_1.length co15):Value).ownBlock∧some k_≠((.slice (some ⟨go28,0,none⟩) y265.length co28):Value).ownBlock) v8 x8_2)∧Aside0 (w'.heap[gb261]? = some (.cells #[.int .i64 a0_0,(.slice A0_1 l0_1.length c0_1), .int .i64 a0_2] 32 (0,0)))∧Aside0 (Below w.heap.size w w'))
          case atStart=>exact ⟨(y274),(y275),(y276),(0),xs',H',⟨Nat.le_refl _⟩,⟨by (try simp only[hl4_1]);(with_reducible repeat (first|apply ra'|apply rn'|apply rw'));exact Kd.R_mono HO_4.out (fun _ hk=>⟨hk.1.2,hk.2⟩)⟩,⟨by (try simp only[hl4_1]);(with_reducible repeat (first|apply ra'|apply rn'|apply rw'));exact HO_5.out⟩,⟨by (try simp only[hl4_1]);(with_reducible repeat (first|apply ra'|apply rn'|apply rw'));exact Kd.R_mono HO278.out (fun _ hk=>⟨hk.1.2,hk.2⟩)⟩,⟨by (try simp only[hl4_1]);(with_reducible repeat (first|refine kn' ?_ _|refine kd' ?_|refine ka' ?_ _));exact BK261.out⟩,⟨yb' GE261.out⟩⟩
          case round =>
           clear H';try clear c1
           try clear p1
           try clear q1
           try clear hx1
           try clear hf1
           try clear c2
           try clear c2b0
           try clear c2b1
           try clear p2
           try clear q2
           try clear hx2
           try clear hf2
           try clear c4
           try clear c4b0
           try clear c4b1
           try clear c5
           try clear c5b0
           try clear c5b1
           try clear c6
           try clear c6b0
           try clear p6
           try clear c7
           try clear c7b0
           try clear c8
           try clear c16
           try clear c16b0
           try clear c17
           try clear c17b0
           try clear c18
           try clear c18b0
           try clear p19
           try clear q19
           try clear hx19
           try clear hf19
           try clear c24
           try clear c24b0
           try clear c25
           try clear c25b0
           try clear p26
           try clear q26
           try clear hx26
           try clear hf26
           try clear c27
           try clear c27b0
           try clear p28
           try clear q28
           try clear hx28
           try clear hf28
           try clear hcz29_0
           try clear hcz29_1
           try clear hcz29_2
           try clear hfz29_0
           try clear hfz29_1
           try clear hfz29_2
           try clear hx19_0
           try clear hx26_0
           try clear hx28_0
           try clear p19
           try clear p2
           try clear p26
           try clear p28
           try clear p6
           try clear q19
           try clear q26
           try clear q28
           obtain ⟨x4_2,x5_2,x8_2,x9_2,rfl,HA,HK2,HO_4,HO_5,HO_8,BK261,HB⟩:=hrel;have hl4_2:=(Kd.R_reads' HO_4.out).1;rw[hl4_2] at HO_4
           (try simp only[hl4_2])
           (try simp only[hl4_2] at BK261)
           (try simp only[hl4_2] at HO_5)
           (try simp only[hl4_2] at HO_8)
           have hl5_2:=(Kd.R_reads' HO_5.out).1;rw[hl5_2] at HO_5
           (try simp only[hl5_2])
           (try simp only[hl5_2] at BK261)
           (try simp only[hl5_2] at HO_4)
           (try simp only[hl5_2] at HO_8)
           cases gk with
           | zero=>exact absurd HA.out (by simp[spec_keFar.l1])
           | succ k2 =>
            have H:=HA.out;clear HA;simp only[spec_keFar.l1] at H;by_cases c39:x9_2 < (x8_2.length:Int)
            ·
             rw[if_pos c39] at H;have c39b0:decide (x9_2 < (x8_2.length:Int))=true:=dt' c39;clear c39;by_cases c40:0≤x9_2
             ·
              rw[if_pos c40] at H;have c40b0:decide (0≤x9_2)=true:=dt' c40;clear c40;replace H:=Option.bind_eq_some_iff.mp H;obtain ⟨⟨t280,t283⟩,A410,H⟩:=H;replace H:((spec_keRides.f k2 a0_0 l0_1 a0_2 t280 t283).bind fun t285=>(spec_keFar.l2 k2 x4_2 x5_2 x8_2 x9_2 t285 (t285.length:Int) 0 a0_0 l0_1 a0_2 t280 t283))=some (r1,r2):=H;have A41:=am' A410;clear A410;replace H:=Option.bind_eq_some_iff.mp H;obtain ⟨t285,A420,H⟩:=H;replace H:(spec_keFar.l2 k2 x4_2 x5_2 x8_2 x9_2 t285 (t285.length:Int) 0 a0_0 l0_1 a0_2 t280 t283)=some (r1,r2):=H;have A42:=am' A420;clear A420;have H':=am' H;clear H;obtain ⟨Ao43,co43,eo43⟩:=Kd.R_slice HO_8.out;subst eo43;try go_wp2
              have n0_:=am' (rw' HO_4.out);have n1_:=am' (rw' HO_5.out);have n2_:=am' (rw' HO_8.out);have n3_:=am' (kd' BK261.out);have n4_:=am' (be' HB.out);clear HO_4;clear HO_5;clear HO_8;clear BK261;clear HB;have HO_4:=n0_;have HO_5:=n1_;have HO_8:=n2_;have BK261:=n3_;have HB:=n4_;clear n0_ n1_ n2_ n3_ n4_;have p279:0≤(x9_2:Int):=od' xa';have q279:x9_2 < (x8_2.length:Int):=od' xa';obtain ⟨ad279,e279,hx279_0⟩:=Kd.at_int (Kd.R_reads' HO_8.out).2.2 x9_2 p279 q279;cases e279;replace p279:=eq_true p279;replace q279:=eq_true q279;refine start_ (n:=9) (S:=fun w'=>w'.cell? ⟨gb261,0,none⟩=some (.int .i64 a0_0)∧w'.cell? ⟨gb261,1,none⟩=some (.slice A0_1 l0_1.length c0_1)∧w'.cell? ⟨gb261,2,none⟩=some (.int .i64 a0_2)∧w'.cell? (ad279.add (x9_2).toNat)=some (.int .i64 (rd x8_2 x9_2))) (ds:=[]) #[false,false,false,false,false,false,false,false,false] xk' rfl rfl ⟨(bc' BK261.out 0).trans rfl,(bc' BK261.out 1).trans rfl,(bc' BK261.out 2).trans rfl,hx279_0⟩ (fun hHeld=>?_);refine with_tabW spec_keFar.tab14 spec_keFar.bits14 (fun HT_ HW_=>?_);generalize wr.drew=w44 at HO_4 HO_5 HO_8 BK261 HB hx279_0 hHeld ⊢
              refine pure_ (i:=0) (N:=some 48) (v:=?_) (a':=?_) #[true,false,false,false,false,false,false,false,false] rfl rfl (any_of HT_.out xk') (fun _ _ _ h=>h) (Or.inl ⟨by rfl,?_⟩) ?_ ?_
              rotate_left
              ·
               intro w';go_simp;with_reducible rfl
              rotate_left
              ·
               simp only[Act.put,sa',sb',sc',i64_w,i32_w];rfl
              refine pure_ (i:=1) (N:=some 49) (v:=?_) (a':=?_) #[true,true,false,false,false,false,false,false,false] rfl rfl (any_of HT_.out xk') (fun _ _ _ h=>h) (Or.inl ⟨by rfl,?_⟩) ?_ ?_
              rotate_left
              ·
               intro w';go_simp;with_reducible rfl
              rotate_left
              ·
               simp only[Act.put,sa',sb',sc',i64_w,i32_w];rfl
              refine pure_ (i:=2) (N:=some 50) (v:=?_) (a':=?_) #[true,true,true,false,false,false,false,false,false] rfl rfl (any_of HT_.out xk') (fun _ _ _ h=>h) (Or.inl ⟨by rfl,?_⟩) ?_ ?_
              rotate_left
              ·
               intro w';go_simp;with_reducible rfl
              rotate_left
              ·
               simp only[Act.put,sa',sb',sc',i64_w,i32_w];rfl
              refine pure_ (i:=4) (N:=some 52) (v:=?_) (a':=?_) #[true,true,true,false,true,false,false,false,false] rfl rfl (any_of HT_.out xk') (fun _ _ _ h=>h) (Or.inl ⟨by rfl,?_⟩) ?_ ?_
              rotate_left
              ·
               intro w';go_simp;with_reducible rfl
              rotate_left
              ·
               simp only[Act.put,sa',sb',sc',i64_w,i32_w];rfl
              refine take_ (i:=3) (N:=some 51) (v:=?_) (a':=?_) #[true,true,true,true,true,false,false,false,false] rfl rfl (take_ofW HT_.out HW_.out xk') (fun _ _ _ h=>h) (Or.inl ⟨by rfl,?_⟩) hHeld ?_ ?_
              rotate_left
              ·
               rintro w' ⟨s0,s1,s2,s3⟩
               go_simp;with_reducible rfl
              rotate_left
              ·
               simp only[Act.put,sa',sb',sc',i64_w,i32_w];rfl
              refine take_ (i:=5) (N:=some 53) (v:=?_) (a':=?_) #[true,true,true,true,true,true,false,false,false] rfl rfl (take_ofW HT_.out HW_.out xk') (fun _ _ _ h=>h) (Or.inl ⟨by rfl,?_⟩) hHeld ?_ ?_
              rotate_left
              ·
               rintro w' ⟨s0,s1,s2,s3⟩
               go_simp;with_reducible rfl
              rotate_left
              ·
               simp only[Act.put,sa',sb',sc',i64_w,i32_w];rfl
              refine join_ (σ:=Value × Nat) 1 #[true,true,true,true,true,true,true,true,false] (fun s_=>[(54, .agg #[s_.1, .bool t283]),(10, .pointer (some ⟨s_.2,0,none⟩))]) (fun s_ w'=>(w'.cell? ⟨gb261,0,none⟩=some (.int .i64 a0_0)∧w'.cell? ⟨gb261,1,none⟩=some (.slice A0_1 l0_1.length c0_1)∧w'.cell? ⟨gb261,2,none⟩=some (.int .i64 a0_2)∧w'.cell? (ad279.add (x9_2).toNat)=some (.int .i64 (rd x8_2 x9_2)))∧(Kd.R Kd.bool 4 w' w.heap.size (fun _=>True) s_.1 t280)∧(Kd.R (Kd.int .i64) 3 w' w.heap.size (fun k_=>some k_≠(.slice (some ⟨go28,0,none⟩) x5_2.length co28:Value).ownBlock∧some k_≠(.slice (some ad279) x8_2.length co43:Value).ownBlock) (.slice (some ⟨go26,0,none⟩) x4_2.length co15) x4_2)∧(Kd.R (Kd.int .i64) 3 w' w.heap.size (fun k_=>some k_≠(.slice (some ⟨go26,0,none⟩) x4_2.length co15:Value).ownBlock∧some k_≠(.slice (some ad279) x8_2.length co43:Value).ownBlock) (.slice (some ⟨go28,0,none⟩) x5_2.length co28) x5_2)∧(Kd.R (Kd.int .i64) 3 w' w.heap.size (fun k_=>some k_≠(.slice (some ⟨go26,0,none⟩) x4_2.length co15:Value).ownBlock∧some k_≠(.slice (some ⟨go28,0,none⟩) x5_2.length co28:Value).ownBlock) (.slice (some ad279) x8_2.length co43) x8_2)∧(w'.heap[gb261]? = some (.cells #[.int .i64 a0_0, .slice A0_1 l0_1.length c0_1, .int .i64 a0_2] 32 (0,0)))∧(w'.heap[s_.2]? = some (.cells #[.slice none 0 0, .bool false] 34 (0,0)))∧(w.heap.size≤s_.2)∧(w.heap.size≤s_.2)∧(gb261≠s_.2)∧(s_.2≠gb261)∧(Below w.heap.size w w')) ?_ ?_
              rotate_left
              ·
               intro hCont;refine two_ (i:=6) (j:=7) (Ni:=some 54) (Nj:=some 10) #[true,true,true,true,true,true,true,false,false] #[true,true,true,true,true,true,false,true,false] rfl rfl rfl rfl (two_of HT_.out xk') (by decide) (by decide) (fun K hK=>?_) (fun K hK=>?_)
               ·
                skip
                refine goes_ Try.func87 xk' rfl #[.int .i64 (rd x8_2 x9_2), .int .i64 a0_0] (by rfl) rfl rfl xl' ?_
                with_reducible refine (spec_keBank.calls k2 (rd x8_2 x9_2) a0_0 t280 t283 _ A41.out).mono ?_
                rintro e w45 ⟨v281,rfl,ho0,hb⟩
                have HS3_:=(hb.cell (bl' _ _ (hHeld.2.2.2))).trans (hHeld.2.2.2);refine ⟨_,rfl,?_⟩;have n0_:=am' (rb' (kr' HO_4.out) hb);have n1_:=am' (rb' (kr' HO_5.out) hb);have n2_:=am' (rb' (kr' HO_8.out) hb);have n3_:=am' (Kd.R_lower ho0 (bz' (yb' GE261.out)));have n4_:=am' (bb' (g:=gb261) (o := .cells #[.int .i64 a0_0, .slice A0_1 l0_1.length c0_1, .int .i64 a0_2] 32 (0,0)) (kk' BK261.out) hb);have n5_:=am' (bt' (yb' GE261.out) hb);clear HO_4;clear HO_5;clear HO_8;clear BK261;clear HB;have HO_4:=n0_;have HO_5:=n1_;have HO_8:=n2_;have HO282:=n3_;have BK261:=n4_;have HB:=n5_;clear n0_ n1_ n2_ n3_ n4_ n5_;(try clear hb)
                (try clear hb2)
                (try clear hk)
                (try clear hi)
                (try clear ho0)
                refine hK.out _ _ ⟨(bc' BK261.out 0).trans rfl,(bc' BK261.out 1).trans rfl,(bc' BK261.out 2).trans rfl,HS3_⟩ (fun hHeld=>?_);clear hK K;refine norm_ (a':=?_) ?_ ?_
                rotate_left
                ·
                 show Act.put _ (some 54) _=_
                 simp only[Act.put,sa',sb',sc',i64_w,i32_w];rfl
                refine one_ (i:=7) (N:=some 10) #[true,true,true,true,true,true,true,true,false] rfl rfl (one_of HT_.out xk') (by decide) (fun K hK=>?_);refine box_step ?hg (N:=10) ?hd (cs:=#[.slice none 0 0, .bool false]) (t:=34) ?hr ?_;(case hd=>rfl);(case hg=>rfl);(case hr=>first|(go_simp;done)|(go_simp;rfl))
                intro gb284 hg w46 hbox hb;have HS3_:=(hb.cell (bl' _ _ (hHeld.2.2.2))).trans (hHeld.2.2.2);have n0_:=am' (rb' (kr' HO_4.out) hb);have n1_:=am' (rb' (kr' HO_5.out) hb);have n2_:=am' (rb' (kr' HO_8.out) hb);have n3_:=am' (rb' (kr' HO282.out) hb);have n4_:=am' (bb' (g:=gb261) (o := .cells #[.int .i64 a0_0, .slice A0_1 l0_1.length c0_1, .int .i64 a0_2] 32 (0,0)) (kk' BK261.out) hb);have n5_:=am' (bt' (yb' GE261.out) hb);have n6_:=am' (hbox);have n7_:=am' ((by rw[hg];exact (bz' (yb' GE261.out)):w.heap.size≤gb284));have n8_:=am' ((by rw[hg];exact (bz' (yb' GE261.out)):w.heap.size≤gb284));have n9_:=am' ((by rw[hg];exact Nat.ne_of_lt (blk_lt (g:=gb261) (o := .cells #[.int .i64 a0_0, .slice A0_1 l0_1.length c0_1, .int .i64 a0_2] 32 (0,0)) (kk' BK261.out)):gb261≠gb284));have n10_:=am' ((by rw[hg];exact Nat.ne_of_gt (blk_lt (g:=gb261) (o := .cells #[.int .i64 a0_0, .slice A0_1 l0_1.length c0_1, .int .i64 a0_2] 32 (0,0)) (kk' BK261.out)):gb284≠gb261));clear HO_4;clear HO_5;clear HO_8;clear HO282;clear BK261;clear HB;have HO_4:=n0_;have HO_5:=n1_;have HO_8:=n2_;have HO282:=n3_;have BK261:=n4_;have HB:=n5_;have BK284:=n6_;have GW284:=n7_;have GE284:=n8_;have NB261_284:=n9_;have NB284_261:=n10_;clear n0_ n1_ n2_ n3_ n4_ n5_ n6_ n7_ n8_ n9_ n10_;clear hb hbox hg;refine hK.out _ _ ⟨(bc' BK261.out 0).trans rfl,(bc' BK261.out 1).trans rfl,(bc' BK261.out 2).trans rfl,HS3_⟩ (fun hHeld=>?_);clear hK K;refine norm_ (a':=?_) ?_ ?_
                rotate_left
                ·
                 show Act.put _ (some 10) _=_
                 simp only[Act.put,sa',sb',sc',i64_w,i32_w];rfl
                exact norm_ (by simp only[putAll,Act.put,sa',sb',sc']) (hCont (v281,gb284) _ ⟨hHeld,(kr' HO282.out),(kr' HO_4.out),(kr' HO_5.out),(kr' HO_8.out),(kk' BK261.out),(kk' BK284.out),GW284.out,GE284.out,NB261_284.out,NB284_261.out,(y2' GE261.out GE284.out)⟩)
               ·
                skip
                refine box_step ?hg (N:=10) ?hd (cs:=#[.slice none 0 0, .bool false]) (t:=34) ?hr ?_;(case hd=>rfl);(case hg=>rfl);(case hr=>first|(go_simp;done)|(go_simp;rfl))
                intro gb284 hg w45 hbox hb;have HS3_:=(hb.cell (bl' _ _ (hHeld.2.2.2))).trans (hHeld.2.2.2);have n0_:=am' (rb' (kr' HO_4.out) hb);have n1_:=am' (rb' (kr' HO_5.out) hb);have n2_:=am' (rb' (kr' HO_8.out) hb);have n3_:=am' (bb' (g:=gb261) (o := .cells #[.int .i64 a0_0, .slice A0_1 l0_1.length c0_1, .int .i64 a0_2] 32 (0,0)) (kk' BK261.out) hb);have n4_:=am' (bt' (yb' GE261.out) hb);have n5_:=am' (hbox);have n6_:=am' ((by rw[hg];exact (bz' (yb' GE261.out)):w.heap.size≤gb284));have n7_:=am' ((by rw[hg];exact (bz' (yb' GE261.out)):w.heap.size≤gb284));have n8_:=am' ((by rw[hg];exact Nat.ne_of_lt (blk_lt (g:=gb261) (o := .cells #[.int .i64 a0_0, .slice A0_1 l0_1.length c0_1, .int .i64 a0_2] 32 (0,0)) (kk' BK261.out)):gb261≠gb284));have n9_:=am' ((by rw[hg];exact Nat.ne_of_gt (blk_lt (g:=gb261) (o := .cells #[.int .i64 a0_0, .slice A0_1 l0_1.length c0_1, .int .i64 a0_2] 32 (0,0)) (kk' BK261.out)):gb284≠gb261));clear HO_4;clear HO_5;clear HO_8;clear BK261;clear HB;have HO_4:=n0_;have HO_5:=n1_;have HO_8:=n2_;have BK261:=n3_;have HB:=n4_;have BK284:=n5_;have GW284:=n6_;have GE284:=n7_;have NB261_284:=n8_;have NB284_261:=n9_;clear n0_ n1_ n2_ n3_ n4_ n5_ n6_ n7_ n8_ n9_;clear hb hbox hg;refine hK.out _ _ ⟨(bc' BK261.out 0).trans rfl,(bc' BK261.out 1).trans rfl,(bc' BK261.out 2).trans rfl,HS3_⟩ (fun hHeld=>?_);clear hK K;refine norm_ (a':=?_) ?_ ?_
                rotate_left
                ·
                 show Act.put _ (some 10) _=_
                 simp only[Act.put,sa',sb',sc',i64_w,i32_w];rfl
                refine one_ (i:=6) (N:=some 54) #[true,true,true,true,true,true,true,true,false] rfl rfl (one_of HT_.out xk') (by decide) (fun K hK=>?_);refine goes_ Try.func87 xk' rfl #[.int .i64 (rd x8_2 x9_2), .int .i64 a0_0] (by rfl) rfl rfl xl' ?_
                with_reducible refine (spec_keBank.calls k2 (rd x8_2 x9_2) a0_0 t280 t283 _ A41.out).mono ?_
                rintro e w46 ⟨v281,rfl,ho0,hb⟩
                have HS3_:=(hb.cell (bl' _ _ (hHeld.2.2.2))).trans (hHeld.2.2.2);refine ⟨_,rfl,?_⟩;have n0_:=am' (rb' (kr' HO_4.out) hb);have n1_:=am' (rb' (kr' HO_5.out) hb);have n2_:=am' (rb' (kr' HO_8.out) hb);have n3_:=am' (Kd.R_lower ho0 (bz' (y2' GE261.out GE284.out)));have n4_:=am' (bb' (g:=gb261) (o := .cells #[.int .i64 a0_0, .slice A0_1 l0_1.length c0_1, .int .i64 a0_2] 32 (0,0)) (kk' BK261.out) hb);have n5_:=am' (bb' (g:=gb284) (o := .cells #[.slice none 0 0, .bool false] 34 (0,0)) (kk' BK284.out) hb);have n6_:=am' (bt' (y2' GE261.out GE284.out) hb);clear HO_4;clear HO_5;clear HO_8;clear BK261;clear BK284;clear HB;have HO_4:=n0_;have HO_5:=n1_;have HO_8:=n2_;have HO282:=n3_;have BK261:=n4_;have BK284:=n5_;have HB:=n6_;clear n0_ n1_ n2_ n3_ n4_ n5_ n6_;(try clear hb)
                (try clear hb2)
                (try clear hk)
                (try clear hi)
                (try clear ho0)
                refine hK.out _ _ ⟨(bc' BK261.out 0).trans rfl,(bc' BK261.out 1).trans rfl,(bc' BK261.out 2).trans rfl,HS3_⟩ (fun hHeld=>?_);clear hK K;refine norm_ (a':=?_) ?_ ?_
                rotate_left
                ·
                 show Act.put _ (some 54) _=_
                 simp only[Act.put,sa',sb',sc',i64_w,i32_w];rfl
                exact norm_ (by simp only[putAll,Act.put,sa',sb',sc']) (hCont (v281,gb284) _ ⟨hHeld,(kr' HO282.out),(kr' HO_4.out),(kr' HO_5.out),(kr' HO_8.out),(kk' BK261.out),(kk' BK284.out),GW284.out,GE284.out,NB261_284.out,NB284_261.out,(y2' GE261.out GE284.out)⟩)
              rintro ⟨v281,gb284⟩ w47 ⟨hS_,h0_,h1_,h2_,h3_,h4_,h5_,h6_,h7_,h8_,h9_,h10_⟩
              have n0_:Aside0 (Kd.R Kd.bool 4 w47 w.heap.size (fun _=>True) v281 t280):=⟨h0_⟩
              have n1_:Aside0 (Kd.R (Kd.int .i64) 3 w47 w.heap.size (fun k_=>some k_≠(.slice (some ⟨go28,0,none⟩) x5_2.length co28:Value).ownBlock∧some k_≠(.slice (some ad279) x8_2.length co43:Value).ownBlock) (.slice (some ⟨go26,0,none⟩) x4_2.length co15) x4_2):=⟨h1_⟩
              have n2_:Aside0 (Kd.R (Kd.int .i64) 3 w47 w.heap.size (fun k_=>some k_≠(.slice (some ⟨go26,0,none⟩) x4_2.length co15:Value).ownBlock∧some k_≠(.slice (some ad279) x8_2.length co43:Value).ownBlock) (.slice (some ⟨go28,0,none⟩) x5_2.length co28) x5_2):=⟨h2_⟩
              have n3_:Aside0 (Kd.R (Kd.int .i64) 3 w47 w.heap.size (fun k_=>some k_≠(.slice (some ⟨go26,0,none⟩) x4_2.length co15:Value).ownBlock∧some k_≠(.slice (some ⟨go28,0,none⟩) x5_2.length co28:Value).ownBlock) (.slice (some ad279) x8_2.length co43) x8_2):=⟨h3_⟩
              have n4_:Aside0 (w47.heap[gb261]? = some (.cells #[.int .i64 a0_0, .slice A0_1 l0_1.length c0_1, .int .i64 a0_2] 32 (0,0))):=⟨h4_⟩
              have n5_:Aside0 (w47.heap[gb284]? = some (.cells #[.slice none 0 0, .bool false] 34 (0,0))):=⟨h5_⟩
              have n6_:Aside0 (w.heap.size≤gb284):=⟨h6_⟩
              have n7_:Aside0 (w.heap.size≤gb284):=⟨h7_⟩
              have n8_:Aside0 (gb261≠gb284):=⟨h8_⟩
              have n9_:Aside0 (gb284≠gb261):=⟨h9_⟩
              have n10_:Aside0 (Below w.heap.size w w47):=⟨h10_⟩
              clear HO_4;clear HO_5;clear HO_8;clear BK261;clear HB;clear h0_ h1_ h2_ h3_ h4_ h5_ h6_ h7_ h8_ h9_ h10_;have HO282:=n0_;have HO_4:=n1_;have HO_5:=n2_;have HO_8:=n3_;have BK261:=n4_;have BK284:=n5_;have GW284:=n6_;have GE284:=n7_;have NB261_284:=n8_;have NB284_261:=n9_;have HB:=n10_;clear n0_ n1_ n2_ n3_ n4_ n5_ n6_ n7_ n8_ n9_ n10_;have hHeld:w47.cell? ⟨gb261,0,none⟩=some (.int .i64 a0_0)∧w47.cell? ⟨gb261,1,none⟩=some (.slice A0_1 l0_1.length c0_1)∧w47.cell? ⟨gb261,2,none⟩=some (.int .i64 a0_2)∧w47.cell? (ad279.add (x9_2).toNat)=some (.int .i64 (rd x8_2 x9_2)):=hS_;obtain ⟨Ao48,co48,eo48⟩:=Kd.R_slice HO282.out
              (first|subst eo48|(injection eo48 with f1_ f2_ f3_;have f4_:=f1_.symm;have f5_:=f3_.symm;clear f1_ f2_ f3_;subst f4_;subst f5_))
              refine norm_ (a':=?_) ?_ ?_
              rotate_left
              ·
               simp only[putAll,Act.put,sa',sb',sc'];rfl
              refine one_ (i:=8) (N:=none) #[true,true,true,true,true,true,true,true,true] rfl rfl (one_of HT_.out xk') (by decide) (fun K hK=>?_);have hs49:w47.cell? ⟨gb284,0,none⟩=some (.slice none 0 0):=(bc' BK284.out 0).trans rfl;have hfs49:=bf' BK284.out 0;have hns49_0:=NB261_284.out;have hms49_0:=NB284_261.out;have hs50:w47.cell? ⟨gb284,1,none⟩=some (.bool false):=(bc' BK284.out 1).trans rfl;have hfs50:=bf' BK284.out 1;have hns50_0:=NB261_284.out;have hms50_0:=NB284_261.out;refine skip_ (w1:=?_) (by rfl) rfl ?_ ?_
              rotate_left
              ·
               go_simp;rfl
              refine hK.out _ _ ⟨((cell_far (p:=⟨gb284,_,none⟩) NB261_284.out _).trans (((cell_far (p:=⟨gb284,_,none⟩) NB261_284.out _).trans (hHeld.1)))),((cell_far (p:=⟨gb284,_,none⟩) NB261_284.out _).trans (((cell_far (p:=⟨gb284,_,none⟩) NB261_284.out _).trans (hHeld.2.1)))),((cell_far (p:=⟨gb284,_,none⟩) NB261_284.out _).trans (((cell_far (p:=⟨gb284,_,none⟩) NB261_284.out _).trans (hHeld.2.2.1)))),((cell_far (p:=⟨gb284,_,none⟩) (by first|exact Kd.own_blk (Kd.R_ne HO_8.out BK284.out (by decide))|(rw[add_block];exact Kd.own_blk (Kd.R_ne HO_8.out BK284.out (by decide)))|(show (Addr.add _ _).block≠_;rw[add_block];exact Kd.own_blk (Kd.R_ne HO_8.out BK284.out (by decide)))|(dsimp only;exact Kd.own_blk (Kd.R_ne HO_8.out BK284.out (by decide)))) _).trans (((cell_far (p:=⟨gb284,_,none⟩) (by first|exact Kd.own_blk (Kd.R_ne HO_8.out BK284.out (by decide))|(rw[add_block];exact Kd.own_blk (Kd.R_ne HO_8.out BK284.out (by decide)))|(show (Addr.add _ _).block≠_;rw[add_block];exact Kd.own_blk (Kd.R_ne HO_8.out BK284.out (by decide)))|(dsimp only;exact Kd.own_blk (Kd.R_ne HO_8.out BK284.out (by decide)))) _).trans (hHeld.2.2.2))))⟩ (fun hHeld=>?_);clear hK K;refine done_ (done_of HT_.out xk') ?_
              have hnb51:=NB261_284.out;have hnc51:=NB284_261.out;have hcz52_0:w47.cell? ⟨gb261,0,none⟩=some (.int .i64 a0_0):=(bc' BK261.out 0).trans rfl;have hcz52_1:w47.cell? ⟨gb261,1,none⟩=some (.slice A0_1 l0_1.length c0_1):=(bc' BK261.out 1).trans rfl;have hcz52_2:w47.cell? ⟨gb261,2,none⟩=some (.int .i64 a0_2):=(bc' BK261.out 2).trans rfl;have hfz52_0:=bf' BK261.out 0;have hfz52_1:=bf' BK261.out 1;have hfz52_2:=bf' BK261.out 2;have hcz53_0:w47.cell? ⟨gb284,0,none⟩=some (.slice none 0 0):=(bc' BK284.out 0).trans rfl;have hcz53_1:w47.cell? ⟨gb284,1,none⟩=some (.bool false):=(bc' BK284.out 1).trans rfl;have hfz53_0:=bf' BK284.out 0;have hfz53_1:=bf' BK284.out 1
              try go_wp2_with (first|((with_reducible refine gate_callee (f:=54) rfl ?_);refine goesL_ (some 57) rfl rfl Try.func54 xk' rfl #[.agg #[.int .i64 a0_0, .slice A0_1 l0_1.length c0_1, .int .i64 a0_2], .agg #[.slice Ao48 t280.length co48, .bool t283]] rfl xl' ?_;(with_reducible refine (spec_keRides.calls k2 a0_0 _ _ l0_1 a0_2 _ _ t280 t283 t285 _ ?side1 ?side2 ?side3 ?side4 A42.out).mono ?_);(case side1=>exact cb' HR0_1.out (y2' GE261.out GE284.out));(case side2=>exact HC0_1.out);(case side3=>refine (Kd.R_reads' (e:=4) (base:=w.heap.size) (ok:=fun k_=>True) (n:=t280.length) (c:=co48) ?_).2.2;exact (by (with_reducible repeat (first|apply ra'|apply rn'|apply rw'));exact (Kd.R_mono (Kd.R_far (p:=⟨gb284,1,none⟩) (Kd.R_far (p:=⟨gb284,0,none⟩) (Kd.R_types HO282.out BK284.out (by decide)) (fun _ hk=>hk.2) (.slice Ao48 t280.length co48)) (fun _ hk=>hk.2) (.bool t283)) (fun _ h_=>h_.1))));(case side4=>exact (Kd.R_reads' HO282.out).2.1);rintro e w54 ⟨v286,rfl,ho0,hb⟩;refine ⟨_,rfl,?_⟩;have n0_:=am' (rb' (by (with_reducible repeat (first|apply ra'|apply rn'|apply rw'));exact (Kd.R_mono (Kd.R_far (p:=⟨gb284,1,none⟩) (Kd.R_far (p:=⟨gb284,0,none⟩) (Kd.R_types HO_4.out BK284.out (by decide)) (fun _ hk=>hk.2) (.slice Ao48 t280.length co48)) (fun _ hk=>hk.2) (.bool t283)) (fun _ h_=>h_.1))) hb);have n1_:=am' (rb' (by (with_reducible repeat (first|apply ra'|apply rn'|apply rw'));exact (Kd.R_mono (Kd.R_far (p:=⟨gb284,1,none⟩) (Kd.R_far (p:=⟨gb284,0,none⟩) (Kd.R_types HO_5.out BK284.out (by decide)) (fun _ hk=>hk.2) (.slice Ao48 t280.length co48)) (fun _ hk=>hk.2) (.bool t283)) (fun _ h_=>h_.1))) hb);have n2_:=am' (rb' (by (with_reducible repeat (first|apply ra'|apply rn'|apply rw'));exact (Kd.R_mono (Kd.R_far (p:=⟨gb284,1,none⟩) (Kd.R_far (p:=⟨gb284,0,none⟩) (Kd.R_types HO_8.out BK284.out (by decide)) (fun _ hk=>hk.2) (.slice Ao48 t280.length co48)) (fun _ hk=>hk.2) (.bool t283)) (fun _ h_=>h_.1))) hb);have n3_:=am' (rb' (by (with_reducible repeat (first|apply ra'|apply rn'|apply rw'));exact (Kd.R_mono (Kd.R_far (p:=⟨gb284,1,none⟩) (Kd.R_far (p:=⟨gb284,0,none⟩) (Kd.R_types HO282.out BK284.out (by decide)) (fun _ hk=>hk.2) (.slice Ao48 t280.length co48)) (fun _ hk=>hk.2) (.bool t283)) (fun _ h_=>h_.1))) hb);have n4_:=am' (Kd.N_lower (Kd.N_mono (ok':=fun k_=>some k_≠(.slice (some ⟨go26,0,none⟩) x4_2.length co15:Value).ownBlock∧some k_≠(.slice (some ⟨go28,0,none⟩) x5_2.length co28:Value).ownBlock∧some k_≠(.slice (some ad279) x8_2.length co43:Value).ownBlock∧some k_≠(.slice Ao48 t280.length co48:Value).ownBlock∧k_≠gb261∧k_≠gb284) ho0 (fun k_ hk_=>⟨(Kd.fresh' (Kd.R_lt (by (with_reducible repeat (first|apply ra'|apply rn'|apply rw'));exact (Kd.R_mono (Kd.R_far (p:=⟨gb284,1,none⟩) (Kd.R_far (p:=⟨gb284,0,none⟩) (Kd.R_types HO_4.out BK284.out (by decide)) (fun _ hk=>hk.2) (.slice Ao48 t280.length co48)) (fun _ hk=>hk.2) (.bool t283)) (fun _ h_=>h_.1)))) k_ hk_),(Kd.fresh' (Kd.R_lt (by (with_reducible repeat (first|apply ra'|apply rn'|apply rw'));exact (Kd.R_mono (Kd.R_far (p:=⟨gb284,1,none⟩) (Kd.R_far (p:=⟨gb284,0,none⟩) (Kd.R_types HO_5.out BK284.out (by decide)) (fun _ hk=>hk.2) (.slice Ao48 t280.length co48)) (fun _ hk=>hk.2) (.bool t283)) (fun _ h_=>h_.1)))) k_ hk_),(Kd.fresh' (Kd.R_lt (by (with_reducible repeat (first|apply ra'|apply rn'|apply rw'));exact (Kd.R_mono (Kd.R_far (p:=⟨gb284,1,none⟩) (Kd.R_far (p:=⟨gb284,0,none⟩) (Kd.R_types HO_8.out BK284.out (by decide)) (fun _ hk=>hk.2) (.slice Ao48 t280.length co48)) (fun _ hk=>hk.2) (.bool t283)) (fun _ h_=>h_.1)))) k_ hk_),(Kd.fresh' (Kd.R_lt (by (with_reducible repeat (first|apply ra'|apply rn'|apply rw'));exact (Kd.R_mono (Kd.R_far (p:=⟨gb284,1,none⟩) (Kd.R_far (p:=⟨gb284,0,none⟩) (Kd.R_types HO282.out BK284.out (by decide)) (fun _ hk=>hk.2) (.slice Ao48 t280.length co48)) (fun _ hk=>hk.2) (.bool t283)) (fun _ h_=>h_.1)))) k_ hk_),(Kd.freshB (g:=gb261) (o := .cells #[.int .i64 a0_0, .slice A0_1 l0_1.length c0_1, .int .i64 a0_2] 32 (0,0)) (by (with_reducible repeat (first|refine kn' ?_ _|refine kd' ?_|refine ka' ?_ _));refine blk_far ?_ NB261_284.out _;(with_reducible repeat (first|refine kn' ?_ _|refine kd' ?_|refine ka' ?_ _));refine blk_far ?_ NB261_284.out _;(with_reducible repeat (first|refine kn' ?_ _|refine kd' ?_|refine ka' ?_ _));exact BK261.out) k_ hk_),(Kd.freshB (g:=gb284) (o := .cells #[.slice Ao48 t280.length co48, .bool t283] 34 (0,0)) (by (with_reducible repeat (first|refine kn' ?_ _|refine kd' ?_|refine ka' ?_ _));refine blk_put (cs:=#[.slice Ao48 t280.length co48, .bool false]) ?_ 1 _ rfl;(with_reducible repeat (first|refine kn' ?_ _|refine kd' ?_|refine ka' ?_ _));refine blk_put (cs:=#[.slice none 0 0, .bool false]) ?_ 0 _ rfl;(with_reducible repeat (first|refine kn' ?_ _|refine kd' ?_|refine ka' ?_ _));exact BK284.out) k_ hk_)⟩)) (bz' (y2' GE261.out GE284.out)));have n5_:=am' (bb' (g:=gb261) (o := .cells #[.int .i64 a0_0, .slice A0_1 l0_1.length c0_1, .int .i64 a0_2] 32 (0,0)) (by (with_reducible repeat (first|refine kn' ?_ _|refine kd' ?_|refine ka' ?_ _));refine blk_far ?_ NB261_284.out _;(with_reducible repeat (first|refine kn' ?_ _|refine kd' ?_|refine ka' ?_ _));refine blk_far ?_ NB261_284.out _;(with_reducible repeat (first|refine kn' ?_ _|refine kd' ?_|refine ka' ?_ _));exact BK261.out) hb);have n6_:=am' (bb' (g:=gb284) (o := .cells #[.slice Ao48 t280.length co48, .bool t283] 34 (0,0)) (by (with_reducible repeat (first|refine kn' ?_ _|refine kd' ?_|refine ka' ?_ _));refine blk_put (cs:=#[.slice Ao48 t280.length co48, .bool false]) ?_ 1 _ rfl;(with_reducible repeat (first|refine kn' ?_ _|refine kd' ?_|refine ka' ?_ _));refine blk_put (cs:=#[.slice none 0 0, .bool false]) ?_ 0 _ rfl;(with_reducible repeat (first|refine kn' ?_ _|refine kd' ?_|refine ka' ?_ _));exact BK284.out) hb);have n7_:=am' (bt' (y2' GE261.out GE284.out) hb);clear HO_4;clear HO_5;clear HO_8;clear HO282;clear BK261;clear BK284;clear HB;have HO_4:=n0_;have HO_5:=n1_;have HO_8:=n2_;have HO282:=n3_;have HO287:=n4_;have BK261:=n5_;have BK284:=n6_;have HB:=n7_;clear n0_ n1_ n2_ n3_ n4_ n5_ n6_ n7_;(try clear hb);(try clear hb2);(try clear hk);(try clear hi);(try clear ho0);obtain ⟨Ao55,co55,eo55⟩:=Kd.N_slice HO287.out;subst eo55))
              go_loopg [8,59] k2 (fun kq v8 v59 w'=>∃ (x4_3:List Int) (x5_3:List Int) (x8_3:List Int) (x59_3:Int),v59 = .int .i64 x59_3∧Aside0 (spec_keFar.l2 kq x4_3 x5_3 x8_3 x9_2 t285 (t285.length:Int) x59_3 a0_0 l0_1 a0_2 t280 t283=some (r1,r2))∧Aside0 (kq≤k2)∧Aside0 (Kd.R (Kd.int .i64) 3 w' w.heap.size (fun k_=>some k_≠((.slice (some ⟨go28,0,none⟩) x5_2.length co28):Value).ownBlock∧some k_≠(v8:Value).ownBlock) (.slice (some ⟨go26,0,none⟩) x4_2.length co15) x4_3)∧Aside0 (Kd.R (Kd.int .i64) 3 w' w.heap.size (fun k_=>some k_≠((.slice (some ⟨go26,0,none⟩) x4_2.length co15):Value).ownBlock∧some k_≠(v8:Value).ownBlock) (.slice (some ⟨go28,0,none⟩) x5_2.length co28) x5_3)∧Aside0 (Kd.R (Kd.int .i64) 3 w' w.heap.size (fun k_=>some k_≠((.slice (some ⟨go26,0,none⟩) x4_2.length co15):Value).ownBlock∧some k_≠((.slice (some ⟨go28,0,none⟩) x5_2.length co28):Value).ownBlock) v8 x8_3)∧Aside0 (Kd.N (Kd.slice 3 (Kd.int .i64)) 43 w' w.heap.size (fun k_=>some k_≠((.slice (some ⟨go26,0,none⟩) x4_2.length co15):Value).ownBlock∧some k_≠((.slice (some ⟨go28,0,none⟩) x5_2.length co28):Value).ownBlock∧some k_≠(v8:Value).ownBlock∧some k_≠((.slice Ao48 t280.length co48):Value).ownBlock∧k_≠gb261∧k_≠gb284) (.slice Ao55 t285.length co55) t285)∧Aside0 (Kd.R Kd.bool 4 w' w.heap.size (fun _=>True) (.slice Ao48 t280.length co48) t280)∧Aside0 (w'.heap[gb261]? = some (.cells #[.int .i64 a0_0,(.slice A0_1 l0_1.length c0_1), .int .i64 a0_2] 32 (0,0)))∧Aside0 (w'.heap[gb284]? = some (.cells #[(.slice Ao48 t280.length co48), .bool t283] 34 (0,0)))∧Aside0 (Below w.heap.size w w'))
              case atStart=>exact ⟨(x4_2),(x5_2),(x8_2),(0),xs',H',⟨Nat.le_refl _⟩,⟨by (try simp only[hl4_1]);(try simp only[hl4_2]);(try simp only[hl5_2]);(with_reducible repeat (first|apply ra'|apply rn'|apply rw'));exact HO_4.out⟩,⟨by (try simp only[hl4_1]);(try simp only[hl4_2]);(try simp only[hl5_2]);(with_reducible repeat (first|apply ra'|apply rn'|apply rw'));exact HO_5.out⟩,⟨by (try simp only[hl4_1]);(try simp only[hl4_2]);(try simp only[hl5_2]);(with_reducible repeat (first|apply ra'|apply rn'|apply rw'));exact HO_8.out⟩,⟨by (try simp only[hl4_1]);(try simp only[hl4_2]);(try simp only[hl5_2]);(with_reducible repeat (first|apply Kd.N_alloc|apply Kd.N_drewN|apply Kd.N_drew));exact HO287.out⟩,⟨by (try simp only[hl4_1]);(try simp only[hl4_2]);(try simp only[hl5_2]);(with_reducible repeat (first|apply ra'|apply rn'|apply rw'));exact HO282.out⟩,⟨by (try simp only[hl4_1]);(try simp only[hl4_2]);(try simp only[hl5_2]);(with_reducible repeat (first|refine kn' ?_ _|refine kd' ?_|refine ka' ?_ _));exact BK261.out⟩,⟨by (try simp only[hl4_1]);(try simp only[hl4_2]);(try simp only[hl5_2]);(with_reducible repeat (first|refine kn' ?_ _|refine kd' ?_|refine ka' ?_ _));exact BK284.out⟩,⟨y2' GE261.out GE284.out⟩⟩
              case round =>
               clear H';try clear c1
               try clear p1
               try clear q1
               try clear hx1
               try clear hf1
               try clear c2
               try clear c2b0
               try clear c2b1
               try clear p2
               try clear q2
               try clear hx2
               try clear hf2
               try clear c3
               try clear c4
               try clear c4b0
               try clear c4b1
               try clear c5
               try clear c5b0
               try clear c5b1
               try clear c6
               try clear c6b0
               try clear p6
               try clear c7
               try clear c7b0
               try clear c8
               try clear c16
               try clear c16b0
               try clear c17
               try clear c17b0
               try clear c18
               try clear c18b0
               try clear p19
               try clear q19
               try clear hx19
               try clear hf19
               try clear c24
               try clear c24b0
               try clear c25
               try clear c25b0
               try clear p26
               try clear q26
               try clear hx26
               try clear hf26
               try clear c27
               try clear c27b0
               try clear p27
               try clear q27
               try clear hx27
               try clear p28
               try clear q28
               try clear hx28
               try clear hf28
               try clear c39
               try clear c39b0
               try clear c40
               try clear c40b0
               try clear c51
               try clear c54
               try clear hcz29_0
               try clear hcz29_1
               try clear hcz29_2
               try clear hcz52_0
               try clear hcz52_1
               try clear hcz52_2
               try clear hcz53_0
               try clear hcz53_1
               try clear hfz29_0
               try clear hfz29_1
               try clear hfz29_2
               try clear hfz52_0
               try clear hfz52_1
               try clear hfz52_2
               try clear hfz53_0
               try clear hfz53_1
               try clear hx19_0
               try clear hx26_0
               try clear hx279_0
               try clear hx28_0
               try clear p1
               try clear p19
               try clear p2
               try clear p26
               try clear p279
               try clear p28
               try clear p6
               try clear q1
               try clear q19
               try clear q2
               try clear q26
               try clear q279
               try clear q28
               obtain ⟨x4_3,x5_3,x8_3,x59_3,rfl,HA,HK3,HO_4,HO_5,HO_8,HO_57,HO_285000,BK261,BK284,HB⟩:=hrel;have hl4_3:=(Kd.R_reads' HO_4.out).1;rw[hl4_3] at HO_4
               (try simp only[hl4_3])
               (try simp only[hl4_3] at BK261)
               (try simp only[hl4_3] at BK284)
               (try simp only[hl4_3] at HO_5)
               (try simp only[hl4_3] at HO_8)
               (try simp only[hl4_3] at HO_57)
               (try simp only[hl4_3] at HO_285000)
               have hl5_3:=(Kd.R_reads' HO_5.out).1;rw[hl5_3] at HO_5
               (try simp only[hl5_3])
               (try simp only[hl5_3] at BK261)
               (try simp only[hl5_3] at BK284)
               (try simp only[hl5_3] at HO_4)
               (try simp only[hl5_3] at HO_8)
               (try simp only[hl5_3] at HO_57)
               (try simp only[hl5_3] at HO_285000)
               cases gk with
               | zero=>exact absurd HA.out (by simp[spec_keFar.l2])
               | succ k3 =>
                have H:=HA.out;clear HA;simp only[spec_keFar.l2] at H;by_cases c56:x59_3 < (t285.length:Int)
                ·
                 rw[if_pos c56] at H;have c56b0:decide (x59_3 < (t285.length:Int))=true:=dt' c56;clear c56;by_cases c57:0≤x59_3
                 ·
                  rw[if_pos c57] at H;have c57b0:decide (0≤x59_3)=true:=dt' c57;clear c57;by_cases c58:x59_3 < (t285.length:Int)
                  ·
                   rw[if_pos c58] at H;have c58b0:decide (x59_3 < (t285.length:Int))=true:=dt' c58;clear c58;replace H:=Option.bind_eq_some_iff.mp H;obtain ⟨⟨t289,t292⟩,A590,H⟩:=H;replace H:((spec_keIndex.f k3 t289 t292).bind fun t293=>(if 0≤t293 then (if t293 < (x4_3.length:Int) then (if (rd x4_3 t293) < 0 then (if 0≤x9_2 then (if x9_2 < (x8_3.length:Int) then (if 0≤(rd x8_3 x9_2) then (if (rd x8_3 x9_2) < (x4_3.length:Int) then ((some (x4_3.set (t293:Int).toNat (wrap64 ((rd x4_3 (rd x8_3 x9_2))+1)):List Int)).bind fun y297=>(if x8_3.length < 17592186044416 then ((some (x8_3 ++ [t293]:List Int)).bind fun y298=>(if x9_2 < (y298.length:Int) then (if 0≤(rd y298 x9_2) then (if (rd y298 x9_2) < (x4_3.length:Int) then (if (rd y297 t293)=(wrap64 ((rd y297 (rd y298 x9_2))+1)) then (if t293 < (x5_3.length:Int) then (if (rd y298 x9_2) < (x5_3.length:Int) then (spec_keFar.l2 k3 y297 (x5_3.set (t293:Int).toNat (wrap64 ((rd x5_3 t293)+(rd x5_3 (rd y298 x9_2))))) y298 x9_2 t285 (t285.length:Int) (wrap64 (x59_3+1)) a0_0 l0_1 a0_2 t280 t283) else (none)) else (none)) else (spec_keFar.l2 k3 y297 x5_3 y298 x9_2 t285 (t285.length:Int) (wrap64 (x59_3+1)) a0_0 l0_1 a0_2 t280 t283)) else (none)) else (none)) else (none))) else (none))) else (none)) else (none)) else (none)) else (none)) else (if 0≤x9_2 then (if x9_2 < (x8_3.length:Int) then (if 0≤(rd x8_3 x9_2) then (if (rd x8_3 x9_2) < (x4_3.length:Int) then (if (rd x4_3 t293)=(wrap64 ((rd x4_3 (rd x8_3 x9_2))+1)) then (if t293 < (x5_3.length:Int) then (if (rd x8_3 x9_2) < (x5_3.length:Int) then (spec_keFar.l2 k3 x4_3 (x5_3.set (t293:Int).toNat (wrap64 ((rd x5_3 t293)+(rd x5_3 (rd x8_3 x9_2))))) x8_3 x9_2 t285 (t285.length:Int) (wrap64 (x59_3+1)) a0_0 l0_1 a0_2 t280 t283) else (none)) else (none)) else (spec_keFar.l2 k3 x4_3 x5_3 x8_3 x9_2 t285 (t285.length:Int) (wrap64 (x59_3+1)) a0_0 l0_1 a0_2 t280 t283)) else (none)) else (none)) else (none)) else (none))) else (none)) else (none)))=some (r1,r2):=H;have A59:=am' A590;clear A590;replace H:=Option.bind_eq_some_iff.mp H;obtain ⟨t293,A600,H⟩:=H;replace H:(if 0≤t293 then (if t293 < (x4_3.length:Int) then (if (rd x4_3 t293) < 0 then (if 0≤x9_2 then (if x9_2 < (x8_3.length:Int) then (if 0≤(rd x8_3 x9_2) then (if (rd x8_3 x9_2) < (x4_3.length:Int) then ((some (x4_3.set (t293:Int).toNat (wrap64 ((rd x4_3 (rd x8_3 x9_2))+1)):List Int)).bind fun y297=>(if x8_3.length < 17592186044416 then ((some (x8_3 ++ [t293]:List Int)).bind fun y298=>(if x9_2 < (y298.length:Int) then (if 0≤(rd y298 x9_2) then (if (rd y298 x9_2) < (x4_3.length:Int) then (if (rd y297 t293)=(wrap64 ((rd y297 (rd y298 x9_2))+1)) then (if t293 < (x5_3.length:Int) then (if (rd y298 x9_2) < (x5_3.length:Int) then (spec_keFar.l2 k3 y297 (x5_3.set (t293:Int).toNat (wrap64 ((rd x5_3 t293)+(rd x5_3 (rd y298 x9_2))))) y298 x9_2 t285 (t285.length:Int) (wrap64 (x59_3+1)) a0_0 l0_1 a0_2 t280 t283) else (none)) else (none)) else (spec_keFar.l2 k3 y297 x5_3 y298 x9_2 t285 (t285.length:Int) (wrap64 (x59_3+1)) a0_0 l0_1 a0_2 t280 t283)) else (none)) else (none)) else (none))) else (none))) else (none)) else (none)) else (none)) else (none)) else (if 0≤x9_2 then (if x9_2 < (x8_3.length:Int) then (if 0≤(rd x8_3 x9_2) then (if (rd x8_3 x9_2) < (x4_3.length:Int) then (if (rd x4_3 t293)=(wrap64 ((rd x4_3 (rd x8_3 x9_2))+1)) then (if t293 < (x5_3.length:Int) then (if (rd x8_3 x9_2) < (x5_3.length:Int) then (spec_keFar.l2 k3 x4_3 (x5_3.set (t293:Int).toNat (wrap64 ((rd x5_3 t293)+(rd x5_3 (rd x8_3 x9_2))))) x8_3 x9_2 t285 (t285.length:Int) (wrap64 (x59_3+1)) a0_0 l0_1 a0_2 t280 t283) else (none)) else (none)) else (spec_keFar.l2 k3 x4_3 x5_3 x8_3 x9_2 t285 (t285.length:Int) (wrap64 (x59_3+1)) a0_0 l0_1 a0_2 t280 t283)) else (none)) else (none)) else (none)) else (none))) else (none)) else (none))=some (r1,r2):=H
                   have A60:=am' A600;clear A600;by_cases c61:0≤t293
                   ·
                    rw[if_pos c61] at H;have c61b0:decide (0≤t293)=true:=dt' c61;clear c61;by_cases c62:t293 < (x4_3.length:Int)
                    ·
                     rw[if_pos c62] at H;have c62b0:decide (t293 < (x4_3.length:Int))=true:=dt' c62;clear c62;by_cases c63:(rd x4_3 t293) < 0
                     ·
                      rw[if_pos c63] at H;have c63b0:decide ((rd x4_3 t293) < 0)=true:=dt' c63;clear c63;by_cases c64:0≤x9_2
                      ·
                       rw[if_pos c64] at H;have c64b0:decide (0≤x9_2)=true:=dt' c64;clear c64;by_cases c65:x9_2 < (x8_3.length:Int)
                       ·
                        rw[if_pos c65] at H;have c65b0:decide (x9_2 < (x8_3.length:Int))=true:=dt' c65;clear c65;by_cases c66:0≤(rd x8_3 x9_2)
                        ·
                         rw[if_pos c66] at H;have c66b0:decide (0≤(rd x8_3 x9_2))=true:=dt' c66;clear c66;by_cases c67:(rd x8_3 x9_2) < (x4_3.length:Int)
                         ·
                          rw[if_pos c67] at H;have c67b0:decide ((rd x8_3 x9_2) < (x4_3.length:Int))=true:=dt' c67;clear c67;obtain ⟨y297,hy297⟩:∃ y_:List Int,y_=(x4_3.set (t293:Int).toNat (wrap64 ((rd x4_3 (rd x8_3 x9_2))+1))):=⟨_,rfl⟩
                          replace H:(if x8_3.length < 17592186044416 then ((some (x8_3 ++ [t293]:List Int)).bind fun y298=>(if x9_2 < (y298.length:Int) then (if 0≤(rd y298 x9_2) then (if (rd y298 x9_2) < (x4_3.length:Int) then (if (rd y297 t293)=(wrap64 ((rd y297 (rd y298 x9_2))+1)) then (if t293 < (x5_3.length:Int) then (if (rd y298 x9_2) < (x5_3.length:Int) then (spec_keFar.l2 k3 y297 (x5_3.set (t293:Int).toNat (wrap64 ((rd x5_3 t293)+(rd x5_3 (rd y298 x9_2))))) y298 x9_2 t285 (t285.length:Int) (wrap64 (x59_3+1)) a0_0 l0_1 a0_2 t280 t283) else (none)) else (none)) else (spec_keFar.l2 k3 y297 x5_3 y298 x9_2 t285 (t285.length:Int) (wrap64 (x59_3+1)) a0_0 l0_1 a0_2 t280 t283)) else (none)) else (none)) else (none))) else (none))=some (r1,r2):=by first|(rw[hy297];with_reducible exact H)|(have H2_:=(Option.bind_some _ _).symm.trans H;rw[hy297];with_reducible exact H2_)|(have H2_:=(Option.bind_some _ _).symm.trans H;with_reducible exact H2_)|with_reducible exact H|(rw[hy297];exact H)|exact H
                          have Ny297:=am' hy297;clear hy297;by_cases c69:x8_3.length < 17592186044416
                          ·
                           rw[if_pos c69] at H;have LMc69:=am' c69;clear c69;obtain ⟨y298,hy298⟩:∃ y_:List Int,y_=(x8_3 ++ [t293]):=⟨_,rfl⟩
                           replace H:(if x9_2 < (y298.length:Int) then (if 0≤(rd y298 x9_2) then (if (rd y298 x9_2) < (x4_3.length:Int) then (if (rd y297 t293)=(wrap64 ((rd y297 (rd y298 x9_2))+1)) then (if t293 < (x5_3.length:Int) then (if (rd y298 x9_2) < (x5_3.length:Int) then (spec_keFar.l2 k3 y297 (x5_3.set (t293:Int).toNat (wrap64 ((rd x5_3 t293)+(rd x5_3 (rd y298 x9_2))))) y298 x9_2 t285 (t285.length:Int) (wrap64 (x59_3+1)) a0_0 l0_1 a0_2 t280 t283) else (none)) else (none)) else (spec_keFar.l2 k3 y297 x5_3 y298 x9_2 t285 (t285.length:Int) (wrap64 (x59_3+1)) a0_0 l0_1 a0_2 t280 t283)) else (none)) else (none)) else (none))=some (r1,r2):=by first|(rw[hy298];with_reducible exact H)|(have H2_:=(Option.bind_some _ _).symm.trans H;rw[hy298];with_reducible exact H2_)|(have H2_:=(Option.bind_some _ _).symm.trans H;with_reducible exact H2_)|with_reducible exact H|(rw[hy298];exact H)|exact H
                           have Ny298:=am' hy298;clear hy298;by_cases c70:x9_2 < (y298.length:Int)
                           ·
                            rw[if_pos c70] at H;have c70b0:decide (x9_2 < (y298.length:Int))=true:=dt' c70;clear c70;by_cases c71:0≤(rd y298 x9_2)
                            ·
                             rw[if_pos c71] at H;have c71b0:decide (0≤(rd y298 x9_2))=true:=dt' c71;clear c71;by_cases c72:(rd y298 x9_2) < (x4_3.length:Int)
                             ·
                              rw[if_pos c72] at H;have c72b0:decide ((rd y298 x9_2) < (x4_3.length:Int))=true:=dt' c72;clear c72;by_cases c73:(rd y297 t293)=(wrap64 ((rd y297 (rd y298 x9_2))+1))
                              ·
                               rw[if_pos c73] at H;have c73b0:((rd y297 t293) == (wrap64 ((rd y297 (rd y298 x9_2))+1)))=true:=beq_iff_eq.mpr c73;have c73b1:((rd y297 t293) != (wrap64 ((rd y297 (rd y298 x9_2))+1)))=false:=bne_eq_false_iff_eq.mpr c73;clear c73;by_cases c74:t293 < (x5_3.length:Int)
                               ·
                                rw[if_pos c74] at H;have c74b0:decide (t293 < (x5_3.length:Int))=true:=dt' c74;clear c74;by_cases c75:(rd y298 x9_2) < (x5_3.length:Int)
                                ·
                                 rw[if_pos c75] at H;have c75b0:decide ((rd y298 x9_2) < (x5_3.length:Int))=true:=dt' c75;clear c75;obtain ⟨y307,hy307⟩:∃ y_:List Int,y_=(x5_3.set (t293:Int).toNat (wrap64 ((rd x5_3 t293)+(rd x5_3 (rd y298 x9_2))))):=⟨_,rfl⟩
                                 replace H:(spec_keFar.l2 k3 y297 y307 y298 x9_2 t285 (t285.length:Int) (wrap64 (x59_3+1)) a0_0 l0_1 a0_2 t280 t283)=some (r1,r2):=by first|(rw[hy307];with_reducible exact H)|(have H2_:=(Option.bind_some _ _).symm.trans H;rw[hy307];with_reducible exact H2_)|(have H2_:=(Option.bind_some _ _).symm.trans H;with_reducible exact H2_)|with_reducible exact H|(rw[hy307];exact H)|exact H
                                 have Ny307:=am' hy307;clear hy307;have H':=am' H;clear H;have p288:0≤(x59_3:Int):=od' xa';have q288:x59_3 < (t285.length:Int):=od' xa';obtain ⟨ad288,A288_0,c288_0,e288,hx288_0,hl288_0,hi288_0⟩:=at_L1 (Kd.N_reads' HO_57.out).2.2 x59_3 p288 q288;cases e288;obtain ⟨ce288,hce288,hMe288,hcc288⟩:=Kd.N_get HO_57.out [] x59_3 p288 (by first|exact q288|exact od' xa'|(have e_:=(Kd.N_reads' HO_57.out).1;omega));obtain ⟨ua288_0,uc288_0,rfl,ul288_0,ge288_0⟩:=Kd.FK_slice_open hMe288;have hv288_0:=hcc288 0 _ rfl;rw[Nat.add_zero,show ((Kd.slice 3 (Kd.int .i64))).sz=1 from rfl,Nat.mul_one] at hv288_0;replace hv288_0:=os' (hv288_0.symm.trans hx288_0);injection hv288_0 with hva_ hvn_ hvc_
                                 rw[hva_] at ge288_0;rw[hvc_] at ul288_0;have HL288_0:=am' (show Kd.V (Kd.int .i64) 3 _ w.heap.size _ _ (rd_L1 t285 x59_3) from Kd.V_mk ul288_0 ge288_0);clear hva_ hvn_ hvc_ ge288_0 ul288_0;clear hcc288 hce288;have HR288_0:=am' hi288_0;have HC288_0:=am' hl288_0;clear hi288_0 hl288_0;replace p288:=eq_true p288;replace q288:=eq_true q288;have hnb77:=NB284_261.out;have hnc77:=NB261_284.out;have hcz78_0:wr.cell? ⟨gb284,0,none⟩=some (.slice Ao48 t280.length co48):=(bc' BK284.out 0).trans rfl;have hcz78_1:wr.cell? ⟨gb284,1,none⟩=some (.bool t283):=(bc' BK284.out 1).trans rfl;have hfz78_0:=bf' BK284.out 0;have hfz78_1:=bf' BK284.out 1
                                 try go_wp2_with (first|((with_reducible refine gate_callee (f:=76) rfl ?_);refine goesL_ (some 65) rfl rfl Try.func76 xk' rfl #[.agg #[.slice Ao48 t280.length co48, .bool t283], .slice A288_0 (rd_L1 t285 x59_3).length c288_0] rfl xl' ?_;(with_reducible refine (spec_keRide.calls k3 _ _ t280 t283 _ _ (rd_L1 t285 x59_3) t289 t292 _ ?side1 ?side2 ?side3 ?side4 A59.out).mono ?_);(case side1=>exact kc' ((Kd.R_reads' HO_285000.out).2.2));(case side2=>exact (Kd.R_reads' HO_285000.out).2.1);(case side3=>exact kc' (kx' HR288_0.out));(case side4=>exact HC288_0.out);rintro e w79 ⟨v290,rfl,ho0,hb⟩;refine ⟨_,rfl,?_⟩;have n0_:=am' (rb' (kr' HO_4.out) hb);have n1_:=am' (rb' (kr' HO_5.out) hb);have n2_:=am' (rb' (kr' HO_8.out) hb);have n3_:=am' (Kd.N_elder' (kN' HO_57.out) (Kd.R_base ho0) hb);have n4_:=am' (Kd.R_elder' (kr' HO_285000.out) (Kd.R_base ho0) hb);have n5_:=am' (Kd.V_elder' (kV' HL288_0.out) (Kd.R_base ho0) hb);have n6_:=am' (Kd.R_lower (Kd.R_new' ho0 (Kd.R_lt (kr' HO_285000.out))) (bz' (y2' GE261.out GE284.out)));have n7_:=am' (bb' (g:=gb261) (o := .cells #[.int .i64 a0_0, .slice A0_1 l0_1.length c0_1, .int .i64 a0_2] 32 (0,0)) (kk' BK261.out) hb);have n8_:=am' (bb' (g:=gb284) (o := .cells #[.slice Ao48 t280.length co48, .bool t283] 34 (0,0)) (kk' BK284.out) hb);have n9_:=am' (cb' (kx' HR288_0.out) hb);have n10_:=am' (bt' (y2' GE261.out GE284.out) hb);clear HO_4;clear HO_5;clear HO_8;clear HO_57;clear HO_285000;clear HL288_0;clear BK261;clear BK284;clear HR288_0;clear HB;have HO_4:=n0_;have HO_5:=n1_;have HO_8:=n2_;have HO_57:=n3_;have HO_285000:=n4_;have HL288_0:=n5_;have HO291:=n6_;have BK261:=n7_;have BK284:=n8_;have HR288_0:=n9_;have HB:=n10_;clear n0_ n1_ n2_ n3_ n4_ n5_ n6_ n7_ n8_ n9_ n10_;(try clear hb);(try clear hb2);(try clear hk);(try clear hi);(try clear ho0);obtain ⟨Ao80,co80,eo80⟩:=Kd.R_slice HO291.out;subst eo80)|((with_reducible refine gate_callee (f:=70) rfl ?_);refine goesL_ (some 66) rfl rfl Try.func70 xk' rfl #[.agg #[.slice Ao80 t289.length co80, .bool t292]] rfl xl' ?_;(with_reducible refine (spec_keIndex.calls k3 _ _ t289 t292 t293 _ ?side1 ?side2 A60.out).mono ?_);(case side1=>exact kc' ((Kd.R_reads' HO291.out).2.2));(case side2=>exact (Kd.R_reads' HO291.out).2.1);rintro e w81 ⟨rfl,hb⟩;refine ⟨_,rfl,?_⟩;have n0_:=am' (rb' (kr' HO_4.out) hb);have n1_:=am' (rb' (kr' HO_5.out) hb);have n2_:=am' (rb' (kr' HO_8.out) hb);have n3_:=am' (Kd.N_below (kN' HO_57.out) hb);have n4_:=am' (rb' (kr' HO_285000.out) hb);have n5_:=am' (Kd.V_below (kV' HL288_0.out) hb);have n6_:=am' (rb' (kr' HO291.out) hb);have n7_:=am' (bb' (g:=gb261) (o := .cells #[.int .i64 a0_0, .slice A0_1 l0_1.length c0_1, .int .i64 a0_2] 32 (0,0)) (kk' BK261.out) hb);have n8_:=am' (bb' (g:=gb284) (o := .cells #[.slice Ao48 t280.length co48, .bool t283] 34 (0,0)) (kk' BK284.out) hb);have n9_:=am' (cb' (kx' HR288_0.out) hb);have n10_:=am' (bt' (y2' GE261.out GE284.out) hb);clear HO_4;clear HO_5;clear HO_8;clear HO_57;clear HO_285000;clear HL288_0;clear HO291;clear BK261;clear BK284;clear HR288_0;clear HB;have HO_4:=n0_;have HO_5:=n1_;have HO_8:=n2_;have HO_57:=n3_;have HO_285000:=n4_;have HL288_0:=n5_;have HO291:=n6_;have BK261:=n7_;have BK284:=n8_;have HR288_0:=n9_;have HB:=n10_;clear n0_ n1_ n2_ n3_ n4_ n5_ n6_ n7_ n8_ n9_ n10_;(try clear hb);(try clear hb2);(try clear hk);(try clear hi);have p294:0≤(t293:Int):=od' xa';have q294:t293 < (x4_3.length:Int):=od' xa';obtain ⟨ad294,e294,hx294_0⟩:=Kd.at_int (Kd.R_reads' HO_4.out).2.2 t293 p294 q294;obtain rfl:(⟨go26,0,none⟩:Addr)=ad294:=(by injection e294);(first|simp only[add_plain] at hx294_0|simp only[add_at] at hx294_0|simp only[Addr.add,Nat.zero_add] at hx294_0|skip);replace p294:=eq_true p294;replace q294:=eq_true q294;obtain ⟨Ao82,co82,eo82⟩:=Kd.R_slice HO_8.out;subst eo82;have p295:0≤(x9_2:Int):=od' xa';have q295:x9_2 < (x8_3.length:Int):=od' xa';obtain ⟨ad295,e295,hx295_0⟩:=Kd.at_int (Kd.R_reads' HO_8.out).2.2 x9_2 p295 q295;cases e295;replace p295:=eq_true p295;replace q295:=eq_true q295;have p296:0≤((rd x8_3 x9_2):Int):=od' xa';have q296:(rd x8_3 x9_2) < (x4_3.length:Int):=od' xa';obtain ⟨ad296,e296,hx296_0⟩:=Kd.at_int (Kd.R_reads' HO_4.out).2.2 (rd x8_3 x9_2) p296 q296;obtain rfl:(⟨go26,0,none⟩:Addr)=ad296:=(by injection e296);(first|simp only[add_plain] at hx296_0|simp only[add_at] at hx296_0|simp only[Addr.add,Nat.zero_add] at hx296_0|skip);replace p296:=eq_true p296;replace q296:=eq_true q296;have p68:0≤(t293:Int):=od' xa';have q68:(t293:Int) < ((x4_3.length:Int):Int):=od' xa';obtain ⟨hx68_0,hf68_0⟩:=Kd.R_celln 0 HO_4.out (t293:Int) p68 q68;replace p68:=eq_true p68;replace q68:=eq_true q68;obtain ⟨hy83_,hz83_⟩:=Kd.R_celln 0 HO_4.out (t293:Int) (od' xa') (od' xa');have HP83:=Kd.R_putg HO_4.out (t293:Int) (wrap64 ((rd x4_3 (rd x8_3 x9_2))+1)))|((with_reducible refine gate_store (t:=3) (p:=82) rfl ?_);refine store_event (t:=3) (p:=82) (v:=?vo_w84) (w1:=(w81.setCell ⟨go26,(t293:Int).toNat,none⟩ (.int .i64 (wrap64 ((rd x4_3 (rd x8_3 x9_2))+1))))) ?hg ?ho ?hn ?hr ?_;(case ho=>rfl);(case hg=>rfl);(case hn=>rfl);(case hr=>first|(go_simp;done)|(go_simp;rfl));intro w84 hw;have hg:w81.grownBy w84 (some go26):=(by rw[hw];exact HP83.2);have hp_:Kd.R (Kd.int .i64) 3 w84 w.heap.size (fun k_=>some k_≠(.slice (some ⟨go28,0,none⟩) x5_3.length co28:Value).ownBlock∧some k_≠(.slice (some ad295) x8_3.length co82:Value).ownBlock) (.slice (some ⟨go26,0,none⟩) x4_3.length co15) y297:=(by rw[hw,Ny297.out];exact HP83.1);clear HP83;have n0_:=am' (hp_);have n1_:=am' (Kd.R_after (v:=(.slice (some ⟨go26,0,none⟩) x4_3.length co15)) (v1:=(.slice (some ⟨go26,0,none⟩) x4_3.length co15)) (ok:=(fun k_=>some k_≠(.slice (some ad295) x8_3.length co82:Value).ownBlock)) (by (with_reducible repeat (first|apply ra'|apply rn'|apply rw'));exact Kd.R_mono HO_5.out (fun _ hk=>⟨hk.2,hk.1⟩)) hg (.inl rfl));have n2_:=am' (Kd.R_after (v:=(.slice (some ⟨go26,0,none⟩) x4_3.length co15)) (v1:=(.slice (some ⟨go26,0,none⟩) x4_3.length co15)) (ok:=(fun k_=>some k_≠(.slice (some ⟨go28,0,none⟩) x5_3.length co28:Value).ownBlock)) (by (with_reducible repeat (first|apply ra'|apply rn'|apply rw'));exact Kd.R_mono HO_8.out (fun _ hk=>⟨hk.2,hk.1⟩)) hg (.inl rfl));have n3_:=am' (Kd.N_afterv (v:=(.slice (some ⟨go26,0,none⟩) x4_3.length co15)) (v1:=(.slice (some ⟨go26,0,none⟩) x4_3.length co15)) (ok:=(fun k_=>some k_≠(.slice (some ⟨go28,0,none⟩) x5_3.length co28:Value).ownBlock∧some k_≠(.slice (some ad295) x8_3.length co82:Value).ownBlock∧some k_≠(.slice Ao48 t280.length co48:Value).ownBlock∧some k_≠(.slice Ao80 t289.length co80:Value).ownBlock∧k_≠gb261∧k_≠gb284)) (by (with_reducible repeat (first|apply Kd.N_alloc|apply Kd.N_drewN|apply Kd.N_drew));exact Kd.N_mono HO_57.out (fun _ hk=>⟨⟨hk.1.2.1,⟨hk.1.2.2.1,⟨hk.1.2.2.2.1,⟨hk.2,⟨hk.1.2.2.2.2.1,hk.1.2.2.2.2.2⟩⟩⟩⟩⟩,hk.1.1⟩)) hg (.inl rfl));have n4_:=am' (Kd.R_over' (v:=(.slice (some ⟨go26,0,none⟩) x4_3.length co15)) (kr' HO_285000.out) (Kd.R_typed HO_4.out) (by decide) hg);have n5_:=am' (blk_grown (g:=gb261) (o := .cells #[.int .i64 a0_0, .slice A0_1 l0_1.length c0_1, .int .i64 a0_2] 32 (0,0)) (kk' BK261.out) hg (Kd.R_ne HO_4.out BK261.out (by decide)));have n6_:=am' (blk_grown (g:=gb284) (o := .cells #[.slice Ao48 t280.length co48, .bool t283] 34 (0,0)) (kk' BK284.out) hg (Kd.R_ne HO_4.out BK284.out (by decide)));have n7_:=am' (Kd.V_afterv (v:=(.slice (some ⟨go26,0,none⟩) x4_3.length co15)) (v1:=(.slice (some ⟨go26,0,none⟩) x4_3.length co15)) (ok:=(fun k_=>some k_≠(.slice (some ⟨go28,0,none⟩) x5_3.length co28:Value).ownBlock∧some k_≠(.slice (some ad295) x8_3.length co82:Value).ownBlock∧some k_≠(.slice (some ad288) t285.length co55:Value).ownBlock∧some k_≠(.slice Ao48 t280.length co48:Value).ownBlock∧some k_≠(.slice Ao80 t289.length co80:Value).ownBlock∧k_≠gb261∧k_≠gb284)) (by (with_reducible repeat (first|apply Kd.V_alloc|apply Kd.V_drewN|apply Kd.V_drew));exact Kd.V_mono HL288_0.out (fun _ hk=>⟨⟨hk.1.1.2.1,⟨hk.1.1.2.2.1,⟨hk.1.2,⟨hk.1.1.2.2.2.1,⟨hk.2,⟨hk.1.1.2.2.2.2.1,hk.1.1.2.2.2.2.2⟩⟩⟩⟩⟩⟩,hk.1.1.1⟩)) hg (.inl rfl));have n8_:=am' (Kd.R_over' (v:=(.slice (some ⟨go26,0,none⟩) x4_3.length co15)) (kr' HO291.out) (Kd.R_typed HO_4.out) (by decide) hg);have n9_:=am' ((by rw[hw];exact bs' (HB.out) GB26.out:Below w.heap.size w w84));clear HO_4;clear HO_5;clear HO_8;clear HO_57;clear HO_285000;clear BK261;clear BK284;clear HL288_0;clear HO291;clear HB;have HO_4:=n0_;have HO_5:=n1_;have HO_8:=n2_;have HO_57:=n3_;have HO_285000:=n4_;have BK261:=n5_;have BK284:=n6_;have HL288_0:=n7_;have HO291:=n8_;have HB:=n9_;clear n0_ n1_ n2_ n3_ n4_ n5_ n6_ n7_ n8_ n9_;clear hg hw hp_)|((with_reducible refine gate_builtin (b := .append) (xs:=#[.tmp 83, .tmp 85]) rfl ?_);at_builtin;refine Kd.R_append (Kd.int .i64) (w0:=w) w.heap.size rfl (.tmp 83) (.tmp 85) 43 3 (.int .i64 0) 8 rfl Try.underlying43 info3 rfl (by decide) (by omega) (.slice (some ad295) x8_3.length co82) x8_3 t293 [.int .i64 t293] (fun k_=>some k_≠(.slice (some ⟨go26,0,none⟩) x4_3.length co15:Value).ownBlock∧some k_≠(.slice (some ⟨go28,0,none⟩) x5_3.length co28:Value).ownBlock) (fun _=>False) rfl rfl ?aP (fun _ hk=>hk.elim) ?aF ?aO ?aB ?aS ?aL ?_;(case aP=>exact rfl);(case aB=>exact (y2' GE261.out GE284.out));(case aF=>exact (fun k_ hk=>⟨Kd.fresh' (Kd.R_lt (kr' HO_4.out)) k_ hk,Kd.fresh' (Kd.R_lt (kr' HO_5.out)) k_ hk⟩));(case aO=>exact (by (with_reducible repeat (first|apply ra'|apply rn'|apply rw'));exact Kd.R_mono HO_8.out (fun _ hk=>⟨hk.2,hk.1⟩)));(case aS=>exact (bz' (y2' GE261.out GE284.out)));(case aL=>have:=LMc69.out;omega);intro v299 w85 ho hb hg hat;rw[← Ny298.out] at ho;have n0_:=am' (Kd.R_after (ok:=(fun k_=>some k_≠(.slice (some ⟨go28,0,none⟩) x5_3.length co28:Value).ownBlock)) (kr' HO_4.out) hg hat);have n1_:=am' (Kd.R_after (ok:=(fun k_=>some k_≠(.slice (some ⟨go26,0,none⟩) x4_3.length co15:Value).ownBlock)) (by (with_reducible repeat (first|apply ra'|apply rn'|apply rw'));exact Kd.R_mono HO_5.out (fun _ hk=>⟨hk.2,hk.1⟩)) hg hat);have n2_:=am' (Kd.N_afterv (ok:=(fun k_=>some k_≠(.slice (some ⟨go26,0,none⟩) x4_3.length co15:Value).ownBlock∧some k_≠(.slice (some ⟨go28,0,none⟩) x5_3.length co28:Value).ownBlock∧some k_≠(.slice Ao48 t280.length co48:Value).ownBlock∧some k_≠(.slice Ao80 t289.length co80:Value).ownBlock∧k_≠gb261∧k_≠gb284)) (by (with_reducible repeat (first|apply Kd.N_alloc|apply Kd.N_drewN|apply Kd.N_drew));exact Kd.N_mono HO_57.out (fun _ hk=>⟨⟨hk.2,⟨hk.1.1,⟨hk.1.2.2.1,⟨hk.1.2.2.2.1,⟨hk.1.2.2.2.2.1,hk.1.2.2.2.2.2⟩⟩⟩⟩⟩,hk.1.2.1⟩)) hg hat);have n3_:=am' (Kd.R_over' (kr' HO_285000.out) (Kd.R_typed (kr' HO_8.out)) (by decide) hg);have n4_:=am' (blk_grown (g:=gb261) (o := .cells #[.int .i64 a0_0, .slice A0_1 l0_1.length c0_1, .int .i64 a0_2] 32 (0,0)) (kk' BK261.out) hg (Kd.R_ne HO_8.out BK261.out (by decide)));have n5_:=am' (blk_grown (g:=gb284) (o := .cells #[.slice Ao48 t280.length co48, .bool t283] 34 (0,0)) (kk' BK284.out) hg (Kd.R_ne HO_8.out BK284.out (by decide)));have n6_:=am' (Kd.V_afterv (ok:=(fun k_=>some k_≠(.slice (some ⟨go26,0,none⟩) x4_3.length co15:Value).ownBlock∧some k_≠(.slice (some ⟨go28,0,none⟩) x5_3.length co28:Value).ownBlock∧some k_≠(.slice (some ad288) t285.length co55:Value).ownBlock∧some k_≠(.slice Ao48 t280.length co48:Value).ownBlock∧some k_≠(.slice Ao80 t289.length co80:Value).ownBlock∧k_≠gb261∧k_≠gb284)) (by (with_reducible repeat (first|apply Kd.V_alloc|apply Kd.V_drewN|apply Kd.V_drew));exact Kd.V_mono HL288_0.out (fun _ hk=>⟨⟨hk.2,⟨hk.1.1,⟨hk.1.2.2.1,⟨hk.1.2.2.2.1,⟨hk.1.2.2.2.2.1,⟨hk.1.2.2.2.2.2.1,hk.1.2.2.2.2.2.2⟩⟩⟩⟩⟩⟩,hk.1.2.1⟩)) hg hat);have n7_:=am' (Kd.R_over' (kr' HO291.out) (Kd.R_typed (kr' HO_8.out)) (by decide) hg);have n8_:=am' (hb);have n9_:=am' (ho);clear HO_4;clear HO_5;clear HO_57;clear HO_285000;clear BK261;clear BK284;clear HL288_0;clear HO291;clear HB;clear HO_8;have HO_4:=n0_;have HO_5:=n1_;have HO_57:=n2_;have HO_285000:=n3_;have BK261:=n4_;have BK284:=n5_;have HL288_0:=n6_;have HO291:=n7_;have HB:=n8_;have HO300:=n9_;clear n0_ n1_ n2_ n3_ n4_ n5_ n6_ n7_ n8_ n9_;clear ho hb hg hat))
                                 have n0_:=am' (rw' HO_4.out);have n1_:=am' (rw' HO_5.out);have n2_:=am' (Kd.N_drew HO_57.out);have n3_:=am' (rw' HO_285000.out);have n4_:=am' (Kd.V_drew HL288_0.out);have n5_:=am' (rw' HO291.out);have n6_:=am' (rw' HO300.out);have n7_:=am' (kd' BK261.out);have n8_:=am' (kd' BK284.out);have n9_:=am' (be' HB.out);clear HO_4;clear HO_5;clear HO_57;clear HO_285000;clear HL288_0;clear HO291;clear HO300;clear BK261;clear BK284;clear HB;have HO_4:=n0_;have HO_5:=n1_;have HO_57:=n2_;have HO_285000:=n3_;have HL288_0:=n4_;have HO291:=n5_;have HO300:=n6_;have BK261:=n7_;have BK284:=n8_;have HB:=n9_;clear n0_ n1_ n2_ n3_ n4_ n5_ n6_ n7_ n8_ n9_;have p301:0≤(t293:Int):=od' xa';have q301:t293 < (y297.length:Int):=(by have h_:(t293:Int) < ((x4_3.length:Int):Int):=od' xa';first|(have e_:=(Kd.R_reads' HO_4.out).1;omega)|simpa only [Ny297.out,List.length_set] using h_)
                                 have ql301:((t293:Int) < ((x4_3.length:Int):Int))=True:=eq_true (od' xa');obtain ⟨ad301,e301,hx301_0⟩:=Kd.at_int (Kd.R_reads' HO_4.out).2.2 t293 p301 q301;obtain rfl:(⟨go26,0,none⟩:Addr)=ad301:=(by injection e301)
                                 (first|simp only[add_plain] at hx301_0|simp only[add_at] at hx301_0|simp only[Addr.add,Nat.zero_add] at hx301_0|skip)
                                 replace p301:=eq_true p301;replace q301:=eq_true q301;obtain ⟨Ao87,co87,eo87⟩:=Kd.R_slice HO300.out
                                 (first|subst eo87|(injection eo87 with f1_ f2_ f3_;have f4_:=f1_.symm;have f5_:=f3_.symm;clear f1_ f2_ f3_;subst f4_;subst f5_))
                                 have p302:0≤(x9_2:Int):=od' xa';have q302:x9_2 < (y298.length:Int):=od' xa';obtain ⟨ad302,e302,hx302_0⟩:=Kd.at_int (Kd.R_reads' HO300.out).2.2 x9_2 p302 q302;cases e302;replace p302:=eq_true p302;replace q302:=eq_true q302;have p303:0≤((rd y298 x9_2):Int):=od' xa';have q303:(rd y298 x9_2) < (y297.length:Int):=(by have h_:((rd y298 x9_2):Int) < ((x4_3.length:Int):Int):=od' xa';first|(have e_:=(Kd.R_reads' HO_4.out).1;omega)|simpa only [Ny297.out,List.length_set] using h_)
                                 have ql303:(((rd y298 x9_2):Int) < ((x4_3.length:Int):Int))=True:=eq_true (od' xa');obtain ⟨ad303,e303,hx303_0⟩:=Kd.at_int (Kd.R_reads' HO_4.out).2.2 (rd y298 x9_2) p303 q303;obtain rfl:(⟨go26,0,none⟩:Addr)=ad303:=(by injection e303)
                                 (first|simp only[add_plain] at hx303_0|simp only[add_at] at hx303_0|simp only[Addr.add,Nat.zero_add] at hx303_0|skip)
                                 replace p303:=eq_true p303;replace q303:=eq_true q303;refine start_ (n:=13) (S:=fun w'=>w'.cell? ⟨go26,(t293).toNat,none⟩=some (.int .i64 (rd y297 t293))∧w'.cell? (ad302.add (x9_2).toNat)=some (.int .i64 (rd y298 x9_2))∧w'.cell? ⟨go26,((rd y298 x9_2)).toNat,none⟩=some (.int .i64 (rd y297 (rd y298 x9_2)))) (ds:=[]) #[false,false,false,false,false,false,false,false,false,false,false,false,false] xk' rfl rfl ⟨hx301_0,hx302_0,hx303_0⟩ (fun hHeld=>?_);refine with_tabW spec_keFar.tab22 spec_keFar.bits22 (fun HT_ HW_=>?_);generalize w85.drew=w86 at HO_4 HO_5 HO_57 HO_285000 HL288_0 HO291 HO300 BK261 BK284 HB hx301_0 hx302_0 hx303_0 hHeld ⊢
                                 refine pure_ (i:=0) (N:=some 87) (v:=?_) (a':=?_) #[true,false,false,false,false,false,false,false,false,false,false,false,false] rfl rfl (any_of HT_.out xk') (fun _ _ _ h=>h) (Or.inl ⟨by rfl,?_⟩) ?_ ?_
                                 rotate_left
                                 ·
                                  intro w';go_simp;with_reducible rfl
                                 rotate_left
                                 ·
                                  simp only[Act.put,sa',sb',sc',i64_w,i32_w];rfl
                                 refine pure_ (i:=1) (N:=some 88) (v:=?_) (a':=?_) #[true,true,false,false,false,false,false,false,false,false,false,false,false] rfl rfl (any_of HT_.out xk') (fun _ _ _ h=>h) (Or.inl ⟨by rfl,?_⟩) ?_ ?_
                                 rotate_left
                                 ·
                                  intro w';go_simp;with_reducible rfl
                                 rotate_left
                                 ·
                                  simp only[Act.put,sa',sb',sc',i64_w,i32_w];rfl
                                 refine pure_ (i:=2) (N:=some 89) (v:=?_) (a':=?_) #[true,true,true,false,false,false,false,false,false,false,false,false,false] rfl rfl (any_of HT_.out xk') (fun _ _ _ h=>h) (Or.inl ⟨by rfl,?_⟩) ?_ ?_
                                 rotate_left
                                 ·
                                  intro w';go_simp;with_reducible rfl
                                 rotate_left
                                 ·
                                  simp only[Act.put,sa',sb',sc',i64_w,i32_w];rfl
                                 refine pure_ (i:=4) (N:=some 91) (v:=?_) (a':=?_) #[true,true,true,false,true,false,false,false,false,false,false,false,false] rfl rfl (any_of HT_.out xk') (fun _ _ _ h=>h) (Or.inl ⟨by rfl,?_⟩) ?_ ?_
                                 rotate_left
                                 ·
                                  intro w';go_simp;with_reducible rfl
                                 rotate_left
                                 ·
                                  simp only[Act.put,sa',sb',sc',i64_w,i32_w];rfl
                                 refine pure_ (i:=5) (N:=some 92) (v:=?_) (a':=?_) #[true,true,true,false,true,true,false,false,false,false,false,false,false] rfl rfl (any_of HT_.out xk') (fun _ _ _ h=>h) (Or.inl ⟨by rfl,?_⟩) ?_ ?_
                                 rotate_left
                                 ·
                                  intro w';go_simp;with_reducible rfl
                                 rotate_left
                                 ·
                                  simp only[Act.put,sa',sb',sc',i64_w,i32_w];rfl
                                 refine pure_ (i:=6) (N:=some 93) (v:=?_) (a':=?_) #[true,true,true,false,true,true,true,false,false,false,false,false,false] rfl rfl (any_of HT_.out xk') (fun _ _ _ h=>h) (Or.inl ⟨by rfl,?_⟩) ?_ ?_
                                 rotate_left
                                 ·
                                  intro w';go_simp;with_reducible rfl
                                 rotate_left
                                 ·
                                  simp only[Act.put,sa',sb',sc',i64_w,i32_w];rfl
                                 refine pure_ (i:=7) (N:=some 94) (v:=?_) (a':=?_) #[true,true,true,false,true,true,true,true,false,false,false,false,false] rfl rfl (any_of HT_.out xk') (fun _ _ _ h=>h) (Or.inl ⟨by rfl,?_⟩) ?_ ?_
                                 rotate_left
                                 ·
                                  intro w';go_simp;with_reducible rfl
                                 rotate_left
                                 ·
                                  simp only[Act.put,sa',sb',sc',i64_w,i32_w];rfl
                                 refine take_ (i:=3) (N:=some 90) (v:=?_) (a':=?_) #[true,true,true,true,true,true,true,true,false,false,false,false,false] rfl rfl (take_ofW HT_.out HW_.out xk') (fun _ _ _ h=>h) (Or.inl ⟨by rfl,?_⟩) hHeld ?_ ?_
                                 rotate_left
                                 ·
                                  rintro w' ⟨s0,s1,s2⟩
                                  go_simp;with_reducible rfl
                                 rotate_left
                                 ·
                                  simp only[Act.put,sa',sb',sc',i64_w,i32_w];rfl
                                 refine take_ (i:=8) (N:=some 95) (v:=?_) (a':=?_) #[true,true,true,true,true,true,true,true,true,false,false,false,false] rfl rfl (take_ofW HT_.out HW_.out xk') (fun _ _ _ h=>h) (Or.inl ⟨by rfl,?_⟩) hHeld ?_ ?_
                                 rotate_left
                                 ·
                                  rintro w' ⟨s0,s1,s2⟩
                                  go_simp;with_reducible rfl
                                 rotate_left
                                 ·
                                  simp only[Act.put,sa',sb',sc',i64_w,i32_w];rfl
                                 refine pure_ (i:=9) (N:=some 96) (v:=?_) (a':=?_) #[true,true,true,true,true,true,true,true,true,true,false,false,false] rfl rfl (any_of HT_.out xk') (fun _ _ _ h=>h) (Or.inl ⟨by rfl,?_⟩) ?_ ?_
                                 rotate_left
                                 ·
                                  intro w';go_simp;with_reducible rfl
                                 rotate_left
                                 ·
                                  simp only[Act.put,sa',sb',sc',i64_w,i32_w];rfl
                                 refine take_ (i:=10) (N:=some 97) (v:=?_) (a':=?_) #[true,true,true,true,true,true,true,true,true,true,true,false,false] rfl rfl (take_ofW HT_.out HW_.out xk') (fun _ _ _ h=>h) (Or.inl ⟨by rfl,?_⟩) hHeld ?_ ?_
                                 rotate_left
                                 ·
                                  rintro w' ⟨s0,s1,s2⟩
                                  go_simp;with_reducible rfl
                                 rotate_left
                                 ·
                                  simp only[Act.put,sa',sb',sc',i64_w,i32_w];rfl
                                 refine pure_ (i:=11) (N:=some 98) (v:=?_) (a':=?_) #[true,true,true,true,true,true,true,true,true,true,true,true,false] rfl rfl (any_of HT_.out xk') (fun _ _ _ h=>h) (Or.inl ⟨by rfl,?_⟩) ?_ ?_
                                 rotate_left
                                 ·
                                  intro w';go_simp;with_reducible rfl
                                 rotate_left
                                 ·
                                  simp only[Act.put,sa',sb',sc',i64_w,i32_w];rfl
                                 refine pure_ (i:=12) (N:=some 99) (v:=?_) (a':=?_) #[true,true,true,true,true,true,true,true,true,true,true,true,true] rfl rfl (any_of HT_.out xk') (fun _ _ _ h=>h) (Or.inl ⟨by rfl,?_⟩) ?_ ?_
                                 rotate_left
                                 ·
                                  intro w';go_simp;with_reducible rfl
                                 rotate_left
                                 ·
                                  simp only[Act.put,sa',sb',sc',i64_w,i32_w];rfl
                                 refine done_ (done_of HT_.out xk') ?_
                                 try go_wp2
                                 have n0_:=am' (rw' HO_4.out);have n1_:=am' (rw' HO_5.out);have n2_:=am' (Kd.N_drew HO_57.out);have n3_:=am' (rw' HO_285000.out);have n4_:=am' (Kd.V_drew HL288_0.out);have n5_:=am' (rw' HO291.out);have n6_:=am' (rw' HO300.out);have n7_:=am' (kd' BK261.out);have n8_:=am' (kd' BK284.out);have n9_:=am' (be' HB.out);clear HO_4;clear HO_5;clear HO_57;clear HO_285000;clear HL288_0;clear HO291;clear HO300;clear BK261;clear BK284;clear HB;have HO_4:=n0_;have HO_5:=n1_;have HO_57:=n2_;have HO_285000:=n3_;have HL288_0:=n4_;have HO291:=n5_;have HO300:=n6_;have BK261:=n7_;have BK284:=n8_;have HB:=n9_;clear n0_ n1_ n2_ n3_ n4_ n5_ n6_ n7_ n8_ n9_;have p304:0≤(t293:Int):=od' xa';have q304:t293 < (x5_3.length:Int):=od' xa';obtain ⟨ad304,e304,hx304_0⟩:=Kd.at_int (Kd.R_reads' HO_5.out).2.2 t293 p304 q304;obtain rfl:(⟨go28,0,none⟩:Addr)=ad304:=(by injection e304)
                                 (first|simp only[add_plain] at hx304_0|simp only[add_at] at hx304_0|simp only[Addr.add,Nat.zero_add] at hx304_0|skip)
                                 replace p304:=eq_true p304;replace q304:=eq_true q304;have p305:0≤(x9_2:Int):=od' xa';have q305:x9_2 < (y298.length:Int):=od' xa';obtain ⟨ad305,e305,hx305_0⟩:=Kd.at_int (Kd.R_reads' HO300.out).2.2 x9_2 p305 q305;obtain rfl:ad302=ad305:=(by injection e305)
                                 replace p305:=eq_true p305;replace q305:=eq_true q305;have p306:0≤((rd y298 x9_2):Int):=od' xa';have q306:(rd y298 x9_2) < (x5_3.length:Int):=od' xa';obtain ⟨ad306,e306,hx306_0⟩:=Kd.at_int (Kd.R_reads' HO_5.out).2.2 (rd y298 x9_2) p306 q306;obtain rfl:(⟨go28,0,none⟩:Addr)=ad306:=(by injection e306)
                                 (first|simp only[add_plain] at hx306_0|simp only[add_at] at hx306_0|simp only[Addr.add,Nat.zero_add] at hx306_0|skip)
                                 replace p306:=eq_true p306;replace q306:=eq_true q306;have p76:0≤(t293:Int):=od' xa';have q76:(t293:Int) < ((x5_3.length:Int):Int):=od' xa';obtain ⟨hx76_0,hf76_0⟩:=Kd.R_celln 0 HO_5.out (t293:Int) p76 q76;replace p76:=eq_true p76;replace q76:=eq_true q76;have HP89:=Kd.R_putn HO_5.out (t293:Int) (wrap64 ((rd x5_3 t293)+(rd x5_3 (rd y298 x9_2))));rw[← Ny307.out] at HP89;have HQ89:=am' HP89;clear HP89;refine start_ (n:=14) (S:=fun w'=>w'.cell? ⟨go28,(t293).toNat,none⟩=some (.int .i64 (rd x5_3 t293))∧w'.cell? (ad302.add (x9_2).toNat)=some (.int .i64 (rd y298 x9_2))∧w'.cell? ⟨go28,((rd y298 x9_2)).toNat,none⟩=some (.int .i64 (rd x5_3 (rd y298 x9_2)))) (ds:=[13]) #[false,false,false,false,false,false,false,false,false,false,false,false,false,false] xk' rfl rfl ⟨hx304_0,hx305_0,hx306_0⟩ (fun hHeld=>?_);refine with_tabW spec_keFar.tab23 spec_keFar.bits23 (fun HT_ HW_=>?_);generalize w86.drew=w88 at HO_4 HO_5 HO_57 HO_285000 HL288_0 HO291 HO300 BK261 BK284 HB HQ89 hf76_0 hx304_0 hx305_0 hx306_0 hx76_0 hHeld ⊢
                                 refine pure_ (i:=0) (N:=some 100) (v:=?_) (a':=?_) #[true,false,false,false,false,false,false,false,false,false,false,false,false,false] rfl rfl (any_of HT_.out xk') (fun _ _ _ h=>h) (Or.inl ⟨by rfl,?_⟩) ?_ ?_
                                 rotate_left
                                 ·
                                  intro w';go_simp;with_reducible rfl
                                 rotate_left
                                 ·
                                  simp only[Act.put,sa',sb',sc',i64_w,i32_w];rfl
                                 refine pure_ (i:=1) (N:=some 101) (v:=?_) (a':=?_) #[true,true,false,false,false,false,false,false,false,false,false,false,false,false] rfl rfl (any_of HT_.out xk') (fun _ _ _ h=>h) (Or.inl ⟨by rfl,?_⟩) ?_ ?_
                                 rotate_left
                                 ·
                                  intro w';go_simp;with_reducible rfl
                                 rotate_left
                                 ·
                                  simp only[Act.put,sa',sb',sc',i64_w,i32_w];rfl
                                 refine pure_ (i:=2) (N:=some 102) (v:=?_) (a':=?_) #[true,true,true,false,false,false,false,false,false,false,false,false,false,false] rfl rfl (any_of HT_.out xk') (fun _ _ _ h=>h) (Or.inl ⟨by rfl,?_⟩) ?_ ?_
                                 rotate_left
                                 ·
                                  intro w';go_simp;with_reducible rfl
                                 rotate_left
                                 ·
                                  simp only[Act.put,sa',sb',sc',i64_w,i32_w];rfl
                                 refine pure_ (i:=4) (N:=some 104) (v:=?_) (a':=?_) #[true,true,true,false,true,false,false,false,false,false,false,false,false,false] rfl rfl (any_of HT_.out xk') (fun _ _ _ h=>h) (Or.inl ⟨by rfl,?_⟩) ?_ ?_
                                 rotate_left
                                 ·
                                  intro w';go_simp;with_reducible rfl
                                 rotate_left
                                 ·
                                  simp only[Act.put,sa',sb',sc',i64_w,i32_w];rfl
                                 refine pure_ (i:=5) (N:=some 105) (v:=?_) (a':=?_) #[true,true,true,false,true,true,false,false,false,false,false,false,false,false] rfl rfl (any_of HT_.out xk') (fun _ _ _ h=>h) (Or.inl ⟨by rfl,?_⟩) ?_ ?_
                                 rotate_left
                                 ·
                                  intro w';go_simp;with_reducible rfl
                                 rotate_left
                                 ·
                                  simp only[Act.put,sa',sb',sc',i64_w,i32_w];rfl
                                 refine pure_ (i:=6) (N:=some 106) (v:=?_) (a':=?_) #[true,true,true,false,true,true,true,false,false,false,false,false,false,false] rfl rfl (any_of HT_.out xk') (fun _ _ _ h=>h) (Or.inl ⟨by rfl,?_⟩) ?_ ?_
                                 rotate_left
                                 ·
                                  intro w';go_simp;with_reducible rfl
                                 rotate_left
                                 ·
                                  simp only[Act.put,sa',sb',sc',i64_w,i32_w];rfl
                                 refine pure_ (i:=7) (N:=some 107) (v:=?_) (a':=?_) #[true,true,true,false,true,true,true,true,false,false,false,false,false,false] rfl rfl (any_of HT_.out xk') (fun _ _ _ h=>h) (Or.inl ⟨by rfl,?_⟩) ?_ ?_
                                 rotate_left
                                 ·
                                  intro w';go_simp;with_reducible rfl
                                 rotate_left
                                 ·
                                  simp only[Act.put,sa',sb',sc',i64_w,i32_w];rfl
                                 refine take_ (i:=3) (N:=some 103) (v:=?_) (a':=?_) #[true,true,true,true,true,true,true,true,false,false,false,false,false,false] rfl rfl (take_ofW HT_.out HW_.out xk') (fun _ _ _ h=>h) (Or.inl ⟨by rfl,?_⟩) hHeld ?_ ?_
                                 rotate_left
                                 ·
                                  rintro w' ⟨s0,s1,s2⟩
                                  go_simp;with_reducible rfl
                                 rotate_left
                                 ·
                                  simp only[Act.put,sa',sb',sc',i64_w,i32_w];rfl
                                 refine take_ (i:=8) (N:=some 108) (v:=?_) (a':=?_) #[true,true,true,true,true,true,true,true,true,false,false,false,false,false] rfl rfl (take_ofW HT_.out HW_.out xk') (fun _ _ _ h=>h) (Or.inl ⟨by rfl,?_⟩) hHeld ?_ ?_
                                 rotate_left
                                 ·
                                  rintro w' ⟨s0,s1,s2⟩
                                  go_simp;with_reducible rfl
                                 rotate_left
                                 ·
                                  simp only[Act.put,sa',sb',sc',i64_w,i32_w];rfl
                                 refine pure_ (i:=9) (N:=some 109) (v:=?_) (a':=?_) #[true,true,true,true,true,true,true,true,true,true,false,false,false,false] rfl rfl (any_of HT_.out xk') (fun _ _ _ h=>h) (Or.inl ⟨by rfl,?_⟩) ?_ ?_
                                 rotate_left
                                 ·
                                  intro w';go_simp;with_reducible rfl
                                 rotate_left
                                 ·
                                  simp only[Act.put,sa',sb',sc',i64_w,i32_w];rfl
                                 refine take_ (i:=10) (N:=some 110) (v:=?_) (a':=?_) #[true,true,true,true,true,true,true,true,true,true,true,false,false,false] rfl rfl (take_ofW HT_.out HW_.out xk') (fun _ _ _ h=>h) (Or.inl ⟨by rfl,?_⟩) hHeld ?_ ?_
                                 rotate_left
                                 ·
                                  rintro w' ⟨s0,s1,s2⟩
                                  go_simp;with_reducible rfl
                                 rotate_left
                                 ·
                                  simp only[Act.put,sa',sb',sc',i64_w,i32_w];rfl
                                 refine pure_ (i:=11) (N:=some 111) (v:=?_) (a':=?_) #[true,true,true,true,true,true,true,true,true,true,true,true,false,false] rfl rfl (any_of HT_.out xk') (fun _ _ _ h=>h) (Or.inl ⟨by rfl,?_⟩) ?_ ?_
                                 rotate_left
                                 ·
                                  intro w';go_simp;with_reducible rfl
                                 rotate_left
                                 ·
                                  simp only[Act.put,sa',sb',sc',i64_w,i32_w];rfl
                                 refine pure_ (i:=12) (N:=some 112) (v:=?_) (a':=?_) #[true,true,true,true,true,true,true,true,true,true,true,true,true,false] rfl rfl (any_of HT_.out xk') (fun _ _ _ h=>h) (Or.inl ⟨by rfl,?_⟩) ?_ ?_
                                 rotate_left
                                 ·
                                  intro w';go_simp;with_reducible rfl
                                 rotate_left
                                 ·
                                  simp only[Act.put,sa',sb',sc',i64_w,i32_w];rfl
                                 refine last_ (i:=13) (N:=none) #[true,true,true,true,true,true,true,true,true,true,true,true,true,true] rfl rfl (one_of HT_.out xk') (by decide) (fun K hK=>?_);refine skip_ (w1:=?_) (by rfl) rfl ?_ ?_
                                 rotate_left
                                 ·
                                  go_simp;rfl
                                 refine hK.out _ _ ?_
                                 clear hK K;refine done_ (done_of HT_.out xk') ?_
                                 try go_wp2
                                 (try simp only[← hl4_3,← hl5_3])
                                 go_roundg k3
                                 case measure=>have:=HK1.out;have:=HK2.out;have:=HK3.out;omega
                                 case rel=>obtain ⟨cq_,GQ_⟩:=Kd.R_typed HO_5.out _ rfl;exact ⟨(y297),(y307),(y298),(wrap64 (x59_3+1)),xs',H',⟨by have:=HK1.out;have:=HK2.out;have:=HK3.out;omega⟩,⟨by (try simp only[hl4_1]);(try simp only[hl4_2]);(try simp only[hl5_2]);(try simp only[hl4_3]);(try simp only[hl5_3]);(with_reducible repeat (first|apply ra'|apply rn'|apply rw'));exact Kd.R_mono (Kd.R_far (p:=⟨go28,(t293:Int).toNat,none⟩) (Kd.R_mono HO_4.out (fun k_ hk=>(⟨hk,fun e_=>hk.1 (by rw[e_];rfl)⟩:_∧k_≠go28))) (fun _ hk=>hk.2) (.int .i64 (wrap64 ((rd x5_3 t293)+(rd x5_3 (rd y298 x9_2)))))) (fun _ hk=>⟨hk.1.1,hk.1.2⟩)⟩,⟨by (try simp only[hl4_1]);(try simp only[hl4_2]);(try simp only[hl5_2]);(try simp only[hl4_3]);(try simp only[hl5_3]);(with_reducible repeat (first|apply ra'|apply rn'|apply rw'));exact HQ89.out⟩,⟨by (try simp only[hl4_1]);(try simp only[hl4_2]);(try simp only[hl5_2]);(try simp only[hl4_3]);(try simp only[hl5_3]);(with_reducible repeat (first|apply ra'|apply rn'|apply rw'));exact Kd.R_mono (Kd.R_far (p:=⟨go28,(t293:Int).toNat,none⟩) (Kd.R_mono HO300.out (fun k_ hk=>(⟨hk,fun e_=>hk.2 (by rw[e_];rfl)⟩:_∧k_≠go28))) (fun _ hk=>hk.2) (.int .i64 (wrap64 ((rd x5_3 t293)+(rd x5_3 (rd y298 x9_2)))))) (fun _ hk=>⟨hk.1.1,hk.1.2⟩)⟩,⟨by (try simp only[hl4_1]);(try simp only[hl4_2]);(try simp only[hl5_2]);(try simp only[hl4_3]);(try simp only[hl5_3]);(with_reducible repeat (first|apply Kd.N_alloc|apply Kd.N_drewN|apply Kd.N_drew));exact Kd.N_mono (Kd.N_far (p:=⟨go28,(t293:Int).toNat,none⟩) (Kd.N_mono HO_57.out (fun k_ hk=>(⟨hk,fun e_=>hk.1.2.1 (by rw[e_];rfl)⟩:_∧k_≠go28))) (fun _ hk=>hk.2) (.int .i64 (wrap64 ((rd x5_3 t293)+(rd x5_3 (rd y298 x9_2)))))) (fun _ hk=>⟨hk.1.1.1,⟨hk.1.1.2.1,⟨hk.1.2,⟨hk.1.1.2.2.1,⟨hk.1.1.2.2.2.2.1,hk.1.1.2.2.2.2.2⟩⟩⟩⟩⟩)⟩,⟨by (try simp only[hl4_1]);(try simp only[hl4_2]);(try simp only[hl5_2]);(try simp only[hl4_3]);(try simp only[hl5_3]);(with_reducible repeat (first|apply ra'|apply rn'|apply rw'));exact Kd.R_mono (Kd.R_far (p:=⟨go28,(t293:Int).toNat,none⟩) (Kd.R_types HO_285000.out GQ_ (by decide)) (fun _ hk=>hk.2) (.int .i64 (wrap64 ((rd x5_3 t293)+(rd x5_3 (rd y298 x9_2)))))) (fun _ hk=>trivial)⟩,⟨by (try simp only[hl4_1]);(try simp only[hl4_2]);(try simp only[hl5_2]);(try simp only[hl4_3]);(try simp only[hl5_3]);(with_reducible repeat (first|refine kn' ?_ _|refine kd' ?_|refine ka' ?_ _));refine blk_far ?_ (by have h_:=Kd.R_ne HO_5.out BK261.out (by decide);intro e_;exact h_ (by rw[e_];rfl)) _;(with_reducible repeat (first|refine kn' ?_ _|refine kd' ?_|refine ka' ?_ _));exact BK261.out⟩,⟨by (try simp only[hl4_1]);(try simp only[hl4_2]);(try simp only[hl5_2]);(try simp only[hl4_3]);(try simp only[hl5_3]);(with_reducible repeat (first|refine kn' ?_ _|refine kd' ?_|refine ka' ?_ _));refine blk_far ?_ (by have h_:=Kd.R_ne HO_5.out BK284.out (by decide);intro e_;exact h_ (by rw[e_];rfl)) _;(with_reducible repeat (first|refine kn' ?_ _|refine kd' ?_|refine ka' ?_ _));exact BK284.out⟩,⟨y3' GB28.out GE261.out GE284.out⟩⟩
                                ·
                                 rw[if_neg c75] at H;exact absurd H (by simp)
                               ·
                                rw[if_neg c74] at H;exact absurd H (by simp)
                              ·
                               rw[if_neg c73] at H;have c73b0:((rd y297 t293) == (wrap64 ((rd y297 (rd y298 x9_2))+1)))=false:=beq_eq_false_iff_ne.mpr c73;have c73b1:((rd y297 t293) != (wrap64 ((rd y297 (rd y298 x9_2))+1)))=true:=bne_iff_ne.mpr c73;have H':=am' H;clear H;have p288:0≤(x59_3:Int):=od' xa';have q288:x59_3 < (t285.length:Int):=od' xa';obtain ⟨ad288,A288_0,c288_0,e288,hx288_0,hl288_0,hi288_0⟩:=at_L1 (Kd.N_reads' HO_57.out).2.2 x59_3 p288 q288;cases e288;obtain ⟨ce288,hce288,hMe288,hcc288⟩:=Kd.N_get HO_57.out [] x59_3 p288 (by first|exact q288|exact od' xa'|(have e_:=(Kd.N_reads' HO_57.out).1;omega));obtain ⟨ua288_0,uc288_0,rfl,ul288_0,ge288_0⟩:=Kd.FK_slice_open hMe288;have hv288_0:=hcc288 0 _ rfl;rw[Nat.add_zero,show ((Kd.slice 3 (Kd.int .i64))).sz=1 from rfl,Nat.mul_one] at hv288_0;replace hv288_0:=os' (hv288_0.symm.trans hx288_0);injection hv288_0 with hva_ hvn_ hvc_
                               rw[hva_] at ge288_0;rw[hvc_] at ul288_0;have HL288_0:=am' (show Kd.V (Kd.int .i64) 3 _ w.heap.size _ _ (rd_L1 t285 x59_3) from Kd.V_mk ul288_0 ge288_0);clear hva_ hvn_ hvc_ ge288_0 ul288_0;clear hcc288 hce288;have HR288_0:=am' hi288_0;have HC288_0:=am' hl288_0;clear hi288_0 hl288_0;replace p288:=eq_true p288;replace q288:=eq_true q288;have hnb90:=NB284_261.out;have hnc90:=NB261_284.out;have hcz91_0:wr.cell? ⟨gb284,0,none⟩=some (.slice Ao48 t280.length co48):=(bc' BK284.out 0).trans rfl;have hcz91_1:wr.cell? ⟨gb284,1,none⟩=some (.bool t283):=(bc' BK284.out 1).trans rfl;have hfz91_0:=bf' BK284.out 0;have hfz91_1:=bf' BK284.out 1
                               try go_wp2_with (first|((with_reducible refine gate_callee (f:=76) rfl ?_);refine goesL_ (some 65) rfl rfl Try.func76 xk' rfl #[.agg #[.slice Ao48 t280.length co48, .bool t283], .slice A288_0 (rd_L1 t285 x59_3).length c288_0] rfl xl' ?_;(with_reducible refine (spec_keRide.calls k3 _ _ t280 t283 _ _ (rd_L1 t285 x59_3) t289 t292 _ ?side1 ?side2 ?side3 ?side4 A59.out).mono ?_);(case side1=>exact kc' ((Kd.R_reads' HO_285000.out).2.2));(case side2=>exact (Kd.R_reads' HO_285000.out).2.1);(case side3=>exact kc' (kx' HR288_0.out));(case side4=>exact HC288_0.out);rintro e w92 ⟨v290,rfl,ho0,hb⟩;refine ⟨_,rfl,?_⟩;have n0_:=am' (rb' (kr' HO_4.out) hb);have n1_:=am' (rb' (kr' HO_5.out) hb);have n2_:=am' (rb' (kr' HO_8.out) hb);have n3_:=am' (Kd.N_elder' (kN' HO_57.out) (Kd.R_base ho0) hb);have n4_:=am' (Kd.R_elder' (kr' HO_285000.out) (Kd.R_base ho0) hb);have n5_:=am' (Kd.V_elder' (kV' HL288_0.out) (Kd.R_base ho0) hb);have n6_:=am' (Kd.R_lower (Kd.R_new' ho0 (Kd.R_lt (kr' HO_285000.out))) (bz' (y2' GE261.out GE284.out)));have n7_:=am' (bb' (g:=gb261) (o := .cells #[.int .i64 a0_0, .slice A0_1 l0_1.length c0_1, .int .i64 a0_2] 32 (0,0)) (kk' BK261.out) hb);have n8_:=am' (bb' (g:=gb284) (o := .cells #[.slice Ao48 t280.length co48, .bool t283] 34 (0,0)) (kk' BK284.out) hb);have n9_:=am' (cb' (kx' HR288_0.out) hb);have n10_:=am' (bt' (y2' GE261.out GE284.out) hb);clear HO_4;clear HO_5;clear HO_8;clear HO_57;clear HO_285000;clear HL288_0;clear BK261;clear BK284;clear HR288_0;clear HB;have HO_4:=n0_;have HO_5:=n1_;have HO_8:=n2_;have HO_57:=n3_;have HO_285000:=n4_;have HL288_0:=n5_;have HO291:=n6_;have BK261:=n7_;have BK284:=n8_;have HR288_0:=n9_;have HB:=n10_;clear n0_ n1_ n2_ n3_ n4_ n5_ n6_ n7_ n8_ n9_ n10_;(try clear hb);(try clear hb2);(try clear hk);(try clear hi);(try clear ho0);obtain ⟨Ao93,co93,eo93⟩:=Kd.R_slice HO291.out;subst eo93)|((with_reducible refine gate_callee (f:=70) rfl ?_);refine goesL_ (some 66) rfl rfl Try.func70 xk' rfl #[.agg #[.slice Ao93 t289.length co93, .bool t292]] rfl xl' ?_;(with_reducible refine (spec_keIndex.calls k3 _ _ t289 t292 t293 _ ?side1 ?side2 A60.out).mono ?_);(case side1=>exact kc' ((Kd.R_reads' HO291.out).2.2));(case side2=>exact (Kd.R_reads' HO291.out).2.1);rintro e w94 ⟨rfl,hb⟩;refine ⟨_,rfl,?_⟩;have n0_:=am' (rb' (kr' HO_4.out) hb);have n1_:=am' (rb' (kr' HO_5.out) hb);have n2_:=am' (rb' (kr' HO_8.out) hb);have n3_:=am' (Kd.N_below (kN' HO_57.out) hb);have n4_:=am' (rb' (kr' HO_285000.out) hb);have n5_:=am' (Kd.V_below (kV' HL288_0.out) hb);have n6_:=am' (rb' (kr' HO291.out) hb);have n7_:=am' (bb' (g:=gb261) (o := .cells #[.int .i64 a0_0, .slice A0_1 l0_1.length c0_1, .int .i64 a0_2] 32 (0,0)) (kk' BK261.out) hb);have n8_:=am' (bb' (g:=gb284) (o := .cells #[.slice Ao48 t280.length co48, .bool t283] 34 (0,0)) (kk' BK284.out) hb);have n9_:=am' (cb' (kx' HR288_0.out) hb);have n10_:=am' (bt' (y2' GE261.out GE284.out) hb);clear HO_4;clear HO_5;clear HO_8;clear HO_57;clear HO_285000;clear HL288_0;clear HO291;clear BK261;clear BK284;clear HR288_0;clear HB;have HO_4:=n0_;have HO_5:=n1_;have HO_8:=n2_;have HO_57:=n3_;have HO_285000:=n4_;have HL288_0:=n5_;have HO291:=n6_;have BK261:=n7_;have BK284:=n8_;have HR288_0:=n9_;have HB:=n10_;clear n0_ n1_ n2_ n3_ n4_ n5_ n6_ n7_ n8_ n9_ n10_;(try clear hb);(try clear hb2);(try clear hk);(try clear hi);have p294:0≤(t293:Int):=od' xa';have q294:t293 < (x4_3.length:Int):=od' xa';obtain ⟨ad294,e294,hx294_0⟩:=Kd.at_int (Kd.R_reads' HO_4.out).2.2 t293 p294 q294;obtain rfl:(⟨go26,0,none⟩:Addr)=ad294:=(by injection e294);(first|simp only[add_plain] at hx294_0|simp only[add_at] at hx294_0|simp only[Addr.add,Nat.zero_add] at hx294_0|skip);replace p294:=eq_true p294;replace q294:=eq_true q294;obtain ⟨Ao95,co95,eo95⟩:=Kd.R_slice HO_8.out;subst eo95;have p295:0≤(x9_2:Int):=od' xa';have q295:x9_2 < (x8_3.length:Int):=od' xa';obtain ⟨ad295,e295,hx295_0⟩:=Kd.at_int (Kd.R_reads' HO_8.out).2.2 x9_2 p295 q295;cases e295;replace p295:=eq_true p295;replace q295:=eq_true q295;have p296:0≤((rd x8_3 x9_2):Int):=od' xa';have q296:(rd x8_3 x9_2) < (x4_3.length:Int):=od' xa';obtain ⟨ad296,e296,hx296_0⟩:=Kd.at_int (Kd.R_reads' HO_4.out).2.2 (rd x8_3 x9_2) p296 q296;obtain rfl:(⟨go26,0,none⟩:Addr)=ad296:=(by injection e296);(first|simp only[add_plain] at hx296_0|simp only[add_at] at hx296_0|simp only[Addr.add,Nat.zero_add] at hx296_0|skip);replace p296:=eq_true p296;replace q296:=eq_true q296;have p68:0≤(t293:Int):=od' xa';have q68:(t293:Int) < ((x4_3.length:Int):Int):=od' xa';obtain ⟨hx68_0,hf68_0⟩:=Kd.R_celln 0 HO_4.out (t293:Int) p68 q68;replace p68:=eq_true p68;replace q68:=eq_true q68;obtain ⟨hy96_,hz96_⟩:=Kd.R_celln 0 HO_4.out (t293:Int) (od' xa') (od' xa');have HP96:=Kd.R_putg HO_4.out (t293:Int) (wrap64 ((rd x4_3 (rd x8_3 x9_2))+1)))|((with_reducible refine gate_store (t:=3) (p:=82) rfl ?_);refine store_event (t:=3) (p:=82) (v:=?vo_w97) (w1:=(w94.setCell ⟨go26,(t293:Int).toNat,none⟩ (.int .i64 (wrap64 ((rd x4_3 (rd x8_3 x9_2))+1))))) ?hg ?ho ?hn ?hr ?_;(case ho=>rfl);(case hg=>rfl);(case hn=>rfl);(case hr=>first|(go_simp;done)|(go_simp;rfl));intro w97 hw;have hg:w94.grownBy w97 (some go26):=(by rw[hw];exact HP96.2);have hp_:Kd.R (Kd.int .i64) 3 w97 w.heap.size (fun k_=>some k_≠(.slice (some ⟨go28,0,none⟩) x5_3.length co28:Value).ownBlock∧some k_≠(.slice (some ad295) x8_3.length co95:Value).ownBlock) (.slice (some ⟨go26,0,none⟩) x4_3.length co15) y297:=(by rw[hw,Ny297.out];exact HP96.1);clear HP96;have n0_:=am' (hp_);have n1_:=am' (Kd.R_after (v:=(.slice (some ⟨go26,0,none⟩) x4_3.length co15)) (v1:=(.slice (some ⟨go26,0,none⟩) x4_3.length co15)) (ok:=(fun k_=>some k_≠(.slice (some ad295) x8_3.length co95:Value).ownBlock)) (by (with_reducible repeat (first|apply ra'|apply rn'|apply rw'));exact Kd.R_mono HO_5.out (fun _ hk=>⟨hk.2,hk.1⟩)) hg (.inl rfl));have n2_:=am' (Kd.R_after (v:=(.slice (some ⟨go26,0,none⟩) x4_3.length co15)) (v1:=(.slice (some ⟨go26,0,none⟩) x4_3.length co15)) (ok:=(fun k_=>some k_≠(.slice (some ⟨go28,0,none⟩) x5_3.length co28:Value).ownBlock)) (by (with_reducible repeat (first|apply ra'|apply rn'|apply rw'));exact Kd.R_mono HO_8.out (fun _ hk=>⟨hk.2,hk.1⟩)) hg (.inl rfl));have n3_:=am' (Kd.N_afterv (v:=(.slice (some ⟨go26,0,none⟩) x4_3.length co15)) (v1:=(.slice (some ⟨go26,0,none⟩) x4_3.length co15)) (ok:=(fun k_=>some k_≠(.slice (some ⟨go28,0,none⟩) x5_3.length co28:Value).ownBlock∧some k_≠(.slice (some ad295) x8_3.length co95:Value).ownBlock∧some k_≠(.slice Ao48 t280.length co48:Value).ownBlock∧some k_≠(.slice Ao93 t289.length co93:Value).ownBlock∧k_≠gb261∧k_≠gb284)) (by (with_reducible repeat (first|apply Kd.N_alloc|apply Kd.N_drewN|apply Kd.N_drew));exact Kd.N_mono HO_57.out (fun _ hk=>⟨⟨hk.1.2.1,⟨hk.1.2.2.1,⟨hk.1.2.2.2.1,⟨hk.2,⟨hk.1.2.2.2.2.1,hk.1.2.2.2.2.2⟩⟩⟩⟩⟩,hk.1.1⟩)) hg (.inl rfl));have n4_:=am' (Kd.R_over' (v:=(.slice (some ⟨go26,0,none⟩) x4_3.length co15)) (kr' HO_285000.out) (Kd.R_typed HO_4.out) (by decide) hg);have n5_:=am' (blk_grown (g:=gb261) (o := .cells #[.int .i64 a0_0, .slice A0_1 l0_1.length c0_1, .int .i64 a0_2] 32 (0,0)) (kk' BK261.out) hg (Kd.R_ne HO_4.out BK261.out (by decide)));have n6_:=am' (blk_grown (g:=gb284) (o := .cells #[.slice Ao48 t280.length co48, .bool t283] 34 (0,0)) (kk' BK284.out) hg (Kd.R_ne HO_4.out BK284.out (by decide)));have n7_:=am' (Kd.V_afterv (v:=(.slice (some ⟨go26,0,none⟩) x4_3.length co15)) (v1:=(.slice (some ⟨go26,0,none⟩) x4_3.length co15)) (ok:=(fun k_=>some k_≠(.slice (some ⟨go28,0,none⟩) x5_3.length co28:Value).ownBlock∧some k_≠(.slice (some ad295) x8_3.length co95:Value).ownBlock∧some k_≠(.slice (some ad288) t285.length co55:Value).ownBlock∧some k_≠(.slice Ao48 t280.length co48:Value).ownBlock∧some k_≠(.slice Ao93 t289.length co93:Value).ownBlock∧k_≠gb261∧k_≠gb284)) (by (with_reducible repeat (first|apply Kd.V_alloc|apply Kd.V_drewN|apply Kd.V_drew));exact Kd.V_mono HL288_0.out (fun _ hk=>⟨⟨hk.1.1.2.1,⟨hk.1.1.2.2.1,⟨hk.1.2,⟨hk.1.1.2.2.2.1,⟨hk.2,⟨hk.1.1.2.2.2.2.1,hk.1.1.2.2.2.2.2⟩⟩⟩⟩⟩⟩,hk.1.1.1⟩)) hg (.inl rfl));have n8_:=am' (Kd.R_over' (v:=(.slice (some ⟨go26,0,none⟩) x4_3.length co15)) (kr' HO291.out) (Kd.R_typed HO_4.out) (by decide) hg);have n9_:=am' ((by rw[hw];exact bs' (HB.out) GB26.out:Below w.heap.size w w97));clear HO_4;clear HO_5;clear HO_8;clear HO_57;clear HO_285000;clear BK261;clear BK284;clear HL288_0;clear HO291;clear HB;have HO_4:=n0_;have HO_5:=n1_;have HO_8:=n2_;have HO_57:=n3_;have HO_285000:=n4_;have BK261:=n5_;have BK284:=n6_;have HL288_0:=n7_;have HO291:=n8_;have HB:=n9_;clear n0_ n1_ n2_ n3_ n4_ n5_ n6_ n7_ n8_ n9_;clear hg hw hp_)|((with_reducible refine gate_builtin (b := .append) (xs:=#[.tmp 83, .tmp 85]) rfl ?_);at_builtin;refine Kd.R_append (Kd.int .i64) (w0:=w) w.heap.size rfl (.tmp 83) (.tmp 85) 43 3 (.int .i64 0) 8 rfl Try.underlying43 info3 rfl (by decide) (by omega) (.slice (some ad295) x8_3.length co95) x8_3 t293 [.int .i64 t293] (fun k_=>some k_≠(.slice (some ⟨go26,0,none⟩) x4_3.length co15:Value).ownBlock∧some k_≠(.slice (some ⟨go28,0,none⟩) x5_3.length co28:Value).ownBlock) (fun _=>False) rfl rfl ?aP (fun _ hk=>hk.elim) ?aF ?aO ?aB ?aS ?aL ?_;(case aP=>exact rfl);(case aB=>exact (y2' GE261.out GE284.out));(case aF=>exact (fun k_ hk=>⟨Kd.fresh' (Kd.R_lt (kr' HO_4.out)) k_ hk,Kd.fresh' (Kd.R_lt (kr' HO_5.out)) k_ hk⟩));(case aO=>exact (by (with_reducible repeat (first|apply ra'|apply rn'|apply rw'));exact Kd.R_mono HO_8.out (fun _ hk=>⟨hk.2,hk.1⟩)));(case aS=>exact (bz' (y2' GE261.out GE284.out)));(case aL=>have:=LMc69.out;omega);intro v299 w98 ho hb hg hat;rw[← Ny298.out] at ho;have n0_:=am' (Kd.R_after (ok:=(fun k_=>some k_≠(.slice (some ⟨go28,0,none⟩) x5_3.length co28:Value).ownBlock)) (kr' HO_4.out) hg hat);have n1_:=am' (Kd.R_after (ok:=(fun k_=>some k_≠(.slice (some ⟨go26,0,none⟩) x4_3.length co15:Value).ownBlock)) (by (with_reducible repeat (first|apply ra'|apply rn'|apply rw'));exact Kd.R_mono HO_5.out (fun _ hk=>⟨hk.2,hk.1⟩)) hg hat);have n2_:=am' (Kd.N_afterv (ok:=(fun k_=>some k_≠(.slice (some ⟨go26,0,none⟩) x4_3.length co15:Value).ownBlock∧some k_≠(.slice (some ⟨go28,0,none⟩) x5_3.length co28:Value).ownBlock∧some k_≠(.slice Ao48 t280.length co48:Value).ownBlock∧some k_≠(.slice Ao93 t289.length co93:Value).ownBlock∧k_≠gb261∧k_≠gb284)) (by (with_reducible repeat (first|apply Kd.N_alloc|apply Kd.N_drewN|apply Kd.N_drew));exact Kd.N_mono HO_57.out (fun _ hk=>⟨⟨hk.2,⟨hk.1.1,⟨hk.1.2.2.1,⟨hk.1.2.2.2.1,⟨hk.1.2.2.2.2.1,hk.1.2.2.2.2.2⟩⟩⟩⟩⟩,hk.1.2.1⟩)) hg hat);have n3_:=am' (Kd.R_over' (kr' HO_285000.out) (Kd.R_typed (kr' HO_8.out)) (by decide) hg);have n4_:=am' (blk_grown (g:=gb261) (o := .cells #[.int .i64 a0_0, .slice A0_1 l0_1.length c0_1, .int .i64 a0_2] 32 (0,0)) (kk' BK261.out) hg (Kd.R_ne HO_8.out BK261.out (by decide)));have n5_:=am' (blk_grown (g:=gb284) (o := .cells #[.slice Ao48 t280.length co48, .bool t283] 34 (0,0)) (kk' BK284.out) hg (Kd.R_ne HO_8.out BK284.out (by decide)));have n6_:=am' (Kd.V_afterv (ok:=(fun k_=>some k_≠(.slice (some ⟨go26,0,none⟩) x4_3.length co15:Value).ownBlock∧some k_≠(.slice (some ⟨go28,0,none⟩) x5_3.length co28:Value).ownBlock∧some k_≠(.slice (some ad288) t285.length co55:Value).ownBlock∧some k_≠(.slice Ao48 t280.length co48:Value).ownBlock∧some k_≠(.slice Ao93 t289.length co93:Value).ownBlock∧k_≠gb261∧k_≠gb284)) (by (with_reducible repeat (first|apply Kd.V_alloc|apply Kd.V_drewN|apply Kd.V_drew));exact Kd.V_mono HL288_0.out (fun _ hk=>⟨⟨hk.2,⟨hk.1.1,⟨hk.1.2.2.1,⟨hk.1.2.2.2.1,⟨hk.1.2.2.2.2.1,⟨hk.1.2.2.2.2.2.1,hk.1.2.2.2.2.2.2⟩⟩⟩⟩⟩⟩,hk.1.2.1⟩)) hg hat);have n7_:=am' (Kd.R_over' (kr' HO291.out) (Kd.R_typed (kr' HO_8.out)) (by decide) hg);have n8_:=am' (hb);have n9_:=am' (ho);clear HO_4;clear HO_5;clear HO_57;clear HO_285000;clear BK261;clear BK284;clear HL288_0;clear HO291;clear HB;clear HO_8;have HO_4:=n0_;have HO_5:=n1_;have HO_57:=n2_;have HO_285000:=n3_;have BK261:=n4_;have BK284:=n5_;have HL288_0:=n6_;have HO291:=n7_;have HB:=n8_;have HO300:=n9_;clear n0_ n1_ n2_ n3_ n4_ n5_ n6_ n7_ n8_ n9_;clear ho hb hg hat))
                               have n0_:=am' (rw' HO_4.out);have n1_:=am' (rw' HO_5.out);have n2_:=am' (Kd.N_drew HO_57.out);have n3_:=am' (rw' HO_285000.out);have n4_:=am' (Kd.V_drew HL288_0.out);have n5_:=am' (rw' HO291.out);have n6_:=am' (rw' HO300.out);have n7_:=am' (kd' BK261.out);have n8_:=am' (kd' BK284.out);have n9_:=am' (be' HB.out);clear HO_4;clear HO_5;clear HO_57;clear HO_285000;clear HL288_0;clear HO291;clear HO300;clear BK261;clear BK284;clear HB;have HO_4:=n0_;have HO_5:=n1_;have HO_57:=n2_;have HO_285000:=n3_;have HL288_0:=n4_;have HO291:=n5_;have HO300:=n6_;have BK261:=n7_;have BK284:=n8_;have HB:=n9_;clear n0_ n1_ n2_ n3_ n4_ n5_ n6_ n7_ n8_ n9_;have p301:0≤(t293:Int):=od' xa';have q301:t293 < (y297.length:Int):=(by have h_:(t293:Int) < ((x4_3.length:Int):Int):=od' xa';first|(have e_:=(Kd.R_reads' HO_4.out).1;omega)|simpa only [Ny297.out,List.length_set] using h_)
                               have ql301:((t293:Int) < ((x4_3.length:Int):Int))=True:=eq_true (od' xa');obtain ⟨ad301,e301,hx301_0⟩:=Kd.at_int (Kd.R_reads' HO_4.out).2.2 t293 p301 q301;obtain rfl:(⟨go26,0,none⟩:Addr)=ad301:=(by injection e301)
                               (first|simp only[add_plain] at hx301_0|simp only[add_at] at hx301_0|simp only[Addr.add,Nat.zero_add] at hx301_0|skip)
                               replace p301:=eq_true p301;replace q301:=eq_true q301;obtain ⟨Ao100,co100,eo100⟩:=Kd.R_slice HO300.out
                               (first|subst eo100|(injection eo100 with f1_ f2_ f3_;have f4_:=f1_.symm;have f5_:=f3_.symm;clear f1_ f2_ f3_;subst f4_;subst f5_))
                               have p302:0≤(x9_2:Int):=od' xa';have q302:x9_2 < (y298.length:Int):=od' xa';obtain ⟨ad302,e302,hx302_0⟩:=Kd.at_int (Kd.R_reads' HO300.out).2.2 x9_2 p302 q302;cases e302;replace p302:=eq_true p302;replace q302:=eq_true q302;have p303:0≤((rd y298 x9_2):Int):=od' xa';have q303:(rd y298 x9_2) < (y297.length:Int):=(by have h_:((rd y298 x9_2):Int) < ((x4_3.length:Int):Int):=od' xa';first|(have e_:=(Kd.R_reads' HO_4.out).1;omega)|simpa only [Ny297.out,List.length_set] using h_)
                               have ql303:(((rd y298 x9_2):Int) < ((x4_3.length:Int):Int))=True:=eq_true (od' xa');obtain ⟨ad303,e303,hx303_0⟩:=Kd.at_int (Kd.R_reads' HO_4.out).2.2 (rd y298 x9_2) p303 q303;obtain rfl:(⟨go26,0,none⟩:Addr)=ad303:=(by injection e303)
                               (first|simp only[add_plain] at hx303_0|simp only[add_at] at hx303_0|simp only[Addr.add,Nat.zero_add] at hx303_0|skip)
                               replace p303:=eq_true p303;replace q303:=eq_true q303;refine start_ (n:=13) (S:=fun w'=>w'.cell? ⟨go26,(t293).toNat,none⟩=some (.int .i64 (rd y297 t293))∧w'.cell? (ad302.add (x9_2).toNat)=some (.int .i64 (rd y298 x9_2))∧w'.cell? ⟨go26,((rd y298 x9_2)).toNat,none⟩=some (.int .i64 (rd y297 (rd y298 x9_2)))) (ds:=[]) #[false,false,false,false,false,false,false,false,false,false,false,false,false] xk' rfl rfl ⟨hx301_0,hx302_0,hx303_0⟩ (fun hHeld=>?_);refine with_tabW spec_keFar.tab22 spec_keFar.bits22 (fun HT_ HW_=>?_);generalize w98.drew=w99 at HO_4 HO_5 HO_57 HO_285000 HL288_0 HO291 HO300 BK261 BK284 HB hx301_0 hx302_0 hx303_0 hHeld ⊢
                               refine pure_ (i:=0) (N:=some 87) (v:=?_) (a':=?_) #[true,false,false,false,false,false,false,false,false,false,false,false,false] rfl rfl (any_of HT_.out xk') (fun _ _ _ h=>h) (Or.inl ⟨by rfl,?_⟩) ?_ ?_
                               rotate_left
                               ·
                                intro w';go_simp;with_reducible rfl
                               rotate_left
                               ·
                                simp only[Act.put,sa',sb',sc',i64_w,i32_w];rfl
                               refine pure_ (i:=1) (N:=some 88) (v:=?_) (a':=?_) #[true,true,false,false,false,false,false,false,false,false,false,false,false] rfl rfl (any_of HT_.out xk') (fun _ _ _ h=>h) (Or.inl ⟨by rfl,?_⟩) ?_ ?_
                               rotate_left
                               ·
                                intro w';go_simp;with_reducible rfl
                               rotate_left
                               ·
                                simp only[Act.put,sa',sb',sc',i64_w,i32_w];rfl
                               refine pure_ (i:=2) (N:=some 89) (v:=?_) (a':=?_) #[true,true,true,false,false,false,false,false,false,false,false,false,false] rfl rfl (any_of HT_.out xk') (fun _ _ _ h=>h) (Or.inl ⟨by rfl,?_⟩) ?_ ?_
                               rotate_left
                               ·
                                intro w';go_simp;with_reducible rfl
                               rotate_left
                               ·
                                simp only[Act.put,sa',sb',sc',i64_w,i32_w];rfl
                               refine pure_ (i:=4) (N:=some 91) (v:=?_) (a':=?_) #[true,true,true,false,true,false,false,false,false,false,false,false,false] rfl rfl (any_of HT_.out xk') (fun _ _ _ h=>h) (Or.inl ⟨by rfl,?_⟩) ?_ ?_
                               rotate_left
                               ·
                                intro w';go_simp;with_reducible rfl
                               rotate_left
                               ·
                                simp only[Act.put,sa',sb',sc',i64_w,i32_w];rfl
                               refine pure_ (i:=5) (N:=some 92) (v:=?_) (a':=?_) #[true,true,true,false,true,true,false,false,false,false,false,false,false] rfl rfl (any_of HT_.out xk') (fun _ _ _ h=>h) (Or.inl ⟨by rfl,?_⟩) ?_ ?_
                               rotate_left
                               ·
                                intro w';go_simp;with_reducible rfl
                               rotate_left
                               ·
                                simp only[Act.put,sa',sb',sc',i64_w,i32_w];rfl
                               refine pure_ (i:=6) (N:=some 93) (v:=?_) (a':=?_) #[true,true,true,false,true,true,true,false,false,false,false,false,false] rfl rfl (any_of HT_.out xk') (fun _ _ _ h=>h) (Or.inl ⟨by rfl,?_⟩) ?_ ?_
                               rotate_left
                               ·
                                intro w';go_simp;with_reducible rfl
                               rotate_left
                               ·
                                simp only[Act.put,sa',sb',sc',i64_w,i32_w];rfl
                               refine pure_ (i:=7) (N:=some 94) (v:=?_) (a':=?_) #[true,true,true,false,true,true,true,true,false,false,false,false,false] rfl rfl (any_of HT_.out xk') (fun _ _ _ h=>h) (Or.inl ⟨by rfl,?_⟩) ?_ ?_
                               rotate_left
                               ·
                                intro w';go_simp;with_reducible rfl
                               rotate_left
                               ·
                                simp only[Act.put,sa',sb',sc',i64_w,i32_w];rfl
                               refine take_ (i:=3) (N:=some 90) (v:=?_) (a':=?_) #[true,true,true,true,true,true,true,true,false,false,false,false,false] rfl rfl (take_ofW HT_.out HW_.out xk') (fun _ _ _ h=>h) (Or.inl ⟨by rfl,?_⟩) hHeld ?_ ?_
                               rotate_left
                               ·
                                rintro w' ⟨s0,s1,s2⟩
                                go_simp;with_reducible rfl
                               rotate_left
                               ·
                                simp only[Act.put,sa',sb',sc',i64_w,i32_w];rfl
                               refine take_ (i:=8) (N:=some 95) (v:=?_) (a':=?_) #[true,true,true,true,true,true,true,true,true,false,false,false,false] rfl rfl (take_ofW HT_.out HW_.out xk') (fun _ _ _ h=>h) (Or.inl ⟨by rfl,?_⟩) hHeld ?_ ?_
                               rotate_left
                               ·
                                rintro w' ⟨s0,s1,s2⟩
                                go_simp;with_reducible rfl
                               rotate_left
                               ·
                                simp only[Act.put,sa',sb',sc',i64_w,i32_w];rfl
                               refine pure_ (i:=9) (N:=some 96) (v:=?_) (a':=?_) #[true,true,true,true,true,true,true,true,true,true,false,false,false] rfl rfl (any_of HT_.out xk') (fun _ _ _ h=>h) (Or.inl ⟨by rfl,?_⟩) ?_ ?_
                               rotate_left
                               ·
                                intro w';go_simp;with_reducible rfl
                               rotate_left
                               ·
                                simp only[Act.put,sa',sb',sc',i64_w,i32_w];rfl
                               refine take_ (i:=10) (N:=some 97) (v:=?_) (a':=?_) #[true,true,true,true,true,true,true,true,true,true,true,false,false] rfl rfl (take_ofW HT_.out HW_.out xk') (fun _ _ _ h=>h) (Or.inl ⟨by rfl,?_⟩) hHeld ?_ ?_
                               rotate_left
                               ·
                                rintro w' ⟨s0,s1,s2⟩
                                go_simp;with_reducible rfl
                               rotate_left
                               ·
                                simp only[Act.put,sa',sb',sc',i64_w,i32_w];rfl
                               refine pure_ (i:=11) (N:=some 98) (v:=?_) (a':=?_) #[true,true,true,true,true,true,true,true,true,true,true,true,false] rfl rfl (any_of HT_.out xk') (fun _ _ _ h=>h) (Or.inl ⟨by rfl,?_⟩) ?_ ?_
                               rotate_left
                               ·
                                intro w';go_simp;with_reducible rfl
                               rotate_left
                               ·
                                simp only[Act.put,sa',sb',sc',i64_w,i32_w];rfl
                               refine pure_ (i:=12) (N:=some 99) (v:=?_) (a':=?_) #[true,true,true,true,true,true,true,true,true,true,true,true,true] rfl rfl (any_of HT_.out xk') (fun _ _ _ h=>h) (Or.inl ⟨by rfl,?_⟩) ?_ ?_
                               rotate_left
                               ·
                                intro w';go_simp;with_reducible rfl
                               rotate_left
                               ·
                                simp only[Act.put,sa',sb',sc',i64_w,i32_w];rfl
                               refine done_ (done_of HT_.out xk') ?_
                               try go_wp2
                               (try simp only[← hl4_3,← hl5_3])
                               go_roundg k3
                               case measure=>have:=HK1.out;have:=HK2.out;have:=HK3.out;omega
                               case rel=>exact ⟨(y297),(x5_3),(y298),(wrap64 (x59_3+1)),xs',H',⟨by have:=HK1.out;have:=HK2.out;have:=HK3.out;omega⟩,⟨by (try simp only[hl4_1]);(try simp only[hl4_2]);(try simp only[hl5_2]);(try simp only[hl4_3]);(try simp only[hl5_3]);(with_reducible repeat (first|apply ra'|apply rn'|apply rw'));exact HO_4.out⟩,⟨by (try simp only[hl4_1]);(try simp only[hl4_2]);(try simp only[hl5_2]);(try simp only[hl4_3]);(try simp only[hl5_3]);(with_reducible repeat (first|apply ra'|apply rn'|apply rw'));exact HO_5.out⟩,⟨by (try simp only[hl4_1]);(try simp only[hl4_2]);(try simp only[hl5_2]);(try simp only[hl4_3]);(try simp only[hl5_3]);(with_reducible repeat (first|apply ra'|apply rn'|apply rw'));exact HO300.out⟩,⟨by (try simp only[hl4_1]);(try simp only[hl4_2]);(try simp only[hl5_2]);(try simp only[hl4_3]);(try simp only[hl5_3]);(with_reducible repeat (first|apply Kd.N_alloc|apply Kd.N_drewN|apply Kd.N_drew));exact Kd.N_mono HO_57.out (fun _ hk=>⟨hk.1.1,⟨hk.1.2.1,⟨hk.2,⟨hk.1.2.2.1,⟨hk.1.2.2.2.2.1,hk.1.2.2.2.2.2⟩⟩⟩⟩⟩)⟩,⟨by (try simp only[hl4_1]);(try simp only[hl4_2]);(try simp only[hl5_2]);(try simp only[hl4_3]);(try simp only[hl5_3]);(with_reducible repeat (first|apply ra'|apply rn'|apply rw'));exact Kd.R_mono HO_285000.out (fun _ hk=>trivial)⟩,⟨by (try simp only[hl4_1]);(try simp only[hl4_2]);(try simp only[hl5_2]);(try simp only[hl4_3]);(try simp only[hl5_3]);(with_reducible repeat (first|refine kn' ?_ _|refine kd' ?_|refine ka' ?_ _));exact BK261.out⟩,⟨by (try simp only[hl4_1]);(try simp only[hl4_2]);(try simp only[hl5_2]);(try simp only[hl4_3]);(try simp only[hl5_3]);(with_reducible repeat (first|refine kn' ?_ _|refine kd' ?_|refine ka' ?_ _));exact BK284.out⟩,⟨y2' GE261.out GE284.out⟩⟩
                             ·
                              rw[if_neg c72] at H;exact absurd H (by simp)
                            ·
                             rw[if_neg c71] at H;exact absurd H (by simp)
                           ·
                            rw[if_neg c70] at H;exact absurd H (by simp)
                          ·
                           rw[if_neg c69] at H;exact absurd H (by simp)
                         ·
                          rw[if_neg c67] at H;exact absurd H (by simp)
                        ·
                         rw[if_neg c66] at H;exact absurd H (by simp)
                       ·
                        rw[if_neg c65] at H;exact absurd H (by simp)
                      ·
                       rw[if_neg c64] at H;exact absurd H (by simp)
                     ·
                      rw[if_neg c63] at H;have c63b0:decide ((rd x4_3 t293) < 0)=false:=df' c63;clear c63;by_cases c101:0≤x9_2
                      ·
                       rw[if_pos c101] at H;have c101b0:decide (0≤x9_2)=true:=dt' c101;clear c101;by_cases c102:x9_2 < (x8_3.length:Int)
                       ·
                        rw[if_pos c102] at H;have c102b0:decide (x9_2 < (x8_3.length:Int))=true:=dt' c102;clear c102;by_cases c103:0≤(rd x8_3 x9_2)
                        ·
                         rw[if_pos c103] at H;have c103b0:decide (0≤(rd x8_3 x9_2))=true:=dt' c103;clear c103;by_cases c104:(rd x8_3 x9_2) < (x4_3.length:Int)
                         ·
                          rw[if_pos c104] at H;have c104b0:decide ((rd x8_3 x9_2) < (x4_3.length:Int))=true:=dt' c104;clear c104;by_cases c105:(rd x4_3 t293)=(wrap64 ((rd x4_3 (rd x8_3 x9_2))+1))
                          ·
                           rw[if_pos c105] at H;have c105b0:((rd x4_3 t293) == (wrap64 ((rd x4_3 (rd x8_3 x9_2))+1)))=true:=beq_iff_eq.mpr c105;have c105b1:((rd x4_3 t293) != (wrap64 ((rd x4_3 (rd x8_3 x9_2))+1)))=false:=bne_eq_false_iff_eq.mpr c105;clear c105;by_cases c106:t293 < (x5_3.length:Int)
                           ·
                            rw[if_pos c106] at H;have c106b0:decide (t293 < (x5_3.length:Int))=true:=dt' c106;clear c106;by_cases c107:(rd x8_3 x9_2) < (x5_3.length:Int)
                            ·
                             rw[if_pos c107] at H;have c107b0:decide ((rd x8_3 x9_2) < (x5_3.length:Int))=true:=dt' c107;clear c107;obtain ⟨y314,hy314⟩:∃ y_:List Int,y_=(x5_3.set (t293:Int).toNat (wrap64 ((rd x5_3 t293)+(rd x5_3 (rd x8_3 x9_2))))):=⟨_,rfl⟩
                             replace H:(spec_keFar.l2 k3 x4_3 y314 x8_3 x9_2 t285 (t285.length:Int) (wrap64 (x59_3+1)) a0_0 l0_1 a0_2 t280 t283)=some (r1,r2):=by first|(rw[hy314];with_reducible exact H)|(have H2_:=(Option.bind_some _ _).symm.trans H;rw[hy314];with_reducible exact H2_)|(have H2_:=(Option.bind_some _ _).symm.trans H;with_reducible exact H2_)|with_reducible exact H|(rw[hy314];exact H)|exact H
                             have Ny314:=am' hy314;clear hy314;have H':=am' H;clear H;have p288:0≤(x59_3:Int):=od' xa';have q288:x59_3 < (t285.length:Int):=od' xa';obtain ⟨ad288,A288_0,c288_0,e288,hx288_0,hl288_0,hi288_0⟩:=at_L1 (Kd.N_reads' HO_57.out).2.2 x59_3 p288 q288;cases e288;obtain ⟨ce288,hce288,hMe288,hcc288⟩:=Kd.N_get HO_57.out [] x59_3 p288 (by first|exact q288|exact od' xa'|(have e_:=(Kd.N_reads' HO_57.out).1;omega));obtain ⟨ua288_0,uc288_0,rfl,ul288_0,ge288_0⟩:=Kd.FK_slice_open hMe288;have hv288_0:=hcc288 0 _ rfl;rw[Nat.add_zero,show ((Kd.slice 3 (Kd.int .i64))).sz=1 from rfl,Nat.mul_one] at hv288_0;replace hv288_0:=os' (hv288_0.symm.trans hx288_0);injection hv288_0 with hva_ hvn_ hvc_
                             rw[hva_] at ge288_0;rw[hvc_] at ul288_0;have HL288_0:=am' (show Kd.V (Kd.int .i64) 3 _ w.heap.size _ _ (rd_L1 t285 x59_3) from Kd.V_mk ul288_0 ge288_0);clear hva_ hvn_ hvc_ ge288_0 ul288_0;clear hcc288 hce288;have HR288_0:=am' hi288_0;have HC288_0:=am' hl288_0;clear hi288_0 hl288_0;replace p288:=eq_true p288;replace q288:=eq_true q288;have hnb109:=NB284_261.out;have hnc109:=NB261_284.out;have hcz110_0:wr.cell? ⟨gb284,0,none⟩=some (.slice Ao48 t280.length co48):=(bc' BK284.out 0).trans rfl;have hcz110_1:wr.cell? ⟨gb284,1,none⟩=some (.bool t283):=(bc' BK284.out 1).trans rfl;have hfz110_0:=bf' BK284.out 0;have hfz110_1:=bf' BK284.out 1
                             try go_wp2_with (first|((with_reducible refine gate_callee (f:=76) rfl ?_);refine goesL_ (some 65) rfl rfl Try.func76 xk' rfl #[.agg #[.slice Ao48 t280.length co48, .bool t283], .slice A288_0 (rd_L1 t285 x59_3).length c288_0] rfl xl' ?_;(with_reducible refine (spec_keRide.calls k3 _ _ t280 t283 _ _ (rd_L1 t285 x59_3) t289 t292 _ ?side1 ?side2 ?side3 ?side4 A59.out).mono ?_);(case side1=>exact kc' ((Kd.R_reads' HO_285000.out).2.2));(case side2=>exact (Kd.R_reads' HO_285000.out).2.1);(case side3=>exact kc' (kx' HR288_0.out));(case side4=>exact HC288_0.out);rintro e w111 ⟨v290,rfl,ho0,hb⟩;refine ⟨_,rfl,?_⟩;have n0_:=am' (rb' (kr' HO_4.out) hb);have n1_:=am' (rb' (kr' HO_5.out) hb);have n2_:=am' (rb' (kr' HO_8.out) hb);have n3_:=am' (Kd.N_elder' (kN' HO_57.out) (Kd.R_base ho0) hb);have n4_:=am' (Kd.R_elder' (kr' HO_285000.out) (Kd.R_base ho0) hb);have n5_:=am' (Kd.V_elder' (kV' HL288_0.out) (Kd.R_base ho0) hb);have n6_:=am' (Kd.R_lower (Kd.R_new' ho0 (Kd.R_lt (kr' HO_285000.out))) (bz' (y2' GE261.out GE284.out)));have n7_:=am' (bb' (g:=gb261) (o := .cells #[.int .i64 a0_0, .slice A0_1 l0_1.length c0_1, .int .i64 a0_2] 32 (0,0)) (kk' BK261.out) hb);have n8_:=am' (bb' (g:=gb284) (o := .cells #[.slice Ao48 t280.length co48, .bool t283] 34 (0,0)) (kk' BK284.out) hb);have n9_:=am' (cb' (kx' HR288_0.out) hb);have n10_:=am' (bt' (y2' GE261.out GE284.out) hb);clear HO_4;clear HO_5;clear HO_8;clear HO_57;clear HO_285000;clear HL288_0;clear BK261;clear BK284;clear HR288_0;clear HB;have HO_4:=n0_;have HO_5:=n1_;have HO_8:=n2_;have HO_57:=n3_;have HO_285000:=n4_;have HL288_0:=n5_;have HO291:=n6_;have BK261:=n7_;have BK284:=n8_;have HR288_0:=n9_;have HB:=n10_;clear n0_ n1_ n2_ n3_ n4_ n5_ n6_ n7_ n8_ n9_ n10_;(try clear hb);(try clear hb2);(try clear hk);(try clear hi);(try clear ho0);obtain ⟨Ao112,co112,eo112⟩:=Kd.R_slice HO291.out;subst eo112)|((with_reducible refine gate_callee (f:=70) rfl ?_);refine goesL_ (some 66) rfl rfl Try.func70 xk' rfl #[.agg #[.slice Ao112 t289.length co112, .bool t292]] rfl xl' ?_;(with_reducible refine (spec_keIndex.calls k3 _ _ t289 t292 t293 _ ?side1 ?side2 A60.out).mono ?_);(case side1=>exact kc' ((Kd.R_reads' HO291.out).2.2));(case side2=>exact (Kd.R_reads' HO291.out).2.1);rintro e w113 ⟨rfl,hb⟩;refine ⟨_,rfl,?_⟩;have n0_:=am' (rb' (kr' HO_4.out) hb);have n1_:=am' (rb' (kr' HO_5.out) hb);have n2_:=am' (rb' (kr' HO_8.out) hb);have n3_:=am' (Kd.N_below (kN' HO_57.out) hb);have n4_:=am' (rb' (kr' HO_285000.out) hb);have n5_:=am' (Kd.V_below (kV' HL288_0.out) hb);have n6_:=am' (rb' (kr' HO291.out) hb);have n7_:=am' (bb' (g:=gb261) (o := .cells #[.int .i64 a0_0, .slice A0_1 l0_1.length c0_1, .int .i64 a0_2] 32 (0,0)) (kk' BK261.out) hb);have n8_:=am' (bb' (g:=gb284) (o := .cells #[.slice Ao48 t280.length co48, .bool t283] 34 (0,0)) (kk' BK284.out) hb);have n9_:=am' (cb' (kx' HR288_0.out) hb);have n10_:=am' (bt' (y2' GE261.out GE284.out) hb);clear HO_4;clear HO_5;clear HO_8;clear HO_57;clear HO_285000;clear HL288_0;clear HO291;clear BK261;clear BK284;clear HR288_0;clear HB;have HO_4:=n0_;have HO_5:=n1_;have HO_8:=n2_;have HO_57:=n3_;have HO_285000:=n4_;have HL288_0:=n5_;have HO291:=n6_;have BK261:=n7_;have BK284:=n8_;have HR288_0:=n9_;have HB:=n10_;clear n0_ n1_ n2_ n3_ n4_ n5_ n6_ n7_ n8_ n9_ n10_;(try clear hb);(try clear hb2);(try clear hk);(try clear hi);have p294:0≤(t293:Int):=od' xa';have q294:t293 < (x4_3.length:Int):=od' xa';obtain ⟨ad294,e294,hx294_0⟩:=Kd.at_int (Kd.R_reads' HO_4.out).2.2 t293 p294 q294;obtain rfl:(⟨go26,0,none⟩:Addr)=ad294:=(by injection e294);(first|simp only[add_plain] at hx294_0|simp only[add_at] at hx294_0|simp only[Addr.add,Nat.zero_add] at hx294_0|skip);replace p294:=eq_true p294;replace q294:=eq_true q294))
                             have n0_:=am' (rw' HO_4.out);have n1_:=am' (rw' HO_5.out);have n2_:=am' (rw' HO_8.out);have n3_:=am' (Kd.N_drew HO_57.out);have n4_:=am' (rw' HO_285000.out);have n5_:=am' (Kd.V_drew HL288_0.out);have n6_:=am' (rw' HO291.out);have n7_:=am' (kd' BK261.out);have n8_:=am' (kd' BK284.out);have n9_:=am' (cd' HR288_0.out);have n10_:=am' (be' HB.out);clear HO_4;clear HO_5;clear HO_8;clear HO_57;clear HO_285000;clear HL288_0;clear HO291;clear BK261;clear BK284;clear HR288_0;clear HB;have HO_4:=n0_;have HO_5:=n1_;have HO_8:=n2_;have HO_57:=n3_;have HO_285000:=n4_;have HL288_0:=n5_;have HO291:=n6_;have BK261:=n7_;have BK284:=n8_;have HR288_0:=n9_;have HB:=n10_;clear n0_ n1_ n2_ n3_ n4_ n5_ n6_ n7_ n8_ n9_ n10_;have p308:0≤(t293:Int):=od' xa';have q308:t293 < (x4_3.length:Int):=od' xa';obtain ⟨ad308,e308,hx308_0⟩:=Kd.at_int (Kd.R_reads' HO_4.out).2.2 t293 p308 q308;obtain rfl:(⟨go26,0,none⟩:Addr)=ad308:=(by injection e308)
                             (first|simp only[add_plain] at hx308_0|simp only[add_at] at hx308_0|simp only[Addr.add,Nat.zero_add] at hx308_0|skip)
                             replace p308:=eq_true p308;replace q308:=eq_true q308;obtain ⟨Ao115,co115,eo115⟩:=Kd.R_slice HO_8.out
                             (first|subst eo115|(injection eo115 with f1_ f2_ f3_;have f4_:=f1_.symm;have f5_:=f3_.symm;clear f1_ f2_ f3_;subst f4_;subst f5_))
                             have p309:0≤(x9_2:Int):=od' xa';have q309:x9_2 < (x8_3.length:Int):=od' xa';obtain ⟨ad309,e309,hx309_0⟩:=Kd.at_int (Kd.R_reads' HO_8.out).2.2 x9_2 p309 q309;cases e309;replace p309:=eq_true p309;replace q309:=eq_true q309;have p310:0≤((rd x8_3 x9_2):Int):=od' xa';have q310:(rd x8_3 x9_2) < (x4_3.length:Int):=od' xa';obtain ⟨ad310,e310,hx310_0⟩:=Kd.at_int (Kd.R_reads' HO_4.out).2.2 (rd x8_3 x9_2) p310 q310;obtain rfl:(⟨go26,0,none⟩:Addr)=ad310:=(by injection e310)
                             (first|simp only[add_plain] at hx310_0|simp only[add_at] at hx310_0|simp only[Addr.add,Nat.zero_add] at hx310_0|skip)
                             replace p310:=eq_true p310;replace q310:=eq_true q310;refine start_ (n:=13) (S:=fun w'=>w'.cell? ⟨go26,(t293).toNat,none⟩=some (.int .i64 (rd x4_3 t293))∧w'.cell? (ad309.add (x9_2).toNat)=some (.int .i64 (rd x8_3 x9_2))∧w'.cell? ⟨go26,((rd x8_3 x9_2)).toNat,none⟩=some (.int .i64 (rd x4_3 (rd x8_3 x9_2)))) (ds:=[]) #[false,false,false,false,false,false,false,false,false,false,false,false,false] xk' rfl rfl ⟨hx308_0,hx309_0,hx310_0⟩ (fun hHeld=>?_);refine with_tabW spec_keFar.tab22 spec_keFar.bits22 (fun HT_ HW_=>?_);generalize w113.drew=w114 at HO_4 HO_5 HO_8 HO_57 HO_285000 HL288_0 HO291 BK261 BK284 HR288_0 HB hx308_0 hx309_0 hx310_0 hHeld ⊢
                             refine pure_ (i:=0) (N:=some 87) (v:=?_) (a':=?_) #[true,false,false,false,false,false,false,false,false,false,false,false,false] rfl rfl (any_of HT_.out xk') (fun _ _ _ h=>h) (Or.inl ⟨by rfl,?_⟩) ?_ ?_
                             rotate_left
                             ·
                              intro w';go_simp;with_reducible rfl
                             rotate_left
                             ·
                              simp only[Act.put,sa',sb',sc',i64_w,i32_w];rfl
                             refine pure_ (i:=1) (N:=some 88) (v:=?_) (a':=?_) #[true,true,false,false,false,false,false,false,false,false,false,false,false] rfl rfl (any_of HT_.out xk') (fun _ _ _ h=>h) (Or.inl ⟨by rfl,?_⟩) ?_ ?_
                             rotate_left
                             ·
                              intro w';go_simp;with_reducible rfl
                             rotate_left
                             ·
                              simp only[Act.put,sa',sb',sc',i64_w,i32_w];rfl
                             refine pure_ (i:=2) (N:=some 89) (v:=?_) (a':=?_) #[true,true,true,false,false,false,false,false,false,false,false,false,false] rfl rfl (any_of HT_.out xk') (fun _ _ _ h=>h) (Or.inl ⟨by rfl,?_⟩) ?_ ?_
                             rotate_left
                             ·
                              intro w';go_simp;with_reducible rfl
                             rotate_left
                             ·
                              simp only[Act.put,sa',sb',sc',i64_w,i32_w];rfl
                             refine pure_ (i:=4) (N:=some 91) (v:=?_) (a':=?_) #[true,true,true,false,true,false,false,false,false,false,false,false,false] rfl rfl (any_of HT_.out xk') (fun _ _ _ h=>h) (Or.inl ⟨by rfl,?_⟩) ?_ ?_
                             rotate_left
                             ·
                              intro w';go_simp;with_reducible rfl
                             rotate_left
                             ·
                              simp only[Act.put,sa',sb',sc',i64_w,i32_w];rfl
                             refine pure_ (i:=5) (N:=some 92) (v:=?_) (a':=?_) #[true,true,true,false,true,true,false,false,false,false,false,false,false] rfl rfl (any_of HT_.out xk') (fun _ _ _ h=>h) (Or.inl ⟨by rfl,?_⟩) ?_ ?_
                             rotate_left
                             ·
                              intro w';go_simp;with_reducible rfl
                             rotate_left
                             ·
                              simp only[Act.put,sa',sb',sc',i64_w,i32_w];rfl
                             refine pure_ (i:=6) (N:=some 93) (v:=?_) (a':=?_) #[true,true,true,false,true,true,true,false,false,false,false,false,false] rfl rfl (any_of HT_.out xk') (fun _ _ _ h=>h) (Or.inl ⟨by rfl,?_⟩) ?_ ?_
                             rotate_left
                             ·
                              intro w';go_simp;with_reducible rfl
                             rotate_left
                             ·
                              simp only[Act.put,sa',sb',sc',i64_w,i32_w];rfl
                             refine pure_ (i:=7) (N:=some 94) (v:=?_) (a':=?_) #[true,true,true,false,true,true,true,true,false,false,false,false,false] rfl rfl (any_of HT_.out xk') (fun _ _ _ h=>h) (Or.inl ⟨by rfl,?_⟩) ?_ ?_
                             rotate_left
                             ·
                              intro w';go_simp;with_reducible rfl
                             rotate_left
                             ·
                              simp only[Act.put,sa',sb',sc',i64_w,i32_w];rfl
                             refine take_ (i:=3) (N:=some 90) (v:=?_) (a':=?_) #[true,true,true,true,true,true,true,true,false,false,false,false,false] rfl rfl (take_ofW HT_.out HW_.out xk') (fun _ _ _ h=>h) (Or.inl ⟨by rfl,?_⟩) hHeld ?_ ?_
                             rotate_left
                             ·
                              rintro w' ⟨s0,s1,s2⟩
                              go_simp;with_reducible rfl
                             rotate_left
                             ·
                              simp only[Act.put,sa',sb',sc',i64_w,i32_w];rfl
                             refine take_ (i:=8) (N:=some 95) (v:=?_) (a':=?_) #[true,true,true,true,true,true,true,true,true,false,false,false,false] rfl rfl (take_ofW HT_.out HW_.out xk') (fun _ _ _ h=>h) (Or.inl ⟨by rfl,?_⟩) hHeld ?_ ?_
                             rotate_left
                             ·
                              rintro w' ⟨s0,s1,s2⟩
                              go_simp;with_reducible rfl
                             rotate_left
                             ·
                              simp only[Act.put,sa',sb',sc',i64_w,i32_w];rfl
                             refine pure_ (i:=9) (N:=some 96) (v:=?_) (a':=?_) #[true,true,true,true,true,true,true,true,true,true,false,false,false] rfl rfl (any_of HT_.out xk') (fun _ _ _ h=>h) (Or.inl ⟨by rfl,?_⟩) ?_ ?_
                             rotate_left
                             ·
                              intro w';go_simp;with_reducible rfl
                             rotate_left
                             ·
                              simp only[Act.put,sa',sb',sc',i64_w,i32_w];rfl
                             refine take_ (i:=10) (N:=some 97) (v:=?_) (a':=?_) #[true,true,true,true,true,true,true,true,true,true,true,false,false] rfl rfl (take_ofW HT_.out HW_.out xk') (fun _ _ _ h=>h) (Or.inl ⟨by rfl,?_⟩) hHeld ?_ ?_
                             rotate_left
                             ·
                              rintro w' ⟨s0,s1,s2⟩
                              go_simp;with_reducible rfl
                             rotate_left
                             ·
                              simp only[Act.put,sa',sb',sc',i64_w,i32_w];rfl
                             refine pure_ (i:=11) (N:=some 98) (v:=?_) (a':=?_) #[true,true,true,true,true,true,true,true,true,true,true,true,false] rfl rfl (any_of HT_.out xk') (fun _ _ _ h=>h) (Or.inl ⟨by rfl,?_⟩) ?_ ?_
                             rotate_left
                             ·
                              intro w';go_simp;with_reducible rfl
                             rotate_left
                             ·
                              simp only[Act.put,sa',sb',sc',i64_w,i32_w];rfl
                             refine pure_ (i:=12) (N:=some 99) (v:=?_) (a':=?_) #[true,true,true,true,true,true,true,true,true,true,true,true,true] rfl rfl (any_of HT_.out xk') (fun _ _ _ h=>h) (Or.inl ⟨by rfl,?_⟩) ?_ ?_
                             rotate_left
                             ·
                              intro w';go_simp;with_reducible rfl
                             rotate_left
                             ·
                              simp only[Act.put,sa',sb',sc',i64_w,i32_w];rfl
                             refine done_ (done_of HT_.out xk') ?_
                             try go_wp2
                             have n0_:=am' (rw' HO_4.out);have n1_:=am' (rw' HO_5.out);have n2_:=am' (rw' HO_8.out);have n3_:=am' (Kd.N_drew HO_57.out);have n4_:=am' (rw' HO_285000.out);have n5_:=am' (Kd.V_drew HL288_0.out);have n6_:=am' (rw' HO291.out);have n7_:=am' (kd' BK261.out);have n8_:=am' (kd' BK284.out);have n9_:=am' (cd' HR288_0.out);have n10_:=am' (be' HB.out);clear HO_4;clear HO_5;clear HO_8;clear HO_57;clear HO_285000;clear HL288_0;clear HO291;clear BK261;clear BK284;clear HR288_0;clear HB;have HO_4:=n0_;have HO_5:=n1_;have HO_8:=n2_;have HO_57:=n3_;have HO_285000:=n4_;have HL288_0:=n5_;have HO291:=n6_;have BK261:=n7_;have BK284:=n8_;have HR288_0:=n9_;have HB:=n10_;clear n0_ n1_ n2_ n3_ n4_ n5_ n6_ n7_ n8_ n9_ n10_;have p311:0≤(t293:Int):=od' xa';have q311:t293 < (x5_3.length:Int):=od' xa';obtain ⟨ad311,e311,hx311_0⟩:=Kd.at_int (Kd.R_reads' HO_5.out).2.2 t293 p311 q311;obtain rfl:(⟨go28,0,none⟩:Addr)=ad311:=(by injection e311)
                             (first|simp only[add_plain] at hx311_0|simp only[add_at] at hx311_0|simp only[Addr.add,Nat.zero_add] at hx311_0|skip)
                             replace p311:=eq_true p311;replace q311:=eq_true q311;have p312:0≤(x9_2:Int):=od' xa';have q312:x9_2 < (x8_3.length:Int):=od' xa';obtain ⟨ad312,e312,hx312_0⟩:=Kd.at_int (Kd.R_reads' HO_8.out).2.2 x9_2 p312 q312;obtain rfl:ad309=ad312:=(by injection e312)
                             replace p312:=eq_true p312;replace q312:=eq_true q312;have p313:0≤((rd x8_3 x9_2):Int):=od' xa';have q313:(rd x8_3 x9_2) < (x5_3.length:Int):=od' xa';obtain ⟨ad313,e313,hx313_0⟩:=Kd.at_int (Kd.R_reads' HO_5.out).2.2 (rd x8_3 x9_2) p313 q313;obtain rfl:(⟨go28,0,none⟩:Addr)=ad313:=(by injection e313)
                             (first|simp only[add_plain] at hx313_0|simp only[add_at] at hx313_0|simp only[Addr.add,Nat.zero_add] at hx313_0|skip)
                             replace p313:=eq_true p313;replace q313:=eq_true q313;have p108:0≤(t293:Int):=od' xa';have q108:(t293:Int) < ((x5_3.length:Int):Int):=od' xa';obtain ⟨hx108_0,hf108_0⟩:=Kd.R_celln 0 HO_5.out (t293:Int) p108 q108;replace p108:=eq_true p108;replace q108:=eq_true q108;have HP117:=Kd.R_putn HO_5.out (t293:Int) (wrap64 ((rd x5_3 t293)+(rd x5_3 (rd x8_3 x9_2))));rw[← Ny314.out] at HP117;have HQ117:=am' HP117;clear HP117;refine start_ (n:=14) (S:=fun w'=>w'.cell? ⟨go28,(t293).toNat,none⟩=some (.int .i64 (rd x5_3 t293))∧w'.cell? (ad309.add (x9_2).toNat)=some (.int .i64 (rd x8_3 x9_2))∧w'.cell? ⟨go28,((rd x8_3 x9_2)).toNat,none⟩=some (.int .i64 (rd x5_3 (rd x8_3 x9_2)))) (ds:=[13]) #[false,false,false,false,false,false,false,false,false,false,false,false,false,false] xk' rfl rfl ⟨hx311_0,hx312_0,hx313_0⟩ (fun hHeld=>?_);refine with_tabW spec_keFar.tab23 spec_keFar.bits23 (fun HT_ HW_=>?_);generalize w114.drew=w116 at HO_4 HO_5 HO_8 HO_57 HO_285000 HL288_0 HO291 BK261 BK284 HR288_0 HB HQ117 hf108_0 hx108_0 hx311_0 hx312_0 hx313_0 hHeld ⊢
                             refine pure_ (i:=0) (N:=some 100) (v:=?_) (a':=?_) #[true,false,false,false,false,false,false,false,false,false,false,false,false,false] rfl rfl (any_of HT_.out xk') (fun _ _ _ h=>h) (Or.inl ⟨by rfl,?_⟩) ?_ ?_
                             rotate_left
                             ·
                              intro w';go_simp;with_reducible rfl
                             rotate_left
                             ·
                              simp only[Act.put,sa',sb',sc',i64_w,i32_w];rfl
                             refine pure_ (i:=1) (N:=some 101) (v:=?_) (a':=?_) #[true,true,false,false,false,false,false,false,false,false,false,false,false,false] rfl rfl (any_of HT_.out xk') (fun _ _ _ h=>h) (Or.inl ⟨by rfl,?_⟩) ?_ ?_
                             rotate_left
                             ·
                              intro w';go_simp;with_reducible rfl
                             rotate_left
                             ·
                              simp only[Act.put,sa',sb',sc',i64_w,i32_w];rfl
                             refine pure_ (i:=2) (N:=some 102) (v:=?_) (a':=?_) #[true,true,true,false,false,false,false,false,false,false,false,false,false,false] rfl rfl (any_of HT_.out xk') (fun _ _ _ h=>h) (Or.inl ⟨by rfl,?_⟩) ?_ ?_
                             rotate_left
                             ·
                              intro w';go_simp;with_reducible rfl
                             rotate_left
                             ·
                              simp only[Act.put,sa',sb',sc',i64_w,i32_w];rfl
                             refine pure_ (i:=4) (N:=some 104) (v:=?_) (a':=?_) #[true,true,true,false,true,false,false,false,false,false,false,false,false,false] rfl rfl (any_of HT_.out xk') (fun _ _ _ h=>h) (Or.inl ⟨by rfl,?_⟩) ?_ ?_
                             rotate_left
                             ·
                              intro w';go_simp;with_reducible rfl
                             rotate_left
                             ·
                              simp only[Act.put,sa',sb',sc',i64_w,i32_w];rfl
                             refine pure_ (i:=5) (N:=some 105) (v:=?_) (a':=?_) #[true,true,true,false,true,true,false,false,false,false,false,false,false,false] rfl rfl (any_of HT_.out xk') (fun _ _ _ h=>h) (Or.inl ⟨by rfl,?_⟩) ?_ ?_
                             rotate_left
                             ·
                              intro w';go_simp;with_reducible rfl
                             rotate_left
                             ·
                              simp only[Act.put,sa',sb',sc',i64_w,i32_w];rfl
                             refine pure_ (i:=6) (N:=some 106) (v:=?_) (a':=?_) #[true,true,true,false,true,true,true,false,false,false,false,false,false,false] rfl rfl (any_of HT_.out xk') (fun _ _ _ h=>h) (Or.inl ⟨by rfl,?_⟩) ?_ ?_
                             rotate_left
                             ·
                              intro w';go_simp;with_reducible rfl
                             rotate_left
                             ·
                              simp only[Act.put,sa',sb',sc',i64_w,i32_w];rfl
                             refine pure_ (i:=7) (N:=some 107) (v:=?_) (a':=?_) #[true,true,true,false,true,true,true,true,false,false,false,false,false,false] rfl rfl (any_of HT_.out xk') (fun _ _ _ h=>h) (Or.inl ⟨by rfl,?_⟩) ?_ ?_
                             rotate_left
                             ·
                              intro w';go_simp;with_reducible rfl
                             rotate_left
                             ·
                              simp only[Act.put,sa',sb',sc',i64_w,i32_w];rfl
                             refine take_ (i:=3) (N:=some 103) (v:=?_) (a':=?_) #[true,true,true,true,true,true,true,true,false,false,false,false,false,false] rfl rfl (take_ofW HT_.out HW_.out xk') (fun _ _ _ h=>h) (Or.inl ⟨by rfl,?_⟩) hHeld ?_ ?_
                             rotate_left
                             ·
                              rintro w' ⟨s0,s1,s2⟩
                              go_simp;with_reducible rfl
                             rotate_left
                             ·
                              simp only[Act.put,sa',sb',sc',i64_w,i32_w];rfl
                             refine take_ (i:=8) (N:=some 108) (v:=?_) (a':=?_) #[true,true,true,true,true,true,true,true,true,false,false,false,false,false] rfl rfl (take_ofW HT_.out HW_.out xk') (fun _ _ _ h=>h) (Or.inl ⟨by rfl,?_⟩) hHeld ?_ ?_
                             rotate_left
                             ·
                              rintro w' ⟨s0,s1,s2⟩
                              go_simp;with_reducible rfl
                             rotate_left
                             ·
                              simp only[Act.put,sa',sb',sc',i64_w,i32_w];rfl
                             refine pure_ (i:=9) (N:=some 109) (v:=?_) (a':=?_) #[true,true,true,true,true,true,true,true,true,true,false,false,false,false] rfl rfl (any_of HT_.out xk') (fun _ _ _ h=>h) (Or.inl ⟨by rfl,?_⟩) ?_ ?_
                             rotate_left
                             ·
                              intro w';go_simp;with_reducible rfl
                             rotate_left
                             ·
                              simp only[Act.put,sa',sb',sc',i64_w,i32_w];rfl
                             refine take_ (i:=10) (N:=some 110) (v:=?_) (a':=?_) #[true,true,true,true,true,true,true,true,true,true,true,false,false,false] rfl rfl (take_ofW HT_.out HW_.out xk') (fun _ _ _ h=>h) (Or.inl ⟨by rfl,?_⟩) hHeld ?_ ?_
                             rotate_left
                             ·
                              rintro w' ⟨s0,s1,s2⟩
                              go_simp;with_reducible rfl
                             rotate_left
                             ·
                              simp only[Act.put,sa',sb',sc',i64_w,i32_w];rfl
                             refine pure_ (i:=11) (N:=some 111) (v:=?_) (a':=?_) #[true,true,true,true,true,true,true,true,true,true,true,true,false,false] rfl rfl (any_of HT_.out xk') (fun _ _ _ h=>h) (Or.inl ⟨by rfl,?_⟩) ?_ ?_
                             rotate_left
                             ·
                              intro w';go_simp;with_reducible rfl
                             rotate_left
                             ·
                              simp only[Act.put,sa',sb',sc',i64_w,i32_w];rfl
                             refine pure_ (i:=12) (N:=some 112) (v:=?_) (a':=?_) #[true,true,true,true,true,true,true,true,true,true,true,true,true,false] rfl rfl (any_of HT_.out xk') (fun _ _ _ h=>h) (Or.inl ⟨by rfl,?_⟩) ?_ ?_
                             rotate_left
                             ·
                              intro w';go_simp;with_reducible rfl
                             rotate_left
                             ·
                              simp only[Act.put,sa',sb',sc',i64_w,i32_w];rfl
                             refine last_ (i:=13) (N:=none) #[true,true,true,true,true,true,true,true,true,true,true,true,true,true] rfl rfl (one_of HT_.out xk') (by decide) (fun K hK=>?_);refine skip_ (w1:=?_) (by rfl) rfl ?_ ?_
                             rotate_left
                             ·
                              go_simp;rfl
                             refine hK.out _ _ ?_
                             clear hK K;refine done_ (done_of HT_.out xk') ?_
                             try go_wp2
                             (try simp only[← hl4_3,← hl5_3])
                             go_roundg k3
                             case measure=>have:=HK1.out;have:=HK2.out;have:=HK3.out;omega
                             case rel=>obtain ⟨cq_,GQ_⟩:=Kd.R_typed HO_5.out _ rfl;exact ⟨(x4_3),(y314),(x8_3),(wrap64 (x59_3+1)),xs',H',⟨by have:=HK1.out;have:=HK2.out;have:=HK3.out;omega⟩,⟨by (try simp only[hl4_1]);(try simp only[hl4_2]);(try simp only[hl5_2]);(try simp only[hl4_3]);(try simp only[hl5_3]);(with_reducible repeat (first|apply ra'|apply rn'|apply rw'));exact Kd.R_mono (Kd.R_far (p:=⟨go28,(t293:Int).toNat,none⟩) (Kd.R_mono HO_4.out (fun k_ hk=>(⟨hk,fun e_=>hk.1 (by rw[e_];rfl)⟩:_∧k_≠go28))) (fun _ hk=>hk.2) (.int .i64 (wrap64 ((rd x5_3 t293)+(rd x5_3 (rd x8_3 x9_2)))))) (fun _ hk=>⟨hk.1.1,hk.1.2⟩)⟩,⟨by (try simp only[hl4_1]);(try simp only[hl4_2]);(try simp only[hl5_2]);(try simp only[hl4_3]);(try simp only[hl5_3]);(with_reducible repeat (first|apply ra'|apply rn'|apply rw'));exact HQ117.out⟩,⟨by (try simp only[hl4_1]);(try simp only[hl4_2]);(try simp only[hl5_2]);(try simp only[hl4_3]);(try simp only[hl5_3]);(with_reducible repeat (first|apply ra'|apply rn'|apply rw'));exact Kd.R_mono (Kd.R_far (p:=⟨go28,(t293:Int).toNat,none⟩) (Kd.R_mono HO_8.out (fun k_ hk=>(⟨hk,fun e_=>hk.2 (by rw[e_];rfl)⟩:_∧k_≠go28))) (fun _ hk=>hk.2) (.int .i64 (wrap64 ((rd x5_3 t293)+(rd x5_3 (rd x8_3 x9_2)))))) (fun _ hk=>⟨hk.1.1,hk.1.2⟩)⟩,⟨by (try simp only[hl4_1]);(try simp only[hl4_2]);(try simp only[hl5_2]);(try simp only[hl4_3]);(try simp only[hl5_3]);(with_reducible repeat (first|apply Kd.N_alloc|apply Kd.N_drewN|apply Kd.N_drew));exact Kd.N_mono (Kd.N_far (p:=⟨go28,(t293:Int).toNat,none⟩) (Kd.N_mono HO_57.out (fun k_ hk=>(⟨hk,fun e_=>hk.1.2.1 (by rw[e_];rfl)⟩:_∧k_≠go28))) (fun _ hk=>hk.2) (.int .i64 (wrap64 ((rd x5_3 t293)+(rd x5_3 (rd x8_3 x9_2)))))) (fun _ hk=>⟨hk.1.1.1,⟨hk.1.1.2.1,⟨hk.1.1.2.2.1,⟨hk.1.1.2.2.2.1,⟨hk.1.1.2.2.2.2.1,hk.1.1.2.2.2.2.2⟩⟩⟩⟩⟩)⟩,⟨by (try simp only[hl4_1]);(try simp only[hl4_2]);(try simp only[hl5_2]);(try simp only[hl4_3]);(try simp only[hl5_3]);(with_reducible repeat (first|apply ra'|apply rn'|apply rw'));exact Kd.R_mono (Kd.R_far (p:=⟨go28,(t293:Int).toNat,none⟩) (Kd.R_types HO_285000.out GQ_ (by decide)) (fun _ hk=>hk.2) (.int .i64 (wrap64 ((rd x5_3 t293)+(rd x5_3 (rd x8_3 x9_2)))))) (fun _ hk=>trivial)⟩,⟨by (try simp only[hl4_1]);(try simp only[hl4_2]);(try simp only[hl5_2]);(try simp only[hl4_3]);(try simp only[hl5_3]);(with_reducible repeat (first|refine kn' ?_ _|refine kd' ?_|refine ka' ?_ _));refine blk_far ?_ (by have h_:=Kd.R_ne HO_5.out BK261.out (by decide);intro e_;exact h_ (by rw[e_];rfl)) _;(with_reducible repeat (first|refine kn' ?_ _|refine kd' ?_|refine ka' ?_ _));exact BK261.out⟩,⟨by (try simp only[hl4_1]);(try simp only[hl4_2]);(try simp only[hl5_2]);(try simp only[hl4_3]);(try simp only[hl5_3]);(with_reducible repeat (first|refine kn' ?_ _|refine kd' ?_|refine ka' ?_ _));refine blk_far ?_ (by have h_:=Kd.R_ne HO_5.out BK284.out (by decide);intro e_;exact h_ (by rw[e_];rfl)) _;(with_reducible repeat (first|refine kn' ?_ _|refine kd' ?_|refine ka' ?_ _));exact BK284.out⟩,⟨y3' GB28.out GE261.out GE284.out⟩⟩
                            ·
                             rw[if_neg c107] at H;exact absurd H (by simp)
                           ·
                            rw[if_neg c106] at H;exact absurd H (by simp)
                          ·
                           rw[if_neg c105] at H;have c105b0:((rd x4_3 t293) == (wrap64 ((rd x4_3 (rd x8_3 x9_2))+1)))=false:=beq_eq_false_iff_ne.mpr c105;have c105b1:((rd x4_3 t293) != (wrap64 ((rd x4_3 (rd x8_3 x9_2))+1)))=true:=bne_iff_ne.mpr c105;have H':=am' H;clear H;have p288:0≤(x59_3:Int):=od' xa';have q288:x59_3 < (t285.length:Int):=od' xa';obtain ⟨ad288,A288_0,c288_0,e288,hx288_0,hl288_0,hi288_0⟩:=at_L1 (Kd.N_reads' HO_57.out).2.2 x59_3 p288 q288;cases e288;obtain ⟨ce288,hce288,hMe288,hcc288⟩:=Kd.N_get HO_57.out [] x59_3 p288 (by first|exact q288|exact od' xa'|(have e_:=(Kd.N_reads' HO_57.out).1;omega));obtain ⟨ua288_0,uc288_0,rfl,ul288_0,ge288_0⟩:=Kd.FK_slice_open hMe288;have hv288_0:=hcc288 0 _ rfl;rw[Nat.add_zero,show ((Kd.slice 3 (Kd.int .i64))).sz=1 from rfl,Nat.mul_one] at hv288_0;replace hv288_0:=os' (hv288_0.symm.trans hx288_0);injection hv288_0 with hva_ hvn_ hvc_
                           rw[hva_] at ge288_0;rw[hvc_] at ul288_0;have HL288_0:=am' (show Kd.V (Kd.int .i64) 3 _ w.heap.size _ _ (rd_L1 t285 x59_3) from Kd.V_mk ul288_0 ge288_0);clear hva_ hvn_ hvc_ ge288_0 ul288_0;clear hcc288 hce288;have HR288_0:=am' hi288_0;have HC288_0:=am' hl288_0;clear hi288_0 hl288_0;replace p288:=eq_true p288;replace q288:=eq_true q288;have hnb118:=NB284_261.out;have hnc118:=NB261_284.out;have hcz119_0:wr.cell? ⟨gb284,0,none⟩=some (.slice Ao48 t280.length co48):=(bc' BK284.out 0).trans rfl;have hcz119_1:wr.cell? ⟨gb284,1,none⟩=some (.bool t283):=(bc' BK284.out 1).trans rfl;have hfz119_0:=bf' BK284.out 0;have hfz119_1:=bf' BK284.out 1
                           try go_wp2_with (first|((with_reducible refine gate_callee (f:=76) rfl ?_);refine goesL_ (some 65) rfl rfl Try.func76 xk' rfl #[.agg #[.slice Ao48 t280.length co48, .bool t283], .slice A288_0 (rd_L1 t285 x59_3).length c288_0] rfl xl' ?_;(with_reducible refine (spec_keRide.calls k3 _ _ t280 t283 _ _ (rd_L1 t285 x59_3) t289 t292 _ ?side1 ?side2 ?side3 ?side4 A59.out).mono ?_);(case side1=>exact kc' ((Kd.R_reads' HO_285000.out).2.2));(case side2=>exact (Kd.R_reads' HO_285000.out).2.1);(case side3=>exact kc' (kx' HR288_0.out));(case side4=>exact HC288_0.out);rintro e w120 ⟨v290,rfl,ho0,hb⟩;refine ⟨_,rfl,?_⟩;have n0_:=am' (rb' (kr' HO_4.out) hb);have n1_:=am' (rb' (kr' HO_5.out) hb);have n2_:=am' (rb' (kr' HO_8.out) hb);have n3_:=am' (Kd.N_elder' (kN' HO_57.out) (Kd.R_base ho0) hb);have n4_:=am' (Kd.R_elder' (kr' HO_285000.out) (Kd.R_base ho0) hb);have n5_:=am' (Kd.V_elder' (kV' HL288_0.out) (Kd.R_base ho0) hb);have n6_:=am' (Kd.R_lower (Kd.R_new' ho0 (Kd.R_lt (kr' HO_285000.out))) (bz' (y2' GE261.out GE284.out)));have n7_:=am' (bb' (g:=gb261) (o := .cells #[.int .i64 a0_0, .slice A0_1 l0_1.length c0_1, .int .i64 a0_2] 32 (0,0)) (kk' BK261.out) hb);have n8_:=am' (bb' (g:=gb284) (o := .cells #[.slice Ao48 t280.length co48, .bool t283] 34 (0,0)) (kk' BK284.out) hb);have n9_:=am' (cb' (kx' HR288_0.out) hb);have n10_:=am' (bt' (y2' GE261.out GE284.out) hb);clear HO_4;clear HO_5;clear HO_8;clear HO_57;clear HO_285000;clear HL288_0;clear BK261;clear BK284;clear HR288_0;clear HB;have HO_4:=n0_;have HO_5:=n1_;have HO_8:=n2_;have HO_57:=n3_;have HO_285000:=n4_;have HL288_0:=n5_;have HO291:=n6_;have BK261:=n7_;have BK284:=n8_;have HR288_0:=n9_;have HB:=n10_;clear n0_ n1_ n2_ n3_ n4_ n5_ n6_ n7_ n8_ n9_ n10_;(try clear hb);(try clear hb2);(try clear hk);(try clear hi);(try clear ho0);obtain ⟨Ao121,co121,eo121⟩:=Kd.R_slice HO291.out;subst eo121)|((with_reducible refine gate_callee (f:=70) rfl ?_);refine goesL_ (some 66) rfl rfl Try.func70 xk' rfl #[.agg #[.slice Ao121 t289.length co121, .bool t292]] rfl xl' ?_;(with_reducible refine (spec_keIndex.calls k3 _ _ t289 t292 t293 _ ?side1 ?side2 A60.out).mono ?_);(case side1=>exact kc' ((Kd.R_reads' HO291.out).2.2));(case side2=>exact (Kd.R_reads' HO291.out).2.1);rintro e w122 ⟨rfl,hb⟩;refine ⟨_,rfl,?_⟩;have n0_:=am' (rb' (kr' HO_4.out) hb);have n1_:=am' (rb' (kr' HO_5.out) hb);have n2_:=am' (rb' (kr' HO_8.out) hb);have n3_:=am' (Kd.N_below (kN' HO_57.out) hb);have n4_:=am' (rb' (kr' HO_285000.out) hb);have n5_:=am' (Kd.V_below (kV' HL288_0.out) hb);have n6_:=am' (rb' (kr' HO291.out) hb);have n7_:=am' (bb' (g:=gb261) (o := .cells #[.int .i64 a0_0, .slice A0_1 l0_1.length c0_1, .int .i64 a0_2] 32 (0,0)) (kk' BK261.out) hb);have n8_:=am' (bb' (g:=gb284) (o := .cells #[.slice Ao48 t280.length co48, .bool t283] 34 (0,0)) (kk' BK284.out) hb);have n9_:=am' (cb' (kx' HR288_0.out) hb);have n10_:=am' (bt' (y2' GE261.out GE284.out) hb);clear HO_4;clear HO_5;clear HO_8;clear HO_57;clear HO_285000;clear HL288_0;clear HO291;clear BK261;clear BK284;clear HR288_0;clear HB;have HO_4:=n0_;have HO_5:=n1_;have HO_8:=n2_;have HO_57:=n3_;have HO_285000:=n4_;have HL288_0:=n5_;have HO291:=n6_;have BK261:=n7_;have BK284:=n8_;have HR288_0:=n9_;have HB:=n10_;clear n0_ n1_ n2_ n3_ n4_ n5_ n6_ n7_ n8_ n9_ n10_;(try clear hb);(try clear hb2);(try clear hk);(try clear hi);have p294:0≤(t293:Int):=od' xa';have q294:t293 < (x4_3.length:Int):=od' xa';obtain ⟨ad294,e294,hx294_0⟩:=Kd.at_int (Kd.R_reads' HO_4.out).2.2 t293 p294 q294;obtain rfl:(⟨go26,0,none⟩:Addr)=ad294:=(by injection e294);(first|simp only[add_plain] at hx294_0|simp only[add_at] at hx294_0|simp only[Addr.add,Nat.zero_add] at hx294_0|skip);replace p294:=eq_true p294;replace q294:=eq_true q294))
                           have n0_:=am' (rw' HO_4.out);have n1_:=am' (rw' HO_5.out);have n2_:=am' (rw' HO_8.out);have n3_:=am' (Kd.N_drew HO_57.out);have n4_:=am' (rw' HO_285000.out);have n5_:=am' (Kd.V_drew HL288_0.out);have n6_:=am' (rw' HO291.out);have n7_:=am' (kd' BK261.out);have n8_:=am' (kd' BK284.out);have n9_:=am' (cd' HR288_0.out);have n10_:=am' (be' HB.out);clear HO_4;clear HO_5;clear HO_8;clear HO_57;clear HO_285000;clear HL288_0;clear HO291;clear BK261;clear BK284;clear HR288_0;clear HB;have HO_4:=n0_;have HO_5:=n1_;have HO_8:=n2_;have HO_57:=n3_;have HO_285000:=n4_;have HL288_0:=n5_;have HO291:=n6_;have BK261:=n7_;have BK284:=n8_;have HR288_0:=n9_;have HB:=n10_;clear n0_ n1_ n2_ n3_ n4_ n5_ n6_ n7_ n8_ n9_ n10_;have p308:0≤(t293:Int):=od' xa';have q308:t293 < (x4_3.length:Int):=od' xa';obtain ⟨ad308,e308,hx308_0⟩:=Kd.at_int (Kd.R_reads' HO_4.out).2.2 t293 p308 q308;obtain rfl:(⟨go26,0,none⟩:Addr)=ad308:=(by injection e308)
                           (first|simp only[add_plain] at hx308_0|simp only[add_at] at hx308_0|simp only[Addr.add,Nat.zero_add] at hx308_0|skip)
                           replace p308:=eq_true p308;replace q308:=eq_true q308;obtain ⟨Ao124,co124,eo124⟩:=Kd.R_slice HO_8.out
                           (first|subst eo124|(injection eo124 with f1_ f2_ f3_;have f4_:=f1_.symm;have f5_:=f3_.symm;clear f1_ f2_ f3_;subst f4_;subst f5_))
                           have p309:0≤(x9_2:Int):=od' xa';have q309:x9_2 < (x8_3.length:Int):=od' xa';obtain ⟨ad309,e309,hx309_0⟩:=Kd.at_int (Kd.R_reads' HO_8.out).2.2 x9_2 p309 q309;cases e309;replace p309:=eq_true p309;replace q309:=eq_true q309;have p310:0≤((rd x8_3 x9_2):Int):=od' xa';have q310:(rd x8_3 x9_2) < (x4_3.length:Int):=od' xa';obtain ⟨ad310,e310,hx310_0⟩:=Kd.at_int (Kd.R_reads' HO_4.out).2.2 (rd x8_3 x9_2) p310 q310;obtain rfl:(⟨go26,0,none⟩:Addr)=ad310:=(by injection e310)
                           (first|simp only[add_plain] at hx310_0|simp only[add_at] at hx310_0|simp only[Addr.add,Nat.zero_add] at hx310_0|skip)
                           replace p310:=eq_true p310;replace q310:=eq_true q310;refine start_ (n:=13) (S:=fun w'=>w'.cell? ⟨go26,(t293).toNat,none⟩=some (.int .i64 (rd x4_3 t293))∧w'.cell? (ad309.add (x9_2).toNat)=some (.int .i64 (rd x8_3 x9_2))∧w'.cell? ⟨go26,((rd x8_3 x9_2)).toNat,none⟩=some (.int .i64 (rd x4_3 (rd x8_3 x9_2)))) (ds:=[]) #[false,false,false,false,false,false,false,false,false,false,false,false,false] xk' rfl rfl ⟨hx308_0,hx309_0,hx310_0⟩ (fun hHeld=>?_);refine with_tabW spec_keFar.tab22 spec_keFar.bits22 (fun HT_ HW_=>?_);generalize w122.drew=w123 at HO_4 HO_5 HO_8 HO_57 HO_285000 HL288_0 HO291 BK261 BK284 HR288_0 HB hx308_0 hx309_0 hx310_0 hHeld ⊢
                           refine pure_ (i:=0) (N:=some 87) (v:=?_) (a':=?_) #[true,false,false,false,false,false,false,false,false,false,false,false,false] rfl rfl (any_of HT_.out xk') (fun _ _ _ h=>h) (Or.inl ⟨by rfl,?_⟩) ?_ ?_
                           rotate_left
                           ·
                            intro w';go_simp;with_reducible rfl
                           rotate_left
                           ·
                            simp only[Act.put,sa',sb',sc',i64_w,i32_w];rfl
                           refine pure_ (i:=1) (N:=some 88) (v:=?_) (a':=?_) #[true,true,false,false,false,false,false,false,false,false,false,false,false] rfl rfl (any_of HT_.out xk') (fun _ _ _ h=>h) (Or.inl ⟨by rfl,?_⟩) ?_ ?_
                           rotate_left
                           ·
                            intro w';go_simp;with_reducible rfl
                           rotate_left
                           ·
                            simp only[Act.put,sa',sb',sc',i64_w,i32_w];rfl
                           refine pure_ (i:=2) (N:=some 89) (v:=?_) (a':=?_) #[true,true,true,false,false,false,false,false,false,false,false,false,false] rfl rfl (any_of HT_.out xk') (fun _ _ _ h=>h) (Or.inl ⟨by rfl,?_⟩) ?_ ?_
                           rotate_left
                           ·
                            intro w';go_simp;with_reducible rfl
                           rotate_left
                           ·
                            simp only[Act.put,sa',sb',sc',i64_w,i32_w];rfl
                           refine pure_ (i:=4) (N:=some 91) (v:=?_) (a':=?_) #[true,true,true,false,true,false,false,false,false,false,false,false,false] rfl rfl (any_of HT_.out xk') (fun _ _ _ h=>h) (Or.inl ⟨by rfl,?_⟩) ?_ ?_
                           rotate_left
                           ·
                            intro w';go_simp;with_reducible rfl
                           rotate_left
                           ·
                            simp only[Act.put,sa',sb',sc',i64_w,i32_w];rfl
                           refine pure_ (i:=5) (N:=some 92) (v:=?_) (a':=?_) #[true,true,true,false,true,true,false,false,false,false,false,false,false] rfl rfl (any_of HT_.out xk') (fun _ _ _ h=>h) (Or.inl ⟨by rfl,?_⟩) ?_ ?_
                           rotate_left
                           ·
                            intro w';go_simp;with_reducible rfl
                           rotate_left
                           ·
                            simp only[Act.put,sa',sb',sc',i64_w,i32_w];rfl
                           refine pure_ (i:=6) (N:=some 93) (v:=?_) (a':=?_) #[true,true,true,false,true,true,true,false,false,false,false,false,false] rfl rfl (any_of HT_.out xk') (fun _ _ _ h=>h) (Or.inl ⟨by rfl,?_⟩) ?_ ?_
                           rotate_left
                           ·
                            intro w';go_simp;with_reducible rfl
                           rotate_left
                           ·
                            simp only[Act.put,sa',sb',sc',i64_w,i32_w];rfl
                           refine pure_ (i:=7) (N:=some 94) (v:=?_) (a':=?_) #[true,true,true,false,true,true,true,true,false,false,false,false,false] rfl rfl (any_of HT_.out xk') (fun _ _ _ h=>h) (Or.inl ⟨by rfl,?_⟩) ?_ ?_
                           rotate_left
                           ·
                            intro w';go_simp;with_reducible rfl
                           rotate_left
                           ·
                            simp only[Act.put,sa',sb',sc',i64_w,i32_w];rfl
                           refine take_ (i:=3) (N:=some 90) (v:=?_) (a':=?_) #[true,true,true,true,true,true,true,true,false,false,false,false,false] rfl rfl (take_ofW HT_.out HW_.out xk') (fun _ _ _ h=>h) (Or.inl ⟨by rfl,?_⟩) hHeld ?_ ?_
                           rotate_left
                           ·
                            rintro w' ⟨s0,s1,s2⟩
                            go_simp;with_reducible rfl
                           rotate_left
                           ·
                            simp only[Act.put,sa',sb',sc',i64_w,i32_w];rfl
                           refine take_ (i:=8) (N:=some 95) (v:=?_) (a':=?_) #[true,true,true,true,true,true,true,true,true,false,false,false,false] rfl rfl (take_ofW HT_.out HW_.out xk') (fun _ _ _ h=>h) (Or.inl ⟨by rfl,?_⟩) hHeld ?_ ?_
                           rotate_left
                           ·
                            rintro w' ⟨s0,s1,s2⟩
                            go_simp;with_reducible rfl
                           rotate_left
                           ·
                            simp only[Act.put,sa',sb',sc',i64_w,i32_w];rfl
                           refine pure_ (i:=9) (N:=some 96) (v:=?_) (a':=?_) #[true,true,true,true,true,true,true,true,true,true,false,false,false] rfl rfl (any_of HT_.out xk') (fun _ _ _ h=>h) (Or.inl ⟨by rfl,?_⟩) ?_ ?_
                           rotate_left
                           ·
                            intro w';go_simp;with_reducible rfl
                           rotate_left
                           ·
                            simp only[Act.put,sa',sb',sc',i64_w,i32_w];rfl
                           refine take_ (i:=10) (N:=some 97) (v:=?_) (a':=?_) #[true,true,true,true,true,true,true,true,true,true,true,false,false] rfl rfl (take_ofW HT_.out HW_.out xk') (fun _ _ _ h=>h) (Or.inl ⟨by rfl,?_⟩) hHeld ?_ ?_
                           rotate_left
                           ·
                            rintro w' ⟨s0,s1,s2⟩
                            go_simp;with_reducible rfl
                           rotate_left
                           ·
                            simp only[Act.put,sa',sb',sc',i64_w,i32_w];rfl
                           refine pure_ (i:=11) (N:=some 98) (v:=?_) (a':=?_) #[true,true,true,true,true,true,true,true,true,true,true,true,false] rfl rfl (any_of HT_.out xk') (fun _ _ _ h=>h) (Or.inl ⟨by rfl,?_⟩) ?_ ?_
                           rotate_left
                           ·
                            intro w';go_simp;with_reducible rfl
                           rotate_left
                           ·
                            simp only[Act.put,sa',sb',sc',i64_w,i32_w];rfl
                           refine pure_ (i:=12) (N:=some 99) (v:=?_) (a':=?_) #[true,true,true,true,true,true,true,true,true,true,true,true,true] rfl rfl (any_of HT_.out xk') (fun _ _ _ h=>h) (Or.inl ⟨by rfl,?_⟩) ?_ ?_
                           rotate_left
                           ·
                            intro w';go_simp;with_reducible rfl
                           rotate_left
                           ·
                            simp only[Act.put,sa',sb',sc',i64_w,i32_w];rfl
                           refine done_ (done_of HT_.out xk') ?_
                           try go_wp2
                           (try simp only[← hl4_3,← hl5_3])
                           go_roundg k3
                           case measure=>have:=HK1.out;have:=HK2.out;have:=HK3.out;omega
                           case rel=>exact ⟨(x4_3),(x5_3),(x8_3),(wrap64 (x59_3+1)),xs',H',⟨by have:=HK1.out;have:=HK2.out;have:=HK3.out;omega⟩,⟨by (try simp only[hl4_1]);(try simp only[hl4_2]);(try simp only[hl5_2]);(try simp only[hl4_3]);(try simp only[hl5_3]);(with_reducible repeat (first|apply ra'|apply rn'|apply rw'));exact HO_4.out⟩,⟨by (try simp only[hl4_1]);(try simp only[hl4_2]);(try simp only[hl5_2]);(try simp only[hl4_3]);(try simp only[hl5_3]);(with_reducible repeat (first|apply ra'|apply rn'|apply rw'));exact HO_5.out⟩,⟨by (try simp only[hl4_1]);(try simp only[hl4_2]);(try simp only[hl5_2]);(try simp only[hl4_3]);(try simp only[hl5_3]);(with_reducible repeat (first|apply ra'|apply rn'|apply rw'));exact HO_8.out⟩,⟨by (try simp only[hl4_1]);(try simp only[hl4_2]);(try simp only[hl5_2]);(try simp only[hl4_3]);(try simp only[hl5_3]);(with_reducible repeat (first|apply Kd.N_alloc|apply Kd.N_drewN|apply Kd.N_drew));exact Kd.N_mono HO_57.out (fun _ hk=>⟨hk.1.1,⟨hk.1.2.1,⟨hk.1.2.2.1,⟨hk.1.2.2.2.1,⟨hk.1.2.2.2.2.1,hk.1.2.2.2.2.2⟩⟩⟩⟩⟩)⟩,⟨by (try simp only[hl4_1]);(try simp only[hl4_2]);(try simp only[hl5_2]);(try simp only[hl4_3]);(try simp only[hl5_3]);(with_reducible repeat (first|apply ra'|apply rn'|apply rw'));exact Kd.R_mono HO_285000.out (fun _ hk=>trivial)⟩,⟨by (try simp only[hl4_1]);(try simp only[hl4_2]);(try simp only[hl5_2]);(try simp only[hl4_3]);(try simp only[hl5_3]);(with_reducible repeat (first|refine kn' ?_ _|refine kd' ?_|refine ka' ?_ _));exact BK261.out⟩,⟨by (try simp only[hl4_1]);(try simp only[hl4_2]);(try simp only[hl5_2]);(try simp only[hl4_3]);(try simp only[hl5_3]);(with_reducible repeat (first|refine kn' ?_ _|refine kd' ?_|refine ka' ?_ _));exact BK284.out⟩,⟨y2' GE261.out GE284.out⟩⟩
                         ·
                          rw[if_neg c104] at H;exact absurd H (by simp)
                        ·
                         rw[if_neg c103] at H;exact absurd H (by simp)
                       ·
                        rw[if_neg c102] at H;exact absurd H (by simp)
                      ·
                       rw[if_neg c101] at H;exact absurd H (by simp)
                    ·
                     rw[if_neg c62] at H;exact absurd H (by simp)
                   ·
                    rw[if_neg c61] at H;exact absurd H (by simp)
                  ·
                   rw[if_neg c58] at H;exact absurd H (by simp)
                 ·
                  rw[if_neg c57] at H;exact absurd H (by simp)
                ·
                 rw[if_neg c56] at H;have c56b0:decide (x59_3 < (t285.length:Int))=false:=df' c56;clear c56;have H':=am' H;clear H;go_wp2
                 (try simp only[← hl4_2,← hl5_2,← hl4_3,← hl5_3])
                 go_roundg k3
                 case measure=>have:=HK1.out;have:=HK2.out;have:=HK3.out;omega
                 case rel=>exact ⟨(x4_3),(x5_3),(x8_3),(wrap64 (x9_2+1)),xs',H',⟨by have:=HK1.out;have:=HK2.out;have:=HK3.out;omega⟩,⟨by (try simp only[hl4_1]);(try simp only[hl4_2]);(try simp only[hl5_2]);(try simp only[hl4_3]);(try simp only[hl5_3]);(with_reducible repeat (first|apply ra'|apply rn'|apply rw'));exact HO_4.out⟩,⟨by (try simp only[hl4_1]);(try simp only[hl4_2]);(try simp only[hl5_2]);(try simp only[hl4_3]);(try simp only[hl5_3]);(with_reducible repeat (first|apply ra'|apply rn'|apply rw'));exact HO_5.out⟩,⟨by (try simp only[hl4_1]);(try simp only[hl4_2]);(try simp only[hl5_2]);(try simp only[hl4_3]);(try simp only[hl5_3]);(with_reducible repeat (first|apply ra'|apply rn'|apply rw'));exact HO_8.out⟩,⟨by (try simp only[hl4_1]);(try simp only[hl4_2]);(try simp only[hl5_2]);(try simp only[hl4_3]);(try simp only[hl5_3]);(with_reducible repeat (first|refine kn' ?_ _|refine kd' ?_|refine ka' ?_ _));exact BK261.out⟩,⟨y2' GE261.out GE284.out⟩⟩
             ·
              rw[if_neg c40] at H;exact absurd H (by simp)
            ·
             rw[if_neg c39] at H;have c39b0:decide (x9_2 < (x8_2.length:Int))=false:=df' c39;clear c39;simp only[Option.some.injEq,Prod.mk.injEq] at H;obtain ⟨rfl,rfl⟩:=H;obtain ⟨Ao125,co125,eo125⟩:=Kd.R_slice HO_8.out;subst eo125;go_wp2;go_ret2
             exact ⟨_,_,by first|rfl|(simp[errW_none,errW_some] <;> rfl)|(simp only[← hji3];first|rfl|(simp[errW_none,errW_some] <;> rfl))|(simp[*,errW_none,errW_some] <;> rfl),by (with_reducible repeat (first|apply ra'|apply rn'|apply rw'));exact Kd.R_mono HO_4.out (fun _ hk=>hk.1),by (with_reducible repeat (first|apply ra'|apply rn'|apply rw'));exact Kd.R_mono HO_5.out (fun _ hk=>hk.1),yb' GE261.out⟩
         ·
          rw[if_neg c27] at H;exact absurd H (by simp)
        ·
         rw[if_neg c25] at H;exact absurd H (by simp)
       ·
        rw[if_neg c24] at H;exact absurd H (by simp)
   ·
    rw[if_neg c5] at H;exact absurd H (by simp)
  ·
   rw[if_neg c4] at H;exact absurd H (by simp)
 ·
  rw[if_neg c2] at H;exact absurd H (by simp)
end Go.Proofs.Ytmfofjloklafoaa.C5
