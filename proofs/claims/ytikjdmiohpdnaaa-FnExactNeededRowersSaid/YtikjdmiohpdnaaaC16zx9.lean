import Derived.Test.YtikjdmiohpdnaaaC16zx0
import Derived.Test.YtikjdmiohpdnaaaC16zx2
import Derived.Test.YtikjdmiohpdnaaaC16zx3
import Derived.Test.YtikjdmiohpdnaaaC16zx7
import Derived.Test.YtikjdmiohpdnaaaC16zx8
import Derived.Test.YtikjdmiohpdnaaaC16zAl
namespace Go.Proofs.Ytikjdmiohpdnaaa.C16
open Go.RowKit Go.Proofs.YtikjdmiohpdnaaaW.PrintWords Go.Proofs.YtikjdmiohpdnaaaW.PrintLast Go.Proofs.YtikjdmiohpdnaaaW.PrintMore Go.Proofs.Ytikjdmiohpdnaaa.H
attribute [local go_sem] max2_int min2_int max_two min_two max_three min_three max_four min_four
set_option linter.unusedVariables false
set_option linter.unusedSimpArgs false
mutual
def spec_loFar.l0:Nat→Bool→Int→List Int→List Int→List Bool→Int→Int→List Int→List Bool→Int→Option (List Int × List Int)
 | 0,_,_,_,_,_,_,_,_,_,_=>none
 | k+1,x1,x6,x7,x8,x9,x33,x34,x248000,x248001,x248002=>if x34 < x33 then (if 0≤x34 then (if x34 < (x7.length:Int) then (spec_loFar.l0 k x1 x6 (x7.set (x34:Int).toNat (-1)) x8 x9 x33 (wrap64 (x34+1)) x248000 x248001 x248002) else (none)) else (none)) else ((spec_loParty.f x248000 x248001 x248002).bind fun bt258=>((spec_paLast.f k bt258.1 bt258.2).bind fun bt262=>((spec_seIndex.f k bt262.1 bt262.2).bind fun t266=>(if 0≤t266 then (if t266 < (x7.length:Int) then (if t266 < (x8.length:Int) then (spec_loFar.l1 k x1 x6 (x7.set (t266:Int).toNat 0) (x8.set (t266:Int).toNat 1) x9 x248000 x248001 x248002) else (none)) else (none)) else (none)))))
def spec_loFar.l1:Nat→Bool→Int→List Int→List Int→List Bool→List Int→List Bool→Int→Option (List Int × List Int)
 | 0,_,_,_,_,_,_,_,_=>none
 | k+1,x1,x6,x7,x8,x9,x248000,x248001,x248002=>spec_loFar.l2 k x1 x6 x7 x8 x9 (-1) x7 (x7.length:Int) 0 x248000 x248001 x248002
def spec_loFar.l2:Nat→Bool→Int→List Int→List Int→List Bool→Int→List Int→Int→Int→List Int→List Bool→Int→Option (List Int × List Int)
 | 0,_,_,_,_,_,_,_,_,_,_,_,_=>none
 | k+1,x1,x6,x7,x8,x9,x12,x51,x52,x53,x248000,x248001,x248002=>if x53 < x52 then (if 0≤x53 then (if x53 < (x51.length:Int) then (if x53 < (x9.length:Int) then (if rdOf false x9 x53=true then (spec_loFar.l2 k x1 x6 x7 x8 x9 x12 x51 x52 (wrap64 (x53+1)) x248000 x248001 x248002) else (if (rd x51 x53) ≥ 0 then (if x12 < 0 then (spec_loFar.l2 k x1 x6 x7 x8 x9 x53 x51 x52 (wrap64 (x53+1)) x248000 x248001 x248002) else (if 0≤x12 then (if x12 < (x7.length:Int) then (if (rd x51 x53) < (rd x7 x12) then (spec_loFar.l2 k x1 x6 x7 x8 x9 x53 x51 x52 (wrap64 (x53+1)) x248000 x248001 x248002) else (spec_loFar.l2 k x1 x6 x7 x8 x9 x12 x51 x52 (wrap64 (x53+1)) x248000 x248001 x248002)) else (none)) else (none))) else (spec_loFar.l2 k x1 x6 x7 x8 x9 x12 x51 x52 (wrap64 (x53+1)) x248000 x248001 x248002))) else (none)) else (none)) else (none)) else (if x12 < 0 then (some (x7,x8)) else (if 0≤x12 then (if x12 < (x9.length:Int) then ((spec_seState.f k x12 x6).bind fun bt273=>((spec_loRides.f k x248000 x248001 x248002 bt273.1 bt273.2).bind fun t278=>(spec_loFar.l3 k x1 x6 x7 x8 (x9.set (x12:Int).toNat true) x12 t278 (t278.length:Int) 0 x248000 x248001 x248002 bt273.1 bt273.2))) else (none)) else (none)))
def spec_loFar.l3:Nat→Bool→Int→List Int→List Int→List Bool→Int→List (List Int)→Int→Int→List Int→List Bool→Int→List Bool→Bool→Option (List Int × List Int)
 | 0,_,_,_,_,_,_,_,_,_,_,_,_,_,_=>none
 | k+1,x1,x6,x7,x8,x9,x12,x93,x94,x95,x248000,x248001,x248002,x278000,x278001=>if x95 < x94 then (if 0≤x95 then (if x95 < (x93.length:Int) then ((spec_paCross.f k x278000 x278001 (rd_L2 x93 x95)).bind fun bt282=>((spec_seIndex.f k bt282.1 bt282.2).bind fun t286=>(if 0≤x12 then (if x12 < (x7.length:Int) then ((spec_loCost.f k x248000 x248001 x248002 (rd_L2 x93 x95) x1).bind fun t288=>(if 0≤t286 then (if t286 < (x7.length:Int) then (if (rd x7 t286) < 0 then (spec_loFar.j4 k x1 x6 x7 x8 x9 x12 t286 (wrap64 ((rd x7 x12)+t288)) x93 x94 x95 true x248000 x248001 x248002 x278000 x278001) else (spec_loFar.j4 k x1 x6 x7 x8 x9 x12 t286 (wrap64 ((rd x7 x12)+t288)) x93 x94 x95 (decide ((wrap64 ((rd x7 x12)+t288)) < (rd x7 t286))) x248000 x248001 x248002 x278000 x278001)) else (none)) else (none))) else (none)) else (none)))) else (none)) else (none)) else (spec_loFar.l1 k x1 x6 x7 x8 x9 x248000 x248001 x248002)
def spec_loFar.j4:Nat→Bool→Int→List Int→List Int→List Bool→Int→Int→Int→List (List Int)→Int→Int→Bool→List Int→List Bool→Int→List Bool→Bool→Option (List Int × List Int)
 | 0,_,_,_,_,_,_,_,_,_,_,_,_,_,_,_,_,_=>none
 | k+1,x1,x6,x7,x8,x9,x12,x18,x19,x93,x94,x95,x124,x248000,x248001,x248002,x278000,x278001=>if x124=true then (if 0≤x18 then (if x18 < (x7.length:Int) then ((some (x7.set (x18:Int).toNat x19:List Int)).bind fun y291=>(if x18 < (x8.length:Int) then ((some (x8.set (x18:Int).toNat 0:List Int)).bind fun y292=>(if x19=(rd y291 x18) then (if 0≤x12 then (if x12 < (x8.length:Int) then (spec_loFar.l3 k x1 x6 y291 (y292.set (x18:Int).toNat (wrap64 ((rd y292 x18)+(rd y292 x12)))) x9 x12 x93 x94 (wrap64 (x95+1)) x248000 x248001 x248002 x278000 x278001) else (none)) else (none)) else (spec_loFar.l3 k x1 x6 y291 y292 x9 x12 x93 x94 (wrap64 (x95+1)) x248000 x248001 x248002 x278000 x278001))) else (none))) else (none)) else (none)) else (if 0≤x18 then (if x18 < (x7.length:Int) then (if x19=(rd x7 x18) then (if x18 < (x8.length:Int) then (if 0≤x12 then (if x12 < (x8.length:Int) then (spec_loFar.l3 k x1 x6 x7 (x8.set (x18:Int).toNat (wrap64 ((rd x8 x18)+(rd x8 x12)))) x9 x12 x93 x94 (wrap64 (x95+1)) x248000 x248001 x248002 x278000 x278001) else (none)) else (none)) else (none)) else (spec_loFar.l3 k x1 x6 x7 x8 x9 x12 x93 x94 (wrap64 (x95+1)) x248000 x248001 x248002 x278000 x278001)) else (none)) else (none))
end
def spec_loFar.f (k:Nat) (l0_0:List Int) (l0_1:List Bool) (a0_2:Int) (a1:Bool):Option (List Int × List Int):=if 0≤(shl .i64 2 (l0_0.length:Int)) then (if (shl .i64 2 (l0_0.length:Int):Int).toNat≤35184372088832 then ((some (List.replicate (shl .i64 2 (l0_0.length:Int):Int).toNat 0:List Int)).bind fun y248=>(if (shl .i64 2 (l0_0.length:Int):Int).toNat≤281474976710656 then (spec_loFar.l0 k a1 (l0_0.length:Int) y248 (List.replicate (shl .i64 2 (l0_0.length:Int):Int).toNat 0) (List.replicate (shl .i64 2 (l0_0.length:Int):Int).toNat false) (y248.length:Int) 0 l0_0 l0_1 a0_2) else (none))) else (none)) else (none)
def spec_loFar.T2:Bool × List (List Nat × List Nat):=(true,[([],[]),([0],[0]),([1,1],[1]),([],[]),([3],[3]),([4,4],[4]),([2,0,1,2],[2]),([5,6,0,1,2,3,4,5,6],[5])])
def spec_loFar.B2:List Nat:=[0,1,3,0,8,24,7,127]
theorem spec_loFar.tab2:rtab .any (opsOf Try.f103 2)=spec_loFar.T2:=by kernel_rfl
theorem spec_loFar.bits2:waitsOk spec_loFar.T2.2 spec_loFar.B2=true:=by kernel_rfl
def spec_loFar.T27:Bool × List (List Nat × List Nat):=(true,[([],[]),([],[]),([0,1],[0,1]),([2],[2]),([],[]),([],[]),([],[]),([4,5,6],[4,5,6]),([3,7],[3,7]),([8,7,0,1,2,3,4,5,6,7,8],[8])])
def spec_loFar.B27:List Nat:=[0,0,3,7,0,0,0,112,255,511]
theorem spec_loFar.tab27:rtab .any (opsOf Try.f103 27)=spec_loFar.T27:=by kernel_rfl
theorem spec_loFar.bits27:waitsOk spec_loFar.T27.2 spec_loFar.B27=true:=by kernel_rfl
def spec_loFar.T32:Bool × List (List Nat × List Nat):=(true,[([],[]),([],[]),([0,1],[0,1]),([2],[2]),([],[]),([],[]),([4,5],[4,5]),([6],[6]),([3,7],[3,7]),([0,1,0,1,2,3,4,5,6,7,8],[0,1]),([9,8,0,1,2,3,4,5,6,7,8],[8,9])])
def spec_loFar.B32:List Nat:=[0,0,3,7,0,0,48,112,255,511,1023]
theorem spec_loFar.tab32:rtab .any (opsOf Try.f103 32)=spec_loFar.T32:=by kernel_rfl
theorem spec_loFar.bits32:waitsOk spec_loFar.T32.2 spec_loFar.B32=true:=by kernel_rfl
set_option maxHeartbeats 8000000 in
set_option maxRecDepth 100000 in
theorem spec_loFar.calls (k:Nat) (A0_0:Option Addr) (c0_0:Nat) (l0_0:List Int) (A0_1:Option Addr) (c0_1:Nat) (l0_1:List Bool) (a0_2:Int) (a1:Bool) (r1:List Int) (r2:List Int) (w:World) (hr0_0:Kd.C (Kd.int .i64) w A0_0 l0_0.length l0_0) (hc0_0:l0_0.length≤c0_0) (hr0_1:Kd.C Kd.bool w A0_1 l0_1.length l0_1) (hc0_1:l0_1.length≤c0_1) (h:spec_loFar.f k l0_0 l0_1 a0_2 a1=some (r1,r2)) :
  Calls Try.prog 103 #[.agg #[.slice A0_0 l0_0.length c0_0, .slice A0_1 l0_1.length c0_1, .int .i64 a0_2], .bool a1] w fun e w'=>∃ v0_ v1_:Value,e = .returned (.tuple #[v0_,v1_])∧Kd.R (Kd.int .i64) 3 w' w.heap.size (fun k_=>some k_≠(v1_:Value).ownBlock) v0_ r1∧Kd.R (Kd.int .i64) 3 w' w.heap.size (fun k_=>some k_≠(v0_:Value).ownBlock) v1_ r2∧Below w.heap.size w w':=by
 have hu29:=Try.underlying29
 have hu38:=Try.underlying38
 have HR0_0:=am' hr0_0
 have HC0_0:=am' hc0_0
 clear hr0_0 hc0_0;have HR0_1:=am' hr0_1
 have HC0_1:=am' hc0_1
 clear hr0_1 hc0_1;have HB:=am' (Below.refl w.heap.size w)
 have H:(if 0≤(shl .i64 2 (l0_0.length:Int)) then (if (shl .i64 2 (l0_0.length:Int):Int).toNat≤35184372088832 then ((some (List.replicate (shl .i64 2 (l0_0.length:Int):Int).toNat 0:List Int)).bind fun y248=>(if (shl .i64 2 (l0_0.length:Int):Int).toNat≤281474976710656 then (spec_loFar.l0 k a1 (l0_0.length:Int) y248 (List.replicate (shl .i64 2 (l0_0.length:Int):Int).toNat 0) (List.replicate (shl .i64 2 (l0_0.length:Int):Int).toNat false) (y248.length:Int) 0 l0_0 l0_1 a0_2) else (none))) else (none)) else (none))=some (r1,r2):=h
 clear h;obtain ⟨ji3,hji3⟩:∃ j_:Int,(shl .i64 2 (l0_0.length:Int))=j_:=⟨_,rfl⟩
 replace H:(if 0≤(ji3) then (if (ji3:Int).toNat≤35184372088832 then ((some (List.replicate (ji3:Int).toNat 0:List Int)).bind fun y248=>(if (ji3:Int).toNat≤281474976710656 then (spec_loFar.l0 k a1 (l0_0.length:Int) y248 (List.replicate (ji3:Int).toNat 0) (List.replicate (ji3:Int).toNat false) (y248.length:Int) 0 l0_0 l0_1 a0_2) else (none))) else (none)) else (none))=some (r1,r2):=by first|(rw[hji3] at H;exact H)|(simp only[hji3] at H ⊢;exact H)
 have hji3_:(IntKind.i64.wrap (2 * 2 ^ min (l0_0.length:Int).toNat 64))=ji3:=hji3
 have hji3z:(l0_0.length:Int)≤64→(IntKind.i64.wrap (2 * 2 ^ (l0_0.length:Int).toNat))=ji3:=shl_small hji3
 have hji3p:(IntKind.i64.wrap (2 * 2 ^ min l0_0.length 64))=ji3:=hji3_
 have hji3q:(l0_0.length:Int)≤64→(IntKind.i64.wrap (2 * 2 ^ l0_0.length))=ji3:=hji3z
 have hji3y:(wrap64 (2 * 2 ^ min (l0_0.length:Int).toNat 64))=ji3:=(i64_w _).symm.trans hji3_
 have hji3x:(l0_0.length:Int)≤64→(wrap64 (2 * 2 ^ (l0_0.length:Int).toNat))=ji3:=fun h_=>(i64_w _).symm.trans (hji3z h_)
 by_cases c4:0≤(ji3)
 ·
  rw[if_pos c4] at H;have c4b0:=eq_true c4;have c4b1:decide (0≤(ji3))=true:=decide_eq_true c4;clear c4;by_cases c5:(ji3:Int).toNat≤35184372088832
  ·
   rw[if_pos c5] at H;have c5b0:=eq_true c5;have c5b1:decide ((ji3:Int).toNat≤35184372088832)=true:=decide_eq_true c5;clear c5;obtain ⟨y248,hy248⟩:∃ y_:List Int,y_=(List.replicate (ji3:Int).toNat 0):=⟨_,rfl⟩
   replace H:(if (ji3:Int).toNat≤281474976710656 then (spec_loFar.l0 k a1 (l0_0.length:Int) y248 (List.replicate (ji3:Int).toNat 0) (List.replicate (ji3:Int).toNat false) (y248.length:Int) 0 l0_0 l0_1 a0_2) else (none))=some (r1,r2):=by first|(rw[hy248];with_reducible exact H)|(have H2_:=(Option.bind_some _ _).symm.trans H;rw[hy248];with_reducible exact H2_)|(have H2_:=(Option.bind_some _ _).symm.trans H;with_reducible exact H2_)|with_reducible exact H|(rw[hy248];exact H)|exact H
   have Ny248:=am' hy248;clear hy248;obtain ⟨y251,hy251⟩:∃ y_:List Int,y_=(List.replicate (ji3:Int).toNat 0):=⟨_,rfl⟩
   replace H:(if (ji3:Int).toNat≤281474976710656 then (spec_loFar.l0 k a1 (l0_0.length:Int) y248 y251 (List.replicate (ji3:Int).toNat false) (y248.length:Int) 0 l0_0 l0_1 a0_2) else (none))=some (r1,r2):=by first|(rw[hy251];with_reducible exact H)|(have H2_:=(Option.bind_some _ _).symm.trans H;rw[hy251];with_reducible exact H2_)|(have H2_:=(Option.bind_some _ _).symm.trans H;with_reducible exact H2_)|with_reducible exact H|(rw[hy251];exact H)|exact H
   have Ny251:=am' hy251;clear hy251;by_cases c8:(ji3:Int).toNat≤281474976710656
   ·
    rw[if_pos c8] at H;have c8b0:=eq_true c8;have c8b1:decide ((ji3:Int).toNat≤281474976710656)=true:=decide_eq_true c8;clear c8;obtain ⟨y254,hy254⟩:∃ y_:List Bool,y_=(List.replicate (ji3:Int).toNat false):=⟨_,rfl⟩
    replace H:(spec_loFar.l0 k a1 (l0_0.length:Int) y248 y251 y254 (y248.length:Int) 0 l0_0 l0_1 a0_2)=some (r1,r2):=by first|(rw[hy254];with_reducible exact H)|(have H2_:=(Option.bind_some _ _).symm.trans H;rw[hy254];with_reducible exact H2_)|(have H2_:=(Option.bind_some _ _).symm.trans H;with_reducible exact H2_)|with_reducible exact H|(rw[hy254];exact H)|exact H
    have Ny254:=am' hy254;clear hy254;have H':=am' H;clear H;go_enter Try.func103,Try.ntmps103
    try go_wp2_with (first|((with_reducible refine gate_dst (N:=2) rfl ?_);refine box_event ?hg (N:=2) ?hd (cs:=#[.slice A0_0 l0_0.length c0_0, .slice A0_1 l0_1.length c0_1, .int .i64 a0_2]) (t:=29) ?hr ?_;(case hd=>rfl);(case hg=>rfl);(case hr=>first|(go_simp;done)|(go_simp;rfl));intro gb247 hg w9 hbox hb;have n0_:=am' (below_step xb' hb);have n1_:=am' (hbox);have n2_:=am' ((by rw[hg];exact (below_size xb'):w.heap.size≤gb247));have n3_:=am' ((by rw[hg];exact (below_size xb'):w.heap.size≤gb247));clear HB;have HB:=n0_;have BK247:=n1_;have GW247:=n2_;have GE247:=n3_;clear n0_ n1_ n2_ n3_;clear hb hbox hg;have hcz10_0:w9.cell? ⟨gb247,0,none⟩=some (.slice A0_0 l0_0.length c0_0):=(blk_cell BK247.out 0).trans rfl;have hcz10_1:w9.cell? ⟨gb247,1,none⟩=some (.slice A0_1 l0_1.length c0_1):=(blk_cell BK247.out 1).trans rfl;have hcz10_2:w9.cell? ⟨gb247,2,none⟩=some (.int .i64 a0_2):=(blk_cell BK247.out 2).trans rfl;have hfz10_0:=blk_frozen BK247.out 0;have hfz10_1:=blk_frozen BK247.out 1;have hfz10_2:=blk_frozen BK247.out 2))
    have n0_:=am' (kd' BK247.out);have n1_:=am' (be' HB.out);clear BK247;clear HB;have BK247:=n0_;have HB:=n1_;clear n0_ n1_;refine start_ (n:=8) (S:=fun w'=>True) (ds:=[]) #[false,false,false,false,false,false,false,false] xk' rfl rfl trivial (fun hHeld=>?_);refine with_tabW spec_loFar.tab2 spec_loFar.bits2 (fun HT_ HW_=>?_);generalize w9.drew=w11 at BK247 HB hHeld ⊢
    refine pure_ (i:=0) (N:=some 23) (v:=?_) (a':=?_) #[true,false,false,false,false,false,false,false] rfl rfl (any_of HT_.out xk') (fun _ _ _ h=>h) (Or.inl ⟨by rfl,?_⟩) ?_ ?_
    rotate_left
    ·
     intro w';go_simp;with_reducible rfl
    rotate_left
    ·
     simp only[Act.put,sa',sb',sc',i64_w,i32_w];rfl
    refine pure_ (i:=1) (N:=some 24) (v:=?_) (a':=?_) #[true,true,false,false,false,false,false,false] rfl rfl (any_of HT_.out xk') (fun _ _ _ h=>h) (Or.inl ⟨by rfl,?_⟩) ?_ ?_
    rotate_left
    ·
     intro w';go_simp;with_reducible rfl
    rotate_left
    ·
     simp only[Act.put,sa',sb',sc',i64_w,i32_w];rfl
    refine pure_ (i:=3) (N:=some 26) (v:=?_) (a':=?_) #[true,true,false,true,false,false,false,false] rfl rfl (any_of HT_.out xk') (fun _ _ _ h=>h) (Or.inl ⟨by rfl,?_⟩) ?_ ?_
    rotate_left
    ·
     intro w';go_simp;with_reducible rfl
    rotate_left
    ·
     simp only[Act.put,sa',sb',sc',i64_w,i32_w];rfl
    refine pure_ (i:=4) (N:=some 27) (v:=?_) (a':=?_) #[true,true,false,true,true,false,false,false] rfl rfl (any_of HT_.out xk') (fun _ _ _ h=>h) (Or.inl ⟨by rfl,?_⟩) ?_ ?_
    rotate_left
    ·
     intro w';go_simp;with_reducible rfl
    rotate_left
    ·
     simp only[Act.put,sa',sb',sc',i64_w,i32_w];rfl
    refine join_ (σ:=Value × Value) 1 #[true,true,true,true,true,true,true,false] (fun s_=>[(25,s_.1),(28,s_.2),(7,s_.1)]) (fun s_ w'=>(Kd.R (Kd.int .i64) 3 w' w.heap.size (fun k_=>some k_≠(s_.2:Value).ownBlock) s_.1 y248)∧(Kd.R (Kd.int .i64) 3 w' w.heap.size (fun k_=>some k_≠(s_.1:Value).ownBlock) s_.2 y251)∧(w'.heap[gb247]? = some (.cells #[.slice A0_0 l0_0.length c0_0, .slice A0_1 l0_1.length c0_1, .int .i64 a0_2] 29 (0,0)))∧(Below w.heap.size w w')) ?_ ?_
    rotate_left
    ·
     intro hCont;refine two_ (i:=2) (j:=5) (Ni:=some 25) (Nj:=some 28) #[true,true,true,true,true,false,false,false] #[true,true,false,true,true,true,false,false] rfl rfl rfl rfl (two_of HT_.out xk') (by decide) (by decide) (fun K hK=>?_) (fun K hK=>?_)
     ·
      skip
      refine Kd.R_make_step (Kd.int .i64) _ 3 (by rfl) (N:=25) rfl 22 _ _ rfl ji3 rfl rfl Try.underlying22 (.int .i64 0) 8 info3 rfl (by decide) (by omega) 0 (ok:=fun _=>True) (okp:=fun _=>True) rfl (fun _ hk=>hk) trivial (of_decide_eq_true xa') (Nat.le_trans (Nat.mul_le_mul_right _ (of_decide_eq_true xa':ji3.toNat≤35184372088832)) (by omega)) (Below.refl _ _) (Nat.le_refl _) ?_
      intro v249 w12 ho13 hb hg_ hnew_;clear hg_ hnew_;(first|rw[← Ny248.out] at ho13|(simp only[Int.reduceToNat] at ho13;rw[← Ny248.out] at ho13))
      have n0_:=am' (Kd.R_lower ho13 (below_size (yb' GE247.out)));have n1_:=am' (blk_below (g:=gb247) (o := .cells #[.slice A0_0 l0_0.length c0_0, .slice A0_1 l0_1.length c0_1, .int .i64 a0_2] 29 (0,0)) (kk' BK247.out) hb);have n2_:=am' (below_step (yb' GE247.out) hb);clear BK247;clear HB;have HO250:=n0_;have BK247:=n1_;have HB:=n2_;clear n0_ n1_ n2_;clear hb ho13;refine hK.out _ _ trivial (fun hHeld=>?_);clear hK K;refine norm_ (a':=?_) ?_ ?_
      rotate_left
      ·
       show Act.put _ (some 25) _=_
       simp only[Act.put,sa',sb',sc',i64_w,i32_w];rfl
      refine pure_ (i:=6) (N:=some 7) (v:=?_) (a':=?_) #[true,true,true,true,true,false,true,false] rfl rfl (any_of HT_.out xk') (fun _ _ _ h=>h) (Or.inl ⟨by rfl,?_⟩) ?_ ?_
      rotate_left
      ·
       intro w';go_simp;with_reducible rfl
      rotate_left
      ·
       simp only[Act.put,sa',sb',sc',i64_w,i32_w];rfl
      refine one_ (i:=5) (N:=some 28) #[true,true,true,true,true,true,true,false] rfl rfl (one_of HT_.out xk') (by decide) (fun K hK=>?_);refine Kd.R_make_step (Kd.int .i64) _ 3 (by rfl) (N:=28) rfl 22 _ _ rfl ji3 rfl rfl Try.underlying22 (.int .i64 0) 8 info3 rfl (by decide) (by omega) 0 (ok:=fun _=>True) (okp:=fun _=>True) rfl (fun _ hk=>hk) trivial (of_decide_eq_true xa') (Nat.le_trans (Nat.mul_le_mul_right _ (of_decide_eq_true xa':ji3.toNat≤35184372088832)) (by omega)) (Below.refl _ _) (Nat.le_refl _) ?_
      intro v252 w14 ho15 hb hg_ hnew_;clear hg_ hnew_;(first|rw[← Ny251.out] at ho15|(simp only[Int.reduceToNat] at ho15;rw[← Ny251.out] at ho15))
      have n0_:=am' (Kd.R_elder' (kr' HO250.out) (Kd.R_base ho15) hb);have n1_:=am' (Kd.R_lower (Kd.R_new' ho15 (Kd.R_lt (kr' HO250.out))) (below_size (yb' GE247.out)));have n2_:=am' (blk_below (g:=gb247) (o := .cells #[.slice A0_0 l0_0.length c0_0, .slice A0_1 l0_1.length c0_1, .int .i64 a0_2] 29 (0,0)) (kk' BK247.out) hb);have n3_:=am' (below_step (yb' GE247.out) hb);clear HO250;clear BK247;clear HB;have HO250:=n0_;have HO253:=n1_;have BK247:=n2_;have HB:=n3_;clear n0_ n1_ n2_ n3_;clear hb ho15;refine hK.out _ _ trivial (fun hHeld=>?_);clear hK K;refine norm_ (a':=?_) ?_ ?_
      rotate_left
      ·
       show Act.put _ (some 28) _=_
       simp only[Act.put,sa',sb',sc',i64_w,i32_w];rfl
      exact norm_ (by simp only[putAll,Act.put,sa',sb',sc']) (hCont (v249,v252) _ ⟨(by (with_reducible repeat (first|apply ra'|apply rn'|apply rw'));exact Kd.R_mono HO250.out (fun _ hk=>hk.2)),(by (with_reducible repeat (first|apply ra'|apply rn'|apply rw'));exact Kd.R_mono HO253.out (fun _ hk=>hk.2)),(kk' BK247.out),(yb' GE247.out)⟩)
     ·
      skip
      refine Kd.R_make_step (Kd.int .i64) _ 3 (by rfl) (N:=28) rfl 22 _ _ rfl ji3 rfl rfl Try.underlying22 (.int .i64 0) 8 info3 rfl (by decide) (by omega) 0 (ok:=fun _=>True) (okp:=fun _=>True) rfl (fun _ hk=>hk) trivial (of_decide_eq_true xa') (Nat.le_trans (Nat.mul_le_mul_right _ (of_decide_eq_true xa':ji3.toNat≤35184372088832)) (by omega)) (Below.refl _ _) (Nat.le_refl _) ?_
      intro v252 w12 ho13 hb hg_ hnew_;clear hg_ hnew_;(first|rw[← Ny251.out] at ho13|(simp only[Int.reduceToNat] at ho13;rw[← Ny251.out] at ho13))
      have n0_:=am' (Kd.R_lower ho13 (below_size (yb' GE247.out)));have n1_:=am' (blk_below (g:=gb247) (o := .cells #[.slice A0_0 l0_0.length c0_0, .slice A0_1 l0_1.length c0_1, .int .i64 a0_2] 29 (0,0)) (kk' BK247.out) hb);have n2_:=am' (below_step (yb' GE247.out) hb);clear BK247;clear HB;have HO253:=n0_;have BK247:=n1_;have HB:=n2_;clear n0_ n1_ n2_;clear hb ho13;refine hK.out _ _ trivial (fun hHeld=>?_);clear hK K;refine norm_ (a':=?_) ?_ ?_
      rotate_left
      ·
       show Act.put _ (some 28) _=_
       simp only[Act.put,sa',sb',sc',i64_w,i32_w];rfl
      refine one_ (i:=2) (N:=some 25) #[true,true,true,true,true,true,false,false] rfl rfl (one_of HT_.out xk') (by decide) (fun K hK=>?_);refine Kd.R_make_step (Kd.int .i64) _ 3 (by rfl) (N:=25) rfl 22 _ _ rfl ji3 rfl rfl Try.underlying22 (.int .i64 0) 8 info3 rfl (by decide) (by omega) 0 (ok:=fun _=>True) (okp:=fun _=>True) rfl (fun _ hk=>hk) trivial (of_decide_eq_true xa') (Nat.le_trans (Nat.mul_le_mul_right _ (of_decide_eq_true xa':ji3.toNat≤35184372088832)) (by omega)) (Below.refl _ _) (Nat.le_refl _) ?_
      intro v249 w14 ho15 hb hg_ hnew_;clear hg_ hnew_;(first|rw[← Ny248.out] at ho15|(simp only[Int.reduceToNat] at ho15;rw[← Ny248.out] at ho15))
      have n0_:=am' (Kd.R_elder' (kr' HO253.out) (Kd.R_base ho15) hb);have n1_:=am' (Kd.R_lower (Kd.R_new' ho15 (Kd.R_lt (kr' HO253.out))) (below_size (yb' GE247.out)));have n2_:=am' (blk_below (g:=gb247) (o := .cells #[.slice A0_0 l0_0.length c0_0, .slice A0_1 l0_1.length c0_1, .int .i64 a0_2] 29 (0,0)) (kk' BK247.out) hb);have n3_:=am' (below_step (yb' GE247.out) hb);clear HO253;clear BK247;clear HB;have HO253:=n0_;have HO250:=n1_;have BK247:=n2_;have HB:=n3_;clear n0_ n1_ n2_ n3_;clear hb ho15;refine hK.out _ _ trivial (fun hHeld=>?_);clear hK K;refine norm_ (a':=?_) ?_ ?_
      rotate_left
      ·
       show Act.put _ (some 25) _=_
       simp only[Act.put,sa',sb',sc',i64_w,i32_w];rfl
      refine pure_ (i:=6) (N:=some 7) (v:=?_) (a':=?_) #[true,true,true,true,true,true,true,false] rfl rfl (any_of HT_.out xk') (fun _ _ _ h=>h) (Or.inl ⟨by rfl,?_⟩) ?_ ?_
      rotate_left
      ·
       intro w';go_simp;with_reducible rfl
      rotate_left
      ·
       simp only[Act.put,sa',sb',sc',i64_w,i32_w];rfl
      exact norm_ (by simp only[putAll,Act.put,sa',sb',sc']) (hCont (v249,v252) _ ⟨(by (with_reducible repeat (first|apply ra'|apply rn'|apply rw'));exact Kd.R_mono HO250.out (fun _ hk=>hk.2)),(by (with_reducible repeat (first|apply ra'|apply rn'|apply rw'));exact Kd.R_mono HO253.out (fun _ hk=>hk.2)),(kk' BK247.out),(yb' GE247.out)⟩)
    rintro ⟨v249,v252⟩ w16 ⟨h0_,h1_,h2_,h3_⟩
    have n0_:Aside0 (Kd.R (Kd.int .i64) 3 w16 w.heap.size (fun k_=>some k_≠(v252:Value).ownBlock) v249 y248):=⟨h0_⟩
    have n1_:Aside0 (Kd.R (Kd.int .i64) 3 w16 w.heap.size (fun k_=>some k_≠(v249:Value).ownBlock) v252 y251):=⟨h1_⟩
    have n2_:Aside0 (w16.heap[gb247]? = some (.cells #[.slice A0_0 l0_0.length c0_0, .slice A0_1 l0_1.length c0_1, .int .i64 a0_2] 29 (0,0))):=⟨h2_⟩
    have n3_:Aside0 (Below w.heap.size w w16):=⟨h3_⟩
    clear BK247;clear HB;clear h0_ h1_ h2_ h3_;have HO250:=n0_;have HO253:=n1_;have BK247:=n2_;have HB:=n3_;clear n0_ n1_ n2_ n3_;have hHeld:=trivial;refine norm_ (a':=?_) ?_ ?_
    rotate_left
    ·
     simp only[putAll,Act.put,sa',sb',sc'];rfl
    refine pure_ (i:=7) (N:=some 8) (v:=?_) (a':=?_) #[true,true,true,true,true,true,true,true] rfl rfl (any_of HT_.out xk') (fun _ _ _ h=>h) (Or.inl ⟨by rfl,?_⟩) ?_ ?_
    rotate_left
    ·
     intro w';go_simp;with_reducible rfl
    rotate_left
    ·
     simp only[Act.put,sa',sb',sc',i64_w,i32_w];rfl
    refine done_ (done_of HT_.out xk') ?_
    try go_wp2_with (first|((with_reducible refine gate_dst (N:=31) rfl ?_);refine Kd.R_make Kd.bool _ 4 rfl (N:=31) rfl 23 _ _ rfl ji3 rfl rfl Try.underlying23 (.bool false) 1 info4 rfl (by decide) (by omega) false (ok:=fun _=>True) (okp:=fun _=>True) rfl (fun _ hk=>hk) trivial (of_decide_eq_true xa') (Nat.le_trans (Nat.mul_le_mul_right _ (of_decide_eq_true xa':ji3.toNat≤281474976710656)) (by omega)) (Below.refl _ _) (Nat.le_refl _) ?_;intro v255 w17 ho18 hb hg_ hnew_;clear hg_ hnew_;(first|rw[← Ny254.out] at ho18|(simp only[Int.reduceToNat] at ho18;rw[← Ny254.out] at ho18));have n0_:=am' (Kd.R_below (kr' HO250.out) hb);have n1_:=am' (Kd.R_below (kr' HO253.out) hb);have n2_:=am' (Kd.R_lower ho18 (below_size (yb' GE247.out)));have n3_:=am' (blk_below (g:=gb247) (o := .cells #[.slice A0_0 l0_0.length c0_0, .slice A0_1 l0_1.length c0_1, .int .i64 a0_2] 29 (0,0)) (kk' BK247.out) hb);have n4_:=am' (below_step (yb' GE247.out) hb);clear HO250;clear HO253;clear BK247;clear HB;have HO250:=n0_;have HO253:=n1_;have HO256:=n2_;have BK247:=n3_;have HB:=n4_;clear n0_ n1_ n2_ n3_ n4_;clear hb ho18;obtain ⟨Ao19,co19,eo19⟩:=Kd.R_slice HO250.out;subst eo19))
    go_loopg [34] k (fun kq v34 w'=>∃ (x7_1:List Int) (x34_1:Int),v34 = .int .i64 x34_1∧Aside0 (spec_loFar.l0 kq a1 (l0_0.length:Int) x7_1 y251 y254 (y248.length:Int) x34_1 l0_0 l0_1 a0_2=some (r1,r2))∧Aside0 (kq≤k)∧Aside0 (Kd.R (Kd.int .i64) 3 w' w.heap.size (fun k_=>some k_≠(v252:Value).ownBlock) (.slice Ao19 y248.length co19) x7_1)∧Aside0 (Kd.R (Kd.int .i64) 3 w' w.heap.size (fun k_=>some k_≠((.slice Ao19 y248.length co19):Value).ownBlock) v252 y251)∧Aside0 (Kd.R Kd.bool 4 w' w.heap.size (fun _=>True) v255 y254)∧Aside0 (w'.heap[gb247]? = some (.cells #[(.slice A0_0 l0_0.length c0_0),(.slice A0_1 l0_1.length c0_1), .int .i64 a0_2] 29 (0,0)))∧Aside0 (Below w.heap.size w w'))
    case atStart=>exact ⟨(y248),(0),xs',H',⟨Nat.le_refl _⟩,⟨by (with_reducible repeat (first|apply ra'|apply rn'|apply rw'));exact HO250.out⟩,⟨by (with_reducible repeat (first|apply ra'|apply rn'|apply rw'));exact HO253.out⟩,⟨by (with_reducible repeat (first|apply ra'|apply rn'|apply rw'));exact HO256.out⟩,⟨by (with_reducible repeat (first|refine kn' ?_ _|refine kd' ?_|refine ka' ?_ _));exact BK247.out⟩,⟨by repeat (first|(with_reducible first|exact HB.out|apply ba'|apply bd'|apply be'|refine bs' ?_ GE247.out)|exact HB.out)⟩⟩
    case round =>
     clear H';try clear c1
     try clear p2
     try clear c4
     try clear c4b0
     try clear c4b1
     try clear c5
     try clear c5b0
     try clear c5b1
     try clear c6
     try clear c6b0
     try clear p6
     try clear c7
     try clear c7b0
     try clear c8
     try clear c8b0
     try clear c8b1
     try clear c10
     try clear hcz10_0
     try clear hcz10_1
     try clear hcz10_2
     try clear hfz10_0
     try clear hfz10_1
     try clear hfz10_2
     obtain ⟨x7_1,x34_1,rfl,HA,HK1,HO_7,HO_8,HO_9,BK247,HB⟩:=hrel;have hl7_1:=(Kd.R_reads' HO_7.out).1;rw[hl7_1] at HO_7
     (try simp only[hl7_1])
     (try simp only[hl7_1] at BK247)
     (try simp only[hl7_1] at HO_8)
     (try simp only[hl7_1] at HO_9)
     cases gk with
     | zero=>exact absurd HA.out (by simp[spec_loFar.l0])
     | succ k1 =>
      have H:=HA.out;clear HA;simp only[spec_loFar.l0] at H;by_cases c20:x34_1 < (y248.length:Int)
      ·
       rw[if_pos c20] at H;have c20b0:decide (x34_1 < (y248.length:Int))=true:=decide_eq_true c20;clear c20;by_cases c21:0≤x34_1
       ·
        rw[if_pos c21] at H;have c21b0:decide (0≤x34_1)=true:=decide_eq_true c21;clear c21;by_cases c22:x34_1 < (x7_1.length:Int)
        ·
         rw[if_pos c22] at H;have c22b0:decide (x34_1 < (x7_1.length:Int))=true:=decide_eq_true c22;clear c22;obtain ⟨y257,hy257⟩:∃ y_:List Int,y_=(x7_1.set (x34_1:Int).toNat (-1)):=⟨_,rfl⟩
         replace H:(spec_loFar.l0 k1 a1 (l0_0.length:Int) y257 y251 y254 (y248.length:Int) (wrap64 (x34_1+1)) l0_0 l0_1 a0_2)=some (r1,r2):=by first|(rw[hy257];with_reducible exact H)|(have H2_:=(Option.bind_some _ _).symm.trans H;rw[hy257];with_reducible exact H2_)|(have H2_:=(Option.bind_some _ _).symm.trans H;with_reducible exact H2_)|with_reducible exact H|(rw[hy257];exact H)|exact H
         have Ny257:=am' hy257;clear hy257;have H':=am' H;clear H;have p23:0≤(x34_1:Int):=of_decide_eq_true xa';have q23:(x34_1:Int) < ((x7_1.length:Int):Int):=of_decide_eq_true xa';obtain ⟨go23,co23,eo23,gb23,gl23,cl23,HG23⟩:=Kd.R_form HO_7.out (by omega)
         (first|cases eo23|(injection eo23 with ea_ en_ ec_;(first|subst ea_|(injection ea_ with ea_;subst ea_));subst ec_;clear en_))
         have GB23:=am' gb23;have GG23:=am' HG23;clear gb23 gl23 HG23;obtain ⟨hx23_0,hf23_0⟩:=Kd.R_celln 0 HO_7.out (x34_1:Int) p23 q23;replace p23:=eq_true p23;replace q23:=eq_true q23;have HP24:=Kd.R_putg HO_7.out (x34_1:Int) (-1);go_wp2_with (first|((with_reducible refine gate_store (t:=3) (p:=39) rfl ?_);refine store_event (t:=3) (p:=39) (v:=?vo_w25) (w1:=(wr.setCell ⟨go23,(x34_1:Int).toNat,none⟩ (.int .i64 (-1)))) ?hg ?ho ?hn ?hr ?_;(case ho=>rfl);(case hg=>rfl);(case hn=>rfl);(case hr=>first|(go_simp;done)|(go_simp;rfl));intro w25 hw;have hg:wr.grownBy w25 (some go23):=(by rw[hw];exact HP24.2);have hp_:Kd.R (Kd.int .i64) 3 w25 w.heap.size (fun k_=>some k_≠(v252:Value).ownBlock) (.slice (some ⟨go23,0,none⟩) x7_1.length co19) y257:=(by rw[hw,Ny257.out];exact HP24.1);clear HP24;have n0_:=am' (hp_);have n1_:=am' (Kd.R_after (v:=(.slice (some ⟨go23,0,none⟩) x7_1.length co19)) (v1:=(.slice (some ⟨go23,0,none⟩) x7_1.length co19)) (ok:=(fun _=>True)) (by (with_reducible repeat (first|apply ra'|apply rn'|apply rw'));exact Kd.R_mono HO_8.out (fun _ hk=>⟨trivial,hk⟩)) hg (.inl rfl));have n2_:=am' (Kd.R_over' (v:=(.slice (some ⟨go23,0,none⟩) x7_1.length co19)) (kr' HO_9.out) (Kd.R_typed HO_7.out) (by decide) hg);have n3_:=am' (blk_grown (g:=gb247) (o := .cells #[.slice A0_0 l0_0.length c0_0, .slice A0_1 l0_1.length c0_1, .int .i64 a0_2] 29 (0,0)) (kk' BK247.out) hg (Kd.R_ne HO_7.out BK247.out (by decide)));have n4_:=am' ((by rw[hw];exact bs' (HB.out) GB23.out:Below w.heap.size w w25));clear HO_7;clear HO_8;clear HO_9;clear BK247;clear HB;have HO_7:=n0_;have HO_8:=n1_;have HO_9:=n2_;have BK247:=n3_;have HB:=n4_;clear n0_ n1_ n2_ n3_ n4_;clear hg hw hp_))
         (try simp only[← hl7_1])
         go_roundg k1
         case measure=>have:=HK1.out;omega
         case rel=>exact ⟨(y257),(wrap64 (x34_1+1)),xs',H',⟨by have:=HK1.out;omega⟩,⟨by (try simp only[hl7_1]);(with_reducible repeat (first|apply ra'|apply rn'|apply rw'));exact HO_7.out⟩,⟨by (try simp only[hl7_1]);(with_reducible repeat (first|apply ra'|apply rn'|apply rw'));exact Kd.R_mono HO_8.out (fun _ hk=>hk.2)⟩,⟨by (try simp only[hl7_1]);(with_reducible repeat (first|apply ra'|apply rn'|apply rw'));exact HO_9.out⟩,⟨by (try simp only[hl7_1]);(with_reducible repeat (first|refine kn' ?_ _|refine kd' ?_|refine ka' ?_ _));exact BK247.out⟩,⟨by repeat (first|(with_reducible first|exact HB.out|apply ba'|apply bd'|apply be'|refine bs' ?_ GE247.out)|exact HB.out)⟩⟩
        ·
         rw[if_neg c22] at H;exact absurd H (by simp)
       ·
        rw[if_neg c21] at H;exact absurd H (by simp)
      ·
       rw[if_neg c20] at H;have c20b0:decide (x34_1 < (y248.length:Int))=false:=decide_eq_false c20
       (try (have c20bz:=c20b0;rw[hl7_1] at c20bz))
       clear c20;replace H:=Option.bind_eq_some_iff.mp H;obtain ⟨⟨t258,t261⟩,A260,H⟩:=H;replace H:((spec_paLast.f k1 t258 t261).bind fun bt262=>((spec_seIndex.f k1 bt262.1 bt262.2).bind fun t266=>(if 0≤t266 then (if t266 < (x7_1.length:Int) then (if t266 < (y251.length:Int) then (spec_loFar.l1 k1 a1 (l0_0.length:Int) (x7_1.set (t266:Int).toNat 0) (y251.set (t266:Int).toNat 1) y254 l0_0 l0_1 a0_2) else (none)) else (none)) else (none))))=some (r1,r2):=H;have A26:=am' A260;clear A260;replace H:=Option.bind_eq_some_iff.mp H;obtain ⟨⟨t262,t265⟩,A270,H⟩:=H;replace H:((spec_seIndex.f k1 t262 t265).bind fun t266=>(if 0≤t266 then (if t266 < (x7_1.length:Int) then (if t266 < (y251.length:Int) then (spec_loFar.l1 k1 a1 (l0_0.length:Int) (x7_1.set (t266:Int).toNat 0) (y251.set (t266:Int).toNat 1) y254 l0_0 l0_1 a0_2) else (none)) else (none)) else (none)))=some (r1,r2):=H;have A27:=am' A270;clear A270;replace H:=Option.bind_eq_some_iff.mp H;obtain ⟨t266,A280,H⟩:=H;replace H:(if 0≤t266 then (if t266 < (x7_1.length:Int) then (if t266 < (y251.length:Int) then (spec_loFar.l1 k1 a1 (l0_0.length:Int) (x7_1.set (t266:Int).toNat 0) (y251.set (t266:Int).toNat 1) y254 l0_0 l0_1 a0_2) else (none)) else (none)) else (none))=some (r1,r2):=H;have A28:=am' A280;clear A280;by_cases c29:0≤t266
       ·
        rw[if_pos c29] at H;have c29b0:decide (0≤t266)=true:=decide_eq_true c29;clear c29;by_cases c30:t266 < (x7_1.length:Int)
        ·
         rw[if_pos c30] at H;have c30b0:decide (t266 < (x7_1.length:Int))=true:=decide_eq_true c30;clear c30;obtain ⟨y267,hy267⟩:∃ y_:List Int,y_=(x7_1.set (t266:Int).toNat 0):=⟨_,rfl⟩
         replace H:(if t266 < (y251.length:Int) then (spec_loFar.l1 k1 a1 (l0_0.length:Int) y267 (y251.set (t266:Int).toNat 1) y254 l0_0 l0_1 a0_2) else (none))=some (r1,r2):=by first|(rw[hy267];with_reducible exact H)|(have H2_:=(Option.bind_some _ _).symm.trans H;rw[hy267];with_reducible exact H2_)|(have H2_:=(Option.bind_some _ _).symm.trans H;with_reducible exact H2_)|with_reducible exact H|(rw[hy267];exact H)|exact H
         have Ny267:=am' hy267;clear hy267;by_cases c32:t266 < (y251.length:Int)
         ·
          rw[if_pos c32] at H;have c32b0:decide (t266 < (y251.length:Int))=true:=decide_eq_true c32;clear c32;obtain ⟨y268,hy268⟩:∃ y_:List Int,y_=(y251.set (t266:Int).toNat 1):=⟨_,rfl⟩
          replace H:(spec_loFar.l1 k1 a1 (l0_0.length:Int) y267 y268 y254 l0_0 l0_1 a0_2)=some (r1,r2):=by first|(rw[hy268];with_reducible exact H)|(have H2_:=(Option.bind_some _ _).symm.trans H;rw[hy268];with_reducible exact H2_)|(have H2_:=(Option.bind_some _ _).symm.trans H;with_reducible exact H2_)|with_reducible exact H|(rw[hy268];exact H)|exact H
          have Ny268:=am' hy268;clear hy268;have H':=am' H;clear H;have hcz34_0:wr.cell? ⟨gb247,0,none⟩=some (.slice A0_0 l0_0.length c0_0):=(blk_cell BK247.out 0).trans rfl;have hcz34_1:wr.cell? ⟨gb247,1,none⟩=some (.slice A0_1 l0_1.length c0_1):=(blk_cell BK247.out 1).trans rfl;have hcz34_2:wr.cell? ⟨gb247,2,none⟩=some (.int .i64 a0_2):=(blk_cell BK247.out 2).trans rfl;have hfz34_0:=blk_frozen BK247.out 0;have hfz34_1:=blk_frozen BK247.out 1;have hfz34_2:=blk_frozen BK247.out 2;go_wp2_with (first|((with_reducible refine gate_callee (f:=67) rfl ?_);refine goesL_ (some 42) rfl rfl Try.func67 xk' rfl #[.agg #[.slice A0_0 l0_0.length c0_0, .slice A0_1 l0_1.length c0_1, .int .i64 a0_2]] rfl xl' ?_;(with_reducible refine (spec_loParty.calls (fun k_=>k_ < w.heap.size) _ _ l0_0 _ _ l0_1 a0_2 t258 t261 _ ?side1 ?side2 ?side3 A26.out).mono ?_);(case side1=>exact Kd.V_mk HC0_0.out (Kd.F_below (Kd.C_F (Kd.heap_int .i64) HR0_0.out) (yb' GE247.out)));(case side2=>repeat (first|exact (Kd.C_below HR0_1.out HB.out)|(with_reducible refine ca' ?_ _)|(with_reducible refine cn' ?_ _)|(with_reducible refine cd' ?_)));(case side3=>exact HC0_1.out);rintro e w35 ⟨v259,rfl,ho0,hb⟩;refine ⟨_,rfl,?_⟩;have n0_:=am' (Kd.R_below (kr' HO_7.out) hb);have n1_:=am' (Kd.R_below (kr' HO_8.out) hb);have n2_:=am' (Kd.R_below (kr' HO_9.out) hb);have n3_:=am' (Kd.V_lower (Kd.V_mono (ok':=fun k_=>some k_≠(.slice Ao19 x7_1.length co19:Value).ownBlock∧some k_≠(v252:Value).ownBlock∧some k_≠(v255:Value).ownBlock∧k_≠gb247) ho0 (fun k_ hk_=>⟨Or.elim hk_ (fun hs_=>fun e_=>Nat.not_le.2 hs_ (Kd.R_base HO_7.out k_ e_.symm)) (fun hn_=>(Kd.fresh' (Kd.R_lt (kr' HO_7.out)) k_ hn_)),Or.elim hk_ (fun hs_=>fun e_=>Nat.not_le.2 hs_ (Kd.R_base HO_8.out k_ e_.symm)) (fun hn_=>(Kd.fresh' (Kd.R_lt (kr' HO_8.out)) k_ hn_)),Or.elim hk_ (fun hs_=>fun e_=>Nat.not_le.2 hs_ (Kd.R_base HO_9.out k_ e_.symm)) (fun hn_=>(Kd.fresh' (Kd.R_lt (kr' HO_9.out)) k_ hn_)),Or.elim hk_ (fun hs_=>fun e_=>Nat.not_le.2 hs_ (by rw[e_];exact GW247.out)) (fun hn_=>(Kd.freshB (g:=gb247) (o := .cells #[.slice A0_0 l0_0.length c0_0, .slice A0_1 l0_1.length c0_1, .int .i64 a0_2] 29 (0,0)) (kk' BK247.out) k_ hn_))⟩)) (below_size (yb' GE247.out)));have n4_:=am' (blk_below (g:=gb247) (o := .cells #[.slice A0_0 l0_0.length c0_0, .slice A0_1 l0_1.length c0_1, .int .i64 a0_2] 29 (0,0)) (kk' BK247.out) hb);have n5_:=am' (below_step (yb' GE247.out) hb);clear HO_7;clear HO_8;clear HO_9;clear BK247;clear HB;have HO_7:=n0_;have HO_8:=n1_;have HO_9:=n2_;have HO260:=n3_;have BK247:=n4_;have HB:=n5_;clear n0_ n1_ n2_ n3_ n4_ n5_;(try clear hb);(try clear hb2);(try clear hk);(try clear hi);(try clear ho0);obtain ⟨Ao36,co36,eo36⟩:=Kd.V_slice HO260.out;subst eo36)|((with_reducible refine gate_callee (f:=69) rfl ?_);refine goesL_ (some 43) rfl rfl Try.func69 xk' rfl #[.agg #[.slice Ao36 t258.length co36, .int .i64 t261]] rfl xl' ?_;(with_reducible refine (spec_paLast.calls k1 _ _ t258 t261 t262 t265 _ ?side1 ?side2 A27.out).mono ?_);(case side1=>repeat (first|exact (Kd.V_reads' HO260.out).2.2|(with_reducible refine ca' ?_ _)|(with_reducible refine cn' ?_ _)|(with_reducible refine cd' ?_)));(case side2=>exact (Kd.V_reads' HO260.out).2.1);rintro e w37 ⟨v263,rfl,ho0,hb⟩;refine ⟨_,rfl,?_⟩;have n0_:=am' (Kd.R_below (kr' HO_7.out) hb);have n1_:=am' (Kd.R_below (kr' HO_8.out) hb);have n2_:=am' (Kd.R_elder' (kr' HO_9.out) (Kd.R_base ho0) hb);have n3_:=am' (Kd.V_elder' (by (with_reducible repeat (first|apply Kd.V_alloc|apply Kd.V_drewN|apply Kd.V_drew));exact HO260.out) (Kd.R_base ho0) hb);have n4_:=am' (Kd.R_lower (Kd.R_new' ho0 (Kd.R_lt (kr' HO_9.out))) (below_size (yb' GE247.out)));have n5_:=am' (blk_below (g:=gb247) (o := .cells #[.slice A0_0 l0_0.length c0_0, .slice A0_1 l0_1.length c0_1, .int .i64 a0_2] 29 (0,0)) (kk' BK247.out) hb);have n6_:=am' (below_step (yb' GE247.out) hb);clear HO_7;clear HO_8;clear HO_9;clear HO260;clear BK247;clear HB;have HO_7:=n0_;have HO_8:=n1_;have HO_9:=n2_;have HO260:=n3_;have HO264:=n4_;have BK247:=n5_;have HB:=n6_;clear n0_ n1_ n2_ n3_ n4_ n5_ n6_;(try clear hb);(try clear hb2);(try clear hk);(try clear hi);(try clear ho0);obtain ⟨Ao38,co38,eo38⟩:=Kd.R_slice HO264.out;subst eo38)|((with_reducible refine gate_callee (f:=82) rfl ?_);refine goesL_ (some 44) rfl rfl Try.func82 xk' rfl #[.agg #[.slice Ao38 t262.length co38, .bool t265]] rfl xl' ?_;(with_reducible refine (spec_seIndex.calls k1 _ _ t262 t265 t266 _ ?side1 ?side2 A28.out).mono ?_);(case side1=>repeat (first|exact (Kd.R_reads' HO264.out).2.2|(with_reducible refine ca' ?_ _)|(with_reducible refine cn' ?_ _)|(with_reducible refine cd' ?_)));(case side2=>exact (Kd.R_reads' HO264.out).2.1);rintro e w39 ⟨rfl,hb⟩;refine ⟨_,rfl,?_⟩;have n0_:=am' (Kd.R_below (kr' HO_7.out) hb);have n1_:=am' (Kd.R_below (kr' HO_8.out) hb);have n2_:=am' (Kd.R_below (kr' HO_9.out) hb);have n3_:=am' (Kd.V_below (by (with_reducible repeat (first|apply Kd.V_alloc|apply Kd.V_drewN|apply Kd.V_drew));exact HO260.out) hb);have n4_:=am' (Kd.R_below (kr' HO264.out) hb);have n5_:=am' (blk_below (g:=gb247) (o := .cells #[.slice A0_0 l0_0.length c0_0, .slice A0_1 l0_1.length c0_1, .int .i64 a0_2] 29 (0,0)) (kk' BK247.out) hb);have n6_:=am' (below_step (yb' GE247.out) hb);clear HO_7;clear HO_8;clear HO_9;clear HO260;clear HO264;clear BK247;clear HB;have HO_7:=n0_;have HO_8:=n1_;have HO_9:=n2_;have HO260:=n3_;have HO264:=n4_;have BK247:=n5_;have HB:=n6_;clear n0_ n1_ n2_ n3_ n4_ n5_ n6_;(try clear hb);(try clear hb2);(try clear hk);(try clear hi);have p31:0≤(t266:Int):=of_decide_eq_true xa';have q31:(t266:Int) < ((x7_1.length:Int):Int):=of_decide_eq_true xa';obtain ⟨go31,co31,eo31,gb31,gl31,cl31,HG31⟩:=Kd.R_form HO_7.out (by omega);(first|cases eo31|(injection eo31 with ea_ en_ ec_;(first|subst ea_|(injection ea_ with ea_;subst ea_));subst ec_;clear en_));have GB31:=am' gb31;have GG31:=am' HG31;clear gb31 gl31 HG31;obtain ⟨hx31_0,hf31_0⟩:=Kd.R_celln 0 HO_7.out (t266:Int) p31 q31;replace p31:=eq_true p31;replace q31:=eq_true q31;obtain ⟨hy40_,hz40_⟩:=Kd.R_celln 0 HO_7.out (t266:Int) (of_decide_eq_true xa') (of_decide_eq_true xa');have HP40:=Kd.R_putg HO_7.out (t266:Int) 0)|((with_reducible refine gate_store (t:=3) (p:=47) rfl ?_);refine store_event (t:=3) (p:=47) (v:=?vo_w41) (w1:=(w39.setCell ⟨go31,(t266:Int).toNat,none⟩ (.int .i64 0))) ?hg ?ho ?hn ?hr ?_;(case ho=>rfl);(case hg=>rfl);(case hn=>rfl);(case hr=>first|(go_simp;done)|(go_simp;rfl));intro w41 hw;have hg:w39.grownBy w41 (some go31):=(by rw[hw];exact HP40.2);have hp_:Kd.R (Kd.int .i64) 3 w41 w.heap.size (fun k_=>some k_≠(v252:Value).ownBlock) (.slice (some ⟨go31,0,none⟩) x7_1.length co19) y267:=(by rw[hw,Ny267.out];exact HP40.1);clear HP40;have n0_:=am' (hp_);have n1_:=am' (Kd.R_after (v:=(.slice (some ⟨go31,0,none⟩) x7_1.length co19)) (v1:=(.slice (some ⟨go31,0,none⟩) x7_1.length co19)) (ok:=(fun _=>True)) (by (with_reducible repeat (first|apply ra'|apply rn'|apply rw'));exact Kd.R_mono HO_8.out (fun _ hk=>⟨trivial,hk⟩)) hg (.inl rfl));have n2_:=am' (Kd.R_over' (v:=(.slice (some ⟨go31,0,none⟩) x7_1.length co19)) (kr' HO_9.out) (Kd.R_typed HO_7.out) (by decide) hg);have n3_:=am' (blk_grown (g:=gb247) (o := .cells #[.slice A0_0 l0_0.length c0_0, .slice A0_1 l0_1.length c0_1, .int .i64 a0_2] 29 (0,0)) (kk' BK247.out) hg (Kd.R_ne HO_7.out BK247.out (by decide)));have n4_:=am' (Kd.V_afterv (v:=(.slice (some ⟨go31,0,none⟩) x7_1.length co19)) (v1:=(.slice (some ⟨go31,0,none⟩) x7_1.length co19)) (ok:=(fun k_=>some k_≠(v252:Value).ownBlock∧some k_≠(v255:Value).ownBlock∧some k_≠(.slice Ao38 t262.length co38:Value).ownBlock∧k_≠gb247)) (by (with_reducible repeat (first|apply Kd.V_alloc|apply Kd.V_drewN|apply Kd.V_drew));exact Kd.V_mono HO260.out (fun _ hk=>⟨⟨hk.1.2.1,⟨hk.1.2.2.1,⟨hk.2,hk.1.2.2.2⟩⟩⟩,hk.1.1⟩)) hg (.inl rfl));have n5_:=am' (Kd.R_over' (v:=(.slice (some ⟨go31,0,none⟩) x7_1.length co19)) (kr' HO264.out) (Kd.R_typed HO_7.out) (by decide) hg);have n6_:=am' ((by rw[hw];exact bs' (HB.out) GB31.out:Below w.heap.size w w41));clear HO_7;clear HO_8;clear HO_9;clear BK247;clear HO260;clear HO264;clear HB;have HO_7:=n0_;have HO_8:=n1_;have HO_9:=n2_;have BK247:=n3_;have HO260:=n4_;have HO264:=n5_;have HB:=n6_;clear n0_ n1_ n2_ n3_ n4_ n5_ n6_;clear hg hw hp_;have p33:0≤(t266:Int):=of_decide_eq_true xa';have q33:(t266:Int) < ((y251.length:Int):Int):=of_decide_eq_true xa';obtain ⟨go33,co33,eo33,gb33,gl33,cl33,HG33⟩:=Kd.R_form HO_8.out (by omega);(first|cases eo33|(injection eo33 with ea_ en_ ec_;(first|subst ea_|(injection ea_ with ea_;subst ea_));subst ec_;clear en_));have GB33:=am' gb33;have GG33:=am' HG33;clear gb33 gl33 HG33;obtain ⟨hx33_0,hf33_0⟩:=Kd.R_celln 0 HO_8.out (t266:Int) p33 q33;replace p33:=eq_true p33;replace q33:=eq_true q33;have n_:=am' (Kd.R_mono (ok':=(fun k_=>some k_≠(.slice (some ⟨go31,0,none⟩) x7_1.length co19:Value).ownBlock)) HO_8.out (fun k_ hk=>hk.2));clear HO_8;have HO_8:=n_;clear n_;obtain ⟨hy42_,hz42_⟩:=Kd.R_celln 0 HO_8.out (t266:Int) (of_decide_eq_true xa') (of_decide_eq_true xa');have HP42:=Kd.R_putg HO_8.out (t266:Int) 1)|((with_reducible refine gate_store (t:=3) (p:=50) rfl ?_);refine store_event (t:=3) (p:=50) (v:=?vo_w43) (w1:=(w41.setCell ⟨go33,(t266:Int).toNat,none⟩ (.int .i64 1))) ?hg ?ho ?hn ?hr ?_;(case ho=>rfl);(case hg=>rfl);(case hn=>rfl);(case hr=>first|(go_simp;done)|(go_simp;rfl));intro w43 hw;have hg:w41.grownBy w43 (some go33):=(by rw[hw];exact HP42.2);have hp_:Kd.R (Kd.int .i64) 3 w43 w.heap.size (fun k_=>some k_≠(.slice (some ⟨go31,0,none⟩) x7_1.length co19:Value).ownBlock) (.slice (some ⟨go33,0,none⟩) y251.length co33) y268:=(by rw[hw,Ny268.out];exact HP42.1);clear HP42;have n0_:=am' (Kd.R_after (v:=(.slice (some ⟨go33,0,none⟩) y251.length co33)) (v1:=(.slice (some ⟨go33,0,none⟩) y251.length co33)) (ok:=(fun _=>True)) (by (with_reducible repeat (first|apply ra'|apply rn'|apply rw'));exact Kd.R_mono HO_7.out (fun _ hk=>⟨trivial,hk⟩)) hg (.inl rfl));have n1_:=am' (hp_);have n2_:=am' (Kd.R_over' (v:=(.slice (some ⟨go33,0,none⟩) y251.length co33)) (kr' HO_9.out) (Kd.R_typed HO_8.out) (by decide) hg);have n3_:=am' (blk_grown (g:=gb247) (o := .cells #[.slice A0_0 l0_0.length c0_0, .slice A0_1 l0_1.length c0_1, .int .i64 a0_2] 29 (0,0)) (kk' BK247.out) hg (Kd.R_ne HO_8.out BK247.out (by decide)));have n4_:=am' (Kd.V_afterv (v:=(.slice (some ⟨go33,0,none⟩) y251.length co33)) (v1:=(.slice (some ⟨go33,0,none⟩) y251.length co33)) (ok:=(fun k_=>some k_≠(.slice (some ⟨go31,0,none⟩) x7_1.length co19:Value).ownBlock∧some k_≠(v255:Value).ownBlock∧some k_≠(.slice Ao38 t262.length co38:Value).ownBlock∧k_≠gb247)) (by (with_reducible repeat (first|apply Kd.V_alloc|apply Kd.V_drewN|apply Kd.V_drew));exact Kd.V_mono HO260.out (fun _ hk=>⟨⟨hk.2,⟨hk.1.2.1,⟨hk.1.2.2.1,hk.1.2.2.2⟩⟩⟩,hk.1.1⟩)) hg (.inl rfl));have n5_:=am' (Kd.R_over' (v:=(.slice (some ⟨go33,0,none⟩) y251.length co33)) (kr' HO264.out) (Kd.R_typed HO_8.out) (by decide) hg);have n6_:=am' ((by rw[hw];exact bs' (HB.out) GB33.out:Below w.heap.size w w43));clear HO_7;clear HO_8;clear HO_9;clear BK247;clear HO260;clear HO264;clear HB;have HO_7:=n0_;have HO_8:=n1_;have HO_9:=n2_;have BK247:=n3_;have HO260:=n4_;have HO264:=n5_;have HB:=n6_;clear n0_ n1_ n2_ n3_ n4_ n5_ n6_;clear hg hw hp_))
          go_loopg [] k1 (fun kq w'=>∃ (x7_2:List Int) (x8_2:List Int) (x9_2:List Bool),Aside0 (spec_loFar.l1 kq a1 (l0_0.length:Int) x7_2 x8_2 x9_2 l0_0 l0_1 a0_2=some (r1,r2))∧Aside0 (kq≤k1)∧Aside0 (Kd.R (Kd.int .i64) 3 w' w.heap.size (fun k_=>some k_≠((.slice (some ⟨go33,0,none⟩) y251.length co33):Value).ownBlock) (.slice (some ⟨go31,0,none⟩) x7_1.length co19) x7_2)∧Aside0 (Kd.R (Kd.int .i64) 3 w' w.heap.size (fun k_=>some k_≠((.slice (some ⟨go31,0,none⟩) x7_1.length co19):Value).ownBlock) (.slice (some ⟨go33,0,none⟩) y251.length co33) x8_2)∧Aside0 (Kd.R Kd.bool 4 w' w.heap.size (fun _=>True) v255 x9_2)∧Aside0 (w'.heap[gb247]? = some (.cells #[(.slice A0_0 l0_0.length c0_0),(.slice A0_1 l0_1.length c0_1), .int .i64 a0_2] 29 (0,0)))∧Aside0 (Below w.heap.size w w'))
          case atStart=>exact ⟨(y267),(y268),(y254),H',⟨Nat.le_refl _⟩,⟨by (try simp only[hl7_1]);(with_reducible repeat (first|apply ra'|apply rn'|apply rw'));exact Kd.R_mono HO_7.out (fun _ hk=>hk.2)⟩,⟨by (try simp only[hl7_1]);(with_reducible repeat (first|apply ra'|apply rn'|apply rw'));exact HO_8.out⟩,⟨by (try simp only[hl7_1]);(with_reducible repeat (first|apply ra'|apply rn'|apply rw'));exact Kd.R_mono HO_9.out (fun _ hk=>trivial)⟩,⟨by (try simp only[hl7_1]);(with_reducible repeat (first|refine kn' ?_ _|refine kd' ?_|refine ka' ?_ _));exact BK247.out⟩,⟨by repeat (first|(with_reducible first|exact HB.out|apply ba'|apply bd'|apply be'|refine bs' ?_ GE247.out)|exact HB.out)⟩⟩
          case round =>
           clear H';try clear c1
           try clear c2
           try clear p2
           try clear q2
           try clear hx2
           try clear hf2
           try clear c3
           try clear p3
           try clear q3
           try clear hx3
           try clear hf3
           try clear c4
           try clear c4b0
           try clear c4b1
           try clear c5
           try clear c5b0
           try clear c5b1
           try clear c6
           try clear c6b0
           try clear p6
           try clear c7
           try clear c7b0
           try clear c8
           try clear c8b0
           try clear c8b1
           try clear c10
           try clear c20
           try clear c20b0
           try clear c21
           try clear c21b0
           try clear c22
           try clear c22b0
           try clear p23
           try clear q23
           try clear hx23
           try clear hf23
           try clear c29
           try clear c29b0
           try clear c30
           try clear c30b0
           try clear p31
           try clear q31
           try clear hx31
           try clear hf31
           try clear c32
           try clear c32b0
           try clear p33
           try clear q33
           try clear hx33
           try clear hf33
           try clear hcz10_0
           try clear hcz10_1
           try clear hcz10_2
           try clear hcz34_0
           try clear hcz34_1
           try clear hcz34_2
           try clear hfz10_0
           try clear hfz10_1
           try clear hfz10_2
           try clear hfz34_0
           try clear hfz34_1
           try clear hfz34_2
           try clear hx23_0
           try clear hx31_0
           try clear hx33_0
           try clear p2
           try clear p23
           try clear p31
           try clear p33
           try clear p6
           try clear q23
           try clear q31
           try clear q33
           obtain ⟨x7_2,x8_2,x9_2,HA,HK2,HO_7,HO_8,HO_9,BK247,HB⟩:=hrel;have hl7_2:=(Kd.R_reads' HO_7.out).1;rw[hl7_2] at HO_7
           (try simp only[hl7_2])
           (try simp only[hl7_2] at BK247)
           (try simp only[hl7_2] at HO_8)
           (try simp only[hl7_2] at HO_9)
           have hl8_2:=(Kd.R_reads' HO_8.out).1;rw[hl8_2] at HO_8
           (try simp only[hl8_2])
           (try simp only[hl8_2] at BK247)
           (try simp only[hl8_2] at HO_7)
           (try simp only[hl8_2] at HO_9)
           cases gk with
           | zero=>exact absurd HA.out (by simp[spec_loFar.l1])
           | succ k2 =>
            have H:=HA.out;clear HA;simp only[spec_loFar.l1] at H;have H':=am' H;clear H;go_wp2;go_loopg [12,53] k2 (fun kq v12 v53 w'=>∃ (x12_3:Int) (x53_3:Int),v12 = .int .i64 x12_3∧v53 = .int .i64 x53_3∧Aside0 (spec_loFar.l2 kq a1 (l0_0.length:Int) x7_2 x8_2 x9_2 x12_3 x7_2 (x7_2.length:Int) x53_3 l0_0 l0_1 a0_2=some (r1,r2))∧Aside0 (kq≤k2)∧Aside0 (Kd.R (Kd.int .i64) 3 w' w.heap.size (fun k_=>some k_≠((.slice (some ⟨go33,0,none⟩) x8_2.length co33):Value).ownBlock) (.slice (some ⟨go31,0,none⟩) x7_2.length co19) x7_2)∧Aside0 (Kd.R (Kd.int .i64) 3 w' w.heap.size (fun k_=>some k_≠((.slice (some ⟨go31,0,none⟩) x7_2.length co19):Value).ownBlock∧some k_≠((.slice (some ⟨go31,0,none⟩) x7_2.length co19):Value).ownBlock) (.slice (some ⟨go33,0,none⟩) x8_2.length co33) x8_2)∧Aside0 (Kd.R Kd.bool 4 w' w.heap.size (fun _=>True) v255 x9_2)∧Aside0 (Kd.R (Kd.int .i64) 3 w' w.heap.size (fun k_=>some k_≠((.slice (some ⟨go33,0,none⟩) x8_2.length co33):Value).ownBlock) (.slice (some ⟨go31,0,none⟩) x7_2.length co19) x7_2)∧Aside0 (w'.heap[gb247]? = some (.cells #[(.slice A0_0 l0_0.length c0_0),(.slice A0_1 l0_1.length c0_1), .int .i64 a0_2] 29 (0,0)))∧Aside0 (Below w.heap.size w w'))
            case atStart=>exact ⟨((-1)),(0),xs',xs',H',⟨Nat.le_refl _⟩,⟨by (try simp only[hl7_1]);(try simp only[hl7_2]);(try simp only[hl8_2]);(with_reducible repeat (first|apply ra'|apply rn'|apply rw'));exact HO_7.out⟩,⟨by (try simp only[hl7_1]);(try simp only[hl7_2]);(try simp only[hl8_2]);(with_reducible repeat (first|apply ra'|apply rn'|apply rw'));exact Kd.R_mono HO_8.out (fun _ hk=>⟨hk,hk⟩)⟩,⟨by (try simp only[hl7_1]);(try simp only[hl7_2]);(try simp only[hl8_2]);(with_reducible repeat (first|apply ra'|apply rn'|apply rw'));exact HO_9.out⟩,⟨by (try simp only[hl7_1]);(try simp only[hl7_2]);(try simp only[hl8_2]);(with_reducible repeat (first|apply ra'|apply rn'|apply rw'));exact HO_7.out⟩,⟨by (try simp only[hl7_1]);(try simp only[hl7_2]);(try simp only[hl8_2]);(with_reducible repeat (first|refine kn' ?_ _|refine kd' ?_|refine ka' ?_ _));exact BK247.out⟩,⟨by repeat (first|(with_reducible first|exact HB.out|apply ba'|apply bd'|apply be'|refine bs' ?_ GE247.out)|exact HB.out)⟩⟩
            case round =>
             clear H';try clear c1
             try clear c2
             try clear p2
             try clear q2
             try clear hx2
             try clear hf2
             try clear c3
             try clear p3
             try clear q3
             try clear hx3
             try clear hf3
             try clear c4
             try clear c4b0
             try clear c4b1
             try clear c5
             try clear c5b0
             try clear c5b1
             try clear c6
             try clear c6b0
             try clear p6
             try clear c7
             try clear c7b0
             try clear c8
             try clear c8b0
             try clear c8b1
             try clear c10
             try clear c20
             try clear c20b0
             try clear c21
             try clear c21b0
             try clear c22
             try clear c22b0
             try clear p23
             try clear q23
             try clear hx23
             try clear hf23
             try clear c29
             try clear c29b0
             try clear c30
             try clear c30b0
             try clear p31
             try clear q31
             try clear hx31
             try clear hf31
             try clear c32
             try clear c32b0
             try clear p33
             try clear q33
             try clear hx33
             try clear hf33
             try clear hcz10_0
             try clear hcz10_1
             try clear hcz10_2
             try clear hcz34_0
             try clear hcz34_1
             try clear hcz34_2
             try clear hfz10_0
             try clear hfz10_1
             try clear hfz10_2
             try clear hfz34_0
             try clear hfz34_1
             try clear hfz34_2
             try clear hx23_0
             try clear hx31_0
             try clear hx33_0
             try clear p2
             try clear p23
             try clear p3
             try clear p31
             try clear p33
             try clear p6
             try clear q2
             try clear q23
             try clear q3
             try clear q31
             try clear q33
             obtain ⟨x12_3,x53_3,rfl,rfl,HA,HK3,HO_7,HO_8,HO_9,HO_51,BK247,HB⟩:=hrel;cases gk with
             | zero=>exact absurd HA.out (by simp[spec_loFar.l2])
             | succ k3 =>
              have H:=HA.out;clear HA;simp only[spec_loFar.l2] at H;by_cases c44:x53_3 < (x7_2.length:Int)
              ·
               rw[if_pos c44] at H;have c44b0:decide (x53_3 < (x7_2.length:Int))=true:=decide_eq_true c44;clear c44;by_cases c45:0≤x53_3
               ·
                rw[if_pos c45] at H;have c45b0:decide (0≤x53_3)=true:=decide_eq_true c45;clear c45;by_cases c46:x53_3 < (x7_2.length:Int)
                ·
                 rw[if_pos c46] at H;have c46b0:decide (x53_3 < (x7_2.length:Int))=true:=decide_eq_true c46;clear c46;by_cases c47:x53_3 < (x9_2.length:Int)
                 ·
                  rw[if_pos c47] at H;have c47b0:decide (x53_3 < (x9_2.length:Int))=true:=decide_eq_true c47;clear c47;obtain ⟨bq48,hbq48⟩:∃ b_:Bool,b_=(rdOf false x9_2 x53_3):=⟨_,rfl⟩
                  replace H:(if bq48=true then (spec_loFar.l2 k3 a1 (l0_0.length:Int) x7_2 x8_2 x9_2 x12_3 x7_2 (x7_2.length:Int) (wrap64 (x53_3+1)) l0_0 l0_1 a0_2) else (if (rd x7_2 x53_3) ≥ 0 then (if x12_3 < 0 then (spec_loFar.l2 k3 a1 (l0_0.length:Int) x7_2 x8_2 x9_2 x53_3 x7_2 (x7_2.length:Int) (wrap64 (x53_3+1)) l0_0 l0_1 a0_2) else (if 0≤x12_3 then (if x12_3 < (x7_2.length:Int) then (if (rd x7_2 x53_3) < (rd x7_2 x12_3) then (spec_loFar.l2 k3 a1 (l0_0.length:Int) x7_2 x8_2 x9_2 x53_3 x7_2 (x7_2.length:Int) (wrap64 (x53_3+1)) l0_0 l0_1 a0_2) else (spec_loFar.l2 k3 a1 (l0_0.length:Int) x7_2 x8_2 x9_2 x12_3 x7_2 (x7_2.length:Int) (wrap64 (x53_3+1)) l0_0 l0_1 a0_2)) else (none)) else (none))) else (spec_loFar.l2 k3 a1 (l0_0.length:Int) x7_2 x8_2 x9_2 x12_3 x7_2 (x7_2.length:Int) (wrap64 (x53_3+1)) l0_0 l0_1 a0_2)))=some (r1,r2):=by rw[← hbq48] at H;exact H
                  have Nbq48:=am' hbq48;clear hbq48;by_cases c49:bq48=true
                  ·
                   subst c49;have H1:(spec_loFar.l2 k3 a1 (l0_0.length:Int) x7_2 x8_2 x9_2 x12_3 x7_2 (x7_2.length:Int) (wrap64 (x53_3+1)) l0_0 l0_1 a0_2)=some (r1,r2):=by rw[if_pos rfl] at H;exact H
                   clear H;have H:=H1;clear H1;have H':=am' H;clear H;have p269:0≤(x53_3:Int):=of_decide_eq_true xa';have q269:x53_3 < (x7_2.length:Int):=of_decide_eq_true xa';obtain ⟨ad269,e269,hx269_0⟩:=Kd.at_int (Kd.R_reads' HO_51.out).2.2 x53_3 p269 q269;obtain rfl:(⟨go31,0,none⟩:Addr)=ad269:=(by injection e269)
                   (first|simp only[add_plain] at hx269_0|simp only[add_at] at hx269_0|simp only[Addr.add,Nat.zero_add] at hx269_0|skip)
                   replace p269:=eq_true p269;replace q269:=eq_true q269;obtain ⟨Ao50,co50,eo50⟩:=Kd.R_slice HO_9.out;subst eo50;have p270:0≤(x53_3:Int):=of_decide_eq_true xa';have q270:x53_3 < (x9_2.length:Int):=of_decide_eq_true xa';obtain ⟨ad270,e270,hx270_0⟩:=Kd.at_bool (Kd.R_reads' HO_9.out).2.2 x53_3 p270 q270
                   (try rw [← Nbq48.out] at hx270_0)
                   cases e270
                   replace p270:=eq_true p270;replace q270:=eq_true q270;go_wp2;go_roundg k3
                   case measure=>have:=HK1.out;have:=HK2.out;have:=HK3.out;omega
                   case rel=>exact ⟨(x12_3),(wrap64 (x53_3+1)),xs',xs',H',⟨by have:=HK1.out;have:=HK2.out;have:=HK3.out;omega⟩,⟨by (try simp only[hl7_1]);(try simp only[hl7_2]);(try simp only[hl8_2]);(with_reducible repeat (first|apply ra'|apply rn'|apply rw'));exact HO_7.out⟩,⟨by (try simp only[hl7_1]);(try simp only[hl7_2]);(try simp only[hl8_2]);(with_reducible repeat (first|apply ra'|apply rn'|apply rw'));exact HO_8.out⟩,⟨by (try simp only[hl7_1]);(try simp only[hl7_2]);(try simp only[hl8_2]);(with_reducible repeat (first|apply ra'|apply rn'|apply rw'));exact HO_9.out⟩,⟨by (try simp only[hl7_1]);(try simp only[hl7_2]);(try simp only[hl8_2]);(with_reducible repeat (first|apply ra'|apply rn'|apply rw'));exact HO_51.out⟩,⟨by (try simp only[hl7_1]);(try simp only[hl7_2]);(try simp only[hl8_2]);(with_reducible repeat (first|refine kn' ?_ _|refine kd' ?_|refine ka' ?_ _));exact BK247.out⟩,⟨by repeat (first|(with_reducible first|exact HB.out|apply ba'|apply bd'|apply be'|refine bs' ?_ GE247.out)|exact HB.out)⟩⟩
                  ·
                   replace c49:=Bool.eq_false_iff.mpr c49;subst c49;have H1:(if (rd x7_2 x53_3) ≥ 0 then (if x12_3 < 0 then (spec_loFar.l2 k3 a1 (l0_0.length:Int) x7_2 x8_2 x9_2 x53_3 x7_2 (x7_2.length:Int) (wrap64 (x53_3+1)) l0_0 l0_1 a0_2) else (if 0≤x12_3 then (if x12_3 < (x7_2.length:Int) then (if (rd x7_2 x53_3) < (rd x7_2 x12_3) then (spec_loFar.l2 k3 a1 (l0_0.length:Int) x7_2 x8_2 x9_2 x53_3 x7_2 (x7_2.length:Int) (wrap64 (x53_3+1)) l0_0 l0_1 a0_2) else (spec_loFar.l2 k3 a1 (l0_0.length:Int) x7_2 x8_2 x9_2 x12_3 x7_2 (x7_2.length:Int) (wrap64 (x53_3+1)) l0_0 l0_1 a0_2)) else (none)) else (none))) else (spec_loFar.l2 k3 a1 (l0_0.length:Int) x7_2 x8_2 x9_2 x12_3 x7_2 (x7_2.length:Int) (wrap64 (x53_3+1)) l0_0 l0_1 a0_2))=some (r1,r2):=by rw[if_neg (show ¬ (false=true) by decide)] at H;exact H
                   clear H;have H:=H1;clear H1;by_cases c51:(rd x7_2 x53_3) ≥ 0
                   ·
                    rw[if_pos c51] at H;have c51b0:decide (0≤(rd x7_2 x53_3))=true:=decide_eq_true c51;clear c51;by_cases c52:x12_3 < 0
                    ·
                     rw[if_pos c52] at H;have c52b0:decide (x12_3 < 0)=true:=decide_eq_true c52;clear c52;have H':=am' H;clear H;have p269:0≤(x53_3:Int):=of_decide_eq_true xa';have q269:x53_3 < (x7_2.length:Int):=of_decide_eq_true xa';obtain ⟨ad269,e269,hx269_0⟩:=Kd.at_int (Kd.R_reads' HO_51.out).2.2 x53_3 p269 q269;obtain rfl:(⟨go31,0,none⟩:Addr)=ad269:=(by injection e269)
                     (first|simp only[add_plain] at hx269_0|simp only[add_at] at hx269_0|simp only[Addr.add,Nat.zero_add] at hx269_0|skip)
                     replace p269:=eq_true p269;replace q269:=eq_true q269;obtain ⟨Ao53,co53,eo53⟩:=Kd.R_slice HO_9.out;subst eo53;have p270:0≤(x53_3:Int):=of_decide_eq_true xa';have q270:x53_3 < (x9_2.length:Int):=of_decide_eq_true xa';obtain ⟨ad270,e270,hx270_0⟩:=Kd.at_bool (Kd.R_reads' HO_9.out).2.2 x53_3 p270 q270
                     (try rw [← Nbq48.out] at hx270_0)
                     cases e270
                     replace p270:=eq_true p270;replace q270:=eq_true q270;go_wp2;go_roundg k3
                     case measure=>have:=HK1.out;have:=HK2.out;have:=HK3.out;omega
                     case rel=>exact ⟨(x53_3),(wrap64 (x53_3+1)),xs',xs',H',⟨by have:=HK1.out;have:=HK2.out;have:=HK3.out;omega⟩,⟨by (try simp only[hl7_1]);(try simp only[hl7_2]);(try simp only[hl8_2]);(with_reducible repeat (first|apply ra'|apply rn'|apply rw'));exact HO_7.out⟩,⟨by (try simp only[hl7_1]);(try simp only[hl7_2]);(try simp only[hl8_2]);(with_reducible repeat (first|apply ra'|apply rn'|apply rw'));exact HO_8.out⟩,⟨by (try simp only[hl7_1]);(try simp only[hl7_2]);(try simp only[hl8_2]);(with_reducible repeat (first|apply ra'|apply rn'|apply rw'));exact HO_9.out⟩,⟨by (try simp only[hl7_1]);(try simp only[hl7_2]);(try simp only[hl8_2]);(with_reducible repeat (first|apply ra'|apply rn'|apply rw'));exact HO_51.out⟩,⟨by (try simp only[hl7_1]);(try simp only[hl7_2]);(try simp only[hl8_2]);(with_reducible repeat (first|refine kn' ?_ _|refine kd' ?_|refine ka' ?_ _));exact BK247.out⟩,⟨by repeat (first|(with_reducible first|exact HB.out|apply ba'|apply bd'|apply be'|refine bs' ?_ GE247.out)|exact HB.out)⟩⟩
                    ·
                     rw[if_neg c52] at H;have c52b0:decide (x12_3 < 0)=false:=decide_eq_false c52;clear c52;by_cases c54:0≤x12_3
                     ·
                      rw[if_pos c54] at H;have c54b0:decide (0≤x12_3)=true:=decide_eq_true c54;clear c54;by_cases c55:x12_3 < (x7_2.length:Int)
                      ·
                       rw[if_pos c55] at H;have c55b0:decide (x12_3 < (x7_2.length:Int))=true:=decide_eq_true c55;clear c55;by_cases c56:(rd x7_2 x53_3) < (rd x7_2 x12_3)
                       ·
                        rw[if_pos c56] at H;have c56b0:decide ((rd x7_2 x53_3) < (rd x7_2 x12_3))=true:=decide_eq_true c56;clear c56;have H':=am' H;clear H;have p269:0≤(x53_3:Int):=of_decide_eq_true xa';have q269:x53_3 < (x7_2.length:Int):=of_decide_eq_true xa';obtain ⟨ad269,e269,hx269_0⟩:=Kd.at_int (Kd.R_reads' HO_51.out).2.2 x53_3 p269 q269;obtain rfl:(⟨go31,0,none⟩:Addr)=ad269:=(by injection e269)
                        (first|simp only[add_plain] at hx269_0|simp only[add_at] at hx269_0|simp only[Addr.add,Nat.zero_add] at hx269_0|skip)
                        replace p269:=eq_true p269;replace q269:=eq_true q269;obtain ⟨Ao57,co57,eo57⟩:=Kd.R_slice HO_9.out;subst eo57;have p270:0≤(x53_3:Int):=of_decide_eq_true xa';have q270:x53_3 < (x9_2.length:Int):=of_decide_eq_true xa';obtain ⟨ad270,e270,hx270_0⟩:=Kd.at_bool (Kd.R_reads' HO_9.out).2.2 x53_3 p270 q270
                        (try rw [← Nbq48.out] at hx270_0)
                        cases e270
                        replace p270:=eq_true p270;replace q270:=eq_true q270;have p271:0≤(x12_3:Int):=of_decide_eq_true xa';have q271:x12_3 < (x7_2.length:Int):=of_decide_eq_true xa';obtain ⟨ad271,e271,hx271_0⟩:=Kd.at_int (Kd.R_reads' HO_7.out).2.2 x12_3 p271 q271;obtain rfl:(⟨go31,0,none⟩:Addr)=ad271:=(by injection e271)
                        (first|simp only[add_plain] at hx271_0|simp only[add_at] at hx271_0|simp only[Addr.add,Nat.zero_add] at hx271_0|skip)
                        replace p271:=eq_true p271;replace q271:=eq_true q271;go_wp2;go_roundg k3
                        case measure=>have:=HK1.out;have:=HK2.out;have:=HK3.out;omega
                        case rel=>exact ⟨(x53_3),(wrap64 (x53_3+1)),xs',xs',H',⟨by have:=HK1.out;have:=HK2.out;have:=HK3.out;omega⟩,⟨by (try simp only[hl7_1]);(try simp only[hl7_2]);(try simp only[hl8_2]);(with_reducible repeat (first|apply ra'|apply rn'|apply rw'));exact HO_7.out⟩,⟨by (try simp only[hl7_1]);(try simp only[hl7_2]);(try simp only[hl8_2]);(with_reducible repeat (first|apply ra'|apply rn'|apply rw'));exact HO_8.out⟩,⟨by (try simp only[hl7_1]);(try simp only[hl7_2]);(try simp only[hl8_2]);(with_reducible repeat (first|apply ra'|apply rn'|apply rw'));exact HO_9.out⟩,⟨by (try simp only[hl7_1]);(try simp only[hl7_2]);(try simp only[hl8_2]);(with_reducible repeat (first|apply ra'|apply rn'|apply rw'));exact HO_51.out⟩,⟨by (try simp only[hl7_1]);(try simp only[hl7_2]);(try simp only[hl8_2]);(with_reducible repeat (first|refine kn' ?_ _|refine kd' ?_|refine ka' ?_ _));exact BK247.out⟩,⟨by repeat (first|(with_reducible first|exact HB.out|apply ba'|apply bd'|apply be'|refine bs' ?_ GE247.out)|exact HB.out)⟩⟩
                       ·
                        rw[if_neg c56] at H;have c56b0:decide ((rd x7_2 x53_3) < (rd x7_2 x12_3))=false:=decide_eq_false c56;clear c56;have H':=am' H;clear H;have p269:0≤(x53_3:Int):=of_decide_eq_true xa';have q269:x53_3 < (x7_2.length:Int):=of_decide_eq_true xa';obtain ⟨ad269,e269,hx269_0⟩:=Kd.at_int (Kd.R_reads' HO_51.out).2.2 x53_3 p269 q269;obtain rfl:(⟨go31,0,none⟩:Addr)=ad269:=(by injection e269)
                        (first|simp only[add_plain] at hx269_0|simp only[add_at] at hx269_0|simp only[Addr.add,Nat.zero_add] at hx269_0|skip)
                        replace p269:=eq_true p269;replace q269:=eq_true q269;obtain ⟨Ao58,co58,eo58⟩:=Kd.R_slice HO_9.out;subst eo58;have p270:0≤(x53_3:Int):=of_decide_eq_true xa';have q270:x53_3 < (x9_2.length:Int):=of_decide_eq_true xa';obtain ⟨ad270,e270,hx270_0⟩:=Kd.at_bool (Kd.R_reads' HO_9.out).2.2 x53_3 p270 q270
                        (try rw [← Nbq48.out] at hx270_0)
                        cases e270
                        replace p270:=eq_true p270;replace q270:=eq_true q270;have p271:0≤(x12_3:Int):=of_decide_eq_true xa';have q271:x12_3 < (x7_2.length:Int):=of_decide_eq_true xa';obtain ⟨ad271,e271,hx271_0⟩:=Kd.at_int (Kd.R_reads' HO_7.out).2.2 x12_3 p271 q271;obtain rfl:(⟨go31,0,none⟩:Addr)=ad271:=(by injection e271)
                        (first|simp only[add_plain] at hx271_0|simp only[add_at] at hx271_0|simp only[Addr.add,Nat.zero_add] at hx271_0|skip)
                        replace p271:=eq_true p271;replace q271:=eq_true q271;go_wp2;go_roundg k3
                        case measure=>have:=HK1.out;have:=HK2.out;have:=HK3.out;omega
                        case rel=>exact ⟨(x12_3),(wrap64 (x53_3+1)),xs',xs',H',⟨by have:=HK1.out;have:=HK2.out;have:=HK3.out;omega⟩,⟨by (try simp only[hl7_1]);(try simp only[hl7_2]);(try simp only[hl8_2]);(with_reducible repeat (first|apply ra'|apply rn'|apply rw'));exact HO_7.out⟩,⟨by (try simp only[hl7_1]);(try simp only[hl7_2]);(try simp only[hl8_2]);(with_reducible repeat (first|apply ra'|apply rn'|apply rw'));exact HO_8.out⟩,⟨by (try simp only[hl7_1]);(try simp only[hl7_2]);(try simp only[hl8_2]);(with_reducible repeat (first|apply ra'|apply rn'|apply rw'));exact HO_9.out⟩,⟨by (try simp only[hl7_1]);(try simp only[hl7_2]);(try simp only[hl8_2]);(with_reducible repeat (first|apply ra'|apply rn'|apply rw'));exact HO_51.out⟩,⟨by (try simp only[hl7_1]);(try simp only[hl7_2]);(try simp only[hl8_2]);(with_reducible repeat (first|refine kn' ?_ _|refine kd' ?_|refine ka' ?_ _));exact BK247.out⟩,⟨by repeat (first|(with_reducible first|exact HB.out|apply ba'|apply bd'|apply be'|refine bs' ?_ GE247.out)|exact HB.out)⟩⟩
                      ·
                       rw[if_neg c55] at H;exact absurd H (by simp)
                     ·
                      rw[if_neg c54] at H;exact absurd H (by simp)
                   ·
                    rw[if_neg c51] at H;have c51b0:decide (0≤(rd x7_2 x53_3))=false:=decide_eq_false c51;clear c51;have H':=am' H;clear H;have p269:0≤(x53_3:Int):=of_decide_eq_true xa';have q269:x53_3 < (x7_2.length:Int):=of_decide_eq_true xa';obtain ⟨ad269,e269,hx269_0⟩:=Kd.at_int (Kd.R_reads' HO_51.out).2.2 x53_3 p269 q269;obtain rfl:(⟨go31,0,none⟩:Addr)=ad269:=(by injection e269)
                    (first|simp only[add_plain] at hx269_0|simp only[add_at] at hx269_0|simp only[Addr.add,Nat.zero_add] at hx269_0|skip)
                    replace p269:=eq_true p269;replace q269:=eq_true q269;obtain ⟨Ao59,co59,eo59⟩:=Kd.R_slice HO_9.out;subst eo59;have p270:0≤(x53_3:Int):=of_decide_eq_true xa';have q270:x53_3 < (x9_2.length:Int):=of_decide_eq_true xa';obtain ⟨ad270,e270,hx270_0⟩:=Kd.at_bool (Kd.R_reads' HO_9.out).2.2 x53_3 p270 q270
                    (try rw [← Nbq48.out] at hx270_0)
                    cases e270
                    replace p270:=eq_true p270;replace q270:=eq_true q270;go_wp2;go_roundg k3
                    case measure=>have:=HK1.out;have:=HK2.out;have:=HK3.out;omega
                    case rel=>exact ⟨(x12_3),(wrap64 (x53_3+1)),xs',xs',H',⟨by have:=HK1.out;have:=HK2.out;have:=HK3.out;omega⟩,⟨by (try simp only[hl7_1]);(try simp only[hl7_2]);(try simp only[hl8_2]);(with_reducible repeat (first|apply ra'|apply rn'|apply rw'));exact HO_7.out⟩,⟨by (try simp only[hl7_1]);(try simp only[hl7_2]);(try simp only[hl8_2]);(with_reducible repeat (first|apply ra'|apply rn'|apply rw'));exact HO_8.out⟩,⟨by (try simp only[hl7_1]);(try simp only[hl7_2]);(try simp only[hl8_2]);(with_reducible repeat (first|apply ra'|apply rn'|apply rw'));exact HO_9.out⟩,⟨by (try simp only[hl7_1]);(try simp only[hl7_2]);(try simp only[hl8_2]);(with_reducible repeat (first|apply ra'|apply rn'|apply rw'));exact HO_51.out⟩,⟨by (try simp only[hl7_1]);(try simp only[hl7_2]);(try simp only[hl8_2]);(with_reducible repeat (first|refine kn' ?_ _|refine kd' ?_|refine ka' ?_ _));exact BK247.out⟩,⟨by repeat (first|(with_reducible first|exact HB.out|apply ba'|apply bd'|apply be'|refine bs' ?_ GE247.out)|exact HB.out)⟩⟩
                 ·
                  rw[if_neg c47] at H;exact absurd H (by simp)
                ·
                 rw[if_neg c46] at H;exact absurd H (by simp)
               ·
                rw[if_neg c45] at H;exact absurd H (by simp)
              ·
               rw[if_neg c44] at H;have c44b0:decide (x53_3 < (x7_2.length:Int))=false:=decide_eq_false c44;clear c44;by_cases c60:x12_3 < 0
               ·
                rw[if_pos c60] at H;have c60b0:decide (x12_3 < 0)=true:=decide_eq_true c60;clear c60;simp only[Option.some.injEq,Prod.mk.injEq] at H;obtain ⟨rfl,rfl⟩:=H;go_wp2;go_ret2
                exact ⟨_,_,by first|rfl|(simp[errW_none,errW_some] <;> rfl)|(simp only[← hji3];first|rfl|(simp[errW_none,errW_some] <;> rfl))|(simp[*,errW_none,errW_some] <;> rfl),by (with_reducible repeat (first|apply ra'|apply rn'|apply rw'));exact HO_7.out,by (with_reducible repeat (first|apply ra'|apply rn'|apply rw'));exact Kd.R_mono HO_8.out (fun _ hk=>hk.1),by repeat (first|(with_reducible first|exact HB.out|apply ba'|apply bd'|apply be'|refine bs' ?_ GE247.out)|exact HB.out)⟩
               ·
                rw[if_neg c60] at H;have c60b0:decide (x12_3 < 0)=false:=decide_eq_false c60;clear c60;by_cases c61:0≤x12_3
                ·
                 rw[if_pos c61] at H;have c61b0:decide (0≤x12_3)=true:=decide_eq_true c61;clear c61;by_cases c62:x12_3 < (x9_2.length:Int)
                 ·
                  rw[if_pos c62] at H;have c62b0:decide (x12_3 < (x9_2.length:Int))=true:=decide_eq_true c62;clear c62;obtain ⟨y272,hy272⟩:∃ y_:List Bool,y_=(x9_2.set (x12_3:Int).toNat true):=⟨_,rfl⟩
                  replace H:((spec_seState.f k3 x12_3 (l0_0.length:Int)).bind fun bt273=>((spec_loRides.f k3 l0_0 l0_1 a0_2 bt273.1 bt273.2).bind fun t278=>(spec_loFar.l3 k3 a1 (l0_0.length:Int) x7_2 x8_2 y272 x12_3 t278 (t278.length:Int) 0 l0_0 l0_1 a0_2 bt273.1 bt273.2)))=some (r1,r2):=by first|(rw[hy272];with_reducible exact H)|(have H2_:=(Option.bind_some _ _).symm.trans H;rw[hy272];with_reducible exact H2_)|(have H2_:=(Option.bind_some _ _).symm.trans H;with_reducible exact H2_)|with_reducible exact H|(rw[hy272];exact H)|exact H
                  have Ny272:=am' hy272;clear hy272;replace H:=Option.bind_eq_some_iff.mp H;obtain ⟨⟨t273,t276⟩,A640,H⟩:=H;replace H:((spec_loRides.f k3 l0_0 l0_1 a0_2 t273 t276).bind fun t278=>(spec_loFar.l3 k3 a1 (l0_0.length:Int) x7_2 x8_2 y272 x12_3 t278 (t278.length:Int) 0 l0_0 l0_1 a0_2 t273 t276))=some (r1,r2):=H;have A64:=am' A640;clear A640;replace H:=Option.bind_eq_some_iff.mp H;obtain ⟨t278,A650,H⟩:=H;replace H:(spec_loFar.l3 k3 a1 (l0_0.length:Int) x7_2 x8_2 y272 x12_3 t278 (t278.length:Int) 0 l0_0 l0_1 a0_2 t273 t276)=some (r1,r2):=H;have A65:=am' A650;clear A650;have H':=am' H;clear H;have p63:0≤(x12_3:Int):=of_decide_eq_true xa';have q63:(x12_3:Int) < ((x9_2.length:Int):Int):=of_decide_eq_true xa';obtain ⟨go63,co63,eo63,gb63,gl63,cl63,HG63⟩:=Kd.R_form HO_9.out (by omega)
                  (first|cases eo63|(injection eo63 with ea_ en_ ec_;(first|subst ea_|(injection ea_ with ea_;subst ea_));subst ec_;clear en_))
                  have GB63:=am' gb63;have GG63:=am' HG63;clear gb63 gl63 HG63;obtain ⟨hx63_0,hf63_0⟩:=Kd.R_celln false HO_9.out (x12_3:Int) p63 q63;replace p63:=eq_true p63;replace q63:=eq_true q63;have HP66:=Kd.R_putg HO_9.out (x12_3:Int) true;go_wp2_with (first|((with_reducible refine gate_store (t:=4) (p:=87) rfl ?_);refine store_event (t:=4) (p:=87) (v:=?vo_w67) (w1:=(wr.setCell ⟨go63,(x12_3:Int).toNat,none⟩ (.bool true))) ?hg ?ho ?hn ?hr ?_;(case ho=>rfl);(case hg=>rfl);(case hn=>rfl);(case hr=>first|(go_simp;done)|(go_simp;rfl));intro w67 hw;have hg:wr.grownBy w67 (some go63):=(by rw[hw];exact HP66.2);have hp_:Kd.R Kd.bool 4 w67 w.heap.size (fun _=>True) (.slice (some ⟨go63,0,none⟩) x9_2.length co63) y272:=(by rw[hw,Ny272.out];exact HP66.1);clear HP66;have n0_:=am' (Kd.R_over' (v:=(.slice (some ⟨go63,0,none⟩) x9_2.length co63)) (kr' HO_7.out) (Kd.R_typed HO_9.out) (by decide) hg);have n1_:=am' (Kd.R_over' (v:=(.slice (some ⟨go63,0,none⟩) x9_2.length co63)) (kr' HO_8.out) (Kd.R_typed HO_9.out) (by decide) hg);have n2_:=am' (hp_);have n3_:=am' (Kd.R_over' (v:=(.slice (some ⟨go63,0,none⟩) x9_2.length co63)) (kr' HO_51.out) (Kd.R_typed HO_9.out) (by decide) hg);have n4_:=am' (blk_grown (g:=gb247) (o := .cells #[.slice A0_0 l0_0.length c0_0, .slice A0_1 l0_1.length c0_1, .int .i64 a0_2] 29 (0,0)) (kk' BK247.out) hg (Kd.R_ne HO_9.out BK247.out (by decide)));have n5_:=am' ((by rw[hw];exact bs' (HB.out) GB63.out:Below w.heap.size w w67));clear HO_7;clear HO_8;clear HO_9;clear HO_51;clear BK247;clear HB;have HO_7:=n0_;have HO_8:=n1_;have HO_9:=n2_;have HO_51:=n3_;have BK247:=n4_;have HB:=n5_;clear n0_ n1_ n2_ n3_ n4_ n5_;clear hg hw hp_)|((with_reducible refine gate_callee (f:=81) rfl ?_);refine goesL_ (some 90) rfl rfl Try.func81 xk' rfl #[.int .i64 x12_3, .int .i64 (l0_0.length:Int)] rfl xl' ?_;(with_reducible refine (spec_seState.calls k3 x12_3 (l0_0.length:Int) t273 t276 _ A64.out).mono ?_);rintro e w68 ⟨v274,rfl,ho0,hb⟩;refine ⟨_,rfl,?_⟩;have n0_:=am' (Kd.R_below (kr' HO_7.out) hb);have n1_:=am' (Kd.R_below (kr' HO_8.out) hb);have n2_:=am' (Kd.R_elder' (kr' HO_9.out) (Kd.R_base ho0) hb);have n3_:=am' (Kd.R_below (kr' HO_51.out) hb);have n4_:=am' (Kd.R_lower (Kd.R_new' ho0 (Kd.R_lt (kr' HO_9.out))) (below_size (yb' GE247.out)));have n5_:=am' (blk_below (g:=gb247) (o := .cells #[.slice A0_0 l0_0.length c0_0, .slice A0_1 l0_1.length c0_1, .int .i64 a0_2] 29 (0,0)) (kk' BK247.out) hb);have n6_:=am' (below_step (yb' GE247.out) hb);clear HO_7;clear HO_8;clear HO_9;clear HO_51;clear BK247;clear HB;have HO_7:=n0_;have HO_8:=n1_;have HO_9:=n2_;have HO_51:=n3_;have HO275:=n4_;have BK247:=n5_;have HB:=n6_;clear n0_ n1_ n2_ n3_ n4_ n5_ n6_;(try clear hb);(try clear hb2);(try clear hk);(try clear hi);(try clear ho0))|((with_reducible refine gate_dst (N:=15) rfl ?_);refine box_event ?hg (N:=15) ?hd (cs:=#[.slice none 0 0, .bool false]) (t:=38) ?hr ?_;(case hd=>rfl);(case hg=>rfl);(case hr=>first|(go_simp;done)|(go_simp;rfl));intro gb277 hg w69 hbox hb;have n0_:=am' (Kd.R_below (kr' HO_7.out) hb);have n1_:=am' (Kd.R_below (kr' HO_8.out) hb);have n2_:=am' (Kd.R_below (kr' HO_9.out) hb);have n3_:=am' (Kd.R_below (kr' HO_51.out) hb);have n4_:=am' (Kd.R_below (kr' HO275.out) hb);have n5_:=am' (blk_below (g:=gb247) (o := .cells #[.slice A0_0 l0_0.length c0_0, .slice A0_1 l0_1.length c0_1, .int .i64 a0_2] 29 (0,0)) (kk' BK247.out) hb);have n6_:=am' (below_step (yb' GE247.out) hb);have n7_:=am' (hbox);have n8_:=am' ((by rw[hg];exact (below_size (yb' GE247.out)):w.heap.size≤gb277));have n9_:=am' ((by rw[hg];exact (below_size (yb' GE247.out)):w.heap.size≤gb277));have n10_:=am' ((by rw[hg];exact Nat.ne_of_lt (blk_lt (g:=gb247) (o := .cells #[.slice A0_0 l0_0.length c0_0, .slice A0_1 l0_1.length c0_1, .int .i64 a0_2] 29 (0,0)) (kk' BK247.out)):gb247≠gb277));have n11_:=am' ((by rw[hg];exact Nat.ne_of_gt (blk_lt (g:=gb247) (o := .cells #[.slice A0_0 l0_0.length c0_0, .slice A0_1 l0_1.length c0_1, .int .i64 a0_2] 29 (0,0)) (kk' BK247.out)):gb277≠gb247));clear HO_7;clear HO_8;clear HO_9;clear HO_51;clear HO275;clear BK247;clear HB;have HO_7:=n0_;have HO_8:=n1_;have HO_9:=n2_;have HO_51:=n3_;have HO275:=n4_;have BK247:=n5_;have HB:=n6_;have BK277:=n7_;have GW277:=n8_;have GE277:=n9_;have NB247_277:=n10_;have NB277_247:=n11_;clear n0_ n1_ n2_ n3_ n4_ n5_ n6_ n7_ n8_ n9_ n10_ n11_;clear hb hbox hg;obtain ⟨Ao70,co70,eo70⟩:=Kd.R_slice HO275.out;subst eo70;have hnb71:=NB277_247.out;have hnc71:=NB247_277.out;have hcz72_0:w69.cell? ⟨gb277,0,none⟩=some (.slice none 0 0):=(blk_cell BK277.out 0).trans rfl;have hcz72_1:w69.cell? ⟨gb277,1,none⟩=some (.bool false):=(blk_cell BK277.out 1).trans rfl;have hfz72_0:=blk_frozen BK277.out 0;have hfz72_1:=blk_frozen BK277.out 1;have hcz73_0:w69.cell? ⟨gb247,0,none⟩=some (.slice A0_0 l0_0.length c0_0):=(blk_cell BK247.out 0).trans rfl;have hcz73_1:w69.cell? ⟨gb247,1,none⟩=some (.slice A0_1 l0_1.length c0_1):=(blk_cell BK247.out 1).trans rfl;have hcz73_2:w69.cell? ⟨gb247,2,none⟩=some (.int .i64 a0_2):=(blk_cell BK247.out 2).trans rfl;have hfz73_0:=blk_frozen BK247.out 0;have hfz73_1:=blk_frozen BK247.out 1;have hfz73_2:=blk_frozen BK247.out 2)|((with_reducible refine gate_callee (f:=73) rfl ?_);refine goesL_ (some 93) rfl rfl Try.func73 xk' rfl #[.agg #[.slice A0_0 l0_0.length c0_0, .slice A0_1 l0_1.length c0_1, .int .i64 a0_2], .agg #[.slice Ao70 t273.length co70, .bool t276]] rfl xl' ?_;(with_reducible refine (spec_loRides.calls k3 _ _ l0_0 _ _ l0_1 a0_2 _ _ t273 t276 t278 _ ?side1 ?side2 ?side3 ?side4 ?side5 ?side6 A65.out).mono ?_);(case side1=>exact Kd.C_below HR0_0.out (by repeat (first|(with_reducible first|exact HB.out|apply ba'|apply bd'|apply be'|refine bs' ?_ GE247.out|refine bs' ?_ GE277.out)|exact HB.out)));(case side2=>exact HC0_0.out);(case side3=>exact Kd.C_below HR0_1.out (by repeat (first|(with_reducible first|exact HB.out|apply ba'|apply bd'|apply be'|refine bs' ?_ GE247.out|refine bs' ?_ GE277.out)|exact HB.out)));(case side4=>exact HC0_1.out);(case side5=>refine (Kd.R_reads' (e:=4) (base:=w.heap.size) (ok:=fun k_=>(True∧some k_≠(.slice (some ⟨go63,0,none⟩) x9_2.length co63:Value).ownBlock)) (n:=t273.length) (c:=co70) ?_).2.2;exact (by (with_reducible repeat (first|apply ra'|apply rn'|apply rw'));exact (Kd.R_mono (Kd.R_far (p:=⟨gb277,1,none⟩) (Kd.R_far (p:=⟨gb277,0,none⟩) (Kd.R_types HO275.out BK277.out (by decide)) (fun _ hk=>hk.2) (.slice Ao70 t273.length co70)) (fun _ hk=>hk.2) (.bool t276)) (fun _ h_=>h_.1))));(case side6=>exact (Kd.R_reads' HO275.out).2.1);rintro e w74 ⟨v279,rfl,ho0,hb⟩;refine ⟨_,rfl,?_⟩;have n0_:=am' (Kd.R_below (by (with_reducible repeat (first|apply ra'|apply rn'|apply rw'));exact (Kd.R_mono (Kd.R_far (p:=⟨gb277,1,none⟩) (Kd.R_far (p:=⟨gb277,0,none⟩) (Kd.R_types HO_7.out BK277.out (by decide)) (fun _ hk=>hk.2) (.slice Ao70 t273.length co70)) (fun _ hk=>hk.2) (.bool t276)) (fun _ h_=>h_.1))) hb);have n1_:=am' (Kd.R_below (by (with_reducible repeat (first|apply ra'|apply rn'|apply rw'));exact (Kd.R_mono (Kd.R_far (p:=⟨gb277,1,none⟩) (Kd.R_far (p:=⟨gb277,0,none⟩) (Kd.R_types HO_8.out BK277.out (by decide)) (fun _ hk=>hk.2) (.slice Ao70 t273.length co70)) (fun _ hk=>hk.2) (.bool t276)) (fun _ h_=>h_.1))) hb);have n2_:=am' (Kd.R_below (by (with_reducible repeat (first|apply ra'|apply rn'|apply rw'));exact (Kd.R_mono (Kd.R_far (p:=⟨gb277,1,none⟩) (Kd.R_far (p:=⟨gb277,0,none⟩) (Kd.R_types HO_9.out BK277.out (by decide)) (fun _ hk=>hk.2) (.slice Ao70 t273.length co70)) (fun _ hk=>hk.2) (.bool t276)) (fun _ h_=>h_.1))) hb);have n3_:=am' (Kd.R_below (by (with_reducible repeat (first|apply ra'|apply rn'|apply rw'));exact (Kd.R_mono (Kd.R_far (p:=⟨gb277,1,none⟩) (Kd.R_far (p:=⟨gb277,0,none⟩) (Kd.R_types HO_51.out BK277.out (by decide)) (fun _ hk=>hk.2) (.slice Ao70 t273.length co70)) (fun _ hk=>hk.2) (.bool t276)) (fun _ h_=>h_.1))) hb);have n4_:=am' (Kd.R_below (by (with_reducible repeat (first|apply ra'|apply rn'|apply rw'));exact (Kd.R_mono (Kd.R_far (p:=⟨gb277,1,none⟩) (Kd.R_far (p:=⟨gb277,0,none⟩) (Kd.R_types HO275.out BK277.out (by decide)) (fun _ hk=>hk.2) (.slice Ao70 t273.length co70)) (fun _ hk=>hk.2) (.bool t276)) (fun _ h_=>h_.1))) hb);have n5_:=am' (Kd.N_lower (Kd.N_mono (ok':=fun k_=>some k_≠(.slice (some ⟨go31,0,none⟩) x7_2.length co19:Value).ownBlock∧some k_≠(.slice (some ⟨go33,0,none⟩) x8_2.length co33:Value).ownBlock∧some k_≠(.slice (some ⟨go63,0,none⟩) x9_2.length co63:Value).ownBlock∧some k_≠(.slice (some ⟨go31,0,none⟩) x7_2.length co19:Value).ownBlock∧some k_≠(.slice Ao70 t273.length co70:Value).ownBlock∧k_≠gb247∧k_≠gb277) ho0 (fun k_ hk_=>⟨(Kd.fresh' (Kd.R_lt (by (with_reducible repeat (first|apply ra'|apply rn'|apply rw'));exact (Kd.R_mono (Kd.R_far (p:=⟨gb277,1,none⟩) (Kd.R_far (p:=⟨gb277,0,none⟩) (Kd.R_types HO_7.out BK277.out (by decide)) (fun _ hk=>hk.2) (.slice Ao70 t273.length co70)) (fun _ hk=>hk.2) (.bool t276)) (fun _ h_=>h_.1)))) k_ hk_),(Kd.fresh' (Kd.R_lt (by (with_reducible repeat (first|apply ra'|apply rn'|apply rw'));exact (Kd.R_mono (Kd.R_far (p:=⟨gb277,1,none⟩) (Kd.R_far (p:=⟨gb277,0,none⟩) (Kd.R_types HO_8.out BK277.out (by decide)) (fun _ hk=>hk.2) (.slice Ao70 t273.length co70)) (fun _ hk=>hk.2) (.bool t276)) (fun _ h_=>h_.1)))) k_ hk_),(Kd.fresh' (Kd.R_lt (by (with_reducible repeat (first|apply ra'|apply rn'|apply rw'));exact (Kd.R_mono (Kd.R_far (p:=⟨gb277,1,none⟩) (Kd.R_far (p:=⟨gb277,0,none⟩) (Kd.R_types HO_9.out BK277.out (by decide)) (fun _ hk=>hk.2) (.slice Ao70 t273.length co70)) (fun _ hk=>hk.2) (.bool t276)) (fun _ h_=>h_.1)))) k_ hk_),(Kd.fresh' (Kd.R_lt (by (with_reducible repeat (first|apply ra'|apply rn'|apply rw'));exact (Kd.R_mono (Kd.R_far (p:=⟨gb277,1,none⟩) (Kd.R_far (p:=⟨gb277,0,none⟩) (Kd.R_types HO_51.out BK277.out (by decide)) (fun _ hk=>hk.2) (.slice Ao70 t273.length co70)) (fun _ hk=>hk.2) (.bool t276)) (fun _ h_=>h_.1)))) k_ hk_),(Kd.fresh' (Kd.R_lt (by (with_reducible repeat (first|apply ra'|apply rn'|apply rw'));exact (Kd.R_mono (Kd.R_far (p:=⟨gb277,1,none⟩) (Kd.R_far (p:=⟨gb277,0,none⟩) (Kd.R_types HO275.out BK277.out (by decide)) (fun _ hk=>hk.2) (.slice Ao70 t273.length co70)) (fun _ hk=>hk.2) (.bool t276)) (fun _ h_=>h_.1)))) k_ hk_),(Kd.freshB (g:=gb247) (o := .cells #[.slice A0_0 l0_0.length c0_0, .slice A0_1 l0_1.length c0_1, .int .i64 a0_2] 29 (0,0)) (by (with_reducible repeat (first|refine kn' ?_ _|refine kd' ?_|refine ka' ?_ _));refine blk_far ?_ NB247_277.out _;(with_reducible repeat (first|refine kn' ?_ _|refine kd' ?_|refine ka' ?_ _));refine blk_far ?_ NB247_277.out _;(with_reducible repeat (first|refine kn' ?_ _|refine kd' ?_|refine ka' ?_ _));exact BK247.out) k_ hk_),(Kd.freshB (g:=gb277) (o := .cells #[.slice Ao70 t273.length co70, .bool t276] 38 (0,0)) (by (with_reducible repeat (first|refine kn' ?_ _|refine kd' ?_|refine ka' ?_ _));refine blk_put (cs:=#[.slice Ao70 t273.length co70, .bool false]) ?_ 1 _ rfl;(with_reducible repeat (first|refine kn' ?_ _|refine kd' ?_|refine ka' ?_ _));refine blk_put (cs:=#[.slice none 0 0, .bool false]) ?_ 0 _ rfl;(with_reducible repeat (first|refine kn' ?_ _|refine kd' ?_|refine ka' ?_ _));exact BK277.out) k_ hk_)⟩)) (below_size (by repeat (first|(with_reducible first|exact HB.out|apply ba'|apply bd'|apply be'|refine bs' ?_ GE247.out|refine bs' ?_ GE277.out)|exact HB.out))));have n6_:=am' (blk_below (g:=gb247) (o := .cells #[.slice A0_0 l0_0.length c0_0, .slice A0_1 l0_1.length c0_1, .int .i64 a0_2] 29 (0,0)) (by (with_reducible repeat (first|refine kn' ?_ _|refine kd' ?_|refine ka' ?_ _));refine blk_far ?_ NB247_277.out _;(with_reducible repeat (first|refine kn' ?_ _|refine kd' ?_|refine ka' ?_ _));refine blk_far ?_ NB247_277.out _;(with_reducible repeat (first|refine kn' ?_ _|refine kd' ?_|refine ka' ?_ _));exact BK247.out) hb);have n7_:=am' (blk_below (g:=gb277) (o := .cells #[.slice Ao70 t273.length co70, .bool t276] 38 (0,0)) (by (with_reducible repeat (first|refine kn' ?_ _|refine kd' ?_|refine ka' ?_ _));refine blk_put (cs:=#[.slice Ao70 t273.length co70, .bool false]) ?_ 1 _ rfl;(with_reducible repeat (first|refine kn' ?_ _|refine kd' ?_|refine ka' ?_ _));refine blk_put (cs:=#[.slice none 0 0, .bool false]) ?_ 0 _ rfl;(with_reducible repeat (first|refine kn' ?_ _|refine kd' ?_|refine ka' ?_ _));exact BK277.out) hb);have n8_:=am' (below_step (by repeat (first|(with_reducible first|exact HB.out|apply ba'|apply bd'|apply be'|refine bs' ?_ GE247.out|refine bs' ?_ GE277.out)|exact HB.out)) hb);clear HO_7;clear HO_8;clear HO_9;clear HO_51;clear HO275;clear BK247;clear BK277;clear HB;have HO_7:=n0_;have HO_8:=n1_;have HO_9:=n2_;have HO_51:=n3_;have HO275:=n4_;have HO280:=n5_;have BK247:=n6_;have BK277:=n7_;have HB:=n8_;clear n0_ n1_ n2_ n3_ n4_ n5_ n6_ n7_ n8_;(try clear hb);(try clear hb2);(try clear hk);(try clear hi);(try clear ho0);obtain ⟨Ao75,co75,eo75⟩:=Kd.N_slice HO280.out;subst eo75))
                  go_loopg [95] k3 (fun kq v95 w'=>∃ (x7_4:List Int) (x8_4:List Int) (x95_4:Int),v95 = .int .i64 x95_4∧Aside0 (spec_loFar.l3 kq a1 (l0_0.length:Int) x7_4 x8_4 y272 x12_3 t278 (t278.length:Int) x95_4 l0_0 l0_1 a0_2 t273 t276=some (r1,r2))∧Aside0 (kq≤k3)∧Aside0 (Kd.R (Kd.int .i64) 3 w' w.heap.size (fun k_=>some k_≠((.slice (some ⟨go33,0,none⟩) x8_2.length co33):Value).ownBlock) (.slice (some ⟨go31,0,none⟩) x7_2.length co19) x7_4)∧Aside0 (Kd.R (Kd.int .i64) 3 w' w.heap.size (fun k_=>some k_≠((.slice (some ⟨go31,0,none⟩) x7_2.length co19):Value).ownBlock) (.slice (some ⟨go33,0,none⟩) x8_2.length co33) x8_4)∧Aside0 (Kd.R Kd.bool 4 w' w.heap.size (fun k_=>some k_≠((.slice Ao70 t273.length co70):Value).ownBlock) (.slice (some ⟨go63,0,none⟩) x9_2.length co63) y272)∧Aside0 (Kd.N (Kd.slice 3 (Kd.int .i64)) 22 w' w.heap.size (fun k_=>some k_≠((.slice (some ⟨go31,0,none⟩) x7_2.length co19):Value).ownBlock∧some k_≠((.slice (some ⟨go33,0,none⟩) x8_2.length co33):Value).ownBlock∧some k_≠((.slice (some ⟨go63,0,none⟩) x9_2.length co63):Value).ownBlock∧some k_≠((.slice Ao70 t273.length co70):Value).ownBlock∧k_≠gb247∧k_≠gb277) (.slice Ao75 t278.length co75) t278)∧Aside0 (Kd.R Kd.bool 4 w' w.heap.size (fun k_=>some k_≠((.slice (some ⟨go63,0,none⟩) x9_2.length co63):Value).ownBlock) (.slice Ao70 t273.length co70) t273)∧Aside0 (w'.heap[gb247]? = some (.cells #[(.slice A0_0 l0_0.length c0_0),(.slice A0_1 l0_1.length c0_1), .int .i64 a0_2] 29 (0,0)))∧Aside0 (w'.heap[gb277]? = some (.cells #[(.slice Ao70 t273.length co70), .bool t276] 38 (0,0)))∧Aside0 (Below w.heap.size w w'))
                  case atStart=>exact ⟨(x7_2),(x8_2),(0),xs',H',⟨Nat.le_refl _⟩,⟨by (try simp only[hl7_1]);(try simp only[hl7_2]);(try simp only[hl8_2]);(with_reducible repeat (first|apply ra'|apply rn'|apply rw'));exact HO_7.out⟩,⟨by (try simp only[hl7_1]);(try simp only[hl7_2]);(try simp only[hl8_2]);(with_reducible repeat (first|apply ra'|apply rn'|apply rw'));exact Kd.R_mono HO_8.out (fun _ hk=>hk.1)⟩,⟨by (try simp only[hl7_1]);(try simp only[hl7_2]);(try simp only[hl8_2]);(with_reducible repeat (first|apply ra'|apply rn'|apply rw'));exact Kd.R_mono HO_9.out (fun _ hk=>hk.2)⟩,⟨by (try simp only[hl7_1]);(try simp only[hl7_2]);(try simp only[hl8_2]);(with_reducible repeat (first|apply Kd.N_alloc|apply Kd.N_drewN|apply Kd.N_drew));exact Kd.N_mono HO280.out (fun _ hk=>⟨hk.1,⟨hk.2.1,⟨hk.2.2.1,⟨hk.2.2.2.2.1,⟨hk.2.2.2.2.2.1,hk.2.2.2.2.2.2⟩⟩⟩⟩⟩)⟩,⟨by (try simp only[hl7_1]);(try simp only[hl7_2]);(try simp only[hl8_2]);(with_reducible repeat (first|apply ra'|apply rn'|apply rw'));exact Kd.R_mono HO275.out (fun _ hk=>hk.2)⟩,⟨by (try simp only[hl7_1]);(try simp only[hl7_2]);(try simp only[hl8_2]);(with_reducible repeat (first|refine kn' ?_ _|refine kd' ?_|refine ka' ?_ _));exact BK247.out⟩,⟨by (try simp only[hl7_1]);(try simp only[hl7_2]);(try simp only[hl8_2]);(with_reducible repeat (first|refine kn' ?_ _|refine kd' ?_|refine ka' ?_ _));exact BK277.out⟩,⟨by repeat (first|(with_reducible first|exact HB.out|apply ba'|apply bd'|apply be'|refine bs' ?_ GE247.out|refine bs' ?_ GE277.out)|exact HB.out)⟩⟩
                  case round =>
                   clear H';try clear c1
                   try clear c2
                   try clear p2
                   try clear q2
                   try clear hx2
                   try clear hf2
                   try clear c3
                   try clear p3
                   try clear q3
                   try clear hx3
                   try clear hf3
                   try clear c4
                   try clear c4b0
                   try clear c4b1
                   try clear q4
                   try clear c5
                   try clear c5b0
                   try clear c5b1
                   try clear c6
                   try clear c6b0
                   try clear p6
                   try clear q6
                   try clear hx6
                   try clear hf6
                   try clear c7
                   try clear c7b0
                   try clear c8
                   try clear c8b0
                   try clear c8b1
                   try clear c10
                   try clear c20
                   try clear c20b0
                   try clear c21
                   try clear c21b0
                   try clear c22
                   try clear c22b0
                   try clear p23
                   try clear q23
                   try clear hx23
                   try clear hf23
                   try clear p26
                   try clear q26
                   try clear hx26
                   try clear p27
                   try clear q27
                   try clear hx27
                   try clear c29
                   try clear c29b0
                   try clear c30
                   try clear c30b0
                   try clear p31
                   try clear q31
                   try clear hx31
                   try clear hf31
                   try clear c32
                   try clear c32b0
                   try clear p33
                   try clear q33
                   try clear hx33
                   try clear hf33
                   try clear c44
                   try clear c44b0
                   try clear c45
                   try clear c45b0
                   try clear c46
                   try clear c46b0
                   try clear c47
                   try clear c47b0
                   try clear q48
                   try clear c49
                   try clear c51
                   try clear c51b0
                   try clear c52
                   try clear c52b0
                   try clear c54
                   try clear c54b0
                   try clear c55
                   try clear c55b0
                   try clear c56
                   try clear c56b0
                   try clear c60
                   try clear c60b0
                   try clear c61
                   try clear c61b0
                   try clear c62
                   try clear c62b0
                   try clear p63
                   try clear q63
                   try clear hx63
                   try clear hf63
                   try clear p64
                   try clear c67
                   try clear c69
                   try clear c71
                   try clear c73
                   try clear hcz10_0
                   try clear hcz10_1
                   try clear hcz10_2
                   try clear hcz34_0
                   try clear hcz34_1
                   try clear hcz34_2
                   try clear hcz72_0
                   try clear hcz72_1
                   try clear hcz73_0
                   try clear hcz73_1
                   try clear hcz73_2
                   try clear hfz10_0
                   try clear hfz10_1
                   try clear hfz10_2
                   try clear hfz34_0
                   try clear hfz34_1
                   try clear hfz34_2
                   try clear hfz72_0
                   try clear hfz72_1
                   try clear hfz73_0
                   try clear hfz73_1
                   try clear hfz73_2
                   try clear hx23_0
                   try clear hx269_0
                   try clear hx270_0
                   try clear hx271_0
                   try clear hx31_0
                   try clear hx33_0
                   try clear hx63_0
                   try clear p2
                   try clear p23
                   try clear p269
                   try clear p270
                   try clear p271
                   try clear p3
                   try clear p31
                   try clear p33
                   try clear p6
                   try clear p63
                   try clear q2
                   try clear q23
                   try clear q269
                   try clear q270
                   try clear q271
                   try clear q3
                   try clear q31
                   try clear q33
                   try clear q63
                   obtain ⟨x7_4,x8_4,x95_4,rfl,HA,HK4,HO_7,HO_8,HO_9,HO_93,HO_278000,BK247,BK277,HB⟩:=hrel;have hl7_4:=(Kd.R_reads' HO_7.out).1;rw[hl7_4] at HO_7
                   (try simp only[hl7_4])
                   (try simp only[hl7_4] at BK247)
                   (try simp only[hl7_4] at BK277)
                   (try simp only[hl7_4] at HO_8)
                   (try simp only[hl7_4] at HO_9)
                   (try simp only[hl7_4] at HO_93)
                   (try simp only[hl7_4] at HO_278000)
                   have hl8_4:=(Kd.R_reads' HO_8.out).1;rw[hl8_4] at HO_8
                   (try simp only[hl8_4])
                   (try simp only[hl8_4] at BK247)
                   (try simp only[hl8_4] at BK277)
                   (try simp only[hl8_4] at HO_7)
                   (try simp only[hl8_4] at HO_9)
                   (try simp only[hl8_4] at HO_93)
                   (try simp only[hl8_4] at HO_278000)
                   have hl9_4:=(Kd.R_reads' HO_9.out).1;rw[hl9_4] at HO_9
                   (try simp only[hl9_4])
                   (try simp only[hl9_4] at BK247)
                   (try simp only[hl9_4] at BK277)
                   (try simp only[hl9_4] at HO_7)
                   (try simp only[hl9_4] at HO_8)
                   (try simp only[hl9_4] at HO_93)
                   (try simp only[hl9_4] at HO_278000)
                   cases gk with
                   | zero=>exact absurd HA.out (by simp[spec_loFar.l3])
                   | succ k4 =>
                    have H:=HA.out;clear HA;simp only[spec_loFar.l3] at H;by_cases c76:x95_4 < (t278.length:Int)
                    ·
                     rw[if_pos c76] at H;have c76b0:decide (x95_4 < (t278.length:Int))=true:=decide_eq_true c76;clear c76;by_cases c77:0≤x95_4
                     ·
                      rw[if_pos c77] at H;have c77b0:decide (0≤x95_4)=true:=decide_eq_true c77;clear c77;by_cases c78:x95_4 < (t278.length:Int)
                      ·
                       rw[if_pos c78] at H;have c78b0:decide (x95_4 < (t278.length:Int))=true:=decide_eq_true c78;clear c78;replace H:=Option.bind_eq_some_iff.mp H;obtain ⟨⟨t282,t285⟩,A790,H⟩:=H;replace H:((spec_seIndex.f k4 t282 t285).bind fun t286=>(if 0≤x12_3 then (if x12_3 < (x7_4.length:Int) then ((spec_loCost.f k4 l0_0 l0_1 a0_2 (rd_L2 t278 x95_4) a1).bind fun t288=>(if 0≤t286 then (if t286 < (x7_4.length:Int) then (if (rd x7_4 t286) < 0 then (spec_loFar.j4 k4 a1 (l0_0.length:Int) x7_4 x8_4 y272 x12_3 t286 (wrap64 ((rd x7_4 x12_3)+t288)) t278 (t278.length:Int) x95_4 true l0_0 l0_1 a0_2 t273 t276) else (spec_loFar.j4 k4 a1 (l0_0.length:Int) x7_4 x8_4 y272 x12_3 t286 (wrap64 ((rd x7_4 x12_3)+t288)) t278 (t278.length:Int) x95_4 (decide ((wrap64 ((rd x7_4 x12_3)+t288)) < (rd x7_4 t286))) l0_0 l0_1 a0_2 t273 t276)) else (none)) else (none))) else (none)) else (none)))=some (r1,r2):=H;have A79:=am' A790;clear A790;replace H:=Option.bind_eq_some_iff.mp H;obtain ⟨t286,A800,H⟩:=H;replace H:(if 0≤x12_3 then (if x12_3 < (x7_4.length:Int) then ((spec_loCost.f k4 l0_0 l0_1 a0_2 (rd_L2 t278 x95_4) a1).bind fun t288=>(if 0≤t286 then (if t286 < (x7_4.length:Int) then (if (rd x7_4 t286) < 0 then (spec_loFar.j4 k4 a1 (l0_0.length:Int) x7_4 x8_4 y272 x12_3 t286 (wrap64 ((rd x7_4 x12_3)+t288)) t278 (t278.length:Int) x95_4 true l0_0 l0_1 a0_2 t273 t276) else (spec_loFar.j4 k4 a1 (l0_0.length:Int) x7_4 x8_4 y272 x12_3 t286 (wrap64 ((rd x7_4 x12_3)+t288)) t278 (t278.length:Int) x95_4 (decide ((wrap64 ((rd x7_4 x12_3)+t288)) < (rd x7_4 t286))) l0_0 l0_1 a0_2 t273 t276)) else (none)) else (none))) else (none)) else (none))=some (r1,r2):=H;have A80:=am' A800;clear A800;by_cases c81:0≤x12_3
                       ·
                        rw[if_pos c81] at H;have c81b0:decide (0≤x12_3)=true:=decide_eq_true c81;clear c81;by_cases c82:x12_3 < (x7_4.length:Int)
                        ·
                         rw[if_pos c82] at H;have c82b0:decide (x12_3 < (x7_4.length:Int))=true:=decide_eq_true c82;clear c82;replace H:=Option.bind_eq_some_iff.mp H;obtain ⟨t288,A830,H⟩:=H;replace H:(if 0≤t286 then (if t286 < (x7_4.length:Int) then (if (rd x7_4 t286) < 0 then (spec_loFar.j4 k4 a1 (l0_0.length:Int) x7_4 x8_4 y272 x12_3 t286 (wrap64 ((rd x7_4 x12_3)+t288)) t278 (t278.length:Int) x95_4 true l0_0 l0_1 a0_2 t273 t276) else (spec_loFar.j4 k4 a1 (l0_0.length:Int) x7_4 x8_4 y272 x12_3 t286 (wrap64 ((rd x7_4 x12_3)+t288)) t278 (t278.length:Int) x95_4 (decide ((wrap64 ((rd x7_4 x12_3)+t288)) < (rd x7_4 t286))) l0_0 l0_1 a0_2 t273 t276)) else (none)) else (none))=some (r1,r2):=H;have A83:=am' A830;clear A830;have HC84:=am' H;clear H;have p281:0≤(x95_4:Int):=of_decide_eq_true xa';have q281:x95_4 < (t278.length:Int):=of_decide_eq_true xa';obtain ⟨ad281,A281_0,c281_0,e281,hx281_0,hl281_0,hi281_0⟩:=at_L2 (Kd.N_reads' HO_93.out).2.2 x95_4 p281 q281;cases e281;obtain ⟨ce281,hce281,hMe281,hcc281⟩:=Kd.N_get HO_93.out [] x95_4 p281 (by first|exact q281|exact of_decide_eq_true xa'|(have e_:=(Kd.N_reads' HO_93.out).1;omega));obtain ⟨ua281_0,uc281_0,rfl,ul281_0,ge281_0⟩:=Kd.FK_slice_open hMe281;have hv281_0:=hcc281 0 _ rfl;rw[Nat.add_zero,show ((Kd.slice 3 (Kd.int .i64))).sz=1 from rfl,Nat.mul_one] at hv281_0;replace hv281_0:=Option.some.inj (hv281_0.symm.trans hx281_0);injection hv281_0 with hva_ hvn_ hvc_
                         rw[hva_] at ge281_0;rw[hvc_] at ul281_0;have HL281_0:=am' (show Kd.V (Kd.int .i64) 3 _ w.heap.size _ _ (rd_L2 t278 x95_4) from Kd.V_mk ul281_0 ge281_0);clear hva_ hvn_ hvc_ ge281_0 ul281_0;clear hcc281 hce281;have HR281_0:=am' hi281_0;have HC281_0:=am' hl281_0;clear hi281_0 hl281_0;replace p281:=eq_true p281;replace q281:=eq_true q281;have hnb85:=NB277_247.out;have hnc85:=NB247_277.out;have hcz86_0:wr.cell? ⟨gb277,0,none⟩=some (.slice Ao70 t273.length co70):=(blk_cell BK277.out 0).trans rfl;have hcz86_1:wr.cell? ⟨gb277,1,none⟩=some (.bool t276):=(blk_cell BK277.out 1).trans rfl;have hfz86_0:=blk_frozen BK277.out 0;have hfz86_1:=blk_frozen BK277.out 1
                         try go_wp2_with (first|((with_reducible refine gate_callee (f:=60) rfl ?_);refine goesL_ (some 101) rfl rfl Try.func60 xk' rfl #[.agg #[.slice Ao70 t273.length co70, .bool t276], .slice A281_0 (rd_L2 t278 x95_4).length c281_0] rfl xl' ?_;(with_reducible refine (spec_paCross.calls k4 _ _ t273 t276 _ _ (rd_L2 t278 x95_4) t282 t285 _ ?side1 ?side2 ?side3 ?side4 A79.out).mono ?_);(case side1=>repeat (first|exact (Kd.R_reads' HO_278000.out).2.2|(with_reducible refine ca' ?_ _)|(with_reducible refine cn' ?_ _)|(with_reducible refine cd' ?_)));(case side2=>exact (Kd.R_reads' HO_278000.out).2.1);(case side3=>repeat (first|exact (by repeat (first|(with_reducible exact HR281_0.out)|(with_reducible refine ca' ?_ _)|(with_reducible refine cn' ?_ _)|(with_reducible refine cd' ?_)|exact HR281_0.out))|(with_reducible refine ca' ?_ _)|(with_reducible refine cn' ?_ _)|(with_reducible refine cd' ?_)));(case side4=>exact HC281_0.out);rintro e w87 ⟨v283,rfl,ho0,hb⟩;refine ⟨_,rfl,?_⟩;have n0_:=am' (Kd.R_below (kr' HO_7.out) hb);have n1_:=am' (Kd.R_below (kr' HO_8.out) hb);have n2_:=am' (Kd.R_elder' (kr' HO_9.out) (Kd.R_base ho0) hb);have n3_:=am' (Kd.N_elder' (by (with_reducible repeat (first|apply Kd.N_alloc|apply Kd.N_drewN|apply Kd.N_drew));exact HO_93.out) (Kd.R_base ho0) hb);have n4_:=am' (Kd.R_elder' (kr' HO_278000.out) (Kd.R_base ho0) hb);have n5_:=am' (Kd.V_elder' (by (with_reducible repeat (first|apply Kd.V_alloc|apply Kd.V_drewN|apply Kd.V_drew));exact HL281_0.out) (Kd.R_base ho0) hb);have n6_:=am' (Kd.R_lower (Kd.R_new' (Kd.R_new' ho0 (Kd.R_lt (kr' HO_9.out))) (Kd.R_lt (kr' HO_278000.out))) (below_size (by repeat (first|(with_reducible first|exact HB.out|apply ba'|apply bd'|apply be'|refine bs' ?_ GE247.out|refine bs' ?_ GE277.out)|exact HB.out))));have n7_:=am' (blk_below (g:=gb247) (o := .cells #[.slice A0_0 l0_0.length c0_0, .slice A0_1 l0_1.length c0_1, .int .i64 a0_2] 29 (0,0)) (kk' BK247.out) hb);have n8_:=am' (blk_below (g:=gb277) (o := .cells #[.slice Ao70 t273.length co70, .bool t276] 38 (0,0)) (kk' BK277.out) hb);have n9_:=am' (Kd.C_below (by repeat (first|(with_reducible exact HR281_0.out)|(with_reducible refine ca' ?_ _)|(with_reducible refine cn' ?_ _)|(with_reducible refine cd' ?_)|exact HR281_0.out)) hb);have n10_:=am' (below_step (by repeat (first|(with_reducible first|exact HB.out|apply ba'|apply bd'|apply be'|refine bs' ?_ GE247.out|refine bs' ?_ GE277.out)|exact HB.out)) hb);clear HO_7;clear HO_8;clear HO_9;clear HO_93;clear HO_278000;clear HL281_0;clear BK247;clear BK277;clear HR281_0;clear HB;have HO_7:=n0_;have HO_8:=n1_;have HO_9:=n2_;have HO_93:=n3_;have HO_278000:=n4_;have HL281_0:=n5_;have HO284:=n6_;have BK247:=n7_;have BK277:=n8_;have HR281_0:=n9_;have HB:=n10_;clear n0_ n1_ n2_ n3_ n4_ n5_ n6_ n7_ n8_ n9_ n10_;(try clear hb);(try clear hb2);(try clear hk);(try clear hi);(try clear ho0);obtain ⟨Ao88,co88,eo88⟩:=Kd.R_slice HO284.out;subst eo88)|((with_reducible refine gate_callee (f:=82) rfl ?_);refine goesL_ (some 102) rfl rfl Try.func82 xk' rfl #[.agg #[.slice Ao88 t282.length co88, .bool t285]] rfl xl' ?_;(with_reducible refine (spec_seIndex.calls k4 _ _ t282 t285 t286 _ ?side1 ?side2 A80.out).mono ?_);(case side1=>repeat (first|exact (Kd.R_reads' HO284.out).2.2|(with_reducible refine ca' ?_ _)|(with_reducible refine cn' ?_ _)|(with_reducible refine cd' ?_)));(case side2=>exact (Kd.R_reads' HO284.out).2.1);rintro e w89 ⟨rfl,hb⟩;refine ⟨_,rfl,?_⟩;have n0_:=am' (Kd.R_below (kr' HO_7.out) hb);have n1_:=am' (Kd.R_below (kr' HO_8.out) hb);have n2_:=am' (Kd.R_below (kr' HO_9.out) hb);have n3_:=am' (Kd.N_below (by (with_reducible repeat (first|apply Kd.N_alloc|apply Kd.N_drewN|apply Kd.N_drew));exact HO_93.out) hb);have n4_:=am' (Kd.R_below (kr' HO_278000.out) hb);have n5_:=am' (Kd.V_below (by (with_reducible repeat (first|apply Kd.V_alloc|apply Kd.V_drewN|apply Kd.V_drew));exact HL281_0.out) hb);have n6_:=am' (Kd.R_below (kr' HO284.out) hb);have n7_:=am' (blk_below (g:=gb247) (o := .cells #[.slice A0_0 l0_0.length c0_0, .slice A0_1 l0_1.length c0_1, .int .i64 a0_2] 29 (0,0)) (kk' BK247.out) hb);have n8_:=am' (blk_below (g:=gb277) (o := .cells #[.slice Ao70 t273.length co70, .bool t276] 38 (0,0)) (kk' BK277.out) hb);have n9_:=am' (Kd.C_below (by repeat (first|(with_reducible exact HR281_0.out)|(with_reducible refine ca' ?_ _)|(with_reducible refine cn' ?_ _)|(with_reducible refine cd' ?_)|exact HR281_0.out)) hb);have n10_:=am' (below_step (by repeat (first|(with_reducible first|exact HB.out|apply ba'|apply bd'|apply be'|refine bs' ?_ GE247.out|refine bs' ?_ GE277.out)|exact HB.out)) hb);clear HO_7;clear HO_8;clear HO_9;clear HO_93;clear HO_278000;clear HL281_0;clear HO284;clear BK247;clear BK277;clear HR281_0;clear HB;have HO_7:=n0_;have HO_8:=n1_;have HO_9:=n2_;have HO_93:=n3_;have HO_278000:=n4_;have HL281_0:=n5_;have HO284:=n6_;have BK247:=n7_;have BK277:=n8_;have HR281_0:=n9_;have HB:=n10_;clear n0_ n1_ n2_ n3_ n4_ n5_ n6_ n7_ n8_ n9_ n10_;(try clear hb);(try clear hb2);(try clear hk);(try clear hi)))
                         have n0_:=am' (rw' HO_7.out);have n1_:=am' (rw' HO_8.out);have n2_:=am' (rw' HO_9.out);have n3_:=am' (Kd.N_drew HO_93.out);have n4_:=am' (rw' HO_278000.out);have n5_:=am' (Kd.V_drew HL281_0.out);have n6_:=am' (rw' HO284.out);have n7_:=am' (kd' BK247.out);have n8_:=am' (kd' BK277.out);have n9_:=am' (cd' HR281_0.out);have n10_:=am' (be' HB.out);clear HO_7;clear HO_8;clear HO_9;clear HO_93;clear HO_278000;clear HL281_0;clear HO284;clear BK247;clear BK277;clear HR281_0;clear HB;have HO_7:=n0_;have HO_8:=n1_;have HO_9:=n2_;have HO_93:=n3_;have HO_278000:=n4_;have HL281_0:=n5_;have HO284:=n6_;have BK247:=n7_;have BK277:=n8_;have HR281_0:=n9_;have HB:=n10_;clear n0_ n1_ n2_ n3_ n4_ n5_ n6_ n7_ n8_ n9_ n10_;have p287:0≤(x12_3:Int):=of_decide_eq_true xa';have q287:x12_3 < (x7_4.length:Int):=of_decide_eq_true xa';obtain ⟨ad287,e287,hx287_0⟩:=Kd.at_int (Kd.R_reads' HO_7.out).2.2 x12_3 p287 q287;obtain rfl:(⟨go31,0,none⟩:Addr)=ad287:=(by injection e287)
                         (first|simp only[add_plain] at hx287_0|simp only[add_at] at hx287_0|simp only[Addr.add,Nat.zero_add] at hx287_0|skip)
                         replace p287:=eq_true p287;replace q287:=eq_true q287;refine start_ (n:=10) (S:=fun w'=>w'.cell? ⟨gb247,0,none⟩=some (.slice A0_0 l0_0.length c0_0)∧w'.cell? ⟨gb247,1,none⟩=some (.slice A0_1 l0_1.length c0_1)∧w'.cell? ⟨gb247,2,none⟩=some (.int .i64 a0_2)∧w'.cell? ⟨go31,(x12_3).toNat,none⟩=some (.int .i64 (rd x7_4 x12_3))) (ds:=[]) #[false,false,false,false,false,false,false,false,false,false] xk' rfl rfl ⟨(blk_cell BK247.out 0).trans rfl,(blk_cell BK247.out 1).trans rfl,(blk_cell BK247.out 2).trans rfl,hx287_0⟩ (fun hHeld=>?_);refine with_tabW spec_loFar.tab27 spec_loFar.bits27 (fun HT_ HW_=>?_);generalize w89.drew=w90 at HO_7 HO_8 HO_9 HO_93 HO_278000 HL281_0 HO284 BK247 BK277 HR281_0 HB hx287_0 hHeld ⊢
                         refine pure_ (i:=0) (N:=some 103) (v:=?_) (a':=?_) #[true,false,false,false,false,false,false,false,false,false] rfl rfl (any_of HT_.out xk') (fun _ _ _ h=>h) (Or.inl ⟨by rfl,?_⟩) ?_ ?_
                         rotate_left
                         ·
                          intro w';go_simp;with_reducible rfl
                         rotate_left
                         ·
                          simp only[Act.put,sa',sb',sc',i64_w,i32_w];rfl
                         refine pure_ (i:=1) (N:=some 104) (v:=?_) (a':=?_) #[true,true,false,false,false,false,false,false,false,false] rfl rfl (any_of HT_.out xk') (fun _ _ _ h=>h) (Or.inl ⟨by rfl,?_⟩) ?_ ?_
                         rotate_left
                         ·
                          intro w';go_simp;with_reducible rfl
                         rotate_left
                         ·
                          simp only[Act.put,sa',sb',sc',i64_w,i32_w];rfl
                         refine pure_ (i:=2) (N:=some 105) (v:=?_) (a':=?_) #[true,true,true,false,false,false,false,false,false,false] rfl rfl (any_of HT_.out xk') (fun _ _ _ h=>h) (Or.inl ⟨by rfl,?_⟩) ?_ ?_
                         rotate_left
                         ·
                          intro w';go_simp;with_reducible rfl
                         rotate_left
                         ·
                          simp only[Act.put,sa',sb',sc',i64_w,i32_w];rfl
                         refine pure_ (i:=5) (N:=some 108) (v:=?_) (a':=?_) #[true,true,true,false,false,true,false,false,false,false] rfl rfl (any_of HT_.out xk') (fun _ _ _ h=>h) (Or.inl ⟨by rfl,?_⟩) ?_ ?_
                         rotate_left
                         ·
                          intro w';go_simp;with_reducible rfl
                         rotate_left
                         ·
                          simp only[Act.put,sa',sb',sc',i64_w,i32_w];rfl
                         refine pure_ (i:=6) (N:=some 109) (v:=?_) (a':=?_) #[true,true,true,false,false,true,true,false,false,false] rfl rfl (any_of HT_.out xk') (fun _ _ _ h=>h) (Or.inl ⟨by rfl,?_⟩) ?_ ?_
                         rotate_left
                         ·
                          intro w';go_simp;with_reducible rfl
                         rotate_left
                         ·
                          simp only[Act.put,sa',sb',sc',i64_w,i32_w];rfl
                         refine take_ (i:=3) (N:=some 106) (v:=?_) (a':=?_) #[true,true,true,true,false,true,true,false,false,false] rfl rfl (take_ofW HT_.out HW_.out xk') (fun _ _ _ h=>h) (Or.inl ⟨by rfl,?_⟩) hHeld ?_ ?_
                         rotate_left
                         ·
                          rintro w' ⟨s0,s1,s2,s3⟩
                          go_simp;with_reducible rfl
                         rotate_left
                         ·
                          simp only[Act.put,sa',sb',sc',i64_w,i32_w];rfl
                         refine take_ (i:=4) (N:=some 107) (v:=?_) (a':=?_) #[true,true,true,true,true,true,true,false,false,false] rfl rfl (take_ofW HT_.out HW_.out xk') (fun _ _ _ h=>h) (Or.inl ⟨by rfl,?_⟩) hHeld ?_ ?_
                         rotate_left
                         ·
                          rintro w' ⟨s0,s1,s2,s3⟩
                          go_simp;with_reducible rfl
                         rotate_left
                         ·
                          simp only[Act.put,sa',sb',sc',i64_w,i32_w];rfl
                         refine one_ (i:=7) (N:=some 110) #[true,true,true,true,true,true,true,true,false,false] rfl rfl (one_of HT_.out xk') (by decide) (fun K hK=>?_);refine goes_ Try.func106 xk' rfl #[.agg #[.slice A0_0 l0_0.length c0_0, .slice A0_1 l0_1.length c0_1, .int .i64 a0_2], .slice A281_0 (rd_L2 t278 x95_4).length c281_0, .bool a1] (by rfl) rfl rfl xl' ?_
                         with_reducible refine (spec_loCost.calls k4 _ _ l0_0 _ _ l0_1 a0_2 _ _ (rd_L2 t278 x95_4) a1 t288 _ ?side1 ?side2 ?side3 ?side4 ?side5 ?side6 A83.out).mono ?_
                         (case side1=>repeat (first|exact (Kd.C_below HR0_0.out HB.out)|(with_reducible refine ca' ?_ _)|(with_reducible refine cn' ?_ _)|(with_reducible refine cd' ?_)))
                         (case side2=>exact HC0_0.out)
                         (case side3=>repeat (first|exact (Kd.C_below HR0_1.out HB.out)|(with_reducible refine ca' ?_ _)|(with_reducible refine cn' ?_ _)|(with_reducible refine cd' ?_)))
                         (case side4=>exact HC0_1.out)
                         (case side5=>repeat (first|exact (by repeat (first|(with_reducible exact HR281_0.out)|(with_reducible refine ca' ?_ _)|(with_reducible refine cn' ?_ _)|(with_reducible refine cd' ?_)|exact HR281_0.out))|(with_reducible refine ca' ?_ _)|(with_reducible refine cn' ?_ _)|(with_reducible refine cd' ?_)))
                         (case side6=>exact HC281_0.out)
                         rintro e w91 ⟨rfl,hb⟩
                         have HS3_:=(hb.cell (bl' _ _ (hHeld.2.2.2))).trans (hHeld.2.2.2);refine ⟨_,rfl,?_⟩;have n0_:=am' (Kd.R_below (kr' HO_7.out) hb);have n1_:=am' (Kd.R_below (kr' HO_8.out) hb);have n2_:=am' (Kd.R_below (kr' HO_9.out) hb);have n3_:=am' (Kd.N_below (by (with_reducible repeat (first|apply Kd.N_alloc|apply Kd.N_drewN|apply Kd.N_drew));exact HO_93.out) hb);have n4_:=am' (Kd.R_below (kr' HO_278000.out) hb);have n5_:=am' (Kd.V_below (by (with_reducible repeat (first|apply Kd.V_alloc|apply Kd.V_drewN|apply Kd.V_drew));exact HL281_0.out) hb);have n6_:=am' (Kd.R_below (kr' HO284.out) hb);have n7_:=am' (blk_below (g:=gb247) (o := .cells #[.slice A0_0 l0_0.length c0_0, .slice A0_1 l0_1.length c0_1, .int .i64 a0_2] 29 (0,0)) (kk' BK247.out) hb);have n8_:=am' (blk_below (g:=gb277) (o := .cells #[.slice Ao70 t273.length co70, .bool t276] 38 (0,0)) (kk' BK277.out) hb);have n9_:=am' (Kd.C_below (by repeat (first|(with_reducible exact HR281_0.out)|(with_reducible refine ca' ?_ _)|(with_reducible refine cn' ?_ _)|(with_reducible refine cd' ?_)|exact HR281_0.out)) hb);have n10_:=am' (below_step (by repeat (first|(with_reducible first|exact HB.out|apply ba'|apply bd'|apply be'|refine bs' ?_ GE247.out|refine bs' ?_ GE277.out)|exact HB.out)) hb);clear HO_7;clear HO_8;clear HO_9;clear HO_93;clear HO_278000;clear HL281_0;clear HO284;clear BK247;clear BK277;clear HR281_0;clear HB;have HO_7:=n0_;have HO_8:=n1_;have HO_9:=n2_;have HO_93:=n3_;have HO_278000:=n4_;have HL281_0:=n5_;have HO284:=n6_;have BK247:=n7_;have BK277:=n8_;have HR281_0:=n9_;have HB:=n10_;clear n0_ n1_ n2_ n3_ n4_ n5_ n6_ n7_ n8_ n9_ n10_
                         (try clear hb)
                         (try clear hb2)
                         (try clear hk)
                         (try clear hi)
                         refine hK.out _ _ ⟨(blk_cell BK247.out 0).trans rfl,(blk_cell BK247.out 1).trans rfl,(blk_cell BK247.out 2).trans rfl,HS3_⟩ (fun hHeld=>?_);clear hK K;refine norm_ (a':=?_) ?_ ?_
                         rotate_left
                         ·
                          show Act.put _ (some 110) _=_
                          simp only[Act.put,sa',sb',sc',i64_w,i32_w];rfl
                         refine pure_ (i:=8) (N:=some 111) (v:=?_) (a':=?_) #[true,true,true,true,true,true,true,true,true,false] rfl rfl (any_of HT_.out xk') (fun _ _ _ h=>h) (Or.inl ⟨by rfl,?_⟩) ?_ ?_
                         rotate_left
                         ·
                          intro w';go_simp;with_reducible rfl
                         rotate_left
                         ·
                          simp only[Act.put,sa',sb',sc',i64_w,i32_w];rfl
                         refine pure_ (i:=9) (N:=some 19) (v:=?_) (a':=?_) #[true,true,true,true,true,true,true,true,true,true] rfl rfl (any_of HT_.out xk') (fun _ _ _ h=>h) (Or.inl ⟨by rfl,?_⟩) ?_ ?_
                         rotate_left
                         ·
                          intro w';go_simp;with_reducible rfl
                         rotate_left
                         ·
                          simp only[Act.put,sa',sb',sc',i64_w,i32_w];rfl
                         refine done_ (done_of HT_.out xk') ?_
                         go_upto_region 28 with (fail)
                         go_cut [124] (fun v124 wc=>∃ (kq:Nat) (x124_83:Bool),v124 = .bool x124_83∧Aside0 (spec_loFar.j4 kq a1 (l0_0.length:Int) x7_4 x8_4 y272 x12_3 t286 (wrap64 ((rd x7_4 x12_3)+t288)) t278 (t278.length:Int) x95_4 x124_83 l0_0 l0_1 a0_2 t273 t276=some (r1,r2))∧Aside0 (kq≤k4)∧Aside0 (Kd.R (Kd.int .i64) 3 wc w.heap.size (fun k_=>some k_≠((.slice (some ⟨go33,0,none⟩) x8_4.length co33):Value).ownBlock) (.slice (some ⟨go31,0,none⟩) x7_4.length co19) x7_4)∧Aside0 (Kd.R (Kd.int .i64) 3 wc w.heap.size (fun k_=>some k_≠((.slice (some ⟨go31,0,none⟩) x7_4.length co19):Value).ownBlock) (.slice (some ⟨go33,0,none⟩) x8_4.length co33) x8_4)∧Aside0 (Kd.R Kd.bool 4 wc w.heap.size (fun k_=>some k_≠((.slice Ao70 t273.length co70):Value).ownBlock) (.slice (some ⟨go63,0,none⟩) y272.length co63) y272)∧Aside0 (Kd.N (Kd.slice 3 (Kd.int .i64)) 22 wc w.heap.size (fun k_=>some k_≠((.slice (some ⟨go31,0,none⟩) x7_4.length co19):Value).ownBlock∧some k_≠((.slice (some ⟨go33,0,none⟩) x8_4.length co33):Value).ownBlock∧some k_≠((.slice (some ⟨go63,0,none⟩) y272.length co63):Value).ownBlock∧some k_≠((.slice Ao70 t273.length co70):Value).ownBlock∧k_≠gb247∧k_≠gb277) (.slice (some ad281) t278.length co75) t278)∧Aside0 (Kd.R Kd.bool 4 wc w.heap.size (fun k_=>some k_≠((.slice (some ⟨go63,0,none⟩) y272.length co63):Value).ownBlock) (.slice Ao70 t273.length co70) t273)∧Aside0 (wc.heap[gb247]? = some (.cells #[(.slice A0_0 l0_0.length c0_0),(.slice A0_1 l0_1.length c0_1), .int .i64 a0_2] 29 (0,0)))∧Aside0 (wc.heap[gb277]? = some (.cells #[(.slice Ao70 t273.length co70), .bool t276] 38 (0,0)))∧Aside0 (Kd.C (Kd.int .i64) wc A281_0 (rd_L2 t278 x95_4).length (rd_L2 t278 x95_4))∧Aside0 (Below w.heap.size w wc))
                         case first =>
                          have H:=HC84.out;clear HC84;by_cases c92:0≤t286
                          ·
                           rw[if_pos c92] at H;have c92b0:decide (0≤t286)=true:=decide_eq_true c92;clear c92;(first|rw[c92b0]|(simp only[i64_w,i32_w];rw[c92b0])|skip)
                           by_cases c93:t286 < (x7_4.length:Int)
                           ·
                            rw[if_pos c93] at H;have c93b0:decide (t286 < (x7_4.length:Int))=true:=decide_eq_true c93;clear c93;by_cases c94:(rd x7_4 t286) < 0
                            ·
                             rw[if_pos c94] at H;have c94b0:decide ((rd x7_4 t286) < 0)=true:=decide_eq_true c94;clear c94;have H':=am' H;clear H;have p289:0≤(t286:Int):=of_decide_eq_true xa';have q289:t286 < (x7_4.length:Int):=of_decide_eq_true xa';obtain ⟨ad289,e289,hx289_0⟩:=Kd.at_int (Kd.R_reads' HO_7.out).2.2 t286 p289 q289;obtain rfl:(⟨go31,0,none⟩:Addr)=ad289:=(by injection e289)
                             (first|simp only[add_plain] at hx289_0|simp only[add_at] at hx289_0|simp only[Addr.add,Nat.zero_add] at hx289_0|skip)
                             replace p289:=eq_true p289;replace q289:=eq_true q289;go_wp2;go_meet
                             case rel=>exact ⟨_,(true),xs',H',⟨by have:=HK1.out;have:=HK2.out;have:=HK3.out;have:=HK4.out;first|omega|exact Nat.le_refl _⟩,⟨by (try simp only[hl7_1]);(try simp only[hl7_2]);(try simp only[hl8_2]);(try simp only[hl7_4]);(try simp only[hl8_4]);(try simp only[hl9_4]);(with_reducible repeat (first|apply ra'|apply rn'|apply rw'));exact HO_7.out⟩,⟨by (try simp only[hl7_1]);(try simp only[hl7_2]);(try simp only[hl8_2]);(try simp only[hl7_4]);(try simp only[hl8_4]);(try simp only[hl9_4]);(with_reducible repeat (first|apply ra'|apply rn'|apply rw'));exact HO_8.out⟩,⟨by (try simp only[hl7_1]);(try simp only[hl7_2]);(try simp only[hl8_2]);(try simp only[hl7_4]);(try simp only[hl8_4]);(try simp only[hl9_4]);(with_reducible repeat (first|apply ra'|apply rn'|apply rw'));exact Kd.R_mono HO_9.out (fun _ hk=>hk.1)⟩,⟨by (try simp only[hl7_1]);(try simp only[hl7_2]);(try simp only[hl8_2]);(try simp only[hl7_4]);(try simp only[hl8_4]);(try simp only[hl9_4]);(with_reducible repeat (first|apply Kd.N_alloc|apply Kd.N_drewN|apply Kd.N_drew));exact Kd.N_mono HO_93.out (fun _ hk=>⟨hk.1.1,⟨hk.1.2.1,⟨hk.1.2.2.1,⟨hk.1.2.2.2.1,⟨hk.1.2.2.2.2.1,hk.1.2.2.2.2.2⟩⟩⟩⟩⟩)⟩,⟨by (try simp only[hl7_1]);(try simp only[hl7_2]);(try simp only[hl8_2]);(try simp only[hl7_4]);(try simp only[hl8_4]);(try simp only[hl9_4]);(with_reducible repeat (first|apply ra'|apply rn'|apply rw'));exact Kd.R_mono HO_278000.out (fun _ hk=>hk.1)⟩,⟨by (try simp only[hl7_1]);(try simp only[hl7_2]);(try simp only[hl8_2]);(try simp only[hl7_4]);(try simp only[hl8_4]);(try simp only[hl9_4]);(with_reducible repeat (first|refine kn' ?_ _|refine kd' ?_|refine ka' ?_ _));exact BK247.out⟩,⟨by (try simp only[hl7_1]);(try simp only[hl7_2]);(try simp only[hl8_2]);(try simp only[hl7_4]);(try simp only[hl8_4]);(try simp only[hl9_4]);(with_reducible repeat (first|refine kn' ?_ _|refine kd' ?_|refine ka' ?_ _));exact BK277.out⟩,⟨by repeat (first|(with_reducible exact HR281_0.out)|(with_reducible refine ca' ?_ _)|(with_reducible refine cn' ?_ _)|(with_reducible refine cd' ?_)|exact HR281_0.out)⟩,⟨by repeat (first|(with_reducible first|exact HB.out|apply ba'|apply bd'|apply be'|refine bs' ?_ GE247.out|refine bs' ?_ GE277.out)|exact HB.out)⟩⟩
                            ·
                             rw[if_neg c94] at H;have c94b0:decide ((rd x7_4 t286) < 0)=false:=decide_eq_false c94;clear c94;have H':=am' H;clear H;have p289:0≤(t286:Int):=of_decide_eq_true xa';have q289:t286 < (x7_4.length:Int):=of_decide_eq_true xa';obtain ⟨ad289,e289,hx289_0⟩:=Kd.at_int (Kd.R_reads' HO_7.out).2.2 t286 p289 q289;obtain rfl:(⟨go31,0,none⟩:Addr)=ad289:=(by injection e289)
                             (first|simp only[add_plain] at hx289_0|simp only[add_at] at hx289_0|simp only[Addr.add,Nat.zero_add] at hx289_0|skip)
                             replace p289:=eq_true p289;replace q289:=eq_true q289;have p290:0≤(t286:Int):=of_decide_eq_true xa';have q290:t286 < (x7_4.length:Int):=of_decide_eq_true xa';obtain ⟨ad290,e290,hx290_0⟩:=Kd.at_int (Kd.R_reads' HO_7.out).2.2 t286 p290 q290;obtain rfl:(⟨go31,0,none⟩:Addr)=ad290:=(by injection e290)
                             (first|simp only[add_plain] at hx290_0|simp only[add_at] at hx290_0|simp only[Addr.add,Nat.zero_add] at hx290_0|skip)
                             replace p290:=eq_true p290;replace q290:=eq_true q290;go_wp2;go_meet
                             case rel=>exact ⟨_,(decide ((wrap64 ((rd x7_4 x12_3)+t288)) < (rd x7_4 t286))),xs',H',⟨by have:=HK1.out;have:=HK2.out;have:=HK3.out;have:=HK4.out;first|omega|exact Nat.le_refl _⟩,⟨by (try simp only[hl7_1]);(try simp only[hl7_2]);(try simp only[hl8_2]);(try simp only[hl7_4]);(try simp only[hl8_4]);(try simp only[hl9_4]);(with_reducible repeat (first|apply ra'|apply rn'|apply rw'));exact HO_7.out⟩,⟨by (try simp only[hl7_1]);(try simp only[hl7_2]);(try simp only[hl8_2]);(try simp only[hl7_4]);(try simp only[hl8_4]);(try simp only[hl9_4]);(with_reducible repeat (first|apply ra'|apply rn'|apply rw'));exact HO_8.out⟩,⟨by (try simp only[hl7_1]);(try simp only[hl7_2]);(try simp only[hl8_2]);(try simp only[hl7_4]);(try simp only[hl8_4]);(try simp only[hl9_4]);(with_reducible repeat (first|apply ra'|apply rn'|apply rw'));exact Kd.R_mono HO_9.out (fun _ hk=>hk.1)⟩,⟨by (try simp only[hl7_1]);(try simp only[hl7_2]);(try simp only[hl8_2]);(try simp only[hl7_4]);(try simp only[hl8_4]);(try simp only[hl9_4]);(with_reducible repeat (first|apply Kd.N_alloc|apply Kd.N_drewN|apply Kd.N_drew));exact Kd.N_mono HO_93.out (fun _ hk=>⟨hk.1.1,⟨hk.1.2.1,⟨hk.1.2.2.1,⟨hk.1.2.2.2.1,⟨hk.1.2.2.2.2.1,hk.1.2.2.2.2.2⟩⟩⟩⟩⟩)⟩,⟨by (try simp only[hl7_1]);(try simp only[hl7_2]);(try simp only[hl8_2]);(try simp only[hl7_4]);(try simp only[hl8_4]);(try simp only[hl9_4]);(with_reducible repeat (first|apply ra'|apply rn'|apply rw'));exact Kd.R_mono HO_278000.out (fun _ hk=>hk.1)⟩,⟨by (try simp only[hl7_1]);(try simp only[hl7_2]);(try simp only[hl8_2]);(try simp only[hl7_4]);(try simp only[hl8_4]);(try simp only[hl9_4]);(with_reducible repeat (first|refine kn' ?_ _|refine kd' ?_|refine ka' ?_ _));exact BK247.out⟩,⟨by (try simp only[hl7_1]);(try simp only[hl7_2]);(try simp only[hl8_2]);(try simp only[hl7_4]);(try simp only[hl8_4]);(try simp only[hl9_4]);(with_reducible repeat (first|refine kn' ?_ _|refine kd' ?_|refine ka' ?_ _));exact BK277.out⟩,⟨by repeat (first|(with_reducible exact HR281_0.out)|(with_reducible refine ca' ?_ _)|(with_reducible refine cn' ?_ _)|(with_reducible refine cd' ?_)|exact HR281_0.out)⟩,⟨by repeat (first|(with_reducible first|exact HB.out|apply ba'|apply bd'|apply be'|refine bs' ?_ GE247.out|refine bs' ?_ GE277.out)|exact HB.out)⟩⟩
                           ·
                            rw[if_neg c93] at H;exact absurd H (by simp)
                          ·
                           rw[if_neg c92] at H;exact absurd H (by simp)
                         case rest =>
                          clear HC84;try clear c1
                          try clear c2
                          try clear p2
                          try clear q2
                          try clear hx2
                          try clear hf2
                          try clear c3
                          try clear p3
                          try clear q3
                          try clear hx3
                          try clear hf3
                          try clear c4
                          try clear c4b0
                          try clear c4b1
                          try clear q4
                          try clear c5
                          try clear c5b0
                          try clear c5b1
                          try clear c6
                          try clear c6b0
                          try clear p6
                          try clear q6
                          try clear hx6
                          try clear hf6
                          try clear c7
                          try clear c7b0
                          try clear c8
                          try clear c8b0
                          try clear c8b1
                          try clear c9
                          try clear c10
                          try clear c20
                          try clear c20b0
                          try clear c21
                          try clear c21b0
                          try clear c22
                          try clear c22b0
                          try clear p23
                          try clear q23
                          try clear hx23
                          try clear hf23
                          try clear p26
                          try clear q26
                          try clear hx26
                          try clear p27
                          try clear q27
                          try clear hx27
                          try clear c28
                          try clear p28
                          try clear q28
                          try clear hx28
                          try clear c29
                          try clear c29b0
                          try clear p29
                          try clear q29
                          try clear hx29
                          try clear c30
                          try clear c30b0
                          try clear p31
                          try clear q31
                          try clear hx31
                          try clear hf31
                          try clear c32
                          try clear c32b0
                          try clear p33
                          try clear q33
                          try clear hx33
                          try clear hf33
                          try clear c44
                          try clear c44b0
                          try clear c45
                          try clear c45b0
                          try clear c46
                          try clear c46b0
                          try clear c47
                          try clear c47b0
                          try clear q48
                          try clear c49
                          try clear c51
                          try clear c51b0
                          try clear c52
                          try clear c52b0
                          try clear c54
                          try clear c54b0
                          try clear c55
                          try clear c55b0
                          try clear c56
                          try clear c56b0
                          try clear c60
                          try clear c60b0
                          try clear c61
                          try clear c61b0
                          try clear c62
                          try clear c62b0
                          try clear p63
                          try clear q63
                          try clear hx63
                          try clear hf63
                          try clear p64
                          try clear c67
                          try clear c69
                          try clear c71
                          try clear c73
                          try clear c76
                          try clear c76b0
                          try clear c77
                          try clear c77b0
                          try clear c78
                          try clear c78b0
                          try clear c81
                          try clear c81b0
                          try clear c82
                          try clear c82b0
                          try clear c85
                          try clear c92
                          try clear c92b0
                          try clear c93
                          try clear c93b0
                          try clear c94
                          try clear c94b0
                          try clear hcz10_0
                          try clear hcz10_1
                          try clear hcz10_2
                          try clear hcz34_0
                          try clear hcz34_1
                          try clear hcz34_2
                          try clear hcz72_0
                          try clear hcz72_1
                          try clear hcz73_0
                          try clear hcz73_1
                          try clear hcz73_2
                          try clear hcz86_0
                          try clear hcz86_1
                          try clear hfz10_0
                          try clear hfz10_1
                          try clear hfz10_2
                          try clear hfz34_0
                          try clear hfz34_1
                          try clear hfz34_2
                          try clear hfz72_0
                          try clear hfz72_1
                          try clear hfz73_0
                          try clear hfz73_1
                          try clear hfz73_2
                          try clear hfz86_0
                          try clear hfz86_1
                          try clear hx23_0
                          try clear hx269_0
                          try clear hx270_0
                          try clear hx271_0
                          try clear hx281_0
                          try clear hx287_0
                          try clear hx289_0
                          try clear hx290_0
                          try clear hx31_0
                          try clear hx33_0
                          try clear hx63_0
                          try clear p2
                          try clear p23
                          try clear p26
                          try clear p269
                          try clear p27
                          try clear p270
                          try clear p271
                          try clear p281
                          try clear p287
                          try clear p289
                          try clear p290
                          try clear p3
                          try clear p31
                          try clear p33
                          try clear p6
                          try clear p63
                          try clear p64
                          try clear q2
                          try clear q23
                          try clear q26
                          try clear q269
                          try clear q27
                          try clear q270
                          try clear q271
                          try clear q281
                          try clear q287
                          try clear q289
                          try clear q290
                          try clear q3
                          try clear q31
                          try clear q33
                          try clear q4
                          try clear q48
                          try clear q6
                          try clear q63
                          obtain ⟨kq,x124_83,rfl,HA,HJ83,HO_7,HO_8,HO_9,HO_93,HO_278000,BK247,BK277,HR281_0,HB⟩:=hcut;cases kq with
                          | zero=>exact absurd HA.out (by simp[spec_loFar.j4])
                          | succ kj83 =>
                           have H:=HA.out;clear HA;simp only[spec_loFar.j4] at H;by_cases c95:x124_83=true
                           ·
                            subst c95;have H1:(if 0≤t286 then (if t286 < (x7_4.length:Int) then ((some (x7_4.set (t286:Int).toNat (wrap64 ((rd x7_4 x12_3)+t288)):List Int)).bind fun y291=>(if t286 < (x8_4.length:Int) then ((some (x8_4.set (t286:Int).toNat 0:List Int)).bind fun y292=>(if (wrap64 ((rd x7_4 x12_3)+t288))=(rd y291 t286) then (if 0≤x12_3 then (if x12_3 < (x8_4.length:Int) then (spec_loFar.l3 kj83 a1 (l0_0.length:Int) y291 (y292.set (t286:Int).toNat (wrap64 ((rd y292 t286)+(rd y292 x12_3)))) y272 x12_3 t278 (t278.length:Int) (wrap64 (x95_4+1)) l0_0 l0_1 a0_2 t273 t276) else (none)) else (none)) else (spec_loFar.l3 kj83 a1 (l0_0.length:Int) y291 y292 y272 x12_3 t278 (t278.length:Int) (wrap64 (x95_4+1)) l0_0 l0_1 a0_2 t273 t276))) else (none))) else (none)) else (none))=some (r1,r2):=by rw[if_pos rfl] at H;exact H
                            clear H;have H:=H1;clear H1;by_cases c96:0≤t286
                            ·
                             rw[if_pos c96] at H;have c96b0:decide (0≤t286)=true:=decide_eq_true c96;clear c96;by_cases c97:t286 < (x7_4.length:Int)
                             ·
                              rw[if_pos c97] at H;have c97b0:decide (t286 < (x7_4.length:Int))=true:=decide_eq_true c97;clear c97;obtain ⟨y291,hy291⟩:∃ y_:List Int,y_=(x7_4.set (t286:Int).toNat (wrap64 ((rd x7_4 x12_3)+t288))):=⟨_,rfl⟩
                              replace H:(if t286 < (x8_4.length:Int) then ((some (x8_4.set (t286:Int).toNat 0:List Int)).bind fun y292=>(if (wrap64 ((rd x7_4 x12_3)+t288))=(rd y291 t286) then (if 0≤x12_3 then (if x12_3 < (x8_4.length:Int) then (spec_loFar.l3 kj83 a1 (l0_0.length:Int) y291 (y292.set (t286:Int).toNat (wrap64 ((rd y292 t286)+(rd y292 x12_3)))) y272 x12_3 t278 (t278.length:Int) (wrap64 (x95_4+1)) l0_0 l0_1 a0_2 t273 t276) else (none)) else (none)) else (spec_loFar.l3 kj83 a1 (l0_0.length:Int) y291 y292 y272 x12_3 t278 (t278.length:Int) (wrap64 (x95_4+1)) l0_0 l0_1 a0_2 t273 t276))) else (none))=some (r1,r2):=by first|(rw[hy291];with_reducible exact H)|(have H2_:=(Option.bind_some _ _).symm.trans H;rw[hy291];with_reducible exact H2_)|(have H2_:=(Option.bind_some _ _).symm.trans H;with_reducible exact H2_)|with_reducible exact H|(rw[hy291];exact H)|exact H
                              have Ny291:=am' hy291;clear hy291;by_cases c99:t286 < (x8_4.length:Int)
                              ·
                               rw[if_pos c99] at H;have c99b0:decide (t286 < (x8_4.length:Int))=true:=decide_eq_true c99;clear c99;obtain ⟨y292,hy292⟩:∃ y_:List Int,y_=(x8_4.set (t286:Int).toNat 0):=⟨_,rfl⟩
                               replace H:(if (wrap64 ((rd x7_4 x12_3)+t288))=(rd y291 t286) then (if 0≤x12_3 then (if x12_3 < (x8_4.length:Int) then (spec_loFar.l3 kj83 a1 (l0_0.length:Int) y291 (y292.set (t286:Int).toNat (wrap64 ((rd y292 t286)+(rd y292 x12_3)))) y272 x12_3 t278 (t278.length:Int) (wrap64 (x95_4+1)) l0_0 l0_1 a0_2 t273 t276) else (none)) else (none)) else (spec_loFar.l3 kj83 a1 (l0_0.length:Int) y291 y292 y272 x12_3 t278 (t278.length:Int) (wrap64 (x95_4+1)) l0_0 l0_1 a0_2 t273 t276))=some (r1,r2):=by first|(rw[hy292];with_reducible exact H)|(have H2_:=(Option.bind_some _ _).symm.trans H;rw[hy292];with_reducible exact H2_)|(have H2_:=(Option.bind_some _ _).symm.trans H;with_reducible exact H2_)|with_reducible exact H|(rw[hy292];exact H)|exact H
                               have Ny292:=am' hy292;clear hy292;by_cases c101:(wrap64 ((rd x7_4 x12_3)+t288))=(rd y291 t286)
                               ·
                                rw[if_pos c101] at H;have c101b0:((wrap64 ((rd x7_4 x12_3)+t288)) == (rd y291 t286))=true:=beq_iff_eq.mpr c101;have c101b1:((wrap64 ((rd x7_4 x12_3)+t288)) != (rd y291 t286))=false:=bne_eq_false_iff_eq.mpr c101;clear c101;by_cases c102:0≤x12_3
                                ·
                                 rw[if_pos c102] at H;have c102b0:decide (0≤x12_3)=true:=decide_eq_true c102;clear c102;by_cases c103:x12_3 < (x8_4.length:Int)
                                 ·
                                  rw[if_pos c103] at H;have c103b0:decide (x12_3 < (x8_4.length:Int))=true:=decide_eq_true c103;clear c103;obtain ⟨y296,hy296⟩:∃ y_:List Int,y_=(y292.set (t286:Int).toNat (wrap64 ((rd y292 t286)+(rd y292 x12_3)))):=⟨_,rfl⟩
                                  replace H:(spec_loFar.l3 kj83 a1 (l0_0.length:Int) y291 y296 y272 x12_3 t278 (t278.length:Int) (wrap64 (x95_4+1)) l0_0 l0_1 a0_2 t273 t276)=some (r1,r2):=by first|(rw[hy296];with_reducible exact H)|(have H2_:=(Option.bind_some _ _).symm.trans H;rw[hy296];with_reducible exact H2_)|(have H2_:=(Option.bind_some _ _).symm.trans H;with_reducible exact H2_)|with_reducible exact H|(rw[hy296];exact H)|exact H
                                  have Ny296:=am' hy296;clear hy296;have H':=am' H;clear H;have p98:0≤(t286:Int):=of_decide_eq_true xa';have q98:(t286:Int) < ((x7_4.length:Int):Int):=of_decide_eq_true xa';obtain ⟨hx98_0,hf98_0⟩:=Kd.R_celln 0 HO_7.out (t286:Int) p98 q98;replace p98:=eq_true p98;replace q98:=eq_true q98;have HP105:=Kd.R_putg HO_7.out (t286:Int) (wrap64 ((rd x7_4 x12_3)+t288))
                                  try go_wp2_with (first|((with_reducible refine gate_store (t:=3) (p:=128) rfl ?_);refine store_event (t:=3) (p:=128) (v:=?vo_w106) (w1:=(wc.setCell ⟨go31,(t286:Int).toNat,none⟩ (.int .i64 (wrap64 ((rd x7_4 x12_3)+t288))))) ?hg ?ho ?hn ?hr ?_;(case ho=>rfl);(case hg=>rfl);(case hn=>rfl);(case hr=>first|(go_simp;done)|(go_simp;rfl));intro w106 hw;have hg:wc.grownBy w106 (some go31):=(by rw[hw];exact HP105.2);have hp_:Kd.R (Kd.int .i64) 3 w106 w.heap.size (fun k_=>some k_≠(.slice (some ⟨go33,0,none⟩) x8_4.length co33:Value).ownBlock) (.slice (some ⟨go31,0,none⟩) x7_4.length co19) y291:=(by rw[hw,Ny291.out];exact HP105.1);clear HP105;have n0_:=am' (hp_);have n1_:=am' (Kd.R_after (v:=(.slice (some ⟨go31,0,none⟩) x7_4.length co19)) (v1:=(.slice (some ⟨go31,0,none⟩) x7_4.length co19)) (ok:=(fun _=>True)) (by (with_reducible repeat (first|apply ra'|apply rn'|apply rw'));exact Kd.R_mono HO_8.out (fun _ hk=>⟨trivial,hk⟩)) hg (.inl rfl));have n2_:=am' (Kd.R_over' (v:=(.slice (some ⟨go31,0,none⟩) x7_4.length co19)) (kr' HO_9.out) (Kd.R_typed HO_7.out) (by decide) hg);have n3_:=am' (Kd.N_afterv (v:=(.slice (some ⟨go31,0,none⟩) x7_4.length co19)) (v1:=(.slice (some ⟨go31,0,none⟩) x7_4.length co19)) (ok:=(fun k_=>some k_≠(.slice (some ⟨go33,0,none⟩) x8_4.length co33:Value).ownBlock∧some k_≠(.slice (some ⟨go63,0,none⟩) y272.length co63:Value).ownBlock∧some k_≠(.slice Ao70 t273.length co70:Value).ownBlock∧k_≠gb247∧k_≠gb277)) (by (with_reducible repeat (first|apply Kd.N_alloc|apply Kd.N_drewN|apply Kd.N_drew));exact Kd.N_mono HO_93.out (fun _ hk=>⟨⟨hk.2.1,⟨hk.2.2.1,⟨hk.2.2.2.1,⟨hk.2.2.2.2.1,hk.2.2.2.2.2⟩⟩⟩⟩,hk.1⟩)) hg (.inl rfl));have n4_:=am' (Kd.R_over' (v:=(.slice (some ⟨go31,0,none⟩) x7_4.length co19)) (kr' HO_278000.out) (Kd.R_typed HO_7.out) (by decide) hg);have n5_:=am' (blk_grown (g:=gb247) (o := .cells #[.slice A0_0 l0_0.length c0_0, .slice A0_1 l0_1.length c0_1, .int .i64 a0_2] 29 (0,0)) (kk' BK247.out) hg (Kd.R_ne HO_7.out BK247.out (by decide)));have n6_:=am' (blk_grown (g:=gb277) (o := .cells #[.slice Ao70 t273.length co70, .bool t276] 38 (0,0)) (kk' BK277.out) hg (Kd.R_ne HO_7.out BK277.out (by decide)));have n7_:=am' ((by rw[hw];exact bs' (HB.out) GB31.out:Below w.heap.size w w106));clear HO_7;clear HO_8;clear HO_9;clear HO_93;clear HO_278000;clear BK247;clear BK277;clear HB;have HO_7:=n0_;have HO_8:=n1_;have HO_9:=n2_;have HO_93:=n3_;have HO_278000:=n4_;have BK247:=n5_;have BK277:=n6_;have HB:=n7_;clear n0_ n1_ n2_ n3_ n4_ n5_ n6_ n7_;clear hg hw hp_;have p100:0≤(t286:Int):=of_decide_eq_true xa';have q100:(t286:Int) < ((x8_4.length:Int):Int):=of_decide_eq_true xa';obtain ⟨hx100_0,hf100_0⟩:=Kd.R_celln 0 HO_8.out (t286:Int) p100 q100;replace p100:=eq_true p100;replace q100:=eq_true q100;have n_:=am' (Kd.R_mono (ok':=(fun k_=>some k_≠(.slice (some ⟨go31,0,none⟩) x7_4.length co19:Value).ownBlock)) HO_8.out (fun k_ hk=>hk.2));clear HO_8;have HO_8:=n_;clear n_;obtain ⟨hy107_,hz107_⟩:=Kd.R_celln 0 HO_8.out (t286:Int) (of_decide_eq_true xa') (of_decide_eq_true xa');have HP107:=Kd.R_putg HO_8.out (t286:Int) 0)|((with_reducible refine gate_store (t:=3) (p:=131) rfl ?_);refine store_event (t:=3) (p:=131) (v:=?vo_w108) (w1:=(w106.setCell ⟨go33,(t286:Int).toNat,none⟩ (.int .i64 0))) ?hg ?ho ?hn ?hr ?_;(case ho=>rfl);(case hg=>rfl);(case hn=>rfl);(case hr=>first|(go_simp;done)|(go_simp;rfl));intro w108 hw;have hg:w106.grownBy w108 (some go33):=(by rw[hw];exact HP107.2);have hp_:Kd.R (Kd.int .i64) 3 w108 w.heap.size (fun k_=>some k_≠(.slice (some ⟨go31,0,none⟩) x7_4.length co19:Value).ownBlock) (.slice (some ⟨go33,0,none⟩) x8_4.length co33) y292:=(by rw[hw,Ny292.out];exact HP107.1);clear HP107;have n0_:=am' (Kd.R_after (v:=(.slice (some ⟨go33,0,none⟩) x8_4.length co33)) (v1:=(.slice (some ⟨go33,0,none⟩) x8_4.length co33)) (ok:=(fun _=>True)) (by (with_reducible repeat (first|apply ra'|apply rn'|apply rw'));exact Kd.R_mono HO_7.out (fun _ hk=>⟨trivial,hk⟩)) hg (.inl rfl));have n1_:=am' (hp_);have n2_:=am' (Kd.R_over' (v:=(.slice (some ⟨go33,0,none⟩) x8_4.length co33)) (kr' HO_9.out) (Kd.R_typed HO_8.out) (by decide) hg);have n3_:=am' (Kd.N_afterv (v:=(.slice (some ⟨go33,0,none⟩) x8_4.length co33)) (v1:=(.slice (some ⟨go33,0,none⟩) x8_4.length co33)) (ok:=(fun k_=>some k_≠(.slice (some ⟨go31,0,none⟩) x7_4.length co19:Value).ownBlock∧some k_≠(.slice (some ⟨go63,0,none⟩) y272.length co63:Value).ownBlock∧some k_≠(.slice Ao70 t273.length co70:Value).ownBlock∧k_≠gb247∧k_≠gb277)) (by (with_reducible repeat (first|apply Kd.N_alloc|apply Kd.N_drewN|apply Kd.N_drew));exact Kd.N_mono HO_93.out (fun _ hk=>⟨⟨hk.2,⟨hk.1.2.1,⟨hk.1.2.2.1,⟨hk.1.2.2.2.1,hk.1.2.2.2.2⟩⟩⟩⟩,hk.1.1⟩)) hg (.inl rfl));have n4_:=am' (Kd.R_over' (v:=(.slice (some ⟨go33,0,none⟩) x8_4.length co33)) (kr' HO_278000.out) (Kd.R_typed HO_8.out) (by decide) hg);have n5_:=am' (blk_grown (g:=gb247) (o := .cells #[.slice A0_0 l0_0.length c0_0, .slice A0_1 l0_1.length c0_1, .int .i64 a0_2] 29 (0,0)) (kk' BK247.out) hg (Kd.R_ne HO_8.out BK247.out (by decide)));have n6_:=am' (blk_grown (g:=gb277) (o := .cells #[.slice Ao70 t273.length co70, .bool t276] 38 (0,0)) (kk' BK277.out) hg (Kd.R_ne HO_8.out BK277.out (by decide)));have n7_:=am' ((by rw[hw];exact bs' (HB.out) GB33.out:Below w.heap.size w w108));clear HO_7;clear HO_8;clear HO_9;clear HO_93;clear HO_278000;clear BK247;clear BK277;clear HB;have HO_7:=n0_;have HO_8:=n1_;have HO_9:=n2_;have HO_93:=n3_;have HO_278000:=n4_;have BK247:=n5_;have BK277:=n6_;have HB:=n7_;clear n0_ n1_ n2_ n3_ n4_ n5_ n6_ n7_;clear hg hw hp_;have p293:0≤(t286:Int):=of_decide_eq_true xa';have q293:t286 < (y291.length:Int):=(by have h_:(t286:Int) < ((x7_4.length:Int):Int):=of_decide_eq_true xa';first|(have e_:=(Kd.R_reads' HO_7.out).1;omega)|simpa only [Ny291.out,List.length_set] using h_);have ql293:((t286:Int) < ((x7_4.length:Int):Int))=True:=eq_true (of_decide_eq_true xa');obtain ⟨ad293,e293,hx293_0⟩:=Kd.at_int (Kd.R_reads' HO_7.out).2.2 t286 p293 q293;obtain rfl:(⟨go31,0,none⟩:Addr)=ad293:=(by injection e293);(first|simp only[add_plain] at hx293_0|simp only[add_at] at hx293_0|simp only[Addr.add,Nat.zero_add] at hx293_0|skip);replace p293:=eq_true p293;replace q293:=eq_true q293))
                                  have n0_:=am' (rw' HO_7.out);have n1_:=am' (rw' HO_8.out);have n2_:=am' (rw' HO_9.out);have n3_:=am' (Kd.N_drew HO_93.out);have n4_:=am' (rw' HO_278000.out);have n5_:=am' (kd' BK247.out);have n6_:=am' (kd' BK277.out);have n7_:=am' (be' HB.out);clear HO_7;clear HO_8;clear HO_9;clear HO_93;clear HO_278000;clear BK247;clear BK277;clear HB;have HO_7:=n0_;have HO_8:=n1_;have HO_9:=n2_;have HO_93:=n3_;have HO_278000:=n4_;have BK247:=n5_;have BK277:=n6_;have HB:=n7_;clear n0_ n1_ n2_ n3_ n4_ n5_ n6_ n7_;have p294:0≤(t286:Int):=of_decide_eq_true xa';have q294:t286 < (y292.length:Int):=(by have h_:(t286:Int) < ((x8_4.length:Int):Int):=of_decide_eq_true xa';first|(have e_:=(Kd.R_reads' HO_8.out).1;omega)|simpa only [Ny292.out,List.length_set] using h_)
                                  have ql294:((t286:Int) < ((x8_4.length:Int):Int))=True:=eq_true (of_decide_eq_true xa');obtain ⟨ad294,e294,hx294_0⟩:=Kd.at_int (Kd.R_reads' HO_8.out).2.2 t286 p294 q294;obtain rfl:(⟨go33,0,none⟩:Addr)=ad294:=(by injection e294)
                                  (first|simp only[add_plain] at hx294_0|simp only[add_at] at hx294_0|simp only[Addr.add,Nat.zero_add] at hx294_0|skip)
                                  replace p294:=eq_true p294;replace q294:=eq_true q294;have p295:0≤(x12_3:Int):=of_decide_eq_true xa';have q295:x12_3 < (y292.length:Int):=(by have h_:(x12_3:Int) < ((x8_4.length:Int):Int):=of_decide_eq_true xa';first|(have e_:=(Kd.R_reads' HO_8.out).1;omega)|simpa only [Ny292.out,List.length_set] using h_)
                                  have ql295:((x12_3:Int) < ((x8_4.length:Int):Int))=True:=eq_true (of_decide_eq_true xa');obtain ⟨ad295,e295,hx295_0⟩:=Kd.at_int (Kd.R_reads' HO_8.out).2.2 x12_3 p295 q295;obtain rfl:(⟨go33,0,none⟩:Addr)=ad295:=(by injection e295)
                                  (first|simp only[add_plain] at hx295_0|simp only[add_at] at hx295_0|simp only[Addr.add,Nat.zero_add] at hx295_0|skip)
                                  replace p295:=eq_true p295;replace q295:=eq_true q295;have p104:0≤(t286:Int):=of_decide_eq_true xa';have q104:(t286:Int) < ((x8_4.length:Int):Int):=of_decide_eq_true xa';obtain ⟨hx104_0,hf104_0⟩:=Kd.R_celln 0 HO_8.out (t286:Int) p104 q104;replace p104:=eq_true p104;replace q104:=eq_true q104;have HP110:=Kd.R_putn HO_8.out (t286:Int) (wrap64 ((rd y292 t286)+(rd y292 x12_3)));rw[← Ny296.out] at HP110;have HQ110:=am' HP110;clear HP110;refine start_ (n:=11) (S:=fun w'=>w'.cell? ⟨go33,(t286).toNat,none⟩=some (.int .i64 (rd y292 t286))∧w'.cell? ⟨go33,(x12_3).toNat,none⟩=some (.int .i64 (rd y292 x12_3))) (ds:=[10]) #[false,false,false,false,false,false,false,false,false,false,false] xk' rfl rfl ⟨hx294_0,hx295_0⟩ (fun hHeld=>?_);refine with_tabW spec_loFar.tab32 spec_loFar.bits32 (fun HT_ HW_=>?_);generalize w108.drew=w109 at HO_7 HO_8 HO_9 HO_93 HO_278000 BK247 BK277 HB HQ110 hf104_0 hx104_0 hx294_0 hx295_0 hHeld ⊢
                                  refine pure_ (i:=0) (N:=some 138) (v:=?_) (a':=?_) #[true,false,false,false,false,false,false,false,false,false,false] rfl rfl (any_of HT_.out xk') (fun _ _ _ h=>h) (Or.inl ⟨by rfl,?_⟩) ?_ ?_
                                  rotate_left
                                  ·
                                   intro w';go_simp;with_reducible rfl
                                  rotate_left
                                  ·
                                   simp only[Act.put,sa',sb',sc',i64_w,i32_w];rfl
                                  refine pure_ (i:=1) (N:=some 139) (v:=?_) (a':=?_) #[true,true,false,false,false,false,false,false,false,false,false] rfl rfl (any_of HT_.out xk') (fun _ _ _ h=>h) (Or.inl ⟨by rfl,?_⟩) ?_ ?_
                                  rotate_left
                                  ·
                                   intro w';go_simp;with_reducible rfl
                                  rotate_left
                                  ·
                                   simp only[Act.put,sa',sb',sc',i64_w,i32_w];rfl
                                  refine pure_ (i:=2) (N:=some 140) (v:=?_) (a':=?_) #[true,true,true,false,false,false,false,false,false,false,false] rfl rfl (any_of HT_.out xk') (fun _ _ _ h=>h) (Or.inl ⟨by rfl,?_⟩) ?_ ?_
                                  rotate_left
                                  ·
                                   intro w';go_simp;with_reducible rfl
                                  rotate_left
                                  ·
                                   simp only[Act.put,sa',sb',sc',i64_w,i32_w];rfl
                                  refine pure_ (i:=4) (N:=some 142) (v:=?_) (a':=?_) #[true,true,true,false,true,false,false,false,false,false,false] rfl rfl (any_of HT_.out xk') (fun _ _ _ h=>h) (Or.inl ⟨by rfl,?_⟩) ?_ ?_
                                  rotate_left
                                  ·
                                   intro w';go_simp;with_reducible rfl
                                  rotate_left
                                  ·
                                   simp only[Act.put,sa',sb',sc',i64_w,i32_w];rfl
                                  refine pure_ (i:=5) (N:=some 143) (v:=?_) (a':=?_) #[true,true,true,false,true,true,false,false,false,false,false] rfl rfl (any_of HT_.out xk') (fun _ _ _ h=>h) (Or.inl ⟨by rfl,?_⟩) ?_ ?_
                                  rotate_left
                                  ·
                                   intro w';go_simp;with_reducible rfl
                                  rotate_left
                                  ·
                                   simp only[Act.put,sa',sb',sc',i64_w,i32_w];rfl
                                  refine pure_ (i:=6) (N:=some 144) (v:=?_) (a':=?_) #[true,true,true,false,true,true,true,false,false,false,false] rfl rfl (any_of HT_.out xk') (fun _ _ _ h=>h) (Or.inl ⟨by rfl,?_⟩) ?_ ?_
                                  rotate_left
                                  ·
                                   intro w';go_simp;with_reducible rfl
                                  rotate_left
                                  ·
                                   simp only[Act.put,sa',sb',sc',i64_w,i32_w];rfl
                                  refine take_ (i:=3) (N:=some 141) (v:=?_) (a':=?_) #[true,true,true,true,true,true,true,false,false,false,false] rfl rfl (take_ofW HT_.out HW_.out xk') (fun _ _ _ h=>h) (Or.inl ⟨by rfl,?_⟩) hHeld ?_ ?_
                                  rotate_left
                                  ·
                                   rintro w' ⟨s0,s1⟩
                                   go_simp;with_reducible rfl
                                  rotate_left
                                  ·
                                   simp only[Act.put,sa',sb',sc',i64_w,i32_w];rfl
                                  refine take_ (i:=7) (N:=some 145) (v:=?_) (a':=?_) #[true,true,true,true,true,true,true,true,false,false,false] rfl rfl (take_ofW HT_.out HW_.out xk') (fun _ _ _ h=>h) (Or.inl ⟨by rfl,?_⟩) hHeld ?_ ?_
                                  rotate_left
                                  ·
                                   rintro w' ⟨s0,s1⟩
                                   go_simp;with_reducible rfl
                                  rotate_left
                                  ·
                                   simp only[Act.put,sa',sb',sc',i64_w,i32_w];rfl
                                  refine pure_ (i:=8) (N:=some 146) (v:=?_) (a':=?_) #[true,true,true,true,true,true,true,true,true,false,false] rfl rfl (any_of HT_.out xk') (fun _ _ _ h=>h) (Or.inl ⟨by rfl,?_⟩) ?_ ?_
                                  rotate_left
                                  ·
                                   intro w';go_simp;with_reducible rfl
                                  rotate_left
                                  ·
                                   simp only[Act.put,sa',sb',sc',i64_w,i32_w];rfl
                                  refine pure_ (i:=9) (N:=some 147) (v:=?_) (a':=?_) #[true,true,true,true,true,true,true,true,true,true,false] rfl rfl (any_of HT_.out xk') (fun _ _ _ h=>h) (Or.inl ⟨by rfl,?_⟩) ?_ ?_
                                  rotate_left
                                  ·
                                   intro w';go_simp;with_reducible rfl
                                  rotate_left
                                  ·
                                   simp only[Act.put,sa',sb',sc',i64_w,i32_w];rfl
                                  refine last_ (i:=10) (N:=none) #[true,true,true,true,true,true,true,true,true,true,true] rfl rfl (one_of HT_.out xk') (by decide) (fun K hK=>?_);refine skip_ (w1:=?_) (by rfl) rfl ?_ ?_
                                  rotate_left
                                  ·
                                   go_simp;rfl
                                  refine hK.out _ _ ?_
                                  clear hK K;refine done_ (done_of HT_.out xk') ?_
                                  try go_wp2
                                  (try simp only[← hl7_4,← hl8_4,← hl9_4])
                                  go_roundg kj83
                                  case measure=>have:=HK1.out;have:=HK2.out;have:=HK3.out;have:=HK4.out;have:=HJ83.out;omega
                                  case rel=>obtain ⟨cq_,GQ_⟩:=Kd.R_typed HO_8.out _ rfl;exact ⟨(y291),(y296),(wrap64 (x95_4+1)),xs',H',⟨by have:=HK1.out;have:=HK2.out;have:=HK3.out;have:=HK4.out;have:=HJ83.out;omega⟩,⟨by (try simp only[hl7_1]);(try simp only[hl7_2]);(try simp only[hl8_2]);(try simp only[hl7_4]);(try simp only[hl8_4]);(try simp only[hl9_4]);(with_reducible repeat (first|apply ra'|apply rn'|apply rw'));exact Kd.R_mono (Kd.R_far (p:=⟨go33,(t286:Int).toNat,none⟩) (Kd.R_mono HO_7.out (fun k_ hk=>(⟨hk,fun e_=>hk.2 (by rw[e_];rfl)⟩:_∧k_≠go33))) (fun _ hk=>hk.2) (.int .i64 (wrap64 ((rd y292 t286)+(rd y292 x12_3))))) (fun _ hk=>hk.1.2)⟩,⟨by (try simp only[hl7_1]);(try simp only[hl7_2]);(try simp only[hl8_2]);(try simp only[hl7_4]);(try simp only[hl8_4]);(try simp only[hl9_4]);(with_reducible repeat (first|apply ra'|apply rn'|apply rw'));exact HQ110.out⟩,⟨by (try simp only[hl7_1]);(try simp only[hl7_2]);(try simp only[hl8_2]);(try simp only[hl7_4]);(try simp only[hl8_4]);(try simp only[hl9_4]);(with_reducible repeat (first|apply ra'|apply rn'|apply rw'));exact Kd.R_mono (Kd.R_far (p:=⟨go33,(t286:Int).toNat,none⟩) (Kd.R_types HO_9.out GQ_ (by decide)) (fun _ hk=>hk.2) (.int .i64 (wrap64 ((rd y292 t286)+(rd y292 x12_3))))) (fun _ hk=>hk.1)⟩,⟨by (try simp only[hl7_1]);(try simp only[hl7_2]);(try simp only[hl8_2]);(try simp only[hl7_4]);(try simp only[hl8_4]);(try simp only[hl9_4]);(with_reducible repeat (first|apply Kd.N_alloc|apply Kd.N_drewN|apply Kd.N_drew));exact Kd.N_mono (Kd.N_far (p:=⟨go33,(t286:Int).toNat,none⟩) (Kd.N_mono HO_93.out (fun k_ hk=>(⟨hk,fun e_=>hk.2 (by rw[e_];rfl)⟩:_∧k_≠go33))) (fun _ hk=>hk.2) (.int .i64 (wrap64 ((rd y292 t286)+(rd y292 x12_3))))) (fun _ hk=>⟨hk.1.1.1,⟨hk.1.2,⟨hk.1.1.2.1,⟨hk.1.1.2.2.1,⟨hk.1.1.2.2.2.1,hk.1.1.2.2.2.2⟩⟩⟩⟩⟩)⟩,⟨by (try simp only[hl7_1]);(try simp only[hl7_2]);(try simp only[hl8_2]);(try simp only[hl7_4]);(try simp only[hl8_4]);(try simp only[hl9_4]);(with_reducible repeat (first|apply ra'|apply rn'|apply rw'));exact Kd.R_mono (Kd.R_far (p:=⟨go33,(t286:Int).toNat,none⟩) (Kd.R_types HO_278000.out GQ_ (by decide)) (fun _ hk=>hk.2) (.int .i64 (wrap64 ((rd y292 t286)+(rd y292 x12_3))))) (fun _ hk=>hk.1)⟩,⟨by (try simp only[hl7_1]);(try simp only[hl7_2]);(try simp only[hl8_2]);(try simp only[hl7_4]);(try simp only[hl8_4]);(try simp only[hl9_4]);(with_reducible repeat (first|refine kn' ?_ _|refine kd' ?_|refine ka' ?_ _));refine blk_far ?_ (by have h_:=Kd.R_ne HO_8.out BK247.out (by decide);intro e_;exact h_ (by rw[e_];rfl)) _;(with_reducible repeat (first|refine kn' ?_ _|refine kd' ?_|refine ka' ?_ _));exact BK247.out⟩,⟨by (try simp only[hl7_1]);(try simp only[hl7_2]);(try simp only[hl8_2]);(try simp only[hl7_4]);(try simp only[hl8_4]);(try simp only[hl9_4]);(with_reducible repeat (first|refine kn' ?_ _|refine kd' ?_|refine ka' ?_ _));refine blk_far ?_ (by have h_:=Kd.R_ne HO_8.out BK277.out (by decide);intro e_;exact h_ (by rw[e_];rfl)) _;(with_reducible repeat (first|refine kn' ?_ _|refine kd' ?_|refine ka' ?_ _));exact BK277.out⟩,⟨by repeat (first|(with_reducible first|exact HB.out|apply ba'|apply bd'|apply be'|refine bs' ?_ GB33.out|refine bs' ?_ GE247.out|refine bs' ?_ GE277.out)|exact HB.out)⟩⟩
                                 ·
                                  rw[if_neg c103] at H;exact absurd H (by simp)
                                ·
                                 rw[if_neg c102] at H;exact absurd H (by simp)
                               ·
                                rw[if_neg c101] at H;have c101b0:((wrap64 ((rd x7_4 x12_3)+t288)) == (rd y291 t286))=false:=beq_eq_false_iff_ne.mpr c101;have c101b1:((wrap64 ((rd x7_4 x12_3)+t288)) != (rd y291 t286))=true:=bne_iff_ne.mpr c101;have H':=am' H;clear H;have p98:0≤(t286:Int):=of_decide_eq_true xa';have q98:(t286:Int) < ((x7_4.length:Int):Int):=of_decide_eq_true xa';obtain ⟨hx98_0,hf98_0⟩:=Kd.R_celln 0 HO_7.out (t286:Int) p98 q98;replace p98:=eq_true p98;replace q98:=eq_true q98;have HP111:=Kd.R_putg HO_7.out (t286:Int) (wrap64 ((rd x7_4 x12_3)+t288));go_wp2_with (first|((with_reducible refine gate_store (t:=3) (p:=128) rfl ?_);refine store_event (t:=3) (p:=128) (v:=?vo_w112) (w1:=(wc.setCell ⟨go31,(t286:Int).toNat,none⟩ (.int .i64 (wrap64 ((rd x7_4 x12_3)+t288))))) ?hg ?ho ?hn ?hr ?_;(case ho=>rfl);(case hg=>rfl);(case hn=>rfl);(case hr=>first|(go_simp;done)|(go_simp;rfl));intro w112 hw;have hg:wc.grownBy w112 (some go31):=(by rw[hw];exact HP111.2);have hp_:Kd.R (Kd.int .i64) 3 w112 w.heap.size (fun k_=>some k_≠(.slice (some ⟨go33,0,none⟩) x8_4.length co33:Value).ownBlock) (.slice (some ⟨go31,0,none⟩) x7_4.length co19) y291:=(by rw[hw,Ny291.out];exact HP111.1);clear HP111;have n0_:=am' (hp_);have n1_:=am' (Kd.R_after (v:=(.slice (some ⟨go31,0,none⟩) x7_4.length co19)) (v1:=(.slice (some ⟨go31,0,none⟩) x7_4.length co19)) (ok:=(fun _=>True)) (by (with_reducible repeat (first|apply ra'|apply rn'|apply rw'));exact Kd.R_mono HO_8.out (fun _ hk=>⟨trivial,hk⟩)) hg (.inl rfl));have n2_:=am' (Kd.R_over' (v:=(.slice (some ⟨go31,0,none⟩) x7_4.length co19)) (kr' HO_9.out) (Kd.R_typed HO_7.out) (by decide) hg);have n3_:=am' (Kd.N_afterv (v:=(.slice (some ⟨go31,0,none⟩) x7_4.length co19)) (v1:=(.slice (some ⟨go31,0,none⟩) x7_4.length co19)) (ok:=(fun k_=>some k_≠(.slice (some ⟨go33,0,none⟩) x8_4.length co33:Value).ownBlock∧some k_≠(.slice (some ⟨go63,0,none⟩) y272.length co63:Value).ownBlock∧some k_≠(.slice Ao70 t273.length co70:Value).ownBlock∧k_≠gb247∧k_≠gb277)) (by (with_reducible repeat (first|apply Kd.N_alloc|apply Kd.N_drewN|apply Kd.N_drew));exact Kd.N_mono HO_93.out (fun _ hk=>⟨⟨hk.2.1,⟨hk.2.2.1,⟨hk.2.2.2.1,⟨hk.2.2.2.2.1,hk.2.2.2.2.2⟩⟩⟩⟩,hk.1⟩)) hg (.inl rfl));have n4_:=am' (Kd.R_over' (v:=(.slice (some ⟨go31,0,none⟩) x7_4.length co19)) (kr' HO_278000.out) (Kd.R_typed HO_7.out) (by decide) hg);have n5_:=am' (blk_grown (g:=gb247) (o := .cells #[.slice A0_0 l0_0.length c0_0, .slice A0_1 l0_1.length c0_1, .int .i64 a0_2] 29 (0,0)) (kk' BK247.out) hg (Kd.R_ne HO_7.out BK247.out (by decide)));have n6_:=am' (blk_grown (g:=gb277) (o := .cells #[.slice Ao70 t273.length co70, .bool t276] 38 (0,0)) (kk' BK277.out) hg (Kd.R_ne HO_7.out BK277.out (by decide)));have n7_:=am' ((by rw[hw];exact bs' (HB.out) GB31.out:Below w.heap.size w w112));clear HO_7;clear HO_8;clear HO_9;clear HO_93;clear HO_278000;clear BK247;clear BK277;clear HB;have HO_7:=n0_;have HO_8:=n1_;have HO_9:=n2_;have HO_93:=n3_;have HO_278000:=n4_;have BK247:=n5_;have BK277:=n6_;have HB:=n7_;clear n0_ n1_ n2_ n3_ n4_ n5_ n6_ n7_;clear hg hw hp_;have p100:0≤(t286:Int):=of_decide_eq_true xa';have q100:(t286:Int) < ((x8_4.length:Int):Int):=of_decide_eq_true xa';obtain ⟨hx100_0,hf100_0⟩:=Kd.R_celln 0 HO_8.out (t286:Int) p100 q100;replace p100:=eq_true p100;replace q100:=eq_true q100;have n_:=am' (Kd.R_mono (ok':=(fun k_=>some k_≠(.slice (some ⟨go31,0,none⟩) x7_4.length co19:Value).ownBlock)) HO_8.out (fun k_ hk=>hk.2));clear HO_8;have HO_8:=n_;clear n_;obtain ⟨hy113_,hz113_⟩:=Kd.R_celln 0 HO_8.out (t286:Int) (of_decide_eq_true xa') (of_decide_eq_true xa');have HP113:=Kd.R_putg HO_8.out (t286:Int) 0)|((with_reducible refine gate_store (t:=3) (p:=131) rfl ?_);refine store_event (t:=3) (p:=131) (v:=?vo_w114) (w1:=(w112.setCell ⟨go33,(t286:Int).toNat,none⟩ (.int .i64 0))) ?hg ?ho ?hn ?hr ?_;(case ho=>rfl);(case hg=>rfl);(case hn=>rfl);(case hr=>first|(go_simp;done)|(go_simp;rfl));intro w114 hw;have hg:w112.grownBy w114 (some go33):=(by rw[hw];exact HP113.2);have hp_:Kd.R (Kd.int .i64) 3 w114 w.heap.size (fun k_=>some k_≠(.slice (some ⟨go31,0,none⟩) x7_4.length co19:Value).ownBlock) (.slice (some ⟨go33,0,none⟩) x8_4.length co33) y292:=(by rw[hw,Ny292.out];exact HP113.1);clear HP113;have n0_:=am' (Kd.R_after (v:=(.slice (some ⟨go33,0,none⟩) x8_4.length co33)) (v1:=(.slice (some ⟨go33,0,none⟩) x8_4.length co33)) (ok:=(fun _=>True)) (by (with_reducible repeat (first|apply ra'|apply rn'|apply rw'));exact Kd.R_mono HO_7.out (fun _ hk=>⟨trivial,hk⟩)) hg (.inl rfl));have n1_:=am' (hp_);have n2_:=am' (Kd.R_over' (v:=(.slice (some ⟨go33,0,none⟩) x8_4.length co33)) (kr' HO_9.out) (Kd.R_typed HO_8.out) (by decide) hg);have n3_:=am' (Kd.N_afterv (v:=(.slice (some ⟨go33,0,none⟩) x8_4.length co33)) (v1:=(.slice (some ⟨go33,0,none⟩) x8_4.length co33)) (ok:=(fun k_=>some k_≠(.slice (some ⟨go31,0,none⟩) x7_4.length co19:Value).ownBlock∧some k_≠(.slice (some ⟨go63,0,none⟩) y272.length co63:Value).ownBlock∧some k_≠(.slice Ao70 t273.length co70:Value).ownBlock∧k_≠gb247∧k_≠gb277)) (by (with_reducible repeat (first|apply Kd.N_alloc|apply Kd.N_drewN|apply Kd.N_drew));exact Kd.N_mono HO_93.out (fun _ hk=>⟨⟨hk.2,⟨hk.1.2.1,⟨hk.1.2.2.1,⟨hk.1.2.2.2.1,hk.1.2.2.2.2⟩⟩⟩⟩,hk.1.1⟩)) hg (.inl rfl));have n4_:=am' (Kd.R_over' (v:=(.slice (some ⟨go33,0,none⟩) x8_4.length co33)) (kr' HO_278000.out) (Kd.R_typed HO_8.out) (by decide) hg);have n5_:=am' (blk_grown (g:=gb247) (o := .cells #[.slice A0_0 l0_0.length c0_0, .slice A0_1 l0_1.length c0_1, .int .i64 a0_2] 29 (0,0)) (kk' BK247.out) hg (Kd.R_ne HO_8.out BK247.out (by decide)));have n6_:=am' (blk_grown (g:=gb277) (o := .cells #[.slice Ao70 t273.length co70, .bool t276] 38 (0,0)) (kk' BK277.out) hg (Kd.R_ne HO_8.out BK277.out (by decide)));have n7_:=am' ((by rw[hw];exact bs' (HB.out) GB33.out:Below w.heap.size w w114));clear HO_7;clear HO_8;clear HO_9;clear HO_93;clear HO_278000;clear BK247;clear BK277;clear HB;have HO_7:=n0_;have HO_8:=n1_;have HO_9:=n2_;have HO_93:=n3_;have HO_278000:=n4_;have BK247:=n5_;have BK277:=n6_;have HB:=n7_;clear n0_ n1_ n2_ n3_ n4_ n5_ n6_ n7_;clear hg hw hp_;have p293:0≤(t286:Int):=of_decide_eq_true xa';have q293:t286 < (y291.length:Int):=(by have h_:(t286:Int) < ((x7_4.length:Int):Int):=of_decide_eq_true xa';first|(have e_:=(Kd.R_reads' HO_7.out).1;omega)|simpa only [Ny291.out,List.length_set] using h_);have ql293:((t286:Int) < ((x7_4.length:Int):Int))=True:=eq_true (of_decide_eq_true xa');obtain ⟨ad293,e293,hx293_0⟩:=Kd.at_int (Kd.R_reads' HO_7.out).2.2 t286 p293 q293;obtain rfl:(⟨go31,0,none⟩:Addr)=ad293:=(by injection e293);(first|simp only[add_plain] at hx293_0|simp only[add_at] at hx293_0|simp only[Addr.add,Nat.zero_add] at hx293_0|skip);replace p293:=eq_true p293;replace q293:=eq_true q293))
                                (try simp only[← hl7_4,← hl8_4,← hl9_4])
                                go_roundg kj83
                                case measure=>have:=HK1.out;have:=HK2.out;have:=HK3.out;have:=HK4.out;have:=HJ83.out;omega
                                case rel=>exact ⟨(y291),(y292),(wrap64 (x95_4+1)),xs',H',⟨by have:=HK1.out;have:=HK2.out;have:=HK3.out;have:=HK4.out;have:=HJ83.out;omega⟩,⟨by (try simp only[hl7_1]);(try simp only[hl7_2]);(try simp only[hl8_2]);(try simp only[hl7_4]);(try simp only[hl8_4]);(try simp only[hl9_4]);(with_reducible repeat (first|apply ra'|apply rn'|apply rw'));exact Kd.R_mono HO_7.out (fun _ hk=>hk.2)⟩,⟨by (try simp only[hl7_1]);(try simp only[hl7_2]);(try simp only[hl8_2]);(try simp only[hl7_4]);(try simp only[hl8_4]);(try simp only[hl9_4]);(with_reducible repeat (first|apply ra'|apply rn'|apply rw'));exact HO_8.out⟩,⟨by (try simp only[hl7_1]);(try simp only[hl7_2]);(try simp only[hl8_2]);(try simp only[hl7_4]);(try simp only[hl8_4]);(try simp only[hl9_4]);(with_reducible repeat (first|apply ra'|apply rn'|apply rw'));exact HO_9.out⟩,⟨by (try simp only[hl7_1]);(try simp only[hl7_2]);(try simp only[hl8_2]);(try simp only[hl7_4]);(try simp only[hl8_4]);(try simp only[hl9_4]);(with_reducible repeat (first|apply Kd.N_alloc|apply Kd.N_drewN|apply Kd.N_drew));exact Kd.N_mono HO_93.out (fun _ hk=>⟨hk.1.1,⟨hk.2,⟨hk.1.2.1,⟨hk.1.2.2.1,⟨hk.1.2.2.2.1,hk.1.2.2.2.2⟩⟩⟩⟩⟩)⟩,⟨by (try simp only[hl7_1]);(try simp only[hl7_2]);(try simp only[hl8_2]);(try simp only[hl7_4]);(try simp only[hl8_4]);(try simp only[hl9_4]);(with_reducible repeat (first|apply ra'|apply rn'|apply rw'));exact HO_278000.out⟩,⟨by (try simp only[hl7_1]);(try simp only[hl7_2]);(try simp only[hl8_2]);(try simp only[hl7_4]);(try simp only[hl8_4]);(try simp only[hl9_4]);(with_reducible repeat (first|refine kn' ?_ _|refine kd' ?_|refine ka' ?_ _));exact BK247.out⟩,⟨by (try simp only[hl7_1]);(try simp only[hl7_2]);(try simp only[hl8_2]);(try simp only[hl7_4]);(try simp only[hl8_4]);(try simp only[hl9_4]);(with_reducible repeat (first|refine kn' ?_ _|refine kd' ?_|refine ka' ?_ _));exact BK277.out⟩,⟨by repeat (first|(with_reducible first|exact HB.out|apply ba'|apply bd'|apply be'|refine bs' ?_ GE247.out|refine bs' ?_ GE277.out)|exact HB.out)⟩⟩
                              ·
                               rw[if_neg c99] at H;exact absurd H (by simp)
                             ·
                              rw[if_neg c97] at H;exact absurd H (by simp)
                            ·
                             rw[if_neg c96] at H;exact absurd H (by simp)
                           ·
                            replace c95:=Bool.eq_false_iff.mpr c95;subst c95;have H1:(if 0≤t286 then (if t286 < (x7_4.length:Int) then (if (wrap64 ((rd x7_4 x12_3)+t288))=(rd x7_4 t286) then (if t286 < (x8_4.length:Int) then (if 0≤x12_3 then (if x12_3 < (x8_4.length:Int) then (spec_loFar.l3 kj83 a1 (l0_0.length:Int) x7_4 (x8_4.set (t286:Int).toNat (wrap64 ((rd x8_4 t286)+(rd x8_4 x12_3)))) y272 x12_3 t278 (t278.length:Int) (wrap64 (x95_4+1)) l0_0 l0_1 a0_2 t273 t276) else (none)) else (none)) else (none)) else (spec_loFar.l3 kj83 a1 (l0_0.length:Int) x7_4 x8_4 y272 x12_3 t278 (t278.length:Int) (wrap64 (x95_4+1)) l0_0 l0_1 a0_2 t273 t276)) else (none)) else (none))=some (r1,r2):=by rw[if_neg (show ¬ (false=true) by decide)] at H;exact H
                            clear H;have H:=H1;clear H1;by_cases c115:0≤t286
                            ·
                             rw[if_pos c115] at H;have c115b0:decide (0≤t286)=true:=decide_eq_true c115;clear c115;by_cases c116:t286 < (x7_4.length:Int)
                             ·
                              rw[if_pos c116] at H;have c116b0:decide (t286 < (x7_4.length:Int))=true:=decide_eq_true c116;clear c116;by_cases c117:(wrap64 ((rd x7_4 x12_3)+t288))=(rd x7_4 t286)
                              ·
                               rw[if_pos c117] at H;have c117b0:((wrap64 ((rd x7_4 x12_3)+t288)) == (rd x7_4 t286))=true:=beq_iff_eq.mpr c117;have c117b1:((wrap64 ((rd x7_4 x12_3)+t288)) != (rd x7_4 t286))=false:=bne_eq_false_iff_eq.mpr c117;clear c117;by_cases c118:t286 < (x8_4.length:Int)
                               ·
                                rw[if_pos c118] at H;have c118b0:decide (t286 < (x8_4.length:Int))=true:=decide_eq_true c118;clear c118;by_cases c119:0≤x12_3
                                ·
                                 rw[if_pos c119] at H;have c119b0:decide (0≤x12_3)=true:=decide_eq_true c119;clear c119;by_cases c120:x12_3 < (x8_4.length:Int)
                                 ·
                                  rw[if_pos c120] at H;have c120b0:decide (x12_3 < (x8_4.length:Int))=true:=decide_eq_true c120;clear c120;obtain ⟨y300,hy300⟩:∃ y_:List Int,y_=(x8_4.set (t286:Int).toNat (wrap64 ((rd x8_4 t286)+(rd x8_4 x12_3)))):=⟨_,rfl⟩
                                  replace H:(spec_loFar.l3 kj83 a1 (l0_0.length:Int) x7_4 y300 y272 x12_3 t278 (t278.length:Int) (wrap64 (x95_4+1)) l0_0 l0_1 a0_2 t273 t276)=some (r1,r2):=by first|(rw[hy300];with_reducible exact H)|(have H2_:=(Option.bind_some _ _).symm.trans H;rw[hy300];with_reducible exact H2_)|(have H2_:=(Option.bind_some _ _).symm.trans H;with_reducible exact H2_)|with_reducible exact H|(rw[hy300];exact H)|exact H
                                  have Ny300:=am' hy300;clear hy300;have H':=am' H;clear H;have p297:0≤(t286:Int):=of_decide_eq_true xa';have q297:t286 < (x7_4.length:Int):=of_decide_eq_true xa';obtain ⟨ad297,e297,hx297_0⟩:=Kd.at_int (Kd.R_reads' HO_7.out).2.2 t286 p297 q297;obtain rfl:(⟨go31,0,none⟩:Addr)=ad297:=(by injection e297)
                                  (first|simp only[add_plain] at hx297_0|simp only[add_at] at hx297_0|simp only[Addr.add,Nat.zero_add] at hx297_0|skip)
                                  replace p297:=eq_true p297;replace q297:=eq_true q297
                                  try go_wp2
                                  have n0_:=am' (rw' HO_7.out);have n1_:=am' (rw' HO_8.out);have n2_:=am' (rw' HO_9.out);have n3_:=am' (Kd.N_drew HO_93.out);have n4_:=am' (rw' HO_278000.out);have n5_:=am' (kd' BK247.out);have n6_:=am' (kd' BK277.out);have n7_:=am' (cd' HR281_0.out);have n8_:=am' (be' HB.out);clear HO_7;clear HO_8;clear HO_9;clear HO_93;clear HO_278000;clear BK247;clear BK277;clear HR281_0;clear HB;have HO_7:=n0_;have HO_8:=n1_;have HO_9:=n2_;have HO_93:=n3_;have HO_278000:=n4_;have BK247:=n5_;have BK277:=n6_;have HR281_0:=n7_;have HB:=n8_;clear n0_ n1_ n2_ n3_ n4_ n5_ n6_ n7_ n8_;have p298:0≤(t286:Int):=of_decide_eq_true xa';have q298:t286 < (x8_4.length:Int):=of_decide_eq_true xa';obtain ⟨ad298,e298,hx298_0⟩:=Kd.at_int (Kd.R_reads' HO_8.out).2.2 t286 p298 q298;obtain rfl:(⟨go33,0,none⟩:Addr)=ad298:=(by injection e298)
                                  (first|simp only[add_plain] at hx298_0|simp only[add_at] at hx298_0|simp only[Addr.add,Nat.zero_add] at hx298_0|skip)
                                  replace p298:=eq_true p298;replace q298:=eq_true q298;have p299:0≤(x12_3:Int):=of_decide_eq_true xa';have q299:x12_3 < (x8_4.length:Int):=of_decide_eq_true xa';obtain ⟨ad299,e299,hx299_0⟩:=Kd.at_int (Kd.R_reads' HO_8.out).2.2 x12_3 p299 q299;obtain rfl:(⟨go33,0,none⟩:Addr)=ad299:=(by injection e299)
                                  (first|simp only[add_plain] at hx299_0|simp only[add_at] at hx299_0|simp only[Addr.add,Nat.zero_add] at hx299_0|skip)
                                  replace p299:=eq_true p299;replace q299:=eq_true q299;have p121:0≤(t286:Int):=of_decide_eq_true xa';have q121:(t286:Int) < ((x8_4.length:Int):Int):=of_decide_eq_true xa';obtain ⟨hx121_0,hf121_0⟩:=Kd.R_celln 0 HO_8.out (t286:Int) p121 q121;replace p121:=eq_true p121;replace q121:=eq_true q121;have HP123:=Kd.R_putn HO_8.out (t286:Int) (wrap64 ((rd x8_4 t286)+(rd x8_4 x12_3)));rw[← Ny300.out] at HP123;have HQ123:=am' HP123;clear HP123;refine start_ (n:=11) (S:=fun w'=>w'.cell? ⟨go33,(t286).toNat,none⟩=some (.int .i64 (rd x8_4 t286))∧w'.cell? ⟨go33,(x12_3).toNat,none⟩=some (.int .i64 (rd x8_4 x12_3))) (ds:=[10]) #[false,false,false,false,false,false,false,false,false,false,false] xk' rfl rfl ⟨hx298_0,hx299_0⟩ (fun hHeld=>?_);refine with_tabW spec_loFar.tab32 spec_loFar.bits32 (fun HT_ HW_=>?_);generalize wc.drew=w122 at HO_7 HO_8 HO_9 HO_93 HO_278000 BK247 BK277 HR281_0 HB HQ123 hf121_0 hx121_0 hx298_0 hx299_0 hHeld ⊢
                                  refine pure_ (i:=0) (N:=some 138) (v:=?_) (a':=?_) #[true,false,false,false,false,false,false,false,false,false,false] rfl rfl (any_of HT_.out xk') (fun _ _ _ h=>h) (Or.inl ⟨by rfl,?_⟩) ?_ ?_
                                  rotate_left
                                  ·
                                   intro w';go_simp;with_reducible rfl
                                  rotate_left
                                  ·
                                   simp only[Act.put,sa',sb',sc',i64_w,i32_w];rfl
                                  refine pure_ (i:=1) (N:=some 139) (v:=?_) (a':=?_) #[true,true,false,false,false,false,false,false,false,false,false] rfl rfl (any_of HT_.out xk') (fun _ _ _ h=>h) (Or.inl ⟨by rfl,?_⟩) ?_ ?_
                                  rotate_left
                                  ·
                                   intro w';go_simp;with_reducible rfl
                                  rotate_left
                                  ·
                                   simp only[Act.put,sa',sb',sc',i64_w,i32_w];rfl
                                  refine pure_ (i:=2) (N:=some 140) (v:=?_) (a':=?_) #[true,true,true,false,false,false,false,false,false,false,false] rfl rfl (any_of HT_.out xk') (fun _ _ _ h=>h) (Or.inl ⟨by rfl,?_⟩) ?_ ?_
                                  rotate_left
                                  ·
                                   intro w';go_simp;with_reducible rfl
                                  rotate_left
                                  ·
                                   simp only[Act.put,sa',sb',sc',i64_w,i32_w];rfl
                                  refine pure_ (i:=4) (N:=some 142) (v:=?_) (a':=?_) #[true,true,true,false,true,false,false,false,false,false,false] rfl rfl (any_of HT_.out xk') (fun _ _ _ h=>h) (Or.inl ⟨by rfl,?_⟩) ?_ ?_
                                  rotate_left
                                  ·
                                   intro w';go_simp;with_reducible rfl
                                  rotate_left
                                  ·
                                   simp only[Act.put,sa',sb',sc',i64_w,i32_w];rfl
                                  refine pure_ (i:=5) (N:=some 143) (v:=?_) (a':=?_) #[true,true,true,false,true,true,false,false,false,false,false] rfl rfl (any_of HT_.out xk') (fun _ _ _ h=>h) (Or.inl ⟨by rfl,?_⟩) ?_ ?_
                                  rotate_left
                                  ·
                                   intro w';go_simp;with_reducible rfl
                                  rotate_left
                                  ·
                                   simp only[Act.put,sa',sb',sc',i64_w,i32_w];rfl
                                  refine pure_ (i:=6) (N:=some 144) (v:=?_) (a':=?_) #[true,true,true,false,true,true,true,false,false,false,false] rfl rfl (any_of HT_.out xk') (fun _ _ _ h=>h) (Or.inl ⟨by rfl,?_⟩) ?_ ?_
                                  rotate_left
                                  ·
                                   intro w';go_simp;with_reducible rfl
                                  rotate_left
                                  ·
                                   simp only[Act.put,sa',sb',sc',i64_w,i32_w];rfl
                                  refine take_ (i:=3) (N:=some 141) (v:=?_) (a':=?_) #[true,true,true,true,true,true,true,false,false,false,false] rfl rfl (take_ofW HT_.out HW_.out xk') (fun _ _ _ h=>h) (Or.inl ⟨by rfl,?_⟩) hHeld ?_ ?_
                                  rotate_left
                                  ·
                                   rintro w' ⟨s0,s1⟩
                                   go_simp;with_reducible rfl
                                  rotate_left
                                  ·
                                   simp only[Act.put,sa',sb',sc',i64_w,i32_w];rfl
                                  refine take_ (i:=7) (N:=some 145) (v:=?_) (a':=?_) #[true,true,true,true,true,true,true,true,false,false,false] rfl rfl (take_ofW HT_.out HW_.out xk') (fun _ _ _ h=>h) (Or.inl ⟨by rfl,?_⟩) hHeld ?_ ?_
                                  rotate_left
                                  ·
                                   rintro w' ⟨s0,s1⟩
                                   go_simp;with_reducible rfl
                                  rotate_left
                                  ·
                                   simp only[Act.put,sa',sb',sc',i64_w,i32_w];rfl
                                  refine pure_ (i:=8) (N:=some 146) (v:=?_) (a':=?_) #[true,true,true,true,true,true,true,true,true,false,false] rfl rfl (any_of HT_.out xk') (fun _ _ _ h=>h) (Or.inl ⟨by rfl,?_⟩) ?_ ?_
                                  rotate_left
                                  ·
                                   intro w';go_simp;with_reducible rfl
                                  rotate_left
                                  ·
                                   simp only[Act.put,sa',sb',sc',i64_w,i32_w];rfl
                                  refine pure_ (i:=9) (N:=some 147) (v:=?_) (a':=?_) #[true,true,true,true,true,true,true,true,true,true,false] rfl rfl (any_of HT_.out xk') (fun _ _ _ h=>h) (Or.inl ⟨by rfl,?_⟩) ?_ ?_
                                  rotate_left
                                  ·
                                   intro w';go_simp;with_reducible rfl
                                  rotate_left
                                  ·
                                   simp only[Act.put,sa',sb',sc',i64_w,i32_w];rfl
                                  refine last_ (i:=10) (N:=none) #[true,true,true,true,true,true,true,true,true,true,true] rfl rfl (one_of HT_.out xk') (by decide) (fun K hK=>?_);refine skip_ (w1:=?_) (by rfl) rfl ?_ ?_
                                  rotate_left
                                  ·
                                   go_simp;rfl
                                  refine hK.out _ _ ?_
                                  clear hK K;refine done_ (done_of HT_.out xk') ?_
                                  try go_wp2
                                  (try simp only[← hl7_4,← hl8_4,← hl9_4])
                                  go_roundg kj83
                                  case measure=>have:=HK1.out;have:=HK2.out;have:=HK3.out;have:=HK4.out;have:=HJ83.out;omega
                                  case rel=>obtain ⟨cq_,GQ_⟩:=Kd.R_typed HO_8.out _ rfl;exact ⟨(x7_4),(y300),(wrap64 (x95_4+1)),xs',H',⟨by have:=HK1.out;have:=HK2.out;have:=HK3.out;have:=HK4.out;have:=HJ83.out;omega⟩,⟨by (try simp only[hl7_1]);(try simp only[hl7_2]);(try simp only[hl8_2]);(try simp only[hl7_4]);(try simp only[hl8_4]);(try simp only[hl9_4]);(with_reducible repeat (first|apply ra'|apply rn'|apply rw'));exact Kd.R_mono (Kd.R_far (p:=⟨go33,(t286:Int).toNat,none⟩) (Kd.R_mono HO_7.out (fun k_ hk=>(⟨hk,fun e_=>hk (by rw[e_];rfl)⟩:_∧k_≠go33))) (fun _ hk=>hk.2) (.int .i64 (wrap64 ((rd x8_4 t286)+(rd x8_4 x12_3))))) (fun _ hk=>hk.1)⟩,⟨by (try simp only[hl7_1]);(try simp only[hl7_2]);(try simp only[hl8_2]);(try simp only[hl7_4]);(try simp only[hl8_4]);(try simp only[hl9_4]);(with_reducible repeat (first|apply ra'|apply rn'|apply rw'));exact HQ123.out⟩,⟨by (try simp only[hl7_1]);(try simp only[hl7_2]);(try simp only[hl8_2]);(try simp only[hl7_4]);(try simp only[hl8_4]);(try simp only[hl9_4]);(with_reducible repeat (first|apply ra'|apply rn'|apply rw'));exact Kd.R_mono (Kd.R_far (p:=⟨go33,(t286:Int).toNat,none⟩) (Kd.R_types HO_9.out GQ_ (by decide)) (fun _ hk=>hk.2) (.int .i64 (wrap64 ((rd x8_4 t286)+(rd x8_4 x12_3))))) (fun _ hk=>hk.1)⟩,⟨by (try simp only[hl7_1]);(try simp only[hl7_2]);(try simp only[hl8_2]);(try simp only[hl7_4]);(try simp only[hl8_4]);(try simp only[hl9_4]);(with_reducible repeat (first|apply Kd.N_alloc|apply Kd.N_drewN|apply Kd.N_drew));exact Kd.N_mono (Kd.N_far (p:=⟨go33,(t286:Int).toNat,none⟩) (Kd.N_mono HO_93.out (fun k_ hk=>(⟨hk,fun e_=>hk.2.1 (by rw[e_];rfl)⟩:_∧k_≠go33))) (fun _ hk=>hk.2) (.int .i64 (wrap64 ((rd x8_4 t286)+(rd x8_4 x12_3))))) (fun _ hk=>⟨hk.1.1,⟨hk.1.2.1,⟨hk.1.2.2.1,⟨hk.1.2.2.2.1,⟨hk.1.2.2.2.2.1,hk.1.2.2.2.2.2⟩⟩⟩⟩⟩)⟩,⟨by (try simp only[hl7_1]);(try simp only[hl7_2]);(try simp only[hl8_2]);(try simp only[hl7_4]);(try simp only[hl8_4]);(try simp only[hl9_4]);(with_reducible repeat (first|apply ra'|apply rn'|apply rw'));exact Kd.R_mono (Kd.R_far (p:=⟨go33,(t286:Int).toNat,none⟩) (Kd.R_types HO_278000.out GQ_ (by decide)) (fun _ hk=>hk.2) (.int .i64 (wrap64 ((rd x8_4 t286)+(rd x8_4 x12_3))))) (fun _ hk=>hk.1)⟩,⟨by (try simp only[hl7_1]);(try simp only[hl7_2]);(try simp only[hl8_2]);(try simp only[hl7_4]);(try simp only[hl8_4]);(try simp only[hl9_4]);(with_reducible repeat (first|refine kn' ?_ _|refine kd' ?_|refine ka' ?_ _));refine blk_far ?_ (by have h_:=Kd.R_ne HO_8.out BK247.out (by decide);intro e_;exact h_ (by rw[e_];rfl)) _;(with_reducible repeat (first|refine kn' ?_ _|refine kd' ?_|refine ka' ?_ _));exact BK247.out⟩,⟨by (try simp only[hl7_1]);(try simp only[hl7_2]);(try simp only[hl8_2]);(try simp only[hl7_4]);(try simp only[hl8_4]);(try simp only[hl9_4]);(with_reducible repeat (first|refine kn' ?_ _|refine kd' ?_|refine ka' ?_ _));refine blk_far ?_ (by have h_:=Kd.R_ne HO_8.out BK277.out (by decide);intro e_;exact h_ (by rw[e_];rfl)) _;(with_reducible repeat (first|refine kn' ?_ _|refine kd' ?_|refine ka' ?_ _));exact BK277.out⟩,⟨by repeat (first|(with_reducible first|exact HB.out|apply ba'|apply bd'|apply be'|refine bs' ?_ GB33.out|refine bs' ?_ GE247.out|refine bs' ?_ GE277.out)|exact HB.out)⟩⟩
                                 ·
                                  rw[if_neg c120] at H;exact absurd H (by simp)
                                ·
                                 rw[if_neg c119] at H;exact absurd H (by simp)
                               ·
                                rw[if_neg c118] at H;exact absurd H (by simp)
                              ·
                               rw[if_neg c117] at H;have c117b0:((wrap64 ((rd x7_4 x12_3)+t288)) == (rd x7_4 t286))=false:=beq_eq_false_iff_ne.mpr c117;have c117b1:((wrap64 ((rd x7_4 x12_3)+t288)) != (rd x7_4 t286))=true:=bne_iff_ne.mpr c117;have H':=am' H;clear H;have p297:0≤(t286:Int):=of_decide_eq_true xa';have q297:t286 < (x7_4.length:Int):=of_decide_eq_true xa';obtain ⟨ad297,e297,hx297_0⟩:=Kd.at_int (Kd.R_reads' HO_7.out).2.2 t286 p297 q297;obtain rfl:(⟨go31,0,none⟩:Addr)=ad297:=(by injection e297)
                               (first|simp only[add_plain] at hx297_0|simp only[add_at] at hx297_0|simp only[Addr.add,Nat.zero_add] at hx297_0|skip)
                               replace p297:=eq_true p297;replace q297:=eq_true q297;go_wp2
                               (try simp only[← hl7_4,← hl8_4,← hl9_4])
                               go_roundg kj83
                               case measure=>have:=HK1.out;have:=HK2.out;have:=HK3.out;have:=HK4.out;have:=HJ83.out;omega
                               case rel=>exact ⟨(x7_4),(x8_4),(wrap64 (x95_4+1)),xs',H',⟨by have:=HK1.out;have:=HK2.out;have:=HK3.out;have:=HK4.out;have:=HJ83.out;omega⟩,⟨by (try simp only[hl7_1]);(try simp only[hl7_2]);(try simp only[hl8_2]);(try simp only[hl7_4]);(try simp only[hl8_4]);(try simp only[hl9_4]);(with_reducible repeat (first|apply ra'|apply rn'|apply rw'));exact HO_7.out⟩,⟨by (try simp only[hl7_1]);(try simp only[hl7_2]);(try simp only[hl8_2]);(try simp only[hl7_4]);(try simp only[hl8_4]);(try simp only[hl9_4]);(with_reducible repeat (first|apply ra'|apply rn'|apply rw'));exact HO_8.out⟩,⟨by (try simp only[hl7_1]);(try simp only[hl7_2]);(try simp only[hl8_2]);(try simp only[hl7_4]);(try simp only[hl8_4]);(try simp only[hl9_4]);(with_reducible repeat (first|apply ra'|apply rn'|apply rw'));exact HO_9.out⟩,⟨by (try simp only[hl7_1]);(try simp only[hl7_2]);(try simp only[hl8_2]);(try simp only[hl7_4]);(try simp only[hl8_4]);(try simp only[hl9_4]);(with_reducible repeat (first|apply Kd.N_alloc|apply Kd.N_drewN|apply Kd.N_drew));exact HO_93.out⟩,⟨by (try simp only[hl7_1]);(try simp only[hl7_2]);(try simp only[hl8_2]);(try simp only[hl7_4]);(try simp only[hl8_4]);(try simp only[hl9_4]);(with_reducible repeat (first|apply ra'|apply rn'|apply rw'));exact HO_278000.out⟩,⟨by (try simp only[hl7_1]);(try simp only[hl7_2]);(try simp only[hl8_2]);(try simp only[hl7_4]);(try simp only[hl8_4]);(try simp only[hl9_4]);(with_reducible repeat (first|refine kn' ?_ _|refine kd' ?_|refine ka' ?_ _));exact BK247.out⟩,⟨by (try simp only[hl7_1]);(try simp only[hl7_2]);(try simp only[hl8_2]);(try simp only[hl7_4]);(try simp only[hl8_4]);(try simp only[hl9_4]);(with_reducible repeat (first|refine kn' ?_ _|refine kd' ?_|refine ka' ?_ _));exact BK277.out⟩,⟨by repeat (first|(with_reducible first|exact HB.out|apply ba'|apply bd'|apply be'|refine bs' ?_ GE247.out|refine bs' ?_ GE277.out)|exact HB.out)⟩⟩
                             ·
                              rw[if_neg c116] at H;exact absurd H (by simp)
                            ·
                             rw[if_neg c115] at H;exact absurd H (by simp)
                        ·
                         rw[if_neg c82] at H;exact absurd H (by simp)
                       ·
                        rw[if_neg c81] at H;exact absurd H (by simp)
                      ·
                       rw[if_neg c78] at H;exact absurd H (by simp)
                     ·
                      rw[if_neg c77] at H;exact absurd H (by simp)
                    ·
                     rw[if_neg c76] at H;have c76b0:decide (x95_4 < (t278.length:Int))=false:=decide_eq_false c76;clear c76;have H':=am' H;clear H;go_wp2
                     (try simp only[← hl7_2,← hl8_2,← hl7_4,← hl8_4,← hl9_4])
                     go_roundg k4
                     case measure=>have:=HK1.out;have:=HK2.out;have:=HK3.out;have:=HK4.out;omega
                     case rel=>exact ⟨(x7_4),(x8_4),(y272),H',⟨by have:=HK1.out;have:=HK2.out;have:=HK3.out;have:=HK4.out;omega⟩,⟨by (try simp only[hl7_1]);(try simp only[hl7_2]);(try simp only[hl8_2]);(try simp only[hl7_4]);(try simp only[hl8_4]);(try simp only[hl9_4]);(with_reducible repeat (first|apply ra'|apply rn'|apply rw'));exact HO_7.out⟩,⟨by (try simp only[hl7_1]);(try simp only[hl7_2]);(try simp only[hl8_2]);(try simp only[hl7_4]);(try simp only[hl8_4]);(try simp only[hl9_4]);(with_reducible repeat (first|apply ra'|apply rn'|apply rw'));exact HO_8.out⟩,⟨by (try simp only[hl7_1]);(try simp only[hl7_2]);(try simp only[hl8_2]);(try simp only[hl7_4]);(try simp only[hl8_4]);(try simp only[hl9_4]);(with_reducible repeat (first|apply ra'|apply rn'|apply rw'));exact Kd.R_mono HO_9.out (fun _ hk=>trivial)⟩,⟨by (try simp only[hl7_1]);(try simp only[hl7_2]);(try simp only[hl8_2]);(try simp only[hl7_4]);(try simp only[hl8_4]);(try simp only[hl9_4]);(with_reducible repeat (first|refine kn' ?_ _|refine kd' ?_|refine ka' ?_ _));exact BK247.out⟩,⟨by repeat (first|(with_reducible first|exact HB.out|apply ba'|apply bd'|apply be'|refine bs' ?_ GE247.out|refine bs' ?_ GE277.out)|exact HB.out)⟩⟩
                 ·
                  rw[if_neg c62] at H;exact absurd H (by simp)
                ·
                 rw[if_neg c61] at H;exact absurd H (by simp)
         ·
          rw[if_neg c32] at H;exact absurd H (by simp)
        ·
         rw[if_neg c30] at H;exact absurd H (by simp)
       ·
        rw[if_neg c29] at H;exact absurd H (by simp)
   ·
    rw[if_neg c8] at H;exact absurd H (by simp)
  ·
   rw[if_neg c5] at H;exact absurd H (by simp)
 ·
  rw[if_neg c4] at H;exact absurd H (by simp)
end Go.Proofs.Ytikjdmiohpdnaaa.C16
