import Derived.Test.YtikjdmiohpdnaaaC20zx0
import Derived.Test.YtikjdmiohpdnaaaC20zx3
import Derived.Test.YtikjdmiohpdnaaaC20zx4
import Derived.Test.YtikjdmiohpdnaaaC20zx8
import Derived.Test.YtikjdmiohpdnaaaC20zx9
import Derived.Test.YtikjdmiohpdnaaaC20zAl
namespace Go.Proofs.Ytikjdmiohpdnaaa.C20
open Go.RowKit Go.Proofs.YtikjdmiohpdnaaaW.PrintWords Go.Proofs.YtikjdmiohpdnaaaW.PrintLast Go.Proofs.YtikjdmiohpdnaaaW.PrintMore Go.Proofs.Ytikjdmiohpdnaaa.H
attribute [local go_sem] max2_int min2_int max_two min_two max_three min_three max_four min_four
set_option linter.unusedVariables false
set_option linter.unusedSimpArgs false
mutual
def spec_loFar.l0:Nat→Bool→Int→List Int→List Int→List Bool→Int→Int→List Int→List Bool→Int→Option (List Int × List Int)
 | 0,_,_,_,_,_,_,_,_,_,_=>none
 | k+1,x1,x6,x7,x8,x9,x33,x34,x254000,x254001,x254002=>if x34 < x33 then (if 0≤x34 then (if x34 < (x7.length:Int) then (spec_loFar.l0 k x1 x6 (x7.set (x34:Int).toNat (-1)) x8 x9 x33 (wrap64 (x34+1)) x254000 x254001 x254002) else (none)) else (none)) else ((spec_loParty.f x254000 x254001 x254002).bind fun bt264=>((spec_paLast.f k bt264.1 bt264.2).bind fun bt268=>((spec_seIndex.f k bt268.1 bt268.2).bind fun t272=>(if 0≤t272 then (if t272 < (x7.length:Int) then (if t272 < (x8.length:Int) then (spec_loFar.l1 k x1 x6 (x7.set (t272:Int).toNat 0) (x8.set (t272:Int).toNat 1) x9 x254000 x254001 x254002) else (none)) else (none)) else (none)))))
def spec_loFar.l1:Nat→Bool→Int→List Int→List Int→List Bool→List Int→List Bool→Int→Option (List Int × List Int)
 | 0,_,_,_,_,_,_,_,_=>none
 | k+1,x1,x6,x7,x8,x9,x254000,x254001,x254002=>spec_loFar.l2 k x1 x6 x7 x8 x9 (-1) x7 (x7.length:Int) 0 x254000 x254001 x254002
def spec_loFar.l2:Nat→Bool→Int→List Int→List Int→List Bool→Int→List Int→Int→Int→List Int→List Bool→Int→Option (List Int × List Int)
 | 0,_,_,_,_,_,_,_,_,_,_,_,_=>none
 | k+1,x1,x6,x7,x8,x9,x12,x51,x52,x53,x254000,x254001,x254002=>if x53 < x52 then (if 0≤x53 then (if x53 < (x51.length:Int) then (if x53 < (x9.length:Int) then (if rdOf false x9 x53=true then (spec_loFar.l2 k x1 x6 x7 x8 x9 x12 x51 x52 (wrap64 (x53+1)) x254000 x254001 x254002) else (if (rd x51 x53) ≥ 0 then (if x12 < 0 then (spec_loFar.l2 k x1 x6 x7 x8 x9 x53 x51 x52 (wrap64 (x53+1)) x254000 x254001 x254002) else (if 0≤x12 then (if x12 < (x7.length:Int) then (if (rd x51 x53) < (rd x7 x12) then (spec_loFar.l2 k x1 x6 x7 x8 x9 x53 x51 x52 (wrap64 (x53+1)) x254000 x254001 x254002) else (spec_loFar.l2 k x1 x6 x7 x8 x9 x12 x51 x52 (wrap64 (x53+1)) x254000 x254001 x254002)) else (none)) else (none))) else (spec_loFar.l2 k x1 x6 x7 x8 x9 x12 x51 x52 (wrap64 (x53+1)) x254000 x254001 x254002))) else (none)) else (none)) else (none)) else (if x12 < 0 then (some (x7,x8)) else (if 0≤x12 then (if x12 < (x9.length:Int) then ((spec_seState.f k x12 x6).bind fun bt279=>((spec_loRides.f k x254000 x254001 x254002 bt279.1 bt279.2).bind fun t284=>(spec_loFar.l3 k x1 x6 x7 x8 (x9.set (x12:Int).toNat true) x12 t284 (t284.length:Int) 0 x254000 x254001 x254002 bt279.1 bt279.2))) else (none)) else (none)))
def spec_loFar.l3:Nat→Bool→Int→List Int→List Int→List Bool→Int→List (List Int)→Int→Int→List Int→List Bool→Int→List Bool→Bool→Option (List Int × List Int)
 | 0,_,_,_,_,_,_,_,_,_,_,_,_,_,_=>none
 | k+1,x1,x6,x7,x8,x9,x12,x93,x94,x95,x254000,x254001,x254002,x284000,x284001=>if x95 < x94 then (if 0≤x95 then (if x95 < (x93.length:Int) then ((spec_paCross.f k x284000 x284001 (rd_L2 x93 x95)).bind fun bt288=>((spec_seIndex.f k bt288.1 bt288.2).bind fun t292=>(if 0≤x12 then (if x12 < (x7.length:Int) then ((spec_loCost.f k x254000 x254001 x254002 (rd_L2 x93 x95) x1).bind fun t294=>(if 0≤t292 then (if t292 < (x7.length:Int) then (if (rd x7 t292) < 0 then (spec_loFar.j4 k x1 x6 x7 x8 x9 x12 t292 (wrap64 ((rd x7 x12)+t294)) x93 x94 x95 true x254000 x254001 x254002 x284000 x284001) else (spec_loFar.j4 k x1 x6 x7 x8 x9 x12 t292 (wrap64 ((rd x7 x12)+t294)) x93 x94 x95 (decide ((wrap64 ((rd x7 x12)+t294)) < (rd x7 t292))) x254000 x254001 x254002 x284000 x284001)) else (none)) else (none))) else (none)) else (none)))) else (none)) else (none)) else (spec_loFar.l1 k x1 x6 x7 x8 x9 x254000 x254001 x254002)
def spec_loFar.j4:Nat→Bool→Int→List Int→List Int→List Bool→Int→Int→Int→List (List Int)→Int→Int→Bool→List Int→List Bool→Int→List Bool→Bool→Option (List Int × List Int)
 | 0,_,_,_,_,_,_,_,_,_,_,_,_,_,_,_,_,_=>none
 | k+1,x1,x6,x7,x8,x9,x12,x18,x19,x93,x94,x95,x124,x254000,x254001,x254002,x284000,x284001=>if x124=true then (if 0≤x18 then (if x18 < (x7.length:Int) then ((some (x7.set (x18:Int).toNat x19:List Int)).bind fun y297=>(if x18 < (x8.length:Int) then ((some (x8.set (x18:Int).toNat 0:List Int)).bind fun y298=>(if x19=(rd y297 x18) then (if 0≤x12 then (if x12 < (x8.length:Int) then (spec_loFar.l3 k x1 x6 y297 (y298.set (x18:Int).toNat (wrap64 ((rd y298 x18)+(rd y298 x12)))) x9 x12 x93 x94 (wrap64 (x95+1)) x254000 x254001 x254002 x284000 x284001) else (none)) else (none)) else (spec_loFar.l3 k x1 x6 y297 y298 x9 x12 x93 x94 (wrap64 (x95+1)) x254000 x254001 x254002 x284000 x284001))) else (none))) else (none)) else (none)) else (if 0≤x18 then (if x18 < (x7.length:Int) then (if x19=(rd x7 x18) then (if x18 < (x8.length:Int) then (if 0≤x12 then (if x12 < (x8.length:Int) then (spec_loFar.l3 k x1 x6 x7 (x8.set (x18:Int).toNat (wrap64 ((rd x8 x18)+(rd x8 x12)))) x9 x12 x93 x94 (wrap64 (x95+1)) x254000 x254001 x254002 x284000 x284001) else (none)) else (none)) else (none)) else (spec_loFar.l3 k x1 x6 x7 x8 x9 x12 x93 x94 (wrap64 (x95+1)) x254000 x254001 x254002 x284000 x284001)) else (none)) else (none))
end
def spec_loFar.f (k:Nat) (l0_0:List Int) (l0_1:List Bool) (a0_2:Int) (a1:Bool):Option (List Int × List Int):=if 0≤(shl .i64 2 (l0_0.length:Int)) then (if (shl .i64 2 (l0_0.length:Int):Int).toNat≤35184372088832 then ((some (List.replicate (shl .i64 2 (l0_0.length:Int):Int).toNat 0:List Int)).bind fun y254=>(if (shl .i64 2 (l0_0.length:Int):Int).toNat≤281474976710656 then (spec_loFar.l0 k a1 (l0_0.length:Int) y254 (List.replicate (shl .i64 2 (l0_0.length:Int):Int).toNat 0) (List.replicate (shl .i64 2 (l0_0.length:Int):Int).toNat false) (y254.length:Int) 0 l0_0 l0_1 a0_2) else (none))) else (none)) else (none)
def spec_loFar.T2:Bool × List (List Nat × List Nat):=(true,[([],[]),([0],[0]),([1,1],[1]),([],[]),([3],[3]),([4,4],[4]),([2,0,1,2],[2]),([5,6,0,1,2,3,4,5,6],[5])])
def spec_loFar.B2:List Nat:=[0,1,3,0,8,24,7,127]
theorem spec_loFar.tab2:rtab .any (opsOf Try.f103 2)=spec_loFar.T2:=by kernel_rfl
theorem spec_loFar.bits2:waitsOk spec_loFar.T2.2 spec_loFar.B2=true:=by kernel_rfl
def spec_loFar.T27:Bool × List (List Nat × List Nat):=(true,[([],[]),([],[]),([0,1],[0,1]),([2],[2]),([],[]),([],[]),([],[]),([4,5,6],[4,5,6]),([3,7],[3,7]),([8,7,0,1,2,3,4,5,6,7,8],[8])])
def spec_loFar.B27:List Nat:=[0,0,3,7,0,0,0,112,255,511]
theorem spec_loFar.tab27:rtab .any (opsOf Try.f103 27)=spec_loFar.T27:=by kernel_rfl
theorem spec_loFar.bits27:waitsOk spec_loFar.T27.2 spec_loFar.B27=true:=by kernel_rfl
def spec_loFar.T32:Bool × List (List Nat × List Nat):=(true,[([],[]),([],[]),([0,1],[0,1]),([2],[2]),([],[]),([],[]),([4,5],[4,5]),([6],[6]),([3,7],[3,7]),([0,1,0,1,2,3,4,5,6,7,8],[0,1]),([9,8,0,1,2,3,4,5,6,7,8],[8,9])])
def spec_loFar.B32:List Nat:=[0,0,3,7,0,0,48,112,255,511,1023]
theorem spec_loFar.tab32:rtab .any (opsOf Try.f103 32)=spec_loFar.T32:=by kernel_rfl
theorem spec_loFar.bits32:waitsOk spec_loFar.T32.2 spec_loFar.B32=true:=by kernel_rfl
set_option maxHeartbeats 8000000 in
set_option maxRecDepth 100000 in
theorem spec_loFar.calls (k:Nat) (A0_0:Option Addr) (c0_0:Nat) (l0_0:List Int) (A0_1:Option Addr) (c0_1:Nat) (l0_1:List Bool) (a0_2:Int) (a1:Bool) (r1:List Int) (r2:List Int) (w:World) (hr0_0:Kd.C (Kd.int .i64) w A0_0 l0_0.length l0_0) (hc0_0:l0_0.length≤c0_0) (hr0_1:Kd.C Kd.bool w A0_1 l0_1.length l0_1) (hc0_1:l0_1.length≤c0_1) (h:spec_loFar.f k l0_0 l0_1 a0_2 a1=some (r1,r2)) :
  Calls Try.prog 103 #[.agg #[.slice A0_0 l0_0.length c0_0, .slice A0_1 l0_1.length c0_1, .int .i64 a0_2], .bool a1] w fun e w'=>∃ v0_ v1_:Value,e = .returned (.tuple #[v0_,v1_])∧Kd.R (Kd.int .i64) 3 w' w.heap.size (fun k_=>some k_≠(v1_:Value).ownBlock) v0_ r1∧Kd.R (Kd.int .i64) 3 w' w.heap.size (fun k_=>some k_≠(v0_:Value).ownBlock) v1_ r2∧Below w.heap.size w w':=by
 have hu29:=Try.underlying29
 have hu38:=Try.underlying38
 have HR0_0:=am' hr0_0
 have HC0_0:=am' hc0_0
 clear hr0_0 hc0_0;have HR0_1:=am' hr0_1
 have HC0_1:=am' hc0_1
 clear hr0_1 hc0_1;have HB:=am' (Below.refl w.heap.size w)
 have H:(if 0≤(shl .i64 2 (l0_0.length:Int)) then (if (shl .i64 2 (l0_0.length:Int):Int).toNat≤35184372088832 then ((some (List.replicate (shl .i64 2 (l0_0.length:Int):Int).toNat 0:List Int)).bind fun y254=>(if (shl .i64 2 (l0_0.length:Int):Int).toNat≤281474976710656 then (spec_loFar.l0 k a1 (l0_0.length:Int) y254 (List.replicate (shl .i64 2 (l0_0.length:Int):Int).toNat 0) (List.replicate (shl .i64 2 (l0_0.length:Int):Int).toNat false) (y254.length:Int) 0 l0_0 l0_1 a0_2) else (none))) else (none)) else (none))=some (r1,r2):=h
 clear h;obtain ⟨ji3,hji3⟩:∃ j_:Int,(shl .i64 2 (l0_0.length:Int))=j_:=⟨_,rfl⟩
 replace H:(if 0≤(ji3) then (if (ji3:Int).toNat≤35184372088832 then ((some (List.replicate (ji3:Int).toNat 0:List Int)).bind fun y254=>(if (ji3:Int).toNat≤281474976710656 then (spec_loFar.l0 k a1 (l0_0.length:Int) y254 (List.replicate (ji3:Int).toNat 0) (List.replicate (ji3:Int).toNat false) (y254.length:Int) 0 l0_0 l0_1 a0_2) else (none))) else (none)) else (none))=some (r1,r2):=by first|(rw[hji3] at H;exact H)|(simp only[hji3] at H ⊢;exact H)
 have hji3_:(IntKind.i64.wrap (2 * 2 ^ min (l0_0.length:Int).toNat 64))=ji3:=hji3
 have hji3z:(l0_0.length:Int)≤64→(IntKind.i64.wrap (2 * 2 ^ (l0_0.length:Int).toNat))=ji3:=shl_small hji3
 have hji3p:(IntKind.i64.wrap (2 * 2 ^ min l0_0.length 64))=ji3:=hji3_
 have hji3q:(l0_0.length:Int)≤64→(IntKind.i64.wrap (2 * 2 ^ l0_0.length))=ji3:=hji3z
 have hji3y:(wrap64 (2 * 2 ^ min (l0_0.length:Int).toNat 64))=ji3:=(i64_w _).symm.trans hji3_
 have hji3x:(l0_0.length:Int)≤64→(wrap64 (2 * 2 ^ (l0_0.length:Int).toNat))=ji3:=fun h_=>(i64_w _).symm.trans (hji3z h_)
 by_cases c4:0≤(ji3)
 ·
  rw[if_pos c4] at H;have c4b0:=eq_true c4;have c4b1:decide (0≤(ji3))=true:=dt' c4;clear c4;by_cases c5:(ji3:Int).toNat≤35184372088832
  ·
   rw[if_pos c5] at H;have c5b0:=eq_true c5;have c5b1:decide ((ji3:Int).toNat≤35184372088832)=true:=dt' c5;clear c5;obtain ⟨y254,hy254⟩:∃ y_:List Int,y_=(List.replicate (ji3:Int).toNat 0):=⟨_,rfl⟩
   replace H:(if (ji3:Int).toNat≤281474976710656 then (spec_loFar.l0 k a1 (l0_0.length:Int) y254 (List.replicate (ji3:Int).toNat 0) (List.replicate (ji3:Int).toNat false) (y254.length:Int) 0 l0_0 l0_1 a0_2) else (none))=some (r1,r2):=by first|(rw[hy254];with_reducible exact H)|(have H2_:=(Option.bind_some _ _).symm.trans H;rw[hy254];with_reducible exact H2_)|(have H2_:=(Option.bind_some _ _).symm.trans H;with_reducible exact H2_)|with_reducible exact H|(rw[hy254];exact H)|exact H
   have Ny254:=am' hy254;clear hy254;obtain ⟨y257,hy257⟩:∃ y_:List Int,y_=(List.replicate (ji3:Int).toNat 0):=⟨_,rfl⟩
   replace H:(if (ji3:Int).toNat≤281474976710656 then (spec_loFar.l0 k a1 (l0_0.length:Int) y254 y257 (List.replicate (ji3:Int).toNat false) (y254.length:Int) 0 l0_0 l0_1 a0_2) else (none))=some (r1,r2):=by first|(rw[hy257];with_reducible exact H)|(have H2_:=(Option.bind_some _ _).symm.trans H;rw[hy257];with_reducible exact H2_)|(have H2_:=(Option.bind_some _ _).symm.trans H;with_reducible exact H2_)|with_reducible exact H|(rw[hy257];exact H)|exact H
   have Ny257:=am' hy257;clear hy257;by_cases c8:(ji3:Int).toNat≤281474976710656
   ·
    rw[if_pos c8] at H;have c8b0:=eq_true c8;have c8b1:decide ((ji3:Int).toNat≤281474976710656)=true:=dt' c8;clear c8;obtain ⟨y260,hy260⟩:∃ y_:List Bool,y_=(List.replicate (ji3:Int).toNat false):=⟨_,rfl⟩
    replace H:(spec_loFar.l0 k a1 (l0_0.length:Int) y254 y257 y260 (y254.length:Int) 0 l0_0 l0_1 a0_2)=some (r1,r2):=by first|(rw[hy260];with_reducible exact H)|(have H2_:=(Option.bind_some _ _).symm.trans H;rw[hy260];with_reducible exact H2_)|(have H2_:=(Option.bind_some _ _).symm.trans H;with_reducible exact H2_)|with_reducible exact H|(rw[hy260];exact H)|exact H
    have Ny260:=am' hy260;clear hy260;have H':=am' H;clear H;go_enter Try.func103,Try.ntmps103
    try go_wp2_with (first|((with_reducible refine gate_dst (N:=2) rfl ?_);refine box_event ?hg (N:=2) ?hd (cs:=#[.slice A0_0 l0_0.length c0_0, .slice A0_1 l0_1.length c0_1, .int .i64 a0_2]) (t:=29) ?hr ?_;(case hd=>rfl);(case hg=>rfl);(case hr=>first|(go_simp;done)|(go_simp;rfl));intro gb253 hg w9 hbox hb;have n0_:=am' (bt' xb' hb);have n1_:=am' (hbox);have n2_:=am' ((by rw[hg];exact (bz' xb'):w.heap.size≤gb253));have n3_:=am' ((by rw[hg];exact (bz' xb'):w.heap.size≤gb253));clear HB;have HB:=n0_;have BK253:=n1_;have GW253:=n2_;have GE253:=n3_;clear n0_ n1_ n2_ n3_;clear hb hbox hg;have hcz10_0:w9.cell? ⟨gb253,0,none⟩=some (.slice A0_0 l0_0.length c0_0):=(bc' BK253.out 0).trans rfl;have hcz10_1:w9.cell? ⟨gb253,1,none⟩=some (.slice A0_1 l0_1.length c0_1):=(bc' BK253.out 1).trans rfl;have hcz10_2:w9.cell? ⟨gb253,2,none⟩=some (.int .i64 a0_2):=(bc' BK253.out 2).trans rfl;have hfz10_0:=bf' BK253.out 0;have hfz10_1:=bf' BK253.out 1;have hfz10_2:=bf' BK253.out 2))
    have n0_:=am' (kd' BK253.out);have n1_:=am' (be' HB.out);clear BK253;clear HB;have BK253:=n0_;have HB:=n1_;clear n0_ n1_;refine start_ (n:=8) (S:=fun w'=>True) (ds:=[]) #[false,false,false,false,false,false,false,false] xk' rfl rfl trivial (fun hHeld=>?_);refine with_tabW spec_loFar.tab2 spec_loFar.bits2 (fun HT_ HW_=>?_);generalize w9.drew=w11 at BK253 HB hHeld ⊢
    refine pure_ (i:=0) (N:=some 23) (v:=?_) (a':=?_) #[true,false,false,false,false,false,false,false] rfl rfl (any_of HT_.out xk') (fun _ _ _ h=>h) (Or.inl ⟨by rfl,?_⟩) ?_ ?_
    rotate_left
    ·
     intro w';go_simp;with_reducible rfl
    rotate_left
    ·
     simp only[Act.put,sa',sb',sc',i64_w,i32_w];rfl
    refine pure_ (i:=1) (N:=some 24) (v:=?_) (a':=?_) #[true,true,false,false,false,false,false,false] rfl rfl (any_of HT_.out xk') (fun _ _ _ h=>h) (Or.inl ⟨by rfl,?_⟩) ?_ ?_
    rotate_left
    ·
     intro w';go_simp;with_reducible rfl
    rotate_left
    ·
     simp only[Act.put,sa',sb',sc',i64_w,i32_w];rfl
    refine pure_ (i:=3) (N:=some 26) (v:=?_) (a':=?_) #[true,true,false,true,false,false,false,false] rfl rfl (any_of HT_.out xk') (fun _ _ _ h=>h) (Or.inl ⟨by rfl,?_⟩) ?_ ?_
    rotate_left
    ·
     intro w';go_simp;with_reducible rfl
    rotate_left
    ·
     simp only[Act.put,sa',sb',sc',i64_w,i32_w];rfl
    refine pure_ (i:=4) (N:=some 27) (v:=?_) (a':=?_) #[true,true,false,true,true,false,false,false] rfl rfl (any_of HT_.out xk') (fun _ _ _ h=>h) (Or.inl ⟨by rfl,?_⟩) ?_ ?_
    rotate_left
    ·
     intro w';go_simp;with_reducible rfl
    rotate_left
    ·
     simp only[Act.put,sa',sb',sc',i64_w,i32_w];rfl
    refine join_ (σ:=Value × Value) 1 #[true,true,true,true,true,true,true,false] (fun s_=>[(25,s_.1),(28,s_.2),(7,s_.1)]) (fun s_ w'=>(Kd.R (Kd.int .i64) 3 w' w.heap.size (fun k_=>some k_≠(s_.2:Value).ownBlock) s_.1 y254)∧(Kd.R (Kd.int .i64) 3 w' w.heap.size (fun k_=>some k_≠(s_.1:Value).ownBlock) s_.2 y257)∧(w'.heap[gb253]? = some (.cells #[.slice A0_0 l0_0.length c0_0, .slice A0_1 l0_1.length c0_1, .int .i64 a0_2] 29 (0,0)))∧(Below w.heap.size w w')) ?_ ?_
    rotate_left
    ·
     intro hCont;refine two_ (i:=2) (j:=5) (Ni:=some 25) (Nj:=some 28) #[true,true,true,true,true,false,false,false] #[true,true,false,true,true,true,false,false] rfl rfl rfl rfl (two_of HT_.out xk') (by decide) (by decide) (fun K hK=>?_) (fun K hK=>?_)
     ·
      skip
      refine Kd.R_make_step (Kd.int .i64) _ 3 (by rfl) (N:=25) rfl 22 _ _ rfl ji3 rfl rfl Try.underlying22 (.int .i64 0) 8 info3 rfl (by decide) (by omega) 0 (ok:=fun _=>True) (okp:=fun _=>True) rfl (fun _ hk=>hk) trivial (od' xa') (Nat.le_trans (Nat.mul_le_mul_right _ (od' xa':ji3.toNat≤35184372088832)) (by omega)) (Below.refl _ _) (Nat.le_refl _) ?_
      intro v255 w12 ho13 hb hg_ hnew_;clear hg_ hnew_;(first|rw[← Ny254.out] at ho13|(simp only[Int.reduceToNat] at ho13;rw[← Ny254.out] at ho13))
      have n0_:=am' (Kd.R_lower ho13 (bz' (yb' GE253.out)));have n1_:=am' (bb' (g:=gb253) (o := .cells #[.slice A0_0 l0_0.length c0_0, .slice A0_1 l0_1.length c0_1, .int .i64 a0_2] 29 (0,0)) (kk' BK253.out) hb);have n2_:=am' (bt' (yb' GE253.out) hb);clear BK253;clear HB;have HO256:=n0_;have BK253:=n1_;have HB:=n2_;clear n0_ n1_ n2_;clear hb ho13;refine hK.out _ _ trivial (fun hHeld=>?_);clear hK K;refine norm_ (a':=?_) ?_ ?_
      rotate_left
      ·
       show Act.put _ (some 25) _=_
       simp only[Act.put,sa',sb',sc',i64_w,i32_w];rfl
      refine pure_ (i:=6) (N:=some 7) (v:=?_) (a':=?_) #[true,true,true,true,true,false,true,false] rfl rfl (any_of HT_.out xk') (fun _ _ _ h=>h) (Or.inl ⟨by rfl,?_⟩) ?_ ?_
      rotate_left
      ·
       intro w';go_simp;with_reducible rfl
      rotate_left
      ·
       simp only[Act.put,sa',sb',sc',i64_w,i32_w];rfl
      refine one_ (i:=5) (N:=some 28) #[true,true,true,true,true,true,true,false] rfl rfl (one_of HT_.out xk') (by decide) (fun K hK=>?_);refine Kd.R_make_step (Kd.int .i64) _ 3 (by rfl) (N:=28) rfl 22 _ _ rfl ji3 rfl rfl Try.underlying22 (.int .i64 0) 8 info3 rfl (by decide) (by omega) 0 (ok:=fun _=>True) (okp:=fun _=>True) rfl (fun _ hk=>hk) trivial (od' xa') (Nat.le_trans (Nat.mul_le_mul_right _ (od' xa':ji3.toNat≤35184372088832)) (by omega)) (Below.refl _ _) (Nat.le_refl _) ?_
      intro v258 w14 ho15 hb hg_ hnew_;clear hg_ hnew_;(first|rw[← Ny257.out] at ho15|(simp only[Int.reduceToNat] at ho15;rw[← Ny257.out] at ho15))
      have n0_:=am' (Kd.R_elder' (kr' HO256.out) (Kd.R_base ho15) hb);have n1_:=am' (Kd.R_lower (Kd.R_new' ho15 (Kd.R_lt (kr' HO256.out))) (bz' (yb' GE253.out)));have n2_:=am' (bb' (g:=gb253) (o := .cells #[.slice A0_0 l0_0.length c0_0, .slice A0_1 l0_1.length c0_1, .int .i64 a0_2] 29 (0,0)) (kk' BK253.out) hb);have n3_:=am' (bt' (yb' GE253.out) hb);clear HO256;clear BK253;clear HB;have HO256:=n0_;have HO259:=n1_;have BK253:=n2_;have HB:=n3_;clear n0_ n1_ n2_ n3_;clear hb ho15;refine hK.out _ _ trivial (fun hHeld=>?_);clear hK K;refine norm_ (a':=?_) ?_ ?_
      rotate_left
      ·
       show Act.put _ (some 28) _=_
       simp only[Act.put,sa',sb',sc',i64_w,i32_w];rfl
      exact norm_ (by simp only[putAll,Act.put,sa',sb',sc']) (hCont (v255,v258) _ ⟨(by (with_reducible repeat (first|apply ra'|apply rn'|apply rw'));exact Kd.R_mono HO256.out (fun _ hk=>hk.2)),(by (with_reducible repeat (first|apply ra'|apply rn'|apply rw'));exact Kd.R_mono HO259.out (fun _ hk=>hk.2)),(kk' BK253.out),(yb' GE253.out)⟩)
     ·
      skip
      refine Kd.R_make_step (Kd.int .i64) _ 3 (by rfl) (N:=28) rfl 22 _ _ rfl ji3 rfl rfl Try.underlying22 (.int .i64 0) 8 info3 rfl (by decide) (by omega) 0 (ok:=fun _=>True) (okp:=fun _=>True) rfl (fun _ hk=>hk) trivial (od' xa') (Nat.le_trans (Nat.mul_le_mul_right _ (od' xa':ji3.toNat≤35184372088832)) (by omega)) (Below.refl _ _) (Nat.le_refl _) ?_
      intro v258 w12 ho13 hb hg_ hnew_;clear hg_ hnew_;(first|rw[← Ny257.out] at ho13|(simp only[Int.reduceToNat] at ho13;rw[← Ny257.out] at ho13))
      have n0_:=am' (Kd.R_lower ho13 (bz' (yb' GE253.out)));have n1_:=am' (bb' (g:=gb253) (o := .cells #[.slice A0_0 l0_0.length c0_0, .slice A0_1 l0_1.length c0_1, .int .i64 a0_2] 29 (0,0)) (kk' BK253.out) hb);have n2_:=am' (bt' (yb' GE253.out) hb);clear BK253;clear HB;have HO259:=n0_;have BK253:=n1_;have HB:=n2_;clear n0_ n1_ n2_;clear hb ho13;refine hK.out _ _ trivial (fun hHeld=>?_);clear hK K;refine norm_ (a':=?_) ?_ ?_
      rotate_left
      ·
       show Act.put _ (some 28) _=_
       simp only[Act.put,sa',sb',sc',i64_w,i32_w];rfl
      refine one_ (i:=2) (N:=some 25) #[true,true,true,true,true,true,false,false] rfl rfl (one_of HT_.out xk') (by decide) (fun K hK=>?_);refine Kd.R_make_step (Kd.int .i64) _ 3 (by rfl) (N:=25) rfl 22 _ _ rfl ji3 rfl rfl Try.underlying22 (.int .i64 0) 8 info3 rfl (by decide) (by omega) 0 (ok:=fun _=>True) (okp:=fun _=>True) rfl (fun _ hk=>hk) trivial (od' xa') (Nat.le_trans (Nat.mul_le_mul_right _ (od' xa':ji3.toNat≤35184372088832)) (by omega)) (Below.refl _ _) (Nat.le_refl _) ?_
      intro v255 w14 ho15 hb hg_ hnew_;clear hg_ hnew_;(first|rw[← Ny254.out] at ho15|(simp only[Int.reduceToNat] at ho15;rw[← Ny254.out] at ho15))
      have n0_:=am' (Kd.R_elder' (kr' HO259.out) (Kd.R_base ho15) hb);have n1_:=am' (Kd.R_lower (Kd.R_new' ho15 (Kd.R_lt (kr' HO259.out))) (bz' (yb' GE253.out)));have n2_:=am' (bb' (g:=gb253) (o := .cells #[.slice A0_0 l0_0.length c0_0, .slice A0_1 l0_1.length c0_1, .int .i64 a0_2] 29 (0,0)) (kk' BK253.out) hb);have n3_:=am' (bt' (yb' GE253.out) hb);clear HO259;clear BK253;clear HB;have HO259:=n0_;have HO256:=n1_;have BK253:=n2_;have HB:=n3_;clear n0_ n1_ n2_ n3_;clear hb ho15;refine hK.out _ _ trivial (fun hHeld=>?_);clear hK K;refine norm_ (a':=?_) ?_ ?_
      rotate_left
      ·
       show Act.put _ (some 25) _=_
       simp only[Act.put,sa',sb',sc',i64_w,i32_w];rfl
      refine pure_ (i:=6) (N:=some 7) (v:=?_) (a':=?_) #[true,true,true,true,true,true,true,false] rfl rfl (any_of HT_.out xk') (fun _ _ _ h=>h) (Or.inl ⟨by rfl,?_⟩) ?_ ?_
      rotate_left
      ·
       intro w';go_simp;with_reducible rfl
      rotate_left
      ·
       simp only[Act.put,sa',sb',sc',i64_w,i32_w];rfl
      exact norm_ (by simp only[putAll,Act.put,sa',sb',sc']) (hCont (v255,v258) _ ⟨(by (with_reducible repeat (first|apply ra'|apply rn'|apply rw'));exact Kd.R_mono HO256.out (fun _ hk=>hk.2)),(by (with_reducible repeat (first|apply ra'|apply rn'|apply rw'));exact Kd.R_mono HO259.out (fun _ hk=>hk.2)),(kk' BK253.out),(yb' GE253.out)⟩)
    rintro ⟨v255,v258⟩ w16 ⟨h0_,h1_,h2_,h3_⟩
    have n0_:Aside0 (Kd.R (Kd.int .i64) 3 w16 w.heap.size (fun k_=>some k_≠(v258:Value).ownBlock) v255 y254):=⟨h0_⟩
    have n1_:Aside0 (Kd.R (Kd.int .i64) 3 w16 w.heap.size (fun k_=>some k_≠(v255:Value).ownBlock) v258 y257):=⟨h1_⟩
    have n2_:Aside0 (w16.heap[gb253]? = some (.cells #[.slice A0_0 l0_0.length c0_0, .slice A0_1 l0_1.length c0_1, .int .i64 a0_2] 29 (0,0))):=⟨h2_⟩
    have n3_:Aside0 (Below w.heap.size w w16):=⟨h3_⟩
    clear BK253;clear HB;clear h0_ h1_ h2_ h3_;have HO256:=n0_;have HO259:=n1_;have BK253:=n2_;have HB:=n3_;clear n0_ n1_ n2_ n3_;have hHeld:=trivial;refine norm_ (a':=?_) ?_ ?_
    rotate_left
    ·
     simp only[putAll,Act.put,sa',sb',sc'];rfl
    refine pure_ (i:=7) (N:=some 8) (v:=?_) (a':=?_) #[true,true,true,true,true,true,true,true] rfl rfl (any_of HT_.out xk') (fun _ _ _ h=>h) (Or.inl ⟨by rfl,?_⟩) ?_ ?_
    rotate_left
    ·
     intro w';go_simp;with_reducible rfl
    rotate_left
    ·
     simp only[Act.put,sa',sb',sc',i64_w,i32_w];rfl
    refine done_ (done_of HT_.out xk') ?_
    try go_wp2_with (first|((with_reducible refine gate_dst (N:=31) rfl ?_);refine Kd.R_make Kd.bool _ 4 rfl (N:=31) rfl 23 _ _ rfl ji3 rfl rfl Try.underlying23 (.bool false) 1 info4 rfl (by decide) (by omega) false (ok:=fun _=>True) (okp:=fun _=>True) rfl (fun _ hk=>hk) trivial (od' xa') (Nat.le_trans (Nat.mul_le_mul_right _ (od' xa':ji3.toNat≤281474976710656)) (by omega)) (Below.refl _ _) (Nat.le_refl _) ?_;intro v261 w17 ho18 hb hg_ hnew_;clear hg_ hnew_;(first|rw[← Ny260.out] at ho18|(simp only[Int.reduceToNat] at ho18;rw[← Ny260.out] at ho18));have n0_:=am' (rb' (kr' HO256.out) hb);have n1_:=am' (rb' (kr' HO259.out) hb);have n2_:=am' (Kd.R_lower ho18 (bz' (yb' GE253.out)));have n3_:=am' (bb' (g:=gb253) (o := .cells #[.slice A0_0 l0_0.length c0_0, .slice A0_1 l0_1.length c0_1, .int .i64 a0_2] 29 (0,0)) (kk' BK253.out) hb);have n4_:=am' (bt' (yb' GE253.out) hb);clear HO256;clear HO259;clear BK253;clear HB;have HO256:=n0_;have HO259:=n1_;have HO262:=n2_;have BK253:=n3_;have HB:=n4_;clear n0_ n1_ n2_ n3_ n4_;clear hb ho18;obtain ⟨Ao19,co19,eo19⟩:=Kd.R_slice HO256.out;subst eo19))
    go_loopg [34] k (fun kq v34 w'=>∃ (x7_1:List Int) (x34_1:Int),v34 = .int .i64 x34_1∧Aside0 (spec_loFar.l0 kq a1 (l0_0.length:Int) x7_1 y257 y260 (y254.length:Int) x34_1 l0_0 l0_1 a0_2=some (r1,r2))∧Aside0 (kq≤k)∧Aside0 (Kd.R (Kd.int .i64) 3 w' w.heap.size (fun k_=>some k_≠(v258:Value).ownBlock) (.slice Ao19 y254.length co19) x7_1)∧Aside0 (Kd.R (Kd.int .i64) 3 w' w.heap.size (fun k_=>some k_≠((.slice Ao19 y254.length co19):Value).ownBlock) v258 y257)∧Aside0 (Kd.R Kd.bool 4 w' w.heap.size (fun _=>True) v261 y260)∧Aside0 (w'.heap[gb253]? = some (.cells #[(.slice A0_0 l0_0.length c0_0),(.slice A0_1 l0_1.length c0_1), .int .i64 a0_2] 29 (0,0)))∧Aside0 (Below w.heap.size w w'))
    case atStart=>exact ⟨(y254),(0),xs',H',⟨Nat.le_refl _⟩,⟨kr' HO256.out⟩,⟨kr' HO259.out⟩,⟨kr' HO262.out⟩,⟨kk' BK253.out⟩,⟨yb' GE253.out⟩⟩
    case round =>
     clear H';try clear c1
     try clear p2
     try clear c4
     try clear c4b0
     try clear c4b1
     try clear c5
     try clear c5b0
     try clear c5b1
     try clear c6
     try clear c6b0
     try clear p6
     try clear c7
     try clear c7b0
     try clear c8
     try clear c8b0
     try clear c8b1
     try clear c10
     try clear hcz10_0
     try clear hcz10_1
     try clear hcz10_2
     try clear hfz10_0
     try clear hfz10_1
     try clear hfz10_2
     obtain ⟨x7_1,x34_1,rfl,HA,HK1,HO_7,HO_8,HO_9,BK253,HB⟩:=hrel;have hl7_1:=(Kd.R_reads' HO_7.out).1;rw[hl7_1] at HO_7
     (try simp only[hl7_1])
     (try simp only[hl7_1] at BK253)
     (try simp only[hl7_1] at HO_8)
     (try simp only[hl7_1] at HO_9)
     cases gk with
     | zero=>exact absurd HA.out (by simp[spec_loFar.l0])
     | succ k1 =>
      have H:=HA.out;clear HA;simp only[spec_loFar.l0] at H;by_cases c20:x34_1 < (y254.length:Int)
      ·
       rw[if_pos c20] at H;have c20b0:decide (x34_1 < (y254.length:Int))=true:=dt' c20;clear c20;by_cases c21:0≤x34_1
       ·
        rw[if_pos c21] at H;have c21b0:decide (0≤x34_1)=true:=dt' c21;clear c21;by_cases c22:x34_1 < (x7_1.length:Int)
        ·
         rw[if_pos c22] at H;have c22b0:decide (x34_1 < (x7_1.length:Int))=true:=dt' c22;clear c22;obtain ⟨y263,hy263⟩:∃ y_:List Int,y_=(x7_1.set (x34_1:Int).toNat (-1)):=⟨_,rfl⟩
         replace H:(spec_loFar.l0 k1 a1 (l0_0.length:Int) y263 y257 y260 (y254.length:Int) (wrap64 (x34_1+1)) l0_0 l0_1 a0_2)=some (r1,r2):=by first|(rw[hy263];with_reducible exact H)|(have H2_:=(Option.bind_some _ _).symm.trans H;rw[hy263];with_reducible exact H2_)|(have H2_:=(Option.bind_some _ _).symm.trans H;with_reducible exact H2_)|with_reducible exact H|(rw[hy263];exact H)|exact H
         have Ny263:=am' hy263;clear hy263;have H':=am' H;clear H;have p23:0≤(x34_1:Int):=od' xa';have q23:(x34_1:Int) < ((x7_1.length:Int):Int):=od' xa';obtain ⟨go23,co23,eo23,gb23,gl23,cl23,HG23⟩:=Kd.R_form HO_7.out (by omega)
         (first|cases eo23|(injection eo23 with ea_ en_ ec_;(first|subst ea_|(injection ea_ with ea_;subst ea_));subst ec_;clear en_))
         have GB23:=am' gb23;have GG23:=am' HG23;clear gb23 gl23 HG23;obtain ⟨hx23_0,hf23_0⟩:=Kd.R_celln 0 HO_7.out (x34_1:Int) p23 q23;replace p23:=eq_true p23;replace q23:=eq_true q23;have HP24:=Kd.R_putg HO_7.out (x34_1:Int) (-1);go_wp2_with (first|((with_reducible refine gate_store (t:=3) (p:=39) rfl ?_);refine store_event (t:=3) (p:=39) (v:=?vo_w25) (w1:=(wr.setCell ⟨go23,(x34_1:Int).toNat,none⟩ (.int .i64 (-1)))) ?hg ?ho ?hn ?hr ?_;(case ho=>rfl);(case hg=>rfl);(case hn=>rfl);(case hr=>first|(go_simp;done)|(go_simp;rfl));intro w25 hw;have hg:wr.grownBy w25 (some go23):=(by rw[hw];exact HP24.2);have hp_:Kd.R (Kd.int .i64) 3 w25 w.heap.size (fun k_=>some k_≠(v258:Value).ownBlock) (.slice (some ⟨go23,0,none⟩) x7_1.length co19) y263:=(by rw[hw,Ny263.out];exact HP24.1);clear HP24;have n0_:=am' (hp_);have n1_:=am' (Kd.R_after (v:=(.slice (some ⟨go23,0,none⟩) x7_1.length co19)) (v1:=(.slice (some ⟨go23,0,none⟩) x7_1.length co19)) (ok:=(fun _=>True)) (by (with_reducible repeat (first|apply ra'|apply rn'|apply rw'));exact Kd.R_mono HO_8.out (fun _ hk=>⟨trivial,hk⟩)) hg (.inl rfl));have n2_:=am' (Kd.R_over' (v:=(.slice (some ⟨go23,0,none⟩) x7_1.length co19)) (kr' HO_9.out) (Kd.R_typed HO_7.out) (by decide) hg);have n3_:=am' (blk_grown (g:=gb253) (o := .cells #[.slice A0_0 l0_0.length c0_0, .slice A0_1 l0_1.length c0_1, .int .i64 a0_2] 29 (0,0)) (kk' BK253.out) hg (Kd.R_ne HO_7.out BK253.out (by decide)));have n4_:=am' ((by rw[hw];exact bs' (HB.out) GB23.out:Below w.heap.size w w25));clear HO_7;clear HO_8;clear HO_9;clear BK253;clear HB;have HO_7:=n0_;have HO_8:=n1_;have HO_9:=n2_;have BK253:=n3_;have HB:=n4_;clear n0_ n1_ n2_ n3_ n4_;clear hg hw hp_))
         (try simp only[← hl7_1])
         go_roundg k1
         case measure=>have:=HK1.out;omega
         case rel=>exact ⟨(y263),(wrap64 (x34_1+1)),xs',H',⟨by have:=HK1.out;omega⟩,⟨by (try simp only[hl7_1]);(with_reducible repeat (first|apply ra'|apply rn'|apply rw'));exact HO_7.out⟩,⟨by (try simp only[hl7_1]);(with_reducible repeat (first|apply ra'|apply rn'|apply rw'));exact Kd.R_mono HO_8.out (fun _ hk=>hk.2)⟩,⟨by (try simp only[hl7_1]);(with_reducible repeat (first|apply ra'|apply rn'|apply rw'));exact HO_9.out⟩,⟨by (try simp only[hl7_1]);(with_reducible repeat (first|refine kn' ?_ _|refine kd' ?_|refine ka' ?_ _));exact BK253.out⟩,⟨yb' GE253.out⟩⟩
        ·
         rw[if_neg c22] at H;exact absurd H (by simp)
       ·
        rw[if_neg c21] at H;exact absurd H (by simp)
      ·
       rw[if_neg c20] at H;have c20b0:decide (x34_1 < (y254.length:Int))=false:=df' c20
       (try (have c20bz:=c20b0;rw[hl7_1] at c20bz))
       clear c20;replace H:=Option.bind_eq_some_iff.mp H;obtain ⟨⟨t264,t267⟩,A260,H⟩:=H;replace H:((spec_paLast.f k1 t264 t267).bind fun bt268=>((spec_seIndex.f k1 bt268.1 bt268.2).bind fun t272=>(if 0≤t272 then (if t272 < (x7_1.length:Int) then (if t272 < (y257.length:Int) then (spec_loFar.l1 k1 a1 (l0_0.length:Int) (x7_1.set (t272:Int).toNat 0) (y257.set (t272:Int).toNat 1) y260 l0_0 l0_1 a0_2) else (none)) else (none)) else (none))))=some (r1,r2):=H;have A26:=am' A260;clear A260;replace H:=Option.bind_eq_some_iff.mp H;obtain ⟨⟨t268,t271⟩,A270,H⟩:=H;replace H:((spec_seIndex.f k1 t268 t271).bind fun t272=>(if 0≤t272 then (if t272 < (x7_1.length:Int) then (if t272 < (y257.length:Int) then (spec_loFar.l1 k1 a1 (l0_0.length:Int) (x7_1.set (t272:Int).toNat 0) (y257.set (t272:Int).toNat 1) y260 l0_0 l0_1 a0_2) else (none)) else (none)) else (none)))=some (r1,r2):=H;have A27:=am' A270;clear A270;replace H:=Option.bind_eq_some_iff.mp H;obtain ⟨t272,A280,H⟩:=H;replace H:(if 0≤t272 then (if t272 < (x7_1.length:Int) then (if t272 < (y257.length:Int) then (spec_loFar.l1 k1 a1 (l0_0.length:Int) (x7_1.set (t272:Int).toNat 0) (y257.set (t272:Int).toNat 1) y260 l0_0 l0_1 a0_2) else (none)) else (none)) else (none))=some (r1,r2):=H;have A28:=am' A280;clear A280;by_cases c29:0≤t272
       ·
        rw[if_pos c29] at H;have c29b0:decide (0≤t272)=true:=dt' c29;clear c29;by_cases c30:t272 < (x7_1.length:Int)
        ·
         rw[if_pos c30] at H;have c30b0:decide (t272 < (x7_1.length:Int))=true:=dt' c30;clear c30;obtain ⟨y273,hy273⟩:∃ y_:List Int,y_=(x7_1.set (t272:Int).toNat 0):=⟨_,rfl⟩
         replace H:(if t272 < (y257.length:Int) then (spec_loFar.l1 k1 a1 (l0_0.length:Int) y273 (y257.set (t272:Int).toNat 1) y260 l0_0 l0_1 a0_2) else (none))=some (r1,r2):=by first|(rw[hy273];with_reducible exact H)|(have H2_:=(Option.bind_some _ _).symm.trans H;rw[hy273];with_reducible exact H2_)|(have H2_:=(Option.bind_some _ _).symm.trans H;with_reducible exact H2_)|with_reducible exact H|(rw[hy273];exact H)|exact H
         have Ny273:=am' hy273;clear hy273;by_cases c32:t272 < (y257.length:Int)
         ·
          rw[if_pos c32] at H;have c32b0:decide (t272 < (y257.length:Int))=true:=dt' c32;clear c32;obtain ⟨y274,hy274⟩:∃ y_:List Int,y_=(y257.set (t272:Int).toNat 1):=⟨_,rfl⟩
          replace H:(spec_loFar.l1 k1 a1 (l0_0.length:Int) y273 y274 y260 l0_0 l0_1 a0_2)=some (r1,r2):=by first|(rw[hy274];with_reducible exact H)|(have H2_:=(Option.bind_some _ _).symm.trans H;rw[hy274];with_reducible exact H2_)|(have H2_:=(Option.bind_some _ _).symm.trans H;with_reducible exact H2_)|with_reducible exact H|(rw[hy274];exact H)|exact H
          have Ny274:=am' hy274;clear hy274;have H':=am' H;clear H;have hcz34_0:wr.cell? ⟨gb253,0,none⟩=some (.slice A0_0 l0_0.length c0_0):=(bc' BK253.out 0).trans rfl;have hcz34_1:wr.cell? ⟨gb253,1,none⟩=some (.slice A0_1 l0_1.length c0_1):=(bc' BK253.out 1).trans rfl;have hcz34_2:wr.cell? ⟨gb253,2,none⟩=some (.int .i64 a0_2):=(bc' BK253.out 2).trans rfl;have hfz34_0:=bf' BK253.out 0;have hfz34_1:=bf' BK253.out 1;have hfz34_2:=bf' BK253.out 2;go_wp2_with (first|((with_reducible refine gate_callee (f:=67) rfl ?_);refine goesL_ (some 42) rfl rfl Try.func67 xk' rfl #[.agg #[.slice A0_0 l0_0.length c0_0, .slice A0_1 l0_1.length c0_1, .int .i64 a0_2]] rfl xl' ?_;(with_reducible refine (spec_loParty.calls (fun k_=>k_ < w.heap.size) _ _ l0_0 _ _ l0_1 a0_2 t264 t267 _ ?side1 ?side2 ?side3 A26.out).mono ?_);(case side1=>exact Kd.V_mk HC0_0.out (Kd.F_below (Kd.C_F (Kd.heap_int .i64) HR0_0.out) (yb' GE253.out)));(case side2=>exact kc' (cb' HR0_1.out HB.out));(case side3=>exact HC0_1.out);rintro e w35 ⟨v265,rfl,ho0,hb⟩;refine ⟨_,rfl,?_⟩;have n0_:=am' (rb' (kr' HO_7.out) hb);have n1_:=am' (rb' (kr' HO_8.out) hb);have n2_:=am' (rb' (kr' HO_9.out) hb);have n3_:=am' (Kd.V_lower (Kd.V_mono (ok':=fun k_=>some k_≠(.slice Ao19 x7_1.length co19:Value).ownBlock∧some k_≠(v258:Value).ownBlock∧some k_≠(v261:Value).ownBlock∧k_≠gb253) ho0 (fun k_ hk_=>⟨Or.elim hk_ (fun hs_=>fun e_=>Nat.not_le.2 hs_ (Kd.R_base HO_7.out k_ e_.symm)) (fun hn_=>(Kd.fresh' (Kd.R_lt (kr' HO_7.out)) k_ hn_)),Or.elim hk_ (fun hs_=>fun e_=>Nat.not_le.2 hs_ (Kd.R_base HO_8.out k_ e_.symm)) (fun hn_=>(Kd.fresh' (Kd.R_lt (kr' HO_8.out)) k_ hn_)),Or.elim hk_ (fun hs_=>fun e_=>Nat.not_le.2 hs_ (Kd.R_base HO_9.out k_ e_.symm)) (fun hn_=>(Kd.fresh' (Kd.R_lt (kr' HO_9.out)) k_ hn_)),Or.elim hk_ (fun hs_=>fun e_=>Nat.not_le.2 hs_ (by rw[e_];exact GW253.out)) (fun hn_=>(Kd.freshB (g:=gb253) (o := .cells #[.slice A0_0 l0_0.length c0_0, .slice A0_1 l0_1.length c0_1, .int .i64 a0_2] 29 (0,0)) (kk' BK253.out) k_ hn_))⟩)) (bz' (yb' GE253.out)));have n4_:=am' (bb' (g:=gb253) (o := .cells #[.slice A0_0 l0_0.length c0_0, .slice A0_1 l0_1.length c0_1, .int .i64 a0_2] 29 (0,0)) (kk' BK253.out) hb);have n5_:=am' (bt' (yb' GE253.out) hb);clear HO_7;clear HO_8;clear HO_9;clear BK253;clear HB;have HO_7:=n0_;have HO_8:=n1_;have HO_9:=n2_;have HO266:=n3_;have BK253:=n4_;have HB:=n5_;clear n0_ n1_ n2_ n3_ n4_ n5_;(try clear hb);(try clear hb2);(try clear hk);(try clear hi);(try clear ho0);obtain ⟨Ao36,co36,eo36⟩:=Kd.V_slice HO266.out;subst eo36)|((with_reducible refine gate_callee (f:=69) rfl ?_);refine goesL_ (some 43) rfl rfl Try.func69 xk' rfl #[.agg #[.slice Ao36 t264.length co36, .int .i64 t267]] rfl xl' ?_;(with_reducible refine (spec_paLast.calls k1 _ _ t264 t267 t268 t271 _ ?side1 ?side2 A27.out).mono ?_);(case side1=>exact kc' ((Kd.V_reads' HO266.out).2.2));(case side2=>exact (Kd.V_reads' HO266.out).2.1);rintro e w37 ⟨v269,rfl,ho0,hb⟩;refine ⟨_,rfl,?_⟩;have n0_:=am' (rb' (kr' HO_7.out) hb);have n1_:=am' (rb' (kr' HO_8.out) hb);have n2_:=am' (Kd.R_elder' (kr' HO_9.out) (Kd.R_base ho0) hb);have n3_:=am' (Kd.V_elder' (kV' HO266.out) (Kd.R_base ho0) hb);have n4_:=am' (Kd.R_lower (Kd.R_new' ho0 (Kd.R_lt (kr' HO_9.out))) (bz' (yb' GE253.out)));have n5_:=am' (bb' (g:=gb253) (o := .cells #[.slice A0_0 l0_0.length c0_0, .slice A0_1 l0_1.length c0_1, .int .i64 a0_2] 29 (0,0)) (kk' BK253.out) hb);have n6_:=am' (bt' (yb' GE253.out) hb);clear HO_7;clear HO_8;clear HO_9;clear HO266;clear BK253;clear HB;have HO_7:=n0_;have HO_8:=n1_;have HO_9:=n2_;have HO266:=n3_;have HO270:=n4_;have BK253:=n5_;have HB:=n6_;clear n0_ n1_ n2_ n3_ n4_ n5_ n6_;(try clear hb);(try clear hb2);(try clear hk);(try clear hi);(try clear ho0);obtain ⟨Ao38,co38,eo38⟩:=Kd.R_slice HO270.out;subst eo38)|((with_reducible refine gate_callee (f:=82) rfl ?_);refine goesL_ (some 44) rfl rfl Try.func82 xk' rfl #[.agg #[.slice Ao38 t268.length co38, .bool t271]] rfl xl' ?_;(with_reducible refine (spec_seIndex.calls k1 _ _ t268 t271 t272 _ ?side1 ?side2 A28.out).mono ?_);(case side1=>exact kc' ((Kd.R_reads' HO270.out).2.2));(case side2=>exact (Kd.R_reads' HO270.out).2.1);rintro e w39 ⟨rfl,hb⟩;refine ⟨_,rfl,?_⟩;have n0_:=am' (rb' (kr' HO_7.out) hb);have n1_:=am' (rb' (kr' HO_8.out) hb);have n2_:=am' (rb' (kr' HO_9.out) hb);have n3_:=am' (Kd.V_below (kV' HO266.out) hb);have n4_:=am' (rb' (kr' HO270.out) hb);have n5_:=am' (bb' (g:=gb253) (o := .cells #[.slice A0_0 l0_0.length c0_0, .slice A0_1 l0_1.length c0_1, .int .i64 a0_2] 29 (0,0)) (kk' BK253.out) hb);have n6_:=am' (bt' (yb' GE253.out) hb);clear HO_7;clear HO_8;clear HO_9;clear HO266;clear HO270;clear BK253;clear HB;have HO_7:=n0_;have HO_8:=n1_;have HO_9:=n2_;have HO266:=n3_;have HO270:=n4_;have BK253:=n5_;have HB:=n6_;clear n0_ n1_ n2_ n3_ n4_ n5_ n6_;(try clear hb);(try clear hb2);(try clear hk);(try clear hi);have p31:0≤(t272:Int):=od' xa';have q31:(t272:Int) < ((x7_1.length:Int):Int):=od' xa';obtain ⟨go31,co31,eo31,gb31,gl31,cl31,HG31⟩:=Kd.R_form HO_7.out (by omega);(first|cases eo31|(injection eo31 with ea_ en_ ec_;(first|subst ea_|(injection ea_ with ea_;subst ea_));subst ec_;clear en_));have GB31:=am' gb31;have GG31:=am' HG31;clear gb31 gl31 HG31;obtain ⟨hx31_0,hf31_0⟩:=Kd.R_celln 0 HO_7.out (t272:Int) p31 q31;replace p31:=eq_true p31;replace q31:=eq_true q31;obtain ⟨hy40_,hz40_⟩:=Kd.R_celln 0 HO_7.out (t272:Int) (od' xa') (od' xa');have HP40:=Kd.R_putg HO_7.out (t272:Int) 0)|((with_reducible refine gate_store (t:=3) (p:=47) rfl ?_);refine store_event (t:=3) (p:=47) (v:=?vo_w41) (w1:=(w39.setCell ⟨go31,(t272:Int).toNat,none⟩ (.int .i64 0))) ?hg ?ho ?hn ?hr ?_;(case ho=>rfl);(case hg=>rfl);(case hn=>rfl);(case hr=>first|(go_simp;done)|(go_simp;rfl));intro w41 hw;have hg:w39.grownBy w41 (some go31):=(by rw[hw];exact HP40.2);have hp_:Kd.R (Kd.int .i64) 3 w41 w.heap.size (fun k_=>some k_≠(v258:Value).ownBlock) (.slice (some ⟨go31,0,none⟩) x7_1.length co19) y273:=(by rw[hw,Ny273.out];exact HP40.1);clear HP40;have n0_:=am' (hp_);have n1_:=am' (Kd.R_after (v:=(.slice (some ⟨go31,0,none⟩) x7_1.length co19)) (v1:=(.slice (some ⟨go31,0,none⟩) x7_1.length co19)) (ok:=(fun _=>True)) (by (with_reducible repeat (first|apply ra'|apply rn'|apply rw'));exact Kd.R_mono HO_8.out (fun _ hk=>⟨trivial,hk⟩)) hg (.inl rfl));have n2_:=am' (Kd.R_over' (v:=(.slice (some ⟨go31,0,none⟩) x7_1.length co19)) (kr' HO_9.out) (Kd.R_typed HO_7.out) (by decide) hg);have n3_:=am' (blk_grown (g:=gb253) (o := .cells #[.slice A0_0 l0_0.length c0_0, .slice A0_1 l0_1.length c0_1, .int .i64 a0_2] 29 (0,0)) (kk' BK253.out) hg (Kd.R_ne HO_7.out BK253.out (by decide)));have n4_:=am' (Kd.V_afterv (v:=(.slice (some ⟨go31,0,none⟩) x7_1.length co19)) (v1:=(.slice (some ⟨go31,0,none⟩) x7_1.length co19)) (ok:=(fun k_=>some k_≠(v258:Value).ownBlock∧some k_≠(v261:Value).ownBlock∧some k_≠(.slice Ao38 t268.length co38:Value).ownBlock∧k_≠gb253)) (by (with_reducible repeat (first|apply Kd.V_alloc|apply Kd.V_drewN|apply Kd.V_drew));exact Kd.V_mono HO266.out (fun _ hk=>⟨⟨hk.1.2.1,⟨hk.1.2.2.1,⟨hk.2,hk.1.2.2.2⟩⟩⟩,hk.1.1⟩)) hg (.inl rfl));have n5_:=am' (Kd.R_over' (v:=(.slice (some ⟨go31,0,none⟩) x7_1.length co19)) (kr' HO270.out) (Kd.R_typed HO_7.out) (by decide) hg);have n6_:=am' ((by rw[hw];exact bs' (HB.out) GB31.out:Below w.heap.size w w41));clear HO_7;clear HO_8;clear HO_9;clear BK253;clear HO266;clear HO270;clear HB;have HO_7:=n0_;have HO_8:=n1_;have HO_9:=n2_;have BK253:=n3_;have HO266:=n4_;have HO270:=n5_;have HB:=n6_;clear n0_ n1_ n2_ n3_ n4_ n5_ n6_;clear hg hw hp_;have p33:0≤(t272:Int):=od' xa';have q33:(t272:Int) < ((y257.length:Int):Int):=od' xa';obtain ⟨go33,co33,eo33,gb33,gl33,cl33,HG33⟩:=Kd.R_form HO_8.out (by omega);(first|cases eo33|(injection eo33 with ea_ en_ ec_;(first|subst ea_|(injection ea_ with ea_;subst ea_));subst ec_;clear en_));have GB33:=am' gb33;have GG33:=am' HG33;clear gb33 gl33 HG33;obtain ⟨hx33_0,hf33_0⟩:=Kd.R_celln 0 HO_8.out (t272:Int) p33 q33;replace p33:=eq_true p33;replace q33:=eq_true q33;have n_:=am' (Kd.R_mono (ok':=(fun k_=>some k_≠(.slice (some ⟨go31,0,none⟩) x7_1.length co19:Value).ownBlock)) HO_8.out (fun k_ hk=>hk.2));clear HO_8;have HO_8:=n_;clear n_;obtain ⟨hy42_,hz42_⟩:=Kd.R_celln 0 HO_8.out (t272:Int) (od' xa') (od' xa');have HP42:=Kd.R_putg HO_8.out (t272:Int) 1)|((with_reducible refine gate_store (t:=3) (p:=50) rfl ?_);refine store_event (t:=3) (p:=50) (v:=?vo_w43) (w1:=(w41.setCell ⟨go33,(t272:Int).toNat,none⟩ (.int .i64 1))) ?hg ?ho ?hn ?hr ?_;(case ho=>rfl);(case hg=>rfl);(case hn=>rfl);(case hr=>first|(go_simp;done)|(go_simp;rfl));intro w43 hw;have hg:w41.grownBy w43 (some go33):=(by rw[hw];exact HP42.2);have hp_:Kd.R (Kd.int .i64) 3 w43 w.heap.size (fun k_=>some k_≠(.slice (some ⟨go31,0,none⟩) x7_1.length co19:Value).ownBlock) (.slice (some ⟨go33,0,none⟩) y257.length co33) y274:=(by rw[hw,Ny274.out];exact HP42.1);clear HP42;have n0_:=am' (Kd.R_after (v:=(.slice (some ⟨go33,0,none⟩) y257.length co33)) (v1:=(.slice (some ⟨go33,0,none⟩) y257.length co33)) (ok:=(fun _=>True)) (by (with_reducible repeat (first|apply ra'|apply rn'|apply rw'));exact Kd.R_mono HO_7.out (fun _ hk=>⟨trivial,hk⟩)) hg (.inl rfl));have n1_:=am' (hp_);have n2_:=am' (Kd.R_over' (v:=(.slice (some ⟨go33,0,none⟩) y257.length co33)) (kr' HO_9.out) (Kd.R_typed HO_8.out) (by decide) hg);have n3_:=am' (blk_grown (g:=gb253) (o := .cells #[.slice A0_0 l0_0.length c0_0, .slice A0_1 l0_1.length c0_1, .int .i64 a0_2] 29 (0,0)) (kk' BK253.out) hg (Kd.R_ne HO_8.out BK253.out (by decide)));have n4_:=am' (Kd.V_afterv (v:=(.slice (some ⟨go33,0,none⟩) y257.length co33)) (v1:=(.slice (some ⟨go33,0,none⟩) y257.length co33)) (ok:=(fun k_=>some k_≠(.slice (some ⟨go31,0,none⟩) x7_1.length co19:Value).ownBlock∧some k_≠(v261:Value).ownBlock∧some k_≠(.slice Ao38 t268.length co38:Value).ownBlock∧k_≠gb253)) (by (with_reducible repeat (first|apply Kd.V_alloc|apply Kd.V_drewN|apply Kd.V_drew));exact Kd.V_mono HO266.out (fun _ hk=>⟨⟨hk.2,⟨hk.1.2.1,⟨hk.1.2.2.1,hk.1.2.2.2⟩⟩⟩,hk.1.1⟩)) hg (.inl rfl));have n5_:=am' (Kd.R_over' (v:=(.slice (some ⟨go33,0,none⟩) y257.length co33)) (kr' HO270.out) (Kd.R_typed HO_8.out) (by decide) hg);have n6_:=am' ((by rw[hw];exact bs' (HB.out) GB33.out:Below w.heap.size w w43));clear HO_7;clear HO_8;clear HO_9;clear BK253;clear HO266;clear HO270;clear HB;have HO_7:=n0_;have HO_8:=n1_;have HO_9:=n2_;have BK253:=n3_;have HO266:=n4_;have HO270:=n5_;have HB:=n6_;clear n0_ n1_ n2_ n3_ n4_ n5_ n6_;clear hg hw hp_))
          go_loopg [] k1 (fun kq w'=>∃ (x7_2:List Int) (x8_2:List Int) (x9_2:List Bool),Aside0 (spec_loFar.l1 kq a1 (l0_0.length:Int) x7_2 x8_2 x9_2 l0_0 l0_1 a0_2=some (r1,r2))∧Aside0 (kq≤k1)∧Aside0 (Kd.R (Kd.int .i64) 3 w' w.heap.size (fun k_=>some k_≠((.slice (some ⟨go33,0,none⟩) y257.length co33):Value).ownBlock) (.slice (some ⟨go31,0,none⟩) x7_1.length co19) x7_2)∧Aside0 (Kd.R (Kd.int .i64) 3 w' w.heap.size (fun k_=>some k_≠((.slice (some ⟨go31,0,none⟩) x7_1.length co19):Value).ownBlock) (.slice (some ⟨go33,0,none⟩) y257.length co33) x8_2)∧Aside0 (Kd.R Kd.bool 4 w' w.heap.size (fun _=>True) v261 x9_2)∧Aside0 (w'.heap[gb253]? = some (.cells #[(.slice A0_0 l0_0.length c0_0),(.slice A0_1 l0_1.length c0_1), .int .i64 a0_2] 29 (0,0)))∧Aside0 (Below w.heap.size w w'))
          case atStart=>exact ⟨(y273),(y274),(y260),H',⟨Nat.le_refl _⟩,⟨by (try simp only[hl7_1]);(with_reducible repeat (first|apply ra'|apply rn'|apply rw'));exact Kd.R_mono HO_7.out (fun _ hk=>hk.2)⟩,⟨by (try simp only[hl7_1]);(with_reducible repeat (first|apply ra'|apply rn'|apply rw'));exact HO_8.out⟩,⟨by (try simp only[hl7_1]);(with_reducible repeat (first|apply ra'|apply rn'|apply rw'));exact Kd.R_mono HO_9.out (fun _ hk=>trivial)⟩,⟨by (try simp only[hl7_1]);(with_reducible repeat (first|refine kn' ?_ _|refine kd' ?_|refine ka' ?_ _));exact BK253.out⟩,⟨yb' GE253.out⟩⟩
          case round =>
           clear H';try clear c1
           try clear c2
           try clear p2
           try clear q2
           try clear hx2
           try clear hf2
           try clear c3
           try clear p3
           try clear q3
           try clear hx3
           try clear hf3
           try clear c4
           try clear c4b0
           try clear c4b1
           try clear c5
           try clear c5b0
           try clear c5b1
           try clear c6
           try clear c6b0
           try clear p6
           try clear c7
           try clear c7b0
           try clear c8
           try clear c8b0
           try clear c8b1
           try clear c10
           try clear c20
           try clear c20b0
           try clear c21
           try clear c21b0
           try clear c22
           try clear c22b0
           try clear p23
           try clear q23
           try clear hx23
           try clear hf23
           try clear c29
           try clear c29b0
           try clear c30
           try clear c30b0
           try clear p31
           try clear q31
           try clear hx31
           try clear hf31
           try clear c32
           try clear c32b0
           try clear p33
           try clear q33
           try clear hx33
           try clear hf33
           try clear hcz10_0
           try clear hcz10_1
           try clear hcz10_2
           try clear hcz34_0
           try clear hcz34_1
           try clear hcz34_2
           try clear hfz10_0
           try clear hfz10_1
           try clear hfz10_2
           try clear hfz34_0
           try clear hfz34_1
           try clear hfz34_2
           try clear hx23_0
           try clear hx31_0
           try clear hx33_0
           try clear p2
           try clear p23
           try clear p31
           try clear p33
           try clear p6
           try clear q23
           try clear q31
           try clear q33
           obtain ⟨x7_2,x8_2,x9_2,HA,HK2,HO_7,HO_8,HO_9,BK253,HB⟩:=hrel;have hl7_2:=(Kd.R_reads' HO_7.out).1;rw[hl7_2] at HO_7
           (try simp only[hl7_2])
           (try simp only[hl7_2] at BK253)
           (try simp only[hl7_2] at HO_8)
           (try simp only[hl7_2] at HO_9)
           have hl8_2:=(Kd.R_reads' HO_8.out).1;rw[hl8_2] at HO_8
           (try simp only[hl8_2])
           (try simp only[hl8_2] at BK253)
           (try simp only[hl8_2] at HO_7)
           (try simp only[hl8_2] at HO_9)
           cases gk with
           | zero=>exact absurd HA.out (by simp[spec_loFar.l1])
           | succ k2 =>
            have H:=HA.out;clear HA;simp only[spec_loFar.l1] at H;have H':=am' H;clear H;go_wp2;go_loopg [12,53] k2 (fun kq v12 v53 w'=>∃ (x12_3:Int) (x53_3:Int),v12 = .int .i64 x12_3∧v53 = .int .i64 x53_3∧Aside0 (spec_loFar.l2 kq a1 (l0_0.length:Int) x7_2 x8_2 x9_2 x12_3 x7_2 (x7_2.length:Int) x53_3 l0_0 l0_1 a0_2=some (r1,r2))∧Aside0 (kq≤k2)∧Aside0 (Kd.R (Kd.int .i64) 3 w' w.heap.size (fun k_=>some k_≠((.slice (some ⟨go33,0,none⟩) x8_2.length co33):Value).ownBlock) (.slice (some ⟨go31,0,none⟩) x7_2.length co19) x7_2)∧Aside0 (Kd.R (Kd.int .i64) 3 w' w.heap.size (fun k_=>some k_≠((.slice (some ⟨go31,0,none⟩) x7_2.length co19):Value).ownBlock∧some k_≠((.slice (some ⟨go31,0,none⟩) x7_2.length co19):Value).ownBlock) (.slice (some ⟨go33,0,none⟩) x8_2.length co33) x8_2)∧Aside0 (Kd.R Kd.bool 4 w' w.heap.size (fun _=>True) v261 x9_2)∧Aside0 (Kd.R (Kd.int .i64) 3 w' w.heap.size (fun k_=>some k_≠((.slice (some ⟨go33,0,none⟩) x8_2.length co33):Value).ownBlock) (.slice (some ⟨go31,0,none⟩) x7_2.length co19) x7_2)∧Aside0 (w'.heap[gb253]? = some (.cells #[(.slice A0_0 l0_0.length c0_0),(.slice A0_1 l0_1.length c0_1), .int .i64 a0_2] 29 (0,0)))∧Aside0 (Below w.heap.size w w'))
            case atStart=>exact ⟨((-1)),(0),xs',xs',H',⟨Nat.le_refl _⟩,⟨by (try simp only[hl7_1]);(try simp only[hl7_2]);(try simp only[hl8_2]);(with_reducible repeat (first|apply ra'|apply rn'|apply rw'));exact HO_7.out⟩,⟨by (try simp only[hl7_1]);(try simp only[hl7_2]);(try simp only[hl8_2]);(with_reducible repeat (first|apply ra'|apply rn'|apply rw'));exact Kd.R_mono HO_8.out (fun _ hk=>⟨hk,hk⟩)⟩,⟨by (try simp only[hl7_1]);(try simp only[hl7_2]);(try simp only[hl8_2]);(with_reducible repeat (first|apply ra'|apply rn'|apply rw'));exact HO_9.out⟩,⟨by (try simp only[hl7_1]);(try simp only[hl7_2]);(try simp only[hl8_2]);(with_reducible repeat (first|apply ra'|apply rn'|apply rw'));exact HO_7.out⟩,⟨by (try simp only[hl7_1]);(try simp only[hl7_2]);(try simp only[hl8_2]);(with_reducible repeat (first|refine kn' ?_ _|refine kd' ?_|refine ka' ?_ _));exact BK253.out⟩,⟨yb' GE253.out⟩⟩
            case round =>
             clear H';try clear c1
             try clear c2
             try clear p2
             try clear q2
             try clear hx2
             try clear hf2
             try clear c3
             try clear p3
             try clear q3
             try clear hx3
             try clear hf3
             try clear c4
             try clear c4b0
             try clear c4b1
             try clear c5
             try clear c5b0
             try clear c5b1
             try clear c6
             try clear c6b0
             try clear p6
             try clear c7
             try clear c7b0
             try clear c8
             try clear c8b0
             try clear c8b1
             try clear c10
             try clear c20
             try clear c20b0
             try clear c21
             try clear c21b0
             try clear c22
             try clear c22b0
             try clear p23
             try clear q23
             try clear hx23
             try clear hf23
             try clear c29
             try clear c29b0
             try clear c30
             try clear c30b0
             try clear p31
             try clear q31
             try clear hx31
             try clear hf31
             try clear c32
             try clear c32b0
             try clear p33
             try clear q33
             try clear hx33
             try clear hf33
             try clear hcz10_0
             try clear hcz10_1
             try clear hcz10_2
             try clear hcz34_0
             try clear hcz34_1
             try clear hcz34_2
             try clear hfz10_0
             try clear hfz10_1
             try clear hfz10_2
             try clear hfz34_0
             try clear hfz34_1
             try clear hfz34_2
             try clear hx23_0
             try clear hx31_0
             try clear hx33_0
             try clear p2
             try clear p23
             try clear p3
             try clear p31
             try clear p33
             try clear p6
             try clear q2
             try clear q23
             try clear q3
             try clear q31
             try clear q33
             obtain ⟨x12_3,x53_3,rfl,rfl,HA,HK3,HO_7,HO_8,HO_9,HO_51,BK253,HB⟩:=hrel;cases gk with
             | zero=>exact absurd HA.out (by simp[spec_loFar.l2])
             | succ k3 =>
              have H:=HA.out;clear HA;simp only[spec_loFar.l2] at H;by_cases c44:x53_3 < (x7_2.length:Int)
              ·
               rw[if_pos c44] at H;have c44b0:decide (x53_3 < (x7_2.length:Int))=true:=dt' c44;clear c44;by_cases c45:0≤x53_3
               ·
                rw[if_pos c45] at H;have c45b0:decide (0≤x53_3)=true:=dt' c45;clear c45;by_cases c46:x53_3 < (x7_2.length:Int)
                ·
                 rw[if_pos c46] at H;have c46b0:decide (x53_3 < (x7_2.length:Int))=true:=dt' c46;clear c46;by_cases c47:x53_3 < (x9_2.length:Int)
                 ·
                  rw[if_pos c47] at H;have c47b0:decide (x53_3 < (x9_2.length:Int))=true:=dt' c47;clear c47;obtain ⟨bq48,hbq48⟩:∃ b_:Bool,b_=(rdOf false x9_2 x53_3):=⟨_,rfl⟩
                  replace H:(if bq48=true then (spec_loFar.l2 k3 a1 (l0_0.length:Int) x7_2 x8_2 x9_2 x12_3 x7_2 (x7_2.length:Int) (wrap64 (x53_3+1)) l0_0 l0_1 a0_2) else (if (rd x7_2 x53_3) ≥ 0 then (if x12_3 < 0 then (spec_loFar.l2 k3 a1 (l0_0.length:Int) x7_2 x8_2 x9_2 x53_3 x7_2 (x7_2.length:Int) (wrap64 (x53_3+1)) l0_0 l0_1 a0_2) else (if 0≤x12_3 then (if x12_3 < (x7_2.length:Int) then (if (rd x7_2 x53_3) < (rd x7_2 x12_3) then (spec_loFar.l2 k3 a1 (l0_0.length:Int) x7_2 x8_2 x9_2 x53_3 x7_2 (x7_2.length:Int) (wrap64 (x53_3+1)) l0_0 l0_1 a0_2) else (spec_loFar.l2 k3 a1 (l0_0.length:Int) x7_2 x8_2 x9_2 x12_3 x7_2 (x7_2.length:Int) (wrap64 (x53_3+1)) l0_0 l0_1 a0_2)) else (none)) else (none))) else (spec_loFar.l2 k3 a1 (l0_0.length:Int) x7_2 x8_2 x9_2 x12_3 x7_2 (x7_2.length:Int) (wrap64 (x53_3+1)) l0_0 l0_1 a0_2)))=some (r1,r2):=by rw[← hbq48] at H;exact H
                  have Nbq48:=am' hbq48;clear hbq48;by_cases c49:bq48=true
                  ·
                   subst c49;have H1:(spec_loFar.l2 k3 a1 (l0_0.length:Int) x7_2 x8_2 x9_2 x12_3 x7_2 (x7_2.length:Int) (wrap64 (x53_3+1)) l0_0 l0_1 a0_2)=some (r1,r2):=by rw[if_pos rfl] at H;exact H
                   clear H;have H:=H1;clear H1;have H':=am' H;clear H;have p275:0≤(x53_3:Int):=od' xa';have q275:x53_3 < (x7_2.length:Int):=od' xa';obtain ⟨ad275,e275,hx275_0⟩:=Kd.at_int (Kd.R_reads' HO_51.out).2.2 x53_3 p275 q275;obtain rfl:(⟨go31,0,none⟩:Addr)=ad275:=(by injection e275)
                   (first|simp only[add_plain] at hx275_0|simp only[add_at] at hx275_0|simp only[Addr.add,Nat.zero_add] at hx275_0|skip)
                   replace p275:=eq_true p275;replace q275:=eq_true q275;obtain ⟨Ao50,co50,eo50⟩:=Kd.R_slice HO_9.out;subst eo50;have p276:0≤(x53_3:Int):=od' xa';have q276:x53_3 < (x9_2.length:Int):=od' xa';obtain ⟨ad276,e276,hx276_0⟩:=Kd.at_bool (Kd.R_reads' HO_9.out).2.2 x53_3 p276 q276
                   (try rw [← Nbq48.out] at hx276_0)
                   cases e276
                   replace p276:=eq_true p276;replace q276:=eq_true q276;go_wp2;go_roundg k3
                   case measure=>have:=HK1.out;have:=HK2.out;have:=HK3.out;omega
                   case rel=>exact ⟨(x12_3),(wrap64 (x53_3+1)),xs',xs',H',⟨by have:=HK1.out;have:=HK2.out;have:=HK3.out;omega⟩,⟨by (try simp only[hl7_1]);(try simp only[hl7_2]);(try simp only[hl8_2]);(with_reducible repeat (first|apply ra'|apply rn'|apply rw'));exact HO_7.out⟩,⟨by (try simp only[hl7_1]);(try simp only[hl7_2]);(try simp only[hl8_2]);(with_reducible repeat (first|apply ra'|apply rn'|apply rw'));exact HO_8.out⟩,⟨by (try simp only[hl7_1]);(try simp only[hl7_2]);(try simp only[hl8_2]);(with_reducible repeat (first|apply ra'|apply rn'|apply rw'));exact HO_9.out⟩,⟨by (try simp only[hl7_1]);(try simp only[hl7_2]);(try simp only[hl8_2]);(with_reducible repeat (first|apply ra'|apply rn'|apply rw'));exact HO_51.out⟩,⟨by (try simp only[hl7_1]);(try simp only[hl7_2]);(try simp only[hl8_2]);(with_reducible repeat (first|refine kn' ?_ _|refine kd' ?_|refine ka' ?_ _));exact BK253.out⟩,⟨yb' GE253.out⟩⟩
                  ·
                   replace c49:=Bool.eq_false_iff.mpr c49;subst c49;have H1:(if (rd x7_2 x53_3) ≥ 0 then (if x12_3 < 0 then (spec_loFar.l2 k3 a1 (l0_0.length:Int) x7_2 x8_2 x9_2 x53_3 x7_2 (x7_2.length:Int) (wrap64 (x53_3+1)) l0_0 l0_1 a0_2) else (if 0≤x12_3 then (if x12_3 < (x7_2.length:Int) then (if (rd x7_2 x53_3) < (rd x7_2 x12_3) then (spec_loFar.l2 k3 a1 (l0_0.length:Int) x7_2 x8_2 x9_2 x53_3 x7_2 (x7_2.length:Int) (wrap64 (x53_3+1)) l0_0 l0_1 a0_2) else (spec_loFar.l2 k3 a1 (l0_0.length:Int) x7_2 x8_2 x9_2 x12_3 x7_2 (x7_2.length:Int) (wrap64 (x53_3+1)) l0_0 l0_1 a0_2)) else (none)) else (none))) else (spec_loFar.l2 k3 a1 (l0_0.length:Int) x7_2 x8_2 x9_2 x12_3 x7_2 (x7_2.length:Int) (wrap64 (x53_3+1)) l0_0 l0_1 a0_2))=some (r1,r2):=by rw[if_neg (show ¬ (false=true) by decide)] at H;exact H
                   clear H;have H:=H1;clear H1;by_cases c51:(rd x7_2 x53_3) ≥ 0
                   ·
                    rw[if_pos c51] at H;have c51b0:decide (0≤(rd x7_2 x53_3))=true:=dt' c51;clear c51;by_cases c52:x12_3 < 0
                    ·
                     rw[if_pos c52] at H;have c52b0:decide (x12_3 < 0)=true:=dt' c52;clear c52;have H':=am' H;clear H;have p275:0≤(x53_3:Int):=od' xa';have q275:x53_3 < (x7_2.length:Int):=od' xa';obtain ⟨ad275,e275,hx275_0⟩:=Kd.at_int (Kd.R_reads' HO_51.out).2.2 x53_3 p275 q275;obtain rfl:(⟨go31,0,none⟩:Addr)=ad275:=(by injection e275)
                     (first|simp only[add_plain] at hx275_0|simp only[add_at] at hx275_0|simp only[Addr.add,Nat.zero_add] at hx275_0|skip)
                     replace p275:=eq_true p275;replace q275:=eq_true q275;obtain ⟨Ao53,co53,eo53⟩:=Kd.R_slice HO_9.out;subst eo53;have p276:0≤(x53_3:Int):=od' xa';have q276:x53_3 < (x9_2.length:Int):=od' xa';obtain ⟨ad276,e276,hx276_0⟩:=Kd.at_bool (Kd.R_reads' HO_9.out).2.2 x53_3 p276 q276
                     (try rw [← Nbq48.out] at hx276_0)
                     cases e276
                     replace p276:=eq_true p276;replace q276:=eq_true q276;go_wp2;go_roundg k3
                     case measure=>have:=HK1.out;have:=HK2.out;have:=HK3.out;omega
                     case rel=>exact ⟨(x53_3),(wrap64 (x53_3+1)),xs',xs',H',⟨by have:=HK1.out;have:=HK2.out;have:=HK3.out;omega⟩,⟨by (try simp only[hl7_1]);(try simp only[hl7_2]);(try simp only[hl8_2]);(with_reducible repeat (first|apply ra'|apply rn'|apply rw'));exact HO_7.out⟩,⟨by (try simp only[hl7_1]);(try simp only[hl7_2]);(try simp only[hl8_2]);(with_reducible repeat (first|apply ra'|apply rn'|apply rw'));exact HO_8.out⟩,⟨by (try simp only[hl7_1]);(try simp only[hl7_2]);(try simp only[hl8_2]);(with_reducible repeat (first|apply ra'|apply rn'|apply rw'));exact HO_9.out⟩,⟨by (try simp only[hl7_1]);(try simp only[hl7_2]);(try simp only[hl8_2]);(with_reducible repeat (first|apply ra'|apply rn'|apply rw'));exact HO_51.out⟩,⟨by (try simp only[hl7_1]);(try simp only[hl7_2]);(try simp only[hl8_2]);(with_reducible repeat (first|refine kn' ?_ _|refine kd' ?_|refine ka' ?_ _));exact BK253.out⟩,⟨yb' GE253.out⟩⟩
                    ·
                     rw[if_neg c52] at H;have c52b0:decide (x12_3 < 0)=false:=df' c52;clear c52;by_cases c54:0≤x12_3
                     ·
                      rw[if_pos c54] at H;have c54b0:decide (0≤x12_3)=true:=dt' c54;clear c54;by_cases c55:x12_3 < (x7_2.length:Int)
                      ·
                       rw[if_pos c55] at H;have c55b0:decide (x12_3 < (x7_2.length:Int))=true:=dt' c55;clear c55;by_cases c56:(rd x7_2 x53_3) < (rd x7_2 x12_3)
                       ·
                        rw[if_pos c56] at H;have c56b0:decide ((rd x7_2 x53_3) < (rd x7_2 x12_3))=true:=dt' c56;clear c56;have H':=am' H;clear H;have p275:0≤(x53_3:Int):=od' xa';have q275:x53_3 < (x7_2.length:Int):=od' xa';obtain ⟨ad275,e275,hx275_0⟩:=Kd.at_int (Kd.R_reads' HO_51.out).2.2 x53_3 p275 q275;obtain rfl:(⟨go31,0,none⟩:Addr)=ad275:=(by injection e275)
                        (first|simp only[add_plain] at hx275_0|simp only[add_at] at hx275_0|simp only[Addr.add,Nat.zero_add] at hx275_0|skip)
                        replace p275:=eq_true p275;replace q275:=eq_true q275;obtain ⟨Ao57,co57,eo57⟩:=Kd.R_slice HO_9.out;subst eo57;have p276:0≤(x53_3:Int):=od' xa';have q276:x53_3 < (x9_2.length:Int):=od' xa';obtain ⟨ad276,e276,hx276_0⟩:=Kd.at_bool (Kd.R_reads' HO_9.out).2.2 x53_3 p276 q276
                        (try rw [← Nbq48.out] at hx276_0)
                        cases e276
                        replace p276:=eq_true p276;replace q276:=eq_true q276;have p277:0≤(x12_3:Int):=od' xa';have q277:x12_3 < (x7_2.length:Int):=od' xa';obtain ⟨ad277,e277,hx277_0⟩:=Kd.at_int (Kd.R_reads' HO_7.out).2.2 x12_3 p277 q277;obtain rfl:(⟨go31,0,none⟩:Addr)=ad277:=(by injection e277)
                        (first|simp only[add_plain] at hx277_0|simp only[add_at] at hx277_0|simp only[Addr.add,Nat.zero_add] at hx277_0|skip)
                        replace p277:=eq_true p277;replace q277:=eq_true q277;go_wp2;go_roundg k3
                        case measure=>have:=HK1.out;have:=HK2.out;have:=HK3.out;omega
                        case rel=>exact ⟨(x53_3),(wrap64 (x53_3+1)),xs',xs',H',⟨by have:=HK1.out;have:=HK2.out;have:=HK3.out;omega⟩,⟨by (try simp only[hl7_1]);(try simp only[hl7_2]);(try simp only[hl8_2]);(with_reducible repeat (first|apply ra'|apply rn'|apply rw'));exact HO_7.out⟩,⟨by (try simp only[hl7_1]);(try simp only[hl7_2]);(try simp only[hl8_2]);(with_reducible repeat (first|apply ra'|apply rn'|apply rw'));exact HO_8.out⟩,⟨by (try simp only[hl7_1]);(try simp only[hl7_2]);(try simp only[hl8_2]);(with_reducible repeat (first|apply ra'|apply rn'|apply rw'));exact HO_9.out⟩,⟨by (try simp only[hl7_1]);(try simp only[hl7_2]);(try simp only[hl8_2]);(with_reducible repeat (first|apply ra'|apply rn'|apply rw'));exact HO_51.out⟩,⟨by (try simp only[hl7_1]);(try simp only[hl7_2]);(try simp only[hl8_2]);(with_reducible repeat (first|refine kn' ?_ _|refine kd' ?_|refine ka' ?_ _));exact BK253.out⟩,⟨yb' GE253.out⟩⟩
                       ·
                        rw[if_neg c56] at H;have c56b0:decide ((rd x7_2 x53_3) < (rd x7_2 x12_3))=false:=df' c56;clear c56;have H':=am' H;clear H;have p275:0≤(x53_3:Int):=od' xa';have q275:x53_3 < (x7_2.length:Int):=od' xa';obtain ⟨ad275,e275,hx275_0⟩:=Kd.at_int (Kd.R_reads' HO_51.out).2.2 x53_3 p275 q275;obtain rfl:(⟨go31,0,none⟩:Addr)=ad275:=(by injection e275)
                        (first|simp only[add_plain] at hx275_0|simp only[add_at] at hx275_0|simp only[Addr.add,Nat.zero_add] at hx275_0|skip)
                        replace p275:=eq_true p275;replace q275:=eq_true q275;obtain ⟨Ao58,co58,eo58⟩:=Kd.R_slice HO_9.out;subst eo58;have p276:0≤(x53_3:Int):=od' xa';have q276:x53_3 < (x9_2.length:Int):=od' xa';obtain ⟨ad276,e276,hx276_0⟩:=Kd.at_bool (Kd.R_reads' HO_9.out).2.2 x53_3 p276 q276
                        (try rw [← Nbq48.out] at hx276_0)
                        cases e276
                        replace p276:=eq_true p276;replace q276:=eq_true q276;have p277:0≤(x12_3:Int):=od' xa';have q277:x12_3 < (x7_2.length:Int):=od' xa';obtain ⟨ad277,e277,hx277_0⟩:=Kd.at_int (Kd.R_reads' HO_7.out).2.2 x12_3 p277 q277;obtain rfl:(⟨go31,0,none⟩:Addr)=ad277:=(by injection e277)
                        (first|simp only[add_plain] at hx277_0|simp only[add_at] at hx277_0|simp only[Addr.add,Nat.zero_add] at hx277_0|skip)
                        replace p277:=eq_true p277;replace q277:=eq_true q277;go_wp2;go_roundg k3
                        case measure=>have:=HK1.out;have:=HK2.out;have:=HK3.out;omega
                        case rel=>exact ⟨(x12_3),(wrap64 (x53_3+1)),xs',xs',H',⟨by have:=HK1.out;have:=HK2.out;have:=HK3.out;omega⟩,⟨by (try simp only[hl7_1]);(try simp only[hl7_2]);(try simp only[hl8_2]);(with_reducible repeat (first|apply ra'|apply rn'|apply rw'));exact HO_7.out⟩,⟨by (try simp only[hl7_1]);(try simp only[hl7_2]);(try simp only[hl8_2]);(with_reducible repeat (first|apply ra'|apply rn'|apply rw'));exact HO_8.out⟩,⟨by (try simp only[hl7_1]);(try simp only[hl7_2]);(try simp only[hl8_2]);(with_reducible repeat (first|apply ra'|apply rn'|apply rw'));exact HO_9.out⟩,⟨by (try simp only[hl7_1]);(try simp only[hl7_2]);(try simp only[hl8_2]);(with_reducible repeat (first|apply ra'|apply rn'|apply rw'));exact HO_51.out⟩,⟨by (try simp only[hl7_1]);(try simp only[hl7_2]);(try simp only[hl8_2]);(with_reducible repeat (first|refine kn' ?_ _|refine kd' ?_|refine ka' ?_ _));exact BK253.out⟩,⟨yb' GE253.out⟩⟩
                      ·
                       rw[if_neg c55] at H;exact absurd H (by simp)
                     ·
                      rw[if_neg c54] at H;exact absurd H (by simp)
                   ·
                    rw[if_neg c51] at H;have c51b0:decide (0≤(rd x7_2 x53_3))=false:=df' c51;clear c51;have H':=am' H;clear H;have p275:0≤(x53_3:Int):=od' xa';have q275:x53_3 < (x7_2.length:Int):=od' xa';obtain ⟨ad275,e275,hx275_0⟩:=Kd.at_int (Kd.R_reads' HO_51.out).2.2 x53_3 p275 q275;obtain rfl:(⟨go31,0,none⟩:Addr)=ad275:=(by injection e275)
                    (first|simp only[add_plain] at hx275_0|simp only[add_at] at hx275_0|simp only[Addr.add,Nat.zero_add] at hx275_0|skip)
                    replace p275:=eq_true p275;replace q275:=eq_true q275;obtain ⟨Ao59,co59,eo59⟩:=Kd.R_slice HO_9.out;subst eo59;have p276:0≤(x53_3:Int):=od' xa';have q276:x53_3 < (x9_2.length:Int):=od' xa';obtain ⟨ad276,e276,hx276_0⟩:=Kd.at_bool (Kd.R_reads' HO_9.out).2.2 x53_3 p276 q276
                    (try rw [← Nbq48.out] at hx276_0)
                    cases e276
                    replace p276:=eq_true p276;replace q276:=eq_true q276;go_wp2;go_roundg k3
                    case measure=>have:=HK1.out;have:=HK2.out;have:=HK3.out;omega
                    case rel=>exact ⟨(x12_3),(wrap64 (x53_3+1)),xs',xs',H',⟨by have:=HK1.out;have:=HK2.out;have:=HK3.out;omega⟩,⟨by (try simp only[hl7_1]);(try simp only[hl7_2]);(try simp only[hl8_2]);(with_reducible repeat (first|apply ra'|apply rn'|apply rw'));exact HO_7.out⟩,⟨by (try simp only[hl7_1]);(try simp only[hl7_2]);(try simp only[hl8_2]);(with_reducible repeat (first|apply ra'|apply rn'|apply rw'));exact HO_8.out⟩,⟨by (try simp only[hl7_1]);(try simp only[hl7_2]);(try simp only[hl8_2]);(with_reducible repeat (first|apply ra'|apply rn'|apply rw'));exact HO_9.out⟩,⟨by (try simp only[hl7_1]);(try simp only[hl7_2]);(try simp only[hl8_2]);(with_reducible repeat (first|apply ra'|apply rn'|apply rw'));exact HO_51.out⟩,⟨by (try simp only[hl7_1]);(try simp only[hl7_2]);(try simp only[hl8_2]);(with_reducible repeat (first|refine kn' ?_ _|refine kd' ?_|refine ka' ?_ _));exact BK253.out⟩,⟨yb' GE253.out⟩⟩
                 ·
                  rw[if_neg c47] at H;exact absurd H (by simp)
                ·
                 rw[if_neg c46] at H;exact absurd H (by simp)
               ·
                rw[if_neg c45] at H;exact absurd H (by simp)
              ·
               rw[if_neg c44] at H;have c44b0:decide (x53_3 < (x7_2.length:Int))=false:=df' c44;clear c44;by_cases c60:x12_3 < 0
               ·
                rw[if_pos c60] at H;have c60b0:decide (x12_3 < 0)=true:=dt' c60;clear c60;simp only[Option.some.injEq,Prod.mk.injEq] at H;obtain ⟨rfl,rfl⟩:=H;go_wp2;go_ret2
                exact ⟨_,_,by first|rfl|(simp[errW_none,errW_some] <;> rfl)|(simp only[← hji3];first|rfl|(simp[errW_none,errW_some] <;> rfl))|(simp[*,errW_none,errW_some] <;> rfl),kr' HO_7.out,by (with_reducible repeat (first|apply ra'|apply rn'|apply rw'));exact Kd.R_mono HO_8.out (fun _ hk=>hk.1),yb' GE253.out⟩
               ·
                rw[if_neg c60] at H;have c60b0:decide (x12_3 < 0)=false:=df' c60;clear c60;by_cases c61:0≤x12_3
                ·
                 rw[if_pos c61] at H;have c61b0:decide (0≤x12_3)=true:=dt' c61;clear c61;by_cases c62:x12_3 < (x9_2.length:Int)
                 ·
                  rw[if_pos c62] at H;have c62b0:decide (x12_3 < (x9_2.length:Int))=true:=dt' c62;clear c62;obtain ⟨y278,hy278⟩:∃ y_:List Bool,y_=(x9_2.set (x12_3:Int).toNat true):=⟨_,rfl⟩
                  replace H:((spec_seState.f k3 x12_3 (l0_0.length:Int)).bind fun bt279=>((spec_loRides.f k3 l0_0 l0_1 a0_2 bt279.1 bt279.2).bind fun t284=>(spec_loFar.l3 k3 a1 (l0_0.length:Int) x7_2 x8_2 y278 x12_3 t284 (t284.length:Int) 0 l0_0 l0_1 a0_2 bt279.1 bt279.2)))=some (r1,r2):=by first|(rw[hy278];with_reducible exact H)|(have H2_:=(Option.bind_some _ _).symm.trans H;rw[hy278];with_reducible exact H2_)|(have H2_:=(Option.bind_some _ _).symm.trans H;with_reducible exact H2_)|with_reducible exact H|(rw[hy278];exact H)|exact H
                  have Ny278:=am' hy278;clear hy278;replace H:=Option.bind_eq_some_iff.mp H;obtain ⟨⟨t279,t282⟩,A640,H⟩:=H;replace H:((spec_loRides.f k3 l0_0 l0_1 a0_2 t279 t282).bind fun t284=>(spec_loFar.l3 k3 a1 (l0_0.length:Int) x7_2 x8_2 y278 x12_3 t284 (t284.length:Int) 0 l0_0 l0_1 a0_2 t279 t282))=some (r1,r2):=H;have A64:=am' A640;clear A640;replace H:=Option.bind_eq_some_iff.mp H;obtain ⟨t284,A650,H⟩:=H;replace H:(spec_loFar.l3 k3 a1 (l0_0.length:Int) x7_2 x8_2 y278 x12_3 t284 (t284.length:Int) 0 l0_0 l0_1 a0_2 t279 t282)=some (r1,r2):=H;have A65:=am' A650;clear A650;have H':=am' H;clear H;have p63:0≤(x12_3:Int):=od' xa';have q63:(x12_3:Int) < ((x9_2.length:Int):Int):=od' xa';obtain ⟨go63,co63,eo63,gb63,gl63,cl63,HG63⟩:=Kd.R_form HO_9.out (by omega)
                  (first|cases eo63|(injection eo63 with ea_ en_ ec_;(first|subst ea_|(injection ea_ with ea_;subst ea_));subst ec_;clear en_))
                  have GB63:=am' gb63;have GG63:=am' HG63;clear gb63 gl63 HG63;obtain ⟨hx63_0,hf63_0⟩:=Kd.R_celln false HO_9.out (x12_3:Int) p63 q63;replace p63:=eq_true p63;replace q63:=eq_true q63;have HP66:=Kd.R_putg HO_9.out (x12_3:Int) true;go_wp2_with (first|((with_reducible refine gate_store (t:=4) (p:=87) rfl ?_);refine store_event (t:=4) (p:=87) (v:=?vo_w67) (w1:=(wr.setCell ⟨go63,(x12_3:Int).toNat,none⟩ (.bool true))) ?hg ?ho ?hn ?hr ?_;(case ho=>rfl);(case hg=>rfl);(case hn=>rfl);(case hr=>first|(go_simp;done)|(go_simp;rfl));intro w67 hw;have hg:wr.grownBy w67 (some go63):=(by rw[hw];exact HP66.2);have hp_:Kd.R Kd.bool 4 w67 w.heap.size (fun _=>True) (.slice (some ⟨go63,0,none⟩) x9_2.length co63) y278:=(by rw[hw,Ny278.out];exact HP66.1);clear HP66;have n0_:=am' (Kd.R_over' (v:=(.slice (some ⟨go63,0,none⟩) x9_2.length co63)) (kr' HO_7.out) (Kd.R_typed HO_9.out) (by decide) hg);have n1_:=am' (Kd.R_over' (v:=(.slice (some ⟨go63,0,none⟩) x9_2.length co63)) (kr' HO_8.out) (Kd.R_typed HO_9.out) (by decide) hg);have n2_:=am' (hp_);have n3_:=am' (Kd.R_over' (v:=(.slice (some ⟨go63,0,none⟩) x9_2.length co63)) (kr' HO_51.out) (Kd.R_typed HO_9.out) (by decide) hg);have n4_:=am' (blk_grown (g:=gb253) (o := .cells #[.slice A0_0 l0_0.length c0_0, .slice A0_1 l0_1.length c0_1, .int .i64 a0_2] 29 (0,0)) (kk' BK253.out) hg (Kd.R_ne HO_9.out BK253.out (by decide)));have n5_:=am' ((by rw[hw];exact bs' (HB.out) GB63.out:Below w.heap.size w w67));clear HO_7;clear HO_8;clear HO_9;clear HO_51;clear BK253;clear HB;have HO_7:=n0_;have HO_8:=n1_;have HO_9:=n2_;have HO_51:=n3_;have BK253:=n4_;have HB:=n5_;clear n0_ n1_ n2_ n3_ n4_ n5_;clear hg hw hp_)|((with_reducible refine gate_callee (f:=81) rfl ?_);refine goesL_ (some 90) rfl rfl Try.func81 xk' rfl #[.int .i64 x12_3, .int .i64 (l0_0.length:Int)] rfl xl' ?_;(with_reducible refine (spec_seState.calls k3 x12_3 (l0_0.length:Int) t279 t282 _ A64.out).mono ?_);rintro e w68 ⟨v280,rfl,ho0,hb⟩;refine ⟨_,rfl,?_⟩;have n0_:=am' (rb' (kr' HO_7.out) hb);have n1_:=am' (rb' (kr' HO_8.out) hb);have n2_:=am' (Kd.R_elder' (kr' HO_9.out) (Kd.R_base ho0) hb);have n3_:=am' (rb' (kr' HO_51.out) hb);have n4_:=am' (Kd.R_lower (Kd.R_new' ho0 (Kd.R_lt (kr' HO_9.out))) (bz' (yb' GE253.out)));have n5_:=am' (bb' (g:=gb253) (o := .cells #[.slice A0_0 l0_0.length c0_0, .slice A0_1 l0_1.length c0_1, .int .i64 a0_2] 29 (0,0)) (kk' BK253.out) hb);have n6_:=am' (bt' (yb' GE253.out) hb);clear HO_7;clear HO_8;clear HO_9;clear HO_51;clear BK253;clear HB;have HO_7:=n0_;have HO_8:=n1_;have HO_9:=n2_;have HO_51:=n3_;have HO281:=n4_;have BK253:=n5_;have HB:=n6_;clear n0_ n1_ n2_ n3_ n4_ n5_ n6_;(try clear hb);(try clear hb2);(try clear hk);(try clear hi);(try clear ho0))|((with_reducible refine gate_dst (N:=15) rfl ?_);refine box_event ?hg (N:=15) ?hd (cs:=#[.slice none 0 0, .bool false]) (t:=38) ?hr ?_;(case hd=>rfl);(case hg=>rfl);(case hr=>first|(go_simp;done)|(go_simp;rfl));intro gb283 hg w69 hbox hb;have n0_:=am' (rb' (kr' HO_7.out) hb);have n1_:=am' (rb' (kr' HO_8.out) hb);have n2_:=am' (rb' (kr' HO_9.out) hb);have n3_:=am' (rb' (kr' HO_51.out) hb);have n4_:=am' (rb' (kr' HO281.out) hb);have n5_:=am' (bb' (g:=gb253) (o := .cells #[.slice A0_0 l0_0.length c0_0, .slice A0_1 l0_1.length c0_1, .int .i64 a0_2] 29 (0,0)) (kk' BK253.out) hb);have n6_:=am' (bt' (yb' GE253.out) hb);have n7_:=am' (hbox);have n8_:=am' ((by rw[hg];exact (bz' (yb' GE253.out)):w.heap.size≤gb283));have n9_:=am' ((by rw[hg];exact (bz' (yb' GE253.out)):w.heap.size≤gb283));have n10_:=am' ((by rw[hg];exact Nat.ne_of_lt (blk_lt (g:=gb253) (o := .cells #[.slice A0_0 l0_0.length c0_0, .slice A0_1 l0_1.length c0_1, .int .i64 a0_2] 29 (0,0)) (kk' BK253.out)):gb253≠gb283));have n11_:=am' ((by rw[hg];exact Nat.ne_of_gt (blk_lt (g:=gb253) (o := .cells #[.slice A0_0 l0_0.length c0_0, .slice A0_1 l0_1.length c0_1, .int .i64 a0_2] 29 (0,0)) (kk' BK253.out)):gb283≠gb253));clear HO_7;clear HO_8;clear HO_9;clear HO_51;clear HO281;clear BK253;clear HB;have HO_7:=n0_;have HO_8:=n1_;have HO_9:=n2_;have HO_51:=n3_;have HO281:=n4_;have BK253:=n5_;have HB:=n6_;have BK283:=n7_;have GW283:=n8_;have GE283:=n9_;have NB253_283:=n10_;have NB283_253:=n11_;clear n0_ n1_ n2_ n3_ n4_ n5_ n6_ n7_ n8_ n9_ n10_ n11_;clear hb hbox hg;obtain ⟨Ao70,co70,eo70⟩:=Kd.R_slice HO281.out;subst eo70;have hnb71:=NB283_253.out;have hnc71:=NB253_283.out;have hcz72_0:w69.cell? ⟨gb283,0,none⟩=some (.slice none 0 0):=(bc' BK283.out 0).trans rfl;have hcz72_1:w69.cell? ⟨gb283,1,none⟩=some (.bool false):=(bc' BK283.out 1).trans rfl;have hfz72_0:=bf' BK283.out 0;have hfz72_1:=bf' BK283.out 1;have hcz73_0:w69.cell? ⟨gb253,0,none⟩=some (.slice A0_0 l0_0.length c0_0):=(bc' BK253.out 0).trans rfl;have hcz73_1:w69.cell? ⟨gb253,1,none⟩=some (.slice A0_1 l0_1.length c0_1):=(bc' BK253.out 1).trans rfl;have hcz73_2:w69.cell? ⟨gb253,2,none⟩=some (.int .i64 a0_2):=(bc' BK253.out 2).trans rfl;have hfz73_0:=bf' BK253.out 0;have hfz73_1:=bf' BK253.out 1;have hfz73_2:=bf' BK253.out 2)|((with_reducible refine gate_callee (f:=73) rfl ?_);refine goesL_ (some 93) rfl rfl Try.func73 xk' rfl #[.agg #[.slice A0_0 l0_0.length c0_0, .slice A0_1 l0_1.length c0_1, .int .i64 a0_2], .agg #[.slice Ao70 t279.length co70, .bool t282]] rfl xl' ?_;(with_reducible refine (spec_loRides.calls k3 _ _ l0_0 _ _ l0_1 a0_2 _ _ t279 t282 t284 _ ?side1 ?side2 ?side3 ?side4 ?side5 ?side6 A65.out).mono ?_);(case side1=>exact cb' HR0_0.out (y2' GE253.out GE283.out));(case side2=>exact HC0_0.out);(case side3=>exact cb' HR0_1.out (y2' GE253.out GE283.out));(case side4=>exact HC0_1.out);(case side5=>refine (Kd.R_reads' (e:=4) (base:=w.heap.size) (ok:=fun k_=>(True∧some k_≠(.slice (some ⟨go63,0,none⟩) x9_2.length co63:Value).ownBlock)) (n:=t279.length) (c:=co70) ?_).2.2;exact (by (with_reducible repeat (first|apply ra'|apply rn'|apply rw'));exact (Kd.R_mono (Kd.R_far (p:=⟨gb283,1,none⟩) (Kd.R_far (p:=⟨gb283,0,none⟩) (Kd.R_types HO281.out BK283.out (by decide)) (fun _ hk=>hk.2) (.slice Ao70 t279.length co70)) (fun _ hk=>hk.2) (.bool t282)) (fun _ h_=>h_.1))));(case side6=>exact (Kd.R_reads' HO281.out).2.1);rintro e w74 ⟨v285,rfl,ho0,hb⟩;refine ⟨_,rfl,?_⟩;have n0_:=am' (rb' (by (with_reducible repeat (first|apply ra'|apply rn'|apply rw'));exact (Kd.R_mono (Kd.R_far (p:=⟨gb283,1,none⟩) (Kd.R_far (p:=⟨gb283,0,none⟩) (Kd.R_types HO_7.out BK283.out (by decide)) (fun _ hk=>hk.2) (.slice Ao70 t279.length co70)) (fun _ hk=>hk.2) (.bool t282)) (fun _ h_=>h_.1))) hb);have n1_:=am' (rb' (by (with_reducible repeat (first|apply ra'|apply rn'|apply rw'));exact (Kd.R_mono (Kd.R_far (p:=⟨gb283,1,none⟩) (Kd.R_far (p:=⟨gb283,0,none⟩) (Kd.R_types HO_8.out BK283.out (by decide)) (fun _ hk=>hk.2) (.slice Ao70 t279.length co70)) (fun _ hk=>hk.2) (.bool t282)) (fun _ h_=>h_.1))) hb);have n2_:=am' (rb' (by (with_reducible repeat (first|apply ra'|apply rn'|apply rw'));exact (Kd.R_mono (Kd.R_far (p:=⟨gb283,1,none⟩) (Kd.R_far (p:=⟨gb283,0,none⟩) (Kd.R_types HO_9.out BK283.out (by decide)) (fun _ hk=>hk.2) (.slice Ao70 t279.length co70)) (fun _ hk=>hk.2) (.bool t282)) (fun _ h_=>h_.1))) hb);have n3_:=am' (rb' (by (with_reducible repeat (first|apply ra'|apply rn'|apply rw'));exact (Kd.R_mono (Kd.R_far (p:=⟨gb283,1,none⟩) (Kd.R_far (p:=⟨gb283,0,none⟩) (Kd.R_types HO_51.out BK283.out (by decide)) (fun _ hk=>hk.2) (.slice Ao70 t279.length co70)) (fun _ hk=>hk.2) (.bool t282)) (fun _ h_=>h_.1))) hb);have n4_:=am' (rb' (by (with_reducible repeat (first|apply ra'|apply rn'|apply rw'));exact (Kd.R_mono (Kd.R_far (p:=⟨gb283,1,none⟩) (Kd.R_far (p:=⟨gb283,0,none⟩) (Kd.R_types HO281.out BK283.out (by decide)) (fun _ hk=>hk.2) (.slice Ao70 t279.length co70)) (fun _ hk=>hk.2) (.bool t282)) (fun _ h_=>h_.1))) hb);have n5_:=am' (Kd.N_lower (Kd.N_mono (ok':=fun k_=>some k_≠(.slice (some ⟨go31,0,none⟩) x7_2.length co19:Value).ownBlock∧some k_≠(.slice (some ⟨go33,0,none⟩) x8_2.length co33:Value).ownBlock∧some k_≠(.slice (some ⟨go63,0,none⟩) x9_2.length co63:Value).ownBlock∧some k_≠(.slice (some ⟨go31,0,none⟩) x7_2.length co19:Value).ownBlock∧some k_≠(.slice Ao70 t279.length co70:Value).ownBlock∧k_≠gb253∧k_≠gb283) ho0 (fun k_ hk_=>⟨(Kd.fresh' (Kd.R_lt (by (with_reducible repeat (first|apply ra'|apply rn'|apply rw'));exact (Kd.R_mono (Kd.R_far (p:=⟨gb283,1,none⟩) (Kd.R_far (p:=⟨gb283,0,none⟩) (Kd.R_types HO_7.out BK283.out (by decide)) (fun _ hk=>hk.2) (.slice Ao70 t279.length co70)) (fun _ hk=>hk.2) (.bool t282)) (fun _ h_=>h_.1)))) k_ hk_),(Kd.fresh' (Kd.R_lt (by (with_reducible repeat (first|apply ra'|apply rn'|apply rw'));exact (Kd.R_mono (Kd.R_far (p:=⟨gb283,1,none⟩) (Kd.R_far (p:=⟨gb283,0,none⟩) (Kd.R_types HO_8.out BK283.out (by decide)) (fun _ hk=>hk.2) (.slice Ao70 t279.length co70)) (fun _ hk=>hk.2) (.bool t282)) (fun _ h_=>h_.1)))) k_ hk_),(Kd.fresh' (Kd.R_lt (by (with_reducible repeat (first|apply ra'|apply rn'|apply rw'));exact (Kd.R_mono (Kd.R_far (p:=⟨gb283,1,none⟩) (Kd.R_far (p:=⟨gb283,0,none⟩) (Kd.R_types HO_9.out BK283.out (by decide)) (fun _ hk=>hk.2) (.slice Ao70 t279.length co70)) (fun _ hk=>hk.2) (.bool t282)) (fun _ h_=>h_.1)))) k_ hk_),(Kd.fresh' (Kd.R_lt (by (with_reducible repeat (first|apply ra'|apply rn'|apply rw'));exact (Kd.R_mono (Kd.R_far (p:=⟨gb283,1,none⟩) (Kd.R_far (p:=⟨gb283,0,none⟩) (Kd.R_types HO_51.out BK283.out (by decide)) (fun _ hk=>hk.2) (.slice Ao70 t279.length co70)) (fun _ hk=>hk.2) (.bool t282)) (fun _ h_=>h_.1)))) k_ hk_),(Kd.fresh' (Kd.R_lt (by (with_reducible repeat (first|apply ra'|apply rn'|apply rw'));exact (Kd.R_mono (Kd.R_far (p:=⟨gb283,1,none⟩) (Kd.R_far (p:=⟨gb283,0,none⟩) (Kd.R_types HO281.out BK283.out (by decide)) (fun _ hk=>hk.2) (.slice Ao70 t279.length co70)) (fun _ hk=>hk.2) (.bool t282)) (fun _ h_=>h_.1)))) k_ hk_),(Kd.freshB (g:=gb253) (o := .cells #[.slice A0_0 l0_0.length c0_0, .slice A0_1 l0_1.length c0_1, .int .i64 a0_2] 29 (0,0)) (by (with_reducible repeat (first|refine kn' ?_ _|refine kd' ?_|refine ka' ?_ _));refine blk_far ?_ NB253_283.out _;(with_reducible repeat (first|refine kn' ?_ _|refine kd' ?_|refine ka' ?_ _));refine blk_far ?_ NB253_283.out _;(with_reducible repeat (first|refine kn' ?_ _|refine kd' ?_|refine ka' ?_ _));exact BK253.out) k_ hk_),(Kd.freshB (g:=gb283) (o := .cells #[.slice Ao70 t279.length co70, .bool t282] 38 (0,0)) (by (with_reducible repeat (first|refine kn' ?_ _|refine kd' ?_|refine ka' ?_ _));refine blk_put (cs:=#[.slice Ao70 t279.length co70, .bool false]) ?_ 1 _ rfl;(with_reducible repeat (first|refine kn' ?_ _|refine kd' ?_|refine ka' ?_ _));refine blk_put (cs:=#[.slice none 0 0, .bool false]) ?_ 0 _ rfl;(with_reducible repeat (first|refine kn' ?_ _|refine kd' ?_|refine ka' ?_ _));exact BK283.out) k_ hk_)⟩)) (bz' (y2' GE253.out GE283.out)));have n6_:=am' (bb' (g:=gb253) (o := .cells #[.slice A0_0 l0_0.length c0_0, .slice A0_1 l0_1.length c0_1, .int .i64 a0_2] 29 (0,0)) (by (with_reducible repeat (first|refine kn' ?_ _|refine kd' ?_|refine ka' ?_ _));refine blk_far ?_ NB253_283.out _;(with_reducible repeat (first|refine kn' ?_ _|refine kd' ?_|refine ka' ?_ _));refine blk_far ?_ NB253_283.out _;(with_reducible repeat (first|refine kn' ?_ _|refine kd' ?_|refine ka' ?_ _));exact BK253.out) hb);have n7_:=am' (bb' (g:=gb283) (o := .cells #[.slice Ao70 t279.length co70, .bool t282] 38 (0,0)) (by (with_reducible repeat (first|refine kn' ?_ _|refine kd' ?_|refine ka' ?_ _));refine blk_put (cs:=#[.slice Ao70 t279.length co70, .bool false]) ?_ 1 _ rfl;(with_reducible repeat (first|refine kn' ?_ _|refine kd' ?_|refine ka' ?_ _));refine blk_put (cs:=#[.slice none 0 0, .bool false]) ?_ 0 _ rfl;(with_reducible repeat (first|refine kn' ?_ _|refine kd' ?_|refine ka' ?_ _));exact BK283.out) hb);have n8_:=am' (bt' (y2' GE253.out GE283.out) hb);clear HO_7;clear HO_8;clear HO_9;clear HO_51;clear HO281;clear BK253;clear BK283;clear HB;have HO_7:=n0_;have HO_8:=n1_;have HO_9:=n2_;have HO_51:=n3_;have HO281:=n4_;have HO286:=n5_;have BK253:=n6_;have BK283:=n7_;have HB:=n8_;clear n0_ n1_ n2_ n3_ n4_ n5_ n6_ n7_ n8_;(try clear hb);(try clear hb2);(try clear hk);(try clear hi);(try clear ho0);obtain ⟨Ao75,co75,eo75⟩:=Kd.N_slice HO286.out;subst eo75))
                  go_loopg [95] k3 (fun kq v95 w'=>∃ (x7_4:List Int) (x8_4:List Int) (x95_4:Int),v95 = .int .i64 x95_4∧Aside0 (spec_loFar.l3 kq a1 (l0_0.length:Int) x7_4 x8_4 y278 x12_3 t284 (t284.length:Int) x95_4 l0_0 l0_1 a0_2 t279 t282=some (r1,r2))∧Aside0 (kq≤k3)∧Aside0 (Kd.R (Kd.int .i64) 3 w' w.heap.size (fun k_=>some k_≠((.slice (some ⟨go33,0,none⟩) x8_2.length co33):Value).ownBlock) (.slice (some ⟨go31,0,none⟩) x7_2.length co19) x7_4)∧Aside0 (Kd.R (Kd.int .i64) 3 w' w.heap.size (fun k_=>some k_≠((.slice (some ⟨go31,0,none⟩) x7_2.length co19):Value).ownBlock) (.slice (some ⟨go33,0,none⟩) x8_2.length co33) x8_4)∧Aside0 (Kd.R Kd.bool 4 w' w.heap.size (fun k_=>some k_≠((.slice Ao70 t279.length co70):Value).ownBlock) (.slice (some ⟨go63,0,none⟩) x9_2.length co63) y278)∧Aside0 (Kd.N (Kd.slice 3 (Kd.int .i64)) 22 w' w.heap.size (fun k_=>some k_≠((.slice (some ⟨go31,0,none⟩) x7_2.length co19):Value).ownBlock∧some k_≠((.slice (some ⟨go33,0,none⟩) x8_2.length co33):Value).ownBlock∧some k_≠((.slice (some ⟨go63,0,none⟩) x9_2.length co63):Value).ownBlock∧some k_≠((.slice Ao70 t279.length co70):Value).ownBlock∧k_≠gb253∧k_≠gb283) (.slice Ao75 t284.length co75) t284)∧Aside0 (Kd.R Kd.bool 4 w' w.heap.size (fun k_=>some k_≠((.slice (some ⟨go63,0,none⟩) x9_2.length co63):Value).ownBlock) (.slice Ao70 t279.length co70) t279)∧Aside0 (w'.heap[gb253]? = some (.cells #[(.slice A0_0 l0_0.length c0_0),(.slice A0_1 l0_1.length c0_1), .int .i64 a0_2] 29 (0,0)))∧Aside0 (w'.heap[gb283]? = some (.cells #[(.slice Ao70 t279.length co70), .bool t282] 38 (0,0)))∧Aside0 (Below w.heap.size w w'))
                  case atStart=>exact ⟨(x7_2),(x8_2),(0),xs',H',⟨Nat.le_refl _⟩,⟨by (try simp only[hl7_1]);(try simp only[hl7_2]);(try simp only[hl8_2]);(with_reducible repeat (first|apply ra'|apply rn'|apply rw'));exact HO_7.out⟩,⟨by (try simp only[hl7_1]);(try simp only[hl7_2]);(try simp only[hl8_2]);(with_reducible repeat (first|apply ra'|apply rn'|apply rw'));exact Kd.R_mono HO_8.out (fun _ hk=>hk.1)⟩,⟨by (try simp only[hl7_1]);(try simp only[hl7_2]);(try simp only[hl8_2]);(with_reducible repeat (first|apply ra'|apply rn'|apply rw'));exact Kd.R_mono HO_9.out (fun _ hk=>hk.2)⟩,⟨by (try simp only[hl7_1]);(try simp only[hl7_2]);(try simp only[hl8_2]);(with_reducible repeat (first|apply Kd.N_alloc|apply Kd.N_drewN|apply Kd.N_drew));exact Kd.N_mono HO286.out (fun _ hk=>⟨hk.1,⟨hk.2.1,⟨hk.2.2.1,⟨hk.2.2.2.2.1,⟨hk.2.2.2.2.2.1,hk.2.2.2.2.2.2⟩⟩⟩⟩⟩)⟩,⟨by (try simp only[hl7_1]);(try simp only[hl7_2]);(try simp only[hl8_2]);(with_reducible repeat (first|apply ra'|apply rn'|apply rw'));exact Kd.R_mono HO281.out (fun _ hk=>hk.2)⟩,⟨by (try simp only[hl7_1]);(try simp only[hl7_2]);(try simp only[hl8_2]);(with_reducible repeat (first|refine kn' ?_ _|refine kd' ?_|refine ka' ?_ _));exact BK253.out⟩,⟨by (try simp only[hl7_1]);(try simp only[hl7_2]);(try simp only[hl8_2]);(with_reducible repeat (first|refine kn' ?_ _|refine kd' ?_|refine ka' ?_ _));exact BK283.out⟩,⟨y2' GE253.out GE283.out⟩⟩
                  case round =>
                   clear H';try clear c1
                   try clear c2
                   try clear p2
                   try clear q2
                   try clear hx2
                   try clear hf2
                   try clear c3
                   try clear p3
                   try clear q3
                   try clear hx3
                   try clear hf3
                   try clear c4
                   try clear c4b0
                   try clear c4b1
                   try clear q4
                   try clear c5
                   try clear c5b0
                   try clear c5b1
                   try clear c6
                   try clear c6b0
                   try clear p6
                   try clear q6
                   try clear hx6
                   try clear hf6
                   try clear c7
                   try clear c7b0
                   try clear c8
                   try clear c8b0
                   try clear c8b1
                   try clear c10
                   try clear c20
                   try clear c20b0
                   try clear c21
                   try clear c21b0
                   try clear c22
                   try clear c22b0
                   try clear p23
                   try clear q23
                   try clear hx23
                   try clear hf23
                   try clear p27
                   try clear q27
                   try clear hx27
                   try clear c29
                   try clear c29b0
                   try clear c30
                   try clear c30b0
                   try clear p31
                   try clear q31
                   try clear hx31
                   try clear hf31
                   try clear c32
                   try clear c32b0
                   try clear p33
                   try clear q33
                   try clear hx33
                   try clear hf33
                   try clear c44
                   try clear c44b0
                   try clear c45
                   try clear c45b0
                   try clear c46
                   try clear c46b0
                   try clear c47
                   try clear c47b0
                   try clear q48
                   try clear c49
                   try clear c51
                   try clear c51b0
                   try clear c52
                   try clear c52b0
                   try clear c54
                   try clear c54b0
                   try clear c55
                   try clear c55b0
                   try clear c56
                   try clear c56b0
                   try clear c60
                   try clear c60b0
                   try clear c61
                   try clear c61b0
                   try clear c62
                   try clear c62b0
                   try clear p63
                   try clear q63
                   try clear hx63
                   try clear hf63
                   try clear p64
                   try clear c67
                   try clear c69
                   try clear c71
                   try clear c73
                   try clear hcz10_0
                   try clear hcz10_1
                   try clear hcz10_2
                   try clear hcz34_0
                   try clear hcz34_1
                   try clear hcz34_2
                   try clear hcz72_0
                   try clear hcz72_1
                   try clear hcz73_0
                   try clear hcz73_1
                   try clear hcz73_2
                   try clear hfz10_0
                   try clear hfz10_1
                   try clear hfz10_2
                   try clear hfz34_0
                   try clear hfz34_1
                   try clear hfz34_2
                   try clear hfz72_0
                   try clear hfz72_1
                   try clear hfz73_0
                   try clear hfz73_1
                   try clear hfz73_2
                   try clear hx23_0
                   try clear hx275_0
                   try clear hx276_0
                   try clear hx277_0
                   try clear hx31_0
                   try clear hx33_0
                   try clear hx63_0
                   try clear p2
                   try clear p23
                   try clear p275
                   try clear p276
                   try clear p277
                   try clear p3
                   try clear p31
                   try clear p33
                   try clear p6
                   try clear p63
                   try clear q2
                   try clear q23
                   try clear q275
                   try clear q276
                   try clear q277
                   try clear q3
                   try clear q31
                   try clear q33
                   try clear q63
                   obtain ⟨x7_4,x8_4,x95_4,rfl,HA,HK4,HO_7,HO_8,HO_9,HO_93,HO_284000,BK253,BK283,HB⟩:=hrel;have hl7_4:=(Kd.R_reads' HO_7.out).1;rw[hl7_4] at HO_7
                   (try simp only[hl7_4])
                   (try simp only[hl7_4] at BK253)
                   (try simp only[hl7_4] at BK283)
                   (try simp only[hl7_4] at HO_8)
                   (try simp only[hl7_4] at HO_9)
                   (try simp only[hl7_4] at HO_93)
                   (try simp only[hl7_4] at HO_284000)
                   have hl8_4:=(Kd.R_reads' HO_8.out).1;rw[hl8_4] at HO_8
                   (try simp only[hl8_4])
                   (try simp only[hl8_4] at BK253)
                   (try simp only[hl8_4] at BK283)
                   (try simp only[hl8_4] at HO_7)
                   (try simp only[hl8_4] at HO_9)
                   (try simp only[hl8_4] at HO_93)
                   (try simp only[hl8_4] at HO_284000)
                   have hl9_4:=(Kd.R_reads' HO_9.out).1;rw[hl9_4] at HO_9
                   (try simp only[hl9_4])
                   (try simp only[hl9_4] at BK253)
                   (try simp only[hl9_4] at BK283)
                   (try simp only[hl9_4] at HO_7)
                   (try simp only[hl9_4] at HO_8)
                   (try simp only[hl9_4] at HO_93)
                   (try simp only[hl9_4] at HO_284000)
                   cases gk with
                   | zero=>exact absurd HA.out (by simp[spec_loFar.l3])
                   | succ k4 =>
                    have H:=HA.out;clear HA;simp only[spec_loFar.l3] at H;by_cases c76:x95_4 < (t284.length:Int)
                    ·
                     rw[if_pos c76] at H;have c76b0:decide (x95_4 < (t284.length:Int))=true:=dt' c76;clear c76;by_cases c77:0≤x95_4
                     ·
                      rw[if_pos c77] at H;have c77b0:decide (0≤x95_4)=true:=dt' c77;clear c77;by_cases c78:x95_4 < (t284.length:Int)
                      ·
                       rw[if_pos c78] at H;have c78b0:decide (x95_4 < (t284.length:Int))=true:=dt' c78;clear c78;replace H:=Option.bind_eq_some_iff.mp H;obtain ⟨⟨t288,t291⟩,A790,H⟩:=H;replace H:((spec_seIndex.f k4 t288 t291).bind fun t292=>(if 0≤x12_3 then (if x12_3 < (x7_4.length:Int) then ((spec_loCost.f k4 l0_0 l0_1 a0_2 (rd_L2 t284 x95_4) a1).bind fun t294=>(if 0≤t292 then (if t292 < (x7_4.length:Int) then (if (rd x7_4 t292) < 0 then (spec_loFar.j4 k4 a1 (l0_0.length:Int) x7_4 x8_4 y278 x12_3 t292 (wrap64 ((rd x7_4 x12_3)+t294)) t284 (t284.length:Int) x95_4 true l0_0 l0_1 a0_2 t279 t282) else (spec_loFar.j4 k4 a1 (l0_0.length:Int) x7_4 x8_4 y278 x12_3 t292 (wrap64 ((rd x7_4 x12_3)+t294)) t284 (t284.length:Int) x95_4 (decide ((wrap64 ((rd x7_4 x12_3)+t294)) < (rd x7_4 t292))) l0_0 l0_1 a0_2 t279 t282)) else (none)) else (none))) else (none)) else (none)))=some (r1,r2):=H;have A79:=am' A790;clear A790;replace H:=Option.bind_eq_some_iff.mp H;obtain ⟨t292,A800,H⟩:=H;replace H:(if 0≤x12_3 then (if x12_3 < (x7_4.length:Int) then ((spec_loCost.f k4 l0_0 l0_1 a0_2 (rd_L2 t284 x95_4) a1).bind fun t294=>(if 0≤t292 then (if t292 < (x7_4.length:Int) then (if (rd x7_4 t292) < 0 then (spec_loFar.j4 k4 a1 (l0_0.length:Int) x7_4 x8_4 y278 x12_3 t292 (wrap64 ((rd x7_4 x12_3)+t294)) t284 (t284.length:Int) x95_4 true l0_0 l0_1 a0_2 t279 t282) else (spec_loFar.j4 k4 a1 (l0_0.length:Int) x7_4 x8_4 y278 x12_3 t292 (wrap64 ((rd x7_4 x12_3)+t294)) t284 (t284.length:Int) x95_4 (decide ((wrap64 ((rd x7_4 x12_3)+t294)) < (rd x7_4 t292))) l0_0 l0_1 a0_2 t279 t282)) else (none)) else (none))) else (none)) else (none))=some (r1,r2):=H;have A80:=am' A800;clear A800;by_cases c81:0≤x12_3
                       ·
                        rw[if_pos c81] at H;have c81b0:decide (0≤x12_3)=true:=dt' c81;clear c81;by_cases c82:x12_3 < (x7_4.length:Int)
                        ·
                         rw[if_pos c82] at H;have c82b0:decide (x12_3 < (x7_4.length:Int))=true:=dt' c82;clear c82;replace H:=Option.bind_eq_some_iff.mp H;obtain ⟨t294,A830,H⟩:=H;replace H:(if 0≤t292 then (if t292 < (x7_4.length:Int) then (if (rd x7_4 t292) < 0 then (spec_loFar.j4 k4 a1 (l0_0.length:Int) x7_4 x8_4 y278 x12_3 t292 (wrap64 ((rd x7_4 x12_3)+t294)) t284 (t284.length:Int) x95_4 true l0_0 l0_1 a0_2 t279 t282) else (spec_loFar.j4 k4 a1 (l0_0.length:Int) x7_4 x8_4 y278 x12_3 t292 (wrap64 ((rd x7_4 x12_3)+t294)) t284 (t284.length:Int) x95_4 (decide ((wrap64 ((rd x7_4 x12_3)+t294)) < (rd x7_4 t292))) l0_0 l0_1 a0_2 t279 t282)) else (none)) else (none))=some (r1,r2):=H;have A83:=am' A830;clear A830;have HC84:=am' H;clear H;have p287:0≤(x95_4:Int):=od' xa';have q287:x95_4 < (t284.length:Int):=od' xa';obtain ⟨ad287,A287_0,c287_0,e287,hx287_0,hl287_0,hi287_0⟩:=at_L2 (Kd.N_reads' HO_93.out).2.2 x95_4 p287 q287;cases e287;obtain ⟨ce287,hce287,hMe287,hcc287⟩:=Kd.N_get HO_93.out [] x95_4 p287 (by first|exact q287|exact od' xa'|(have e_:=(Kd.N_reads' HO_93.out).1;omega));obtain ⟨ua287_0,uc287_0,rfl,ul287_0,ge287_0⟩:=Kd.FK_slice_open hMe287;have hv287_0:=hcc287 0 _ rfl;rw[Nat.add_zero,show ((Kd.slice 3 (Kd.int .i64))).sz=1 from rfl,Nat.mul_one] at hv287_0;replace hv287_0:=os' (hv287_0.symm.trans hx287_0);injection hv287_0 with hva_ hvn_ hvc_
                         rw[hva_] at ge287_0;rw[hvc_] at ul287_0;have HL287_0:=am' (show Kd.V (Kd.int .i64) 3 _ w.heap.size _ _ (rd_L2 t284 x95_4) from Kd.V_mk ul287_0 ge287_0);clear hva_ hvn_ hvc_ ge287_0 ul287_0;clear hcc287 hce287;have HR287_0:=am' hi287_0;have HC287_0:=am' hl287_0;clear hi287_0 hl287_0;replace p287:=eq_true p287;replace q287:=eq_true q287;have hnb85:=NB283_253.out;have hnc85:=NB253_283.out;have hcz86_0:wr.cell? ⟨gb283,0,none⟩=some (.slice Ao70 t279.length co70):=(bc' BK283.out 0).trans rfl;have hcz86_1:wr.cell? ⟨gb283,1,none⟩=some (.bool t282):=(bc' BK283.out 1).trans rfl;have hfz86_0:=bf' BK283.out 0;have hfz86_1:=bf' BK283.out 1
                         try go_wp2_with (first|((with_reducible refine gate_callee (f:=60) rfl ?_);refine goesL_ (some 101) rfl rfl Try.func60 xk' rfl #[.agg #[.slice Ao70 t279.length co70, .bool t282], .slice A287_0 (rd_L2 t284 x95_4).length c287_0] rfl xl' ?_;(with_reducible refine (spec_paCross.calls k4 _ _ t279 t282 _ _ (rd_L2 t284 x95_4) t288 t291 _ ?side1 ?side2 ?side3 ?side4 A79.out).mono ?_);(case side1=>exact kc' ((Kd.R_reads' HO_284000.out).2.2));(case side2=>exact (Kd.R_reads' HO_284000.out).2.1);(case side3=>exact kc' (kx' HR287_0.out));(case side4=>exact HC287_0.out);rintro e w87 ⟨v289,rfl,ho0,hb⟩;refine ⟨_,rfl,?_⟩;have n0_:=am' (rb' (kr' HO_7.out) hb);have n1_:=am' (rb' (kr' HO_8.out) hb);have n2_:=am' (Kd.R_elder' (kr' HO_9.out) (Kd.R_base ho0) hb);have n3_:=am' (Kd.N_elder' (kN' HO_93.out) (Kd.R_base ho0) hb);have n4_:=am' (Kd.R_elder' (kr' HO_284000.out) (Kd.R_base ho0) hb);have n5_:=am' (Kd.V_elder' (kV' HL287_0.out) (Kd.R_base ho0) hb);have n6_:=am' (Kd.R_lower (Kd.R_new' (Kd.R_new' ho0 (Kd.R_lt (kr' HO_9.out))) (Kd.R_lt (kr' HO_284000.out))) (bz' (y2' GE253.out GE283.out)));have n7_:=am' (bb' (g:=gb253) (o := .cells #[.slice A0_0 l0_0.length c0_0, .slice A0_1 l0_1.length c0_1, .int .i64 a0_2] 29 (0,0)) (kk' BK253.out) hb);have n8_:=am' (bb' (g:=gb283) (o := .cells #[.slice Ao70 t279.length co70, .bool t282] 38 (0,0)) (kk' BK283.out) hb);have n9_:=am' (cb' (kx' HR287_0.out) hb);have n10_:=am' (bt' (y2' GE253.out GE283.out) hb);clear HO_7;clear HO_8;clear HO_9;clear HO_93;clear HO_284000;clear HL287_0;clear BK253;clear BK283;clear HR287_0;clear HB;have HO_7:=n0_;have HO_8:=n1_;have HO_9:=n2_;have HO_93:=n3_;have HO_284000:=n4_;have HL287_0:=n5_;have HO290:=n6_;have BK253:=n7_;have BK283:=n8_;have HR287_0:=n9_;have HB:=n10_;clear n0_ n1_ n2_ n3_ n4_ n5_ n6_ n7_ n8_ n9_ n10_;(try clear hb);(try clear hb2);(try clear hk);(try clear hi);(try clear ho0);obtain ⟨Ao88,co88,eo88⟩:=Kd.R_slice HO290.out;subst eo88)|((with_reducible refine gate_callee (f:=82) rfl ?_);refine goesL_ (some 102) rfl rfl Try.func82 xk' rfl #[.agg #[.slice Ao88 t288.length co88, .bool t291]] rfl xl' ?_;(with_reducible refine (spec_seIndex.calls k4 _ _ t288 t291 t292 _ ?side1 ?side2 A80.out).mono ?_);(case side1=>exact kc' ((Kd.R_reads' HO290.out).2.2));(case side2=>exact (Kd.R_reads' HO290.out).2.1);rintro e w89 ⟨rfl,hb⟩;refine ⟨_,rfl,?_⟩;have n0_:=am' (rb' (kr' HO_7.out) hb);have n1_:=am' (rb' (kr' HO_8.out) hb);have n2_:=am' (rb' (kr' HO_9.out) hb);have n3_:=am' (Kd.N_below (kN' HO_93.out) hb);have n4_:=am' (rb' (kr' HO_284000.out) hb);have n5_:=am' (Kd.V_below (kV' HL287_0.out) hb);have n6_:=am' (rb' (kr' HO290.out) hb);have n7_:=am' (bb' (g:=gb253) (o := .cells #[.slice A0_0 l0_0.length c0_0, .slice A0_1 l0_1.length c0_1, .int .i64 a0_2] 29 (0,0)) (kk' BK253.out) hb);have n8_:=am' (bb' (g:=gb283) (o := .cells #[.slice Ao70 t279.length co70, .bool t282] 38 (0,0)) (kk' BK283.out) hb);have n9_:=am' (cb' (kx' HR287_0.out) hb);have n10_:=am' (bt' (y2' GE253.out GE283.out) hb);clear HO_7;clear HO_8;clear HO_9;clear HO_93;clear HO_284000;clear HL287_0;clear HO290;clear BK253;clear BK283;clear HR287_0;clear HB;have HO_7:=n0_;have HO_8:=n1_;have HO_9:=n2_;have HO_93:=n3_;have HO_284000:=n4_;have HL287_0:=n5_;have HO290:=n6_;have BK253:=n7_;have BK283:=n8_;have HR287_0:=n9_;have HB:=n10_;clear n0_ n1_ n2_ n3_ n4_ n5_ n6_ n7_ n8_ n9_ n10_;(try clear hb);(try clear hb2);(try clear hk);(try clear hi)))
                         have n0_:=am' (rw' HO_7.out);have n1_:=am' (rw' HO_8.out);have n2_:=am' (rw' HO_9.out);have n3_:=am' (Kd.N_drew HO_93.out);have n4_:=am' (rw' HO_284000.out);have n5_:=am' (Kd.V_drew HL287_0.out);have n6_:=am' (rw' HO290.out);have n7_:=am' (kd' BK253.out);have n8_:=am' (kd' BK283.out);have n9_:=am' (cd' HR287_0.out);have n10_:=am' (be' HB.out);clear HO_7;clear HO_8;clear HO_9;clear HO_93;clear HO_284000;clear HL287_0;clear HO290;clear BK253;clear BK283;clear HR287_0;clear HB;have HO_7:=n0_;have HO_8:=n1_;have HO_9:=n2_;have HO_93:=n3_;have HO_284000:=n4_;have HL287_0:=n5_;have HO290:=n6_;have BK253:=n7_;have BK283:=n8_;have HR287_0:=n9_;have HB:=n10_;clear n0_ n1_ n2_ n3_ n4_ n5_ n6_ n7_ n8_ n9_ n10_;have p293:0≤(x12_3:Int):=od' xa';have q293:x12_3 < (x7_4.length:Int):=od' xa';obtain ⟨ad293,e293,hx293_0⟩:=Kd.at_int (Kd.R_reads' HO_7.out).2.2 x12_3 p293 q293;obtain rfl:(⟨go31,0,none⟩:Addr)=ad293:=(by injection e293)
                         (first|simp only[add_plain] at hx293_0|simp only[add_at] at hx293_0|simp only[Addr.add,Nat.zero_add] at hx293_0|skip)
                         replace p293:=eq_true p293;replace q293:=eq_true q293;refine start_ (n:=10) (S:=fun w'=>w'.cell? ⟨gb253,0,none⟩=some (.slice A0_0 l0_0.length c0_0)∧w'.cell? ⟨gb253,1,none⟩=some (.slice A0_1 l0_1.length c0_1)∧w'.cell? ⟨gb253,2,none⟩=some (.int .i64 a0_2)∧w'.cell? ⟨go31,(x12_3).toNat,none⟩=some (.int .i64 (rd x7_4 x12_3))) (ds:=[]) #[false,false,false,false,false,false,false,false,false,false] xk' rfl rfl ⟨(bc' BK253.out 0).trans rfl,(bc' BK253.out 1).trans rfl,(bc' BK253.out 2).trans rfl,hx293_0⟩ (fun hHeld=>?_);refine with_tabW spec_loFar.tab27 spec_loFar.bits27 (fun HT_ HW_=>?_);generalize w89.drew=w90 at HO_7 HO_8 HO_9 HO_93 HO_284000 HL287_0 HO290 BK253 BK283 HR287_0 HB hx293_0 hHeld ⊢
                         refine pure_ (i:=0) (N:=some 103) (v:=?_) (a':=?_) #[true,false,false,false,false,false,false,false,false,false] rfl rfl (any_of HT_.out xk') (fun _ _ _ h=>h) (Or.inl ⟨by rfl,?_⟩) ?_ ?_
                         rotate_left
                         ·
                          intro w';go_simp;with_reducible rfl
                         rotate_left
                         ·
                          simp only[Act.put,sa',sb',sc',i64_w,i32_w];rfl
                         refine pure_ (i:=1) (N:=some 104) (v:=?_) (a':=?_) #[true,true,false,false,false,false,false,false,false,false] rfl rfl (any_of HT_.out xk') (fun _ _ _ h=>h) (Or.inl ⟨by rfl,?_⟩) ?_ ?_
                         rotate_left
                         ·
                          intro w';go_simp;with_reducible rfl
                         rotate_left
                         ·
                          simp only[Act.put,sa',sb',sc',i64_w,i32_w];rfl
                         refine pure_ (i:=2) (N:=some 105) (v:=?_) (a':=?_) #[true,true,true,false,false,false,false,false,false,false] rfl rfl (any_of HT_.out xk') (fun _ _ _ h=>h) (Or.inl ⟨by rfl,?_⟩) ?_ ?_
                         rotate_left
                         ·
                          intro w';go_simp;with_reducible rfl
                         rotate_left
                         ·
                          simp only[Act.put,sa',sb',sc',i64_w,i32_w];rfl
                         refine pure_ (i:=5) (N:=some 108) (v:=?_) (a':=?_) #[true,true,true,false,false,true,false,false,false,false] rfl rfl (any_of HT_.out xk') (fun _ _ _ h=>h) (Or.inl ⟨by rfl,?_⟩) ?_ ?_
                         rotate_left
                         ·
                          intro w';go_simp;with_reducible rfl
                         rotate_left
                         ·
                          simp only[Act.put,sa',sb',sc',i64_w,i32_w];rfl
                         refine pure_ (i:=6) (N:=some 109) (v:=?_) (a':=?_) #[true,true,true,false,false,true,true,false,false,false] rfl rfl (any_of HT_.out xk') (fun _ _ _ h=>h) (Or.inl ⟨by rfl,?_⟩) ?_ ?_
                         rotate_left
                         ·
                          intro w';go_simp;with_reducible rfl
                         rotate_left
                         ·
                          simp only[Act.put,sa',sb',sc',i64_w,i32_w];rfl
                         refine take_ (i:=3) (N:=some 106) (v:=?_) (a':=?_) #[true,true,true,true,false,true,true,false,false,false] rfl rfl (take_ofW HT_.out HW_.out xk') (fun _ _ _ h=>h) (Or.inl ⟨by rfl,?_⟩) hHeld ?_ ?_
                         rotate_left
                         ·
                          rintro w' ⟨s0,s1,s2,s3⟩
                          go_simp;with_reducible rfl
                         rotate_left
                         ·
                          simp only[Act.put,sa',sb',sc',i64_w,i32_w];rfl
                         refine take_ (i:=4) (N:=some 107) (v:=?_) (a':=?_) #[true,true,true,true,true,true,true,false,false,false] rfl rfl (take_ofW HT_.out HW_.out xk') (fun _ _ _ h=>h) (Or.inl ⟨by rfl,?_⟩) hHeld ?_ ?_
                         rotate_left
                         ·
                          rintro w' ⟨s0,s1,s2,s3⟩
                          go_simp;with_reducible rfl
                         rotate_left
                         ·
                          simp only[Act.put,sa',sb',sc',i64_w,i32_w];rfl
                         refine one_ (i:=7) (N:=some 110) #[true,true,true,true,true,true,true,true,false,false] rfl rfl (one_of HT_.out xk') (by decide) (fun K hK=>?_);refine goes_ Try.func106 xk' rfl #[.agg #[.slice A0_0 l0_0.length c0_0, .slice A0_1 l0_1.length c0_1, .int .i64 a0_2], .slice A287_0 (rd_L2 t284 x95_4).length c287_0, .bool a1] (by rfl) rfl rfl xl' ?_
                         with_reducible refine (spec_loCost.calls k4 _ _ l0_0 _ _ l0_1 a0_2 _ _ (rd_L2 t284 x95_4) a1 t294 _ ?side1 ?side2 ?side3 ?side4 ?side5 ?side6 A83.out).mono ?_
                         (case side1=>exact kc' (cb' HR0_0.out HB.out))
                         (case side2=>exact HC0_0.out)
                         (case side3=>exact kc' (cb' HR0_1.out HB.out))
                         (case side4=>exact HC0_1.out)
                         (case side5=>exact kc' (kx' HR287_0.out))
                         (case side6=>exact HC287_0.out)
                         rintro e w91 ⟨rfl,hb⟩
                         have HS3_:=(hb.cell (bl' _ _ (hHeld.2.2.2))).trans (hHeld.2.2.2);refine ⟨_,rfl,?_⟩;have n0_:=am' (rb' (kr' HO_7.out) hb);have n1_:=am' (rb' (kr' HO_8.out) hb);have n2_:=am' (rb' (kr' HO_9.out) hb);have n3_:=am' (Kd.N_below (kN' HO_93.out) hb);have n4_:=am' (rb' (kr' HO_284000.out) hb);have n5_:=am' (Kd.V_below (kV' HL287_0.out) hb);have n6_:=am' (rb' (kr' HO290.out) hb);have n7_:=am' (bb' (g:=gb253) (o := .cells #[.slice A0_0 l0_0.length c0_0, .slice A0_1 l0_1.length c0_1, .int .i64 a0_2] 29 (0,0)) (kk' BK253.out) hb);have n8_:=am' (bb' (g:=gb283) (o := .cells #[.slice Ao70 t279.length co70, .bool t282] 38 (0,0)) (kk' BK283.out) hb);have n9_:=am' (cb' (kx' HR287_0.out) hb);have n10_:=am' (bt' (y2' GE253.out GE283.out) hb);clear HO_7;clear HO_8;clear HO_9;clear HO_93;clear HO_284000;clear HL287_0;clear HO290;clear BK253;clear BK283;clear HR287_0;clear HB;have HO_7:=n0_;have HO_8:=n1_;have HO_9:=n2_;have HO_93:=n3_;have HO_284000:=n4_;have HL287_0:=n5_;have HO290:=n6_;have BK253:=n7_;have BK283:=n8_;have HR287_0:=n9_;have HB:=n10_;clear n0_ n1_ n2_ n3_ n4_ n5_ n6_ n7_ n8_ n9_ n10_
                         (try clear hb)
                         (try clear hb2)
                         (try clear hk)
                         (try clear hi)
                         refine hK.out _ _ ⟨(bc' BK253.out 0).trans rfl,(bc' BK253.out 1).trans rfl,(bc' BK253.out 2).trans rfl,HS3_⟩ (fun hHeld=>?_);clear hK K;refine norm_ (a':=?_) ?_ ?_
                         rotate_left
                         ·
                          show Act.put _ (some 110) _=_
                          simp only[Act.put,sa',sb',sc',i64_w,i32_w];rfl
                         refine pure_ (i:=8) (N:=some 111) (v:=?_) (a':=?_) #[true,true,true,true,true,true,true,true,true,false] rfl rfl (any_of HT_.out xk') (fun _ _ _ h=>h) (Or.inl ⟨by rfl,?_⟩) ?_ ?_
                         rotate_left
                         ·
                          intro w';go_simp;with_reducible rfl
                         rotate_left
                         ·
                          simp only[Act.put,sa',sb',sc',i64_w,i32_w];rfl
                         refine pure_ (i:=9) (N:=some 19) (v:=?_) (a':=?_) #[true,true,true,true,true,true,true,true,true,true] rfl rfl (any_of HT_.out xk') (fun _ _ _ h=>h) (Or.inl ⟨by rfl,?_⟩) ?_ ?_
                         rotate_left
                         ·
                          intro w';go_simp;with_reducible rfl
                         rotate_left
                         ·
                          simp only[Act.put,sa',sb',sc',i64_w,i32_w];rfl
                         refine done_ (done_of HT_.out xk') ?_
                         go_upto_region 28 with (fail)
                         go_cut [124] (fun v124 wc=>∃ (kq:Nat) (x124_83:Bool),v124 = .bool x124_83∧Aside0 (spec_loFar.j4 kq a1 (l0_0.length:Int) x7_4 x8_4 y278 x12_3 t292 (wrap64 ((rd x7_4 x12_3)+t294)) t284 (t284.length:Int) x95_4 x124_83 l0_0 l0_1 a0_2 t279 t282=some (r1,r2))∧Aside0 (kq≤k4)∧Aside0 (Kd.R (Kd.int .i64) 3 wc w.heap.size (fun k_=>some k_≠((.slice (some ⟨go33,0,none⟩) x8_4.length co33):Value).ownBlock) (.slice (some ⟨go31,0,none⟩) x7_4.length co19) x7_4)∧Aside0 (Kd.R (Kd.int .i64) 3 wc w.heap.size (fun k_=>some k_≠((.slice (some ⟨go31,0,none⟩) x7_4.length co19):Value).ownBlock) (.slice (some ⟨go33,0,none⟩) x8_4.length co33) x8_4)∧Aside0 (Kd.R Kd.bool 4 wc w.heap.size (fun k_=>some k_≠((.slice Ao70 t279.length co70):Value).ownBlock) (.slice (some ⟨go63,0,none⟩) y278.length co63) y278)∧Aside0 (Kd.N (Kd.slice 3 (Kd.int .i64)) 22 wc w.heap.size (fun k_=>some k_≠((.slice (some ⟨go31,0,none⟩) x7_4.length co19):Value).ownBlock∧some k_≠((.slice (some ⟨go33,0,none⟩) x8_4.length co33):Value).ownBlock∧some k_≠((.slice (some ⟨go63,0,none⟩) y278.length co63):Value).ownBlock∧some k_≠((.slice Ao70 t279.length co70):Value).ownBlock∧k_≠gb253∧k_≠gb283) (.slice (some ad287) t284.length co75) t284)∧Aside0 (Kd.R Kd.bool 4 wc w.heap.size (fun k_=>some k_≠((.slice (some ⟨go63,0,none⟩) y278.length co63):Value).ownBlock) (.slice Ao70 t279.length co70) t279)∧Aside0 (wc.heap[gb253]? = some (.cells #[(.slice A0_0 l0_0.length c0_0),(.slice A0_1 l0_1.length c0_1), .int .i64 a0_2] 29 (0,0)))∧Aside0 (wc.heap[gb283]? = some (.cells #[(.slice Ao70 t279.length co70), .bool t282] 38 (0,0)))∧Aside0 (Kd.C (Kd.int .i64) wc A287_0 (rd_L2 t284 x95_4).length (rd_L2 t284 x95_4))∧Aside0 (Below w.heap.size w wc))
                         case first =>
                          have H:=HC84.out;clear HC84;by_cases c92:0≤t292
                          ·
                           rw[if_pos c92] at H;have c92b0:decide (0≤t292)=true:=dt' c92;clear c92;(first|rw[c92b0]|(simp only[i64_w,i32_w];rw[c92b0])|skip)
                           by_cases c93:t292 < (x7_4.length:Int)
                           ·
                            rw[if_pos c93] at H;have c93b0:decide (t292 < (x7_4.length:Int))=true:=dt' c93;clear c93;by_cases c94:(rd x7_4 t292) < 0
                            ·
                             rw[if_pos c94] at H;have c94b0:decide ((rd x7_4 t292) < 0)=true:=dt' c94;clear c94;have H':=am' H;clear H;have p295:0≤(t292:Int):=od' xa';have q295:t292 < (x7_4.length:Int):=od' xa';obtain ⟨ad295,e295,hx295_0⟩:=Kd.at_int (Kd.R_reads' HO_7.out).2.2 t292 p295 q295;obtain rfl:(⟨go31,0,none⟩:Addr)=ad295:=(by injection e295)
                             (first|simp only[add_plain] at hx295_0|simp only[add_at] at hx295_0|simp only[Addr.add,Nat.zero_add] at hx295_0|skip)
                             replace p295:=eq_true p295;replace q295:=eq_true q295;go_wp2;go_meet
                             case rel=>exact ⟨_,(true),xs',H',⟨by have:=HK1.out;have:=HK2.out;have:=HK3.out;have:=HK4.out;first|omega|exact Nat.le_refl _⟩,⟨by (try simp only[hl7_1]);(try simp only[hl7_2]);(try simp only[hl8_2]);(try simp only[hl7_4]);(try simp only[hl8_4]);(try simp only[hl9_4]);(with_reducible repeat (first|apply ra'|apply rn'|apply rw'));exact HO_7.out⟩,⟨by (try simp only[hl7_1]);(try simp only[hl7_2]);(try simp only[hl8_2]);(try simp only[hl7_4]);(try simp only[hl8_4]);(try simp only[hl9_4]);(with_reducible repeat (first|apply ra'|apply rn'|apply rw'));exact HO_8.out⟩,⟨by (try simp only[hl7_1]);(try simp only[hl7_2]);(try simp only[hl8_2]);(try simp only[hl7_4]);(try simp only[hl8_4]);(try simp only[hl9_4]);(with_reducible repeat (first|apply ra'|apply rn'|apply rw'));exact Kd.R_mono HO_9.out (fun _ hk=>hk.1)⟩,⟨by (try simp only[hl7_1]);(try simp only[hl7_2]);(try simp only[hl8_2]);(try simp only[hl7_4]);(try simp only[hl8_4]);(try simp only[hl9_4]);(with_reducible repeat (first|apply Kd.N_alloc|apply Kd.N_drewN|apply Kd.N_drew));exact Kd.N_mono HO_93.out (fun _ hk=>⟨hk.1.1,⟨hk.1.2.1,⟨hk.1.2.2.1,⟨hk.1.2.2.2.1,⟨hk.1.2.2.2.2.1,hk.1.2.2.2.2.2⟩⟩⟩⟩⟩)⟩,⟨by (try simp only[hl7_1]);(try simp only[hl7_2]);(try simp only[hl8_2]);(try simp only[hl7_4]);(try simp only[hl8_4]);(try simp only[hl9_4]);(with_reducible repeat (first|apply ra'|apply rn'|apply rw'));exact Kd.R_mono HO_284000.out (fun _ hk=>hk.1)⟩,⟨by (try simp only[hl7_1]);(try simp only[hl7_2]);(try simp only[hl8_2]);(try simp only[hl7_4]);(try simp only[hl8_4]);(try simp only[hl9_4]);(with_reducible repeat (first|refine kn' ?_ _|refine kd' ?_|refine ka' ?_ _));exact BK253.out⟩,⟨by (try simp only[hl7_1]);(try simp only[hl7_2]);(try simp only[hl8_2]);(try simp only[hl7_4]);(try simp only[hl8_4]);(try simp only[hl9_4]);(with_reducible repeat (first|refine kn' ?_ _|refine kd' ?_|refine ka' ?_ _));exact BK283.out⟩,⟨kx' HR287_0.out⟩,⟨y2' GE253.out GE283.out⟩⟩
                            ·
                             rw[if_neg c94] at H;have c94b0:decide ((rd x7_4 t292) < 0)=false:=df' c94;clear c94;have H':=am' H;clear H;have p295:0≤(t292:Int):=od' xa';have q295:t292 < (x7_4.length:Int):=od' xa';obtain ⟨ad295,e295,hx295_0⟩:=Kd.at_int (Kd.R_reads' HO_7.out).2.2 t292 p295 q295;obtain rfl:(⟨go31,0,none⟩:Addr)=ad295:=(by injection e295)
                             (first|simp only[add_plain] at hx295_0|simp only[add_at] at hx295_0|simp only[Addr.add,Nat.zero_add] at hx295_0|skip)
                             replace p295:=eq_true p295;replace q295:=eq_true q295;have p296:0≤(t292:Int):=od' xa';have q296:t292 < (x7_4.length:Int):=od' xa';obtain ⟨ad296,e296,hx296_0⟩:=Kd.at_int (Kd.R_reads' HO_7.out).2.2 t292 p296 q296;obtain rfl:(⟨go31,0,none⟩:Addr)=ad296:=(by injection e296)
                             (first|simp only[add_plain] at hx296_0|simp only[add_at] at hx296_0|simp only[Addr.add,Nat.zero_add] at hx296_0|skip)
                             replace p296:=eq_true p296;replace q296:=eq_true q296;go_wp2;go_meet
                             case rel=>exact ⟨_,(decide ((wrap64 ((rd x7_4 x12_3)+t294)) < (rd x7_4 t292))),xs',H',⟨by have:=HK1.out;have:=HK2.out;have:=HK3.out;have:=HK4.out;first|omega|exact Nat.le_refl _⟩,⟨by (try simp only[hl7_1]);(try simp only[hl7_2]);(try simp only[hl8_2]);(try simp only[hl7_4]);(try simp only[hl8_4]);(try simp only[hl9_4]);(with_reducible repeat (first|apply ra'|apply rn'|apply rw'));exact HO_7.out⟩,⟨by (try simp only[hl7_1]);(try simp only[hl7_2]);(try simp only[hl8_2]);(try simp only[hl7_4]);(try simp only[hl8_4]);(try simp only[hl9_4]);(with_reducible repeat (first|apply ra'|apply rn'|apply rw'));exact HO_8.out⟩,⟨by (try simp only[hl7_1]);(try simp only[hl7_2]);(try simp only[hl8_2]);(try simp only[hl7_4]);(try simp only[hl8_4]);(try simp only[hl9_4]);(with_reducible repeat (first|apply ra'|apply rn'|apply rw'));exact Kd.R_mono HO_9.out (fun _ hk=>hk.1)⟩,⟨by (try simp only[hl7_1]);(try simp only[hl7_2]);(try simp only[hl8_2]);(try simp only[hl7_4]);(try simp only[hl8_4]);(try simp only[hl9_4]);(with_reducible repeat (first|apply Kd.N_alloc|apply Kd.N_drewN|apply Kd.N_drew));exact Kd.N_mono HO_93.out (fun _ hk=>⟨hk.1.1,⟨hk.1.2.1,⟨hk.1.2.2.1,⟨hk.1.2.2.2.1,⟨hk.1.2.2.2.2.1,hk.1.2.2.2.2.2⟩⟩⟩⟩⟩)⟩,⟨by (try simp only[hl7_1]);(try simp only[hl7_2]);(try simp only[hl8_2]);(try simp only[hl7_4]);(try simp only[hl8_4]);(try simp only[hl9_4]);(with_reducible repeat (first|apply ra'|apply rn'|apply rw'));exact Kd.R_mono HO_284000.out (fun _ hk=>hk.1)⟩,⟨by (try simp only[hl7_1]);(try simp only[hl7_2]);(try simp only[hl8_2]);(try simp only[hl7_4]);(try simp only[hl8_4]);(try simp only[hl9_4]);(with_reducible repeat (first|refine kn' ?_ _|refine kd' ?_|refine ka' ?_ _));exact BK253.out⟩,⟨by (try simp only[hl7_1]);(try simp only[hl7_2]);(try simp only[hl8_2]);(try simp only[hl7_4]);(try simp only[hl8_4]);(try simp only[hl9_4]);(with_reducible repeat (first|refine kn' ?_ _|refine kd' ?_|refine ka' ?_ _));exact BK283.out⟩,⟨kx' HR287_0.out⟩,⟨y2' GE253.out GE283.out⟩⟩
                           ·
                            rw[if_neg c93] at H;exact absurd H (by simp)
                          ·
                           rw[if_neg c92] at H;exact absurd H (by simp)
                         case rest =>
                          clear HC84;try clear c1
                          try clear c2
                          try clear p2
                          try clear q2
                          try clear hx2
                          try clear hf2
                          try clear c3
                          try clear p3
                          try clear q3
                          try clear hx3
                          try clear hf3
                          try clear c4
                          try clear c4b0
                          try clear c4b1
                          try clear q4
                          try clear c5
                          try clear c5b0
                          try clear c5b1
                          try clear c6
                          try clear c6b0
                          try clear p6
                          try clear q6
                          try clear hx6
                          try clear hf6
                          try clear c7
                          try clear c7b0
                          try clear c8
                          try clear c8b0
                          try clear c8b1
                          try clear c9
                          try clear c10
                          try clear c20
                          try clear c20b0
                          try clear c21
                          try clear c21b0
                          try clear c22
                          try clear c22b0
                          try clear p23
                          try clear q23
                          try clear hx23
                          try clear hf23
                          try clear p27
                          try clear q27
                          try clear hx27
                          try clear c28
                          try clear p28
                          try clear q28
                          try clear hx28
                          try clear c29
                          try clear c29b0
                          try clear p29
                          try clear q29
                          try clear hx29
                          try clear c30
                          try clear c30b0
                          try clear p31
                          try clear q31
                          try clear hx31
                          try clear hf31
                          try clear c32
                          try clear c32b0
                          try clear p33
                          try clear q33
                          try clear hx33
                          try clear hf33
                          try clear c44
                          try clear c44b0
                          try clear c45
                          try clear c45b0
                          try clear c46
                          try clear c46b0
                          try clear c47
                          try clear c47b0
                          try clear q48
                          try clear c49
                          try clear c51
                          try clear c51b0
                          try clear c52
                          try clear c52b0
                          try clear c54
                          try clear c54b0
                          try clear c55
                          try clear c55b0
                          try clear c56
                          try clear c56b0
                          try clear c60
                          try clear c60b0
                          try clear c61
                          try clear c61b0
                          try clear c62
                          try clear c62b0
                          try clear p63
                          try clear q63
                          try clear hx63
                          try clear hf63
                          try clear p64
                          try clear c67
                          try clear c69
                          try clear c71
                          try clear c73
                          try clear c76
                          try clear c76b0
                          try clear c77
                          try clear c77b0
                          try clear c78
                          try clear c78b0
                          try clear c81
                          try clear c81b0
                          try clear c82
                          try clear c82b0
                          try clear c85
                          try clear c92
                          try clear c92b0
                          try clear c93
                          try clear c93b0
                          try clear c94
                          try clear c94b0
                          try clear hcz10_0
                          try clear hcz10_1
                          try clear hcz10_2
                          try clear hcz34_0
                          try clear hcz34_1
                          try clear hcz34_2
                          try clear hcz72_0
                          try clear hcz72_1
                          try clear hcz73_0
                          try clear hcz73_1
                          try clear hcz73_2
                          try clear hcz86_0
                          try clear hcz86_1
                          try clear hfz10_0
                          try clear hfz10_1
                          try clear hfz10_2
                          try clear hfz34_0
                          try clear hfz34_1
                          try clear hfz34_2
                          try clear hfz72_0
                          try clear hfz72_1
                          try clear hfz73_0
                          try clear hfz73_1
                          try clear hfz73_2
                          try clear hfz86_0
                          try clear hfz86_1
                          try clear hx23_0
                          try clear hx275_0
                          try clear hx276_0
                          try clear hx277_0
                          try clear hx287_0
                          try clear hx293_0
                          try clear hx295_0
                          try clear hx296_0
                          try clear hx31_0
                          try clear hx33_0
                          try clear hx63_0
                          try clear p2
                          try clear p23
                          try clear p27
                          try clear p275
                          try clear p276
                          try clear p277
                          try clear p287
                          try clear p293
                          try clear p295
                          try clear p296
                          try clear p3
                          try clear p31
                          try clear p33
                          try clear p6
                          try clear p63
                          try clear p64
                          try clear q2
                          try clear q23
                          try clear q27
                          try clear q275
                          try clear q276
                          try clear q277
                          try clear q287
                          try clear q293
                          try clear q295
                          try clear q296
                          try clear q3
                          try clear q31
                          try clear q33
                          try clear q4
                          try clear q48
                          try clear q6
                          try clear q63
                          obtain ⟨kq,x124_83,rfl,HA,HJ83,HO_7,HO_8,HO_9,HO_93,HO_284000,BK253,BK283,HR287_0,HB⟩:=hcut;cases kq with
                          | zero=>exact absurd HA.out (by simp[spec_loFar.j4])
                          | succ kj83 =>
                           have H:=HA.out;clear HA;simp only[spec_loFar.j4] at H;by_cases c95:x124_83=true
                           ·
                            subst c95;have H1:(if 0≤t292 then (if t292 < (x7_4.length:Int) then ((some (x7_4.set (t292:Int).toNat (wrap64 ((rd x7_4 x12_3)+t294)):List Int)).bind fun y297=>(if t292 < (x8_4.length:Int) then ((some (x8_4.set (t292:Int).toNat 0:List Int)).bind fun y298=>(if (wrap64 ((rd x7_4 x12_3)+t294))=(rd y297 t292) then (if 0≤x12_3 then (if x12_3 < (x8_4.length:Int) then (spec_loFar.l3 kj83 a1 (l0_0.length:Int) y297 (y298.set (t292:Int).toNat (wrap64 ((rd y298 t292)+(rd y298 x12_3)))) y278 x12_3 t284 (t284.length:Int) (wrap64 (x95_4+1)) l0_0 l0_1 a0_2 t279 t282) else (none)) else (none)) else (spec_loFar.l3 kj83 a1 (l0_0.length:Int) y297 y298 y278 x12_3 t284 (t284.length:Int) (wrap64 (x95_4+1)) l0_0 l0_1 a0_2 t279 t282))) else (none))) else (none)) else (none))=some (r1,r2):=by rw[if_pos rfl] at H;exact H
                            clear H;have H:=H1;clear H1;by_cases c96:0≤t292
                            ·
                             rw[if_pos c96] at H;have c96b0:decide (0≤t292)=true:=dt' c96;clear c96;by_cases c97:t292 < (x7_4.length:Int)
                             ·
                              rw[if_pos c97] at H;have c97b0:decide (t292 < (x7_4.length:Int))=true:=dt' c97;clear c97;obtain ⟨y297,hy297⟩:∃ y_:List Int,y_=(x7_4.set (t292:Int).toNat (wrap64 ((rd x7_4 x12_3)+t294))):=⟨_,rfl⟩
                              replace H:(if t292 < (x8_4.length:Int) then ((some (x8_4.set (t292:Int).toNat 0:List Int)).bind fun y298=>(if (wrap64 ((rd x7_4 x12_3)+t294))=(rd y297 t292) then (if 0≤x12_3 then (if x12_3 < (x8_4.length:Int) then (spec_loFar.l3 kj83 a1 (l0_0.length:Int) y297 (y298.set (t292:Int).toNat (wrap64 ((rd y298 t292)+(rd y298 x12_3)))) y278 x12_3 t284 (t284.length:Int) (wrap64 (x95_4+1)) l0_0 l0_1 a0_2 t279 t282) else (none)) else (none)) else (spec_loFar.l3 kj83 a1 (l0_0.length:Int) y297 y298 y278 x12_3 t284 (t284.length:Int) (wrap64 (x95_4+1)) l0_0 l0_1 a0_2 t279 t282))) else (none))=some (r1,r2):=by first|(rw[hy297];with_reducible exact H)|(have H2_:=(Option.bind_some _ _).symm.trans H;rw[hy297];with_reducible exact H2_)|(have H2_:=(Option.bind_some _ _).symm.trans H;with_reducible exact H2_)|with_reducible exact H|(rw[hy297];exact H)|exact H
                              have Ny297:=am' hy297;clear hy297;by_cases c99:t292 < (x8_4.length:Int)
                              ·
                               rw[if_pos c99] at H;have c99b0:decide (t292 < (x8_4.length:Int))=true:=dt' c99;clear c99;obtain ⟨y298,hy298⟩:∃ y_:List Int,y_=(x8_4.set (t292:Int).toNat 0):=⟨_,rfl⟩
                               replace H:(if (wrap64 ((rd x7_4 x12_3)+t294))=(rd y297 t292) then (if 0≤x12_3 then (if x12_3 < (x8_4.length:Int) then (spec_loFar.l3 kj83 a1 (l0_0.length:Int) y297 (y298.set (t292:Int).toNat (wrap64 ((rd y298 t292)+(rd y298 x12_3)))) y278 x12_3 t284 (t284.length:Int) (wrap64 (x95_4+1)) l0_0 l0_1 a0_2 t279 t282) else (none)) else (none)) else (spec_loFar.l3 kj83 a1 (l0_0.length:Int) y297 y298 y278 x12_3 t284 (t284.length:Int) (wrap64 (x95_4+1)) l0_0 l0_1 a0_2 t279 t282))=some (r1,r2):=by first|(rw[hy298];with_reducible exact H)|(have H2_:=(Option.bind_some _ _).symm.trans H;rw[hy298];with_reducible exact H2_)|(have H2_:=(Option.bind_some _ _).symm.trans H;with_reducible exact H2_)|with_reducible exact H|(rw[hy298];exact H)|exact H
                               have Ny298:=am' hy298;clear hy298;by_cases c101:(wrap64 ((rd x7_4 x12_3)+t294))=(rd y297 t292)
                               ·
                                rw[if_pos c101] at H;have c101b0:((wrap64 ((rd x7_4 x12_3)+t294)) == (rd y297 t292))=true:=beq_iff_eq.mpr c101;have c101b1:((wrap64 ((rd x7_4 x12_3)+t294)) != (rd y297 t292))=false:=bne_eq_false_iff_eq.mpr c101;clear c101;by_cases c102:0≤x12_3
                                ·
                                 rw[if_pos c102] at H;have c102b0:decide (0≤x12_3)=true:=dt' c102;clear c102;by_cases c103:x12_3 < (x8_4.length:Int)
                                 ·
                                  rw[if_pos c103] at H;have c103b0:decide (x12_3 < (x8_4.length:Int))=true:=dt' c103;clear c103;obtain ⟨y302,hy302⟩:∃ y_:List Int,y_=(y298.set (t292:Int).toNat (wrap64 ((rd y298 t292)+(rd y298 x12_3)))):=⟨_,rfl⟩
                                  replace H:(spec_loFar.l3 kj83 a1 (l0_0.length:Int) y297 y302 y278 x12_3 t284 (t284.length:Int) (wrap64 (x95_4+1)) l0_0 l0_1 a0_2 t279 t282)=some (r1,r2):=by first|(rw[hy302];with_reducible exact H)|(have H2_:=(Option.bind_some _ _).symm.trans H;rw[hy302];with_reducible exact H2_)|(have H2_:=(Option.bind_some _ _).symm.trans H;with_reducible exact H2_)|with_reducible exact H|(rw[hy302];exact H)|exact H
                                  have Ny302:=am' hy302;clear hy302;have H':=am' H;clear H;have p98:0≤(t292:Int):=od' xa';have q98:(t292:Int) < ((x7_4.length:Int):Int):=od' xa';obtain ⟨hx98_0,hf98_0⟩:=Kd.R_celln 0 HO_7.out (t292:Int) p98 q98;replace p98:=eq_true p98;replace q98:=eq_true q98;have HP105:=Kd.R_putg HO_7.out (t292:Int) (wrap64 ((rd x7_4 x12_3)+t294))
                                  try go_wp2_with (first|((with_reducible refine gate_store (t:=3) (p:=128) rfl ?_);refine store_event (t:=3) (p:=128) (v:=?vo_w106) (w1:=(wc.setCell ⟨go31,(t292:Int).toNat,none⟩ (.int .i64 (wrap64 ((rd x7_4 x12_3)+t294))))) ?hg ?ho ?hn ?hr ?_;(case ho=>rfl);(case hg=>rfl);(case hn=>rfl);(case hr=>first|(go_simp;done)|(go_simp;rfl));intro w106 hw;have hg:wc.grownBy w106 (some go31):=(by rw[hw];exact HP105.2);have hp_:Kd.R (Kd.int .i64) 3 w106 w.heap.size (fun k_=>some k_≠(.slice (some ⟨go33,0,none⟩) x8_4.length co33:Value).ownBlock) (.slice (some ⟨go31,0,none⟩) x7_4.length co19) y297:=(by rw[hw,Ny297.out];exact HP105.1);clear HP105;have n0_:=am' (hp_);have n1_:=am' (Kd.R_after (v:=(.slice (some ⟨go31,0,none⟩) x7_4.length co19)) (v1:=(.slice (some ⟨go31,0,none⟩) x7_4.length co19)) (ok:=(fun _=>True)) (by (with_reducible repeat (first|apply ra'|apply rn'|apply rw'));exact Kd.R_mono HO_8.out (fun _ hk=>⟨trivial,hk⟩)) hg (.inl rfl));have n2_:=am' (Kd.R_over' (v:=(.slice (some ⟨go31,0,none⟩) x7_4.length co19)) (kr' HO_9.out) (Kd.R_typed HO_7.out) (by decide) hg);have n3_:=am' (Kd.N_afterv (v:=(.slice (some ⟨go31,0,none⟩) x7_4.length co19)) (v1:=(.slice (some ⟨go31,0,none⟩) x7_4.length co19)) (ok:=(fun k_=>some k_≠(.slice (some ⟨go33,0,none⟩) x8_4.length co33:Value).ownBlock∧some k_≠(.slice (some ⟨go63,0,none⟩) y278.length co63:Value).ownBlock∧some k_≠(.slice Ao70 t279.length co70:Value).ownBlock∧k_≠gb253∧k_≠gb283)) (by (with_reducible repeat (first|apply Kd.N_alloc|apply Kd.N_drewN|apply Kd.N_drew));exact Kd.N_mono HO_93.out (fun _ hk=>⟨⟨hk.2.1,⟨hk.2.2.1,⟨hk.2.2.2.1,⟨hk.2.2.2.2.1,hk.2.2.2.2.2⟩⟩⟩⟩,hk.1⟩)) hg (.inl rfl));have n4_:=am' (Kd.R_over' (v:=(.slice (some ⟨go31,0,none⟩) x7_4.length co19)) (kr' HO_284000.out) (Kd.R_typed HO_7.out) (by decide) hg);have n5_:=am' (blk_grown (g:=gb253) (o := .cells #[.slice A0_0 l0_0.length c0_0, .slice A0_1 l0_1.length c0_1, .int .i64 a0_2] 29 (0,0)) (kk' BK253.out) hg (Kd.R_ne HO_7.out BK253.out (by decide)));have n6_:=am' (blk_grown (g:=gb283) (o := .cells #[.slice Ao70 t279.length co70, .bool t282] 38 (0,0)) (kk' BK283.out) hg (Kd.R_ne HO_7.out BK283.out (by decide)));have n7_:=am' ((by rw[hw];exact bs' (HB.out) GB31.out:Below w.heap.size w w106));clear HO_7;clear HO_8;clear HO_9;clear HO_93;clear HO_284000;clear BK253;clear BK283;clear HB;have HO_7:=n0_;have HO_8:=n1_;have HO_9:=n2_;have HO_93:=n3_;have HO_284000:=n4_;have BK253:=n5_;have BK283:=n6_;have HB:=n7_;clear n0_ n1_ n2_ n3_ n4_ n5_ n6_ n7_;clear hg hw hp_;have p100:0≤(t292:Int):=od' xa';have q100:(t292:Int) < ((x8_4.length:Int):Int):=od' xa';obtain ⟨hx100_0,hf100_0⟩:=Kd.R_celln 0 HO_8.out (t292:Int) p100 q100;replace p100:=eq_true p100;replace q100:=eq_true q100;have n_:=am' (Kd.R_mono (ok':=(fun k_=>some k_≠(.slice (some ⟨go31,0,none⟩) x7_4.length co19:Value).ownBlock)) HO_8.out (fun k_ hk=>hk.2));clear HO_8;have HO_8:=n_;clear n_;obtain ⟨hy107_,hz107_⟩:=Kd.R_celln 0 HO_8.out (t292:Int) (od' xa') (od' xa');have HP107:=Kd.R_putg HO_8.out (t292:Int) 0)|((with_reducible refine gate_store (t:=3) (p:=131) rfl ?_);refine store_event (t:=3) (p:=131) (v:=?vo_w108) (w1:=(w106.setCell ⟨go33,(t292:Int).toNat,none⟩ (.int .i64 0))) ?hg ?ho ?hn ?hr ?_;(case ho=>rfl);(case hg=>rfl);(case hn=>rfl);(case hr=>first|(go_simp;done)|(go_simp;rfl));intro w108 hw;have hg:w106.grownBy w108 (some go33):=(by rw[hw];exact HP107.2);have hp_:Kd.R (Kd.int .i64) 3 w108 w.heap.size (fun k_=>some k_≠(.slice (some ⟨go31,0,none⟩) x7_4.length co19:Value).ownBlock) (.slice (some ⟨go33,0,none⟩) x8_4.length co33) y298:=(by rw[hw,Ny298.out];exact HP107.1);clear HP107;have n0_:=am' (Kd.R_after (v:=(.slice (some ⟨go33,0,none⟩) x8_4.length co33)) (v1:=(.slice (some ⟨go33,0,none⟩) x8_4.length co33)) (ok:=(fun _=>True)) (by (with_reducible repeat (first|apply ra'|apply rn'|apply rw'));exact Kd.R_mono HO_7.out (fun _ hk=>⟨trivial,hk⟩)) hg (.inl rfl));have n1_:=am' (hp_);have n2_:=am' (Kd.R_over' (v:=(.slice (some ⟨go33,0,none⟩) x8_4.length co33)) (kr' HO_9.out) (Kd.R_typed HO_8.out) (by decide) hg);have n3_:=am' (Kd.N_afterv (v:=(.slice (some ⟨go33,0,none⟩) x8_4.length co33)) (v1:=(.slice (some ⟨go33,0,none⟩) x8_4.length co33)) (ok:=(fun k_=>some k_≠(.slice (some ⟨go31,0,none⟩) x7_4.length co19:Value).ownBlock∧some k_≠(.slice (some ⟨go63,0,none⟩) y278.length co63:Value).ownBlock∧some k_≠(.slice Ao70 t279.length co70:Value).ownBlock∧k_≠gb253∧k_≠gb283)) (by (with_reducible repeat (first|apply Kd.N_alloc|apply Kd.N_drewN|apply Kd.N_drew));exact Kd.N_mono HO_93.out (fun _ hk=>⟨⟨hk.2,⟨hk.1.2.1,⟨hk.1.2.2.1,⟨hk.1.2.2.2.1,hk.1.2.2.2.2⟩⟩⟩⟩,hk.1.1⟩)) hg (.inl rfl));have n4_:=am' (Kd.R_over' (v:=(.slice (some ⟨go33,0,none⟩) x8_4.length co33)) (kr' HO_284000.out) (Kd.R_typed HO_8.out) (by decide) hg);have n5_:=am' (blk_grown (g:=gb253) (o := .cells #[.slice A0_0 l0_0.length c0_0, .slice A0_1 l0_1.length c0_1, .int .i64 a0_2] 29 (0,0)) (kk' BK253.out) hg (Kd.R_ne HO_8.out BK253.out (by decide)));have n6_:=am' (blk_grown (g:=gb283) (o := .cells #[.slice Ao70 t279.length co70, .bool t282] 38 (0,0)) (kk' BK283.out) hg (Kd.R_ne HO_8.out BK283.out (by decide)));have n7_:=am' ((by rw[hw];exact bs' (HB.out) GB33.out:Below w.heap.size w w108));clear HO_7;clear HO_8;clear HO_9;clear HO_93;clear HO_284000;clear BK253;clear BK283;clear HB;have HO_7:=n0_;have HO_8:=n1_;have HO_9:=n2_;have HO_93:=n3_;have HO_284000:=n4_;have BK253:=n5_;have BK283:=n6_;have HB:=n7_;clear n0_ n1_ n2_ n3_ n4_ n5_ n6_ n7_;clear hg hw hp_;have p299:0≤(t292:Int):=od' xa';have q299:t292 < (y297.length:Int):=(by have h_:(t292:Int) < ((x7_4.length:Int):Int):=od' xa';first|(have e_:=(Kd.R_reads' HO_7.out).1;omega)|simpa only [Ny297.out,List.length_set] using h_);have ql299:((t292:Int) < ((x7_4.length:Int):Int))=True:=eq_true (od' xa');obtain ⟨ad299,e299,hx299_0⟩:=Kd.at_int (Kd.R_reads' HO_7.out).2.2 t292 p299 q299;obtain rfl:(⟨go31,0,none⟩:Addr)=ad299:=(by injection e299);(first|simp only[add_plain] at hx299_0|simp only[add_at] at hx299_0|simp only[Addr.add,Nat.zero_add] at hx299_0|skip);replace p299:=eq_true p299;replace q299:=eq_true q299))
                                  have n0_:=am' (rw' HO_7.out);have n1_:=am' (rw' HO_8.out);have n2_:=am' (rw' HO_9.out);have n3_:=am' (Kd.N_drew HO_93.out);have n4_:=am' (rw' HO_284000.out);have n5_:=am' (kd' BK253.out);have n6_:=am' (kd' BK283.out);have n7_:=am' (be' HB.out);clear HO_7;clear HO_8;clear HO_9;clear HO_93;clear HO_284000;clear BK253;clear BK283;clear HB;have HO_7:=n0_;have HO_8:=n1_;have HO_9:=n2_;have HO_93:=n3_;have HO_284000:=n4_;have BK253:=n5_;have BK283:=n6_;have HB:=n7_;clear n0_ n1_ n2_ n3_ n4_ n5_ n6_ n7_;have p300:0≤(t292:Int):=od' xa';have q300:t292 < (y298.length:Int):=(by have h_:(t292:Int) < ((x8_4.length:Int):Int):=od' xa';first|(have e_:=(Kd.R_reads' HO_8.out).1;omega)|simpa only [Ny298.out,List.length_set] using h_)
                                  have ql300:((t292:Int) < ((x8_4.length:Int):Int))=True:=eq_true (od' xa');obtain ⟨ad300,e300,hx300_0⟩:=Kd.at_int (Kd.R_reads' HO_8.out).2.2 t292 p300 q300;obtain rfl:(⟨go33,0,none⟩:Addr)=ad300:=(by injection e300)
                                  (first|simp only[add_plain] at hx300_0|simp only[add_at] at hx300_0|simp only[Addr.add,Nat.zero_add] at hx300_0|skip)
                                  replace p300:=eq_true p300;replace q300:=eq_true q300;have p301:0≤(x12_3:Int):=od' xa';have q301:x12_3 < (y298.length:Int):=(by have h_:(x12_3:Int) < ((x8_4.length:Int):Int):=od' xa';first|(have e_:=(Kd.R_reads' HO_8.out).1;omega)|simpa only [Ny298.out,List.length_set] using h_)
                                  have ql301:((x12_3:Int) < ((x8_4.length:Int):Int))=True:=eq_true (od' xa');obtain ⟨ad301,e301,hx301_0⟩:=Kd.at_int (Kd.R_reads' HO_8.out).2.2 x12_3 p301 q301;obtain rfl:(⟨go33,0,none⟩:Addr)=ad301:=(by injection e301)
                                  (first|simp only[add_plain] at hx301_0|simp only[add_at] at hx301_0|simp only[Addr.add,Nat.zero_add] at hx301_0|skip)
                                  replace p301:=eq_true p301;replace q301:=eq_true q301;have p104:0≤(t292:Int):=od' xa';have q104:(t292:Int) < ((x8_4.length:Int):Int):=od' xa';obtain ⟨hx104_0,hf104_0⟩:=Kd.R_celln 0 HO_8.out (t292:Int) p104 q104;replace p104:=eq_true p104;replace q104:=eq_true q104;have HP110:=Kd.R_putn HO_8.out (t292:Int) (wrap64 ((rd y298 t292)+(rd y298 x12_3)));rw[← Ny302.out] at HP110;have HQ110:=am' HP110;clear HP110;refine start_ (n:=11) (S:=fun w'=>w'.cell? ⟨go33,(t292).toNat,none⟩=some (.int .i64 (rd y298 t292))∧w'.cell? ⟨go33,(x12_3).toNat,none⟩=some (.int .i64 (rd y298 x12_3))) (ds:=[10]) #[false,false,false,false,false,false,false,false,false,false,false] xk' rfl rfl ⟨hx300_0,hx301_0⟩ (fun hHeld=>?_);refine with_tabW spec_loFar.tab32 spec_loFar.bits32 (fun HT_ HW_=>?_);generalize w108.drew=w109 at HO_7 HO_8 HO_9 HO_93 HO_284000 BK253 BK283 HB HQ110 hf104_0 hx104_0 hx300_0 hx301_0 hHeld ⊢
                                  refine pure_ (i:=0) (N:=some 138) (v:=?_) (a':=?_) #[true,false,false,false,false,false,false,false,false,false,false] rfl rfl (any_of HT_.out xk') (fun _ _ _ h=>h) (Or.inl ⟨by rfl,?_⟩) ?_ ?_
                                  rotate_left
                                  ·
                                   intro w';go_simp;with_reducible rfl
                                  rotate_left
                                  ·
                                   simp only[Act.put,sa',sb',sc',i64_w,i32_w];rfl
                                  refine pure_ (i:=1) (N:=some 139) (v:=?_) (a':=?_) #[true,true,false,false,false,false,false,false,false,false,false] rfl rfl (any_of HT_.out xk') (fun _ _ _ h=>h) (Or.inl ⟨by rfl,?_⟩) ?_ ?_
                                  rotate_left
                                  ·
                                   intro w';go_simp;with_reducible rfl
                                  rotate_left
                                  ·
                                   simp only[Act.put,sa',sb',sc',i64_w,i32_w];rfl
                                  refine pure_ (i:=2) (N:=some 140) (v:=?_) (a':=?_) #[true,true,true,false,false,false,false,false,false,false,false] rfl rfl (any_of HT_.out xk') (fun _ _ _ h=>h) (Or.inl ⟨by rfl,?_⟩) ?_ ?_
                                  rotate_left
                                  ·
                                   intro w';go_simp;with_reducible rfl
                                  rotate_left
                                  ·
                                   simp only[Act.put,sa',sb',sc',i64_w,i32_w];rfl
                                  refine pure_ (i:=4) (N:=some 142) (v:=?_) (a':=?_) #[true,true,true,false,true,false,false,false,false,false,false] rfl rfl (any_of HT_.out xk') (fun _ _ _ h=>h) (Or.inl ⟨by rfl,?_⟩) ?_ ?_
                                  rotate_left
                                  ·
                                   intro w';go_simp;with_reducible rfl
                                  rotate_left
                                  ·
                                   simp only[Act.put,sa',sb',sc',i64_w,i32_w];rfl
                                  refine pure_ (i:=5) (N:=some 143) (v:=?_) (a':=?_) #[true,true,true,false,true,true,false,false,false,false,false] rfl rfl (any_of HT_.out xk') (fun _ _ _ h=>h) (Or.inl ⟨by rfl,?_⟩) ?_ ?_
                                  rotate_left
                                  ·
                                   intro w';go_simp;with_reducible rfl
                                  rotate_left
                                  ·
                                   simp only[Act.put,sa',sb',sc',i64_w,i32_w];rfl
                                  refine pure_ (i:=6) (N:=some 144) (v:=?_) (a':=?_) #[true,true,true,false,true,true,true,false,false,false,false] rfl rfl (any_of HT_.out xk') (fun _ _ _ h=>h) (Or.inl ⟨by rfl,?_⟩) ?_ ?_
                                  rotate_left
                                  ·
                                   intro w';go_simp;with_reducible rfl
                                  rotate_left
                                  ·
                                   simp only[Act.put,sa',sb',sc',i64_w,i32_w];rfl
                                  refine take_ (i:=3) (N:=some 141) (v:=?_) (a':=?_) #[true,true,true,true,true,true,true,false,false,false,false] rfl rfl (take_ofW HT_.out HW_.out xk') (fun _ _ _ h=>h) (Or.inl ⟨by rfl,?_⟩) hHeld ?_ ?_
                                  rotate_left
                                  ·
                                   rintro w' ⟨s0,s1⟩
                                   go_simp;with_reducible rfl
                                  rotate_left
                                  ·
                                   simp only[Act.put,sa',sb',sc',i64_w,i32_w];rfl
                                  refine take_ (i:=7) (N:=some 145) (v:=?_) (a':=?_) #[true,true,true,true,true,true,true,true,false,false,false] rfl rfl (take_ofW HT_.out HW_.out xk') (fun _ _ _ h=>h) (Or.inl ⟨by rfl,?_⟩) hHeld ?_ ?_
                                  rotate_left
                                  ·
                                   rintro w' ⟨s0,s1⟩
                                   go_simp;with_reducible rfl
                                  rotate_left
                                  ·
                                   simp only[Act.put,sa',sb',sc',i64_w,i32_w];rfl
                                  refine pure_ (i:=8) (N:=some 146) (v:=?_) (a':=?_) #[true,true,true,true,true,true,true,true,true,false,false] rfl rfl (any_of HT_.out xk') (fun _ _ _ h=>h) (Or.inl ⟨by rfl,?_⟩) ?_ ?_
                                  rotate_left
                                  ·
                                   intro w';go_simp;with_reducible rfl
                                  rotate_left
                                  ·
                                   simp only[Act.put,sa',sb',sc',i64_w,i32_w];rfl
                                  refine pure_ (i:=9) (N:=some 147) (v:=?_) (a':=?_) #[true,true,true,true,true,true,true,true,true,true,false] rfl rfl (any_of HT_.out xk') (fun _ _ _ h=>h) (Or.inl ⟨by rfl,?_⟩) ?_ ?_
                                  rotate_left
                                  ·
                                   intro w';go_simp;with_reducible rfl
                                  rotate_left
                                  ·
                                   simp only[Act.put,sa',sb',sc',i64_w,i32_w];rfl
                                  refine last_ (i:=10) (N:=none) #[true,true,true,true,true,true,true,true,true,true,true] rfl rfl (one_of HT_.out xk') (by decide) (fun K hK=>?_);refine skip_ (w1:=?_) (by rfl) rfl ?_ ?_
                                  rotate_left
                                  ·
                                   go_simp;rfl
                                  refine hK.out _ _ ?_
                                  clear hK K;refine done_ (done_of HT_.out xk') ?_
                                  try go_wp2
                                  (try simp only[← hl7_4,← hl8_4,← hl9_4])
                                  go_roundg kj83
                                  case measure=>have:=HK1.out;have:=HK2.out;have:=HK3.out;have:=HK4.out;have:=HJ83.out;omega
                                  case rel=>obtain ⟨cq_,GQ_⟩:=Kd.R_typed HO_8.out _ rfl;exact ⟨(y297),(y302),(wrap64 (x95_4+1)),xs',H',⟨by have:=HK1.out;have:=HK2.out;have:=HK3.out;have:=HK4.out;have:=HJ83.out;omega⟩,⟨by (try simp only[hl7_1]);(try simp only[hl7_2]);(try simp only[hl8_2]);(try simp only[hl7_4]);(try simp only[hl8_4]);(try simp only[hl9_4]);(with_reducible repeat (first|apply ra'|apply rn'|apply rw'));exact Kd.R_mono (Kd.R_far (p:=⟨go33,(t292:Int).toNat,none⟩) (Kd.R_mono HO_7.out (fun k_ hk=>(⟨hk,fun e_=>hk.2 (by rw[e_];rfl)⟩:_∧k_≠go33))) (fun _ hk=>hk.2) (.int .i64 (wrap64 ((rd y298 t292)+(rd y298 x12_3))))) (fun _ hk=>hk.1.2)⟩,⟨by (try simp only[hl7_1]);(try simp only[hl7_2]);(try simp only[hl8_2]);(try simp only[hl7_4]);(try simp only[hl8_4]);(try simp only[hl9_4]);(with_reducible repeat (first|apply ra'|apply rn'|apply rw'));exact HQ110.out⟩,⟨by (try simp only[hl7_1]);(try simp only[hl7_2]);(try simp only[hl8_2]);(try simp only[hl7_4]);(try simp only[hl8_4]);(try simp only[hl9_4]);(with_reducible repeat (first|apply ra'|apply rn'|apply rw'));exact Kd.R_mono (Kd.R_far (p:=⟨go33,(t292:Int).toNat,none⟩) (Kd.R_types HO_9.out GQ_ (by decide)) (fun _ hk=>hk.2) (.int .i64 (wrap64 ((rd y298 t292)+(rd y298 x12_3))))) (fun _ hk=>hk.1)⟩,⟨by (try simp only[hl7_1]);(try simp only[hl7_2]);(try simp only[hl8_2]);(try simp only[hl7_4]);(try simp only[hl8_4]);(try simp only[hl9_4]);(with_reducible repeat (first|apply Kd.N_alloc|apply Kd.N_drewN|apply Kd.N_drew));exact Kd.N_mono (Kd.N_far (p:=⟨go33,(t292:Int).toNat,none⟩) (Kd.N_mono HO_93.out (fun k_ hk=>(⟨hk,fun e_=>hk.2 (by rw[e_];rfl)⟩:_∧k_≠go33))) (fun _ hk=>hk.2) (.int .i64 (wrap64 ((rd y298 t292)+(rd y298 x12_3))))) (fun _ hk=>⟨hk.1.1.1,⟨hk.1.2,⟨hk.1.1.2.1,⟨hk.1.1.2.2.1,⟨hk.1.1.2.2.2.1,hk.1.1.2.2.2.2⟩⟩⟩⟩⟩)⟩,⟨by (try simp only[hl7_1]);(try simp only[hl7_2]);(try simp only[hl8_2]);(try simp only[hl7_4]);(try simp only[hl8_4]);(try simp only[hl9_4]);(with_reducible repeat (first|apply ra'|apply rn'|apply rw'));exact Kd.R_mono (Kd.R_far (p:=⟨go33,(t292:Int).toNat,none⟩) (Kd.R_types HO_284000.out GQ_ (by decide)) (fun _ hk=>hk.2) (.int .i64 (wrap64 ((rd y298 t292)+(rd y298 x12_3))))) (fun _ hk=>hk.1)⟩,⟨by (try simp only[hl7_1]);(try simp only[hl7_2]);(try simp only[hl8_2]);(try simp only[hl7_4]);(try simp only[hl8_4]);(try simp only[hl9_4]);(with_reducible repeat (first|refine kn' ?_ _|refine kd' ?_|refine ka' ?_ _));refine blk_far ?_ (by have h_:=Kd.R_ne HO_8.out BK253.out (by decide);intro e_;exact h_ (by rw[e_];rfl)) _;(with_reducible repeat (first|refine kn' ?_ _|refine kd' ?_|refine ka' ?_ _));exact BK253.out⟩,⟨by (try simp only[hl7_1]);(try simp only[hl7_2]);(try simp only[hl8_2]);(try simp only[hl7_4]);(try simp only[hl8_4]);(try simp only[hl9_4]);(with_reducible repeat (first|refine kn' ?_ _|refine kd' ?_|refine ka' ?_ _));refine blk_far ?_ (by have h_:=Kd.R_ne HO_8.out BK283.out (by decide);intro e_;exact h_ (by rw[e_];rfl)) _;(with_reducible repeat (first|refine kn' ?_ _|refine kd' ?_|refine ka' ?_ _));exact BK283.out⟩,⟨y3' GB33.out GE253.out GE283.out⟩⟩
                                 ·
                                  rw[if_neg c103] at H;exact absurd H (by simp)
                                ·
                                 rw[if_neg c102] at H;exact absurd H (by simp)
                               ·
                                rw[if_neg c101] at H;have c101b0:((wrap64 ((rd x7_4 x12_3)+t294)) == (rd y297 t292))=false:=beq_eq_false_iff_ne.mpr c101;have c101b1:((wrap64 ((rd x7_4 x12_3)+t294)) != (rd y297 t292))=true:=bne_iff_ne.mpr c101;have H':=am' H;clear H;have p98:0≤(t292:Int):=od' xa';have q98:(t292:Int) < ((x7_4.length:Int):Int):=od' xa';obtain ⟨hx98_0,hf98_0⟩:=Kd.R_celln 0 HO_7.out (t292:Int) p98 q98;replace p98:=eq_true p98;replace q98:=eq_true q98;have HP111:=Kd.R_putg HO_7.out (t292:Int) (wrap64 ((rd x7_4 x12_3)+t294));go_wp2_with (first|((with_reducible refine gate_store (t:=3) (p:=128) rfl ?_);refine store_event (t:=3) (p:=128) (v:=?vo_w112) (w1:=(wc.setCell ⟨go31,(t292:Int).toNat,none⟩ (.int .i64 (wrap64 ((rd x7_4 x12_3)+t294))))) ?hg ?ho ?hn ?hr ?_;(case ho=>rfl);(case hg=>rfl);(case hn=>rfl);(case hr=>first|(go_simp;done)|(go_simp;rfl));intro w112 hw;have hg:wc.grownBy w112 (some go31):=(by rw[hw];exact HP111.2);have hp_:Kd.R (Kd.int .i64) 3 w112 w.heap.size (fun k_=>some k_≠(.slice (some ⟨go33,0,none⟩) x8_4.length co33:Value).ownBlock) (.slice (some ⟨go31,0,none⟩) x7_4.length co19) y297:=(by rw[hw,Ny297.out];exact HP111.1);clear HP111;have n0_:=am' (hp_);have n1_:=am' (Kd.R_after (v:=(.slice (some ⟨go31,0,none⟩) x7_4.length co19)) (v1:=(.slice (some ⟨go31,0,none⟩) x7_4.length co19)) (ok:=(fun _=>True)) (by (with_reducible repeat (first|apply ra'|apply rn'|apply rw'));exact Kd.R_mono HO_8.out (fun _ hk=>⟨trivial,hk⟩)) hg (.inl rfl));have n2_:=am' (Kd.R_over' (v:=(.slice (some ⟨go31,0,none⟩) x7_4.length co19)) (kr' HO_9.out) (Kd.R_typed HO_7.out) (by decide) hg);have n3_:=am' (Kd.N_afterv (v:=(.slice (some ⟨go31,0,none⟩) x7_4.length co19)) (v1:=(.slice (some ⟨go31,0,none⟩) x7_4.length co19)) (ok:=(fun k_=>some k_≠(.slice (some ⟨go33,0,none⟩) x8_4.length co33:Value).ownBlock∧some k_≠(.slice (some ⟨go63,0,none⟩) y278.length co63:Value).ownBlock∧some k_≠(.slice Ao70 t279.length co70:Value).ownBlock∧k_≠gb253∧k_≠gb283)) (by (with_reducible repeat (first|apply Kd.N_alloc|apply Kd.N_drewN|apply Kd.N_drew));exact Kd.N_mono HO_93.out (fun _ hk=>⟨⟨hk.2.1,⟨hk.2.2.1,⟨hk.2.2.2.1,⟨hk.2.2.2.2.1,hk.2.2.2.2.2⟩⟩⟩⟩,hk.1⟩)) hg (.inl rfl));have n4_:=am' (Kd.R_over' (v:=(.slice (some ⟨go31,0,none⟩) x7_4.length co19)) (kr' HO_284000.out) (Kd.R_typed HO_7.out) (by decide) hg);have n5_:=am' (blk_grown (g:=gb253) (o := .cells #[.slice A0_0 l0_0.length c0_0, .slice A0_1 l0_1.length c0_1, .int .i64 a0_2] 29 (0,0)) (kk' BK253.out) hg (Kd.R_ne HO_7.out BK253.out (by decide)));have n6_:=am' (blk_grown (g:=gb283) (o := .cells #[.slice Ao70 t279.length co70, .bool t282] 38 (0,0)) (kk' BK283.out) hg (Kd.R_ne HO_7.out BK283.out (by decide)));have n7_:=am' ((by rw[hw];exact bs' (HB.out) GB31.out:Below w.heap.size w w112));clear HO_7;clear HO_8;clear HO_9;clear HO_93;clear HO_284000;clear BK253;clear BK283;clear HB;have HO_7:=n0_;have HO_8:=n1_;have HO_9:=n2_;have HO_93:=n3_;have HO_284000:=n4_;have BK253:=n5_;have BK283:=n6_;have HB:=n7_;clear n0_ n1_ n2_ n3_ n4_ n5_ n6_ n7_;clear hg hw hp_;have p100:0≤(t292:Int):=od' xa';have q100:(t292:Int) < ((x8_4.length:Int):Int):=od' xa';obtain ⟨hx100_0,hf100_0⟩:=Kd.R_celln 0 HO_8.out (t292:Int) p100 q100;replace p100:=eq_true p100;replace q100:=eq_true q100;have n_:=am' (Kd.R_mono (ok':=(fun k_=>some k_≠(.slice (some ⟨go31,0,none⟩) x7_4.length co19:Value).ownBlock)) HO_8.out (fun k_ hk=>hk.2));clear HO_8;have HO_8:=n_;clear n_;obtain ⟨hy113_,hz113_⟩:=Kd.R_celln 0 HO_8.out (t292:Int) (od' xa') (od' xa');have HP113:=Kd.R_putg HO_8.out (t292:Int) 0)|((with_reducible refine gate_store (t:=3) (p:=131) rfl ?_);refine store_event (t:=3) (p:=131) (v:=?vo_w114) (w1:=(w112.setCell ⟨go33,(t292:Int).toNat,none⟩ (.int .i64 0))) ?hg ?ho ?hn ?hr ?_;(case ho=>rfl);(case hg=>rfl);(case hn=>rfl);(case hr=>first|(go_simp;done)|(go_simp;rfl));intro w114 hw;have hg:w112.grownBy w114 (some go33):=(by rw[hw];exact HP113.2);have hp_:Kd.R (Kd.int .i64) 3 w114 w.heap.size (fun k_=>some k_≠(.slice (some ⟨go31,0,none⟩) x7_4.length co19:Value).ownBlock) (.slice (some ⟨go33,0,none⟩) x8_4.length co33) y298:=(by rw[hw,Ny298.out];exact HP113.1);clear HP113;have n0_:=am' (Kd.R_after (v:=(.slice (some ⟨go33,0,none⟩) x8_4.length co33)) (v1:=(.slice (some ⟨go33,0,none⟩) x8_4.length co33)) (ok:=(fun _=>True)) (by (with_reducible repeat (first|apply ra'|apply rn'|apply rw'));exact Kd.R_mono HO_7.out (fun _ hk=>⟨trivial,hk⟩)) hg (.inl rfl));have n1_:=am' (hp_);have n2_:=am' (Kd.R_over' (v:=(.slice (some ⟨go33,0,none⟩) x8_4.length co33)) (kr' HO_9.out) (Kd.R_typed HO_8.out) (by decide) hg);have n3_:=am' (Kd.N_afterv (v:=(.slice (some ⟨go33,0,none⟩) x8_4.length co33)) (v1:=(.slice (some ⟨go33,0,none⟩) x8_4.length co33)) (ok:=(fun k_=>some k_≠(.slice (some ⟨go31,0,none⟩) x7_4.length co19:Value).ownBlock∧some k_≠(.slice (some ⟨go63,0,none⟩) y278.length co63:Value).ownBlock∧some k_≠(.slice Ao70 t279.length co70:Value).ownBlock∧k_≠gb253∧k_≠gb283)) (by (with_reducible repeat (first|apply Kd.N_alloc|apply Kd.N_drewN|apply Kd.N_drew));exact Kd.N_mono HO_93.out (fun _ hk=>⟨⟨hk.2,⟨hk.1.2.1,⟨hk.1.2.2.1,⟨hk.1.2.2.2.1,hk.1.2.2.2.2⟩⟩⟩⟩,hk.1.1⟩)) hg (.inl rfl));have n4_:=am' (Kd.R_over' (v:=(.slice (some ⟨go33,0,none⟩) x8_4.length co33)) (kr' HO_284000.out) (Kd.R_typed HO_8.out) (by decide) hg);have n5_:=am' (blk_grown (g:=gb253) (o := .cells #[.slice A0_0 l0_0.length c0_0, .slice A0_1 l0_1.length c0_1, .int .i64 a0_2] 29 (0,0)) (kk' BK253.out) hg (Kd.R_ne HO_8.out BK253.out (by decide)));have n6_:=am' (blk_grown (g:=gb283) (o := .cells #[.slice Ao70 t279.length co70, .bool t282] 38 (0,0)) (kk' BK283.out) hg (Kd.R_ne HO_8.out BK283.out (by decide)));have n7_:=am' ((by rw[hw];exact bs' (HB.out) GB33.out:Below w.heap.size w w114));clear HO_7;clear HO_8;clear HO_9;clear HO_93;clear HO_284000;clear BK253;clear BK283;clear HB;have HO_7:=n0_;have HO_8:=n1_;have HO_9:=n2_;have HO_93:=n3_;have HO_284000:=n4_;have BK253:=n5_;have BK283:=n6_;have HB:=n7_;clear n0_ n1_ n2_ n3_ n4_ n5_ n6_ n7_;clear hg hw hp_;have p299:0≤(t292:Int):=od' xa';have q299:t292 < (y297.length:Int):=(by have h_:(t292:Int) < ((x7_4.length:Int):Int):=od' xa';first|(have e_:=(Kd.R_reads' HO_7.out).1;omega)|simpa only [Ny297.out,List.length_set] using h_);have ql299:((t292:Int) < ((x7_4.length:Int):Int))=True:=eq_true (od' xa');obtain ⟨ad299,e299,hx299_0⟩:=Kd.at_int (Kd.R_reads' HO_7.out).2.2 t292 p299 q299;obtain rfl:(⟨go31,0,none⟩:Addr)=ad299:=(by injection e299);(first|simp only[add_plain] at hx299_0|simp only[add_at] at hx299_0|simp only[Addr.add,Nat.zero_add] at hx299_0|skip);replace p299:=eq_true p299;replace q299:=eq_true q299))
                                (try simp only[← hl7_4,← hl8_4,← hl9_4])
                                go_roundg kj83
                                case measure=>have:=HK1.out;have:=HK2.out;have:=HK3.out;have:=HK4.out;have:=HJ83.out;omega
                                case rel=>exact ⟨(y297),(y298),(wrap64 (x95_4+1)),xs',H',⟨by have:=HK1.out;have:=HK2.out;have:=HK3.out;have:=HK4.out;have:=HJ83.out;omega⟩,⟨by (try simp only[hl7_1]);(try simp only[hl7_2]);(try simp only[hl8_2]);(try simp only[hl7_4]);(try simp only[hl8_4]);(try simp only[hl9_4]);(with_reducible repeat (first|apply ra'|apply rn'|apply rw'));exact Kd.R_mono HO_7.out (fun _ hk=>hk.2)⟩,⟨by (try simp only[hl7_1]);(try simp only[hl7_2]);(try simp only[hl8_2]);(try simp only[hl7_4]);(try simp only[hl8_4]);(try simp only[hl9_4]);(with_reducible repeat (first|apply ra'|apply rn'|apply rw'));exact HO_8.out⟩,⟨by (try simp only[hl7_1]);(try simp only[hl7_2]);(try simp only[hl8_2]);(try simp only[hl7_4]);(try simp only[hl8_4]);(try simp only[hl9_4]);(with_reducible repeat (first|apply ra'|apply rn'|apply rw'));exact HO_9.out⟩,⟨by (try simp only[hl7_1]);(try simp only[hl7_2]);(try simp only[hl8_2]);(try simp only[hl7_4]);(try simp only[hl8_4]);(try simp only[hl9_4]);(with_reducible repeat (first|apply Kd.N_alloc|apply Kd.N_drewN|apply Kd.N_drew));exact Kd.N_mono HO_93.out (fun _ hk=>⟨hk.1.1,⟨hk.2,⟨hk.1.2.1,⟨hk.1.2.2.1,⟨hk.1.2.2.2.1,hk.1.2.2.2.2⟩⟩⟩⟩⟩)⟩,⟨by (try simp only[hl7_1]);(try simp only[hl7_2]);(try simp only[hl8_2]);(try simp only[hl7_4]);(try simp only[hl8_4]);(try simp only[hl9_4]);(with_reducible repeat (first|apply ra'|apply rn'|apply rw'));exact HO_284000.out⟩,⟨by (try simp only[hl7_1]);(try simp only[hl7_2]);(try simp only[hl8_2]);(try simp only[hl7_4]);(try simp only[hl8_4]);(try simp only[hl9_4]);(with_reducible repeat (first|refine kn' ?_ _|refine kd' ?_|refine ka' ?_ _));exact BK253.out⟩,⟨by (try simp only[hl7_1]);(try simp only[hl7_2]);(try simp only[hl8_2]);(try simp only[hl7_4]);(try simp only[hl8_4]);(try simp only[hl9_4]);(with_reducible repeat (first|refine kn' ?_ _|refine kd' ?_|refine ka' ?_ _));exact BK283.out⟩,⟨y2' GE253.out GE283.out⟩⟩
                              ·
                               rw[if_neg c99] at H;exact absurd H (by simp)
                             ·
                              rw[if_neg c97] at H;exact absurd H (by simp)
                            ·
                             rw[if_neg c96] at H;exact absurd H (by simp)
                           ·
                            replace c95:=Bool.eq_false_iff.mpr c95;subst c95;have H1:(if 0≤t292 then (if t292 < (x7_4.length:Int) then (if (wrap64 ((rd x7_4 x12_3)+t294))=(rd x7_4 t292) then (if t292 < (x8_4.length:Int) then (if 0≤x12_3 then (if x12_3 < (x8_4.length:Int) then (spec_loFar.l3 kj83 a1 (l0_0.length:Int) x7_4 (x8_4.set (t292:Int).toNat (wrap64 ((rd x8_4 t292)+(rd x8_4 x12_3)))) y278 x12_3 t284 (t284.length:Int) (wrap64 (x95_4+1)) l0_0 l0_1 a0_2 t279 t282) else (none)) else (none)) else (none)) else (spec_loFar.l3 kj83 a1 (l0_0.length:Int) x7_4 x8_4 y278 x12_3 t284 (t284.length:Int) (wrap64 (x95_4+1)) l0_0 l0_1 a0_2 t279 t282)) else (none)) else (none))=some (r1,r2):=by rw[if_neg (show ¬ (false=true) by decide)] at H;exact H
                            clear H;have H:=H1;clear H1;by_cases c115:0≤t292
                            ·
                             rw[if_pos c115] at H;have c115b0:decide (0≤t292)=true:=dt' c115;clear c115;by_cases c116:t292 < (x7_4.length:Int)
                             ·
                              rw[if_pos c116] at H;have c116b0:decide (t292 < (x7_4.length:Int))=true:=dt' c116;clear c116;by_cases c117:(wrap64 ((rd x7_4 x12_3)+t294))=(rd x7_4 t292)
                              ·
                               rw[if_pos c117] at H;have c117b0:((wrap64 ((rd x7_4 x12_3)+t294)) == (rd x7_4 t292))=true:=beq_iff_eq.mpr c117;have c117b1:((wrap64 ((rd x7_4 x12_3)+t294)) != (rd x7_4 t292))=false:=bne_eq_false_iff_eq.mpr c117;clear c117;by_cases c118:t292 < (x8_4.length:Int)
                               ·
                                rw[if_pos c118] at H;have c118b0:decide (t292 < (x8_4.length:Int))=true:=dt' c118;clear c118;by_cases c119:0≤x12_3
                                ·
                                 rw[if_pos c119] at H;have c119b0:decide (0≤x12_3)=true:=dt' c119;clear c119;by_cases c120:x12_3 < (x8_4.length:Int)
                                 ·
                                  rw[if_pos c120] at H;have c120b0:decide (x12_3 < (x8_4.length:Int))=true:=dt' c120;clear c120;obtain ⟨y306,hy306⟩:∃ y_:List Int,y_=(x8_4.set (t292:Int).toNat (wrap64 ((rd x8_4 t292)+(rd x8_4 x12_3)))):=⟨_,rfl⟩
                                  replace H:(spec_loFar.l3 kj83 a1 (l0_0.length:Int) x7_4 y306 y278 x12_3 t284 (t284.length:Int) (wrap64 (x95_4+1)) l0_0 l0_1 a0_2 t279 t282)=some (r1,r2):=by first|(rw[hy306];with_reducible exact H)|(have H2_:=(Option.bind_some _ _).symm.trans H;rw[hy306];with_reducible exact H2_)|(have H2_:=(Option.bind_some _ _).symm.trans H;with_reducible exact H2_)|with_reducible exact H|(rw[hy306];exact H)|exact H
                                  have Ny306:=am' hy306;clear hy306;have H':=am' H;clear H;have p303:0≤(t292:Int):=od' xa';have q303:t292 < (x7_4.length:Int):=od' xa';obtain ⟨ad303,e303,hx303_0⟩:=Kd.at_int (Kd.R_reads' HO_7.out).2.2 t292 p303 q303;obtain rfl:(⟨go31,0,none⟩:Addr)=ad303:=(by injection e303)
                                  (first|simp only[add_plain] at hx303_0|simp only[add_at] at hx303_0|simp only[Addr.add,Nat.zero_add] at hx303_0|skip)
                                  replace p303:=eq_true p303;replace q303:=eq_true q303
                                  try go_wp2
                                  have n0_:=am' (rw' HO_7.out);have n1_:=am' (rw' HO_8.out);have n2_:=am' (rw' HO_9.out);have n3_:=am' (Kd.N_drew HO_93.out);have n4_:=am' (rw' HO_284000.out);have n5_:=am' (kd' BK253.out);have n6_:=am' (kd' BK283.out);have n7_:=am' (cd' HR287_0.out);have n8_:=am' (be' HB.out);clear HO_7;clear HO_8;clear HO_9;clear HO_93;clear HO_284000;clear BK253;clear BK283;clear HR287_0;clear HB;have HO_7:=n0_;have HO_8:=n1_;have HO_9:=n2_;have HO_93:=n3_;have HO_284000:=n4_;have BK253:=n5_;have BK283:=n6_;have HR287_0:=n7_;have HB:=n8_;clear n0_ n1_ n2_ n3_ n4_ n5_ n6_ n7_ n8_;have p304:0≤(t292:Int):=od' xa';have q304:t292 < (x8_4.length:Int):=od' xa';obtain ⟨ad304,e304,hx304_0⟩:=Kd.at_int (Kd.R_reads' HO_8.out).2.2 t292 p304 q304;obtain rfl:(⟨go33,0,none⟩:Addr)=ad304:=(by injection e304)
                                  (first|simp only[add_plain] at hx304_0|simp only[add_at] at hx304_0|simp only[Addr.add,Nat.zero_add] at hx304_0|skip)
                                  replace p304:=eq_true p304;replace q304:=eq_true q304;have p305:0≤(x12_3:Int):=od' xa';have q305:x12_3 < (x8_4.length:Int):=od' xa';obtain ⟨ad305,e305,hx305_0⟩:=Kd.at_int (Kd.R_reads' HO_8.out).2.2 x12_3 p305 q305;obtain rfl:(⟨go33,0,none⟩:Addr)=ad305:=(by injection e305)
                                  (first|simp only[add_plain] at hx305_0|simp only[add_at] at hx305_0|simp only[Addr.add,Nat.zero_add] at hx305_0|skip)
                                  replace p305:=eq_true p305;replace q305:=eq_true q305;have p121:0≤(t292:Int):=od' xa';have q121:(t292:Int) < ((x8_4.length:Int):Int):=od' xa';obtain ⟨hx121_0,hf121_0⟩:=Kd.R_celln 0 HO_8.out (t292:Int) p121 q121;replace p121:=eq_true p121;replace q121:=eq_true q121;have HP123:=Kd.R_putn HO_8.out (t292:Int) (wrap64 ((rd x8_4 t292)+(rd x8_4 x12_3)));rw[← Ny306.out] at HP123;have HQ123:=am' HP123;clear HP123;refine start_ (n:=11) (S:=fun w'=>w'.cell? ⟨go33,(t292).toNat,none⟩=some (.int .i64 (rd x8_4 t292))∧w'.cell? ⟨go33,(x12_3).toNat,none⟩=some (.int .i64 (rd x8_4 x12_3))) (ds:=[10]) #[false,false,false,false,false,false,false,false,false,false,false] xk' rfl rfl ⟨hx304_0,hx305_0⟩ (fun hHeld=>?_);refine with_tabW spec_loFar.tab32 spec_loFar.bits32 (fun HT_ HW_=>?_);generalize wc.drew=w122 at HO_7 HO_8 HO_9 HO_93 HO_284000 BK253 BK283 HR287_0 HB HQ123 hf121_0 hx121_0 hx304_0 hx305_0 hHeld ⊢
                                  refine pure_ (i:=0) (N:=some 138) (v:=?_) (a':=?_) #[true,false,false,false,false,false,false,false,false,false,false] rfl rfl (any_of HT_.out xk') (fun _ _ _ h=>h) (Or.inl ⟨by rfl,?_⟩) ?_ ?_
                                  rotate_left
                                  ·
                                   intro w';go_simp;with_reducible rfl
                                  rotate_left
                                  ·
                                   simp only[Act.put,sa',sb',sc',i64_w,i32_w];rfl
                                  refine pure_ (i:=1) (N:=some 139) (v:=?_) (a':=?_) #[true,true,false,false,false,false,false,false,false,false,false] rfl rfl (any_of HT_.out xk') (fun _ _ _ h=>h) (Or.inl ⟨by rfl,?_⟩) ?_ ?_
                                  rotate_left
                                  ·
                                   intro w';go_simp;with_reducible rfl
                                  rotate_left
                                  ·
                                   simp only[Act.put,sa',sb',sc',i64_w,i32_w];rfl
                                  refine pure_ (i:=2) (N:=some 140) (v:=?_) (a':=?_) #[true,true,true,false,false,false,false,false,false,false,false] rfl rfl (any_of HT_.out xk') (fun _ _ _ h=>h) (Or.inl ⟨by rfl,?_⟩) ?_ ?_
                                  rotate_left
                                  ·
                                   intro w';go_simp;with_reducible rfl
                                  rotate_left
                                  ·
                                   simp only[Act.put,sa',sb',sc',i64_w,i32_w];rfl
                                  refine pure_ (i:=4) (N:=some 142) (v:=?_) (a':=?_) #[true,true,true,false,true,false,false,false,false,false,false] rfl rfl (any_of HT_.out xk') (fun _ _ _ h=>h) (Or.inl ⟨by rfl,?_⟩) ?_ ?_
                                  rotate_left
                                  ·
                                   intro w';go_simp;with_reducible rfl
                                  rotate_left
                                  ·
                                   simp only[Act.put,sa',sb',sc',i64_w,i32_w];rfl
                                  refine pure_ (i:=5) (N:=some 143) (v:=?_) (a':=?_) #[true,true,true,false,true,true,false,false,false,false,false] rfl rfl (any_of HT_.out xk') (fun _ _ _ h=>h) (Or.inl ⟨by rfl,?_⟩) ?_ ?_
                                  rotate_left
                                  ·
                                   intro w';go_simp;with_reducible rfl
                                  rotate_left
                                  ·
                                   simp only[Act.put,sa',sb',sc',i64_w,i32_w];rfl
                                  refine pure_ (i:=6) (N:=some 144) (v:=?_) (a':=?_) #[true,true,true,false,true,true,true,false,false,false,false] rfl rfl (any_of HT_.out xk') (fun _ _ _ h=>h) (Or.inl ⟨by rfl,?_⟩) ?_ ?_
                                  rotate_left
                                  ·
                                   intro w';go_simp;with_reducible rfl
                                  rotate_left
                                  ·
                                   simp only[Act.put,sa',sb',sc',i64_w,i32_w];rfl
                                  refine take_ (i:=3) (N:=some 141) (v:=?_) (a':=?_) #[true,true,true,true,true,true,true,false,false,false,false] rfl rfl (take_ofW HT_.out HW_.out xk') (fun _ _ _ h=>h) (Or.inl ⟨by rfl,?_⟩) hHeld ?_ ?_
                                  rotate_left
                                  ·
                                   rintro w' ⟨s0,s1⟩
                                   go_simp;with_reducible rfl
                                  rotate_left
                                  ·
                                   simp only[Act.put,sa',sb',sc',i64_w,i32_w];rfl
                                  refine take_ (i:=7) (N:=some 145) (v:=?_) (a':=?_) #[true,true,true,true,true,true,true,true,false,false,false] rfl rfl (take_ofW HT_.out HW_.out xk') (fun _ _ _ h=>h) (Or.inl ⟨by rfl,?_⟩) hHeld ?_ ?_
                                  rotate_left
                                  ·
                                   rintro w' ⟨s0,s1⟩
                                   go_simp;with_reducible rfl
                                  rotate_left
                                  ·
                                   simp only[Act.put,sa',sb',sc',i64_w,i32_w];rfl
                                  refine pure_ (i:=8) (N:=some 146) (v:=?_) (a':=?_) #[true,true,true,true,true,true,true,true,true,false,false] rfl rfl (any_of HT_.out xk') (fun _ _ _ h=>h) (Or.inl ⟨by rfl,?_⟩) ?_ ?_
                                  rotate_left
                                  ·
                                   intro w';go_simp;with_reducible rfl
                                  rotate_left
                                  ·
                                   simp only[Act.put,sa',sb',sc',i64_w,i32_w];rfl
                                  refine pure_ (i:=9) (N:=some 147) (v:=?_) (a':=?_) #[true,true,true,true,true,true,true,true,true,true,false] rfl rfl (any_of HT_.out xk') (fun _ _ _ h=>h) (Or.inl ⟨by rfl,?_⟩) ?_ ?_
                                  rotate_left
                                  ·
                                   intro w';go_simp;with_reducible rfl
                                  rotate_left
                                  ·
                                   simp only[Act.put,sa',sb',sc',i64_w,i32_w];rfl
                                  refine last_ (i:=10) (N:=none) #[true,true,true,true,true,true,true,true,true,true,true] rfl rfl (one_of HT_.out xk') (by decide) (fun K hK=>?_);refine skip_ (w1:=?_) (by rfl) rfl ?_ ?_
                                  rotate_left
                                  ·
                                   go_simp;rfl
                                  refine hK.out _ _ ?_
                                  clear hK K;refine done_ (done_of HT_.out xk') ?_
                                  try go_wp2
                                  (try simp only[← hl7_4,← hl8_4,← hl9_4])
                                  go_roundg kj83
                                  case measure=>have:=HK1.out;have:=HK2.out;have:=HK3.out;have:=HK4.out;have:=HJ83.out;omega
                                  case rel=>obtain ⟨cq_,GQ_⟩:=Kd.R_typed HO_8.out _ rfl;exact ⟨(x7_4),(y306),(wrap64 (x95_4+1)),xs',H',⟨by have:=HK1.out;have:=HK2.out;have:=HK3.out;have:=HK4.out;have:=HJ83.out;omega⟩,⟨by (try simp only[hl7_1]);(try simp only[hl7_2]);(try simp only[hl8_2]);(try simp only[hl7_4]);(try simp only[hl8_4]);(try simp only[hl9_4]);(with_reducible repeat (first|apply ra'|apply rn'|apply rw'));exact Kd.R_mono (Kd.R_far (p:=⟨go33,(t292:Int).toNat,none⟩) (Kd.R_mono HO_7.out (fun k_ hk=>(⟨hk,fun e_=>hk (by rw[e_];rfl)⟩:_∧k_≠go33))) (fun _ hk=>hk.2) (.int .i64 (wrap64 ((rd x8_4 t292)+(rd x8_4 x12_3))))) (fun _ hk=>hk.1)⟩,⟨by (try simp only[hl7_1]);(try simp only[hl7_2]);(try simp only[hl8_2]);(try simp only[hl7_4]);(try simp only[hl8_4]);(try simp only[hl9_4]);(with_reducible repeat (first|apply ra'|apply rn'|apply rw'));exact HQ123.out⟩,⟨by (try simp only[hl7_1]);(try simp only[hl7_2]);(try simp only[hl8_2]);(try simp only[hl7_4]);(try simp only[hl8_4]);(try simp only[hl9_4]);(with_reducible repeat (first|apply ra'|apply rn'|apply rw'));exact Kd.R_mono (Kd.R_far (p:=⟨go33,(t292:Int).toNat,none⟩) (Kd.R_types HO_9.out GQ_ (by decide)) (fun _ hk=>hk.2) (.int .i64 (wrap64 ((rd x8_4 t292)+(rd x8_4 x12_3))))) (fun _ hk=>hk.1)⟩,⟨by (try simp only[hl7_1]);(try simp only[hl7_2]);(try simp only[hl8_2]);(try simp only[hl7_4]);(try simp only[hl8_4]);(try simp only[hl9_4]);(with_reducible repeat (first|apply Kd.N_alloc|apply Kd.N_drewN|apply Kd.N_drew));exact Kd.N_mono (Kd.N_far (p:=⟨go33,(t292:Int).toNat,none⟩) (Kd.N_mono HO_93.out (fun k_ hk=>(⟨hk,fun e_=>hk.2.1 (by rw[e_];rfl)⟩:_∧k_≠go33))) (fun _ hk=>hk.2) (.int .i64 (wrap64 ((rd x8_4 t292)+(rd x8_4 x12_3))))) (fun _ hk=>⟨hk.1.1,⟨hk.1.2.1,⟨hk.1.2.2.1,⟨hk.1.2.2.2.1,⟨hk.1.2.2.2.2.1,hk.1.2.2.2.2.2⟩⟩⟩⟩⟩)⟩,⟨by (try simp only[hl7_1]);(try simp only[hl7_2]);(try simp only[hl8_2]);(try simp only[hl7_4]);(try simp only[hl8_4]);(try simp only[hl9_4]);(with_reducible repeat (first|apply ra'|apply rn'|apply rw'));exact Kd.R_mono (Kd.R_far (p:=⟨go33,(t292:Int).toNat,none⟩) (Kd.R_types HO_284000.out GQ_ (by decide)) (fun _ hk=>hk.2) (.int .i64 (wrap64 ((rd x8_4 t292)+(rd x8_4 x12_3))))) (fun _ hk=>hk.1)⟩,⟨by (try simp only[hl7_1]);(try simp only[hl7_2]);(try simp only[hl8_2]);(try simp only[hl7_4]);(try simp only[hl8_4]);(try simp only[hl9_4]);(with_reducible repeat (first|refine kn' ?_ _|refine kd' ?_|refine ka' ?_ _));refine blk_far ?_ (by have h_:=Kd.R_ne HO_8.out BK253.out (by decide);intro e_;exact h_ (by rw[e_];rfl)) _;(with_reducible repeat (first|refine kn' ?_ _|refine kd' ?_|refine ka' ?_ _));exact BK253.out⟩,⟨by (try simp only[hl7_1]);(try simp only[hl7_2]);(try simp only[hl8_2]);(try simp only[hl7_4]);(try simp only[hl8_4]);(try simp only[hl9_4]);(with_reducible repeat (first|refine kn' ?_ _|refine kd' ?_|refine ka' ?_ _));refine blk_far ?_ (by have h_:=Kd.R_ne HO_8.out BK283.out (by decide);intro e_;exact h_ (by rw[e_];rfl)) _;(with_reducible repeat (first|refine kn' ?_ _|refine kd' ?_|refine ka' ?_ _));exact BK283.out⟩,⟨y3' GB33.out GE253.out GE283.out⟩⟩
                                 ·
                                  rw[if_neg c120] at H;exact absurd H (by simp)
                                ·
                                 rw[if_neg c119] at H;exact absurd H (by simp)
                               ·
                                rw[if_neg c118] at H;exact absurd H (by simp)
                              ·
                               rw[if_neg c117] at H;have c117b0:((wrap64 ((rd x7_4 x12_3)+t294)) == (rd x7_4 t292))=false:=beq_eq_false_iff_ne.mpr c117;have c117b1:((wrap64 ((rd x7_4 x12_3)+t294)) != (rd x7_4 t292))=true:=bne_iff_ne.mpr c117;have H':=am' H;clear H;have p303:0≤(t292:Int):=od' xa';have q303:t292 < (x7_4.length:Int):=od' xa';obtain ⟨ad303,e303,hx303_0⟩:=Kd.at_int (Kd.R_reads' HO_7.out).2.2 t292 p303 q303;obtain rfl:(⟨go31,0,none⟩:Addr)=ad303:=(by injection e303)
                               (first|simp only[add_plain] at hx303_0|simp only[add_at] at hx303_0|simp only[Addr.add,Nat.zero_add] at hx303_0|skip)
                               replace p303:=eq_true p303;replace q303:=eq_true q303;go_wp2
                               (try simp only[← hl7_4,← hl8_4,← hl9_4])
                               go_roundg kj83
                               case measure=>have:=HK1.out;have:=HK2.out;have:=HK3.out;have:=HK4.out;have:=HJ83.out;omega
                               case rel=>exact ⟨(x7_4),(x8_4),(wrap64 (x95_4+1)),xs',H',⟨by have:=HK1.out;have:=HK2.out;have:=HK3.out;have:=HK4.out;have:=HJ83.out;omega⟩,⟨by (try simp only[hl7_1]);(try simp only[hl7_2]);(try simp only[hl8_2]);(try simp only[hl7_4]);(try simp only[hl8_4]);(try simp only[hl9_4]);(with_reducible repeat (first|apply ra'|apply rn'|apply rw'));exact HO_7.out⟩,⟨by (try simp only[hl7_1]);(try simp only[hl7_2]);(try simp only[hl8_2]);(try simp only[hl7_4]);(try simp only[hl8_4]);(try simp only[hl9_4]);(with_reducible repeat (first|apply ra'|apply rn'|apply rw'));exact HO_8.out⟩,⟨by (try simp only[hl7_1]);(try simp only[hl7_2]);(try simp only[hl8_2]);(try simp only[hl7_4]);(try simp only[hl8_4]);(try simp only[hl9_4]);(with_reducible repeat (first|apply ra'|apply rn'|apply rw'));exact HO_9.out⟩,⟨by (try simp only[hl7_1]);(try simp only[hl7_2]);(try simp only[hl8_2]);(try simp only[hl7_4]);(try simp only[hl8_4]);(try simp only[hl9_4]);(with_reducible repeat (first|apply Kd.N_alloc|apply Kd.N_drewN|apply Kd.N_drew));exact HO_93.out⟩,⟨by (try simp only[hl7_1]);(try simp only[hl7_2]);(try simp only[hl8_2]);(try simp only[hl7_4]);(try simp only[hl8_4]);(try simp only[hl9_4]);(with_reducible repeat (first|apply ra'|apply rn'|apply rw'));exact HO_284000.out⟩,⟨by (try simp only[hl7_1]);(try simp only[hl7_2]);(try simp only[hl8_2]);(try simp only[hl7_4]);(try simp only[hl8_4]);(try simp only[hl9_4]);(with_reducible repeat (first|refine kn' ?_ _|refine kd' ?_|refine ka' ?_ _));exact BK253.out⟩,⟨by (try simp only[hl7_1]);(try simp only[hl7_2]);(try simp only[hl8_2]);(try simp only[hl7_4]);(try simp only[hl8_4]);(try simp only[hl9_4]);(with_reducible repeat (first|refine kn' ?_ _|refine kd' ?_|refine ka' ?_ _));exact BK283.out⟩,⟨y2' GE253.out GE283.out⟩⟩
                             ·
                              rw[if_neg c116] at H;exact absurd H (by simp)
                            ·
                             rw[if_neg c115] at H;exact absurd H (by simp)
                        ·
                         rw[if_neg c82] at H;exact absurd H (by simp)
                       ·
                        rw[if_neg c81] at H;exact absurd H (by simp)
                      ·
                       rw[if_neg c78] at H;exact absurd H (by simp)
                     ·
                      rw[if_neg c77] at H;exact absurd H (by simp)
                    ·
                     rw[if_neg c76] at H;have c76b0:decide (x95_4 < (t284.length:Int))=false:=df' c76;clear c76;have H':=am' H;clear H;go_wp2
                     (try simp only[← hl7_2,← hl8_2,← hl7_4,← hl8_4,← hl9_4])
                     go_roundg k4
                     case measure=>have:=HK1.out;have:=HK2.out;have:=HK3.out;have:=HK4.out;omega
                     case rel=>exact ⟨(x7_4),(x8_4),(y278),H',⟨by have:=HK1.out;have:=HK2.out;have:=HK3.out;have:=HK4.out;omega⟩,⟨by (try simp only[hl7_1]);(try simp only[hl7_2]);(try simp only[hl8_2]);(try simp only[hl7_4]);(try simp only[hl8_4]);(try simp only[hl9_4]);(with_reducible repeat (first|apply ra'|apply rn'|apply rw'));exact HO_7.out⟩,⟨by (try simp only[hl7_1]);(try simp only[hl7_2]);(try simp only[hl8_2]);(try simp only[hl7_4]);(try simp only[hl8_4]);(try simp only[hl9_4]);(with_reducible repeat (first|apply ra'|apply rn'|apply rw'));exact HO_8.out⟩,⟨by (try simp only[hl7_1]);(try simp only[hl7_2]);(try simp only[hl8_2]);(try simp only[hl7_4]);(try simp only[hl8_4]);(try simp only[hl9_4]);(with_reducible repeat (first|apply ra'|apply rn'|apply rw'));exact Kd.R_mono HO_9.out (fun _ hk=>trivial)⟩,⟨by (try simp only[hl7_1]);(try simp only[hl7_2]);(try simp only[hl8_2]);(try simp only[hl7_4]);(try simp only[hl8_4]);(try simp only[hl9_4]);(with_reducible repeat (first|refine kn' ?_ _|refine kd' ?_|refine ka' ?_ _));exact BK253.out⟩,⟨y2' GE253.out GE283.out⟩⟩
                 ·
                  rw[if_neg c62] at H;exact absurd H (by simp)
                ·
                 rw[if_neg c61] at H;exact absurd H (by simp)
         ·
          rw[if_neg c32] at H;exact absurd H (by simp)
        ·
         rw[if_neg c30] at H;exact absurd H (by simp)
       ·
        rw[if_neg c29] at H;exact absurd H (by simp)
   ·
    rw[if_neg c8] at H;exact absurd H (by simp)
  ·
   rw[if_neg c5] at H;exact absurd H (by simp)
 ·
  rw[if_neg c4] at H;exact absurd H (by simp)
end Go.Proofs.Ytikjdmiohpdnaaa.C20
