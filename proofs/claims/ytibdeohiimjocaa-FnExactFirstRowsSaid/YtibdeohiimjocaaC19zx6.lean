import Derived.Test.YtibdeohiimjocaaC19zx0
import Derived.Test.YtibdeohiimjocaaC19zx2
import Derived.Test.YtibdeohiimjocaaC19zx5
import Derived.Test.YtibdeohiimjocaaC19zAl
namespace Go.Proofs.Ytibdeohiimjocaa.C19
open Go.RowKit Go.Proofs.YtibdeohiimjocaaW.PrintWords Go.Proofs.YtibdeohiimjocaaW.PrintLast Go.Proofs.YtibdeohiimjocaaW.PrintMore Go.Proofs.Ytibdeohiimjocaa.H
attribute [local go_sem] max2_int min2_int max_two min_two max_three min_three max_four min_four
set_option linter.unusedVariables false
set_option linter.unusedSimpArgs false
mutual
def spec_cuFar.l0:Nat→Int→List Int→List Int→Int→Int→Int→Int→Option (List Int × List Int)
 | 0,_,_,_,_,_,_,_=>none
 | k+1,x1,x6,x7,x24,x25,x187000,x187001=>if x25 < x24 then (if 0≤x25 then (if x25 < (x6.length:Int) then (spec_cuFar.l0 k x1 (x6.set (x25:Int).toNat (-1)) x7 x24 (wrap64 (x25+1)) x187000 x187001) else (none)) else (none)) else (if 0≤x1 then (if x1 < (x6.length:Int) then (if x1 < (x7.length:Int) then (spec_cuFar.l1 k (x6.set (x1:Int).toNat 0) (x7.set (x1:Int).toNat 1) (([x1]:List Int)) 0 x187000 x187001) else (none)) else (none)) else (none))
def spec_cuFar.l1:Nat→List Int→List Int→List Int→Int→Int→Int→Option (List Int × List Int)
 | 0,_,_,_,_,_,_=>none
 | k+1,x6,x7,x9,x10,x187000,x187001=>if x10 < (x9.length:Int) then (if 0≤x10 then ((spec_cuRows.f k x187000 x187001 (rd x9 x10)).bind fun t202=>(spec_cuFar.l2 k x6 x7 x9 x10 (rd x9 x10) t202 (t202.length:Int) 0 x187000 x187001)) else (none)) else (some (x6,x7))
def spec_cuFar.l2:Nat→List Int→List Int→List Int→Int→Int→List Int→Int→Int→Int→Int→Option (List Int × List Int)
 | 0,_,_,_,_,_,_,_,_,_,_=>none
 | k+1,x6,x7,x9,x10,x11,x52,x53,x54,x187000,x187001=>if x54 < x53 then (if 0≤x54 then (if x54 < (x52.length:Int) then (if 0≤(Go.bits .xor .i64 x11 (wrap64 ((wrap64 (2 * (rd x52 x54)))+1))) then (if (Go.bits .xor .i64 x11 (wrap64 ((wrap64 (2 * (rd x52 x54)))+1))) < (x6.length:Int) then (if (rd x6 (Go.bits .xor .i64 x11 (wrap64 ((wrap64 (2 * (rd x52 x54)))+1)))) < 0 then (if 0≤x11 then (if x11 < (x6.length:Int) then ((some (x6.set ((Go.bits .xor .i64 x11 (wrap64 ((wrap64 (2 * (rd x52 x54)))+1))):Int).toNat (wrap64 ((rd x6 x11)+1)):List Int)).bind fun y208=>(if x9.length < 17592186044416 then ((some (x9 ++ [Go.bits .xor .i64 x11 (wrap64 ((wrap64 (2 * (rd x52 x54)))+1))]:List Int)).bind fun y209=>(if (rd y208 (Go.bits .xor .i64 x11 (wrap64 ((wrap64 (2 * (rd x52 x54)))+1))))=(wrap64 ((rd y208 x11)+1)) then (if (Go.bits .xor .i64 x11 (wrap64 ((wrap64 (2 * (rd x52 x54)))+1))) < (x7.length:Int) then (if x11 < (x7.length:Int) then (spec_cuFar.l2 k y208 (x7.set ((Go.bits .xor .i64 x11 (wrap64 ((wrap64 (2 * (rd x52 x54)))+1))):Int).toNat (wrap64 ((rd x7 (Go.bits .xor .i64 x11 (wrap64 ((wrap64 (2 * (rd x52 x54)))+1))))+(rd x7 x11)))) y209 x10 x11 x52 x53 (wrap64 (x54+1)) x187000 x187001) else (none)) else (none)) else (spec_cuFar.l2 k y208 x7 y209 x10 x11 x52 x53 (wrap64 (x54+1)) x187000 x187001))) else (none))) else (none)) else (none)) else (if 0≤x11 then (if x11 < (x6.length:Int) then (if (rd x6 (Go.bits .xor .i64 x11 (wrap64 ((wrap64 (2 * (rd x52 x54)))+1))))=(wrap64 ((rd x6 x11)+1)) then (if (Go.bits .xor .i64 x11 (wrap64 ((wrap64 (2 * (rd x52 x54)))+1))) < (x7.length:Int) then (if x11 < (x7.length:Int) then (spec_cuFar.l2 k x6 (x7.set ((Go.bits .xor .i64 x11 (wrap64 ((wrap64 (2 * (rd x52 x54)))+1))):Int).toNat (wrap64 ((rd x7 (Go.bits .xor .i64 x11 (wrap64 ((wrap64 (2 * (rd x52 x54)))+1))))+(rd x7 x11)))) x9 x10 x11 x52 x53 (wrap64 (x54+1)) x187000 x187001) else (none)) else (none)) else (spec_cuFar.l2 k x6 x7 x9 x10 x11 x52 x53 (wrap64 (x54+1)) x187000 x187001)) else (none)) else (none))) else (none)) else (none)) else (none)) else (none)) else (spec_cuFar.l1 k x6 x7 x9 (wrap64 (x10+1)) x187000 x187001)
end
def spec_cuFar.f (k:Nat) (a0_0:Int) (a0_1:Int) (a1:Int):Option (List Int × List Int):=(spec_cuSize.f a0_0 a0_1).bind fun t187=>(if 0≤(wrap64 (2 * t187)) then (if (wrap64 (2 * t187):Int).toNat≤35184372088832 then ((some (List.replicate (wrap64 (2 * t187):Int).toNat 0:List Int)).bind fun y188=>((spec_cuSize.f a0_0 a0_1).bind fun t191=>(if 0≤(wrap64 (2 * t191)) then (if (wrap64 (2 * t191):Int).toNat≤35184372088832 then (spec_cuFar.l0 k a1 y188 (List.replicate (wrap64 (2 * t191):Int).toNat 0) (y188.length:Int) 0 a0_0 a0_1) else (none)) else (none)))) else (none)) else (none))
theorem spec_cuFar.mono_l:∀ k,(∀ y0 y1 y2 y3 y4 y5 y6,LeO (spec_cuFar.l0 k y0 y1 y2 y3 y4 y5 y6) (spec_cuFar.l0 (k+1) y0 y1 y2 y3 y4 y5 y6))∧(∀ y0 y1 y2 y3 y4 y5,LeO (spec_cuFar.l1 k y0 y1 y2 y3 y4 y5) (spec_cuFar.l1 (k+1) y0 y1 y2 y3 y4 y5))∧(∀ y0 y1 y2 y3 y4 y5 y6 y7 y8 y9,LeO (spec_cuFar.l2 k y0 y1 y2 y3 y4 y5 y6 y7 y8 y9) (spec_cuFar.l2 (k+1) y0 y1 y2 y3 y4 y5 y6 y7 y8 y9))
 | 0=>⟨fun _ _ _ _ _ _ _ r h=>by simp[spec_cuFar.l0] at h,fun _ _ _ _ _ _ r h=>by simp[spec_cuFar.l1] at h,fun _ _ _ _ _ _ _ _ _ _ r h=>by simp[spec_cuFar.l2] at h⟩
 | k+1=>by
  obtain ⟨ih0,ih1,ih2⟩:=spec_cuFar.mono_l k;refine ⟨?_,?_,?_⟩
  ·
   intro y0 y1 y2 y3 y4 y5 y6;unfold spec_cuFar.l0
   repeat' first
   | (with_reducible exact ih0 _ _ _ _ _ _ _)
   | (with_reducible exact ih1 _ _ _ _ _ _)
   | (with_reducible exact ih2 _ _ _ _ _ _ _ _ _ _)
   | (with_reducible exact spec_cuRows.mono _ _ _ _)
   | (with_reducible exact LeO.refl _)
   | (with_reducible exact LeO.none _)
   | (with_reducible refine LeO.ite ?_ ?_)
   | (with_reducible refine LeO.bind ?_ (fun _=>?_))
   | exact ih0 _ _ _ _ _ _ _
   | exact ih1 _ _ _ _ _ _
   | exact ih2 _ _ _ _ _ _ _ _ _ _
   | exact spec_cuRows.mono _ _ _ _
   | exact LeO.none _
   | refine LeO.ite ?_ ?_
   | refine LeO.bind ?_ (fun _=>?_)
  ·
   intro y0 y1 y2 y3 y4 y5;unfold spec_cuFar.l1
   repeat' first
   | (with_reducible exact ih0 _ _ _ _ _ _ _)
   | (with_reducible exact ih1 _ _ _ _ _ _)
   | (with_reducible exact ih2 _ _ _ _ _ _ _ _ _ _)
   | (with_reducible exact spec_cuRows.mono _ _ _ _)
   | (with_reducible exact LeO.refl _)
   | (with_reducible exact LeO.none _)
   | (with_reducible refine LeO.ite ?_ ?_)
   | (with_reducible refine LeO.bind ?_ (fun _=>?_))
   | exact ih0 _ _ _ _ _ _ _
   | exact ih1 _ _ _ _ _ _
   | exact ih2 _ _ _ _ _ _ _ _ _ _
   | exact spec_cuRows.mono _ _ _ _
   | exact LeO.none _
   | refine LeO.ite ?_ ?_
   | refine LeO.bind ?_ (fun _=>?_)
  ·
   intro y0 y1 y2 y3 y4 y5 y6 y7 y8 y9;unfold spec_cuFar.l2
   repeat' first
   | (with_reducible exact ih0 _ _ _ _ _ _ _)
   | (with_reducible exact ih1 _ _ _ _ _ _)
   | (with_reducible exact ih2 _ _ _ _ _ _ _ _ _ _)
   | (with_reducible exact spec_cuRows.mono _ _ _ _)
   | (with_reducible exact LeO.refl _)
   | (with_reducible exact LeO.none _)
   | (with_reducible refine LeO.ite ?_ ?_)
   | (with_reducible refine LeO.bind ?_ (fun _=>?_))
   | exact ih0 _ _ _ _ _ _ _
   | exact ih1 _ _ _ _ _ _
   | exact ih2 _ _ _ _ _ _ _ _ _ _
   | exact spec_cuRows.mono _ _ _ _
   | exact LeO.none _
   | refine LeO.ite ?_ ?_
   | refine LeO.bind ?_ (fun _=>?_)
theorem spec_cuFar.mono:∀ a0 a1 a2 k,LeO (spec_cuFar.f k a0 a1 a2) (spec_cuFar.f (k+1) a0 a1 a2):=by
 intro a0 a1 a2 k;obtain ⟨ih0,ih1,ih2⟩:=spec_cuFar.mono_l k
 unfold spec_cuFar.f
 repeat' first
   | (with_reducible exact ih0 _ _ _ _ _ _ _)
   | (with_reducible exact ih1 _ _ _ _ _ _)
   | (with_reducible exact ih2 _ _ _ _ _ _ _ _ _ _)
   | (with_reducible exact spec_cuRows.mono _ _ _ _)
   | (with_reducible exact LeO.refl _)
   | (with_reducible exact LeO.none _)
   | (with_reducible refine LeO.ite ?_ ?_)
   | (with_reducible refine LeO.bind ?_ (fun _=>?_))
   | exact ih0 _ _ _ _ _ _ _
   | exact ih1 _ _ _ _ _ _
   | exact ih2 _ _ _ _ _ _ _ _ _ _
   | exact spec_cuRows.mono _ _ _ _
   | exact LeO.none _
   | refine LeO.ite ?_ ?_
   | refine LeO.bind ?_ (fun _=>?_)
def spec_cuFar.T1:Bool × List (List Nat × List Nat):=(true,[([],[]),([0],[0]),([1],[1]),([2,2],[2]),([],[]),([4,1],[4]),([5],[5]),([6,6],[6]),([3,5,0,1,2,3],[3]),([7,8,0,1,2,3,4,5,6,7,8],[7])])
def spec_cuFar.B1:List Nat:=[0,1,3,7,0,19,51,115,63,511]
theorem spec_cuFar.tab1:rtab .any (opsOf Try.f79 1)=spec_cuFar.T1:=by kernel_rfl
theorem spec_cuFar.bits1:waitsOk spec_cuFar.T1.2 spec_cuFar.B1=true:=by kernel_rfl
def spec_cuFar.T21:Bool × List (List Nat × List Nat):=(true,[([],[]),([],[]),([0,1],[0,1]),([2],[2]),([],[]),([],[]),([4,5],[4,5]),([6],[6]),([7],[7]),([3,8],[3,8])])
def spec_cuFar.B21:List Nat:=[0,0,3,7,0,0,48,112,240,511]
theorem spec_cuFar.tab21:rtab .any (opsOf Try.f79 21)=spec_cuFar.T21:=by kernel_rfl
theorem spec_cuFar.bits21:waitsOk spec_cuFar.T21.2 spec_cuFar.B21=true:=by kernel_rfl
def spec_cuFar.T22:Bool × List (List Nat × List Nat):=(true,[([],[]),([],[]),([0,1],[0,1]),([2],[2]),([],[]),([],[]),([4,5],[4,5]),([6],[6]),([3,7],[3,7]),([0,1,0,1,2,3,4,5,6,7,8],[0,1]),([9,8,0,1,2,3,4,5,6,7,8],[8,9])])
def spec_cuFar.B22:List Nat:=[0,0,3,7,0,0,48,112,255,511,1023]
theorem spec_cuFar.tab22:rtab .any (opsOf Try.f79 22)=spec_cuFar.T22:=by kernel_rfl
theorem spec_cuFar.bits22:waitsOk spec_cuFar.T22.2 spec_cuFar.B22=true:=by kernel_rfl
set_option maxHeartbeats 8000000 in
set_option maxRecDepth 100000 in
theorem spec_cuFar.calls (k:Nat) (a0_0:Int) (a0_1:Int) (a1:Int) (r1:List Int) (r2:List Int) (w:World) (h:spec_cuFar.f k a0_0 a0_1 a1=some (r1,r2)) :
  Calls Try.prog 79 #[.agg #[.int .i64 a0_0, .int .i64 a0_1], .int .i64 a1] w fun e w'=>∃ v0_ v1_:Value,e = .returned (.tuple #[v0_,v1_])∧Kd.R (Kd.int .i64) 3 w' w.heap.size (fun k_=>some k_≠(v1_:Value).ownBlock) v0_ r1∧Kd.R (Kd.int .i64) 3 w' w.heap.size (fun k_=>some k_≠(v0_:Value).ownBlock) v1_ r2∧Below w.heap.size w w':=by
 have hu40:=Try.underlying40
 have HB:=am' (Below.refl w.heap.size w)
 have H:((spec_cuSize.f a0_0 a0_1).bind fun t187=>(if 0≤(wrap64 (2 * t187)) then (if (wrap64 (2 * t187):Int).toNat≤35184372088832 then ((some (List.replicate (wrap64 (2 * t187):Int).toNat 0:List Int)).bind fun y188=>((spec_cuSize.f a0_0 a0_1).bind fun t191=>(if 0≤(wrap64 (2 * t191)) then (if (wrap64 (2 * t191):Int).toNat≤35184372088832 then (spec_cuFar.l0 k a1 y188 (List.replicate (wrap64 (2 * t191):Int).toNat 0) (y188.length:Int) 0 a0_0 a0_1) else (none)) else (none)))) else (none)) else (none)))=some (r1,r2):=h
 clear h;replace H:=Option.bind_eq_some_iff.mp H
 obtain ⟨t187,A30,H⟩:=H
 replace H:(if 0≤(wrap64 (2 * t187)) then (if (wrap64 (2 * t187):Int).toNat≤35184372088832 then ((some (List.replicate (wrap64 (2 * t187):Int).toNat 0:List Int)).bind fun y188=>((spec_cuSize.f a0_0 a0_1).bind fun t191=>(if 0≤(wrap64 (2 * t191)) then (if (wrap64 (2 * t191):Int).toNat≤35184372088832 then (spec_cuFar.l0 k a1 y188 (List.replicate (wrap64 (2 * t191):Int).toNat 0) (y188.length:Int) 0 a0_0 a0_1) else (none)) else (none)))) else (none)) else (none))=some (r1,r2):=H
 have A3:=am' A30
 clear A30;obtain ⟨ji4,hji4⟩:∃ j_:Int,(wrap64 (2 * t187))=j_:=⟨_,rfl⟩
 replace H:(if 0≤(ji4) then (if (ji4:Int).toNat≤35184372088832 then ((some (List.replicate (ji4:Int).toNat 0:List Int)).bind fun y188=>((spec_cuSize.f a0_0 a0_1).bind fun t191=>(if 0≤(wrap64 (2 * t191)) then (if (wrap64 (2 * t191):Int).toNat≤35184372088832 then (spec_cuFar.l0 k a1 y188 (List.replicate (wrap64 (2 * t191):Int).toNat 0) (y188.length:Int) 0 a0_0 a0_1) else (none)) else (none)))) else (none)) else (none))=some (r1,r2):=by first|(rw[hji4] at H;exact H)|(simp only[hji4] at H ⊢;exact H)
 (try rw [hji4] at A3)
 have hji4w:(IntKind.i64.wrap (2 * t187))=ji4:=(i64_w _).trans hji4
 by_cases c5:0≤(ji4)
 ·
  rw[if_pos c5] at H;have c5b0:=eq_true c5;have c5b1:decide (0≤(ji4))=true:=decide_eq_true c5;clear c5;by_cases c6:(ji4:Int).toNat≤35184372088832
  ·
   rw[if_pos c6] at H;have c6b0:=eq_true c6;have c6b1:decide ((ji4:Int).toNat≤35184372088832)=true:=decide_eq_true c6;clear c6;obtain ⟨y188,hy188⟩:∃ y_:List Int,y_=(List.replicate (ji4:Int).toNat 0):=⟨_,rfl⟩
   replace H:((spec_cuSize.f a0_0 a0_1).bind fun t191=>(if 0≤(wrap64 (2 * t191)) then (if (wrap64 (2 * t191):Int).toNat≤35184372088832 then (spec_cuFar.l0 k a1 y188 (List.replicate (wrap64 (2 * t191):Int).toNat 0) (y188.length:Int) 0 a0_0 a0_1) else (none)) else (none)))=some (r1,r2):=by first|(rw[hy188];with_reducible exact H)|(have H2_:=(Option.bind_some _ _).symm.trans H;rw[hy188];with_reducible exact H2_)|(have H2_:=(Option.bind_some _ _).symm.trans H;with_reducible exact H2_)|with_reducible exact H|(rw[hy188];exact H)|exact H
   have Ny188:=am' hy188;clear hy188;replace H:=Option.bind_eq_some_iff.mp H;obtain ⟨t191,A70,H⟩:=H;replace H:(if 0≤(wrap64 (2 * t191)) then (if (wrap64 (2 * t191):Int).toNat≤35184372088832 then (spec_cuFar.l0 k a1 y188 (List.replicate (wrap64 (2 * t191):Int).toNat 0) (y188.length:Int) 0 a0_0 a0_1) else (none)) else (none))=some (r1,r2):=H;have A7:=am' A70;clear A70;obtain ⟨ji8,hji8⟩:∃ j_:Int,(wrap64 (2 * t191))=j_:=⟨_,rfl⟩
   replace H:(if 0≤(ji8) then (if (ji8:Int).toNat≤35184372088832 then (spec_cuFar.l0 k a1 y188 (List.replicate (ji8:Int).toNat 0) (y188.length:Int) 0 a0_0 a0_1) else (none)) else (none))=some (r1,r2):=by first|(rw[hji8] at H;exact H)|(simp only[hji8] at H ⊢;exact H)
   (try rw [hji8] at A3)
   (try rw [hji8] at A7)
   have hji8w:(IntKind.i64.wrap (2 * t191))=ji8:=(i64_w _).trans hji8;by_cases c9:0≤(ji8)
   ·
    rw[if_pos c9] at H;have c9b0:=eq_true c9;have c9b1:decide (0≤(ji8))=true:=decide_eq_true c9;clear c9;by_cases c10:(ji8:Int).toNat≤35184372088832
    ·
     rw[if_pos c10] at H;have c10b0:=eq_true c10;have c10b1:decide ((ji8:Int).toNat≤35184372088832)=true:=decide_eq_true c10;clear c10;obtain ⟨y192,hy192⟩:∃ y_:List Int,y_=(List.replicate (ji8:Int).toNat 0):=⟨_,rfl⟩
     replace H:(spec_cuFar.l0 k a1 y188 y192 (y188.length:Int) 0 a0_0 a0_1)=some (r1,r2):=by first|(rw[hy192];with_reducible exact H)|(have H2_:=(Option.bind_some _ _).symm.trans H;rw[hy192];with_reducible exact H2_)|(have H2_:=(Option.bind_some _ _).symm.trans H;with_reducible exact H2_)|with_reducible exact H|(rw[hy192];exact H)|exact H
     have Ny192:=am' hy192;clear hy192;have H':=am' H;clear H;go_enter Try.func79,Try.ntmps79
     try go_wp2_with (first|((with_reducible refine gate_dst (N:=2) rfl ?_);refine box_event ?hg (N:=2) ?hd (cs:=#[.int .i64 a0_0, .int .i64 a0_1]) (t:=40) ?hr ?_;(case hd=>rfl);(case hg=>rfl);(case hr=>first|(go_simp;done)|(go_simp;rfl));intro gb186 hg w11 hbox hb;have n0_:=am' (below_step (by repeat (first|(with_reducible first|exact HB.out|apply ba'|apply bd'|apply be')|exact HB.out)) hb);have n1_:=am' (hbox);have n2_:=am' ((by rw[hg];exact (below_size (by repeat (first|(with_reducible first|exact HB.out|apply ba'|apply bd'|apply be')|exact HB.out))):w.heap.size≤gb186));have n3_:=am' ((by rw[hg];exact (below_size (by repeat (first|(with_reducible first|exact HB.out|apply ba'|apply bd'|apply be')|exact HB.out))):w.heap.size≤gb186));clear HB;have HB:=n0_;have BK186:=n1_;have GW186:=n2_;have GE186:=n3_;clear n0_ n1_ n2_ n3_;clear hb hbox hg))
     have n0_:=am' (kd' BK186.out);have n1_:=am' (be' HB.out);clear BK186;clear HB;have BK186:=n0_;have HB:=n1_;clear n0_ n1_;refine start_ (n:=10) (S:=fun w'=>w'.cell? ⟨gb186,0,none⟩=some (.int .i64 a0_0)∧w'.cell? ⟨gb186,1,none⟩=some (.int .i64 a0_1)) (ds:=[]) #[false,false,false,false,false,false,false,false,false,false] (by kernel_rfl) rfl rfl ⟨(blk_cell BK186.out 0).trans rfl,(blk_cell BK186.out 1).trans rfl⟩ (fun hHeld=>?_);refine with_tabW spec_cuFar.tab1 spec_cuFar.bits1 (fun HT_ HW_=>?_);generalize w11.drew=w12 at BK186 HB hHeld ⊢
     refine take_ (i:=0) (N:=some 15) (v:=?_) (a':=?_) #[true,false,false,false,false,false,false,false,false,false] rfl rfl (take_ofW HT_.out HW_.out (by kernel_rfl)) (fun _ _ _ h=>h) (Or.inl ⟨by rfl,?_⟩) hHeld ?_ ?_
     rotate_left
     ·
      rintro w' ⟨s0,s1⟩
      go_simp;with_reducible rfl
     rotate_left
     ·
      simp only[Act.put,sa',sb',sc',i64_w,i32_w];rfl
     refine take_ (i:=4) (N:=some 19) (v:=?_) (a':=?_) #[true,false,false,false,true,false,false,false,false,false] rfl rfl (take_ofW HT_.out HW_.out (by kernel_rfl)) (fun _ _ _ h=>h) (Or.inl ⟨by rfl,?_⟩) hHeld ?_ ?_
     rotate_left
     ·
      rintro w' ⟨s0,s1⟩
      go_simp;with_reducible rfl
     rotate_left
     ·
      simp only[Act.put,sa',sb',sc',i64_w,i32_w];rfl
     refine one_ (i:=1) (N:=some 16) #[true,true,false,false,true,false,false,false,false,false] rfl rfl (one_of HT_.out (by kernel_rfl)) (by decide) (fun K hK=>?_);refine goes_ Try.func105 (by kernel_rfl) rfl #[.agg #[.int .i64 a0_0, .int .i64 a0_1]] (by rfl) rfl rfl (by (try simp only[List.map_toArray,List.map_cons,List.map_nil]);first|done|rfl|(simp only[List.length_drop,List.length_take];rfl)) ?_
     with_reducible refine (spec_cuSize.calls a0_0 a0_1 t187 _ A3.out).mono ?_
     rintro e w13 ⟨rfl,hb⟩
     refine ⟨_,rfl,?_⟩;have n0_:=am' (blk_below (g:=gb186) (o := .cells #[.int .i64 a0_0, .int .i64 a0_1] 40 (0,0)) (by (with_reducible repeat (first|refine kn' ?_ _|refine kd' ?_|refine ka' ?_ _));exact BK186.out) hb);have n1_:=am' (below_step (by repeat (first|(with_reducible first|exact HB.out|apply ba'|apply bd'|apply be'|refine bs' ?_ GE186.out)|exact HB.out)) hb);clear BK186;clear HB;have BK186:=n0_;have HB:=n1_;clear n0_ n1_;(try clear hb)
     (try clear hb2)
     (try clear hk)
     (try clear hi)
     refine hK.out _ _ ⟨(blk_cell BK186.out 0).trans rfl,(blk_cell BK186.out 1).trans rfl⟩ (fun hHeld=>?_);clear hK K;refine norm_ (a':=?_) ?_ ?_
     rotate_left
     ·
      show Act.put _ (some 16) _=_
      simp only[Act.put,sa',sb',sc',i64_w,i32_w];rfl
     refine pure_ (i:=2) (N:=some 17) (v:=?_) (a':=?_) #[true,true,true,false,true,false,false,false,false,false] rfl rfl (any_of HT_.out (by kernel_rfl)) (fun _ _ _ h=>h) (Or.inl ⟨by rfl,?_⟩) ?_ ?_
     rotate_left
     ·
      intro w';go_simp;with_reducible rfl
     rotate_left
     ·
      simp only[Act.put,sa',sb',sc',i64_w,i32_w];rfl
     refine join_ (σ:=Value × Value) 1 #[true,true,true,true,true,true,true,true,true,false] (fun s_=>[(18,s_.1),(20, .int .i64 t191),(22,s_.2),(21, .int .i64 ji8),(6,s_.1)]) (fun s_ w'=>(w'.cell? ⟨gb186,0,none⟩=some (.int .i64 a0_0)∧w'.cell? ⟨gb186,1,none⟩=some (.int .i64 a0_1))∧(Kd.R (Kd.int .i64) 3 w' w.heap.size (fun k_=>some k_≠(s_.2:Value).ownBlock) s_.1 y188)∧(Kd.R (Kd.int .i64) 3 w' w.heap.size (fun k_=>some k_≠(s_.1:Value).ownBlock) s_.2 y192)∧(w'.heap[gb186]? = some (.cells #[.int .i64 a0_0, .int .i64 a0_1] 40 (0,0)))∧(Below w.heap.size w w')) ?_ ?_
     rotate_left
     ·
      intro hCont;refine two_ (i:=3) (j:=5) (Ni:=some 18) (Nj:=some 20) #[true,true,true,true,true,false,false,false,false,false] #[true,true,true,false,true,true,false,false,false,false] rfl rfl rfl rfl (two_of HT_.out (by kernel_rfl)) (by decide) (by decide) (fun K hK=>?_) (fun K hK=>?_)
      ·
       skip
       refine Kd.R_make_step (Kd.int .i64) _ 3 (by rfl) (N:=18) rfl 32 _ _ rfl ji4 rfl rfl Try.underlying32 (.int .i64 0) 8 info3 rfl (by decide) (by omega) 0 (ok:=fun _=>True) (okp:=fun _=>True) rfl (fun _ hk=>hk) trivial (of_decide_eq_true (by first|(with_reducible assumption)|assumption)) (Nat.le_trans (Nat.mul_le_mul_right _ (of_decide_eq_true (by first|(with_reducible assumption)|assumption):ji4.toNat≤35184372088832)) (by omega)) (Below.refl _ _) (Nat.le_refl _) ?_
       intro v189 w14 ho15 hb hg_ hnew_;clear hg_ hnew_;(first|rw[← Ny188.out] at ho15|(simp only[Int.reduceToNat] at ho15;rw[← Ny188.out] at ho15))
       have n0_:=am' (Kd.R_lower ho15 (below_size (by repeat (first|(with_reducible first|exact HB.out|apply ba'|apply bd'|apply be'|refine bs' ?_ GE186.out)|exact HB.out))));have n1_:=am' (blk_below (g:=gb186) (o := .cells #[.int .i64 a0_0, .int .i64 a0_1] 40 (0,0)) (by (with_reducible repeat (first|refine kn' ?_ _|refine kd' ?_|refine ka' ?_ _));exact BK186.out) hb);have n2_:=am' (below_step (by repeat (first|(with_reducible first|exact HB.out|apply ba'|apply bd'|apply be'|refine bs' ?_ GE186.out)|exact HB.out)) hb);clear BK186;clear HB;have HO190:=n0_;have BK186:=n1_;have HB:=n2_;clear n0_ n1_ n2_;clear hb ho15;refine hK.out _ _ ⟨(blk_cell BK186.out 0).trans rfl,(blk_cell BK186.out 1).trans rfl⟩ (fun hHeld=>?_);clear hK K;refine norm_ (a':=?_) ?_ ?_
       rotate_left
       ·
        show Act.put _ (some 18) _=_
        simp only[Act.put,sa',sb',sc',i64_w,i32_w];rfl
       refine one_ (i:=5) (N:=some 20) #[true,true,true,true,true,true,false,false,false,false] rfl rfl (one_of HT_.out (by kernel_rfl)) (by decide) (fun K hK=>?_);refine goes_ Try.func105 (by kernel_rfl) rfl #[.agg #[.int .i64 a0_0, .int .i64 a0_1]] (by rfl) rfl rfl (by (try simp only[List.map_toArray,List.map_cons,List.map_nil]);first|done|rfl|(simp only[List.length_drop,List.length_take];rfl)) ?_
       with_reducible refine (spec_cuSize.calls a0_0 a0_1 t191 _ A7.out).mono ?_
       rintro e w16 ⟨rfl,hb⟩
       refine ⟨_,rfl,?_⟩;have n0_:=am' (Kd.R_below (by (with_reducible repeat (first|apply ra'|apply rn'|apply rw'));exact HO190.out) hb);have n1_:=am' (blk_below (g:=gb186) (o := .cells #[.int .i64 a0_0, .int .i64 a0_1] 40 (0,0)) (by (with_reducible repeat (first|refine kn' ?_ _|refine kd' ?_|refine ka' ?_ _));exact BK186.out) hb);have n2_:=am' (below_step (by repeat (first|(with_reducible first|exact HB.out|apply ba'|apply bd'|apply be'|refine bs' ?_ GE186.out)|exact HB.out)) hb);clear HO190;clear BK186;clear HB;have HO190:=n0_;have BK186:=n1_;have HB:=n2_;clear n0_ n1_ n2_;(try clear hb)
       (try clear hb2)
       (try clear hk)
       (try clear hi)
       refine hK.out _ _ ⟨(blk_cell BK186.out 0).trans rfl,(blk_cell BK186.out 1).trans rfl⟩ (fun hHeld=>?_);clear hK K;refine norm_ (a':=?_) ?_ ?_
       rotate_left
       ·
        show Act.put _ (some 20) _=_
        simp only[Act.put,sa',sb',sc',i64_w,i32_w];rfl
       refine pure_ (i:=6) (N:=some 21) (v:=?_) (a':=?_) #[true,true,true,true,true,true,true,false,false,false] rfl rfl (any_of HT_.out (by kernel_rfl)) (fun _ _ _ h=>h) (Or.inl ⟨by rfl,?_⟩) ?_ ?_
       rotate_left
       ·
        intro w';go_simp;with_reducible rfl
       rotate_left
       ·
        simp only[Act.put,sa',sb',sc',i64_w,i32_w];rfl
       refine pure_ (i:=8) (N:=some 6) (v:=?_) (a':=?_) #[true,true,true,true,true,true,true,false,true,false] rfl rfl (any_of HT_.out (by kernel_rfl)) (fun _ _ _ h=>h) (Or.inl ⟨by rfl,?_⟩) ?_ ?_
       rotate_left
       ·
        intro w';go_simp;with_reducible rfl
       rotate_left
       ·
        simp only[Act.put,sa',sb',sc',i64_w,i32_w];rfl
       refine one_ (i:=7) (N:=some 22) #[true,true,true,true,true,true,true,true,true,false] rfl rfl (one_of HT_.out (by kernel_rfl)) (by decide) (fun K hK=>?_);refine Kd.R_make_step (Kd.int .i64) _ 3 (by rfl) (N:=22) rfl 32 _ _ rfl ji8 rfl rfl Try.underlying32 (.int .i64 0) 8 info3 rfl (by decide) (by omega) 0 (ok:=fun _=>True) (okp:=fun _=>True) rfl (fun _ hk=>hk) trivial (of_decide_eq_true (by first|(with_reducible assumption)|assumption)) (Nat.le_trans (Nat.mul_le_mul_right _ (of_decide_eq_true (by first|(with_reducible assumption)|assumption):ji8.toNat≤35184372088832)) (by omega)) (Below.refl _ _) (Nat.le_refl _) ?_
       intro v193 w17 ho18 hb hg_ hnew_;clear hg_ hnew_;(first|rw[← Ny192.out] at ho18|(simp only[Int.reduceToNat] at ho18;rw[← Ny192.out] at ho18))
       have n0_:=am' (Kd.R_elder' (by (with_reducible repeat (first|apply ra'|apply rn'|apply rw'));exact HO190.out) (Kd.R_base ho18) hb);have n1_:=am' (Kd.R_lower (Kd.R_new' ho18 (Kd.R_lt (by (with_reducible repeat (first|apply ra'|apply rn'|apply rw'));exact HO190.out))) (below_size (by repeat (first|(with_reducible first|exact HB.out|apply ba'|apply bd'|apply be'|refine bs' ?_ GE186.out)|exact HB.out))));have n2_:=am' (blk_below (g:=gb186) (o := .cells #[.int .i64 a0_0, .int .i64 a0_1] 40 (0,0)) (by (with_reducible repeat (first|refine kn' ?_ _|refine kd' ?_|refine ka' ?_ _));exact BK186.out) hb);have n3_:=am' (below_step (by repeat (first|(with_reducible first|exact HB.out|apply ba'|apply bd'|apply be'|refine bs' ?_ GE186.out)|exact HB.out)) hb);clear HO190;clear BK186;clear HB;have HO190:=n0_;have HO194:=n1_;have BK186:=n2_;have HB:=n3_;clear n0_ n1_ n2_ n3_;clear hb ho18;refine hK.out _ _ ⟨(blk_cell BK186.out 0).trans rfl,(blk_cell BK186.out 1).trans rfl⟩ (fun hHeld=>?_);clear hK K;refine norm_ (a':=?_) ?_ ?_
       rotate_left
       ·
        show Act.put _ (some 22) _=_
        simp only[Act.put,sa',sb',sc',i64_w,i32_w];rfl
       exact norm_ (by simp only[putAll,Act.put,sa',sb',sc']) (hCont (v189,v193) _ ⟨hHeld,(by (with_reducible repeat (first|apply ra'|apply rn'|apply rw'));exact Kd.R_mono HO190.out (fun _ hk=>hk.2)),(by (with_reducible repeat (first|apply ra'|apply rn'|apply rw'));exact Kd.R_mono HO194.out (fun _ hk=>hk.2)),(by (with_reducible repeat (first|refine kn' ?_ _|refine kd' ?_|refine ka' ?_ _));exact BK186.out),(by repeat (first|(with_reducible first|exact HB.out|apply ba'|apply bd'|apply be'|refine bs' ?_ GE186.out)|exact HB.out))⟩)
      ·
       skip
       refine goes_ Try.func105 (by kernel_rfl) rfl #[.agg #[.int .i64 a0_0, .int .i64 a0_1]] (by rfl) rfl rfl (by (try simp only[List.map_toArray,List.map_cons,List.map_nil]);first|done|rfl|(simp only[List.length_drop,List.length_take];rfl)) ?_
       with_reducible refine (spec_cuSize.calls a0_0 a0_1 t191 _ A7.out).mono ?_
       rintro e w14 ⟨rfl,hb⟩
       refine ⟨_,rfl,?_⟩;have n0_:=am' (blk_below (g:=gb186) (o := .cells #[.int .i64 a0_0, .int .i64 a0_1] 40 (0,0)) (by (with_reducible repeat (first|refine kn' ?_ _|refine kd' ?_|refine ka' ?_ _));exact BK186.out) hb);have n1_:=am' (below_step (by repeat (first|(with_reducible first|exact HB.out|apply ba'|apply bd'|apply be'|refine bs' ?_ GE186.out)|exact HB.out)) hb);clear BK186;clear HB;have BK186:=n0_;have HB:=n1_;clear n0_ n1_;(try clear hb)
       (try clear hb2)
       (try clear hk)
       (try clear hi)
       refine hK.out _ _ ⟨(blk_cell BK186.out 0).trans rfl,(blk_cell BK186.out 1).trans rfl⟩ (fun hHeld=>?_);clear hK K;refine norm_ (a':=?_) ?_ ?_
       rotate_left
       ·
        show Act.put _ (some 20) _=_
        simp only[Act.put,sa',sb',sc',i64_w,i32_w];rfl
       refine pure_ (i:=6) (N:=some 21) (v:=?_) (a':=?_) #[true,true,true,false,true,true,true,false,false,false] rfl rfl (any_of HT_.out (by kernel_rfl)) (fun _ _ _ h=>h) (Or.inl ⟨by rfl,?_⟩) ?_ ?_
       rotate_left
       ·
        intro w';go_simp;with_reducible rfl
       rotate_left
       ·
        simp only[Act.put,sa',sb',sc',i64_w,i32_w];rfl
       refine two_ (i:=3) (j:=7) (Ni:=some 18) (Nj:=some 22) #[true,true,true,true,true,true,true,false,false,false] #[true,true,true,false,true,true,true,true,false,false] rfl rfl rfl rfl (two_of HT_.out (by kernel_rfl)) (by decide) (by decide) (fun K hK=>?_) (fun K hK=>?_)
       ·
        skip
        refine Kd.R_make_step (Kd.int .i64) _ 3 (by rfl) (N:=18) rfl 32 _ _ rfl ji4 rfl rfl Try.underlying32 (.int .i64 0) 8 info3 rfl (by decide) (by omega) 0 (ok:=fun _=>True) (okp:=fun _=>True) rfl (fun _ hk=>hk) trivial (of_decide_eq_true (by first|(with_reducible assumption)|assumption)) (Nat.le_trans (Nat.mul_le_mul_right _ (of_decide_eq_true (by first|(with_reducible assumption)|assumption):ji4.toNat≤35184372088832)) (by omega)) (Below.refl _ _) (Nat.le_refl _) ?_
        intro v189 w15 ho16 hb hg_ hnew_;clear hg_ hnew_;(first|rw[← Ny188.out] at ho16|(simp only[Int.reduceToNat] at ho16;rw[← Ny188.out] at ho16))
        have n0_:=am' (Kd.R_lower ho16 (below_size (by repeat (first|(with_reducible first|exact HB.out|apply ba'|apply bd'|apply be'|refine bs' ?_ GE186.out)|exact HB.out))));have n1_:=am' (blk_below (g:=gb186) (o := .cells #[.int .i64 a0_0, .int .i64 a0_1] 40 (0,0)) (by (with_reducible repeat (first|refine kn' ?_ _|refine kd' ?_|refine ka' ?_ _));exact BK186.out) hb);have n2_:=am' (below_step (by repeat (first|(with_reducible first|exact HB.out|apply ba'|apply bd'|apply be'|refine bs' ?_ GE186.out)|exact HB.out)) hb);clear BK186;clear HB;have HO190:=n0_;have BK186:=n1_;have HB:=n2_;clear n0_ n1_ n2_;clear hb ho16;refine hK.out _ _ ⟨(blk_cell BK186.out 0).trans rfl,(blk_cell BK186.out 1).trans rfl⟩ (fun hHeld=>?_);clear hK K;refine norm_ (a':=?_) ?_ ?_
        rotate_left
        ·
         show Act.put _ (some 18) _=_
         simp only[Act.put,sa',sb',sc',i64_w,i32_w];rfl
        refine pure_ (i:=8) (N:=some 6) (v:=?_) (a':=?_) #[true,true,true,true,true,true,true,false,true,false] rfl rfl (any_of HT_.out (by kernel_rfl)) (fun _ _ _ h=>h) (Or.inl ⟨by rfl,?_⟩) ?_ ?_
        rotate_left
        ·
         intro w';go_simp;with_reducible rfl
        rotate_left
        ·
         simp only[Act.put,sa',sb',sc',i64_w,i32_w];rfl
        refine one_ (i:=7) (N:=some 22) #[true,true,true,true,true,true,true,true,true,false] rfl rfl (one_of HT_.out (by kernel_rfl)) (by decide) (fun K hK=>?_);refine Kd.R_make_step (Kd.int .i64) _ 3 (by rfl) (N:=22) rfl 32 _ _ rfl ji8 rfl rfl Try.underlying32 (.int .i64 0) 8 info3 rfl (by decide) (by omega) 0 (ok:=fun _=>True) (okp:=fun _=>True) rfl (fun _ hk=>hk) trivial (of_decide_eq_true (by first|(with_reducible assumption)|assumption)) (Nat.le_trans (Nat.mul_le_mul_right _ (of_decide_eq_true (by first|(with_reducible assumption)|assumption):ji8.toNat≤35184372088832)) (by omega)) (Below.refl _ _) (Nat.le_refl _) ?_
        intro v193 w17 ho18 hb hg_ hnew_;clear hg_ hnew_;(first|rw[← Ny192.out] at ho18|(simp only[Int.reduceToNat] at ho18;rw[← Ny192.out] at ho18))
        have n0_:=am' (Kd.R_elder' (by (with_reducible repeat (first|apply ra'|apply rn'|apply rw'));exact HO190.out) (Kd.R_base ho18) hb);have n1_:=am' (Kd.R_lower (Kd.R_new' ho18 (Kd.R_lt (by (with_reducible repeat (first|apply ra'|apply rn'|apply rw'));exact HO190.out))) (below_size (by repeat (first|(with_reducible first|exact HB.out|apply ba'|apply bd'|apply be'|refine bs' ?_ GE186.out)|exact HB.out))));have n2_:=am' (blk_below (g:=gb186) (o := .cells #[.int .i64 a0_0, .int .i64 a0_1] 40 (0,0)) (by (with_reducible repeat (first|refine kn' ?_ _|refine kd' ?_|refine ka' ?_ _));exact BK186.out) hb);have n3_:=am' (below_step (by repeat (first|(with_reducible first|exact HB.out|apply ba'|apply bd'|apply be'|refine bs' ?_ GE186.out)|exact HB.out)) hb);clear HO190;clear BK186;clear HB;have HO190:=n0_;have HO194:=n1_;have BK186:=n2_;have HB:=n3_;clear n0_ n1_ n2_ n3_;clear hb ho18;refine hK.out _ _ ⟨(blk_cell BK186.out 0).trans rfl,(blk_cell BK186.out 1).trans rfl⟩ (fun hHeld=>?_);clear hK K;refine norm_ (a':=?_) ?_ ?_
        rotate_left
        ·
         show Act.put _ (some 22) _=_
         simp only[Act.put,sa',sb',sc',i64_w,i32_w];rfl
        exact norm_ (by simp only[putAll,Act.put,sa',sb',sc']) (hCont (v189,v193) _ ⟨hHeld,(by (with_reducible repeat (first|apply ra'|apply rn'|apply rw'));exact Kd.R_mono HO190.out (fun _ hk=>hk.2)),(by (with_reducible repeat (first|apply ra'|apply rn'|apply rw'));exact Kd.R_mono HO194.out (fun _ hk=>hk.2)),(by (with_reducible repeat (first|refine kn' ?_ _|refine kd' ?_|refine ka' ?_ _));exact BK186.out),(by repeat (first|(with_reducible first|exact HB.out|apply ba'|apply bd'|apply be'|refine bs' ?_ GE186.out)|exact HB.out))⟩)
       ·
        skip
        refine Kd.R_make_step (Kd.int .i64) _ 3 (by rfl) (N:=22) rfl 32 _ _ rfl ji8 rfl rfl Try.underlying32 (.int .i64 0) 8 info3 rfl (by decide) (by omega) 0 (ok:=fun _=>True) (okp:=fun _=>True) rfl (fun _ hk=>hk) trivial (of_decide_eq_true (by first|(with_reducible assumption)|assumption)) (Nat.le_trans (Nat.mul_le_mul_right _ (of_decide_eq_true (by first|(with_reducible assumption)|assumption):ji8.toNat≤35184372088832)) (by omega)) (Below.refl _ _) (Nat.le_refl _) ?_
        intro v193 w15 ho16 hb hg_ hnew_;clear hg_ hnew_;(first|rw[← Ny192.out] at ho16|(simp only[Int.reduceToNat] at ho16;rw[← Ny192.out] at ho16))
        have n0_:=am' (Kd.R_lower ho16 (below_size (by repeat (first|(with_reducible first|exact HB.out|apply ba'|apply bd'|apply be'|refine bs' ?_ GE186.out)|exact HB.out))));have n1_:=am' (blk_below (g:=gb186) (o := .cells #[.int .i64 a0_0, .int .i64 a0_1] 40 (0,0)) (by (with_reducible repeat (first|refine kn' ?_ _|refine kd' ?_|refine ka' ?_ _));exact BK186.out) hb);have n2_:=am' (below_step (by repeat (first|(with_reducible first|exact HB.out|apply ba'|apply bd'|apply be'|refine bs' ?_ GE186.out)|exact HB.out)) hb);clear BK186;clear HB;have HO194:=n0_;have BK186:=n1_;have HB:=n2_;clear n0_ n1_ n2_;clear hb ho16;refine hK.out _ _ ⟨(blk_cell BK186.out 0).trans rfl,(blk_cell BK186.out 1).trans rfl⟩ (fun hHeld=>?_);clear hK K;refine norm_ (a':=?_) ?_ ?_
        rotate_left
        ·
         show Act.put _ (some 22) _=_
         simp only[Act.put,sa',sb',sc',i64_w,i32_w];rfl
        refine one_ (i:=3) (N:=some 18) #[true,true,true,true,true,true,true,true,false,false] rfl rfl (one_of HT_.out (by kernel_rfl)) (by decide) (fun K hK=>?_);refine Kd.R_make_step (Kd.int .i64) _ 3 (by rfl) (N:=18) rfl 32 _ _ rfl ji4 rfl rfl Try.underlying32 (.int .i64 0) 8 info3 rfl (by decide) (by omega) 0 (ok:=fun _=>True) (okp:=fun _=>True) rfl (fun _ hk=>hk) trivial (of_decide_eq_true (by first|(with_reducible assumption)|assumption)) (Nat.le_trans (Nat.mul_le_mul_right _ (of_decide_eq_true (by first|(with_reducible assumption)|assumption):ji4.toNat≤35184372088832)) (by omega)) (Below.refl _ _) (Nat.le_refl _) ?_
        intro v189 w17 ho18 hb hg_ hnew_;clear hg_ hnew_;(first|rw[← Ny188.out] at ho18|(simp only[Int.reduceToNat] at ho18;rw[← Ny188.out] at ho18))
        have n0_:=am' (Kd.R_elder' (by (with_reducible repeat (first|apply ra'|apply rn'|apply rw'));exact HO194.out) (Kd.R_base ho18) hb);have n1_:=am' (Kd.R_lower (Kd.R_new' ho18 (Kd.R_lt (by (with_reducible repeat (first|apply ra'|apply rn'|apply rw'));exact HO194.out))) (below_size (by repeat (first|(with_reducible first|exact HB.out|apply ba'|apply bd'|apply be'|refine bs' ?_ GE186.out)|exact HB.out))));have n2_:=am' (blk_below (g:=gb186) (o := .cells #[.int .i64 a0_0, .int .i64 a0_1] 40 (0,0)) (by (with_reducible repeat (first|refine kn' ?_ _|refine kd' ?_|refine ka' ?_ _));exact BK186.out) hb);have n3_:=am' (below_step (by repeat (first|(with_reducible first|exact HB.out|apply ba'|apply bd'|apply be'|refine bs' ?_ GE186.out)|exact HB.out)) hb);clear HO194;clear BK186;clear HB;have HO194:=n0_;have HO190:=n1_;have BK186:=n2_;have HB:=n3_;clear n0_ n1_ n2_ n3_;clear hb ho18;refine hK.out _ _ ⟨(blk_cell BK186.out 0).trans rfl,(blk_cell BK186.out 1).trans rfl⟩ (fun hHeld=>?_);clear hK K;refine norm_ (a':=?_) ?_ ?_
        rotate_left
        ·
         show Act.put _ (some 18) _=_
         simp only[Act.put,sa',sb',sc',i64_w,i32_w];rfl
        refine pure_ (i:=8) (N:=some 6) (v:=?_) (a':=?_) #[true,true,true,true,true,true,true,true,true,false] rfl rfl (any_of HT_.out (by kernel_rfl)) (fun _ _ _ h=>h) (Or.inl ⟨by rfl,?_⟩) ?_ ?_
        rotate_left
        ·
         intro w';go_simp;with_reducible rfl
        rotate_left
        ·
         simp only[Act.put,sa',sb',sc',i64_w,i32_w];rfl
        exact norm_ (by simp only[putAll,Act.put,sa',sb',sc']) (hCont (v189,v193) _ ⟨hHeld,(by (with_reducible repeat (first|apply ra'|apply rn'|apply rw'));exact Kd.R_mono HO190.out (fun _ hk=>hk.2)),(by (with_reducible repeat (first|apply ra'|apply rn'|apply rw'));exact Kd.R_mono HO194.out (fun _ hk=>hk.2)),(by (with_reducible repeat (first|refine kn' ?_ _|refine kd' ?_|refine ka' ?_ _));exact BK186.out),(by repeat (first|(with_reducible first|exact HB.out|apply ba'|apply bd'|apply be'|refine bs' ?_ GE186.out)|exact HB.out))⟩)
     rintro ⟨v189,v193⟩ w19 ⟨hS_,h0_,h1_,h2_,h3_⟩
     have n0_:Aside0 (Kd.R (Kd.int .i64) 3 w19 w.heap.size (fun k_=>some k_≠(v193:Value).ownBlock) v189 y188):=⟨h0_⟩
     have n1_:Aside0 (Kd.R (Kd.int .i64) 3 w19 w.heap.size (fun k_=>some k_≠(v189:Value).ownBlock) v193 y192):=⟨h1_⟩
     have n2_:Aside0 (w19.heap[gb186]? = some (.cells #[.int .i64 a0_0, .int .i64 a0_1] 40 (0,0))):=⟨h2_⟩
     have n3_:Aside0 (Below w.heap.size w w19):=⟨h3_⟩
     clear BK186;clear HB;clear h0_ h1_ h2_ h3_;have HO190:=n0_;have HO194:=n1_;have BK186:=n2_;have HB:=n3_;clear n0_ n1_ n2_ n3_;have hHeld:w19.cell? ⟨gb186,0,none⟩=some (.int .i64 a0_0)∧w19.cell? ⟨gb186,1,none⟩=some (.int .i64 a0_1):=hS_;refine norm_ (a':=?_) ?_ ?_
     rotate_left
     ·
      simp only[putAll,Act.put,sa',sb',sc'];rfl
     refine pure_ (i:=9) (N:=some 7) (v:=?_) (a':=?_) #[true,true,true,true,true,true,true,true,true,true] rfl rfl (any_of HT_.out (by kernel_rfl)) (fun _ _ _ h=>h) (Or.inl ⟨by rfl,?_⟩) ?_ ?_
     rotate_left
     ·
      intro w';go_simp;with_reducible rfl
     rotate_left
     ·
      simp only[Act.put,sa',sb',sc',i64_w,i32_w];rfl
     refine done_ (done_of HT_.out (by kernel_rfl)) ?_
     obtain ⟨Ao20,co20,eo20⟩:=Kd.R_slice HO190.out;subst eo20;try go_wp2
     go_loopg [25] k (fun kq v25 w'=>∃ (x6_1:List Int) (x25_1:Int),v25 = .int .i64 x25_1∧Aside0 (spec_cuFar.l0 kq a1 x6_1 y192 (y188.length:Int) x25_1 a0_0 a0_1=some (r1,r2))∧Aside0 (kq≤k)∧Aside0 (Kd.R (Kd.int .i64) 3 w' w.heap.size (fun k_=>some k_≠(v193:Value).ownBlock) (.slice Ao20 y188.length co20) x6_1)∧Aside0 (Kd.R (Kd.int .i64) 3 w' w.heap.size (fun k_=>some k_≠((.slice Ao20 y188.length co20):Value).ownBlock) v193 y192)∧Aside0 (w'.heap[gb186]? = some (.cells #[.int .i64 a0_0, .int .i64 a0_1] 40 (0,0)))∧Aside0 (Below w.heap.size w w'))
     case atStart=>exact ⟨(y188),(0),(by first|rfl|(simp;done)|(simp[*];done)),H',⟨Nat.le_refl _⟩,⟨by (with_reducible repeat (first|apply ra'|apply rn'|apply rw'));exact HO190.out⟩,⟨by (with_reducible repeat (first|apply ra'|apply rn'|apply rw'));exact HO194.out⟩,⟨by (with_reducible repeat (first|refine kn' ?_ _|refine kd' ?_|refine ka' ?_ _));exact BK186.out⟩,⟨by repeat (first|(with_reducible first|exact HB.out|apply ba'|apply bd'|apply be'|refine bs' ?_ GE186.out)|exact HB.out)⟩⟩
     case round =>
      clear H';try clear c1
      try clear p2
      try clear c5
      try clear c5b0
      try clear c5b1
      try clear c6
      try clear c6b0
      try clear c6b1
      try clear p6
      try clear c7
      try clear c9
      try clear c9b0
      try clear c9b1
      try clear c10
      try clear c10b0
      try clear c10b1
      obtain ⟨x6_1,x25_1,rfl,HA,HK1,HO_6,HO_7,BK186,HB⟩:=hrel;have hl6_1:=(Kd.R_reads' HO_6.out).1;rw[hl6_1] at HO_6
      (try simp only[hl6_1])
      (try simp only[hl6_1] at BK186)
      (try simp only[hl6_1] at HO_7)
      cases gk with
      | zero=>exact absurd HA.out (by simp[spec_cuFar.l0])
      | succ k1 =>
       have H:=HA.out;clear HA;simp only[spec_cuFar.l0] at H;by_cases c21:x25_1 < (y188.length:Int)
       ·
        rw[if_pos c21] at H;have c21b0:decide (x25_1 < (y188.length:Int))=true:=decide_eq_true c21;clear c21;by_cases c22:0≤x25_1
        ·
         rw[if_pos c22] at H;have c22b0:decide (0≤x25_1)=true:=decide_eq_true c22;clear c22;by_cases c23:x25_1 < (x6_1.length:Int)
         ·
          rw[if_pos c23] at H;have c23b0:decide (x25_1 < (x6_1.length:Int))=true:=decide_eq_true c23;clear c23;obtain ⟨y195,hy195⟩:∃ y_:List Int,y_=(x6_1.set (x25_1:Int).toNat (-1)):=⟨_,rfl⟩
          replace H:(spec_cuFar.l0 k1 a1 y195 y192 (y188.length:Int) (wrap64 (x25_1+1)) a0_0 a0_1)=some (r1,r2):=by first|(rw[hy195];with_reducible exact H)|(have H2_:=(Option.bind_some _ _).symm.trans H;rw[hy195];with_reducible exact H2_)|(have H2_:=(Option.bind_some _ _).symm.trans H;with_reducible exact H2_)|with_reducible exact H|(rw[hy195];exact H)|exact H
          have Ny195:=am' hy195;clear hy195;have H':=am' H;clear H;have p24:0≤(x25_1:Int):=of_decide_eq_true (by first|(with_reducible assumption)|assumption);have q24:(x25_1:Int) < ((x6_1.length:Int):Int):=of_decide_eq_true (by first|(with_reducible assumption)|assumption);obtain ⟨go24,co24,eo24,gb24,gl24,cl24,HG24⟩:=Kd.R_form HO_6.out (by omega)
          (first|cases eo24|(injection eo24 with ea_ en_ ec_;(first|subst ea_|(injection ea_ with ea_;subst ea_));subst ec_;clear en_))
          have GB24:=am' gb24;have GG24:=am' HG24;clear gb24 gl24 HG24;obtain ⟨hx24_0,hf24_0⟩:=Kd.R_celln 0 HO_6.out (x25_1:Int) p24 q24;replace p24:=eq_true p24;replace q24:=eq_true q24;have HP25:=Kd.R_putg HO_6.out (x25_1:Int) (-1);go_wp2_with (first|((with_reducible refine gate_store (t:=3) (p:=30) rfl ?_);refine store_event (t:=3) (p:=30) (v:=?vo_w26) (w1:=(wr.setCell ⟨go24,(x25_1:Int).toNat,none⟩ (.int .i64 (-1)))) ?hg ?ho ?hn ?hr ?_;(case ho=>rfl);(case hg=>rfl);(case hn=>rfl);(case hr=>first|(go_simp;done)|(go_simp;rfl));intro w26 hw;have hg:wr.grownBy w26 (some go24):=(by rw[hw];exact HP25.2);have hp_:Kd.R (Kd.int .i64) 3 w26 w.heap.size (fun k_=>some k_≠(v193:Value).ownBlock) (.slice (some ⟨go24,0,none⟩) x6_1.length co20) y195:=(by rw[hw,Ny195.out];exact HP25.1);clear HP25;have n0_:=am' (hp_);have n1_:=am' (Kd.R_after (v:=(.slice (some ⟨go24,0,none⟩) x6_1.length co20)) (v1:=(.slice (some ⟨go24,0,none⟩) x6_1.length co20)) (ok:=(fun _=>True)) (by (with_reducible repeat (first|apply ra'|apply rn'|apply rw'));exact Kd.R_mono HO_7.out (fun _ hk=>⟨trivial,hk⟩)) hg (.inl rfl));have n2_:=am' (blk_grown (g:=gb186) (o := .cells #[.int .i64 a0_0, .int .i64 a0_1] 40 (0,0)) (by (with_reducible repeat (first|refine kn' ?_ _|refine kd' ?_|refine ka' ?_ _));exact BK186.out) hg (Kd.R_ne HO_6.out BK186.out (by decide)));have n3_:=am' ((by rw[hw];exact bs' (HB.out) GB24.out:Below w.heap.size w w26));clear HO_6;clear HO_7;clear BK186;clear HB;have HO_6:=n0_;have HO_7:=n1_;have BK186:=n2_;have HB:=n3_;clear n0_ n1_ n2_ n3_;clear hg hw hp_))
          (try simp only[← hl6_1])
          go_roundg k1
          case measure=>have:=HK1.out;omega
          case rel=>exact ⟨(y195),(wrap64 (x25_1+1)),(by first|rfl|(simp;done)|(simp[*];done)),H',⟨by have:=HK1.out;omega⟩,⟨by (try simp only[hl6_1]);(with_reducible repeat (first|apply ra'|apply rn'|apply rw'));exact HO_6.out⟩,⟨by (try simp only[hl6_1]);(with_reducible repeat (first|apply ra'|apply rn'|apply rw'));exact Kd.R_mono HO_7.out (fun _ hk=>hk.2)⟩,⟨by (try simp only[hl6_1]);(with_reducible repeat (first|refine kn' ?_ _|refine kd' ?_|refine ka' ?_ _));exact BK186.out⟩,⟨by repeat (first|(with_reducible first|exact HB.out|apply ba'|apply bd'|apply be'|refine bs' ?_ GE186.out)|exact HB.out)⟩⟩
         ·
          rw[if_neg c23] at H;exact absurd H (by simp)
        ·
         rw[if_neg c22] at H;exact absurd H (by simp)
       ·
        rw[if_neg c21] at H;have c21b0:decide (x25_1 < (y188.length:Int))=false:=decide_eq_false c21
        (try (have c21bz:=c21b0;rw[hl6_1] at c21bz))
        clear c21;by_cases c27:0≤a1
        ·
         rw[if_pos c27] at H;have c27b0:decide (0≤a1)=true:=decide_eq_true c27;clear c27;by_cases c28:a1 < (x6_1.length:Int)
         ·
          rw[if_pos c28] at H;have c28b0:decide (a1 < (x6_1.length:Int))=true:=decide_eq_true c28;clear c28;obtain ⟨y196,hy196⟩:∃ y_:List Int,y_=(x6_1.set (a1:Int).toNat 0):=⟨_,rfl⟩
          replace H:(if a1 < (y192.length:Int) then (spec_cuFar.l1 k1 y196 (y192.set (a1:Int).toNat 1) (([a1]:List Int)) 0 a0_0 a0_1) else (none))=some (r1,r2):=by first|(rw[hy196];with_reducible exact H)|(have H2_:=(Option.bind_some _ _).symm.trans H;rw[hy196];with_reducible exact H2_)|(have H2_:=(Option.bind_some _ _).symm.trans H;with_reducible exact H2_)|with_reducible exact H|(rw[hy196];exact H)|exact H
          have Ny196:=am' hy196;clear hy196;by_cases c30:a1 < (y192.length:Int)
          ·
           rw[if_pos c30] at H;have c30b0:decide (a1 < (y192.length:Int))=true:=decide_eq_true c30;clear c30;obtain ⟨y197,hy197⟩:∃ y_:List Int,y_=(y192.set (a1:Int).toNat 1):=⟨_,rfl⟩
           replace H:(spec_cuFar.l1 k1 y196 y197 (([a1]:List Int)) 0 a0_0 a0_1)=some (r1,r2):=by first|(rw[hy197];with_reducible exact H)|(have H2_:=(Option.bind_some _ _).symm.trans H;rw[hy197];with_reducible exact H2_)|(have H2_:=(Option.bind_some _ _).symm.trans H;with_reducible exact H2_)|with_reducible exact H|(rw[hy197];exact H)|exact H
           have Ny197:=am' hy197;clear hy197;obtain ⟨y198,hy198⟩:∃ y_:List Int,y_=(([a1]:List Int)):=⟨_,rfl⟩
           replace H:(spec_cuFar.l1 k1 y196 y197 y198 0 a0_0 a0_1)=some (r1,r2):=by first|(rw[hy198];with_reducible exact H)|(have H2_:=(Option.bind_some _ _).symm.trans H;rw[hy198];with_reducible exact H2_)|(have H2_:=(Option.bind_some _ _).symm.trans H;with_reducible exact H2_)|with_reducible exact H|(rw[hy198];exact H)|exact H
           have Ny198:=am' hy198;clear hy198;have H':=am' H;clear H;have p29:0≤(a1:Int):=of_decide_eq_true (by first|(with_reducible assumption)|assumption);have q29:(a1:Int) < ((x6_1.length:Int):Int):=of_decide_eq_true (by first|(with_reducible assumption)|assumption);obtain ⟨go29,co29,eo29,gb29,gl29,cl29,HG29⟩:=Kd.R_form HO_6.out (by omega)
           (first|cases eo29|(injection eo29 with ea_ en_ ec_;(first|subst ea_|(injection ea_ with ea_;subst ea_));subst ec_;clear en_))
           have GB29:=am' gb29;have GG29:=am' HG29;clear gb29 gl29 HG29;obtain ⟨hx29_0,hf29_0⟩:=Kd.R_celln 0 HO_6.out (a1:Int) p29 q29;replace p29:=eq_true p29;replace q29:=eq_true q29;have HP32:=Kd.R_putg HO_6.out (a1:Int) 0;go_wp2_with (first|((with_reducible refine gate_store (t:=3) (p:=34) rfl ?_);refine store_event (t:=3) (p:=34) (v:=?vo_w33) (w1:=(wr.setCell ⟨go29,(a1:Int).toNat,none⟩ (.int .i64 0))) ?hg ?ho ?hn ?hr ?_;(case ho=>rfl);(case hg=>rfl);(case hn=>rfl);(case hr=>first|(go_simp;done)|(go_simp;rfl));intro w33 hw;have hg:wr.grownBy w33 (some go29):=(by rw[hw];exact HP32.2);have hp_:Kd.R (Kd.int .i64) 3 w33 w.heap.size (fun k_=>some k_≠(v193:Value).ownBlock) (.slice (some ⟨go29,0,none⟩) x6_1.length co20) y196:=(by rw[hw,Ny196.out];exact HP32.1);clear HP32;have n0_:=am' (hp_);have n1_:=am' (Kd.R_after (v:=(.slice (some ⟨go29,0,none⟩) x6_1.length co20)) (v1:=(.slice (some ⟨go29,0,none⟩) x6_1.length co20)) (ok:=(fun _=>True)) (by (with_reducible repeat (first|apply ra'|apply rn'|apply rw'));exact Kd.R_mono HO_7.out (fun _ hk=>⟨trivial,hk⟩)) hg (.inl rfl));have n2_:=am' (blk_grown (g:=gb186) (o := .cells #[.int .i64 a0_0, .int .i64 a0_1] 40 (0,0)) (by (with_reducible repeat (first|refine kn' ?_ _|refine kd' ?_|refine ka' ?_ _));exact BK186.out) hg (Kd.R_ne HO_6.out BK186.out (by decide)));have n3_:=am' ((by rw[hw];exact bs' (HB.out) GB29.out:Below w.heap.size w w33));clear HO_6;clear HO_7;clear BK186;clear HB;have HO_6:=n0_;have HO_7:=n1_;have BK186:=n2_;have HB:=n3_;clear n0_ n1_ n2_ n3_;clear hg hw hp_;have p31:0≤(a1:Int):=of_decide_eq_true (by first|(with_reducible assumption)|assumption);have q31:(a1:Int) < ((y192.length:Int):Int):=of_decide_eq_true (by first|(with_reducible assumption)|assumption);obtain ⟨go31,co31,eo31,gb31,gl31,cl31,HG31⟩:=Kd.R_form HO_7.out (by omega);(first|cases eo31|(injection eo31 with ea_ en_ ec_;(first|subst ea_|(injection ea_ with ea_;subst ea_));subst ec_;clear en_));have GB31:=am' gb31;have GG31:=am' HG31;clear gb31 gl31 HG31;obtain ⟨hx31_0,hf31_0⟩:=Kd.R_celln 0 HO_7.out (a1:Int) p31 q31;replace p31:=eq_true p31;replace q31:=eq_true q31;have n_:=am' (Kd.R_mono (ok':=(fun k_=>some k_≠(.slice (some ⟨go29,0,none⟩) x6_1.length co20:Value).ownBlock)) HO_7.out (fun k_ hk=>hk.2));clear HO_7;have HO_7:=n_;clear n_;obtain ⟨hy34_,hz34_⟩:=Kd.R_celln 0 HO_7.out (a1:Int) (of_decide_eq_true (by first|(with_reducible assumption)|assumption)) (of_decide_eq_true (by first|(with_reducible assumption)|assumption));have HP34:=Kd.R_putg HO_7.out (a1:Int) 1)|((with_reducible refine gate_store (t:=3) (p:=37) rfl ?_);refine store_event (t:=3) (p:=37) (v:=?vo_w35) (w1:=(w33.setCell ⟨go31,(a1:Int).toNat,none⟩ (.int .i64 1))) ?hg ?ho ?hn ?hr ?_;(case ho=>rfl);(case hg=>rfl);(case hn=>rfl);(case hr=>first|(go_simp;done)|(go_simp;rfl));intro w35 hw;have hg:w33.grownBy w35 (some go31):=(by rw[hw];exact HP34.2);have hp_:Kd.R (Kd.int .i64) 3 w35 w.heap.size (fun k_=>some k_≠(.slice (some ⟨go29,0,none⟩) x6_1.length co20:Value).ownBlock) (.slice (some ⟨go31,0,none⟩) y192.length co31) y197:=(by rw[hw,Ny197.out];exact HP34.1);clear HP34;have n0_:=am' (Kd.R_after (v:=(.slice (some ⟨go31,0,none⟩) y192.length co31)) (v1:=(.slice (some ⟨go31,0,none⟩) y192.length co31)) (ok:=(fun _=>True)) (by (with_reducible repeat (first|apply ra'|apply rn'|apply rw'));exact Kd.R_mono HO_6.out (fun _ hk=>⟨trivial,hk⟩)) hg (.inl rfl));have n1_:=am' (hp_);have n2_:=am' (blk_grown (g:=gb186) (o := .cells #[.int .i64 a0_0, .int .i64 a0_1] 40 (0,0)) (by (with_reducible repeat (first|refine kn' ?_ _|refine kd' ?_|refine ka' ?_ _));exact BK186.out) hg (Kd.R_ne HO_7.out BK186.out (by decide)));have n3_:=am' ((by rw[hw];exact bs' (HB.out) GB31.out:Below w.heap.size w w35));clear HO_6;clear HO_7;clear BK186;clear HB;have HO_6:=n0_;have HO_7:=n1_;have BK186:=n2_;have HB:=n3_;clear n0_ n1_ n2_ n3_;clear hg hw hp_)|((with_reducible refine gate_dst (N:=39) rfl ?_);refine Kd.R_lit (Kd.int .i64) _ 3 ?hg (N:=39) ?hd (xs:=([a1]:List Int)) (inner:=[.int .i64 a1]) (ok:=fun _=>True) (okp:=fun _=>True) ?hr ?hp (fun _ hk=>hk) trivial (Below.refl _ _) (Nat.le_refl _) (by simp) ?_;(case hd=>rfl);(case hg=>rfl);(case hr=>first|(go_simp;done)|(go_simp;rfl));(case hp=>exact (Reps.one (show Kd.M (Kd.int .i64) _ _ _ a1 [.int .i64 a1] from rfl) (Reps.none _ _)));intro v199 w36 ho37 hb hg_ hnew_;clear hg_ hnew_;(first|rw[← Ny198.out] at ho37|(simp only[Int.reduceToNat] at ho37;rw[← Ny198.out] at ho37));have n0_:=am' (Kd.R_elder' (by (with_reducible repeat (first|apply ra'|apply rn'|apply rw'));exact HO_6.out) (Kd.R_base ho37) hb);have n1_:=am' (Kd.R_elder' (by (with_reducible repeat (first|apply ra'|apply rn'|apply rw'));exact HO_7.out) (Kd.R_base ho37) hb);have n2_:=am' (Kd.R_lower (Kd.R_new' (Kd.R_new' ho37 (Kd.R_lt (by (with_reducible repeat (first|apply ra'|apply rn'|apply rw'));exact HO_6.out))) (Kd.R_lt (by (with_reducible repeat (first|apply ra'|apply rn'|apply rw'));exact HO_7.out))) (below_size (by repeat (first|(with_reducible first|exact HB.out|apply ba'|apply bd'|apply be'|refine bs' ?_ GE186.out)|exact HB.out))));have n3_:=am' (blk_below (g:=gb186) (o := .cells #[.int .i64 a0_0, .int .i64 a0_1] 40 (0,0)) (by (with_reducible repeat (first|refine kn' ?_ _|refine kd' ?_|refine ka' ?_ _));exact BK186.out) hb);have n4_:=am' (below_step (by repeat (first|(with_reducible first|exact HB.out|apply ba'|apply bd'|apply be'|refine bs' ?_ GE186.out)|exact HB.out)) hb);clear HO_6;clear HO_7;clear BK186;clear HB;have HO_6:=n0_;have HO_7:=n1_;have HO200:=n2_;have BK186:=n3_;have HB:=n4_;clear n0_ n1_ n2_ n3_ n4_;clear hb ho37))
           go_loopg [9,10] k1 (fun kq v9 v10 w'=>∃ (x6_2:List Int) (x7_2:List Int) (x9_2:List Int) (x10_2:Int),v10 = .int .i64 x10_2∧Aside0 (spec_cuFar.l1 kq x6_2 x7_2 x9_2 x10_2 a0_0 a0_1=some (r1,r2))∧Aside0 (kq≤k1)∧Aside0 (Kd.R (Kd.int .i64) 3 w' w.heap.size (fun k_=>some k_≠((.slice (some ⟨go31,0,none⟩) y192.length co31):Value).ownBlock∧some k_≠(v9:Value).ownBlock) (.slice (some ⟨go29,0,none⟩) x6_1.length co20) x6_2)∧Aside0 (Kd.R (Kd.int .i64) 3 w' w.heap.size (fun k_=>some k_≠((.slice (some ⟨go29,0,none⟩) x6_1.length co20):Value).ownBlock∧some k_≠(v9:Value).ownBlock) (.slice (some ⟨go31,0,none⟩) y192.length co31) x7_2)∧Aside0 (Kd.R (Kd.int .i64) 3 w' w.heap.size (fun k_=>some k_≠((.slice (some ⟨go29,0,none⟩) x6_1.length co20):Value).ownBlock∧some k_≠((.slice (some ⟨go31,0,none⟩) y192.length co31):Value).ownBlock) v9 x9_2)∧Aside0 (w'.heap[gb186]? = some (.cells #[.int .i64 a0_0, .int .i64 a0_1] 40 (0,0)))∧Aside0 (Below w.heap.size w w'))
           case atStart=>exact ⟨(y196),(y197),(y198),(0),(by first|rfl|(simp;done)|(simp[*];done)),H',⟨Nat.le_refl _⟩,⟨by (try simp only[hl6_1]);(with_reducible repeat (first|apply ra'|apply rn'|apply rw'));exact Kd.R_mono HO_6.out (fun _ hk=>⟨hk.1.2,hk.2⟩)⟩,⟨by (try simp only[hl6_1]);(with_reducible repeat (first|apply ra'|apply rn'|apply rw'));exact HO_7.out⟩,⟨by (try simp only[hl6_1]);(with_reducible repeat (first|apply ra'|apply rn'|apply rw'));exact Kd.R_mono HO200.out (fun _ hk=>⟨hk.1.2,hk.2⟩)⟩,⟨by (try simp only[hl6_1]);(with_reducible repeat (first|refine kn' ?_ _|refine kd' ?_|refine ka' ?_ _));exact BK186.out⟩,⟨by repeat (first|(with_reducible first|exact HB.out|apply ba'|apply bd'|apply be'|refine bs' ?_ GE186.out)|exact HB.out)⟩⟩
           case round =>
            clear H';try clear c1
            try clear c2
            try clear p2
            try clear q2
            try clear hx2
            try clear hf2
            try clear c3
            try clear p3
            try clear q3
            try clear hx3
            try clear hf3
            try clear c5
            try clear c5b0
            try clear c5b1
            try clear c6
            try clear c6b0
            try clear c6b1
            try clear p6
            try clear c7
            try clear c9
            try clear c9b0
            try clear c9b1
            try clear c10
            try clear c10b0
            try clear c10b1
            try clear c21
            try clear c21b0
            try clear c22
            try clear c22b0
            try clear c23
            try clear c23b0
            try clear p24
            try clear q24
            try clear hx24
            try clear hf24
            try clear c27
            try clear c27b0
            try clear c28
            try clear c28b0
            try clear p29
            try clear q29
            try clear hx29
            try clear hf29
            try clear c30
            try clear c30b0
            try clear p31
            try clear q31
            try clear hx31
            try clear hf31
            try clear hx24_0
            try clear hx29_0
            try clear hx31_0
            try clear p2
            try clear p24
            try clear p29
            try clear p31
            try clear p6
            try clear q24
            try clear q29
            try clear q31
            obtain ⟨x6_2,x7_2,x9_2,x10_2,rfl,HA,HK2,HO_6,HO_7,HO_9,BK186,HB⟩:=hrel;have hl6_2:=(Kd.R_reads' HO_6.out).1;rw[hl6_2] at HO_6
            (try simp only[hl6_2])
            (try simp only[hl6_2] at BK186)
            (try simp only[hl6_2] at HO_7)
            (try simp only[hl6_2] at HO_9)
            have hl7_2:=(Kd.R_reads' HO_7.out).1;rw[hl7_2] at HO_7
            (try simp only[hl7_2])
            (try simp only[hl7_2] at BK186)
            (try simp only[hl7_2] at HO_6)
            (try simp only[hl7_2] at HO_9)
            cases gk with
            | zero=>exact absurd HA.out (by simp[spec_cuFar.l1])
            | succ k2 =>
             have H:=HA.out;clear HA;simp only[spec_cuFar.l1] at H;by_cases c38:x10_2 < (x9_2.length:Int)
             ·
              rw[if_pos c38] at H;have c38b0:decide (x10_2 < (x9_2.length:Int))=true:=decide_eq_true c38;clear c38;by_cases c39:0≤x10_2
              ·
               rw[if_pos c39] at H;have c39b0:decide (0≤x10_2)=true:=decide_eq_true c39;clear c39;replace H:=Option.bind_eq_some_iff.mp H;obtain ⟨t202,A400,H⟩:=H;replace H:(spec_cuFar.l2 k2 x6_2 x7_2 x9_2 x10_2 (rd x9_2 x10_2) t202 (t202.length:Int) 0 a0_0 a0_1)=some (r1,r2):=H;have A40:=am' A400;clear A400;have H':=am' H;clear H;obtain ⟨Ao41,co41,eo41⟩:=Kd.R_slice HO_9.out;subst eo41;have p201:0≤(x10_2:Int):=of_decide_eq_true (by first|(with_reducible assumption)|assumption);have q201:x10_2 < (x9_2.length:Int):=of_decide_eq_true (by first|(with_reducible assumption)|assumption);obtain ⟨ad201,e201,hx201_0⟩:=Kd.at_int (Kd.R_reads' HO_9.out).2.2 x10_2 p201 q201;cases e201;replace p201:=eq_true p201;replace q201:=eq_true q201;have hcz42_0:wr.cell? ⟨gb186,0,none⟩=some (.int .i64 a0_0):=(blk_cell BK186.out 0).trans rfl;have hcz42_1:wr.cell? ⟨gb186,1,none⟩=some (.int .i64 a0_1):=(blk_cell BK186.out 1).trans rfl;have hfz42_0:=blk_frozen BK186.out 0;have hfz42_1:=blk_frozen BK186.out 1;go_wp2_with (first|((with_reducible refine gate_callee (f:=86) rfl ?_);refine goesL_ (some 52) rfl rfl Try.func86 (by kernel_rfl) rfl #[.agg #[.int .i64 a0_0, .int .i64 a0_1], .int .i64 (rd x9_2 x10_2)] rfl (by (try simp only[List.map_toArray,List.map_cons,List.map_nil]);first|done|rfl|(simp only[List.length_drop,List.length_take];rfl)) ?_;(with_reducible refine (spec_cuRows.calls k2 a0_0 a0_1 (rd x9_2 x10_2) t202 _ A40.out).mono ?_);rintro e w43 ⟨v203,rfl,ho0,hb⟩;refine ⟨_,rfl,?_⟩;have n0_:=am' (Kd.R_elder' (by (with_reducible repeat (first|apply ra'|apply rn'|apply rw'));exact HO_6.out) (Kd.R_base ho0) hb);have n1_:=am' (Kd.R_elder' (by (with_reducible repeat (first|apply ra'|apply rn'|apply rw'));exact HO_7.out) (Kd.R_base ho0) hb);have n2_:=am' (Kd.R_elder' (by (with_reducible repeat (first|apply ra'|apply rn'|apply rw'));exact HO_9.out) (Kd.R_base ho0) hb);have n3_:=am' (Kd.R_lower (Kd.R_new' (Kd.R_new' (Kd.R_new' ho0 (Kd.R_lt (by (with_reducible repeat (first|apply ra'|apply rn'|apply rw'));exact HO_6.out))) (Kd.R_lt (by (with_reducible repeat (first|apply ra'|apply rn'|apply rw'));exact HO_7.out))) (Kd.R_lt (by (with_reducible repeat (first|apply ra'|apply rn'|apply rw'));exact HO_9.out))) (below_size (by repeat (first|(with_reducible first|exact HB.out|apply ba'|apply bd'|apply be'|refine bs' ?_ GE186.out)|exact HB.out))));have n4_:=am' (blk_below (g:=gb186) (o := .cells #[.int .i64 a0_0, .int .i64 a0_1] 40 (0,0)) (by (with_reducible repeat (first|refine kn' ?_ _|refine kd' ?_|refine ka' ?_ _));exact BK186.out) hb);have n5_:=am' (below_step (by repeat (first|(with_reducible first|exact HB.out|apply ba'|apply bd'|apply be'|refine bs' ?_ GE186.out)|exact HB.out)) hb);clear HO_6;clear HO_7;clear HO_9;clear BK186;clear HB;have HO_6:=n0_;have HO_7:=n1_;have HO_9:=n2_;have HO204:=n3_;have BK186:=n4_;have HB:=n5_;clear n0_ n1_ n2_ n3_ n4_ n5_;(try clear hb);(try clear hb2);(try clear hk);(try clear hi);(try clear ho0);obtain ⟨Ao44,co44,eo44⟩:=Kd.R_slice HO204.out;subst eo44))
               go_loopg [9,54] k2 (fun kq v9 v54 w'=>∃ (x6_3:List Int) (x7_3:List Int) (x9_3:List Int) (x54_3:Int),v54 = .int .i64 x54_3∧Aside0 (spec_cuFar.l2 kq x6_3 x7_3 x9_3 x10_2 (rd x9_2 x10_2) t202 (t202.length:Int) x54_3 a0_0 a0_1=some (r1,r2))∧Aside0 (kq≤k2)∧Aside0 (Kd.R (Kd.int .i64) 3 w' w.heap.size (fun k_=>some k_≠((.slice (some ⟨go31,0,none⟩) x7_2.length co31):Value).ownBlock∧some k_≠(v9:Value).ownBlock∧some k_≠((.slice Ao44 t202.length co44):Value).ownBlock) (.slice (some ⟨go29,0,none⟩) x6_2.length co20) x6_3)∧Aside0 (Kd.R (Kd.int .i64) 3 w' w.heap.size (fun k_=>some k_≠((.slice (some ⟨go29,0,none⟩) x6_2.length co20):Value).ownBlock∧some k_≠(v9:Value).ownBlock∧some k_≠((.slice Ao44 t202.length co44):Value).ownBlock) (.slice (some ⟨go31,0,none⟩) x7_2.length co31) x7_3)∧Aside0 (Kd.R (Kd.int .i64) 3 w' w.heap.size (fun k_=>some k_≠((.slice (some ⟨go29,0,none⟩) x6_2.length co20):Value).ownBlock∧some k_≠((.slice (some ⟨go31,0,none⟩) x7_2.length co31):Value).ownBlock∧some k_≠((.slice Ao44 t202.length co44):Value).ownBlock) v9 x9_3)∧Aside0 (Kd.R (Kd.int .i64) 3 w' w.heap.size (fun k_=>some k_≠((.slice (some ⟨go29,0,none⟩) x6_2.length co20):Value).ownBlock∧some k_≠((.slice (some ⟨go31,0,none⟩) x7_2.length co31):Value).ownBlock∧some k_≠(v9:Value).ownBlock) (.slice Ao44 t202.length co44) t202)∧Aside0 (w'.heap[gb186]? = some (.cells #[.int .i64 a0_0, .int .i64 a0_1] 40 (0,0)))∧Aside0 (Below w.heap.size w w'))
               case atStart=>exact ⟨(x6_2),(x7_2),(x9_2),(0),(by first|rfl|(simp;done)|(simp[*];done)),H',⟨Nat.le_refl _⟩,⟨by (try simp only[hl6_1]);(try simp only[hl6_2]);(try simp only[hl7_2]);(with_reducible repeat (first|apply ra'|apply rn'|apply rw'));exact Kd.R_mono HO_6.out (fun _ hk=>⟨hk.1.1,⟨hk.1.2,hk.2⟩⟩)⟩,⟨by (try simp only[hl6_1]);(try simp only[hl6_2]);(try simp only[hl7_2]);(with_reducible repeat (first|apply ra'|apply rn'|apply rw'));exact Kd.R_mono HO_7.out (fun _ hk=>⟨hk.1.1,⟨hk.1.2,hk.2⟩⟩)⟩,⟨by (try simp only[hl6_1]);(try simp only[hl6_2]);(try simp only[hl7_2]);(with_reducible repeat (first|apply ra'|apply rn'|apply rw'));exact Kd.R_mono HO_9.out (fun _ hk=>⟨hk.1.1,⟨hk.1.2,hk.2⟩⟩)⟩,⟨by (try simp only[hl6_1]);(try simp only[hl6_2]);(try simp only[hl7_2]);(with_reducible repeat (first|apply ra'|apply rn'|apply rw'));exact Kd.R_mono HO204.out (fun _ hk=>⟨hk.1.1.2,⟨hk.1.2,hk.2⟩⟩)⟩,⟨by (try simp only[hl6_1]);(try simp only[hl6_2]);(try simp only[hl7_2]);(with_reducible repeat (first|refine kn' ?_ _|refine kd' ?_|refine ka' ?_ _));exact BK186.out⟩,⟨by repeat (first|(with_reducible first|exact HB.out|apply ba'|apply bd'|apply be'|refine bs' ?_ GE186.out)|exact HB.out)⟩⟩
               case round =>
                clear H';try clear c1
                try clear c2
                try clear p2
                try clear q2
                try clear hx2
                try clear hf2
                try clear c3
                try clear p3
                try clear q3
                try clear hx3
                try clear hf3
                try clear c5
                try clear c5b0
                try clear c5b1
                try clear c6
                try clear c6b0
                try clear c6b1
                try clear p6
                try clear c7
                try clear c8
                try clear c9
                try clear c9b0
                try clear c9b1
                try clear c10
                try clear c10b0
                try clear c10b1
                try clear p20
                try clear q20
                try clear hx20
                try clear c21
                try clear c21b0
                try clear c22
                try clear c22b0
                try clear c23
                try clear c23b0
                try clear p24
                try clear q24
                try clear hx24
                try clear hf24
                try clear c27
                try clear c27b0
                try clear c28
                try clear c28b0
                try clear p29
                try clear q29
                try clear hx29
                try clear hf29
                try clear c30
                try clear c30b0
                try clear p31
                try clear q31
                try clear hx31
                try clear hf31
                try clear c38
                try clear c38b0
                try clear c39
                try clear c39b0
                try clear hcz42_0
                try clear hcz42_1
                try clear hfz42_0
                try clear hfz42_1
                try clear hx201_0
                try clear hx24_0
                try clear hx29_0
                try clear hx31_0
                try clear p2
                try clear p201
                try clear p24
                try clear p29
                try clear p3
                try clear p31
                try clear p6
                try clear q2
                try clear q201
                try clear q24
                try clear q29
                try clear q3
                try clear q31
                obtain ⟨x6_3,x7_3,x9_3,x54_3,rfl,HA,HK3,HO_6,HO_7,HO_9,HO_52,BK186,HB⟩:=hrel;have hl6_3:=(Kd.R_reads' HO_6.out).1;rw[hl6_3] at HO_6
                (try simp only[hl6_3])
                (try simp only[hl6_3] at BK186)
                (try simp only[hl6_3] at HO_7)
                (try simp only[hl6_3] at HO_9)
                (try simp only[hl6_3] at HO_52)
                have hl7_3:=(Kd.R_reads' HO_7.out).1;rw[hl7_3] at HO_7
                (try simp only[hl7_3])
                (try simp only[hl7_3] at BK186)
                (try simp only[hl7_3] at HO_6)
                (try simp only[hl7_3] at HO_9)
                (try simp only[hl7_3] at HO_52)
                cases gk with
                | zero=>exact absurd HA.out (by simp[spec_cuFar.l2])
                | succ k3 =>
                 have H:=HA.out;clear HA;simp only[spec_cuFar.l2] at H;by_cases c45:x54_3 < (t202.length:Int)
                 ·
                  rw[if_pos c45] at H;have c45b0:decide (x54_3 < (t202.length:Int))=true:=decide_eq_true c45;clear c45;by_cases c46:0≤x54_3
                  ·
                   rw[if_pos c46] at H;have c46b0:decide (0≤x54_3)=true:=decide_eq_true c46;clear c46;by_cases c47:x54_3 < (t202.length:Int)
                   ·
                    rw[if_pos c47] at H;have c47b0:decide (x54_3 < (t202.length:Int))=true:=decide_eq_true c47;clear c47;obtain ⟨ji48,hji48⟩:∃ j_:Int,(Go.bits .xor .i64 (rd x9_2 x10_2) (wrap64 ((wrap64 (2 * (rd t202 x54_3)))+1)))=j_:=⟨_,rfl⟩
                    replace H:(if 0≤(ji48) then (if (ji48) < (x6_3.length:Int) then (if (rd x6_3 (ji48)) < 0 then (if 0≤(rd x9_2 x10_2) then (if (rd x9_2 x10_2) < (x6_3.length:Int) then ((some (x6_3.set ((ji48):Int).toNat (wrap64 ((rd x6_3 (rd x9_2 x10_2))+1)):List Int)).bind fun y208=>(if x9_3.length < 17592186044416 then ((some (x9_3 ++ [ji48]:List Int)).bind fun y209=>(if (rd y208 (ji48))=(wrap64 ((rd y208 (rd x9_2 x10_2))+1)) then (if (ji48) < (x7_3.length:Int) then (if (rd x9_2 x10_2) < (x7_3.length:Int) then (spec_cuFar.l2 k3 y208 (x7_3.set ((ji48):Int).toNat (wrap64 ((rd x7_3 (ji48))+(rd x7_3 (rd x9_2 x10_2))))) y209 x10_2 (rd x9_2 x10_2) t202 (t202.length:Int) (wrap64 (x54_3+1)) a0_0 a0_1) else (none)) else (none)) else (spec_cuFar.l2 k3 y208 x7_3 y209 x10_2 (rd x9_2 x10_2) t202 (t202.length:Int) (wrap64 (x54_3+1)) a0_0 a0_1))) else (none))) else (none)) else (none)) else (if 0≤(rd x9_2 x10_2) then (if (rd x9_2 x10_2) < (x6_3.length:Int) then (if (rd x6_3 (ji48))=(wrap64 ((rd x6_3 (rd x9_2 x10_2))+1)) then (if (ji48) < (x7_3.length:Int) then (if (rd x9_2 x10_2) < (x7_3.length:Int) then (spec_cuFar.l2 k3 x6_3 (x7_3.set ((ji48):Int).toNat (wrap64 ((rd x7_3 (ji48))+(rd x7_3 (rd x9_2 x10_2))))) x9_3 x10_2 (rd x9_2 x10_2) t202 (t202.length:Int) (wrap64 (x54_3+1)) a0_0 a0_1) else (none)) else (none)) else (spec_cuFar.l2 k3 x6_3 x7_3 x9_3 x10_2 (rd x9_2 x10_2) t202 (t202.length:Int) (wrap64 (x54_3+1)) a0_0 a0_1)) else (none)) else (none))) else (none)) else (none))=some (r1,r2):=by first|(rw[hji48] at H;exact H)|(simp only[hji48] at H ⊢;exact H)
                    by_cases c49:0≤(ji48)
                    ·
                     rw[if_pos c49] at H;have c49b0:decide (0≤(ji48))=true:=decide_eq_true c49;clear c49;by_cases c50:(ji48) < (x6_3.length:Int)
                     ·
                      rw[if_pos c50] at H;have c50b0:decide ((ji48) < (x6_3.length:Int))=true:=decide_eq_true c50;clear c50;by_cases c51:(rd x6_3 (ji48)) < 0
                      ·
                       rw[if_pos c51] at H;have c51b0:decide ((rd x6_3 (ji48)) < 0)=true:=decide_eq_true c51;clear c51;by_cases c52:0≤(rd x9_2 x10_2)
                       ·
                        rw[if_pos c52] at H;have c52b0:decide (0≤(rd x9_2 x10_2))=true:=decide_eq_true c52;clear c52;by_cases c53:(rd x9_2 x10_2) < (x6_3.length:Int)
                        ·
                         rw[if_pos c53] at H;have c53b0:decide ((rd x9_2 x10_2) < (x6_3.length:Int))=true:=decide_eq_true c53;clear c53;obtain ⟨y208,hy208⟩:∃ y_:List Int,y_=(x6_3.set ((ji48):Int).toNat (wrap64 ((rd x6_3 (rd x9_2 x10_2))+1))):=⟨_,rfl⟩
                         replace H:(if x9_3.length < 17592186044416 then ((some (x9_3 ++ [ji48]:List Int)).bind fun y209=>(if (rd y208 (ji48))=(wrap64 ((rd y208 (rd x9_2 x10_2))+1)) then (if (ji48) < (x7_3.length:Int) then (if (rd x9_2 x10_2) < (x7_3.length:Int) then (spec_cuFar.l2 k3 y208 (x7_3.set ((ji48):Int).toNat (wrap64 ((rd x7_3 (ji48))+(rd x7_3 (rd x9_2 x10_2))))) y209 x10_2 (rd x9_2 x10_2) t202 (t202.length:Int) (wrap64 (x54_3+1)) a0_0 a0_1) else (none)) else (none)) else (spec_cuFar.l2 k3 y208 x7_3 y209 x10_2 (rd x9_2 x10_2) t202 (t202.length:Int) (wrap64 (x54_3+1)) a0_0 a0_1))) else (none))=some (r1,r2):=by first|(rw[hy208];with_reducible exact H)|(have H2_:=(Option.bind_some _ _).symm.trans H;rw[hy208];with_reducible exact H2_)|(have H2_:=(Option.bind_some _ _).symm.trans H;with_reducible exact H2_)|with_reducible exact H|(rw[hy208];exact H)|exact H
                         have Ny208:=am' hy208;clear hy208;by_cases c55:x9_3.length < 17592186044416
                         ·
                          rw[if_pos c55] at H;have LMc55:=am' c55;clear c55;obtain ⟨y209,hy209⟩:∃ y_:List Int,y_=(x9_3 ++ [ji48]):=⟨_,rfl⟩
                          replace H:(if (rd y208 (ji48))=(wrap64 ((rd y208 (rd x9_2 x10_2))+1)) then (if (ji48) < (x7_3.length:Int) then (if (rd x9_2 x10_2) < (x7_3.length:Int) then (spec_cuFar.l2 k3 y208 (x7_3.set ((ji48):Int).toNat (wrap64 ((rd x7_3 (ji48))+(rd x7_3 (rd x9_2 x10_2))))) y209 x10_2 (rd x9_2 x10_2) t202 (t202.length:Int) (wrap64 (x54_3+1)) a0_0 a0_1) else (none)) else (none)) else (spec_cuFar.l2 k3 y208 x7_3 y209 x10_2 (rd x9_2 x10_2) t202 (t202.length:Int) (wrap64 (x54_3+1)) a0_0 a0_1))=some (r1,r2):=by first|(rw[hy209];with_reducible exact H)|(have H2_:=(Option.bind_some _ _).symm.trans H;rw[hy209];with_reducible exact H2_)|(have H2_:=(Option.bind_some _ _).symm.trans H;with_reducible exact H2_)|with_reducible exact H|(rw[hy209];exact H)|exact H
                          have Ny209:=am' hy209;clear hy209;by_cases c56:(rd y208 (ji48))=(wrap64 ((rd y208 (rd x9_2 x10_2))+1))
                          ·
                           rw[if_pos c56] at H;have c56b0:((rd y208 (ji48)) == (wrap64 ((rd y208 (rd x9_2 x10_2))+1)))=true:=beq_iff_eq.mpr c56;have c56b1:((rd y208 (ji48)) != (wrap64 ((rd y208 (rd x9_2 x10_2))+1)))=false:=bne_eq_false_iff_eq.mpr c56;clear c56;by_cases c57:(ji48) < (x7_3.length:Int)
                           ·
                            rw[if_pos c57] at H;have c57b0:decide ((ji48) < (x7_3.length:Int))=true:=decide_eq_true c57;clear c57;by_cases c58:(rd x9_2 x10_2) < (x7_3.length:Int)
                            ·
                             rw[if_pos c58] at H;have c58b0:decide ((rd x9_2 x10_2) < (x7_3.length:Int))=true:=decide_eq_true c58;clear c58;obtain ⟨y216,hy216⟩:∃ y_:List Int,y_=(x7_3.set ((ji48):Int).toNat (wrap64 ((rd x7_3 (ji48))+(rd x7_3 (rd x9_2 x10_2))))):=⟨_,rfl⟩
                             replace H:(spec_cuFar.l2 k3 y208 y216 y209 x10_2 (rd x9_2 x10_2) t202 (t202.length:Int) (wrap64 (x54_3+1)) a0_0 a0_1)=some (r1,r2):=by first|(rw[hy216];with_reducible exact H)|(have H2_:=(Option.bind_some _ _).symm.trans H;rw[hy216];with_reducible exact H2_)|(have H2_:=(Option.bind_some _ _).symm.trans H;with_reducible exact H2_)|with_reducible exact H|(rw[hy216];exact H)|exact H
                             have Ny216:=am' hy216;clear hy216;have H':=am' H;clear H;have p205:0≤(x54_3:Int):=of_decide_eq_true (by first|(with_reducible assumption)|assumption);have q205:x54_3 < (t202.length:Int):=of_decide_eq_true (by first|(with_reducible assumption)|assumption);obtain ⟨ad205,e205,hx205_0⟩:=Kd.at_int (Kd.R_reads' HO_52.out).2.2 x54_3 p205 q205;cases e205;replace p205:=eq_true p205;replace q205:=eq_true q205;have p206:0≤((ji48):Int):=of_decide_eq_true (by first|(with_reducible assumption)|assumption);have q206:(ji48) < (x6_3.length:Int):=of_decide_eq_true (by first|(with_reducible assumption)|assumption);obtain ⟨ad206,e206,hx206_0⟩:=Kd.at_int (Kd.R_reads' HO_6.out).2.2 (ji48) p206 q206;obtain rfl:(⟨go29,0,none⟩:Addr)=ad206:=(by injection e206)
                             (first|simp only[add_plain] at hx206_0|simp only[add_at] at hx206_0|simp only[Addr.add,Nat.zero_add] at hx206_0|skip)
                             replace p206:=eq_true p206;replace q206:=eq_true q206;have p207:0≤((rd x9_2 x10_2):Int):=of_decide_eq_true (by first|(with_reducible assumption)|assumption);have q207:(rd x9_2 x10_2) < (x6_3.length:Int):=of_decide_eq_true (by first|(with_reducible assumption)|assumption);obtain ⟨ad207,e207,hx207_0⟩:=Kd.at_int (Kd.R_reads' HO_6.out).2.2 (rd x9_2 x10_2) p207 q207;obtain rfl:(⟨go29,0,none⟩:Addr)=ad207:=(by injection e207)
                             (first|simp only[add_plain] at hx207_0|simp only[add_at] at hx207_0|simp only[Addr.add,Nat.zero_add] at hx207_0|skip)
                             replace p207:=eq_true p207;replace q207:=eq_true q207;have p54:0≤((ji48):Int):=of_decide_eq_true (by first|(with_reducible assumption)|assumption);have q54:((ji48):Int) < ((x6_3.length:Int):Int):=of_decide_eq_true (by first|(with_reducible assumption)|assumption);obtain ⟨hx54_0,hf54_0⟩:=Kd.R_celln 0 HO_6.out ((ji48):Int) p54 q54;replace p54:=eq_true p54;replace q54:=eq_true q54;have HP60:=Kd.R_putg HO_6.out ((ji48):Int) (wrap64 ((rd x6_3 (rd x9_2 x10_2))+1))
                             try go_wp2_with (first|((with_reducible refine gate_store (t:=3) (p:=75) rfl ?_);refine store_event (t:=3) (p:=75) (v:=?vo_w61) (w1:=(wr.setCell ⟨go29,((ji48):Int).toNat,none⟩ (.int .i64 (wrap64 ((rd x6_3 (rd x9_2 x10_2))+1))))) ?hg ?ho ?hn ?hr ?_;(case ho=>rfl);(case hg=>rfl);(case hn=>rfl);(case hr=>first|(go_simp;done)|(go_simp;rfl));intro w61 hw;have hg:wr.grownBy w61 (some go29):=(by rw[hw];exact HP60.2);have hp_:Kd.R (Kd.int .i64) 3 w61 w.heap.size (fun k_=>some k_≠(.slice (some ⟨go31,0,none⟩) x7_3.length co31:Value).ownBlock∧some k_≠(u9:Value).ownBlock∧some k_≠(.slice (some ad205) t202.length co44:Value).ownBlock) (.slice (some ⟨go29,0,none⟩) x6_3.length co20) y208:=(by rw[hw,Ny208.out];exact HP60.1);clear HP60;have n0_:=am' (hp_);have n1_:=am' (Kd.R_after (v:=(.slice (some ⟨go29,0,none⟩) x6_3.length co20)) (v1:=(.slice (some ⟨go29,0,none⟩) x6_3.length co20)) (ok:=(fun k_=>some k_≠(u9:Value).ownBlock∧some k_≠(.slice (some ad205) t202.length co44:Value).ownBlock)) (by (with_reducible repeat (first|apply ra'|apply rn'|apply rw'));exact Kd.R_mono HO_7.out (fun _ hk=>⟨⟨hk.2.1,hk.2.2⟩,hk.1⟩)) hg (.inl rfl));have n2_:=am' (Kd.R_after (v:=(.slice (some ⟨go29,0,none⟩) x6_3.length co20)) (v1:=(.slice (some ⟨go29,0,none⟩) x6_3.length co20)) (ok:=(fun k_=>some k_≠(.slice (some ⟨go31,0,none⟩) x7_3.length co31:Value).ownBlock∧some k_≠(.slice (some ad205) t202.length co44:Value).ownBlock)) (by (with_reducible repeat (first|apply ra'|apply rn'|apply rw'));exact Kd.R_mono HO_9.out (fun _ hk=>⟨⟨hk.2.1,hk.2.2⟩,hk.1⟩)) hg (.inl rfl));have n3_:=am' (Kd.R_after (v:=(.slice (some ⟨go29,0,none⟩) x6_3.length co20)) (v1:=(.slice (some ⟨go29,0,none⟩) x6_3.length co20)) (ok:=(fun k_=>some k_≠(.slice (some ⟨go31,0,none⟩) x7_3.length co31:Value).ownBlock∧some k_≠(u9:Value).ownBlock)) (by (with_reducible repeat (first|apply ra'|apply rn'|apply rw'));exact Kd.R_mono HO_52.out (fun _ hk=>⟨⟨hk.2.1,hk.2.2⟩,hk.1⟩)) hg (.inl rfl));have n4_:=am' (blk_grown (g:=gb186) (o := .cells #[.int .i64 a0_0, .int .i64 a0_1] 40 (0,0)) (by (with_reducible repeat (first|refine kn' ?_ _|refine kd' ?_|refine ka' ?_ _));exact BK186.out) hg (Kd.R_ne HO_6.out BK186.out (by decide)));have n5_:=am' ((by rw[hw];exact bs' (HB.out) GB29.out:Below w.heap.size w w61));clear HO_6;clear HO_7;clear HO_9;clear HO_52;clear BK186;clear HB;have HO_6:=n0_;have HO_7:=n1_;have HO_9:=n2_;have HO_52:=n3_;have BK186:=n4_;have HB:=n5_;clear n0_ n1_ n2_ n3_ n4_ n5_;clear hg hw hp_)|((with_reducible refine gate_builtin (b := .append) (xs:=#[.tmp 76, .tmp 78]) rfl ?_);at_builtin;refine Kd.R_append (Kd.int .i64) (w0:=w) w.heap.size rfl (.tmp 76) (.tmp 78) 32 3 (.int .i64 0) 8 rfl Try.underlying32 info3 rfl (by decide) (by omega) u9 x9_3 ji48 [.int .i64 ji48] (fun k_=>some k_≠(.slice (some ⟨go29,0,none⟩) x6_3.length co20:Value).ownBlock∧some k_≠(.slice (some ⟨go31,0,none⟩) x7_3.length co31:Value).ownBlock∧some k_≠(.slice (some ad205) t202.length co44:Value).ownBlock) (fun _=>False) rfl rfl ?aP (fun _ hk=>hk.elim) ?aF ?aO ?aB ?aS ?aL ?_;(case aP=>exact rfl);(case aB=>exact (by repeat (first|(with_reducible first|exact HB.out|apply ba'|apply bd'|apply be'|refine bs' ?_ GE186.out)|exact HB.out)));(case aF=>exact (fun k_ hk=>⟨Kd.fresh' (Kd.R_lt (by (with_reducible repeat (first|apply ra'|apply rn'|apply rw'));exact HO_6.out)) k_ hk,Kd.fresh' (Kd.R_lt (by (with_reducible repeat (first|apply ra'|apply rn'|apply rw'));exact HO_7.out)) k_ hk,Kd.fresh' (Kd.R_lt (by (with_reducible repeat (first|apply ra'|apply rn'|apply rw'));exact HO_52.out)) k_ hk⟩));(case aO=>exact (by (with_reducible repeat (first|apply ra'|apply rn'|apply rw'));exact Kd.R_mono HO_9.out (fun _ hk=>⟨hk.2,⟨hk.1.1,hk.1.2⟩⟩)));(case aS=>exact (below_size (by repeat (first|(with_reducible first|exact HB.out|apply ba'|apply bd'|apply be'|refine bs' ?_ GE186.out)|exact HB.out))));(case aL=>have:=LMc55.out;omega);intro v210 w62 ho hb hg hat;rw[← Ny209.out] at ho;have n0_:=am' (Kd.R_after (ok:=(fun k_=>some k_≠(.slice (some ⟨go31,0,none⟩) x7_3.length co31:Value).ownBlock∧some k_≠(.slice (some ad205) t202.length co44:Value).ownBlock)) (by (with_reducible repeat (first|apply ra'|apply rn'|apply rw'));exact Kd.R_mono HO_6.out (fun _ hk=>⟨⟨hk.1,hk.2.2⟩,hk.2.1⟩)) hg hat);have n1_:=am' (Kd.R_after (ok:=(fun k_=>some k_≠(.slice (some ⟨go29,0,none⟩) x6_3.length co20:Value).ownBlock∧some k_≠(.slice (some ad205) t202.length co44:Value).ownBlock)) (by (with_reducible repeat (first|apply ra'|apply rn'|apply rw'));exact Kd.R_mono HO_7.out (fun _ hk=>⟨⟨hk.2,hk.1.2⟩,hk.1.1⟩)) hg hat);have n2_:=am' (Kd.R_after (ok:=(fun k_=>some k_≠(.slice (some ⟨go29,0,none⟩) x6_3.length co20:Value).ownBlock∧some k_≠(.slice (some ⟨go31,0,none⟩) x7_3.length co31:Value).ownBlock)) (by (with_reducible repeat (first|apply ra'|apply rn'|apply rw'));exact Kd.R_mono HO_52.out (fun _ hk=>⟨⟨hk.2,hk.1.1⟩,hk.1.2⟩)) hg hat);have n3_:=am' (blk_grown (g:=gb186) (o := .cells #[.int .i64 a0_0, .int .i64 a0_1] 40 (0,0)) (by (with_reducible repeat (first|refine kn' ?_ _|refine kd' ?_|refine ka' ?_ _));exact BK186.out) hg (Kd.R_ne HO_9.out BK186.out (by decide)));have n4_:=am' (hb);have n5_:=am' (ho);clear HO_6;clear HO_7;clear HO_52;clear BK186;clear HB;clear HO_9;have HO_6:=n0_;have HO_7:=n1_;have HO_52:=n2_;have BK186:=n3_;have HB:=n4_;have HO211:=n5_;clear n0_ n1_ n2_ n3_ n4_ n5_;clear ho hb hg hat))
                             have n0_:=am' (rw' HO_6.out);have n1_:=am' (rw' HO_7.out);have n2_:=am' (rw' HO_52.out);have n3_:=am' (rw' HO211.out);have n4_:=am' (kd' BK186.out);have n5_:=am' (be' HB.out);clear HO_6;clear HO_7;clear HO_52;clear HO211;clear BK186;clear HB;have HO_6:=n0_;have HO_7:=n1_;have HO_52:=n2_;have HO211:=n3_;have BK186:=n4_;have HB:=n5_;clear n0_ n1_ n2_ n3_ n4_ n5_;have p212:0≤((ji48):Int):=of_decide_eq_true (by first|(with_reducible assumption)|assumption);have q212:(ji48) < (y208.length:Int):=(by have h_:((ji48):Int) < ((x6_3.length:Int):Int):=of_decide_eq_true (by first|(with_reducible assumption)|assumption);first|(have e_:=(Kd.R_reads' HO_6.out).1;omega)|simpa only [Ny208.out,List.length_set] using h_)
                             have ql212:(((ji48):Int) < ((x6_3.length:Int):Int))=True:=eq_true (of_decide_eq_true (by first|(with_reducible assumption)|assumption));obtain ⟨ad212,e212,hx212_0⟩:=Kd.at_int (Kd.R_reads' HO_6.out).2.2 (ji48) p212 q212;obtain rfl:(⟨go29,0,none⟩:Addr)=ad212:=(by injection e212)
                             (first|simp only[add_plain] at hx212_0|simp only[add_at] at hx212_0|simp only[Addr.add,Nat.zero_add] at hx212_0|skip)
                             replace p212:=eq_true p212;replace q212:=eq_true q212;have p213:0≤((rd x9_2 x10_2):Int):=of_decide_eq_true (by first|(with_reducible assumption)|assumption);have q213:(rd x9_2 x10_2) < (y208.length:Int):=(by have h_:((rd x9_2 x10_2):Int) < ((x6_3.length:Int):Int):=of_decide_eq_true (by first|(with_reducible assumption)|assumption);first|(have e_:=(Kd.R_reads' HO_6.out).1;omega)|simpa only [Ny208.out,List.length_set] using h_)
                             have ql213:(((rd x9_2 x10_2):Int) < ((x6_3.length:Int):Int))=True:=eq_true (of_decide_eq_true (by first|(with_reducible assumption)|assumption));obtain ⟨ad213,e213,hx213_0⟩:=Kd.at_int (Kd.R_reads' HO_6.out).2.2 (rd x9_2 x10_2) p213 q213;obtain rfl:(⟨go29,0,none⟩:Addr)=ad213:=(by injection e213)
                             (first|simp only[add_plain] at hx213_0|simp only[add_at] at hx213_0|simp only[Addr.add,Nat.zero_add] at hx213_0|skip)
                             replace p213:=eq_true p213;replace q213:=eq_true q213;refine start_ (n:=10) (S:=fun w'=>w'.cell? ⟨go29,((ji48)).toNat,none⟩=some (.int .i64 (rd y208 (ji48)))∧w'.cell? ⟨go29,((rd x9_2 x10_2)).toNat,none⟩=some (.int .i64 (rd y208 (rd x9_2 x10_2)))) (ds:=[]) #[false,false,false,false,false,false,false,false,false,false] (by kernel_rfl) rfl rfl ⟨hx212_0,hx213_0⟩ (fun hHeld=>?_);refine with_tabW spec_cuFar.tab21 spec_cuFar.bits21 (fun HT_ HW_=>?_);generalize w62.drew=w63 at HO_6 HO_7 HO_52 HO211 BK186 HB hx212_0 hx213_0 hHeld ⊢
                             refine pure_ (i:=0) (N:=some 80) (v:=?_) (a':=?_) #[true,false,false,false,false,false,false,false,false,false] rfl rfl (any_of HT_.out (by kernel_rfl)) (fun _ _ _ h=>h) (Or.inl ⟨by rfl,?_⟩) ?_ ?_
                             rotate_left
                             ·
                              intro w';go_simp;with_reducible rfl
                             rotate_left
                             ·
                              simp only[Act.put,sa',sb',sc',i64_w,i32_w];rfl
                             refine pure_ (i:=1) (N:=some 81) (v:=?_) (a':=?_) #[true,true,false,false,false,false,false,false,false,false] rfl rfl (any_of HT_.out (by kernel_rfl)) (fun _ _ _ h=>h) (Or.inl ⟨by rfl,?_⟩) ?_ ?_
                             rotate_left
                             ·
                              intro w';go_simp;with_reducible rfl
                             rotate_left
                             ·
                              simp only[Act.put,sa',sb',sc',i64_w,i32_w];rfl
                             refine pure_ (i:=2) (N:=some 82) (v:=?_) (a':=?_) #[true,true,true,false,false,false,false,false,false,false] rfl rfl (any_of HT_.out (by kernel_rfl)) (fun _ _ _ h=>h) (Or.inl ⟨by rfl,?_⟩) ?_ ?_
                             rotate_left
                             ·
                              intro w';go_simp;with_reducible rfl
                             rotate_left
                             ·
                              simp only[Act.put,sa',sb',sc',i64_w,i32_w];rfl
                             refine pure_ (i:=4) (N:=some 84) (v:=?_) (a':=?_) #[true,true,true,false,true,false,false,false,false,false] rfl rfl (any_of HT_.out (by kernel_rfl)) (fun _ _ _ h=>h) (Or.inl ⟨by rfl,?_⟩) ?_ ?_
                             rotate_left
                             ·
                              intro w';go_simp;with_reducible rfl
                             rotate_left
                             ·
                              simp only[Act.put,sa',sb',sc',i64_w,i32_w];rfl
                             refine pure_ (i:=5) (N:=some 85) (v:=?_) (a':=?_) #[true,true,true,false,true,true,false,false,false,false] rfl rfl (any_of HT_.out (by kernel_rfl)) (fun _ _ _ h=>h) (Or.inl ⟨by rfl,?_⟩) ?_ ?_
                             rotate_left
                             ·
                              intro w';go_simp;with_reducible rfl
                             rotate_left
                             ·
                              simp only[Act.put,sa',sb',sc',i64_w,i32_w];rfl
                             refine pure_ (i:=6) (N:=some 86) (v:=?_) (a':=?_) #[true,true,true,false,true,true,true,false,false,false] rfl rfl (any_of HT_.out (by kernel_rfl)) (fun _ _ _ h=>h) (Or.inl ⟨by rfl,?_⟩) ?_ ?_
                             rotate_left
                             ·
                              intro w';go_simp;with_reducible rfl
                             rotate_left
                             ·
                              simp only[Act.put,sa',sb',sc',i64_w,i32_w];rfl
                             refine take_ (i:=3) (N:=some 83) (v:=?_) (a':=?_) #[true,true,true,true,true,true,true,false,false,false] rfl rfl (take_ofW HT_.out HW_.out (by kernel_rfl)) (fun _ _ _ h=>h) (Or.inl ⟨by rfl,?_⟩) hHeld ?_ ?_
                             rotate_left
                             ·
                              rintro w' ⟨s0,s1⟩
                              go_simp;with_reducible rfl
                             rotate_left
                             ·
                              simp only[Act.put,sa',sb',sc',i64_w,i32_w];rfl
                             refine take_ (i:=7) (N:=some 87) (v:=?_) (a':=?_) #[true,true,true,true,true,true,true,true,false,false] rfl rfl (take_ofW HT_.out HW_.out (by kernel_rfl)) (fun _ _ _ h=>h) (Or.inl ⟨by rfl,?_⟩) hHeld ?_ ?_
                             rotate_left
                             ·
                              rintro w' ⟨s0,s1⟩
                              go_simp;with_reducible rfl
                             rotate_left
                             ·
                              simp only[Act.put,sa',sb',sc',i64_w,i32_w];rfl
                             refine pure_ (i:=8) (N:=some 88) (v:=?_) (a':=?_) #[true,true,true,true,true,true,true,true,true,false] rfl rfl (any_of HT_.out (by kernel_rfl)) (fun _ _ _ h=>h) (Or.inl ⟨by rfl,?_⟩) ?_ ?_
                             rotate_left
                             ·
                              intro w';go_simp;with_reducible rfl
                             rotate_left
                             ·
                              simp only[Act.put,sa',sb',sc',i64_w,i32_w];rfl
                             refine pure_ (i:=9) (N:=some 89) (v:=?_) (a':=?_) #[true,true,true,true,true,true,true,true,true,true] rfl rfl (any_of HT_.out (by kernel_rfl)) (fun _ _ _ h=>h) (Or.inl ⟨by rfl,?_⟩) ?_ ?_
                             rotate_left
                             ·
                              intro w';go_simp;with_reducible rfl
                             rotate_left
                             ·
                              simp only[Act.put,sa',sb',sc',i64_w,i32_w];rfl
                             refine done_ (done_of HT_.out (by kernel_rfl)) ?_
                             try go_wp2
                             have n0_:=am' (rw' HO_6.out);have n1_:=am' (rw' HO_7.out);have n2_:=am' (rw' HO_52.out);have n3_:=am' (rw' HO211.out);have n4_:=am' (kd' BK186.out);have n5_:=am' (be' HB.out);clear HO_6;clear HO_7;clear HO_52;clear HO211;clear BK186;clear HB;have HO_6:=n0_;have HO_7:=n1_;have HO_52:=n2_;have HO211:=n3_;have BK186:=n4_;have HB:=n5_;clear n0_ n1_ n2_ n3_ n4_ n5_;have p214:0≤((ji48):Int):=of_decide_eq_true (by first|(with_reducible assumption)|assumption);have q214:(ji48) < (x7_3.length:Int):=of_decide_eq_true (by first|(with_reducible assumption)|assumption);obtain ⟨ad214,e214,hx214_0⟩:=Kd.at_int (Kd.R_reads' HO_7.out).2.2 (ji48) p214 q214;obtain rfl:(⟨go31,0,none⟩:Addr)=ad214:=(by injection e214)
                             (first|simp only[add_plain] at hx214_0|simp only[add_at] at hx214_0|simp only[Addr.add,Nat.zero_add] at hx214_0|skip)
                             replace p214:=eq_true p214;replace q214:=eq_true q214;have p215:0≤((rd x9_2 x10_2):Int):=of_decide_eq_true (by first|(with_reducible assumption)|assumption);have q215:(rd x9_2 x10_2) < (x7_3.length:Int):=of_decide_eq_true (by first|(with_reducible assumption)|assumption);obtain ⟨ad215,e215,hx215_0⟩:=Kd.at_int (Kd.R_reads' HO_7.out).2.2 (rd x9_2 x10_2) p215 q215;obtain rfl:(⟨go31,0,none⟩:Addr)=ad215:=(by injection e215)
                             (first|simp only[add_plain] at hx215_0|simp only[add_at] at hx215_0|simp only[Addr.add,Nat.zero_add] at hx215_0|skip)
                             replace p215:=eq_true p215;replace q215:=eq_true q215;have p59:0≤((ji48):Int):=of_decide_eq_true (by first|(with_reducible assumption)|assumption);have q59:((ji48):Int) < ((x7_3.length:Int):Int):=of_decide_eq_true (by first|(with_reducible assumption)|assumption);obtain ⟨hx59_0,hf59_0⟩:=Kd.R_celln 0 HO_7.out ((ji48):Int) p59 q59;replace p59:=eq_true p59;replace q59:=eq_true q59;have HP65:=Kd.R_putn HO_7.out ((ji48):Int) (wrap64 ((rd x7_3 (ji48))+(rd x7_3 (rd x9_2 x10_2))));rw[← Ny216.out] at HP65;have HQ65:=am' HP65;clear HP65;refine start_ (n:=11) (S:=fun w'=>w'.cell? ⟨go31,((ji48)).toNat,none⟩=some (.int .i64 (rd x7_3 (ji48)))∧w'.cell? ⟨go31,((rd x9_2 x10_2)).toNat,none⟩=some (.int .i64 (rd x7_3 (rd x9_2 x10_2)))) (ds:=[10]) #[false,false,false,false,false,false,false,false,false,false,false] (by kernel_rfl) rfl rfl ⟨hx214_0,hx215_0⟩ (fun hHeld=>?_);refine with_tabW spec_cuFar.tab22 spec_cuFar.bits22 (fun HT_ HW_=>?_);generalize w63.drew=w64 at HO_6 HO_7 HO_52 HO211 BK186 HB HQ65 hf59_0 hx214_0 hx215_0 hx59_0 hHeld ⊢
                             refine pure_ (i:=0) (N:=some 90) (v:=?_) (a':=?_) #[true,false,false,false,false,false,false,false,false,false,false] rfl rfl (any_of HT_.out (by kernel_rfl)) (fun _ _ _ h=>h) (Or.inl ⟨by rfl,?_⟩) ?_ ?_
                             rotate_left
                             ·
                              intro w';go_simp;with_reducible rfl
                             rotate_left
                             ·
                              simp only[Act.put,sa',sb',sc',i64_w,i32_w];rfl
                             refine pure_ (i:=1) (N:=some 91) (v:=?_) (a':=?_) #[true,true,false,false,false,false,false,false,false,false,false] rfl rfl (any_of HT_.out (by kernel_rfl)) (fun _ _ _ h=>h) (Or.inl ⟨by rfl,?_⟩) ?_ ?_
                             rotate_left
                             ·
                              intro w';go_simp;with_reducible rfl
                             rotate_left
                             ·
                              simp only[Act.put,sa',sb',sc',i64_w,i32_w];rfl
                             refine pure_ (i:=2) (N:=some 92) (v:=?_) (a':=?_) #[true,true,true,false,false,false,false,false,false,false,false] rfl rfl (any_of HT_.out (by kernel_rfl)) (fun _ _ _ h=>h) (Or.inl ⟨by rfl,?_⟩) ?_ ?_
                             rotate_left
                             ·
                              intro w';go_simp;with_reducible rfl
                             rotate_left
                             ·
                              simp only[Act.put,sa',sb',sc',i64_w,i32_w];rfl
                             refine pure_ (i:=4) (N:=some 94) (v:=?_) (a':=?_) #[true,true,true,false,true,false,false,false,false,false,false] rfl rfl (any_of HT_.out (by kernel_rfl)) (fun _ _ _ h=>h) (Or.inl ⟨by rfl,?_⟩) ?_ ?_
                             rotate_left
                             ·
                              intro w';go_simp;with_reducible rfl
                             rotate_left
                             ·
                              simp only[Act.put,sa',sb',sc',i64_w,i32_w];rfl
                             refine pure_ (i:=5) (N:=some 95) (v:=?_) (a':=?_) #[true,true,true,false,true,true,false,false,false,false,false] rfl rfl (any_of HT_.out (by kernel_rfl)) (fun _ _ _ h=>h) (Or.inl ⟨by rfl,?_⟩) ?_ ?_
                             rotate_left
                             ·
                              intro w';go_simp;with_reducible rfl
                             rotate_left
                             ·
                              simp only[Act.put,sa',sb',sc',i64_w,i32_w];rfl
                             refine pure_ (i:=6) (N:=some 96) (v:=?_) (a':=?_) #[true,true,true,false,true,true,true,false,false,false,false] rfl rfl (any_of HT_.out (by kernel_rfl)) (fun _ _ _ h=>h) (Or.inl ⟨by rfl,?_⟩) ?_ ?_
                             rotate_left
                             ·
                              intro w';go_simp;with_reducible rfl
                             rotate_left
                             ·
                              simp only[Act.put,sa',sb',sc',i64_w,i32_w];rfl
                             refine take_ (i:=3) (N:=some 93) (v:=?_) (a':=?_) #[true,true,true,true,true,true,true,false,false,false,false] rfl rfl (take_ofW HT_.out HW_.out (by kernel_rfl)) (fun _ _ _ h=>h) (Or.inl ⟨by rfl,?_⟩) hHeld ?_ ?_
                             rotate_left
                             ·
                              rintro w' ⟨s0,s1⟩
                              go_simp;with_reducible rfl
                             rotate_left
                             ·
                              simp only[Act.put,sa',sb',sc',i64_w,i32_w];rfl
                             refine take_ (i:=7) (N:=some 97) (v:=?_) (a':=?_) #[true,true,true,true,true,true,true,true,false,false,false] rfl rfl (take_ofW HT_.out HW_.out (by kernel_rfl)) (fun _ _ _ h=>h) (Or.inl ⟨by rfl,?_⟩) hHeld ?_ ?_
                             rotate_left
                             ·
                              rintro w' ⟨s0,s1⟩
                              go_simp;with_reducible rfl
                             rotate_left
                             ·
                              simp only[Act.put,sa',sb',sc',i64_w,i32_w];rfl
                             refine pure_ (i:=8) (N:=some 98) (v:=?_) (a':=?_) #[true,true,true,true,true,true,true,true,true,false,false] rfl rfl (any_of HT_.out (by kernel_rfl)) (fun _ _ _ h=>h) (Or.inl ⟨by rfl,?_⟩) ?_ ?_
                             rotate_left
                             ·
                              intro w';go_simp;with_reducible rfl
                             rotate_left
                             ·
                              simp only[Act.put,sa',sb',sc',i64_w,i32_w];rfl
                             refine pure_ (i:=9) (N:=some 99) (v:=?_) (a':=?_) #[true,true,true,true,true,true,true,true,true,true,false] rfl rfl (any_of HT_.out (by kernel_rfl)) (fun _ _ _ h=>h) (Or.inl ⟨by rfl,?_⟩) ?_ ?_
                             rotate_left
                             ·
                              intro w';go_simp;with_reducible rfl
                             rotate_left
                             ·
                              simp only[Act.put,sa',sb',sc',i64_w,i32_w];rfl
                             refine last_ (i:=10) (N:=none) #[true,true,true,true,true,true,true,true,true,true,true] rfl rfl (one_of HT_.out (by kernel_rfl)) (by decide) (fun K hK=>?_);refine skip_ (w1:=?_) (by rfl) rfl ?_ ?_
                             rotate_left
                             ·
                              go_simp;rfl
                             refine hK.out _ _ ?_
                             clear hK K;refine done_ (done_of HT_.out (by kernel_rfl)) ?_
                             try go_wp2
                             (try simp only[← hl6_3,← hl7_3])
                             go_roundg k3
                             case measure=>have:=HK1.out;have:=HK2.out;have:=HK3.out;omega
                             case rel=>exact ⟨(y208),(y216),(y209),(wrap64 (x54_3+1)),(by first|rfl|(simp;done)|(simp[*];done)),H',⟨by have:=HK1.out;have:=HK2.out;have:=HK3.out;omega⟩,⟨by (try simp only[hl6_1]);(try simp only[hl6_2]);(try simp only[hl7_2]);(try simp only[hl6_3]);(try simp only[hl7_3]);(with_reducible repeat (first|apply ra'|apply rn'|apply rw'));exact Kd.R_mono (Kd.R_far (p:=⟨go31,((ji48):Int).toNat,none⟩) (Kd.R_mono HO_6.out (fun k_ hk=>(⟨hk,fun e_=>hk.1.1 (by rw[e_];rfl)⟩:_∧k_≠go31))) (fun _ hk=>hk.2) (.int .i64 (wrap64 ((rd x7_3 (ji48))+(rd x7_3 (rd x9_2 x10_2)))))) (fun _ hk=>⟨hk.1.1.1,⟨hk.1.2,hk.1.1.2⟩⟩)⟩,⟨by (try simp only[hl6_1]);(try simp only[hl6_2]);(try simp only[hl7_2]);(try simp only[hl6_3]);(try simp only[hl7_3]);(with_reducible repeat (first|apply ra'|apply rn'|apply rw'));exact Kd.R_mono HQ65.out (fun _ hk=>⟨hk.1.1,⟨hk.2,hk.1.2⟩⟩)⟩,⟨by (try simp only[hl6_1]);(try simp only[hl6_2]);(try simp only[hl7_2]);(try simp only[hl6_3]);(try simp only[hl7_3]);(with_reducible repeat (first|apply ra'|apply rn'|apply rw'));exact Kd.R_mono (Kd.R_far (p:=⟨go31,((ji48):Int).toNat,none⟩) (Kd.R_mono HO211.out (fun k_ hk=>(⟨hk,fun e_=>hk.2.1 (by rw[e_];rfl)⟩:_∧k_≠go31))) (fun _ hk=>hk.2) (.int .i64 (wrap64 ((rd x7_3 (ji48))+(rd x7_3 (rd x9_2 x10_2)))))) (fun _ hk=>⟨hk.1.1,⟨hk.1.2.1,hk.1.2.2⟩⟩)⟩,⟨by (try simp only[hl6_1]);(try simp only[hl6_2]);(try simp only[hl7_2]);(try simp only[hl6_3]);(try simp only[hl7_3]);(with_reducible repeat (first|apply ra'|apply rn'|apply rw'));exact Kd.R_mono (Kd.R_far (p:=⟨go31,((ji48):Int).toNat,none⟩) (Kd.R_mono HO_52.out (fun k_ hk=>(⟨hk,fun e_=>hk.1.2 (by rw[e_];rfl)⟩:_∧k_≠go31))) (fun _ hk=>hk.2) (.int .i64 (wrap64 ((rd x7_3 (ji48))+(rd x7_3 (rd x9_2 x10_2)))))) (fun _ hk=>⟨hk.1.1.1,⟨hk.1.1.2,hk.1.2⟩⟩)⟩,⟨by (try simp only[hl6_1]);(try simp only[hl6_2]);(try simp only[hl7_2]);(try simp only[hl6_3]);(try simp only[hl7_3]);(with_reducible repeat (first|refine kn' ?_ _|refine kd' ?_|refine ka' ?_ _));refine blk_far ?_ (by have h_:=Kd.R_ne HO_7.out BK186.out (by decide);intro e_;exact h_ (by rw[e_];rfl)) _;(with_reducible repeat (first|refine kn' ?_ _|refine kd' ?_|refine ka' ?_ _));exact BK186.out⟩,⟨by repeat (first|(with_reducible first|exact HB.out|apply ba'|apply bd'|apply be'|refine bs' ?_ GB31.out|refine bs' ?_ GE186.out)|exact HB.out)⟩⟩
                            ·
                             rw[if_neg c58] at H;exact absurd H (by simp)
                           ·
                            rw[if_neg c57] at H;exact absurd H (by simp)
                          ·
                           rw[if_neg c56] at H;have c56b0:((rd y208 (ji48)) == (wrap64 ((rd y208 (rd x9_2 x10_2))+1)))=false:=beq_eq_false_iff_ne.mpr c56;have c56b1:((rd y208 (ji48)) != (wrap64 ((rd y208 (rd x9_2 x10_2))+1)))=true:=bne_iff_ne.mpr c56;have H':=am' H;clear H;have p205:0≤(x54_3:Int):=of_decide_eq_true (by first|(with_reducible assumption)|assumption);have q205:x54_3 < (t202.length:Int):=of_decide_eq_true (by first|(with_reducible assumption)|assumption);obtain ⟨ad205,e205,hx205_0⟩:=Kd.at_int (Kd.R_reads' HO_52.out).2.2 x54_3 p205 q205;cases e205;replace p205:=eq_true p205;replace q205:=eq_true q205;have p206:0≤((ji48):Int):=of_decide_eq_true (by first|(with_reducible assumption)|assumption);have q206:(ji48) < (x6_3.length:Int):=of_decide_eq_true (by first|(with_reducible assumption)|assumption);obtain ⟨ad206,e206,hx206_0⟩:=Kd.at_int (Kd.R_reads' HO_6.out).2.2 (ji48) p206 q206;obtain rfl:(⟨go29,0,none⟩:Addr)=ad206:=(by injection e206)
                           (first|simp only[add_plain] at hx206_0|simp only[add_at] at hx206_0|simp only[Addr.add,Nat.zero_add] at hx206_0|skip)
                           replace p206:=eq_true p206;replace q206:=eq_true q206;have p207:0≤((rd x9_2 x10_2):Int):=of_decide_eq_true (by first|(with_reducible assumption)|assumption);have q207:(rd x9_2 x10_2) < (x6_3.length:Int):=of_decide_eq_true (by first|(with_reducible assumption)|assumption);obtain ⟨ad207,e207,hx207_0⟩:=Kd.at_int (Kd.R_reads' HO_6.out).2.2 (rd x9_2 x10_2) p207 q207;obtain rfl:(⟨go29,0,none⟩:Addr)=ad207:=(by injection e207)
                           (first|simp only[add_plain] at hx207_0|simp only[add_at] at hx207_0|simp only[Addr.add,Nat.zero_add] at hx207_0|skip)
                           replace p207:=eq_true p207;replace q207:=eq_true q207;have p54:0≤((ji48):Int):=of_decide_eq_true (by first|(with_reducible assumption)|assumption);have q54:((ji48):Int) < ((x6_3.length:Int):Int):=of_decide_eq_true (by first|(with_reducible assumption)|assumption);obtain ⟨hx54_0,hf54_0⟩:=Kd.R_celln 0 HO_6.out ((ji48):Int) p54 q54;replace p54:=eq_true p54;replace q54:=eq_true q54;have HP66:=Kd.R_putg HO_6.out ((ji48):Int) (wrap64 ((rd x6_3 (rd x9_2 x10_2))+1))
                           try go_wp2_with (first|((with_reducible refine gate_store (t:=3) (p:=75) rfl ?_);refine store_event (t:=3) (p:=75) (v:=?vo_w67) (w1:=(wr.setCell ⟨go29,((ji48):Int).toNat,none⟩ (.int .i64 (wrap64 ((rd x6_3 (rd x9_2 x10_2))+1))))) ?hg ?ho ?hn ?hr ?_;(case ho=>rfl);(case hg=>rfl);(case hn=>rfl);(case hr=>first|(go_simp;done)|(go_simp;rfl));intro w67 hw;have hg:wr.grownBy w67 (some go29):=(by rw[hw];exact HP66.2);have hp_:Kd.R (Kd.int .i64) 3 w67 w.heap.size (fun k_=>some k_≠(.slice (some ⟨go31,0,none⟩) x7_3.length co31:Value).ownBlock∧some k_≠(u9:Value).ownBlock∧some k_≠(.slice (some ad205) t202.length co44:Value).ownBlock) (.slice (some ⟨go29,0,none⟩) x6_3.length co20) y208:=(by rw[hw,Ny208.out];exact HP66.1);clear HP66;have n0_:=am' (hp_);have n1_:=am' (Kd.R_after (v:=(.slice (some ⟨go29,0,none⟩) x6_3.length co20)) (v1:=(.slice (some ⟨go29,0,none⟩) x6_3.length co20)) (ok:=(fun k_=>some k_≠(u9:Value).ownBlock∧some k_≠(.slice (some ad205) t202.length co44:Value).ownBlock)) (by (with_reducible repeat (first|apply ra'|apply rn'|apply rw'));exact Kd.R_mono HO_7.out (fun _ hk=>⟨⟨hk.2.1,hk.2.2⟩,hk.1⟩)) hg (.inl rfl));have n2_:=am' (Kd.R_after (v:=(.slice (some ⟨go29,0,none⟩) x6_3.length co20)) (v1:=(.slice (some ⟨go29,0,none⟩) x6_3.length co20)) (ok:=(fun k_=>some k_≠(.slice (some ⟨go31,0,none⟩) x7_3.length co31:Value).ownBlock∧some k_≠(.slice (some ad205) t202.length co44:Value).ownBlock)) (by (with_reducible repeat (first|apply ra'|apply rn'|apply rw'));exact Kd.R_mono HO_9.out (fun _ hk=>⟨⟨hk.2.1,hk.2.2⟩,hk.1⟩)) hg (.inl rfl));have n3_:=am' (Kd.R_after (v:=(.slice (some ⟨go29,0,none⟩) x6_3.length co20)) (v1:=(.slice (some ⟨go29,0,none⟩) x6_3.length co20)) (ok:=(fun k_=>some k_≠(.slice (some ⟨go31,0,none⟩) x7_3.length co31:Value).ownBlock∧some k_≠(u9:Value).ownBlock)) (by (with_reducible repeat (first|apply ra'|apply rn'|apply rw'));exact Kd.R_mono HO_52.out (fun _ hk=>⟨⟨hk.2.1,hk.2.2⟩,hk.1⟩)) hg (.inl rfl));have n4_:=am' (blk_grown (g:=gb186) (o := .cells #[.int .i64 a0_0, .int .i64 a0_1] 40 (0,0)) (by (with_reducible repeat (first|refine kn' ?_ _|refine kd' ?_|refine ka' ?_ _));exact BK186.out) hg (Kd.R_ne HO_6.out BK186.out (by decide)));have n5_:=am' ((by rw[hw];exact bs' (HB.out) GB29.out:Below w.heap.size w w67));clear HO_6;clear HO_7;clear HO_9;clear HO_52;clear BK186;clear HB;have HO_6:=n0_;have HO_7:=n1_;have HO_9:=n2_;have HO_52:=n3_;have BK186:=n4_;have HB:=n5_;clear n0_ n1_ n2_ n3_ n4_ n5_;clear hg hw hp_)|((with_reducible refine gate_builtin (b := .append) (xs:=#[.tmp 76, .tmp 78]) rfl ?_);at_builtin;refine Kd.R_append (Kd.int .i64) (w0:=w) w.heap.size rfl (.tmp 76) (.tmp 78) 32 3 (.int .i64 0) 8 rfl Try.underlying32 info3 rfl (by decide) (by omega) u9 x9_3 ji48 [.int .i64 ji48] (fun k_=>some k_≠(.slice (some ⟨go29,0,none⟩) x6_3.length co20:Value).ownBlock∧some k_≠(.slice (some ⟨go31,0,none⟩) x7_3.length co31:Value).ownBlock∧some k_≠(.slice (some ad205) t202.length co44:Value).ownBlock) (fun _=>False) rfl rfl ?aP (fun _ hk=>hk.elim) ?aF ?aO ?aB ?aS ?aL ?_;(case aP=>exact rfl);(case aB=>exact (by repeat (first|(with_reducible first|exact HB.out|apply ba'|apply bd'|apply be'|refine bs' ?_ GE186.out)|exact HB.out)));(case aF=>exact (fun k_ hk=>⟨Kd.fresh' (Kd.R_lt (by (with_reducible repeat (first|apply ra'|apply rn'|apply rw'));exact HO_6.out)) k_ hk,Kd.fresh' (Kd.R_lt (by (with_reducible repeat (first|apply ra'|apply rn'|apply rw'));exact HO_7.out)) k_ hk,Kd.fresh' (Kd.R_lt (by (with_reducible repeat (first|apply ra'|apply rn'|apply rw'));exact HO_52.out)) k_ hk⟩));(case aO=>exact (by (with_reducible repeat (first|apply ra'|apply rn'|apply rw'));exact Kd.R_mono HO_9.out (fun _ hk=>⟨hk.2,⟨hk.1.1,hk.1.2⟩⟩)));(case aS=>exact (below_size (by repeat (first|(with_reducible first|exact HB.out|apply ba'|apply bd'|apply be'|refine bs' ?_ GE186.out)|exact HB.out))));(case aL=>have:=LMc55.out;omega);intro v210 w68 ho hb hg hat;rw[← Ny209.out] at ho;have n0_:=am' (Kd.R_after (ok:=(fun k_=>some k_≠(.slice (some ⟨go31,0,none⟩) x7_3.length co31:Value).ownBlock∧some k_≠(.slice (some ad205) t202.length co44:Value).ownBlock)) (by (with_reducible repeat (first|apply ra'|apply rn'|apply rw'));exact Kd.R_mono HO_6.out (fun _ hk=>⟨⟨hk.1,hk.2.2⟩,hk.2.1⟩)) hg hat);have n1_:=am' (Kd.R_after (ok:=(fun k_=>some k_≠(.slice (some ⟨go29,0,none⟩) x6_3.length co20:Value).ownBlock∧some k_≠(.slice (some ad205) t202.length co44:Value).ownBlock)) (by (with_reducible repeat (first|apply ra'|apply rn'|apply rw'));exact Kd.R_mono HO_7.out (fun _ hk=>⟨⟨hk.2,hk.1.2⟩,hk.1.1⟩)) hg hat);have n2_:=am' (Kd.R_after (ok:=(fun k_=>some k_≠(.slice (some ⟨go29,0,none⟩) x6_3.length co20:Value).ownBlock∧some k_≠(.slice (some ⟨go31,0,none⟩) x7_3.length co31:Value).ownBlock)) (by (with_reducible repeat (first|apply ra'|apply rn'|apply rw'));exact Kd.R_mono HO_52.out (fun _ hk=>⟨⟨hk.2,hk.1.1⟩,hk.1.2⟩)) hg hat);have n3_:=am' (blk_grown (g:=gb186) (o := .cells #[.int .i64 a0_0, .int .i64 a0_1] 40 (0,0)) (by (with_reducible repeat (first|refine kn' ?_ _|refine kd' ?_|refine ka' ?_ _));exact BK186.out) hg (Kd.R_ne HO_9.out BK186.out (by decide)));have n4_:=am' (hb);have n5_:=am' (ho);clear HO_6;clear HO_7;clear HO_52;clear BK186;clear HB;clear HO_9;have HO_6:=n0_;have HO_7:=n1_;have HO_52:=n2_;have BK186:=n3_;have HB:=n4_;have HO211:=n5_;clear n0_ n1_ n2_ n3_ n4_ n5_;clear ho hb hg hat))
                           have n0_:=am' (rw' HO_6.out);have n1_:=am' (rw' HO_7.out);have n2_:=am' (rw' HO_52.out);have n3_:=am' (rw' HO211.out);have n4_:=am' (kd' BK186.out);have n5_:=am' (be' HB.out);clear HO_6;clear HO_7;clear HO_52;clear HO211;clear BK186;clear HB;have HO_6:=n0_;have HO_7:=n1_;have HO_52:=n2_;have HO211:=n3_;have BK186:=n4_;have HB:=n5_;clear n0_ n1_ n2_ n3_ n4_ n5_;have p212:0≤((ji48):Int):=of_decide_eq_true (by first|(with_reducible assumption)|assumption);have q212:(ji48) < (y208.length:Int):=(by have h_:((ji48):Int) < ((x6_3.length:Int):Int):=of_decide_eq_true (by first|(with_reducible assumption)|assumption);first|(have e_:=(Kd.R_reads' HO_6.out).1;omega)|simpa only [Ny208.out,List.length_set] using h_)
                           have ql212:(((ji48):Int) < ((x6_3.length:Int):Int))=True:=eq_true (of_decide_eq_true (by first|(with_reducible assumption)|assumption));obtain ⟨ad212,e212,hx212_0⟩:=Kd.at_int (Kd.R_reads' HO_6.out).2.2 (ji48) p212 q212;obtain rfl:(⟨go29,0,none⟩:Addr)=ad212:=(by injection e212)
                           (first|simp only[add_plain] at hx212_0|simp only[add_at] at hx212_0|simp only[Addr.add,Nat.zero_add] at hx212_0|skip)
                           replace p212:=eq_true p212;replace q212:=eq_true q212;have p213:0≤((rd x9_2 x10_2):Int):=of_decide_eq_true (by first|(with_reducible assumption)|assumption);have q213:(rd x9_2 x10_2) < (y208.length:Int):=(by have h_:((rd x9_2 x10_2):Int) < ((x6_3.length:Int):Int):=of_decide_eq_true (by first|(with_reducible assumption)|assumption);first|(have e_:=(Kd.R_reads' HO_6.out).1;omega)|simpa only [Ny208.out,List.length_set] using h_)
                           have ql213:(((rd x9_2 x10_2):Int) < ((x6_3.length:Int):Int))=True:=eq_true (of_decide_eq_true (by first|(with_reducible assumption)|assumption));obtain ⟨ad213,e213,hx213_0⟩:=Kd.at_int (Kd.R_reads' HO_6.out).2.2 (rd x9_2 x10_2) p213 q213;obtain rfl:(⟨go29,0,none⟩:Addr)=ad213:=(by injection e213)
                           (first|simp only[add_plain] at hx213_0|simp only[add_at] at hx213_0|simp only[Addr.add,Nat.zero_add] at hx213_0|skip)
                           replace p213:=eq_true p213;replace q213:=eq_true q213;refine start_ (n:=10) (S:=fun w'=>w'.cell? ⟨go29,((ji48)).toNat,none⟩=some (.int .i64 (rd y208 (ji48)))∧w'.cell? ⟨go29,((rd x9_2 x10_2)).toNat,none⟩=some (.int .i64 (rd y208 (rd x9_2 x10_2)))) (ds:=[]) #[false,false,false,false,false,false,false,false,false,false] (by kernel_rfl) rfl rfl ⟨hx212_0,hx213_0⟩ (fun hHeld=>?_);refine with_tabW spec_cuFar.tab21 spec_cuFar.bits21 (fun HT_ HW_=>?_);generalize w68.drew=w69 at HO_6 HO_7 HO_52 HO211 BK186 HB hx212_0 hx213_0 hHeld ⊢
                           refine pure_ (i:=0) (N:=some 80) (v:=?_) (a':=?_) #[true,false,false,false,false,false,false,false,false,false] rfl rfl (any_of HT_.out (by kernel_rfl)) (fun _ _ _ h=>h) (Or.inl ⟨by rfl,?_⟩) ?_ ?_
                           rotate_left
                           ·
                            intro w';go_simp;with_reducible rfl
                           rotate_left
                           ·
                            simp only[Act.put,sa',sb',sc',i64_w,i32_w];rfl
                           refine pure_ (i:=1) (N:=some 81) (v:=?_) (a':=?_) #[true,true,false,false,false,false,false,false,false,false] rfl rfl (any_of HT_.out (by kernel_rfl)) (fun _ _ _ h=>h) (Or.inl ⟨by rfl,?_⟩) ?_ ?_
                           rotate_left
                           ·
                            intro w';go_simp;with_reducible rfl
                           rotate_left
                           ·
                            simp only[Act.put,sa',sb',sc',i64_w,i32_w];rfl
                           refine pure_ (i:=2) (N:=some 82) (v:=?_) (a':=?_) #[true,true,true,false,false,false,false,false,false,false] rfl rfl (any_of HT_.out (by kernel_rfl)) (fun _ _ _ h=>h) (Or.inl ⟨by rfl,?_⟩) ?_ ?_
                           rotate_left
                           ·
                            intro w';go_simp;with_reducible rfl
                           rotate_left
                           ·
                            simp only[Act.put,sa',sb',sc',i64_w,i32_w];rfl
                           refine pure_ (i:=4) (N:=some 84) (v:=?_) (a':=?_) #[true,true,true,false,true,false,false,false,false,false] rfl rfl (any_of HT_.out (by kernel_rfl)) (fun _ _ _ h=>h) (Or.inl ⟨by rfl,?_⟩) ?_ ?_
                           rotate_left
                           ·
                            intro w';go_simp;with_reducible rfl
                           rotate_left
                           ·
                            simp only[Act.put,sa',sb',sc',i64_w,i32_w];rfl
                           refine pure_ (i:=5) (N:=some 85) (v:=?_) (a':=?_) #[true,true,true,false,true,true,false,false,false,false] rfl rfl (any_of HT_.out (by kernel_rfl)) (fun _ _ _ h=>h) (Or.inl ⟨by rfl,?_⟩) ?_ ?_
                           rotate_left
                           ·
                            intro w';go_simp;with_reducible rfl
                           rotate_left
                           ·
                            simp only[Act.put,sa',sb',sc',i64_w,i32_w];rfl
                           refine pure_ (i:=6) (N:=some 86) (v:=?_) (a':=?_) #[true,true,true,false,true,true,true,false,false,false] rfl rfl (any_of HT_.out (by kernel_rfl)) (fun _ _ _ h=>h) (Or.inl ⟨by rfl,?_⟩) ?_ ?_
                           rotate_left
                           ·
                            intro w';go_simp;with_reducible rfl
                           rotate_left
                           ·
                            simp only[Act.put,sa',sb',sc',i64_w,i32_w];rfl
                           refine take_ (i:=3) (N:=some 83) (v:=?_) (a':=?_) #[true,true,true,true,true,true,true,false,false,false] rfl rfl (take_ofW HT_.out HW_.out (by kernel_rfl)) (fun _ _ _ h=>h) (Or.inl ⟨by rfl,?_⟩) hHeld ?_ ?_
                           rotate_left
                           ·
                            rintro w' ⟨s0,s1⟩
                            go_simp;with_reducible rfl
                           rotate_left
                           ·
                            simp only[Act.put,sa',sb',sc',i64_w,i32_w];rfl
                           refine take_ (i:=7) (N:=some 87) (v:=?_) (a':=?_) #[true,true,true,true,true,true,true,true,false,false] rfl rfl (take_ofW HT_.out HW_.out (by kernel_rfl)) (fun _ _ _ h=>h) (Or.inl ⟨by rfl,?_⟩) hHeld ?_ ?_
                           rotate_left
                           ·
                            rintro w' ⟨s0,s1⟩
                            go_simp;with_reducible rfl
                           rotate_left
                           ·
                            simp only[Act.put,sa',sb',sc',i64_w,i32_w];rfl
                           refine pure_ (i:=8) (N:=some 88) (v:=?_) (a':=?_) #[true,true,true,true,true,true,true,true,true,false] rfl rfl (any_of HT_.out (by kernel_rfl)) (fun _ _ _ h=>h) (Or.inl ⟨by rfl,?_⟩) ?_ ?_
                           rotate_left
                           ·
                            intro w';go_simp;with_reducible rfl
                           rotate_left
                           ·
                            simp only[Act.put,sa',sb',sc',i64_w,i32_w];rfl
                           refine pure_ (i:=9) (N:=some 89) (v:=?_) (a':=?_) #[true,true,true,true,true,true,true,true,true,true] rfl rfl (any_of HT_.out (by kernel_rfl)) (fun _ _ _ h=>h) (Or.inl ⟨by rfl,?_⟩) ?_ ?_
                           rotate_left
                           ·
                            intro w';go_simp;with_reducible rfl
                           rotate_left
                           ·
                            simp only[Act.put,sa',sb',sc',i64_w,i32_w];rfl
                           refine done_ (done_of HT_.out (by kernel_rfl)) ?_
                           try go_wp2
                           (try simp only[← hl6_3,← hl7_3])
                           go_roundg k3
                           case measure=>have:=HK1.out;have:=HK2.out;have:=HK3.out;omega
                           case rel=>exact ⟨(y208),(x7_3),(y209),(wrap64 (x54_3+1)),(by first|rfl|(simp;done)|(simp[*];done)),H',⟨by have:=HK1.out;have:=HK2.out;have:=HK3.out;omega⟩,⟨by (try simp only[hl6_1]);(try simp only[hl6_2]);(try simp only[hl7_2]);(try simp only[hl6_3]);(try simp only[hl7_3]);(with_reducible repeat (first|apply ra'|apply rn'|apply rw'));exact Kd.R_mono HO_6.out (fun _ hk=>⟨hk.1.1,⟨hk.2,hk.1.2⟩⟩)⟩,⟨by (try simp only[hl6_1]);(try simp only[hl6_2]);(try simp only[hl7_2]);(try simp only[hl6_3]);(try simp only[hl7_3]);(with_reducible repeat (first|apply ra'|apply rn'|apply rw'));exact Kd.R_mono HO_7.out (fun _ hk=>⟨hk.1.1,⟨hk.2,hk.1.2⟩⟩)⟩,⟨by (try simp only[hl6_1]);(try simp only[hl6_2]);(try simp only[hl7_2]);(try simp only[hl6_3]);(try simp only[hl7_3]);(with_reducible repeat (first|apply ra'|apply rn'|apply rw'));exact HO211.out⟩,⟨by (try simp only[hl6_1]);(try simp only[hl6_2]);(try simp only[hl7_2]);(try simp only[hl6_3]);(try simp only[hl7_3]);(with_reducible repeat (first|apply ra'|apply rn'|apply rw'));exact Kd.R_mono HO_52.out (fun _ hk=>⟨hk.1.1,⟨hk.1.2,hk.2⟩⟩)⟩,⟨by (try simp only[hl6_1]);(try simp only[hl6_2]);(try simp only[hl7_2]);(try simp only[hl6_3]);(try simp only[hl7_3]);(with_reducible repeat (first|refine kn' ?_ _|refine kd' ?_|refine ka' ?_ _));exact BK186.out⟩,⟨by repeat (first|(with_reducible first|exact HB.out|apply ba'|apply bd'|apply be'|refine bs' ?_ GE186.out)|exact HB.out)⟩⟩
                         ·
                          rw[if_neg c55] at H;exact absurd H (by simp)
                        ·
                         rw[if_neg c53] at H;exact absurd H (by simp)
                       ·
                        rw[if_neg c52] at H;exact absurd H (by simp)
                      ·
                       rw[if_neg c51] at H;have c51b0:decide ((rd x6_3 (ji48)) < 0)=false:=decide_eq_false c51;clear c51;by_cases c70:0≤(rd x9_2 x10_2)
                       ·
                        rw[if_pos c70] at H;have c70b0:decide (0≤(rd x9_2 x10_2))=true:=decide_eq_true c70;clear c70;by_cases c71:(rd x9_2 x10_2) < (x6_3.length:Int)
                        ·
                         rw[if_pos c71] at H;have c71b0:decide ((rd x9_2 x10_2) < (x6_3.length:Int))=true:=decide_eq_true c71;clear c71;by_cases c72:(rd x6_3 (ji48))=(wrap64 ((rd x6_3 (rd x9_2 x10_2))+1))
                         ·
                          rw[if_pos c72] at H;have c72b0:((rd x6_3 (ji48)) == (wrap64 ((rd x6_3 (rd x9_2 x10_2))+1)))=true:=beq_iff_eq.mpr c72;have c72b1:((rd x6_3 (ji48)) != (wrap64 ((rd x6_3 (rd x9_2 x10_2))+1)))=false:=bne_eq_false_iff_eq.mpr c72;clear c72;by_cases c73:(ji48) < (x7_3.length:Int)
                          ·
                           rw[if_pos c73] at H;have c73b0:decide ((ji48) < (x7_3.length:Int))=true:=decide_eq_true c73;clear c73;by_cases c74:(rd x9_2 x10_2) < (x7_3.length:Int)
                           ·
                            rw[if_pos c74] at H;have c74b0:decide ((rd x9_2 x10_2) < (x7_3.length:Int))=true:=decide_eq_true c74;clear c74;obtain ⟨y221,hy221⟩:∃ y_:List Int,y_=(x7_3.set ((ji48):Int).toNat (wrap64 ((rd x7_3 (ji48))+(rd x7_3 (rd x9_2 x10_2))))):=⟨_,rfl⟩
                            replace H:(spec_cuFar.l2 k3 x6_3 y221 x9_3 x10_2 (rd x9_2 x10_2) t202 (t202.length:Int) (wrap64 (x54_3+1)) a0_0 a0_1)=some (r1,r2):=by first|(rw[hy221];with_reducible exact H)|(have H2_:=(Option.bind_some _ _).symm.trans H;rw[hy221];with_reducible exact H2_)|(have H2_:=(Option.bind_some _ _).symm.trans H;with_reducible exact H2_)|with_reducible exact H|(rw[hy221];exact H)|exact H
                            have Ny221:=am' hy221;clear hy221;have H':=am' H;clear H;have p205:0≤(x54_3:Int):=of_decide_eq_true (by first|(with_reducible assumption)|assumption);have q205:x54_3 < (t202.length:Int):=of_decide_eq_true (by first|(with_reducible assumption)|assumption);obtain ⟨ad205,e205,hx205_0⟩:=Kd.at_int (Kd.R_reads' HO_52.out).2.2 x54_3 p205 q205;cases e205;replace p205:=eq_true p205;replace q205:=eq_true q205;have p206:0≤((ji48):Int):=of_decide_eq_true (by first|(with_reducible assumption)|assumption);have q206:(ji48) < (x6_3.length:Int):=of_decide_eq_true (by first|(with_reducible assumption)|assumption);obtain ⟨ad206,e206,hx206_0⟩:=Kd.at_int (Kd.R_reads' HO_6.out).2.2 (ji48) p206 q206;obtain rfl:(⟨go29,0,none⟩:Addr)=ad206:=(by injection e206)
                            (first|simp only[add_plain] at hx206_0|simp only[add_at] at hx206_0|simp only[Addr.add,Nat.zero_add] at hx206_0|skip)
                            replace p206:=eq_true p206;replace q206:=eq_true q206
                            try go_wp2
                            have n0_:=am' (rw' HO_6.out);have n1_:=am' (rw' HO_7.out);have n2_:=am' (rw' HO_9.out);have n3_:=am' (rw' HO_52.out);have n4_:=am' (kd' BK186.out);have n5_:=am' (be' HB.out);clear HO_6;clear HO_7;clear HO_9;clear HO_52;clear BK186;clear HB;have HO_6:=n0_;have HO_7:=n1_;have HO_9:=n2_;have HO_52:=n3_;have BK186:=n4_;have HB:=n5_;clear n0_ n1_ n2_ n3_ n4_ n5_;have p217:0≤((ji48):Int):=of_decide_eq_true (by first|(with_reducible assumption)|assumption);have q217:(ji48) < (x6_3.length:Int):=of_decide_eq_true (by first|(with_reducible assumption)|assumption);obtain ⟨ad217,e217,hx217_0⟩:=Kd.at_int (Kd.R_reads' HO_6.out).2.2 (ji48) p217 q217;obtain rfl:(⟨go29,0,none⟩:Addr)=ad217:=(by injection e217)
                            (first|simp only[add_plain] at hx217_0|simp only[add_at] at hx217_0|simp only[Addr.add,Nat.zero_add] at hx217_0|skip)
                            replace p217:=eq_true p217;replace q217:=eq_true q217;have p218:0≤((rd x9_2 x10_2):Int):=of_decide_eq_true (by first|(with_reducible assumption)|assumption);have q218:(rd x9_2 x10_2) < (x6_3.length:Int):=of_decide_eq_true (by first|(with_reducible assumption)|assumption);obtain ⟨ad218,e218,hx218_0⟩:=Kd.at_int (Kd.R_reads' HO_6.out).2.2 (rd x9_2 x10_2) p218 q218;obtain rfl:(⟨go29,0,none⟩:Addr)=ad218:=(by injection e218)
                            (first|simp only[add_plain] at hx218_0|simp only[add_at] at hx218_0|simp only[Addr.add,Nat.zero_add] at hx218_0|skip)
                            replace p218:=eq_true p218;replace q218:=eq_true q218;refine start_ (n:=10) (S:=fun w'=>w'.cell? ⟨go29,((ji48)).toNat,none⟩=some (.int .i64 (rd x6_3 (ji48)))∧w'.cell? ⟨go29,((rd x9_2 x10_2)).toNat,none⟩=some (.int .i64 (rd x6_3 (rd x9_2 x10_2)))) (ds:=[]) #[false,false,false,false,false,false,false,false,false,false] (by kernel_rfl) rfl rfl ⟨hx217_0,hx218_0⟩ (fun hHeld=>?_);refine with_tabW spec_cuFar.tab21 spec_cuFar.bits21 (fun HT_ HW_=>?_);generalize wr.drew=w76 at HO_6 HO_7 HO_9 HO_52 BK186 HB hx217_0 hx218_0 hHeld ⊢
                            refine pure_ (i:=0) (N:=some 80) (v:=?_) (a':=?_) #[true,false,false,false,false,false,false,false,false,false] rfl rfl (any_of HT_.out (by kernel_rfl)) (fun _ _ _ h=>h) (Or.inl ⟨by rfl,?_⟩) ?_ ?_
                            rotate_left
                            ·
                             intro w';go_simp;with_reducible rfl
                            rotate_left
                            ·
                             simp only[Act.put,sa',sb',sc',i64_w,i32_w];rfl
                            refine pure_ (i:=1) (N:=some 81) (v:=?_) (a':=?_) #[true,true,false,false,false,false,false,false,false,false] rfl rfl (any_of HT_.out (by kernel_rfl)) (fun _ _ _ h=>h) (Or.inl ⟨by rfl,?_⟩) ?_ ?_
                            rotate_left
                            ·
                             intro w';go_simp;with_reducible rfl
                            rotate_left
                            ·
                             simp only[Act.put,sa',sb',sc',i64_w,i32_w];rfl
                            refine pure_ (i:=2) (N:=some 82) (v:=?_) (a':=?_) #[true,true,true,false,false,false,false,false,false,false] rfl rfl (any_of HT_.out (by kernel_rfl)) (fun _ _ _ h=>h) (Or.inl ⟨by rfl,?_⟩) ?_ ?_
                            rotate_left
                            ·
                             intro w';go_simp;with_reducible rfl
                            rotate_left
                            ·
                             simp only[Act.put,sa',sb',sc',i64_w,i32_w];rfl
                            refine pure_ (i:=4) (N:=some 84) (v:=?_) (a':=?_) #[true,true,true,false,true,false,false,false,false,false] rfl rfl (any_of HT_.out (by kernel_rfl)) (fun _ _ _ h=>h) (Or.inl ⟨by rfl,?_⟩) ?_ ?_
                            rotate_left
                            ·
                             intro w';go_simp;with_reducible rfl
                            rotate_left
                            ·
                             simp only[Act.put,sa',sb',sc',i64_w,i32_w];rfl
                            refine pure_ (i:=5) (N:=some 85) (v:=?_) (a':=?_) #[true,true,true,false,true,true,false,false,false,false] rfl rfl (any_of HT_.out (by kernel_rfl)) (fun _ _ _ h=>h) (Or.inl ⟨by rfl,?_⟩) ?_ ?_
                            rotate_left
                            ·
                             intro w';go_simp;with_reducible rfl
                            rotate_left
                            ·
                             simp only[Act.put,sa',sb',sc',i64_w,i32_w];rfl
                            refine pure_ (i:=6) (N:=some 86) (v:=?_) (a':=?_) #[true,true,true,false,true,true,true,false,false,false] rfl rfl (any_of HT_.out (by kernel_rfl)) (fun _ _ _ h=>h) (Or.inl ⟨by rfl,?_⟩) ?_ ?_
                            rotate_left
                            ·
                             intro w';go_simp;with_reducible rfl
                            rotate_left
                            ·
                             simp only[Act.put,sa',sb',sc',i64_w,i32_w];rfl
                            refine take_ (i:=3) (N:=some 83) (v:=?_) (a':=?_) #[true,true,true,true,true,true,true,false,false,false] rfl rfl (take_ofW HT_.out HW_.out (by kernel_rfl)) (fun _ _ _ h=>h) (Or.inl ⟨by rfl,?_⟩) hHeld ?_ ?_
                            rotate_left
                            ·
                             rintro w' ⟨s0,s1⟩
                             go_simp;with_reducible rfl
                            rotate_left
                            ·
                             simp only[Act.put,sa',sb',sc',i64_w,i32_w];rfl
                            refine take_ (i:=7) (N:=some 87) (v:=?_) (a':=?_) #[true,true,true,true,true,true,true,true,false,false] rfl rfl (take_ofW HT_.out HW_.out (by kernel_rfl)) (fun _ _ _ h=>h) (Or.inl ⟨by rfl,?_⟩) hHeld ?_ ?_
                            rotate_left
                            ·
                             rintro w' ⟨s0,s1⟩
                             go_simp;with_reducible rfl
                            rotate_left
                            ·
                             simp only[Act.put,sa',sb',sc',i64_w,i32_w];rfl
                            refine pure_ (i:=8) (N:=some 88) (v:=?_) (a':=?_) #[true,true,true,true,true,true,true,true,true,false] rfl rfl (any_of HT_.out (by kernel_rfl)) (fun _ _ _ h=>h) (Or.inl ⟨by rfl,?_⟩) ?_ ?_
                            rotate_left
                            ·
                             intro w';go_simp;with_reducible rfl
                            rotate_left
                            ·
                             simp only[Act.put,sa',sb',sc',i64_w,i32_w];rfl
                            refine pure_ (i:=9) (N:=some 89) (v:=?_) (a':=?_) #[true,true,true,true,true,true,true,true,true,true] rfl rfl (any_of HT_.out (by kernel_rfl)) (fun _ _ _ h=>h) (Or.inl ⟨by rfl,?_⟩) ?_ ?_
                            rotate_left
                            ·
                             intro w';go_simp;with_reducible rfl
                            rotate_left
                            ·
                             simp only[Act.put,sa',sb',sc',i64_w,i32_w];rfl
                            refine done_ (done_of HT_.out (by kernel_rfl)) ?_
                            try go_wp2
                            have n0_:=am' (rw' HO_6.out);have n1_:=am' (rw' HO_7.out);have n2_:=am' (rw' HO_9.out);have n3_:=am' (rw' HO_52.out);have n4_:=am' (kd' BK186.out);have n5_:=am' (be' HB.out);clear HO_6;clear HO_7;clear HO_9;clear HO_52;clear BK186;clear HB;have HO_6:=n0_;have HO_7:=n1_;have HO_9:=n2_;have HO_52:=n3_;have BK186:=n4_;have HB:=n5_;clear n0_ n1_ n2_ n3_ n4_ n5_;have p219:0≤((ji48):Int):=of_decide_eq_true (by first|(with_reducible assumption)|assumption);have q219:(ji48) < (x7_3.length:Int):=of_decide_eq_true (by first|(with_reducible assumption)|assumption);obtain ⟨ad219,e219,hx219_0⟩:=Kd.at_int (Kd.R_reads' HO_7.out).2.2 (ji48) p219 q219;obtain rfl:(⟨go31,0,none⟩:Addr)=ad219:=(by injection e219)
                            (first|simp only[add_plain] at hx219_0|simp only[add_at] at hx219_0|simp only[Addr.add,Nat.zero_add] at hx219_0|skip)
                            replace p219:=eq_true p219;replace q219:=eq_true q219;have p220:0≤((rd x9_2 x10_2):Int):=of_decide_eq_true (by first|(with_reducible assumption)|assumption);have q220:(rd x9_2 x10_2) < (x7_3.length:Int):=of_decide_eq_true (by first|(with_reducible assumption)|assumption);obtain ⟨ad220,e220,hx220_0⟩:=Kd.at_int (Kd.R_reads' HO_7.out).2.2 (rd x9_2 x10_2) p220 q220;obtain rfl:(⟨go31,0,none⟩:Addr)=ad220:=(by injection e220)
                            (first|simp only[add_plain] at hx220_0|simp only[add_at] at hx220_0|simp only[Addr.add,Nat.zero_add] at hx220_0|skip)
                            replace p220:=eq_true p220;replace q220:=eq_true q220;have p75:0≤((ji48):Int):=of_decide_eq_true (by first|(with_reducible assumption)|assumption);have q75:((ji48):Int) < ((x7_3.length:Int):Int):=of_decide_eq_true (by first|(with_reducible assumption)|assumption);obtain ⟨hx75_0,hf75_0⟩:=Kd.R_celln 0 HO_7.out ((ji48):Int) p75 q75;replace p75:=eq_true p75;replace q75:=eq_true q75;have HP78:=Kd.R_putn HO_7.out ((ji48):Int) (wrap64 ((rd x7_3 (ji48))+(rd x7_3 (rd x9_2 x10_2))));rw[← Ny221.out] at HP78;have HQ78:=am' HP78;clear HP78;refine start_ (n:=11) (S:=fun w'=>w'.cell? ⟨go31,((ji48)).toNat,none⟩=some (.int .i64 (rd x7_3 (ji48)))∧w'.cell? ⟨go31,((rd x9_2 x10_2)).toNat,none⟩=some (.int .i64 (rd x7_3 (rd x9_2 x10_2)))) (ds:=[10]) #[false,false,false,false,false,false,false,false,false,false,false] (by kernel_rfl) rfl rfl ⟨hx219_0,hx220_0⟩ (fun hHeld=>?_);refine with_tabW spec_cuFar.tab22 spec_cuFar.bits22 (fun HT_ HW_=>?_);generalize w76.drew=w77 at HO_6 HO_7 HO_9 HO_52 BK186 HB HQ78 hf75_0 hx219_0 hx220_0 hx75_0 hHeld ⊢
                            refine pure_ (i:=0) (N:=some 90) (v:=?_) (a':=?_) #[true,false,false,false,false,false,false,false,false,false,false] rfl rfl (any_of HT_.out (by kernel_rfl)) (fun _ _ _ h=>h) (Or.inl ⟨by rfl,?_⟩) ?_ ?_
                            rotate_left
                            ·
                             intro w';go_simp;with_reducible rfl
                            rotate_left
                            ·
                             simp only[Act.put,sa',sb',sc',i64_w,i32_w];rfl
                            refine pure_ (i:=1) (N:=some 91) (v:=?_) (a':=?_) #[true,true,false,false,false,false,false,false,false,false,false] rfl rfl (any_of HT_.out (by kernel_rfl)) (fun _ _ _ h=>h) (Or.inl ⟨by rfl,?_⟩) ?_ ?_
                            rotate_left
                            ·
                             intro w';go_simp;with_reducible rfl
                            rotate_left
                            ·
                             simp only[Act.put,sa',sb',sc',i64_w,i32_w];rfl
                            refine pure_ (i:=2) (N:=some 92) (v:=?_) (a':=?_) #[true,true,true,false,false,false,false,false,false,false,false] rfl rfl (any_of HT_.out (by kernel_rfl)) (fun _ _ _ h=>h) (Or.inl ⟨by rfl,?_⟩) ?_ ?_
                            rotate_left
                            ·
                             intro w';go_simp;with_reducible rfl
                            rotate_left
                            ·
                             simp only[Act.put,sa',sb',sc',i64_w,i32_w];rfl
                            refine pure_ (i:=4) (N:=some 94) (v:=?_) (a':=?_) #[true,true,true,false,true,false,false,false,false,false,false] rfl rfl (any_of HT_.out (by kernel_rfl)) (fun _ _ _ h=>h) (Or.inl ⟨by rfl,?_⟩) ?_ ?_
                            rotate_left
                            ·
                             intro w';go_simp;with_reducible rfl
                            rotate_left
                            ·
                             simp only[Act.put,sa',sb',sc',i64_w,i32_w];rfl
                            refine pure_ (i:=5) (N:=some 95) (v:=?_) (a':=?_) #[true,true,true,false,true,true,false,false,false,false,false] rfl rfl (any_of HT_.out (by kernel_rfl)) (fun _ _ _ h=>h) (Or.inl ⟨by rfl,?_⟩) ?_ ?_
                            rotate_left
                            ·
                             intro w';go_simp;with_reducible rfl
                            rotate_left
                            ·
                             simp only[Act.put,sa',sb',sc',i64_w,i32_w];rfl
                            refine pure_ (i:=6) (N:=some 96) (v:=?_) (a':=?_) #[true,true,true,false,true,true,true,false,false,false,false] rfl rfl (any_of HT_.out (by kernel_rfl)) (fun _ _ _ h=>h) (Or.inl ⟨by rfl,?_⟩) ?_ ?_
                            rotate_left
                            ·
                             intro w';go_simp;with_reducible rfl
                            rotate_left
                            ·
                             simp only[Act.put,sa',sb',sc',i64_w,i32_w];rfl
                            refine take_ (i:=3) (N:=some 93) (v:=?_) (a':=?_) #[true,true,true,true,true,true,true,false,false,false,false] rfl rfl (take_ofW HT_.out HW_.out (by kernel_rfl)) (fun _ _ _ h=>h) (Or.inl ⟨by rfl,?_⟩) hHeld ?_ ?_
                            rotate_left
                            ·
                             rintro w' ⟨s0,s1⟩
                             go_simp;with_reducible rfl
                            rotate_left
                            ·
                             simp only[Act.put,sa',sb',sc',i64_w,i32_w];rfl
                            refine take_ (i:=7) (N:=some 97) (v:=?_) (a':=?_) #[true,true,true,true,true,true,true,true,false,false,false] rfl rfl (take_ofW HT_.out HW_.out (by kernel_rfl)) (fun _ _ _ h=>h) (Or.inl ⟨by rfl,?_⟩) hHeld ?_ ?_
                            rotate_left
                            ·
                             rintro w' ⟨s0,s1⟩
                             go_simp;with_reducible rfl
                            rotate_left
                            ·
                             simp only[Act.put,sa',sb',sc',i64_w,i32_w];rfl
                            refine pure_ (i:=8) (N:=some 98) (v:=?_) (a':=?_) #[true,true,true,true,true,true,true,true,true,false,false] rfl rfl (any_of HT_.out (by kernel_rfl)) (fun _ _ _ h=>h) (Or.inl ⟨by rfl,?_⟩) ?_ ?_
                            rotate_left
                            ·
                             intro w';go_simp;with_reducible rfl
                            rotate_left
                            ·
                             simp only[Act.put,sa',sb',sc',i64_w,i32_w];rfl
                            refine pure_ (i:=9) (N:=some 99) (v:=?_) (a':=?_) #[true,true,true,true,true,true,true,true,true,true,false] rfl rfl (any_of HT_.out (by kernel_rfl)) (fun _ _ _ h=>h) (Or.inl ⟨by rfl,?_⟩) ?_ ?_
                            rotate_left
                            ·
                             intro w';go_simp;with_reducible rfl
                            rotate_left
                            ·
                             simp only[Act.put,sa',sb',sc',i64_w,i32_w];rfl
                            refine last_ (i:=10) (N:=none) #[true,true,true,true,true,true,true,true,true,true,true] rfl rfl (one_of HT_.out (by kernel_rfl)) (by decide) (fun K hK=>?_);refine skip_ (w1:=?_) (by rfl) rfl ?_ ?_
                            rotate_left
                            ·
                             go_simp;rfl
                            refine hK.out _ _ ?_
                            clear hK K;refine done_ (done_of HT_.out (by kernel_rfl)) ?_
                            try go_wp2
                            (try simp only[← hl6_3,← hl7_3])
                            go_roundg k3
                            case measure=>have:=HK1.out;have:=HK2.out;have:=HK3.out;omega
                            case rel=>exact ⟨(x6_3),(y221),(x9_3),(wrap64 (x54_3+1)),(by first|rfl|(simp;done)|(simp[*];done)),H',⟨by have:=HK1.out;have:=HK2.out;have:=HK3.out;omega⟩,⟨by (try simp only[hl6_1]);(try simp only[hl6_2]);(try simp only[hl7_2]);(try simp only[hl6_3]);(try simp only[hl7_3]);(with_reducible repeat (first|apply ra'|apply rn'|apply rw'));exact Kd.R_mono (Kd.R_far (p:=⟨go31,((ji48):Int).toNat,none⟩) (Kd.R_mono HO_6.out (fun k_ hk=>(⟨hk,fun e_=>hk.1 (by rw[e_];rfl)⟩:_∧k_≠go31))) (fun _ hk=>hk.2) (.int .i64 (wrap64 ((rd x7_3 (ji48))+(rd x7_3 (rd x9_2 x10_2)))))) (fun _ hk=>⟨hk.1.1,⟨hk.1.2.1,hk.1.2.2⟩⟩)⟩,⟨by (try simp only[hl6_1]);(try simp only[hl6_2]);(try simp only[hl7_2]);(try simp only[hl6_3]);(try simp only[hl7_3]);(with_reducible repeat (first|apply ra'|apply rn'|apply rw'));exact HQ78.out⟩,⟨by (try simp only[hl6_1]);(try simp only[hl6_2]);(try simp only[hl7_2]);(try simp only[hl6_3]);(try simp only[hl7_3]);(with_reducible repeat (first|apply ra'|apply rn'|apply rw'));exact Kd.R_mono (Kd.R_far (p:=⟨go31,((ji48):Int).toNat,none⟩) (Kd.R_mono HO_9.out (fun k_ hk=>(⟨hk,fun e_=>hk.2.1 (by rw[e_];rfl)⟩:_∧k_≠go31))) (fun _ hk=>hk.2) (.int .i64 (wrap64 ((rd x7_3 (ji48))+(rd x7_3 (rd x9_2 x10_2)))))) (fun _ hk=>⟨hk.1.1,⟨hk.1.2.1,hk.1.2.2⟩⟩)⟩,⟨by (try simp only[hl6_1]);(try simp only[hl6_2]);(try simp only[hl7_2]);(try simp only[hl6_3]);(try simp only[hl7_3]);(with_reducible repeat (first|apply ra'|apply rn'|apply rw'));exact Kd.R_mono (Kd.R_far (p:=⟨go31,((ji48):Int).toNat,none⟩) (Kd.R_mono HO_52.out (fun k_ hk=>(⟨hk,fun e_=>hk.2.1 (by rw[e_];rfl)⟩:_∧k_≠go31))) (fun _ hk=>hk.2) (.int .i64 (wrap64 ((rd x7_3 (ji48))+(rd x7_3 (rd x9_2 x10_2)))))) (fun _ hk=>⟨hk.1.1,⟨hk.1.2.1,hk.1.2.2⟩⟩)⟩,⟨by (try simp only[hl6_1]);(try simp only[hl6_2]);(try simp only[hl7_2]);(try simp only[hl6_3]);(try simp only[hl7_3]);(with_reducible repeat (first|refine kn' ?_ _|refine kd' ?_|refine ka' ?_ _));refine blk_far ?_ (by have h_:=Kd.R_ne HO_7.out BK186.out (by decide);intro e_;exact h_ (by rw[e_];rfl)) _;(with_reducible repeat (first|refine kn' ?_ _|refine kd' ?_|refine ka' ?_ _));exact BK186.out⟩,⟨by repeat (first|(with_reducible first|exact HB.out|apply ba'|apply bd'|apply be'|refine bs' ?_ GB31.out|refine bs' ?_ GE186.out)|exact HB.out)⟩⟩
                           ·
                            rw[if_neg c74] at H;exact absurd H (by simp)
                          ·
                           rw[if_neg c73] at H;exact absurd H (by simp)
                         ·
                          rw[if_neg c72] at H;have c72b0:((rd x6_3 (ji48)) == (wrap64 ((rd x6_3 (rd x9_2 x10_2))+1)))=false:=beq_eq_false_iff_ne.mpr c72;have c72b1:((rd x6_3 (ji48)) != (wrap64 ((rd x6_3 (rd x9_2 x10_2))+1)))=true:=bne_iff_ne.mpr c72;have H':=am' H;clear H;have p205:0≤(x54_3:Int):=of_decide_eq_true (by first|(with_reducible assumption)|assumption);have q205:x54_3 < (t202.length:Int):=of_decide_eq_true (by first|(with_reducible assumption)|assumption);obtain ⟨ad205,e205,hx205_0⟩:=Kd.at_int (Kd.R_reads' HO_52.out).2.2 x54_3 p205 q205;cases e205;replace p205:=eq_true p205;replace q205:=eq_true q205;have p206:0≤((ji48):Int):=of_decide_eq_true (by first|(with_reducible assumption)|assumption);have q206:(ji48) < (x6_3.length:Int):=of_decide_eq_true (by first|(with_reducible assumption)|assumption);obtain ⟨ad206,e206,hx206_0⟩:=Kd.at_int (Kd.R_reads' HO_6.out).2.2 (ji48) p206 q206;obtain rfl:(⟨go29,0,none⟩:Addr)=ad206:=(by injection e206)
                          (first|simp only[add_plain] at hx206_0|simp only[add_at] at hx206_0|simp only[Addr.add,Nat.zero_add] at hx206_0|skip)
                          replace p206:=eq_true p206;replace q206:=eq_true q206
                          try go_wp2
                          have n0_:=am' (rw' HO_6.out);have n1_:=am' (rw' HO_7.out);have n2_:=am' (rw' HO_9.out);have n3_:=am' (rw' HO_52.out);have n4_:=am' (kd' BK186.out);have n5_:=am' (be' HB.out);clear HO_6;clear HO_7;clear HO_9;clear HO_52;clear BK186;clear HB;have HO_6:=n0_;have HO_7:=n1_;have HO_9:=n2_;have HO_52:=n3_;have BK186:=n4_;have HB:=n5_;clear n0_ n1_ n2_ n3_ n4_ n5_;have p217:0≤((ji48):Int):=of_decide_eq_true (by first|(with_reducible assumption)|assumption);have q217:(ji48) < (x6_3.length:Int):=of_decide_eq_true (by first|(with_reducible assumption)|assumption);obtain ⟨ad217,e217,hx217_0⟩:=Kd.at_int (Kd.R_reads' HO_6.out).2.2 (ji48) p217 q217;obtain rfl:(⟨go29,0,none⟩:Addr)=ad217:=(by injection e217)
                          (first|simp only[add_plain] at hx217_0|simp only[add_at] at hx217_0|simp only[Addr.add,Nat.zero_add] at hx217_0|skip)
                          replace p217:=eq_true p217;replace q217:=eq_true q217;have p218:0≤((rd x9_2 x10_2):Int):=of_decide_eq_true (by first|(with_reducible assumption)|assumption);have q218:(rd x9_2 x10_2) < (x6_3.length:Int):=of_decide_eq_true (by first|(with_reducible assumption)|assumption);obtain ⟨ad218,e218,hx218_0⟩:=Kd.at_int (Kd.R_reads' HO_6.out).2.2 (rd x9_2 x10_2) p218 q218;obtain rfl:(⟨go29,0,none⟩:Addr)=ad218:=(by injection e218)
                          (first|simp only[add_plain] at hx218_0|simp only[add_at] at hx218_0|simp only[Addr.add,Nat.zero_add] at hx218_0|skip)
                          replace p218:=eq_true p218;replace q218:=eq_true q218;refine start_ (n:=10) (S:=fun w'=>w'.cell? ⟨go29,((ji48)).toNat,none⟩=some (.int .i64 (rd x6_3 (ji48)))∧w'.cell? ⟨go29,((rd x9_2 x10_2)).toNat,none⟩=some (.int .i64 (rd x6_3 (rd x9_2 x10_2)))) (ds:=[]) #[false,false,false,false,false,false,false,false,false,false] (by kernel_rfl) rfl rfl ⟨hx217_0,hx218_0⟩ (fun hHeld=>?_);refine with_tabW spec_cuFar.tab21 spec_cuFar.bits21 (fun HT_ HW_=>?_);generalize wr.drew=w79 at HO_6 HO_7 HO_9 HO_52 BK186 HB hx217_0 hx218_0 hHeld ⊢
                          refine pure_ (i:=0) (N:=some 80) (v:=?_) (a':=?_) #[true,false,false,false,false,false,false,false,false,false] rfl rfl (any_of HT_.out (by kernel_rfl)) (fun _ _ _ h=>h) (Or.inl ⟨by rfl,?_⟩) ?_ ?_
                          rotate_left
                          ·
                           intro w';go_simp;with_reducible rfl
                          rotate_left
                          ·
                           simp only[Act.put,sa',sb',sc',i64_w,i32_w];rfl
                          refine pure_ (i:=1) (N:=some 81) (v:=?_) (a':=?_) #[true,true,false,false,false,false,false,false,false,false] rfl rfl (any_of HT_.out (by kernel_rfl)) (fun _ _ _ h=>h) (Or.inl ⟨by rfl,?_⟩) ?_ ?_
                          rotate_left
                          ·
                           intro w';go_simp;with_reducible rfl
                          rotate_left
                          ·
                           simp only[Act.put,sa',sb',sc',i64_w,i32_w];rfl
                          refine pure_ (i:=2) (N:=some 82) (v:=?_) (a':=?_) #[true,true,true,false,false,false,false,false,false,false] rfl rfl (any_of HT_.out (by kernel_rfl)) (fun _ _ _ h=>h) (Or.inl ⟨by rfl,?_⟩) ?_ ?_
                          rotate_left
                          ·
                           intro w';go_simp;with_reducible rfl
                          rotate_left
                          ·
                           simp only[Act.put,sa',sb',sc',i64_w,i32_w];rfl
                          refine pure_ (i:=4) (N:=some 84) (v:=?_) (a':=?_) #[true,true,true,false,true,false,false,false,false,false] rfl rfl (any_of HT_.out (by kernel_rfl)) (fun _ _ _ h=>h) (Or.inl ⟨by rfl,?_⟩) ?_ ?_
                          rotate_left
                          ·
                           intro w';go_simp;with_reducible rfl
                          rotate_left
                          ·
                           simp only[Act.put,sa',sb',sc',i64_w,i32_w];rfl
                          refine pure_ (i:=5) (N:=some 85) (v:=?_) (a':=?_) #[true,true,true,false,true,true,false,false,false,false] rfl rfl (any_of HT_.out (by kernel_rfl)) (fun _ _ _ h=>h) (Or.inl ⟨by rfl,?_⟩) ?_ ?_
                          rotate_left
                          ·
                           intro w';go_simp;with_reducible rfl
                          rotate_left
                          ·
                           simp only[Act.put,sa',sb',sc',i64_w,i32_w];rfl
                          refine pure_ (i:=6) (N:=some 86) (v:=?_) (a':=?_) #[true,true,true,false,true,true,true,false,false,false] rfl rfl (any_of HT_.out (by kernel_rfl)) (fun _ _ _ h=>h) (Or.inl ⟨by rfl,?_⟩) ?_ ?_
                          rotate_left
                          ·
                           intro w';go_simp;with_reducible rfl
                          rotate_left
                          ·
                           simp only[Act.put,sa',sb',sc',i64_w,i32_w];rfl
                          refine take_ (i:=3) (N:=some 83) (v:=?_) (a':=?_) #[true,true,true,true,true,true,true,false,false,false] rfl rfl (take_ofW HT_.out HW_.out (by kernel_rfl)) (fun _ _ _ h=>h) (Or.inl ⟨by rfl,?_⟩) hHeld ?_ ?_
                          rotate_left
                          ·
                           rintro w' ⟨s0,s1⟩
                           go_simp;with_reducible rfl
                          rotate_left
                          ·
                           simp only[Act.put,sa',sb',sc',i64_w,i32_w];rfl
                          refine take_ (i:=7) (N:=some 87) (v:=?_) (a':=?_) #[true,true,true,true,true,true,true,true,false,false] rfl rfl (take_ofW HT_.out HW_.out (by kernel_rfl)) (fun _ _ _ h=>h) (Or.inl ⟨by rfl,?_⟩) hHeld ?_ ?_
                          rotate_left
                          ·
                           rintro w' ⟨s0,s1⟩
                           go_simp;with_reducible rfl
                          rotate_left
                          ·
                           simp only[Act.put,sa',sb',sc',i64_w,i32_w];rfl
                          refine pure_ (i:=8) (N:=some 88) (v:=?_) (a':=?_) #[true,true,true,true,true,true,true,true,true,false] rfl rfl (any_of HT_.out (by kernel_rfl)) (fun _ _ _ h=>h) (Or.inl ⟨by rfl,?_⟩) ?_ ?_
                          rotate_left
                          ·
                           intro w';go_simp;with_reducible rfl
                          rotate_left
                          ·
                           simp only[Act.put,sa',sb',sc',i64_w,i32_w];rfl
                          refine pure_ (i:=9) (N:=some 89) (v:=?_) (a':=?_) #[true,true,true,true,true,true,true,true,true,true] rfl rfl (any_of HT_.out (by kernel_rfl)) (fun _ _ _ h=>h) (Or.inl ⟨by rfl,?_⟩) ?_ ?_
                          rotate_left
                          ·
                           intro w';go_simp;with_reducible rfl
                          rotate_left
                          ·
                           simp only[Act.put,sa',sb',sc',i64_w,i32_w];rfl
                          refine done_ (done_of HT_.out (by kernel_rfl)) ?_
                          try go_wp2
                          (try simp only[← hl6_3,← hl7_3])
                          go_roundg k3
                          case measure=>have:=HK1.out;have:=HK2.out;have:=HK3.out;omega
                          case rel=>exact ⟨(x6_3),(x7_3),(x9_3),(wrap64 (x54_3+1)),(by first|rfl|(simp;done)|(simp[*];done)),H',⟨by have:=HK1.out;have:=HK2.out;have:=HK3.out;omega⟩,⟨by (try simp only[hl6_1]);(try simp only[hl6_2]);(try simp only[hl7_2]);(try simp only[hl6_3]);(try simp only[hl7_3]);(with_reducible repeat (first|apply ra'|apply rn'|apply rw'));exact HO_6.out⟩,⟨by (try simp only[hl6_1]);(try simp only[hl6_2]);(try simp only[hl7_2]);(try simp only[hl6_3]);(try simp only[hl7_3]);(with_reducible repeat (first|apply ra'|apply rn'|apply rw'));exact HO_7.out⟩,⟨by (try simp only[hl6_1]);(try simp only[hl6_2]);(try simp only[hl7_2]);(try simp only[hl6_3]);(try simp only[hl7_3]);(with_reducible repeat (first|apply ra'|apply rn'|apply rw'));exact HO_9.out⟩,⟨by (try simp only[hl6_1]);(try simp only[hl6_2]);(try simp only[hl7_2]);(try simp only[hl6_3]);(try simp only[hl7_3]);(with_reducible repeat (first|apply ra'|apply rn'|apply rw'));exact HO_52.out⟩,⟨by (try simp only[hl6_1]);(try simp only[hl6_2]);(try simp only[hl7_2]);(try simp only[hl6_3]);(try simp only[hl7_3]);(with_reducible repeat (first|refine kn' ?_ _|refine kd' ?_|refine ka' ?_ _));exact BK186.out⟩,⟨by repeat (first|(with_reducible first|exact HB.out|apply ba'|apply bd'|apply be'|refine bs' ?_ GE186.out)|exact HB.out)⟩⟩
                        ·
                         rw[if_neg c71] at H;exact absurd H (by simp)
                       ·
                        rw[if_neg c70] at H;exact absurd H (by simp)
                     ·
                      rw[if_neg c50] at H;exact absurd H (by simp)
                    ·
                     rw[if_neg c49] at H;exact absurd H (by simp)
                   ·
                    rw[if_neg c47] at H;exact absurd H (by simp)
                  ·
                   rw[if_neg c46] at H;exact absurd H (by simp)
                 ·
                  rw[if_neg c45] at H;have c45b0:decide (x54_3 < (t202.length:Int))=false:=decide_eq_false c45;clear c45;have H':=am' H;clear H;go_wp2
                  (try simp only[← hl6_2,← hl7_2,← hl6_3,← hl7_3])
                  go_roundg k3
                  case measure=>have:=HK1.out;have:=HK2.out;have:=HK3.out;omega
                  case rel=>exact ⟨(x6_3),(x7_3),(x9_3),(wrap64 (x10_2+1)),(by first|rfl|(simp;done)|(simp[*];done)),H',⟨by have:=HK1.out;have:=HK2.out;have:=HK3.out;omega⟩,⟨by (try simp only[hl6_1]);(try simp only[hl6_2]);(try simp only[hl7_2]);(try simp only[hl6_3]);(try simp only[hl7_3]);(with_reducible repeat (first|apply ra'|apply rn'|apply rw'));exact Kd.R_mono HO_6.out (fun _ hk=>⟨hk.1,hk.2.1⟩)⟩,⟨by (try simp only[hl6_1]);(try simp only[hl6_2]);(try simp only[hl7_2]);(try simp only[hl6_3]);(try simp only[hl7_3]);(with_reducible repeat (first|apply ra'|apply rn'|apply rw'));exact Kd.R_mono HO_7.out (fun _ hk=>⟨hk.1,hk.2.1⟩)⟩,⟨by (try simp only[hl6_1]);(try simp only[hl6_2]);(try simp only[hl7_2]);(try simp only[hl6_3]);(try simp only[hl7_3]);(with_reducible repeat (first|apply ra'|apply rn'|apply rw'));exact Kd.R_mono HO_9.out (fun _ hk=>⟨hk.1,hk.2.1⟩)⟩,⟨by (try simp only[hl6_1]);(try simp only[hl6_2]);(try simp only[hl7_2]);(try simp only[hl6_3]);(try simp only[hl7_3]);(with_reducible repeat (first|refine kn' ?_ _|refine kd' ?_|refine ka' ?_ _));exact BK186.out⟩,⟨by repeat (first|(with_reducible first|exact HB.out|apply ba'|apply bd'|apply be'|refine bs' ?_ GE186.out)|exact HB.out)⟩⟩
              ·
               rw[if_neg c39] at H;exact absurd H (by simp)
             ·
              rw[if_neg c38] at H;have c38b0:decide (x10_2 < (x9_2.length:Int))=false:=decide_eq_false c38;clear c38;simp only[Option.some.injEq,Prod.mk.injEq] at H;obtain ⟨rfl,rfl⟩:=H;obtain ⟨Ao80,co80,eo80⟩:=Kd.R_slice HO_9.out;subst eo80;go_wp2;go_ret2
              exact ⟨_,_,by first|rfl|(simp[errW_none,errW_some] <;> rfl)|(simp only[← hji4,← hji8];first|rfl|(simp[errW_none,errW_some] <;> rfl))|(simp[*,errW_none,errW_some] <;> rfl),by (with_reducible repeat (first|apply ra'|apply rn'|apply rw'));exact Kd.R_mono HO_6.out (fun _ hk=>hk.1),by (with_reducible repeat (first|apply ra'|apply rn'|apply rw'));exact Kd.R_mono HO_7.out (fun _ hk=>hk.1),by repeat (first|(with_reducible first|exact HB.out|apply ba'|apply bd'|apply be'|refine bs' ?_ GE186.out)|exact HB.out)⟩
          ·
           rw[if_neg c30] at H;exact absurd H (by simp)
         ·
          rw[if_neg c28] at H;exact absurd H (by simp)
        ·
         rw[if_neg c27] at H;exact absurd H (by simp)
    ·
     rw[if_neg c10] at H;exact absurd H (by simp)
   ·
    rw[if_neg c9] at H;exact absurd H (by simp)
  ·
   rw[if_neg c6] at H;exact absurd H (by simp)
 ·
  rw[if_neg c5] at H;exact absurd H (by simp)
end Go.Proofs.Ytibdeohiimjocaa.C19
