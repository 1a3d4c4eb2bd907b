import Derived.Test.YtamljjfhkolflaaC15zx0
import Derived.Test.YtamljjfhkolflaaC15zx1
import Derived.Test.YtamljjfhkolflaaC15zx2
import Derived.Test.YtamljjfhkolflaaC15zx3
import Derived.Test.YtamljjfhkolflaaC15zx4
import Derived.Test.YtamljjfhkolflaaC15zAl
namespace Go.Proofs.Ytamljjfhkolflaa.C15
open Go.RowKit Go.Proofs.YtamljjfhkolflaaW.PrintWords Go.Proofs.YtamljjfhkolflaaW.PrintLast Go.Proofs.YtamljjfhkolflaaW.PrintMore Go.Proofs.Ytamljjfhkolflaa.H
attribute [local go_sem] max2_int min2_int max_two min_two max_three min_three max_four min_four
set_option linter.unusedVariables false
set_option linter.unusedSimpArgs false
mutual
def spec_seFar.l0:Nat→List Int→List Bool→Int→Int→List Int→Int→List Bool→Bool→Option (List Int)
 | 0,_,_,_,_,_,_,_,_=>none
 | k+1,x5,x6,x25,x26,x184000,x184001,x185000,x185001=>if x26 < x25 then (if 0≤x26 then (if x26 < (x5.length:Int) then (spec_seFar.l0 k (x5.set (x26:Int).toNat (-1)) x6 x25 (wrap64 (x26+1)) x184000 x184001 x185000 x185001) else (none)) else (none)) else ((spec_seIndex.f k x185000 x185001).bind fun t192=>(if 0≤t192 then (if t192 < (x5.length:Int) then (spec_seFar.l1 k (x5.set (t192:Int).toNat 0) x6 x184000 x184001) else (none)) else (none)))
def spec_seFar.l1:Nat→List Int→List Bool→List Int→Int→Option (List Int)
 | 0,_,_,_,_=>none
 | k+1,x5,x6,x184000,x184001=>spec_seFar.l2 k x5 x6 (-1) x5 (x5.length:Int) 0 x184000 x184001
def spec_seFar.l2:Nat→List Int→List Bool→Int→List Int→Int→Int→List Int→Int→Option (List Int)
 | 0,_,_,_,_,_,_,_,_=>none
 | k+1,x5,x6,x8,x37,x38,x39,x184000,x184001=>if x39 < x38 then (if 0≤x39 then (if x39 < (x37.length:Int) then (if x39 < (x6.length:Int) then (if rdOf false x6 x39=true then (spec_seFar.l2 k x5 x6 x8 x37 x38 (wrap64 (x39+1)) x184000 x184001) else (if (rd x37 x39) ≥ 0 then (if x8 < 0 then (spec_seFar.l2 k x5 x6 x39 x37 x38 (wrap64 (x39+1)) x184000 x184001) else (if 0≤x8 then (if x8 < (x5.length:Int) then (if (rd x37 x39) < (rd x5 x8) then (spec_seFar.l2 k x5 x6 x39 x37 x38 (wrap64 (x39+1)) x184000 x184001) else (spec_seFar.l2 k x5 x6 x8 x37 x38 (wrap64 (x39+1)) x184000 x184001)) else (none)) else (none))) else (spec_seFar.l2 k x5 x6 x8 x37 x38 (wrap64 (x39+1)) x184000 x184001))) else (none)) else (none)) else (none)) else (if x8 < 0 then (some x5) else (if 0≤x8 then (if x8 < (x6.length:Int) then ((spec_seState.f k x8 (x184000.length:Int)).bind fun bt198=>((spec_paTrips.f k x184000 x184001 bt198.1 bt198.2).bind fun t203=>(spec_seFar.l3 k x5 (x6.set (x8:Int).toNat true) x8 t203 (t203.length:Int) 0 x184000 x184001 bt198.1 bt198.2))) else (none)) else (none)))
def spec_seFar.l3:Nat→List Int→List Bool→Int→List (List Int)→Int→Int→List Int→Int→List Bool→Bool→Option (List Int)
 | 0,_,_,_,_,_,_,_,_,_,_=>none
 | k+1,x5,x6,x8,x80,x81,x82,x184000,x184001,x203000,x203001=>if x82 < x81 then (if 0≤x82 then (if x82 < (x80.length:Int) then ((spec_paCross.f k x203000 x203001 (rd_L2 x80 x82)).bind fun bt207=>((spec_seIndex.f k bt207.1 bt207.2).bind fun t211=>(if 0≤x8 then (if x8 < (x5.length:Int) then ((spec_paTime.f k x184000 x184001 (rd_L2 x80 x82)).bind fun t213=>(if 0≤t211 then (if t211 < (x5.length:Int) then (if (rd x5 t211) < 0 then (spec_seFar.l3 k (x5.set (t211:Int).toNat (wrap64 ((rd x5 x8)+t213))) x6 x8 x80 x81 (wrap64 (x82+1)) x184000 x184001 x203000 x203001) else (if (wrap64 ((rd x5 x8)+t213)) < (rd x5 t211) then (spec_seFar.l3 k (x5.set (t211:Int).toNat (wrap64 ((rd x5 x8)+t213))) x6 x8 x80 x81 (wrap64 (x82+1)) x184000 x184001 x203000 x203001) else (spec_seFar.l3 k x5 x6 x8 x80 x81 (wrap64 (x82+1)) x184000 x184001 x203000 x203001))) else (none)) else (none))) else (none)) else (none)))) else (none)) else (none)) else (spec_seFar.l1 k x5 x6 x184000 x184001)
end
def spec_seFar.f (k:Nat) (l0_0:List Int) (a0_1:Int) (l1_0:List Bool) (a1_1:Bool):Option (List Int):=if 0≤(shl .i64 2 (l0_0.length:Int)) then (if (shl .i64 2 (l0_0.length:Int):Int).toNat≤35184372088832 then ((some (List.replicate (shl .i64 2 (l0_0.length:Int):Int).toNat 0:List Int)).bind fun y185=>(if 0≤(y185.length:Int) then (if ((y185.length:Int):Int).toNat≤281474976710656 then (spec_seFar.l0 k y185 (List.replicate ((y185.length:Int):Int).toNat false) (y185.length:Int) 0 l0_0 a0_1 l1_0 a1_1) else (none)) else (none))) else (none)) else (none)
def spec_seFar.T24:Bool × List (List Nat × List Nat):=(true,[([],[]),([],[]),([0,1],[0,1]),([2],[2]),([],[]),([],[]),([4,5],[4,5]),([3,6],[3,6]),([7,6,0,1,2,3,4,5,6,7],[7])])
def spec_seFar.B24:List Nat:=[0,0,3,7,0,0,48,127,255]
theorem spec_seFar.tab24:rtab .any (opsOf Try.f61 24)=spec_seFar.T24:=by kernel_rfl
theorem spec_seFar.bits24:waitsOk spec_seFar.T24.2 spec_seFar.B24=true:=by kernel_rfl
set_option maxHeartbeats 8000000 in
set_option maxRecDepth 100000 in
theorem spec_seFar.calls (k:Nat) (A0_0:Option Addr) (c0_0:Nat) (l0_0:List Int) (a0_1:Int) (A1_0:Option Addr) (c1_0:Nat) (l1_0:List Bool) (a1_1:Bool) (r:List Int) (w:World) (hr0_0:Kd.C (Kd.int .i64) w A0_0 l0_0.length l0_0) (hc0_0:l0_0.length≤c0_0) (hr1_0:Kd.C Kd.bool w A1_0 l1_0.length l1_0) (hc1_0:l1_0.length≤c1_0) (h:spec_seFar.f k l0_0 a0_1 l1_0 a1_1=some r) :
  Calls Try.prog 61 #[.agg #[.slice A0_0 l0_0.length c0_0, .int .i64 a0_1], .agg #[.slice A1_0 l1_0.length c1_0, .bool a1_1]] w fun e w'=>∃ v0_:Value,e = .returned (v0_)∧Kd.R (Kd.int .i64) 3 w' w.heap.size (fun _=>True) v0_ r∧Below w.heap.size w w':=by
 have hu28:=Try.underlying28
 have hu44:=Try.underlying44
 have HR0_0:=am' hr0_0
 have HC0_0:=am' hc0_0
 clear hr0_0 hc0_0;have HR1_0:=am' hr1_0
 have HC1_0:=am' hc1_0
 clear hr1_0 hc1_0;have HB:=am' (Below.refl w.heap.size w)
 have H:(if 0≤(shl .i64 2 (l0_0.length:Int)) then (if (shl .i64 2 (l0_0.length:Int):Int).toNat≤35184372088832 then ((some (List.replicate (shl .i64 2 (l0_0.length:Int):Int).toNat 0:List Int)).bind fun y185=>(if 0≤(y185.length:Int) then (if ((y185.length:Int):Int).toNat≤281474976710656 then (spec_seFar.l0 k y185 (List.replicate ((y185.length:Int):Int).toNat false) (y185.length:Int) 0 l0_0 a0_1 l1_0 a1_1) else (none)) else (none))) else (none)) else (none))=some r:=h
 clear h;obtain ⟨ji3,hji3⟩:∃ j_:Int,(shl .i64 2 (l0_0.length:Int))=j_:=⟨_,rfl⟩
 replace H:(if 0≤(ji3) then (if (ji3:Int).toNat≤35184372088832 then ((some (List.replicate (ji3:Int).toNat 0:List Int)).bind fun y185=>(if 0≤(y185.length:Int) then (if ((y185.length:Int):Int).toNat≤281474976710656 then (spec_seFar.l0 k y185 (List.replicate ((y185.length:Int):Int).toNat false) (y185.length:Int) 0 l0_0 a0_1 l1_0 a1_1) else (none)) else (none))) else (none)) else (none))=some r:=by first|(rw[hji3] at H;exact H)|(simp only[hji3] at H ⊢;exact H)
 have hji3_:(IntKind.i64.wrap (2 * 2 ^ min (l0_0.length:Int).toNat 64))=ji3:=hji3
 have hji3z:(l0_0.length:Int)≤64→(IntKind.i64.wrap (2 * 2 ^ (l0_0.length:Int).toNat))=ji3:=shl_small hji3
 have hji3p:(IntKind.i64.wrap (2 * 2 ^ min l0_0.length 64))=ji3:=hji3_
 have hji3q:(l0_0.length:Int)≤64→(IntKind.i64.wrap (2 * 2 ^ l0_0.length))=ji3:=hji3z
 have hji3y:(wrap64 (2 * 2 ^ min (l0_0.length:Int).toNat 64))=ji3:=(i64_w _).symm.trans hji3_
 have hji3x:(l0_0.length:Int)≤64→(wrap64 (2 * 2 ^ (l0_0.length:Int).toNat))=ji3:=fun h_=>(i64_w _).symm.trans (hji3z h_)
 by_cases c4:0≤(ji3)
 ·
  rw[if_pos c4] at H;have c4b0:=eq_true c4;have c4b1:decide (0≤(ji3))=true:=decide_eq_true c4;clear c4;by_cases c5:(ji3:Int).toNat≤35184372088832
  ·
   rw[if_pos c5] at H;have c5b0:=eq_true c5;have c5b1:decide ((ji3:Int).toNat≤35184372088832)=true:=decide_eq_true c5;clear c5;obtain ⟨y185,hy185⟩:∃ y_:List Int,y_=(List.replicate (ji3:Int).toNat 0):=⟨_,rfl⟩
   replace H:(if 0≤(y185.length:Int) then (if ((y185.length:Int):Int).toNat≤281474976710656 then (spec_seFar.l0 k y185 (List.replicate ((y185.length:Int):Int).toNat false) (y185.length:Int) 0 l0_0 a0_1 l1_0 a1_1) else (none)) else (none))=some r:=by first|(rw[hy185];with_reducible exact H)|(have H2_:=(Option.bind_some _ _).symm.trans H;rw[hy185];with_reducible exact H2_)|(have H2_:=(Option.bind_some _ _).symm.trans H;with_reducible exact H2_)|with_reducible exact H|(rw[hy185];exact H)|exact H
   have Ny185:=am' hy185;clear hy185;by_cases c6:0≤(y185.length:Int)
   ·
    rw[if_pos c6] at H;have c6b0:=eq_true c6;have c6b1:decide (0≤(y185.length:Int))=true:=decide_eq_true c6;clear c6;by_cases c7:((y185.length:Int):Int).toNat≤281474976710656
    ·
     rw[if_pos c7] at H;have c7b0:=eq_true c7;have c7b1:decide (((y185.length:Int):Int).toNat≤281474976710656)=true:=decide_eq_true c7;clear c7;obtain ⟨y188,hy188⟩:∃ y_:List Bool,y_=(List.replicate ((y185.length:Int):Int).toNat false):=⟨_,rfl⟩
     replace H:(spec_seFar.l0 k y185 y188 (y185.length:Int) 0 l0_0 a0_1 l1_0 a1_1)=some r:=by first|(rw[hy188];with_reducible exact H)|(have H2_:=(Option.bind_some _ _).symm.trans H;rw[hy188];with_reducible exact H2_)|(have H2_:=(Option.bind_some _ _).symm.trans H;with_reducible exact H2_)|with_reducible exact H|(rw[hy188];exact H)|exact H
     have Ny188:=am' hy188;clear hy188;have H':=am' H;clear H;go_enter Try.func61,Try.ntmps61;go_wp2_with (first|((with_reducible refine gate_dst (N:=2) rfl ?_);refine box_event ?hg (N:=2) ?hd (cs:=#[.slice A0_0 l0_0.length c0_0, .int .i64 a0_1]) (t:=28) ?hr ?_;(case hd=>rfl);(case hg=>rfl);(case hr=>first|(go_simp;done)|(go_simp;rfl));intro gb183 hg w8 hbox hb;have n0_:=am' (below_step (by repeat (first|(with_reducible first|exact HB.out|apply ba'|apply bd'|apply be')|exact HB.out)) hb);have n1_:=am' (hbox);have n2_:=am' ((by rw[hg];exact (below_size (by repeat (first|(with_reducible first|exact HB.out|apply ba'|apply bd'|apply be')|exact HB.out))):w.heap.size≤gb183));have n3_:=am' ((by rw[hg];exact (below_size (by repeat (first|(with_reducible first|exact HB.out|apply ba'|apply bd'|apply be')|exact HB.out))):w.heap.size≤gb183));clear HB;have HB:=n0_;have BK183:=n1_;have GW183:=n2_;have GE183:=n3_;clear n0_ n1_ n2_ n3_;clear hb hbox hg)|((with_reducible refine gate_dst (N:=3) rfl ?_);refine box_event ?hg (N:=3) ?hd (cs:=#[.slice A1_0 l1_0.length c1_0, .bool a1_1]) (t:=44) ?hr ?_;(case hd=>rfl);(case hg=>rfl);(case hr=>first|(go_simp;done)|(go_simp;rfl));intro gb184 hg w9 hbox hb;have n0_:=am' (blk_below (g:=gb183) (o := .cells #[.slice A0_0 l0_0.length c0_0, .int .i64 a0_1] 28 (0,0)) (by (with_reducible repeat (first|refine kn' ?_ _|refine kd' ?_|refine ka' ?_ _));exact BK183.out) hb);have n1_:=am' (below_step (by repeat (first|(with_reducible first|exact HB.out|apply ba'|apply bd'|apply be'|refine bs' ?_ GE183.out)|exact HB.out)) hb);have n2_:=am' (hbox);have n3_:=am' ((by rw[hg];exact (below_size (by repeat (first|(with_reducible first|exact HB.out|apply ba'|apply bd'|apply be'|refine bs' ?_ GE183.out)|exact HB.out))):w.heap.size≤gb184));have n4_:=am' ((by rw[hg];exact (below_size (by repeat (first|(with_reducible first|exact HB.out|apply ba'|apply bd'|apply be'|refine bs' ?_ GE183.out)|exact HB.out))):w.heap.size≤gb184));have n5_:=am' ((by rw[hg];exact Nat.ne_of_lt (blk_lt (g:=gb183) (o := .cells #[.slice A0_0 l0_0.length c0_0, .int .i64 a0_1] 28 (0,0)) (by (with_reducible repeat (first|refine kn' ?_ _|refine kd' ?_|refine ka' ?_ _));exact BK183.out)):gb183≠gb184));have n6_:=am' ((by rw[hg];exact Nat.ne_of_gt (blk_lt (g:=gb183) (o := .cells #[.slice A0_0 l0_0.length c0_0, .int .i64 a0_1] 28 (0,0)) (by (with_reducible repeat (first|refine kn' ?_ _|refine kd' ?_|refine ka' ?_ _));exact BK183.out)):gb184≠gb183));clear BK183;clear HB;have BK183:=n0_;have HB:=n1_;have BK184:=n2_;have GW184:=n3_;have GE184:=n4_;have NB183_184:=n5_;have NB184_183:=n6_;clear n0_ n1_ n2_ n3_ n4_ n5_ n6_;clear hb hbox hg;have hnb10:=NB183_184.out;have hnc10:=NB184_183.out;have hcz11_0:w9.cell? ⟨gb183,0,none⟩=some (.slice A0_0 l0_0.length c0_0):=(blk_cell BK183.out 0).trans rfl;have hcz11_1:w9.cell? ⟨gb183,1,none⟩=some (.int .i64 a0_1):=(blk_cell BK183.out 1).trans rfl;have hfz11_0:=blk_frozen BK183.out 0;have hfz11_1:=blk_frozen BK183.out 1)|((with_reducible refine gate_dst (N:=20) rfl ?_);refine Kd.R_make (Kd.int .i64) _ 3 rfl (N:=20) rfl 22 _ _ rfl ji3 rfl rfl Try.underlying22 (.int .i64 0) 8 info3 rfl (by decide) (by omega) 0 (ok:=fun _=>True) (okp:=fun _=>True) rfl (fun _ hk=>hk) trivial (of_decide_eq_true (by first|(with_reducible assumption)|assumption)) (Nat.le_trans (Nat.mul_le_mul_right _ (of_decide_eq_true (by first|(with_reducible assumption)|assumption):ji3.toNat≤35184372088832)) (by omega)) (Below.refl _ _) (Nat.le_refl _) ?_;intro v186 w12 ho13 hb hg_ hnew_;clear hg_ hnew_;(first|rw[← Ny185.out] at ho13|(simp only[Int.reduceToNat] at ho13;rw[← Ny185.out] at ho13));have n0_:=am' (Kd.R_lower ho13 (below_size (by repeat (first|(with_reducible first|exact HB.out|apply ba'|apply bd'|apply be'|refine bs' ?_ GE183.out|refine bs' ?_ GE184.out)|exact HB.out))));have n1_:=am' (blk_below (g:=gb183) (o := .cells #[.slice A0_0 l0_0.length c0_0, .int .i64 a0_1] 28 (0,0)) (by (with_reducible repeat (first|refine kn' ?_ _|refine kd' ?_|refine ka' ?_ _));exact BK183.out) hb);have n2_:=am' (blk_below (g:=gb184) (o := .cells #[.slice A1_0 l1_0.length c1_0, .bool a1_1] 44 (0,0)) (by (with_reducible repeat (first|refine kn' ?_ _|refine kd' ?_|refine ka' ?_ _));exact BK184.out) hb);have n3_:=am' (below_step (by repeat (first|(with_reducible first|exact HB.out|apply ba'|apply bd'|apply be'|refine bs' ?_ GE183.out|refine bs' ?_ GE184.out)|exact HB.out)) hb);clear BK183;clear BK184;clear HB;have HO187:=n0_;have BK183:=n1_;have BK184:=n2_;have HB:=n3_;clear n0_ n1_ n2_ n3_;clear hb ho13;obtain ⟨Ao14,co14,eo14⟩:=Kd.R_slice HO187.out;subst eo14)|((with_reducible refine gate_dst (N:=23) rfl ?_);refine Kd.R_make Kd.bool _ 4 rfl (N:=23) rfl 39 _ _ rfl (y185.length:Int) rfl rfl Try.underlying39 (.bool false) 1 info4 rfl (by decide) (by omega) false (ok:=fun _=>True) (okp:=fun _=>True) rfl (fun _ hk=>hk) trivial (of_decide_eq_true (by first|(with_reducible assumption)|assumption)) (Nat.le_trans (Nat.mul_le_mul_right _ (of_decide_eq_true (by first|(with_reducible assumption)|assumption):(y185.length:Int).toNat≤281474976710656)) (by omega)) (Below.refl _ _) (Nat.le_refl _) ?_;intro v189 w15 ho16 hb hg_ hnew_;clear hg_ hnew_;(first|rw[← Ny188.out] at ho16|(simp only[Int.reduceToNat] at ho16;rw[← Ny188.out] at ho16));have n0_:=am' (Kd.R_below (by (with_reducible repeat (first|apply ra'|apply rn'|apply rw'));exact HO187.out) hb);have n1_:=am' (Kd.R_lower ho16 (below_size (by repeat (first|(with_reducible first|exact HB.out|apply ba'|apply bd'|apply be'|refine bs' ?_ GE183.out|refine bs' ?_ GE184.out)|exact HB.out))));have n2_:=am' (blk_below (g:=gb183) (o := .cells #[.slice A0_0 l0_0.length c0_0, .int .i64 a0_1] 28 (0,0)) (by (with_reducible repeat (first|refine kn' ?_ _|refine kd' ?_|refine ka' ?_ _));exact BK183.out) hb);have n3_:=am' (blk_below (g:=gb184) (o := .cells #[.slice A1_0 l1_0.length c1_0, .bool a1_1] 44 (0,0)) (by (with_reducible repeat (first|refine kn' ?_ _|refine kd' ?_|refine ka' ?_ _));exact BK184.out) hb);have n4_:=am' (below_step (by repeat (first|(with_reducible first|exact HB.out|apply ba'|apply bd'|apply be'|refine bs' ?_ GE183.out|refine bs' ?_ GE184.out)|exact HB.out)) hb);clear HO187;clear BK183;clear BK184;clear HB;have HO187:=n0_;have HO190:=n1_;have BK183:=n2_;have BK184:=n3_;have HB:=n4_;clear n0_ n1_ n2_ n3_ n4_;clear hb ho16))
     go_loopg [26] k (fun kq v26 w'=>∃ (x5_1:List Int) (x26_1:Int),v26 = .int .i64 x26_1∧Aside0 (spec_seFar.l0 kq x5_1 y188 (y185.length:Int) x26_1 l0_0 a0_1 l1_0 a1_1=some r)∧Aside0 (kq≤k)∧Aside0 (Kd.R (Kd.int .i64) 3 w' w.heap.size (fun _=>True) (.slice Ao14 y185.length co14) x5_1)∧Aside0 (Kd.R Kd.bool 4 w' w.heap.size (fun _=>True) v189 y188)∧Aside0 (w'.heap[gb183]? = some (.cells #[(.slice A0_0 l0_0.length c0_0), .int .i64 a0_1] 28 (0,0)))∧Aside0 (w'.heap[gb184]? = some (.cells #[(.slice A1_0 l1_0.length c1_0), .bool a1_1] 44 (0,0)))∧Aside0 (Below w.heap.size w w'))
     case atStart=>exact ⟨(y185),(0),(by first|rfl|(simp;done)|(simp[*];done)),H',⟨Nat.le_refl _⟩,⟨by (with_reducible repeat (first|apply ra'|apply rn'|apply rw'));exact HO187.out⟩,⟨by (with_reducible repeat (first|apply ra'|apply rn'|apply rw'));exact HO190.out⟩,⟨by (with_reducible repeat (first|refine kn' ?_ _|refine kd' ?_|refine ka' ?_ _));exact BK183.out⟩,⟨by (with_reducible repeat (first|refine kn' ?_ _|refine kd' ?_|refine ka' ?_ _));exact BK184.out⟩,⟨by repeat (first|(with_reducible first|exact HB.out|apply ba'|apply bd'|apply be'|refine bs' ?_ GE183.out|refine bs' ?_ GE184.out)|exact HB.out)⟩⟩
     case round =>
      clear H';try clear c1
      try clear p2
      try clear c4
      try clear c4b0
      try clear c4b1
      try clear c5
      try clear c5b0
      try clear c5b1
      try clear c6
      try clear c6b0
      try clear c6b1
      try clear p6
      try clear c7
      try clear c7b0
      try clear c7b1
      try clear c10
      try clear hcz11_0
      try clear hcz11_1
      try clear hfz11_0
      try clear hfz11_1
      obtain ⟨x5_1,x26_1,rfl,HA,HK1,HO_5,HO_6,BK183,BK184,HB⟩:=hrel;have hl5_1:=(Kd.R_reads' HO_5.out).1;rw[hl5_1] at HO_5
      (try simp only[hl5_1])
      (try simp only[hl5_1] at BK183)
      (try simp only[hl5_1] at BK184)
      (try simp only[hl5_1] at HO_6)
      cases gk with
      | zero=>exact absurd HA.out (by simp[spec_seFar.l0])
      | succ k1 =>
       have H:=HA.out;clear HA;simp only[spec_seFar.l0] at H;by_cases c17:x26_1 < (y185.length:Int)
       ·
        rw[if_pos c17] at H;have c17b0:decide (x26_1 < (y185.length:Int))=true:=decide_eq_true c17;clear c17;by_cases c18:0≤x26_1
        ·
         rw[if_pos c18] at H;have c18b0:decide (0≤x26_1)=true:=decide_eq_true c18;clear c18;by_cases c19:x26_1 < (x5_1.length:Int)
         ·
          rw[if_pos c19] at H;have c19b0:decide (x26_1 < (x5_1.length:Int))=true:=decide_eq_true c19;clear c19;obtain ⟨y191,hy191⟩:∃ y_:List Int,y_=(x5_1.set (x26_1:Int).toNat (-1)):=⟨_,rfl⟩
          replace H:(spec_seFar.l0 k1 y191 y188 (y185.length:Int) (wrap64 (x26_1+1)) l0_0 a0_1 l1_0 a1_1)=some r:=by first|(rw[hy191];with_reducible exact H)|(have H2_:=(Option.bind_some _ _).symm.trans H;rw[hy191];with_reducible exact H2_)|(have H2_:=(Option.bind_some _ _).symm.trans H;with_reducible exact H2_)|with_reducible exact H|(rw[hy191];exact H)|exact H
          have Ny191:=am' hy191;clear hy191;have H':=am' H;clear H;have p20:0≤(x26_1:Int):=of_decide_eq_true (by first|(with_reducible assumption)|assumption);have q20:(x26_1:Int) < ((x5_1.length:Int):Int):=of_decide_eq_true (by first|(with_reducible assumption)|assumption);obtain ⟨go20,co20,eo20,gb20,gl20,cl20,HG20⟩:=Kd.R_form HO_5.out (by omega)
          (first|cases eo20|(injection eo20 with ea_ en_ ec_;(first|subst ea_|(injection ea_ with ea_;subst ea_));subst ec_;clear en_))
          have GB20:=am' gb20;have GG20:=am' HG20;clear gb20 gl20 HG20;obtain ⟨hx20_0,hf20_0⟩:=Kd.R_celln 0 HO_5.out (x26_1:Int) p20 q20;replace p20:=eq_true p20;replace q20:=eq_true q20;have HP21:=Kd.R_putg HO_5.out (x26_1:Int) (-1);go_wp2_with (first|((with_reducible refine gate_store (t:=3) (p:=31) rfl ?_);refine store_event (t:=3) (p:=31) (v:=?vo_w22) (w1:=(wr.setCell ⟨go20,(x26_1:Int).toNat,none⟩ (.int .i64 (-1)))) ?hg ?ho ?hn ?hr ?_;(case ho=>rfl);(case hg=>rfl);(case hn=>rfl);(case hr=>first|(go_simp;done)|(go_simp;rfl));intro w22 hw;have hg:wr.grownBy w22 (some go20):=(by rw[hw];exact HP21.2);have hp_:Kd.R (Kd.int .i64) 3 w22 w.heap.size (fun _=>True) (.slice (some ⟨go20,0,none⟩) x5_1.length co14) y191:=(by rw[hw,Ny191.out];exact HP21.1);clear HP21;have n0_:=am' (hp_);have n1_:=am' (Kd.R_over' (v:=(.slice (some ⟨go20,0,none⟩) x5_1.length co14)) (by (with_reducible repeat (first|apply ra'|apply rn'|apply rw'));exact HO_6.out) (Kd.R_typed HO_5.out) (by decide) hg);have n2_:=am' (blk_grown (g:=gb183) (o := .cells #[.slice A0_0 l0_0.length c0_0, .int .i64 a0_1] 28 (0,0)) (by (with_reducible repeat (first|refine kn' ?_ _|refine kd' ?_|refine ka' ?_ _));exact BK183.out) hg (Kd.R_ne HO_5.out BK183.out (by decide)));have n3_:=am' (blk_grown (g:=gb184) (o := .cells #[.slice A1_0 l1_0.length c1_0, .bool a1_1] 44 (0,0)) (by (with_reducible repeat (first|refine kn' ?_ _|refine kd' ?_|refine ka' ?_ _));exact BK184.out) hg (Kd.R_ne HO_5.out BK184.out (by decide)));have n4_:=am' ((by rw[hw];exact bs' (HB.out) GB20.out:Below w.heap.size w w22));clear HO_5;clear HO_6;clear BK183;clear BK184;clear HB;have HO_5:=n0_;have HO_6:=n1_;have BK183:=n2_;have BK184:=n3_;have HB:=n4_;clear n0_ n1_ n2_ n3_ n4_;clear hg hw hp_))
          (try simp only[← hl5_1])
          go_roundg k1
          case measure=>have:=HK1.out;omega
          case rel=>exact ⟨(y191),(wrap64 (x26_1+1)),(by first|rfl|(simp;done)|(simp[*];done)),H',⟨by have:=HK1.out;omega⟩,⟨by (try simp only[hl5_1]);(with_reducible repeat (first|apply ra'|apply rn'|apply rw'));exact HO_5.out⟩,⟨by (try simp only[hl5_1]);(with_reducible repeat (first|apply ra'|apply rn'|apply rw'));exact HO_6.out⟩,⟨by (try simp only[hl5_1]);(with_reducible repeat (first|refine kn' ?_ _|refine kd' ?_|refine ka' ?_ _));exact BK183.out⟩,⟨by (try simp only[hl5_1]);(with_reducible repeat (first|refine kn' ?_ _|refine kd' ?_|refine ka' ?_ _));exact BK184.out⟩,⟨by repeat (first|(with_reducible first|exact HB.out|apply ba'|apply bd'|apply be'|refine bs' ?_ GE183.out|refine bs' ?_ GE184.out)|exact HB.out)⟩⟩
         ·
          rw[if_neg c19] at H;exact absurd H (by simp)
        ·
         rw[if_neg c18] at H;exact absurd H (by simp)
       ·
        rw[if_neg c17] at H;have c17b0:decide (x26_1 < (y185.length:Int))=false:=decide_eq_false c17
        (try (have c17bz:=c17b0;rw[hl5_1] at c17bz))
        clear c17;replace H:=Option.bind_eq_some_iff.mp H;obtain ⟨t192,A230,H⟩:=H;replace H:(if 0≤t192 then (if t192 < (x5_1.length:Int) then (spec_seFar.l1 k1 (x5_1.set (t192:Int).toNat 0) y188 l0_0 a0_1) else (none)) else (none))=some r:=H;have A23:=am' A230;clear A230;by_cases c24:0≤t192
        ·
         rw[if_pos c24] at H;have c24b0:decide (0≤t192)=true:=decide_eq_true c24;clear c24;by_cases c25:t192 < (x5_1.length:Int)
         ·
          rw[if_pos c25] at H;have c25b0:decide (t192 < (x5_1.length:Int))=true:=decide_eq_true c25;clear c25;obtain ⟨y193,hy193⟩:∃ y_:List Int,y_=(x5_1.set (t192:Int).toNat 0):=⟨_,rfl⟩
          replace H:(spec_seFar.l1 k1 y193 y188 l0_0 a0_1)=some r:=by first|(rw[hy193];with_reducible exact H)|(have H2_:=(Option.bind_some _ _).symm.trans H;rw[hy193];with_reducible exact H2_)|(have H2_:=(Option.bind_some _ _).symm.trans H;with_reducible exact H2_)|with_reducible exact H|(rw[hy193];exact H)|exact H
          have Ny193:=am' hy193;clear hy193;have H':=am' H;clear H;have hnb27:=NB184_183.out;have hnc27:=NB183_184.out;have hcz28_0:wr.cell? ⟨gb184,0,none⟩=some (.slice A1_0 l1_0.length c1_0):=(blk_cell BK184.out 0).trans rfl;have hcz28_1:wr.cell? ⟨gb184,1,none⟩=some (.bool a1_1):=(blk_cell BK184.out 1).trans rfl;have hfz28_0:=blk_frozen BK184.out 0;have hfz28_1:=blk_frozen BK184.out 1;go_wp2_with (first|((with_reducible refine gate_callee (f:=78) rfl ?_);refine goesL_ (some 35) rfl rfl Try.func78 (by kernel_rfl) rfl #[.agg #[.slice A1_0 l1_0.length c1_0, .bool a1_1]] rfl (by (try simp only[List.map_toArray,List.map_cons,List.map_nil]);first|done|rfl|(simp only[List.length_drop,List.length_take];rfl)) ?_;(with_reducible refine (spec_seIndex.calls k1 _ _ l1_0 a1_1 t192 _ ?side1 ?side2 A23.out).mono ?_);(case side1=>repeat (first|exact (Kd.C_below HR1_0.out HB.out)|(with_reducible refine ca' ?_ _)|(with_reducible refine cn' ?_ _)|(with_reducible refine cd' ?_)));(case side2=>exact HC1_0.out);rintro e w29 ⟨rfl,hb⟩;refine ⟨_,rfl,?_⟩;have n0_:=am' (Kd.R_below (by (with_reducible repeat (first|apply ra'|apply rn'|apply rw'));exact HO_5.out) hb);have n1_:=am' (Kd.R_below (by (with_reducible repeat (first|apply ra'|apply rn'|apply rw'));exact HO_6.out) hb);have n2_:=am' (blk_below (g:=gb183) (o := .cells #[.slice A0_0 l0_0.length c0_0, .int .i64 a0_1] 28 (0,0)) (by (with_reducible repeat (first|refine kn' ?_ _|refine kd' ?_|refine ka' ?_ _));exact BK183.out) hb);have n3_:=am' (blk_below (g:=gb184) (o := .cells #[.slice A1_0 l1_0.length c1_0, .bool a1_1] 44 (0,0)) (by (with_reducible repeat (first|refine kn' ?_ _|refine kd' ?_|refine ka' ?_ _));exact BK184.out) hb);have n4_:=am' (below_step (by repeat (first|(with_reducible first|exact HB.out|apply ba'|apply bd'|apply be'|refine bs' ?_ GE183.out|refine bs' ?_ GE184.out)|exact HB.out)) hb);clear HO_5;clear HO_6;clear BK183;clear BK184;clear HB;have HO_5:=n0_;have HO_6:=n1_;have BK183:=n2_;have BK184:=n3_;have HB:=n4_;clear n0_ n1_ n2_ n3_ n4_;(try clear hb);(try clear hb2);(try clear hk);(try clear hi);have p26:0≤(t192:Int):=of_decide_eq_true (by first|(with_reducible assumption)|assumption);have q26:(t192:Int) < ((x5_1.length:Int):Int):=of_decide_eq_true (by first|(with_reducible assumption)|assumption);obtain ⟨go26,co26,eo26,gb26,gl26,cl26,HG26⟩:=Kd.R_form HO_5.out (by omega);(first|cases eo26|(injection eo26 with ea_ en_ ec_;(first|subst ea_|(injection ea_ with ea_;subst ea_));subst ec_;clear en_));have GB26:=am' gb26;have GG26:=am' HG26;clear gb26 gl26 HG26;obtain ⟨hx26_0,hf26_0⟩:=Kd.R_celln 0 HO_5.out (t192:Int) p26 q26;replace p26:=eq_true p26;replace q26:=eq_true q26;obtain ⟨hy30_,hz30_⟩:=Kd.R_celln 0 HO_5.out (t192:Int) (of_decide_eq_true (by first|(with_reducible assumption)|assumption)) (of_decide_eq_true (by first|(with_reducible assumption)|assumption));have HP30:=Kd.R_putg HO_5.out (t192:Int) 0)|((with_reducible refine gate_store (t:=3) (p:=36) rfl ?_);refine store_event (t:=3) (p:=36) (v:=?vo_w31) (w1:=(w29.setCell ⟨go26,(t192:Int).toNat,none⟩ (.int .i64 0))) ?hg ?ho ?hn ?hr ?_;(case ho=>rfl);(case hg=>rfl);(case hn=>rfl);(case hr=>first|(go_simp;done)|(go_simp;rfl));intro w31 hw;have hg:w29.grownBy w31 (some go26):=(by rw[hw];exact HP30.2);have hp_:Kd.R (Kd.int .i64) 3 w31 w.heap.size (fun _=>True) (.slice (some ⟨go26,0,none⟩) x5_1.length co14) y193:=(by rw[hw,Ny193.out];exact HP30.1);clear HP30;have n0_:=am' (hp_);have n1_:=am' (Kd.R_over' (v:=(.slice (some ⟨go26,0,none⟩) x5_1.length co14)) (by (with_reducible repeat (first|apply ra'|apply rn'|apply rw'));exact HO_6.out) (Kd.R_typed HO_5.out) (by decide) hg);have n2_:=am' (blk_grown (g:=gb183) (o := .cells #[.slice A0_0 l0_0.length c0_0, .int .i64 a0_1] 28 (0,0)) (by (with_reducible repeat (first|refine kn' ?_ _|refine kd' ?_|refine ka' ?_ _));exact BK183.out) hg (Kd.R_ne HO_5.out BK183.out (by decide)));have n3_:=am' (blk_grown (g:=gb184) (o := .cells #[.slice A1_0 l1_0.length c1_0, .bool a1_1] 44 (0,0)) (by (with_reducible repeat (first|refine kn' ?_ _|refine kd' ?_|refine ka' ?_ _));exact BK184.out) hg (Kd.R_ne HO_5.out BK184.out (by decide)));have n4_:=am' ((by rw[hw];exact bs' (HB.out) GB26.out:Below w.heap.size w w31));clear HO_5;clear HO_6;clear BK183;clear BK184;clear HB;have HO_5:=n0_;have HO_6:=n1_;have BK183:=n2_;have BK184:=n3_;have HB:=n4_;clear n0_ n1_ n2_ n3_ n4_;clear hg hw hp_))
          go_loopg [] k1 (fun kq w'=>∃ (x5_2:List Int) (x6_2:List Bool),Aside0 (spec_seFar.l1 kq x5_2 x6_2 l0_0 a0_1=some r)∧Aside0 (kq≤k1)∧Aside0 (Kd.R (Kd.int .i64) 3 w' w.heap.size (fun _=>True) (.slice (some ⟨go26,0,none⟩) x5_1.length co14) x5_2)∧Aside0 (Kd.R Kd.bool 4 w' w.heap.size (fun _=>True) v189 x6_2)∧Aside0 (w'.heap[gb183]? = some (.cells #[(.slice A0_0 l0_0.length c0_0), .int .i64 a0_1] 28 (0,0)))∧Aside0 (w'.heap[gb184]? = some (.cells #[(.slice A1_0 l1_0.length c1_0), .bool a1_1] 44 (0,0)))∧Aside0 (Below w.heap.size w w'))
          case atStart=>exact ⟨(y193),(y188),H',⟨Nat.le_refl _⟩,⟨by (try simp only[hl5_1]);(with_reducible repeat (first|apply ra'|apply rn'|apply rw'));exact HO_5.out⟩,⟨by (try simp only[hl5_1]);(with_reducible repeat (first|apply ra'|apply rn'|apply rw'));exact HO_6.out⟩,⟨by (try simp only[hl5_1]);(with_reducible repeat (first|refine kn' ?_ _|refine kd' ?_|refine ka' ?_ _));exact BK183.out⟩,⟨by (try simp only[hl5_1]);(with_reducible repeat (first|refine kn' ?_ _|refine kd' ?_|refine ka' ?_ _));exact BK184.out⟩,⟨by repeat (first|(with_reducible first|exact HB.out|apply ba'|apply bd'|apply be'|refine bs' ?_ GE183.out|refine bs' ?_ GE184.out)|exact HB.out)⟩⟩
          case round =>
           clear H';try clear c1
           try clear c2
           try clear p2
           try clear q2
           try clear hx2
           try clear hf2
           try clear c4
           try clear c4b0
           try clear c4b1
           try clear c5
           try clear c5b0
           try clear c5b1
           try clear c6
           try clear c6b0
           try clear c6b1
           try clear p6
           try clear c7
           try clear c7b0
           try clear c7b1
           try clear c10
           try clear c17
           try clear c17b0
           try clear c18
           try clear c18b0
           try clear c19
           try clear c19b0
           try clear p20
           try clear q20
           try clear hx20
           try clear hf20
           try clear c24
           try clear c24b0
           try clear c25
           try clear c25b0
           try clear p26
           try clear q26
           try clear hx26
           try clear hf26
           try clear c27
           try clear hcz11_0
           try clear hcz11_1
           try clear hcz28_0
           try clear hcz28_1
           try clear hfz11_0
           try clear hfz11_1
           try clear hfz28_0
           try clear hfz28_1
           try clear hx20_0
           try clear hx26_0
           try clear p2
           try clear p20
           try clear p26
           try clear p6
           try clear q20
           try clear q26
           obtain ⟨x5_2,x6_2,HA,HK2,HO_5,HO_6,BK183,BK184,HB⟩:=hrel;have hl5_2:=(Kd.R_reads' HO_5.out).1;rw[hl5_2] at HO_5
           (try simp only[hl5_2])
           (try simp only[hl5_2] at BK183)
           (try simp only[hl5_2] at BK184)
           (try simp only[hl5_2] at HO_6)
           cases gk with
           | zero=>exact absurd HA.out (by simp[spec_seFar.l1])
           | succ k2 =>
            have H:=HA.out;clear HA;simp only[spec_seFar.l1] at H;have H':=am' H;clear H;go_wp2;go_loopg [8,39] k2 (fun kq v8 v39 w'=>∃ (x8_3:Int) (x39_3:Int),v8 = .int .i64 x8_3∧v39 = .int .i64 x39_3∧Aside0 (spec_seFar.l2 kq x5_2 x6_2 x8_3 x5_2 (x5_2.length:Int) x39_3 l0_0 a0_1=some r)∧Aside0 (kq≤k2)∧Aside0 (Kd.R (Kd.int .i64) 3 w' w.heap.size (fun _=>True) (.slice (some ⟨go26,0,none⟩) x5_2.length co14) x5_2)∧Aside0 (Kd.R Kd.bool 4 w' w.heap.size (fun _=>True) v189 x6_2)∧Aside0 (Kd.R (Kd.int .i64) 3 w' w.heap.size (fun _=>True) (.slice (some ⟨go26,0,none⟩) x5_2.length co14) x5_2)∧Aside0 (w'.heap[gb183]? = some (.cells #[(.slice A0_0 l0_0.length c0_0), .int .i64 a0_1] 28 (0,0)))∧Aside0 (w'.heap[gb184]? = some (.cells #[(.slice A1_0 l1_0.length c1_0), .bool a1_1] 44 (0,0)))∧Aside0 (Below w.heap.size w w'))
            case atStart=>exact ⟨((-1)),(0),(by first|rfl|(simp;done)|(simp[*];done)),(by first|rfl|(simp;done)|(simp[*];done)),H',⟨Nat.le_refl _⟩,⟨by (try simp only[hl5_1]);(try simp only[hl5_2]);(with_reducible repeat (first|apply ra'|apply rn'|apply rw'));exact HO_5.out⟩,⟨by (try simp only[hl5_1]);(try simp only[hl5_2]);(with_reducible repeat (first|apply ra'|apply rn'|apply rw'));exact HO_6.out⟩,⟨by (try simp only[hl5_1]);(try simp only[hl5_2]);(with_reducible repeat (first|apply ra'|apply rn'|apply rw'));exact HO_5.out⟩,⟨by (try simp only[hl5_1]);(try simp only[hl5_2]);(with_reducible repeat (first|refine kn' ?_ _|refine kd' ?_|refine ka' ?_ _));exact BK183.out⟩,⟨by (try simp only[hl5_1]);(try simp only[hl5_2]);(with_reducible repeat (first|refine kn' ?_ _|refine kd' ?_|refine ka' ?_ _));exact BK184.out⟩,⟨by repeat (first|(with_reducible first|exact HB.out|apply ba'|apply bd'|apply be'|refine bs' ?_ GE183.out|refine bs' ?_ GE184.out)|exact HB.out)⟩⟩
            case round =>
             clear H';try clear c1
             try clear c2
             try clear p2
             try clear q2
             try clear hx2
             try clear hf2
             try clear c4
             try clear c4b0
             try clear c4b1
             try clear c5
             try clear c5b0
             try clear c5b1
             try clear c6
             try clear c6b0
             try clear c6b1
             try clear p6
             try clear c7
             try clear c7b0
             try clear c7b1
             try clear c10
             try clear c17
             try clear c17b0
             try clear c18
             try clear c18b0
             try clear c19
             try clear c19b0
             try clear p20
             try clear q20
             try clear hx20
             try clear hf20
             try clear c24
             try clear c24b0
             try clear c25
             try clear c25b0
             try clear p26
             try clear q26
             try clear hx26
             try clear hf26
             try clear c27
             try clear hcz11_0
             try clear hcz11_1
             try clear hcz28_0
             try clear hcz28_1
             try clear hfz11_0
             try clear hfz11_1
             try clear hfz28_0
             try clear hfz28_1
             try clear hx20_0
             try clear hx26_0
             try clear p2
             try clear p20
             try clear p26
             try clear p6
             try clear q2
             try clear q20
             try clear q26
             obtain ⟨x8_3,x39_3,rfl,rfl,HA,HK3,HO_5,HO_6,HO_37,BK183,BK184,HB⟩:=hrel;cases gk with
             | zero=>exact absurd HA.out (by simp[spec_seFar.l2])
             | succ k3 =>
              have H:=HA.out;clear HA;simp only[spec_seFar.l2] at H;by_cases c32:x39_3 < (x5_2.length:Int)
              ·
               rw[if_pos c32] at H;have c32b0:decide (x39_3 < (x5_2.length:Int))=true:=decide_eq_true c32;clear c32;by_cases c33:0≤x39_3
               ·
                rw[if_pos c33] at H;have c33b0:decide (0≤x39_3)=true:=decide_eq_true c33;clear c33;by_cases c34:x39_3 < (x5_2.length:Int)
                ·
                 rw[if_pos c34] at H;have c34b0:decide (x39_3 < (x5_2.length:Int))=true:=decide_eq_true c34;clear c34;by_cases c35:x39_3 < (x6_2.length:Int)
                 ·
                  rw[if_pos c35] at H;have c35b0:decide (x39_3 < (x6_2.length:Int))=true:=decide_eq_true c35;clear c35;obtain ⟨bq36,hbq36⟩:∃ b_:Bool,b_=(rdOf false x6_2 x39_3):=⟨_,rfl⟩
                  replace H:(if bq36=true then (spec_seFar.l2 k3 x5_2 x6_2 x8_3 x5_2 (x5_2.length:Int) (wrap64 (x39_3+1)) l0_0 a0_1) else (if (rd x5_2 x39_3) ≥ 0 then (if x8_3 < 0 then (spec_seFar.l2 k3 x5_2 x6_2 x39_3 x5_2 (x5_2.length:Int) (wrap64 (x39_3+1)) l0_0 a0_1) else (if 0≤x8_3 then (if x8_3 < (x5_2.length:Int) then (if (rd x5_2 x39_3) < (rd x5_2 x8_3) then (spec_seFar.l2 k3 x5_2 x6_2 x39_3 x5_2 (x5_2.length:Int) (wrap64 (x39_3+1)) l0_0 a0_1) else (spec_seFar.l2 k3 x5_2 x6_2 x8_3 x5_2 (x5_2.length:Int) (wrap64 (x39_3+1)) l0_0 a0_1)) else (none)) else (none))) else (spec_seFar.l2 k3 x5_2 x6_2 x8_3 x5_2 (x5_2.length:Int) (wrap64 (x39_3+1)) l0_0 a0_1)))=some r:=by rw[← hbq36] at H;exact H
                  have Nbq36:=am' hbq36;clear hbq36;by_cases c37:bq36=true
                  ·
                   subst c37;have H1:(spec_seFar.l2 k3 x5_2 x6_2 x8_3 x5_2 (x5_2.length:Int) (wrap64 (x39_3+1)) l0_0 a0_1)=some r:=by rw[if_pos rfl] at H;exact H
                   clear H;have H:=H1;clear H1;have H':=am' H;clear H;have p194:0≤(x39_3:Int):=of_decide_eq_true (by first|(with_reducible assumption)|assumption);have q194:x39_3 < (x5_2.length:Int):=of_decide_eq_true (by first|(with_reducible assumption)|assumption);obtain ⟨ad194,e194,hx194_0⟩:=Kd.at_int (Kd.R_reads' HO_37.out).2.2 x39_3 p194 q194;obtain rfl:(⟨go26,0,none⟩:Addr)=ad194:=(by injection e194)
                   (first|simp only[add_plain] at hx194_0|simp only[add_at] at hx194_0|simp only[Addr.add,Nat.zero_add] at hx194_0|skip)
                   replace p194:=eq_true p194;replace q194:=eq_true q194;obtain ⟨Ao38,co38,eo38⟩:=Kd.R_slice HO_6.out;subst eo38;have p195:0≤(x39_3:Int):=of_decide_eq_true (by first|(with_reducible assumption)|assumption);have q195:x39_3 < (x6_2.length:Int):=of_decide_eq_true (by first|(with_reducible assumption)|assumption);obtain ⟨ad195,e195,hx195_0⟩:=Kd.at_bool (Kd.R_reads' HO_6.out).2.2 x39_3 p195 q195
                   (try rw [← Nbq36.out] at hx195_0)
                   cases e195
                   replace p195:=eq_true p195;replace q195:=eq_true q195;go_wp2;go_roundg k3
                   case measure=>have:=HK1.out;have:=HK2.out;have:=HK3.out;omega
                   case rel=>exact ⟨(x8_3),(wrap64 (x39_3+1)),(by first|rfl|(simp;done)|(simp[*];done)),(by first|rfl|(simp;done)|(simp[*];done)),H',⟨by have:=HK1.out;have:=HK2.out;have:=HK3.out;omega⟩,⟨by (try simp only[hl5_1]);(try simp only[hl5_2]);(with_reducible repeat (first|apply ra'|apply rn'|apply rw'));exact HO_5.out⟩,⟨by (try simp only[hl5_1]);(try simp only[hl5_2]);(with_reducible repeat (first|apply ra'|apply rn'|apply rw'));exact HO_6.out⟩,⟨by (try simp only[hl5_1]);(try simp only[hl5_2]);(with_reducible repeat (first|apply ra'|apply rn'|apply rw'));exact HO_37.out⟩,⟨by (try simp only[hl5_1]);(try simp only[hl5_2]);(with_reducible repeat (first|refine kn' ?_ _|refine kd' ?_|refine ka' ?_ _));exact BK183.out⟩,⟨by (try simp only[hl5_1]);(try simp only[hl5_2]);(with_reducible repeat (first|refine kn' ?_ _|refine kd' ?_|refine ka' ?_ _));exact BK184.out⟩,⟨by repeat (first|(with_reducible first|exact HB.out|apply ba'|apply bd'|apply be'|refine bs' ?_ GE183.out|refine bs' ?_ GE184.out)|exact HB.out)⟩⟩
                  ·
                   replace c37:=Bool.eq_false_iff.mpr c37;subst c37;have H1:(if (rd x5_2 x39_3) ≥ 0 then (if x8_3 < 0 then (spec_seFar.l2 k3 x5_2 x6_2 x39_3 x5_2 (x5_2.length:Int) (wrap64 (x39_3+1)) l0_0 a0_1) else (if 0≤x8_3 then (if x8_3 < (x5_2.length:Int) then (if (rd x5_2 x39_3) < (rd x5_2 x8_3) then (spec_seFar.l2 k3 x5_2 x6_2 x39_3 x5_2 (x5_2.length:Int) (wrap64 (x39_3+1)) l0_0 a0_1) else (spec_seFar.l2 k3 x5_2 x6_2 x8_3 x5_2 (x5_2.length:Int) (wrap64 (x39_3+1)) l0_0 a0_1)) else (none)) else (none))) else (spec_seFar.l2 k3 x5_2 x6_2 x8_3 x5_2 (x5_2.length:Int) (wrap64 (x39_3+1)) l0_0 a0_1))=some r:=by rw[if_neg (show ¬ (false=true) by decide)] at H;exact H
                   clear H;have H:=H1;clear H1;by_cases c39:(rd x5_2 x39_3) ≥ 0
                   ·
                    rw[if_pos c39] at H;have c39b0:decide (0≤(rd x5_2 x39_3))=true:=decide_eq_true c39;clear c39;by_cases c40:x8_3 < 0
                    ·
                     rw[if_pos c40] at H;have c40b0:decide (x8_3 < 0)=true:=decide_eq_true c40;clear c40;have H':=am' H;clear H;have p194:0≤(x39_3:Int):=of_decide_eq_true (by first|(with_reducible assumption)|assumption);have q194:x39_3 < (x5_2.length:Int):=of_decide_eq_true (by first|(with_reducible assumption)|assumption);obtain ⟨ad194,e194,hx194_0⟩:=Kd.at_int (Kd.R_reads' HO_37.out).2.2 x39_3 p194 q194;obtain rfl:(⟨go26,0,none⟩:Addr)=ad194:=(by injection e194)
                     (first|simp only[add_plain] at hx194_0|simp only[add_at] at hx194_0|simp only[Addr.add,Nat.zero_add] at hx194_0|skip)
                     replace p194:=eq_true p194;replace q194:=eq_true q194;obtain ⟨Ao41,co41,eo41⟩:=Kd.R_slice HO_6.out;subst eo41;have p195:0≤(x39_3:Int):=of_decide_eq_true (by first|(with_reducible assumption)|assumption);have q195:x39_3 < (x6_2.length:Int):=of_decide_eq_true (by first|(with_reducible assumption)|assumption);obtain ⟨ad195,e195,hx195_0⟩:=Kd.at_bool (Kd.R_reads' HO_6.out).2.2 x39_3 p195 q195
                     (try rw [← Nbq36.out] at hx195_0)
                     cases e195
                     replace p195:=eq_true p195;replace q195:=eq_true q195;go_wp2;go_roundg k3
                     case measure=>have:=HK1.out;have:=HK2.out;have:=HK3.out;omega
                     case rel=>exact ⟨(x39_3),(wrap64 (x39_3+1)),(by first|rfl|(simp;done)|(simp[*];done)),(by first|rfl|(simp;done)|(simp[*];done)),H',⟨by have:=HK1.out;have:=HK2.out;have:=HK3.out;omega⟩,⟨by (try simp only[hl5_1]);(try simp only[hl5_2]);(with_reducible repeat (first|apply ra'|apply rn'|apply rw'));exact HO_5.out⟩,⟨by (try simp only[hl5_1]);(try simp only[hl5_2]);(with_reducible repeat (first|apply ra'|apply rn'|apply rw'));exact HO_6.out⟩,⟨by (try simp only[hl5_1]);(try simp only[hl5_2]);(with_reducible repeat (first|apply ra'|apply rn'|apply rw'));exact HO_37.out⟩,⟨by (try simp only[hl5_1]);(try simp only[hl5_2]);(with_reducible repeat (first|refine kn' ?_ _|refine kd' ?_|refine ka' ?_ _));exact BK183.out⟩,⟨by (try simp only[hl5_1]);(try simp only[hl5_2]);(with_reducible repeat (first|refine kn' ?_ _|refine kd' ?_|refine ka' ?_ _));exact BK184.out⟩,⟨by repeat (first|(with_reducible first|exact HB.out|apply ba'|apply bd'|apply be'|refine bs' ?_ GE183.out|refine bs' ?_ GE184.out)|exact HB.out)⟩⟩
                    ·
                     rw[if_neg c40] at H;have c40b0:decide (x8_3 < 0)=false:=decide_eq_false c40;clear c40;by_cases c42:0≤x8_3
                     ·
                      rw[if_pos c42] at H;have c42b0:decide (0≤x8_3)=true:=decide_eq_true c42;clear c42;by_cases c43:x8_3 < (x5_2.length:Int)
                      ·
                       rw[if_pos c43] at H;have c43b0:decide (x8_3 < (x5_2.length:Int))=true:=decide_eq_true c43;clear c43;by_cases c44:(rd x5_2 x39_3) < (rd x5_2 x8_3)
                       ·
                        rw[if_pos c44] at H;have c44b0:decide ((rd x5_2 x39_3) < (rd x5_2 x8_3))=true:=decide_eq_true c44;clear c44;have H':=am' H;clear H;have p194:0≤(x39_3:Int):=of_decide_eq_true (by first|(with_reducible assumption)|assumption);have q194:x39_3 < (x5_2.length:Int):=of_decide_eq_true (by first|(with_reducible assumption)|assumption);obtain ⟨ad194,e194,hx194_0⟩:=Kd.at_int (Kd.R_reads' HO_37.out).2.2 x39_3 p194 q194;obtain rfl:(⟨go26,0,none⟩:Addr)=ad194:=(by injection e194)
                        (first|simp only[add_plain] at hx194_0|simp only[add_at] at hx194_0|simp only[Addr.add,Nat.zero_add] at hx194_0|skip)
                        replace p194:=eq_true p194;replace q194:=eq_true q194;obtain ⟨Ao45,co45,eo45⟩:=Kd.R_slice HO_6.out;subst eo45;have p195:0≤(x39_3:Int):=of_decide_eq_true (by first|(with_reducible assumption)|assumption);have q195:x39_3 < (x6_2.length:Int):=of_decide_eq_true (by first|(with_reducible assumption)|assumption);obtain ⟨ad195,e195,hx195_0⟩:=Kd.at_bool (Kd.R_reads' HO_6.out).2.2 x39_3 p195 q195
                        (try rw [← Nbq36.out] at hx195_0)
                        cases e195
                        replace p195:=eq_true p195;replace q195:=eq_true q195;have p196:0≤(x8_3:Int):=of_decide_eq_true (by first|(with_reducible assumption)|assumption);have q196:x8_3 < (x5_2.length:Int):=of_decide_eq_true (by first|(with_reducible assumption)|assumption);obtain ⟨ad196,e196,hx196_0⟩:=Kd.at_int (Kd.R_reads' HO_5.out).2.2 x8_3 p196 q196;obtain rfl:(⟨go26,0,none⟩:Addr)=ad196:=(by injection e196)
                        (first|simp only[add_plain] at hx196_0|simp only[add_at] at hx196_0|simp only[Addr.add,Nat.zero_add] at hx196_0|skip)
                        replace p196:=eq_true p196;replace q196:=eq_true q196;go_wp2;go_roundg k3
                        case measure=>have:=HK1.out;have:=HK2.out;have:=HK3.out;omega
                        case rel=>exact ⟨(x39_3),(wrap64 (x39_3+1)),(by first|rfl|(simp;done)|(simp[*];done)),(by first|rfl|(simp;done)|(simp[*];done)),H',⟨by have:=HK1.out;have:=HK2.out;have:=HK3.out;omega⟩,⟨by (try simp only[hl5_1]);(try simp only[hl5_2]);(with_reducible repeat (first|apply ra'|apply rn'|apply rw'));exact HO_5.out⟩,⟨by (try simp only[hl5_1]);(try simp only[hl5_2]);(with_reducible repeat (first|apply ra'|apply rn'|apply rw'));exact HO_6.out⟩,⟨by (try simp only[hl5_1]);(try simp only[hl5_2]);(with_reducible repeat (first|apply ra'|apply rn'|apply rw'));exact HO_37.out⟩,⟨by (try simp only[hl5_1]);(try simp only[hl5_2]);(with_reducible repeat (first|refine kn' ?_ _|refine kd' ?_|refine ka' ?_ _));exact BK183.out⟩,⟨by (try simp only[hl5_1]);(try simp only[hl5_2]);(with_reducible repeat (first|refine kn' ?_ _|refine kd' ?_|refine ka' ?_ _));exact BK184.out⟩,⟨by repeat (first|(with_reducible first|exact HB.out|apply ba'|apply bd'|apply be'|refine bs' ?_ GE183.out|refine bs' ?_ GE184.out)|exact HB.out)⟩⟩
                       ·
                        rw[if_neg c44] at H;have c44b0:decide ((rd x5_2 x39_3) < (rd x5_2 x8_3))=false:=decide_eq_false c44;clear c44;have H':=am' H;clear H;have p194:0≤(x39_3:Int):=of_decide_eq_true (by first|(with_reducible assumption)|assumption);have q194:x39_3 < (x5_2.length:Int):=of_decide_eq_true (by first|(with_reducible assumption)|assumption);obtain ⟨ad194,e194,hx194_0⟩:=Kd.at_int (Kd.R_reads' HO_37.out).2.2 x39_3 p194 q194;obtain rfl:(⟨go26,0,none⟩:Addr)=ad194:=(by injection e194)
                        (first|simp only[add_plain] at hx194_0|simp only[add_at] at hx194_0|simp only[Addr.add,Nat.zero_add] at hx194_0|skip)
                        replace p194:=eq_true p194;replace q194:=eq_true q194;obtain ⟨Ao46,co46,eo46⟩:=Kd.R_slice HO_6.out;subst eo46;have p195:0≤(x39_3:Int):=of_decide_eq_true (by first|(with_reducible assumption)|assumption);have q195:x39_3 < (x6_2.length:Int):=of_decide_eq_true (by first|(with_reducible assumption)|assumption);obtain ⟨ad195,e195,hx195_0⟩:=Kd.at_bool (Kd.R_reads' HO_6.out).2.2 x39_3 p195 q195
                        (try rw [← Nbq36.out] at hx195_0)
                        cases e195
                        replace p195:=eq_true p195;replace q195:=eq_true q195;have p196:0≤(x8_3:Int):=of_decide_eq_true (by first|(with_reducible assumption)|assumption);have q196:x8_3 < (x5_2.length:Int):=of_decide_eq_true (by first|(with_reducible assumption)|assumption);obtain ⟨ad196,e196,hx196_0⟩:=Kd.at_int (Kd.R_reads' HO_5.out).2.2 x8_3 p196 q196;obtain rfl:(⟨go26,0,none⟩:Addr)=ad196:=(by injection e196)
                        (first|simp only[add_plain] at hx196_0|simp only[add_at] at hx196_0|simp only[Addr.add,Nat.zero_add] at hx196_0|skip)
                        replace p196:=eq_true p196;replace q196:=eq_true q196;go_wp2;go_roundg k3
                        case measure=>have:=HK1.out;have:=HK2.out;have:=HK3.out;omega
                        case rel=>exact ⟨(x8_3),(wrap64 (x39_3+1)),(by first|rfl|(simp;done)|(simp[*];done)),(by first|rfl|(simp;done)|(simp[*];done)),H',⟨by have:=HK1.out;have:=HK2.out;have:=HK3.out;omega⟩,⟨by (try simp only[hl5_1]);(try simp only[hl5_2]);(with_reducible repeat (first|apply ra'|apply rn'|apply rw'));exact HO_5.out⟩,⟨by (try simp only[hl5_1]);(try simp only[hl5_2]);(with_reducible repeat (first|apply ra'|apply rn'|apply rw'));exact HO_6.out⟩,⟨by (try simp only[hl5_1]);(try simp only[hl5_2]);(with_reducible repeat (first|apply ra'|apply rn'|apply rw'));exact HO_37.out⟩,⟨by (try simp only[hl5_1]);(try simp only[hl5_2]);(with_reducible repeat (first|refine kn' ?_ _|refine kd' ?_|refine ka' ?_ _));exact BK183.out⟩,⟨by (try simp only[hl5_1]);(try simp only[hl5_2]);(with_reducible repeat (first|refine kn' ?_ _|refine kd' ?_|refine ka' ?_ _));exact BK184.out⟩,⟨by repeat (first|(with_reducible first|exact HB.out|apply ba'|apply bd'|apply be'|refine bs' ?_ GE183.out|refine bs' ?_ GE184.out)|exact HB.out)⟩⟩
                      ·
                       rw[if_neg c43] at H;exact absurd H (by simp)
                     ·
                      rw[if_neg c42] at H;exact absurd H (by simp)
                   ·
                    rw[if_neg c39] at H;have c39b0:decide (0≤(rd x5_2 x39_3))=false:=decide_eq_false c39;clear c39;have H':=am' H;clear H;have p194:0≤(x39_3:Int):=of_decide_eq_true (by first|(with_reducible assumption)|assumption);have q194:x39_3 < (x5_2.length:Int):=of_decide_eq_true (by first|(with_reducible assumption)|assumption);obtain ⟨ad194,e194,hx194_0⟩:=Kd.at_int (Kd.R_reads' HO_37.out).2.2 x39_3 p194 q194;obtain rfl:(⟨go26,0,none⟩:Addr)=ad194:=(by injection e194)
                    (first|simp only[add_plain] at hx194_0|simp only[add_at] at hx194_0|simp only[Addr.add,Nat.zero_add] at hx194_0|skip)
                    replace p194:=eq_true p194;replace q194:=eq_true q194;obtain ⟨Ao47,co47,eo47⟩:=Kd.R_slice HO_6.out;subst eo47;have p195:0≤(x39_3:Int):=of_decide_eq_true (by first|(with_reducible assumption)|assumption);have q195:x39_3 < (x6_2.length:Int):=of_decide_eq_true (by first|(with_reducible assumption)|assumption);obtain ⟨ad195,e195,hx195_0⟩:=Kd.at_bool (Kd.R_reads' HO_6.out).2.2 x39_3 p195 q195
                    (try rw [← Nbq36.out] at hx195_0)
                    cases e195
                    replace p195:=eq_true p195;replace q195:=eq_true q195;go_wp2;go_roundg k3
                    case measure=>have:=HK1.out;have:=HK2.out;have:=HK3.out;omega
                    case rel=>exact ⟨(x8_3),(wrap64 (x39_3+1)),(by first|rfl|(simp;done)|(simp[*];done)),(by first|rfl|(simp;done)|(simp[*];done)),H',⟨by have:=HK1.out;have:=HK2.out;have:=HK3.out;omega⟩,⟨by (try simp only[hl5_1]);(try simp only[hl5_2]);(with_reducible repeat (first|apply ra'|apply rn'|apply rw'));exact HO_5.out⟩,⟨by (try simp only[hl5_1]);(try simp only[hl5_2]);(with_reducible repeat (first|apply ra'|apply rn'|apply rw'));exact HO_6.out⟩,⟨by (try simp only[hl5_1]);(try simp only[hl5_2]);(with_reducible repeat (first|apply ra'|apply rn'|apply rw'));exact HO_37.out⟩,⟨by (try simp only[hl5_1]);(try simp only[hl5_2]);(with_reducible repeat (first|refine kn' ?_ _|refine kd' ?_|refine ka' ?_ _));exact BK183.out⟩,⟨by (try simp only[hl5_1]);(try simp only[hl5_2]);(with_reducible repeat (first|refine kn' ?_ _|refine kd' ?_|refine ka' ?_ _));exact BK184.out⟩,⟨by repeat (first|(with_reducible first|exact HB.out|apply ba'|apply bd'|apply be'|refine bs' ?_ GE183.out|refine bs' ?_ GE184.out)|exact HB.out)⟩⟩
                 ·
                  rw[if_neg c35] at H;exact absurd H (by simp)
                ·
                 rw[if_neg c34] at H;exact absurd H (by simp)
               ·
                rw[if_neg c33] at H;exact absurd H (by simp)
              ·
               rw[if_neg c32] at H;have c32b0:decide (x39_3 < (x5_2.length:Int))=false:=decide_eq_false c32;clear c32;by_cases c48:x8_3 < 0
               ·
                rw[if_pos c48] at H;have c48b0:decide (x8_3 < 0)=true:=decide_eq_true c48;clear c48;obtain rfl:=Option.some.inj H;go_wp2;go_ret
                exact ⟨_,by first|rfl|(simp[errW_none,errW_some] <;> rfl)|(simp only[← hji3];first|rfl|(simp[errW_none,errW_some] <;> rfl))|(simp[*,errW_none,errW_some] <;> rfl),by (with_reducible repeat (first|apply ra'|apply rn'|apply rw'));exact HO_5.out,by repeat (first|(with_reducible first|exact HB.out|apply ba'|apply bd'|apply be'|refine bs' ?_ GE183.out|refine bs' ?_ GE184.out)|exact HB.out)⟩
               ·
                rw[if_neg c48] at H;have c48b0:decide (x8_3 < 0)=false:=decide_eq_false c48;clear c48;by_cases c49:0≤x8_3
                ·
                 rw[if_pos c49] at H;have c49b0:decide (0≤x8_3)=true:=decide_eq_true c49;clear c49;by_cases c50:x8_3 < (x6_2.length:Int)
                 ·
                  rw[if_pos c50] at H;have c50b0:decide (x8_3 < (x6_2.length:Int))=true:=decide_eq_true c50;clear c50;obtain ⟨y197,hy197⟩:∃ y_:List Bool,y_=(x6_2.set (x8_3:Int).toNat true):=⟨_,rfl⟩
                  replace H:((spec_seState.f k3 x8_3 (l0_0.length:Int)).bind fun bt198=>((spec_paTrips.f k3 l0_0 a0_1 bt198.1 bt198.2).bind fun t203=>(spec_seFar.l3 k3 x5_2 y197 x8_3 t203 (t203.length:Int) 0 l0_0 a0_1 bt198.1 bt198.2)))=some r:=by first|(rw[hy197];with_reducible exact H)|(have H2_:=(Option.bind_some _ _).symm.trans H;rw[hy197];with_reducible exact H2_)|(have H2_:=(Option.bind_some _ _).symm.trans H;with_reducible exact H2_)|with_reducible exact H|(rw[hy197];exact H)|exact H
                  have Ny197:=am' hy197;clear hy197;replace H:=Option.bind_eq_some_iff.mp H;obtain ⟨⟨t198,t201⟩,A520,H⟩:=H;replace H:((spec_paTrips.f k3 l0_0 a0_1 t198 t201).bind fun t203=>(spec_seFar.l3 k3 x5_2 y197 x8_3 t203 (t203.length:Int) 0 l0_0 a0_1 t198 t201))=some r:=H;have A52:=am' A520;clear A520;replace H:=Option.bind_eq_some_iff.mp H;obtain ⟨t203,A530,H⟩:=H;replace H:(spec_seFar.l3 k3 x5_2 y197 x8_3 t203 (t203.length:Int) 0 l0_0 a0_1 t198 t201)=some r:=H;have A53:=am' A530;clear A530;have H':=am' H;clear H;have p51:0≤(x8_3:Int):=of_decide_eq_true (by first|(with_reducible assumption)|assumption);have q51:(x8_3:Int) < ((x6_2.length:Int):Int):=of_decide_eq_true (by first|(with_reducible assumption)|assumption);obtain ⟨go51,co51,eo51,gb51,gl51,cl51,HG51⟩:=Kd.R_form HO_6.out (by omega)
                  (first|cases eo51|(injection eo51 with ea_ en_ ec_;(first|subst ea_|(injection ea_ with ea_;subst ea_));subst ec_;clear en_))
                  have GB51:=am' gb51;have GG51:=am' HG51;clear gb51 gl51 HG51;obtain ⟨hx51_0,hf51_0⟩:=Kd.R_celln false HO_6.out (x8_3:Int) p51 q51;replace p51:=eq_true p51;replace q51:=eq_true q51;have HP54:=Kd.R_putg HO_6.out (x8_3:Int) true;go_wp2_with (first|((with_reducible refine gate_store (t:=4) (p:=72) rfl ?_);refine store_event (t:=4) (p:=72) (v:=?vo_w55) (w1:=(wr.setCell ⟨go51,(x8_3:Int).toNat,none⟩ (.bool true))) ?hg ?ho ?hn ?hr ?_;(case ho=>rfl);(case hg=>rfl);(case hn=>rfl);(case hr=>first|(go_simp;done)|(go_simp;rfl));intro w55 hw;have hg:wr.grownBy w55 (some go51):=(by rw[hw];exact HP54.2);have hp_:Kd.R Kd.bool 4 w55 w.heap.size (fun _=>True) (.slice (some ⟨go51,0,none⟩) x6_2.length co51) y197:=(by rw[hw,Ny197.out];exact HP54.1);clear HP54;have n0_:=am' (Kd.R_over' (v:=(.slice (some ⟨go51,0,none⟩) x6_2.length co51)) (by (with_reducible repeat (first|apply ra'|apply rn'|apply rw'));exact HO_5.out) (Kd.R_typed HO_6.out) (by decide) hg);have n1_:=am' (hp_);have n2_:=am' (Kd.R_over' (v:=(.slice (some ⟨go51,0,none⟩) x6_2.length co51)) (by (with_reducible repeat (first|apply ra'|apply rn'|apply rw'));exact HO_37.out) (Kd.R_typed HO_6.out) (by decide) hg);have n3_:=am' (blk_grown (g:=gb183) (o := .cells #[.slice A0_0 l0_0.length c0_0, .int .i64 a0_1] 28 (0,0)) (by (with_reducible repeat (first|refine kn' ?_ _|refine kd' ?_|refine ka' ?_ _));exact BK183.out) hg (Kd.R_ne HO_6.out BK183.out (by decide)));have n4_:=am' (blk_grown (g:=gb184) (o := .cells #[.slice A1_0 l1_0.length c1_0, .bool a1_1] 44 (0,0)) (by (with_reducible repeat (first|refine kn' ?_ _|refine kd' ?_|refine ka' ?_ _));exact BK184.out) hg (Kd.R_ne HO_6.out BK184.out (by decide)));have n5_:=am' ((by rw[hw];exact bs' (HB.out) GB51.out:Below w.heap.size w w55));clear HO_5;clear HO_6;clear HO_37;clear BK183;clear BK184;clear HB;have HO_5:=n0_;have HO_6:=n1_;have HO_37:=n2_;have BK183:=n3_;have BK184:=n4_;have HB:=n5_;clear n0_ n1_ n2_ n3_ n4_ n5_;clear hg hw hp_;have hnb56:=NB183_184.out;have hnc56:=NB184_183.out;have hcz57_0:w55.cell? ⟨gb183,0,none⟩=some (.slice A0_0 l0_0.length c0_0):=(blk_cell BK183.out 0).trans rfl;have hcz57_1:w55.cell? ⟨gb183,1,none⟩=some (.int .i64 a0_1):=(blk_cell BK183.out 1).trans rfl;have hfz57_0:=blk_frozen BK183.out 0;have hfz57_1:=blk_frozen BK183.out 1)|((with_reducible refine gate_callee (f:=94) rfl ?_);refine goesL_ (some 77) rfl rfl Try.func94 (by kernel_rfl) rfl #[.int .i64 x8_3, .int .i64 (l0_0.length:Int)] rfl (by (try simp only[List.map_toArray,List.map_cons,List.map_nil]);first|done|rfl|(simp only[List.length_drop,List.length_take];rfl)) ?_;(with_reducible refine (spec_seState.calls k3 x8_3 (l0_0.length:Int) t198 t201 _ A52.out).mono ?_);rintro e w58 ⟨v199,rfl,ho0,hb⟩;refine ⟨_,rfl,?_⟩;have n0_:=am' (Kd.R_below (by (with_reducible repeat (first|apply ra'|apply rn'|apply rw'));exact HO_5.out) hb);have n1_:=am' (Kd.R_elder' (by (with_reducible repeat (first|apply ra'|apply rn'|apply rw'));exact HO_6.out) (Kd.R_base ho0) hb);have n2_:=am' (Kd.R_below (by (with_reducible repeat (first|apply ra'|apply rn'|apply rw'));exact HO_37.out) hb);have n3_:=am' (Kd.R_lower (Kd.R_new' ho0 (Kd.R_lt (by (with_reducible repeat (first|apply ra'|apply rn'|apply rw'));exact HO_6.out))) (below_size (by repeat (first|(with_reducible first|exact HB.out|apply ba'|apply bd'|apply be'|refine bs' ?_ GE183.out|refine bs' ?_ GE184.out)|exact HB.out))));have n4_:=am' (blk_below (g:=gb183) (o := .cells #[.slice A0_0 l0_0.length c0_0, .int .i64 a0_1] 28 (0,0)) (by (with_reducible repeat (first|refine kn' ?_ _|refine kd' ?_|refine ka' ?_ _));exact BK183.out) hb);have n5_:=am' (blk_below (g:=gb184) (o := .cells #[.slice A1_0 l1_0.length c1_0, .bool a1_1] 44 (0,0)) (by (with_reducible repeat (first|refine kn' ?_ _|refine kd' ?_|refine ka' ?_ _));exact BK184.out) hb);have n6_:=am' (below_step (by repeat (first|(with_reducible first|exact HB.out|apply ba'|apply bd'|apply be'|refine bs' ?_ GE183.out|refine bs' ?_ GE184.out)|exact HB.out)) hb);clear HO_5;clear HO_6;clear HO_37;clear BK183;clear BK184;clear HB;have HO_5:=n0_;have HO_6:=n1_;have HO_37:=n2_;have HO200:=n3_;have BK183:=n4_;have BK184:=n5_;have HB:=n6_;clear n0_ n1_ n2_ n3_ n4_ n5_ n6_;(try clear hb);(try clear hb2);(try clear hk);(try clear hi);(try clear ho0))|((with_reducible refine gate_dst (N:=11) rfl ?_);refine box_event ?hg (N:=11) ?hd (cs:=#[.slice none 0 0, .bool false]) (t:=44) ?hr ?_;(case hd=>rfl);(case hg=>rfl);(case hr=>first|(go_simp;done)|(go_simp;rfl));intro gb202 hg w59 hbox hb;have n0_:=am' (Kd.R_below (by (with_reducible repeat (first|apply ra'|apply rn'|apply rw'));exact HO_5.out) hb);have n1_:=am' (Kd.R_below (by (with_reducible repeat (first|apply ra'|apply rn'|apply rw'));exact HO_6.out) hb);have n2_:=am' (Kd.R_below (by (with_reducible repeat (first|apply ra'|apply rn'|apply rw'));exact HO_37.out) hb);have n3_:=am' (Kd.R_below (by (with_reducible repeat (first|apply ra'|apply rn'|apply rw'));exact HO200.out) hb);have n4_:=am' (blk_below (g:=gb183) (o := .cells #[.slice A0_0 l0_0.length c0_0, .int .i64 a0_1] 28 (0,0)) (by (with_reducible repeat (first|refine kn' ?_ _|refine kd' ?_|refine ka' ?_ _));exact BK183.out) hb);have n5_:=am' (blk_below (g:=gb184) (o := .cells #[.slice A1_0 l1_0.length c1_0, .bool a1_1] 44 (0,0)) (by (with_reducible repeat (first|refine kn' ?_ _|refine kd' ?_|refine ka' ?_ _));exact BK184.out) hb);have n6_:=am' (below_step (by repeat (first|(with_reducible first|exact HB.out|apply ba'|apply bd'|apply be'|refine bs' ?_ GE183.out|refine bs' ?_ GE184.out)|exact HB.out)) hb);have n7_:=am' (hbox);have n8_:=am' ((by rw[hg];exact (below_size (by repeat (first|(with_reducible first|exact HB.out|apply ba'|apply bd'|apply be'|refine bs' ?_ GE183.out|refine bs' ?_ GE184.out)|exact HB.out))):w.heap.size≤gb202));have n9_:=am' ((by rw[hg];exact (below_size (by repeat (first|(with_reducible first|exact HB.out|apply ba'|apply bd'|apply be'|refine bs' ?_ GE183.out|refine bs' ?_ GE184.out)|exact HB.out))):w.heap.size≤gb202));have n10_:=am' ((by rw[hg];exact Nat.ne_of_lt (blk_lt (g:=gb183) (o := .cells #[.slice A0_0 l0_0.length c0_0, .int .i64 a0_1] 28 (0,0)) (by (with_reducible repeat (first|refine kn' ?_ _|refine kd' ?_|refine ka' ?_ _));exact BK183.out)):gb183≠gb202));have n11_:=am' ((by rw[hg];exact Nat.ne_of_gt (blk_lt (g:=gb183) (o := .cells #[.slice A0_0 l0_0.length c0_0, .int .i64 a0_1] 28 (0,0)) (by (with_reducible repeat (first|refine kn' ?_ _|refine kd' ?_|refine ka' ?_ _));exact BK183.out)):gb202≠gb183));have n12_:=am' ((by rw[hg];exact Nat.ne_of_lt (blk_lt (g:=gb184) (o := .cells #[.slice A1_0 l1_0.length c1_0, .bool a1_1] 44 (0,0)) (by (with_reducible repeat (first|refine kn' ?_ _|refine kd' ?_|refine ka' ?_ _));exact BK184.out)):gb184≠gb202));have n13_:=am' ((by rw[hg];exact Nat.ne_of_gt (blk_lt (g:=gb184) (o := .cells #[.slice A1_0 l1_0.length c1_0, .bool a1_1] 44 (0,0)) (by (with_reducible repeat (first|refine kn' ?_ _|refine kd' ?_|refine ka' ?_ _));exact BK184.out)):gb202≠gb184));clear HO_5;clear HO_6;clear HO_37;clear HO200;clear BK183;clear BK184;clear HB;have HO_5:=n0_;have HO_6:=n1_;have HO_37:=n2_;have HO200:=n3_;have BK183:=n4_;have BK184:=n5_;have HB:=n6_;have BK202:=n7_;have GW202:=n8_;have GE202:=n9_;have NB183_202:=n10_;have NB202_183:=n11_;have NB184_202:=n12_;have NB202_184:=n13_;clear n0_ n1_ n2_ n3_ n4_ n5_ n6_ n7_ n8_ n9_ n10_ n11_ n12_ n13_;clear hb hbox hg;obtain ⟨Ao60,co60,eo60⟩:=Kd.R_slice HO200.out;subst eo60;have hnb61:=NB202_183.out;have hnc61:=NB183_202.out;have hnb62:=NB202_184.out;have hnc62:=NB184_202.out;have hcz63_0:w59.cell? ⟨gb202,0,none⟩=some (.slice none 0 0):=(blk_cell BK202.out 0).trans rfl;have hcz63_1:w59.cell? ⟨gb202,1,none⟩=some (.bool false):=(blk_cell BK202.out 1).trans rfl;have hfz63_0:=blk_frozen BK202.out 0;have hfz63_1:=blk_frozen BK202.out 1;have hcz64_0:w59.cell? ⟨gb183,0,none⟩=some (.slice A0_0 l0_0.length c0_0):=(blk_cell BK183.out 0).trans rfl;have hcz64_1:w59.cell? ⟨gb183,1,none⟩=some (.int .i64 a0_1):=(blk_cell BK183.out 1).trans rfl;have hfz64_0:=blk_frozen BK183.out 0;have hfz64_1:=blk_frozen BK183.out 1)|((with_reducible refine gate_callee (f:=100) rfl ?_);refine goesL_ (some 80) rfl rfl Try.func100 (by kernel_rfl) rfl #[.agg #[.slice A0_0 l0_0.length c0_0, .int .i64 a0_1], .agg #[.slice Ao60 t198.length co60, .bool t201]] rfl (by (try simp only[List.map_toArray,List.map_cons,List.map_nil]);first|done|rfl|(simp only[List.length_drop,List.length_take];rfl)) ?_;(with_reducible refine (spec_paTrips.calls k3 _ _ l0_0 a0_1 _ _ t198 t201 t203 _ ?side1 ?side2 ?side3 ?side4 A53.out).mono ?_);(case side1=>exact Kd.C_below HR0_0.out (by repeat (first|(with_reducible first|exact HB.out|apply ba'|apply bd'|apply be'|refine bs' ?_ GE183.out|refine bs' ?_ GE184.out|refine bs' ?_ GE202.out)|exact HB.out)));(case side2=>exact HC0_0.out);(case side3=>refine (Kd.R_reads' (e:=4) (base:=w.heap.size) (ok:=fun k_=>(True∧some k_≠(.slice (some ⟨go51,0,none⟩) x6_2.length co51:Value).ownBlock)) (n:=t198.length) (c:=co60) ?_).2.2;exact (by (with_reducible repeat (first|apply ra'|apply rn'|apply rw'));exact (Kd.R_mono (Kd.R_far (p:=⟨gb202,1,none⟩) (Kd.R_far (p:=⟨gb202,0,none⟩) (Kd.R_types HO200.out BK202.out (by decide)) (fun _ hk=>hk.2) (.slice Ao60 t198.length co60)) (fun _ hk=>hk.2) (.bool t201)) (fun _ h_=>h_.1))));(case side4=>exact (Kd.R_reads' HO200.out).2.1);rintro e w65 ⟨v204,rfl,ho0,hb⟩;refine ⟨_,rfl,?_⟩;have n0_:=am' (Kd.R_below (by (with_reducible repeat (first|apply ra'|apply rn'|apply rw'));exact (Kd.R_mono (Kd.R_far (p:=⟨gb202,1,none⟩) (Kd.R_far (p:=⟨gb202,0,none⟩) (Kd.R_types HO_5.out BK202.out (by decide)) (fun _ hk=>hk.2) (.slice Ao60 t198.length co60)) (fun _ hk=>hk.2) (.bool t201)) (fun _ h_=>h_.1))) hb);have n1_:=am' (Kd.R_below (by (with_reducible repeat (first|apply ra'|apply rn'|apply rw'));exact (Kd.R_mono (Kd.R_far (p:=⟨gb202,1,none⟩) (Kd.R_far (p:=⟨gb202,0,none⟩) (Kd.R_types HO_6.out BK202.out (by decide)) (fun _ hk=>hk.2) (.slice Ao60 t198.length co60)) (fun _ hk=>hk.2) (.bool t201)) (fun _ h_=>h_.1))) hb);have n2_:=am' (Kd.R_below (by (with_reducible repeat (first|apply ra'|apply rn'|apply rw'));exact (Kd.R_mono (Kd.R_far (p:=⟨gb202,1,none⟩) (Kd.R_far (p:=⟨gb202,0,none⟩) (Kd.R_types HO_37.out BK202.out (by decide)) (fun _ hk=>hk.2) (.slice Ao60 t198.length co60)) (fun _ hk=>hk.2) (.bool t201)) (fun _ h_=>h_.1))) hb);have n3_:=am' (Kd.R_below (by (with_reducible repeat (first|apply ra'|apply rn'|apply rw'));exact (Kd.R_mono (Kd.R_far (p:=⟨gb202,1,none⟩) (Kd.R_far (p:=⟨gb202,0,none⟩) (Kd.R_types HO200.out BK202.out (by decide)) (fun _ hk=>hk.2) (.slice Ao60 t198.length co60)) (fun _ hk=>hk.2) (.bool t201)) (fun _ h_=>h_.1))) hb);have n4_:=am' (Kd.N_lower (Kd.N_mono (ok':=fun k_=>some k_≠(.slice (some ⟨go26,0,none⟩) x5_2.length co14:Value).ownBlock∧some k_≠(.slice (some ⟨go51,0,none⟩) x6_2.length co51:Value).ownBlock∧some k_≠(.slice (some ⟨go26,0,none⟩) x5_2.length co14:Value).ownBlock∧some k_≠(.slice Ao60 t198.length co60:Value).ownBlock∧k_≠gb183∧k_≠gb184∧k_≠gb202) ho0 (fun k_ hk_=>⟨(Kd.fresh' (Kd.R_lt (by (with_reducible repeat (first|apply ra'|apply rn'|apply rw'));exact (Kd.R_mono (Kd.R_far (p:=⟨gb202,1,none⟩) (Kd.R_far (p:=⟨gb202,0,none⟩) (Kd.R_types HO_5.out BK202.out (by decide)) (fun _ hk=>hk.2) (.slice Ao60 t198.length co60)) (fun _ hk=>hk.2) (.bool t201)) (fun _ h_=>h_.1)))) k_ hk_),(Kd.fresh' (Kd.R_lt (by (with_reducible repeat (first|apply ra'|apply rn'|apply rw'));exact (Kd.R_mono (Kd.R_far (p:=⟨gb202,1,none⟩) (Kd.R_far (p:=⟨gb202,0,none⟩) (Kd.R_types HO_6.out BK202.out (by decide)) (fun _ hk=>hk.2) (.slice Ao60 t198.length co60)) (fun _ hk=>hk.2) (.bool t201)) (fun _ h_=>h_.1)))) k_ hk_),(Kd.fresh' (Kd.R_lt (by (with_reducible repeat (first|apply ra'|apply rn'|apply rw'));exact (Kd.R_mono (Kd.R_far (p:=⟨gb202,1,none⟩) (Kd.R_far (p:=⟨gb202,0,none⟩) (Kd.R_types HO_37.out BK202.out (by decide)) (fun _ hk=>hk.2) (.slice Ao60 t198.length co60)) (fun _ hk=>hk.2) (.bool t201)) (fun _ h_=>h_.1)))) k_ hk_),(Kd.fresh' (Kd.R_lt (by (with_reducible repeat (first|apply ra'|apply rn'|apply rw'));exact (Kd.R_mono (Kd.R_far (p:=⟨gb202,1,none⟩) (Kd.R_far (p:=⟨gb202,0,none⟩) (Kd.R_types HO200.out BK202.out (by decide)) (fun _ hk=>hk.2) (.slice Ao60 t198.length co60)) (fun _ hk=>hk.2) (.bool t201)) (fun _ h_=>h_.1)))) k_ hk_),(Kd.freshB (g:=gb183) (o := .cells #[.slice A0_0 l0_0.length c0_0, .int .i64 a0_1] 28 (0,0)) (by (with_reducible repeat (first|refine kn' ?_ _|refine kd' ?_|refine ka' ?_ _));refine blk_far ?_ NB183_202.out _;(with_reducible repeat (first|refine kn' ?_ _|refine kd' ?_|refine ka' ?_ _));refine blk_far ?_ NB183_202.out _;(with_reducible repeat (first|refine kn' ?_ _|refine kd' ?_|refine ka' ?_ _));exact BK183.out) k_ hk_),(Kd.freshB (g:=gb184) (o := .cells #[.slice A1_0 l1_0.length c1_0, .bool a1_1] 44 (0,0)) (by (with_reducible repeat (first|refine kn' ?_ _|refine kd' ?_|refine ka' ?_ _));refine blk_far ?_ NB184_202.out _;(with_reducible repeat (first|refine kn' ?_ _|refine kd' ?_|refine ka' ?_ _));refine blk_far ?_ NB184_202.out _;(with_reducible repeat (first|refine kn' ?_ _|refine kd' ?_|refine ka' ?_ _));exact BK184.out) k_ hk_),(Kd.freshB (g:=gb202) (o := .cells #[.slice Ao60 t198.length co60, .bool t201] 44 (0,0)) (by (with_reducible repeat (first|refine kn' ?_ _|refine kd' ?_|refine ka' ?_ _));refine blk_put (cs:=#[.slice Ao60 t198.length co60, .bool false]) ?_ 1 _ rfl;(with_reducible repeat (first|refine kn' ?_ _|refine kd' ?_|refine ka' ?_ _));refine blk_put (cs:=#[.slice none 0 0, .bool false]) ?_ 0 _ rfl;(with_reducible repeat (first|refine kn' ?_ _|refine kd' ?_|refine ka' ?_ _));exact BK202.out) k_ hk_)⟩)) (below_size (by repeat (first|(with_reducible first|exact HB.out|apply ba'|apply bd'|apply be'|refine bs' ?_ GE183.out|refine bs' ?_ GE184.out|refine bs' ?_ GE202.out)|exact HB.out))));have n5_:=am' (blk_below (g:=gb183) (o := .cells #[.slice A0_0 l0_0.length c0_0, .int .i64 a0_1] 28 (0,0)) (by (with_reducible repeat (first|refine kn' ?_ _|refine kd' ?_|refine ka' ?_ _));refine blk_far ?_ NB183_202.out _;(with_reducible repeat (first|refine kn' ?_ _|refine kd' ?_|refine ka' ?_ _));refine blk_far ?_ NB183_202.out _;(with_reducible repeat (first|refine kn' ?_ _|refine kd' ?_|refine ka' ?_ _));exact BK183.out) hb);have n6_:=am' (blk_below (g:=gb184) (o := .cells #[.slice A1_0 l1_0.length c1_0, .bool a1_1] 44 (0,0)) (by (with_reducible repeat (first|refine kn' ?_ _|refine kd' ?_|refine ka' ?_ _));refine blk_far ?_ NB184_202.out _;(with_reducible repeat (first|refine kn' ?_ _|refine kd' ?_|refine ka' ?_ _));refine blk_far ?_ NB184_202.out _;(with_reducible repeat (first|refine kn' ?_ _|refine kd' ?_|refine ka' ?_ _));exact BK184.out) hb);have n7_:=am' (blk_below (g:=gb202) (o := .cells #[.slice Ao60 t198.length co60, .bool t201] 44 (0,0)) (by (with_reducible repeat (first|refine kn' ?_ _|refine kd' ?_|refine ka' ?_ _));refine blk_put (cs:=#[.slice Ao60 t198.length co60, .bool false]) ?_ 1 _ rfl;(with_reducible repeat (first|refine kn' ?_ _|refine kd' ?_|refine ka' ?_ _));refine blk_put (cs:=#[.slice none 0 0, .bool false]) ?_ 0 _ rfl;(with_reducible repeat (first|refine kn' ?_ _|refine kd' ?_|refine ka' ?_ _));exact BK202.out) hb);have n8_:=am' (below_step (by repeat (first|(with_reducible first|exact HB.out|apply ba'|apply bd'|apply be'|refine bs' ?_ GE183.out|refine bs' ?_ GE184.out|refine bs' ?_ GE202.out)|exact HB.out)) hb);clear HO_5;clear HO_6;clear HO_37;clear HO200;clear BK183;clear BK184;clear BK202;clear HB;have HO_5:=n0_;have HO_6:=n1_;have HO_37:=n2_;have HO200:=n3_;have HO205:=n4_;have BK183:=n5_;have BK184:=n6_;have BK202:=n7_;have HB:=n8_;clear n0_ n1_ n2_ n3_ n4_ n5_ n6_ n7_ n8_;(try clear hb);(try clear hb2);(try clear hk);(try clear hi);(try clear ho0);obtain ⟨Ao66,co66,eo66⟩:=Kd.N_slice HO205.out;subst eo66))
                  go_loopg [82] k3 (fun kq v82 w'=>∃ (x5_4:List Int) (x82_4:Int),v82 = .int .i64 x82_4∧Aside0 (spec_seFar.l3 kq x5_4 y197 x8_3 t203 (t203.length:Int) x82_4 l0_0 a0_1 t198 t201=some r)∧Aside0 (kq≤k3)∧Aside0 (Kd.R (Kd.int .i64) 3 w' w.heap.size (fun _=>True) (.slice (some ⟨go26,0,none⟩) x5_2.length co14) x5_4)∧Aside0 (Kd.R Kd.bool 4 w' w.heap.size (fun k_=>some k_≠((.slice Ao60 t198.length co60):Value).ownBlock) (.slice (some ⟨go51,0,none⟩) x6_2.length co51) y197)∧Aside0 (Kd.N (Kd.slice 3 (Kd.int .i64)) 22 w' w.heap.size (fun k_=>some k_≠((.slice (some ⟨go26,0,none⟩) x5_2.length co14):Value).ownBlock∧some k_≠((.slice (some ⟨go51,0,none⟩) x6_2.length co51):Value).ownBlock∧some k_≠((.slice Ao60 t198.length co60):Value).ownBlock∧k_≠gb183∧k_≠gb184∧k_≠gb202) (.slice Ao66 t203.length co66) t203)∧Aside0 (Kd.R Kd.bool 4 w' w.heap.size (fun k_=>some k_≠((.slice (some ⟨go51,0,none⟩) x6_2.length co51):Value).ownBlock) (.slice Ao60 t198.length co60) t198)∧Aside0 (w'.heap[gb183]? = some (.cells #[(.slice A0_0 l0_0.length c0_0), .int .i64 a0_1] 28 (0,0)))∧Aside0 (w'.heap[gb184]? = some (.cells #[(.slice A1_0 l1_0.length c1_0), .bool a1_1] 44 (0,0)))∧Aside0 (w'.heap[gb202]? = some (.cells #[(.slice Ao60 t198.length co60), .bool t201] 44 (0,0)))∧Aside0 (Below w.heap.size w w'))
                  case atStart=>exact ⟨(x5_2),(0),(by first|rfl|(simp;done)|(simp[*];done)),H',⟨Nat.le_refl _⟩,⟨by (try simp only[hl5_1]);(try simp only[hl5_2]);(with_reducible repeat (first|apply ra'|apply rn'|apply rw'));exact HO_5.out⟩,⟨by (try simp only[hl5_1]);(try simp only[hl5_2]);(with_reducible repeat (first|apply ra'|apply rn'|apply rw'));exact Kd.R_mono HO_6.out (fun _ hk=>hk.2)⟩,⟨by (try simp only[hl5_1]);(try simp only[hl5_2]);(with_reducible repeat (first|apply Kd.N_alloc|apply Kd.N_drewN|apply Kd.N_drew));exact Kd.N_mono HO205.out (fun _ hk=>⟨hk.1,⟨hk.2.1,⟨hk.2.2.2.1,⟨hk.2.2.2.2.1,⟨hk.2.2.2.2.2.1,hk.2.2.2.2.2.2⟩⟩⟩⟩⟩)⟩,⟨by (try simp only[hl5_1]);(try simp only[hl5_2]);(with_reducible repeat (first|apply ra'|apply rn'|apply rw'));exact Kd.R_mono HO200.out (fun _ hk=>hk.2)⟩,⟨by (try simp only[hl5_1]);(try simp only[hl5_2]);(with_reducible repeat (first|refine kn' ?_ _|refine kd' ?_|refine ka' ?_ _));exact BK183.out⟩,⟨by (try simp only[hl5_1]);(try simp only[hl5_2]);(with_reducible repeat (first|refine kn' ?_ _|refine kd' ?_|refine ka' ?_ _));exact BK184.out⟩,⟨by (try simp only[hl5_1]);(try simp only[hl5_2]);(with_reducible repeat (first|refine kn' ?_ _|refine kd' ?_|refine ka' ?_ _));exact BK202.out⟩,⟨by repeat (first|(with_reducible first|exact HB.out|apply ba'|apply bd'|apply be'|refine bs' ?_ GE183.out|refine bs' ?_ GE184.out|refine bs' ?_ GE202.out)|exact HB.out)⟩⟩
                  case round =>
                   clear H';try clear c1
                   try clear p1
                   try clear q1
                   try clear hx1
                   try clear c2
                   try clear p2
                   try clear q2
                   try clear hx2
                   try clear hf2
                   try clear c3
                   try clear q3
                   try clear c4
                   try clear c4b0
                   try clear c4b1
                   try clear c5
                   try clear c5b0
                   try clear c5b1
                   try clear p5
                   try clear q5
                   try clear hx5
                   try clear hf5
                   try clear c6
                   try clear c6b0
                   try clear c6b1
                   try clear p6
                   try clear c7
                   try clear c7b0
                   try clear c7b1
                   try clear c9
                   try clear c10
                   try clear c17
                   try clear c17b0
                   try clear c18
                   try clear c18b0
                   try clear c19
                   try clear c19b0
                   try clear p19
                   try clear q19
                   try clear hx19
                   try clear p20
                   try clear q20
                   try clear hx20
                   try clear hf20
                   try clear c24
                   try clear c24b0
                   try clear c25
                   try clear c25b0
                   try clear p26
                   try clear q26
                   try clear hx26
                   try clear hf26
                   try clear c27
                   try clear c32
                   try clear c32b0
                   try clear c33
                   try clear c33b0
                   try clear c34
                   try clear c34b0
                   try clear c35
                   try clear c35b0
                   try clear q36
                   try clear c37
                   try clear c39
                   try clear c39b0
                   try clear c40
                   try clear c40b0
                   try clear c42
                   try clear c42b0
                   try clear c43
                   try clear c43b0
                   try clear c44
                   try clear c44b0
                   try clear c48
                   try clear c48b0
                   try clear c49
                   try clear c49b0
                   try clear c50
                   try clear c50b0
                   try clear p51
                   try clear q51
                   try clear hx51
                   try clear hf51
                   try clear c56
                   try clear c61
                   try clear c62
                   try clear p64
                   try clear hcz11_0
                   try clear hcz11_1
                   try clear hcz28_0
                   try clear hcz28_1
                   try clear hcz57_0
                   try clear hcz57_1
                   try clear hcz63_0
                   try clear hcz63_1
                   try clear hcz64_0
                   try clear hcz64_1
                   try clear hfz11_0
                   try clear hfz11_1
                   try clear hfz28_0
                   try clear hfz28_1
                   try clear hfz57_0
                   try clear hfz57_1
                   try clear hfz63_0
                   try clear hfz63_1
                   try clear hfz64_0
                   try clear hfz64_1
                   try clear hx194_0
                   try clear hx195_0
                   try clear hx196_0
                   try clear hx20_0
                   try clear hx26_0
                   try clear hx51_0
                   try clear p194
                   try clear p195
                   try clear p196
                   try clear p2
                   try clear p20
                   try clear p26
                   try clear p51
                   try clear p6
                   try clear q194
                   try clear q195
                   try clear q196
                   try clear q2
                   try clear q20
                   try clear q26
                   try clear q51
                   obtain ⟨x5_4,x82_4,rfl,HA,HK4,HO_5,HO_6,HO_80,HO_203000,BK183,BK184,BK202,HB⟩:=hrel;have hl5_4:=(Kd.R_reads' HO_5.out).1;rw[hl5_4] at HO_5
                   (try simp only[hl5_4])
                   (try simp only[hl5_4] at BK183)
                   (try simp only[hl5_4] at BK184)
                   (try simp only[hl5_4] at BK202)
                   (try simp only[hl5_4] at HO_6)
                   (try simp only[hl5_4] at HO_80)
                   (try simp only[hl5_4] at HO_203000)
                   have hl6_4:=(Kd.R_reads' HO_6.out).1;rw[hl6_4] at HO_6
                   (try simp only[hl6_4])
                   (try simp only[hl6_4] at BK183)
                   (try simp only[hl6_4] at BK184)
                   (try simp only[hl6_4] at BK202)
                   (try simp only[hl6_4] at HO_5)
                   (try simp only[hl6_4] at HO_80)
                   (try simp only[hl6_4] at HO_203000)
                   cases gk with
                   | zero=>exact absurd HA.out (by simp[spec_seFar.l3])
                   | succ k4 =>
                    have H:=HA.out;clear HA;simp only[spec_seFar.l3] at H;by_cases c67:x82_4 < (t203.length:Int)
                    ·
                     rw[if_pos c67] at H;have c67b0:decide (x82_4 < (t203.length:Int))=true:=decide_eq_true c67;clear c67;by_cases c68:0≤x82_4
                     ·
                      rw[if_pos c68] at H;have c68b0:decide (0≤x82_4)=true:=decide_eq_true c68;clear c68;by_cases c69:x82_4 < (t203.length:Int)
                      ·
                       rw[if_pos c69] at H;have c69b0:decide (x82_4 < (t203.length:Int))=true:=decide_eq_true c69;clear c69;replace H:=Option.bind_eq_some_iff.mp H;obtain ⟨⟨t207,t210⟩,A700,H⟩:=H;replace H:((spec_seIndex.f k4 t207 t210).bind fun t211=>(if 0≤x8_3 then (if x8_3 < (x5_4.length:Int) then ((spec_paTime.f k4 l0_0 a0_1 (rd_L2 t203 x82_4)).bind fun t213=>(if 0≤t211 then (if t211 < (x5_4.length:Int) then (if (rd x5_4 t211) < 0 then (spec_seFar.l3 k4 (x5_4.set (t211:Int).toNat (wrap64 ((rd x5_4 x8_3)+t213))) y197 x8_3 t203 (t203.length:Int) (wrap64 (x82_4+1)) l0_0 a0_1 t198 t201) else (if (wrap64 ((rd x5_4 x8_3)+t213)) < (rd x5_4 t211) then (spec_seFar.l3 k4 (x5_4.set (t211:Int).toNat (wrap64 ((rd x5_4 x8_3)+t213))) y197 x8_3 t203 (t203.length:Int) (wrap64 (x82_4+1)) l0_0 a0_1 t198 t201) else (spec_seFar.l3 k4 x5_4 y197 x8_3 t203 (t203.length:Int) (wrap64 (x82_4+1)) l0_0 a0_1 t198 t201))) else (none)) else (none))) else (none)) else (none)))=some r:=H;have A70:=am' A700;clear A700;replace H:=Option.bind_eq_some_iff.mp H;obtain ⟨t211,A710,H⟩:=H;replace H:(if 0≤x8_3 then (if x8_3 < (x5_4.length:Int) then ((spec_paTime.f k4 l0_0 a0_1 (rd_L2 t203 x82_4)).bind fun t213=>(if 0≤t211 then (if t211 < (x5_4.length:Int) then (if (rd x5_4 t211) < 0 then (spec_seFar.l3 k4 (x5_4.set (t211:Int).toNat (wrap64 ((rd x5_4 x8_3)+t213))) y197 x8_3 t203 (t203.length:Int) (wrap64 (x82_4+1)) l0_0 a0_1 t198 t201) else (if (wrap64 ((rd x5_4 x8_3)+t213)) < (rd x5_4 t211) then (spec_seFar.l3 k4 (x5_4.set (t211:Int).toNat (wrap64 ((rd x5_4 x8_3)+t213))) y197 x8_3 t203 (t203.length:Int) (wrap64 (x82_4+1)) l0_0 a0_1 t198 t201) else (spec_seFar.l3 k4 x5_4 y197 x8_3 t203 (t203.length:Int) (wrap64 (x82_4+1)) l0_0 a0_1 t198 t201))) else (none)) else (none))) else (none)) else (none))=some r:=H;have A71:=am' A710;clear A710;by_cases c72:0≤x8_3
                       ·
                        rw[if_pos c72] at H;have c72b0:decide (0≤x8_3)=true:=decide_eq_true c72;clear c72;by_cases c73:x8_3 < (x5_4.length:Int)
                        ·
                         rw[if_pos c73] at H;have c73b0:decide (x8_3 < (x5_4.length:Int))=true:=decide_eq_true c73;clear c73;replace H:=Option.bind_eq_some_iff.mp H;obtain ⟨t213,A740,H⟩:=H;replace H:(if 0≤t211 then (if t211 < (x5_4.length:Int) then (if (rd x5_4 t211) < 0 then (spec_seFar.l3 k4 (x5_4.set (t211:Int).toNat (wrap64 ((rd x5_4 x8_3)+t213))) y197 x8_3 t203 (t203.length:Int) (wrap64 (x82_4+1)) l0_0 a0_1 t198 t201) else (if (wrap64 ((rd x5_4 x8_3)+t213)) < (rd x5_4 t211) then (spec_seFar.l3 k4 (x5_4.set (t211:Int).toNat (wrap64 ((rd x5_4 x8_3)+t213))) y197 x8_3 t203 (t203.length:Int) (wrap64 (x82_4+1)) l0_0 a0_1 t198 t201) else (spec_seFar.l3 k4 x5_4 y197 x8_3 t203 (t203.length:Int) (wrap64 (x82_4+1)) l0_0 a0_1 t198 t201))) else (none)) else (none))=some r:=H;have A74:=am' A740;clear A740;by_cases c75:0≤t211
                         ·
                          rw[if_pos c75] at H;have c75b0:decide (0≤t211)=true:=decide_eq_true c75;clear c75;by_cases c76:t211 < (x5_4.length:Int)
                          ·
                           rw[if_pos c76] at H;have c76b0:decide (t211 < (x5_4.length:Int))=true:=decide_eq_true c76;clear c76;by_cases c77:(rd x5_4 t211) < 0
                           ·
                            rw[if_pos c77] at H;have c77b0:decide ((rd x5_4 t211) < 0)=true:=decide_eq_true c77;clear c77;obtain ⟨y215,hy215⟩:∃ y_:List Int,y_=(x5_4.set (t211:Int).toNat (wrap64 ((rd x5_4 x8_3)+t213))):=⟨_,rfl⟩
                            replace H:(spec_seFar.l3 k4 y215 y197 x8_3 t203 (t203.length:Int) (wrap64 (x82_4+1)) l0_0 a0_1 t198 t201)=some r:=by first|(rw[hy215];with_reducible exact H)|(have H2_:=(Option.bind_some _ _).symm.trans H;rw[hy215];with_reducible exact H2_)|(have H2_:=(Option.bind_some _ _).symm.trans H;with_reducible exact H2_)|with_reducible exact H|(rw[hy215];exact H)|exact H
                            have Ny215:=am' hy215;clear hy215;have H':=am' H;clear H;have p206:0≤(x82_4:Int):=of_decide_eq_true (by first|(with_reducible assumption)|assumption);have q206:x82_4 < (t203.length:Int):=of_decide_eq_true (by first|(with_reducible assumption)|assumption);obtain ⟨ad206,A206_0,c206_0,e206,hx206_0,hl206_0,hi206_0⟩:=at_L2 (Kd.N_reads' HO_80.out).2.2 x82_4 p206 q206;cases e206;obtain ⟨ce206,hce206,hMe206,hcc206⟩:=Kd.N_get HO_80.out [] x82_4 p206 (by first|exact q206|exact of_decide_eq_true (by first|(with_reducible assumption)|assumption)|(have e_:=(Kd.N_reads' HO_80.out).1;omega));obtain ⟨ua206_0,uc206_0,rfl,ul206_0,ge206_0⟩:=Kd.FK_slice_open hMe206;have hv206_0:=hcc206 0 _ rfl;rw[Nat.add_zero,show ((Kd.slice 3 (Kd.int .i64))).sz=1 from rfl,Nat.mul_one] at hv206_0;replace hv206_0:=Option.some.inj (hv206_0.symm.trans hx206_0);injection hv206_0 with hva_ hvn_ hvc_
                            rw[hva_] at ge206_0;rw[hvc_] at ul206_0;have HL206_0:=am' (show Kd.V (Kd.int .i64) 3 _ w.heap.size _ _ (rd_L2 t203 x82_4) from Kd.V_mk ul206_0 ge206_0);clear hva_ hvn_ hvc_ ge206_0 ul206_0;clear hcc206 hce206;have HR206_0:=am' hi206_0;have HC206_0:=am' hl206_0;clear hi206_0 hl206_0;replace p206:=eq_true p206;replace q206:=eq_true q206;have hnb79:=NB202_183.out;have hnc79:=NB183_202.out;have hnb80:=NB202_184.out;have hnc80:=NB184_202.out;have hcz81_0:wr.cell? ⟨gb202,0,none⟩=some (.slice Ao60 t198.length co60):=(blk_cell BK202.out 0).trans rfl;have hcz81_1:wr.cell? ⟨gb202,1,none⟩=some (.bool t201):=(blk_cell BK202.out 1).trans rfl;have hfz81_0:=blk_frozen BK202.out 0;have hfz81_1:=blk_frozen BK202.out 1
                            try go_wp2_with (first|((with_reducible refine gate_callee (f:=101) rfl ?_);refine goesL_ (some 88) rfl rfl Try.func101 (by kernel_rfl) rfl #[.agg #[.slice Ao60 t198.length co60, .bool t201], .slice A206_0 (rd_L2 t203 x82_4).length c206_0] rfl (by (try simp only[List.map_toArray,List.map_cons,List.map_nil]);first|done|rfl|(simp only[List.length_drop,List.length_take];rfl)) ?_;(with_reducible refine (spec_paCross.calls k4 _ _ t198 t201 _ _ (rd_L2 t203 x82_4) t207 t210 _ ?side1 ?side2 ?side3 ?side4 A70.out).mono ?_);(case side1=>repeat (first|exact (Kd.R_reads' HO_203000.out).2.2|(with_reducible refine ca' ?_ _)|(with_reducible refine cn' ?_ _)|(with_reducible refine cd' ?_)));(case side2=>exact (Kd.R_reads' HO_203000.out).2.1);(case side3=>repeat (first|exact (by repeat (first|(with_reducible exact HR206_0.out)|(with_reducible refine ca' ?_ _)|(with_reducible refine cn' ?_ _)|(with_reducible refine cd' ?_)|exact HR206_0.out))|(with_reducible refine ca' ?_ _)|(with_reducible refine cn' ?_ _)|(with_reducible refine cd' ?_)));(case side4=>exact HC206_0.out);rintro e w82 ⟨v208,rfl,ho0,hb⟩;refine ⟨_,rfl,?_⟩;have n0_:=am' (Kd.R_below (by (with_reducible repeat (first|apply ra'|apply rn'|apply rw'));exact HO_5.out) hb);have n1_:=am' (Kd.R_elder' (by (with_reducible repeat (first|apply ra'|apply rn'|apply rw'));exact HO_6.out) (Kd.R_base ho0) hb);have n2_:=am' (Kd.N_elder' (by (with_reducible repeat (first|apply Kd.N_alloc|apply Kd.N_drewN|apply Kd.N_drew));exact HO_80.out) (Kd.R_base ho0) hb);have n3_:=am' (Kd.R_elder' (by (with_reducible repeat (first|apply ra'|apply rn'|apply rw'));exact HO_203000.out) (Kd.R_base ho0) hb);have n4_:=am' (Kd.V_elder' (by (with_reducible repeat (first|apply Kd.V_alloc|apply Kd.V_drewN|apply Kd.V_drew));exact HL206_0.out) (Kd.R_base ho0) hb);have n5_:=am' (Kd.R_lower (Kd.R_new' (Kd.R_new' ho0 (Kd.R_lt (by (with_reducible repeat (first|apply ra'|apply rn'|apply rw'));exact HO_6.out))) (Kd.R_lt (by (with_reducible repeat (first|apply ra'|apply rn'|apply rw'));exact HO_203000.out))) (below_size (by repeat (first|(with_reducible first|exact HB.out|apply ba'|apply bd'|apply be'|refine bs' ?_ GE183.out|refine bs' ?_ GE184.out|refine bs' ?_ GE202.out)|exact HB.out))));have n6_:=am' (blk_below (g:=gb183) (o := .cells #[.slice A0_0 l0_0.length c0_0, .int .i64 a0_1] 28 (0,0)) (by (with_reducible repeat (first|refine kn' ?_ _|refine kd' ?_|refine ka' ?_ _));exact BK183.out) hb);have n7_:=am' (blk_below (g:=gb184) (o := .cells #[.slice A1_0 l1_0.length c1_0, .bool a1_1] 44 (0,0)) (by (with_reducible repeat (first|refine kn' ?_ _|refine kd' ?_|refine ka' ?_ _));exact BK184.out) hb);have n8_:=am' (blk_below (g:=gb202) (o := .cells #[.slice Ao60 t198.length co60, .bool t201] 44 (0,0)) (by (with_reducible repeat (first|refine kn' ?_ _|refine kd' ?_|refine ka' ?_ _));exact BK202.out) hb);have n9_:=am' (Kd.C_below (by repeat (first|(with_reducible exact HR206_0.out)|(with_reducible refine ca' ?_ _)|(with_reducible refine cn' ?_ _)|(with_reducible refine cd' ?_)|exact HR206_0.out)) hb);have n10_:=am' (below_step (by repeat (first|(with_reducible first|exact HB.out|apply ba'|apply bd'|apply be'|refine bs' ?_ GE183.out|refine bs' ?_ GE184.out|refine bs' ?_ GE202.out)|exact HB.out)) hb);clear HO_5;clear HO_6;clear HO_80;clear HO_203000;clear HL206_0;clear BK183;clear BK184;clear BK202;clear HR206_0;clear HB;have HO_5:=n0_;have HO_6:=n1_;have HO_80:=n2_;have HO_203000:=n3_;have HL206_0:=n4_;have HO209:=n5_;have BK183:=n6_;have BK184:=n7_;have BK202:=n8_;have HR206_0:=n9_;have HB:=n10_;clear n0_ n1_ n2_ n3_ n4_ n5_ n6_ n7_ n8_ n9_ n10_;(try clear hb);(try clear hb2);(try clear hk);(try clear hi);(try clear ho0);obtain ⟨Ao83,co83,eo83⟩:=Kd.R_slice HO209.out;subst eo83)|((with_reducible refine gate_callee (f:=78) rfl ?_);refine goesL_ (some 89) rfl rfl Try.func78 (by kernel_rfl) rfl #[.agg #[.slice Ao83 t207.length co83, .bool t210]] rfl (by (try simp only[List.map_toArray,List.map_cons,List.map_nil]);first|done|rfl|(simp only[List.length_drop,List.length_take];rfl)) ?_;(with_reducible refine (spec_seIndex.calls k4 _ _ t207 t210 t211 _ ?side1 ?side2 A71.out).mono ?_);(case side1=>repeat (first|exact (Kd.R_reads' HO209.out).2.2|(with_reducible refine ca' ?_ _)|(with_reducible refine cn' ?_ _)|(with_reducible refine cd' ?_)));(case side2=>exact (Kd.R_reads' HO209.out).2.1);rintro e w84 ⟨rfl,hb⟩;refine ⟨_,rfl,?_⟩;have n0_:=am' (Kd.R_below (by (with_reducible repeat (first|apply ra'|apply rn'|apply rw'));exact HO_5.out) hb);have n1_:=am' (Kd.R_below (by (with_reducible repeat (first|apply ra'|apply rn'|apply rw'));exact HO_6.out) hb);have n2_:=am' (Kd.N_below (by (with_reducible repeat (first|apply Kd.N_alloc|apply Kd.N_drewN|apply Kd.N_drew));exact HO_80.out) hb);have n3_:=am' (Kd.R_below (by (with_reducible repeat (first|apply ra'|apply rn'|apply rw'));exact HO_203000.out) hb);have n4_:=am' (Kd.V_below (by (with_reducible repeat (first|apply Kd.V_alloc|apply Kd.V_drewN|apply Kd.V_drew));exact HL206_0.out) hb);have n5_:=am' (Kd.R_below (by (with_reducible repeat (first|apply ra'|apply rn'|apply rw'));exact HO209.out) hb);have n6_:=am' (blk_below (g:=gb183) (o := .cells #[.slice A0_0 l0_0.length c0_0, .int .i64 a0_1] 28 (0,0)) (by (with_reducible repeat (first|refine kn' ?_ _|refine kd' ?_|refine ka' ?_ _));exact BK183.out) hb);have n7_:=am' (blk_below (g:=gb184) (o := .cells #[.slice A1_0 l1_0.length c1_0, .bool a1_1] 44 (0,0)) (by (with_reducible repeat (first|refine kn' ?_ _|refine kd' ?_|refine ka' ?_ _));exact BK184.out) hb);have n8_:=am' (blk_below (g:=gb202) (o := .cells #[.slice Ao60 t198.length co60, .bool t201] 44 (0,0)) (by (with_reducible repeat (first|refine kn' ?_ _|refine kd' ?_|refine ka' ?_ _));exact BK202.out) hb);have n9_:=am' (Kd.C_below (by repeat (first|(with_reducible exact HR206_0.out)|(with_reducible refine ca' ?_ _)|(with_reducible refine cn' ?_ _)|(with_reducible refine cd' ?_)|exact HR206_0.out)) hb);have n10_:=am' (below_step (by repeat (first|(with_reducible first|exact HB.out|apply ba'|apply bd'|apply be'|refine bs' ?_ GE183.out|refine bs' ?_ GE184.out|refine bs' ?_ GE202.out)|exact HB.out)) hb);clear HO_5;clear HO_6;clear HO_80;clear HO_203000;clear HL206_0;clear HO209;clear BK183;clear BK184;clear BK202;clear HR206_0;clear HB;have HO_5:=n0_;have HO_6:=n1_;have HO_80:=n2_;have HO_203000:=n3_;have HL206_0:=n4_;have HO209:=n5_;have BK183:=n6_;have BK184:=n7_;have BK202:=n8_;have HR206_0:=n9_;have HB:=n10_;clear n0_ n1_ n2_ n3_ n4_ n5_ n6_ n7_ n8_ n9_ n10_;(try clear hb);(try clear hb2);(try clear hk);(try clear hi)))
                            have n0_:=am' (rw' HO_5.out);have n1_:=am' (rw' HO_6.out);have n2_:=am' (Kd.N_drew HO_80.out);have n3_:=am' (rw' HO_203000.out);have n4_:=am' (Kd.V_drew HL206_0.out);have n5_:=am' (rw' HO209.out);have n6_:=am' (kd' BK183.out);have n7_:=am' (kd' BK184.out);have n8_:=am' (kd' BK202.out);have n9_:=am' (cd' HR206_0.out);have n10_:=am' (be' HB.out);clear HO_5;clear HO_6;clear HO_80;clear HO_203000;clear HL206_0;clear HO209;clear BK183;clear BK184;clear BK202;clear HR206_0;clear HB;have HO_5:=n0_;have HO_6:=n1_;have HO_80:=n2_;have HO_203000:=n3_;have HL206_0:=n4_;have HO209:=n5_;have BK183:=n6_;have BK184:=n7_;have BK202:=n8_;have HR206_0:=n9_;have HB:=n10_;clear n0_ n1_ n2_ n3_ n4_ n5_ n6_ n7_ n8_ n9_ n10_;have p212:0≤(x8_3:Int):=of_decide_eq_true (by first|(with_reducible assumption)|assumption);have q212:x8_3 < (x5_4.length:Int):=of_decide_eq_true (by first|(with_reducible assumption)|assumption);obtain ⟨ad212,e212,hx212_0⟩:=Kd.at_int (Kd.R_reads' HO_5.out).2.2 x8_3 p212 q212;obtain rfl:(⟨go26,0,none⟩:Addr)=ad212:=(by injection e212)
                            (first|simp only[add_plain] at hx212_0|simp only[add_at] at hx212_0|simp only[Addr.add,Nat.zero_add] at hx212_0|skip)
                            replace p212:=eq_true p212;replace q212:=eq_true q212;refine start_ (n:=9) (S:=fun w'=>w'.cell? ⟨gb183,0,none⟩=some (.slice A0_0 l0_0.length c0_0)∧w'.cell? ⟨gb183,1,none⟩=some (.int .i64 a0_1)∧w'.cell? ⟨go26,(x8_3).toNat,none⟩=some (.int .i64 (rd x5_4 x8_3))) (ds:=[]) #[false,false,false,false,false,false,false,false,false] (by kernel_rfl) rfl rfl ⟨(blk_cell BK183.out 0).trans rfl,(blk_cell BK183.out 1).trans rfl,hx212_0⟩ (fun hHeld=>?_);refine with_tabW spec_seFar.tab24 spec_seFar.bits24 (fun HT_ HW_=>?_);generalize w84.drew=w85 at HO_5 HO_6 HO_80 HO_203000 HL206_0 HO209 BK183 BK184 BK202 HR206_0 HB hx212_0 hHeld ⊢
                            refine pure_ (i:=0) (N:=some 90) (v:=?_) (a':=?_) #[true,false,false,false,false,false,false,false,false] rfl rfl (any_of HT_.out (by kernel_rfl)) (fun _ _ _ h=>h) (Or.inl ⟨by rfl,?_⟩) ?_ ?_
                            rotate_left
                            ·
                             intro w';go_simp;with_reducible rfl
                            rotate_left
                            ·
                             simp only[Act.put,sa',sb',sc',i64_w,i32_w];rfl
                            refine pure_ (i:=1) (N:=some 91) (v:=?_) (a':=?_) #[true,true,false,false,false,false,false,false,false] rfl rfl (any_of HT_.out (by kernel_rfl)) (fun _ _ _ h=>h) (Or.inl ⟨by rfl,?_⟩) ?_ ?_
                            rotate_left
                            ·
                             intro w';go_simp;with_reducible rfl
                            rotate_left
                            ·
                             simp only[Act.put,sa',sb',sc',i64_w,i32_w];rfl
                            refine pure_ (i:=2) (N:=some 92) (v:=?_) (a':=?_) #[true,true,true,false,false,false,false,false,false] rfl rfl (any_of HT_.out (by kernel_rfl)) (fun _ _ _ h=>h) (Or.inl ⟨by rfl,?_⟩) ?_ ?_
                            rotate_left
                            ·
                             intro w';go_simp;with_reducible rfl
                            rotate_left
                            ·
                             simp only[Act.put,sa',sb',sc',i64_w,i32_w];rfl
                            refine pure_ (i:=5) (N:=some 95) (v:=?_) (a':=?_) #[true,true,true,false,false,true,false,false,false] rfl rfl (any_of HT_.out (by kernel_rfl)) (fun _ _ _ h=>h) (Or.inl ⟨by rfl,?_⟩) ?_ ?_
                            rotate_left
                            ·
                             intro w';go_simp;with_reducible rfl
                            rotate_left
                            ·
                             simp only[Act.put,sa',sb',sc',i64_w,i32_w];rfl
                            refine take_ (i:=3) (N:=some 93) (v:=?_) (a':=?_) #[true,true,true,true,false,true,false,false,false] rfl rfl (take_ofW HT_.out HW_.out (by kernel_rfl)) (fun _ _ _ h=>h) (Or.inl ⟨by rfl,?_⟩) hHeld ?_ ?_
                            rotate_left
                            ·
                             rintro w' ⟨s0,s1,s2⟩
                             go_simp;with_reducible rfl
                            rotate_left
                            ·
                             simp only[Act.put,sa',sb',sc',i64_w,i32_w];rfl
                            refine take_ (i:=4) (N:=some 94) (v:=?_) (a':=?_) #[true,true,true,true,true,true,false,false,false] rfl rfl (take_ofW HT_.out HW_.out (by kernel_rfl)) (fun _ _ _ h=>h) (Or.inl ⟨by rfl,?_⟩) hHeld ?_ ?_
                            rotate_left
                            ·
                             rintro w' ⟨s0,s1,s2⟩
                             go_simp;with_reducible rfl
                            rotate_left
                            ·
                             simp only[Act.put,sa',sb',sc',i64_w,i32_w];rfl
                            refine one_ (i:=6) (N:=some 96) #[true,true,true,true,true,true,true,false,false] rfl rfl (one_of HT_.out (by kernel_rfl)) (by decide) (fun K hK=>?_);refine goes_ Try.func102 (by kernel_rfl) rfl #[.agg #[.slice A0_0 l0_0.length c0_0, .int .i64 a0_1], .slice A206_0 (rd_L2 t203 x82_4).length c206_0] (by rfl) rfl rfl (by (try simp only[List.map_toArray,List.map_cons,List.map_nil]);first|done|rfl|(simp only[List.length_drop,List.length_take];rfl)) ?_
                            with_reducible refine (spec_paTime.calls k4 _ _ l0_0 a0_1 _ _ (rd_L2 t203 x82_4) t213 _ ?side1 ?side2 ?side3 ?side4 A74.out).mono ?_
                            (case side1=>repeat (first|exact (Kd.C_below HR0_0.out HB.out)|(with_reducible refine ca' ?_ _)|(with_reducible refine cn' ?_ _)|(with_reducible refine cd' ?_)))
                            (case side2=>exact HC0_0.out)
                            (case side3=>repeat (first|exact (by repeat (first|(with_reducible exact HR206_0.out)|(with_reducible refine ca' ?_ _)|(with_reducible refine cn' ?_ _)|(with_reducible refine cd' ?_)|exact HR206_0.out))|(with_reducible refine ca' ?_ _)|(with_reducible refine cn' ?_ _)|(with_reducible refine cd' ?_)))
                            (case side4=>exact HC206_0.out)
                            rintro e w86 ⟨rfl,hb⟩
                            have HS2_:=(hb.cell (bl' _ _ (hHeld.2.2))).trans (hHeld.2.2);refine ⟨_,rfl,?_⟩;have n0_:=am' (Kd.R_below (by (with_reducible repeat (first|apply ra'|apply rn'|apply rw'));exact HO_5.out) hb);have n1_:=am' (Kd.R_below (by (with_reducible repeat (first|apply ra'|apply rn'|apply rw'));exact HO_6.out) hb);have n2_:=am' (Kd.N_below (by (with_reducible repeat (first|apply Kd.N_alloc|apply Kd.N_drewN|apply Kd.N_drew));exact HO_80.out) hb);have n3_:=am' (Kd.R_below (by (with_reducible repeat (first|apply ra'|apply rn'|apply rw'));exact HO_203000.out) hb);have n4_:=am' (Kd.V_below (by (with_reducible repeat (first|apply Kd.V_alloc|apply Kd.V_drewN|apply Kd.V_drew));exact HL206_0.out) hb);have n5_:=am' (Kd.R_below (by (with_reducible repeat (first|apply ra'|apply rn'|apply rw'));exact HO209.out) hb);have n6_:=am' (blk_below (g:=gb183) (o := .cells #[.slice A0_0 l0_0.length c0_0, .int .i64 a0_1] 28 (0,0)) (by (with_reducible repeat (first|refine kn' ?_ _|refine kd' ?_|refine ka' ?_ _));exact BK183.out) hb);have n7_:=am' (blk_below (g:=gb184) (o := .cells #[.slice A1_0 l1_0.length c1_0, .bool a1_1] 44 (0,0)) (by (with_reducible repeat (first|refine kn' ?_ _|refine kd' ?_|refine ka' ?_ _));exact BK184.out) hb);have n8_:=am' (blk_below (g:=gb202) (o := .cells #[.slice Ao60 t198.length co60, .bool t201] 44 (0,0)) (by (with_reducible repeat (first|refine kn' ?_ _|refine kd' ?_|refine ka' ?_ _));exact BK202.out) hb);have n9_:=am' (Kd.C_below (by repeat (first|(with_reducible exact HR206_0.out)|(with_reducible refine ca' ?_ _)|(with_reducible refine cn' ?_ _)|(with_reducible refine cd' ?_)|exact HR206_0.out)) hb);have n10_:=am' (below_step (by repeat (first|(with_reducible first|exact HB.out|apply ba'|apply bd'|apply be'|refine bs' ?_ GE183.out|refine bs' ?_ GE184.out|refine bs' ?_ GE202.out)|exact HB.out)) hb);clear HO_5;clear HO_6;clear HO_80;clear HO_203000;clear HL206_0;clear HO209;clear BK183;clear BK184;clear BK202;clear HR206_0;clear HB;have HO_5:=n0_;have HO_6:=n1_;have HO_80:=n2_;have HO_203000:=n3_;have HL206_0:=n4_;have HO209:=n5_;have BK183:=n6_;have BK184:=n7_;have BK202:=n8_;have HR206_0:=n9_;have HB:=n10_;clear n0_ n1_ n2_ n3_ n4_ n5_ n6_ n7_ n8_ n9_ n10_
                            (try clear hb)
                            (try clear hb2)
                            (try clear hk)
                            (try clear hi)
                            refine hK.out _ _ ⟨(blk_cell BK183.out 0).trans rfl,(blk_cell BK183.out 1).trans rfl,HS2_⟩ (fun hHeld=>?_);clear hK K;refine norm_ (a':=?_) ?_ ?_
                            rotate_left
                            ·
                             show Act.put _ (some 96) _=_
                             simp only[Act.put,sa',sb',sc',i64_w,i32_w];rfl
                            refine pure_ (i:=7) (N:=some 97) (v:=?_) (a':=?_) #[true,true,true,true,true,true,true,true,false] rfl rfl (any_of HT_.out (by kernel_rfl)) (fun _ _ _ h=>h) (Or.inl ⟨by rfl,?_⟩) ?_ ?_
                            rotate_left
                            ·
                             intro w';go_simp;with_reducible rfl
                            rotate_left
                            ·
                             simp only[Act.put,sa',sb',sc',i64_w,i32_w];rfl
                            refine pure_ (i:=8) (N:=some 15) (v:=?_) (a':=?_) #[true,true,true,true,true,true,true,true,true] rfl rfl (any_of HT_.out (by kernel_rfl)) (fun _ _ _ h=>h) (Or.inl ⟨by rfl,?_⟩) ?_ ?_
                            rotate_left
                            ·
                             intro w';go_simp;with_reducible rfl
                            rotate_left
                            ·
                             simp only[Act.put,sa',sb',sc',i64_w,i32_w];rfl
                            refine done_ (done_of HT_.out (by kernel_rfl)) ?_
                            have p214:0≤(t211:Int):=of_decide_eq_true (by first|(with_reducible assumption)|assumption);have q214:t211 < (x5_4.length:Int):=of_decide_eq_true (by first|(with_reducible assumption)|assumption);obtain ⟨ad214,e214,hx214_0⟩:=Kd.at_int (Kd.R_reads' HO_5.out).2.2 t211 p214 q214;obtain rfl:(⟨go26,0,none⟩:Addr)=ad214:=(by injection e214)
                            (first|simp only[add_plain] at hx214_0|simp only[add_at] at hx214_0|simp only[Addr.add,Nat.zero_add] at hx214_0|skip)
                            replace p214:=eq_true p214;replace q214:=eq_true q214;have p78:0≤(t211:Int):=of_decide_eq_true (by first|(with_reducible assumption)|assumption);have q78:(t211:Int) < ((x5_4.length:Int):Int):=of_decide_eq_true (by first|(with_reducible assumption)|assumption);obtain ⟨hx78_0,hf78_0⟩:=Kd.R_celln 0 HO_5.out (t211:Int) p78 q78;replace p78:=eq_true p78;replace q78:=eq_true q78;obtain ⟨hy87_,hz87_⟩:=Kd.R_celln 0 HO_5.out (t211:Int) (of_decide_eq_true (by first|(with_reducible assumption)|assumption)) (of_decide_eq_true (by first|(with_reducible assumption)|assumption));have HP87:=Kd.R_putg HO_5.out (t211:Int) (wrap64 ((rd x5_4 x8_3)+t213))
                            try go_wp2_with (first|((with_reducible refine gate_store (t:=3) (p:=114) rfl ?_);refine store_event (t:=3) (p:=114) (v:=?vo_w88) (w1:=(w86.setCell ⟨go26,(t211:Int).toNat,none⟩ (.int .i64 (wrap64 ((rd x5_4 x8_3)+t213))))) ?hg ?ho ?hn ?hr ?_;(case ho=>rfl);(case hg=>rfl);(case hn=>rfl);(case hr=>first|(go_simp;done)|(go_simp;rfl));intro w88 hw;have hg:w86.grownBy w88 (some go26):=(by rw[hw];exact HP87.2);have hp_:Kd.R (Kd.int .i64) 3 w88 w.heap.size (fun _=>True) (.slice (some ⟨go26,0,none⟩) x5_4.length co14) y215:=(by rw[hw,Ny215.out];exact HP87.1);clear HP87;have n0_:=am' (hp_);have n1_:=am' (Kd.R_over' (v:=(.slice (some ⟨go26,0,none⟩) x5_4.length co14)) (by (with_reducible repeat (first|apply ra'|apply rn'|apply rw'));exact HO_6.out) (Kd.R_typed HO_5.out) (by decide) hg);have n2_:=am' (Kd.N_afterv (v:=(.slice (some ⟨go26,0,none⟩) x5_4.length co14)) (v1:=(.slice (some ⟨go26,0,none⟩) x5_4.length co14)) (ok:=(fun k_=>some k_≠(.slice (some ⟨go51,0,none⟩) y197.length co51:Value).ownBlock∧some k_≠(.slice Ao60 t198.length co60:Value).ownBlock∧some k_≠(.slice Ao83 t207.length co83:Value).ownBlock∧k_≠gb183∧k_≠gb184∧k_≠gb202)) (by (with_reducible repeat (first|apply Kd.N_alloc|apply Kd.N_drewN|apply Kd.N_drew));exact Kd.N_mono HO_80.out (fun _ hk=>⟨⟨hk.1.2.1,⟨hk.1.2.2.1,⟨hk.2,⟨hk.1.2.2.2.1,⟨hk.1.2.2.2.2.1,hk.1.2.2.2.2.2⟩⟩⟩⟩⟩,hk.1.1⟩)) hg (.inl rfl));have n3_:=am' (Kd.R_over' (v:=(.slice (some ⟨go26,0,none⟩) x5_4.length co14)) (by (with_reducible repeat (first|apply ra'|apply rn'|apply rw'));exact HO_203000.out) (Kd.R_typed HO_5.out) (by decide) hg);have n4_:=am' (blk_grown (g:=gb183) (o := .cells #[.slice A0_0 l0_0.length c0_0, .int .i64 a0_1] 28 (0,0)) (by (with_reducible repeat (first|refine kn' ?_ _|refine kd' ?_|refine ka' ?_ _));exact BK183.out) hg (Kd.R_ne HO_5.out BK183.out (by decide)));have n5_:=am' (blk_grown (g:=gb184) (o := .cells #[.slice A1_0 l1_0.length c1_0, .bool a1_1] 44 (0,0)) (by (with_reducible repeat (first|refine kn' ?_ _|refine kd' ?_|refine ka' ?_ _));exact BK184.out) hg (Kd.R_ne HO_5.out BK184.out (by decide)));have n6_:=am' (blk_grown (g:=gb202) (o := .cells #[.slice Ao60 t198.length co60, .bool t201] 44 (0,0)) (by (with_reducible repeat (first|refine kn' ?_ _|refine kd' ?_|refine ka' ?_ _));exact BK202.out) hg (Kd.R_ne HO_5.out BK202.out (by decide)));have n7_:=am' (Kd.V_afterv (v:=(.slice (some ⟨go26,0,none⟩) x5_4.length co14)) (v1:=(.slice (some ⟨go26,0,none⟩) x5_4.length co14)) (ok:=(fun k_=>some k_≠(.slice (some ⟨go51,0,none⟩) y197.length co51:Value).ownBlock∧some k_≠(.slice (some ad206) t203.length co66:Value).ownBlock∧some k_≠(.slice Ao60 t198.length co60:Value).ownBlock∧some k_≠(.slice Ao83 t207.length co83:Value).ownBlock∧k_≠gb183∧k_≠gb184∧k_≠gb202)) (by (with_reducible repeat (first|apply Kd.V_alloc|apply Kd.V_drewN|apply Kd.V_drew));exact Kd.V_mono HL206_0.out (fun _ hk=>⟨⟨hk.1.1.2.1,⟨hk.1.2,⟨hk.1.1.2.2.1,⟨hk.2,⟨hk.1.1.2.2.2.1,⟨hk.1.1.2.2.2.2.1,hk.1.1.2.2.2.2.2⟩⟩⟩⟩⟩⟩,hk.1.1.1⟩)) hg (.inl rfl));have n8_:=am' (Kd.R_over' (v:=(.slice (some ⟨go26,0,none⟩) x5_4.length co14)) (by (with_reducible repeat (first|apply ra'|apply rn'|apply rw'));exact HO209.out) (Kd.R_typed HO_5.out) (by decide) hg);have n9_:=am' ((by rw[hw];exact bs' (HB.out) GB26.out:Below w.heap.size w w88));clear HO_5;clear HO_6;clear HO_80;clear HO_203000;clear BK183;clear BK184;clear BK202;clear HL206_0;clear HO209;clear HB;have HO_5:=n0_;have HO_6:=n1_;have HO_80:=n2_;have HO_203000:=n3_;have BK183:=n4_;have BK184:=n5_;have BK202:=n6_;have HL206_0:=n7_;have HO209:=n8_;have HB:=n9_;clear n0_ n1_ n2_ n3_ n4_ n5_ n6_ n7_ n8_ n9_;clear hg hw hp_))
                            (try simp only[← hl5_4,← hl6_4])
                            go_roundg k4
                            case measure=>have:=HK1.out;have:=HK2.out;have:=HK3.out;have:=HK4.out;omega
                            case rel=>exact ⟨(y215),(wrap64 (x82_4+1)),(by first|rfl|(simp;done)|(simp[*];done)),H',⟨by have:=HK1.out;have:=HK2.out;have:=HK3.out;have:=HK4.out;omega⟩,⟨by (try simp only[hl5_1]);(try simp only[hl5_2]);(try simp only[hl5_4]);(try simp only[hl6_4]);(with_reducible repeat (first|apply ra'|apply rn'|apply rw'));exact HO_5.out⟩,⟨by (try simp only[hl5_1]);(try simp only[hl5_2]);(try simp only[hl5_4]);(try simp only[hl6_4]);(with_reducible repeat (first|apply ra'|apply rn'|apply rw'));exact Kd.R_mono HO_6.out (fun _ hk=>hk.1)⟩,⟨by (try simp only[hl5_1]);(try simp only[hl5_2]);(try simp only[hl5_4]);(try simp only[hl6_4]);(with_reducible repeat (first|apply Kd.N_alloc|apply Kd.N_drewN|apply Kd.N_drew));exact Kd.N_mono HO_80.out (fun _ hk=>⟨hk.2,⟨hk.1.1,⟨hk.1.2.1,⟨hk.1.2.2.2.1,⟨hk.1.2.2.2.2.1,hk.1.2.2.2.2.2⟩⟩⟩⟩⟩)⟩,⟨by (try simp only[hl5_1]);(try simp only[hl5_2]);(try simp only[hl5_4]);(try simp only[hl6_4]);(with_reducible repeat (first|apply ra'|apply rn'|apply rw'));exact Kd.R_mono HO_203000.out (fun _ hk=>hk.1)⟩,⟨by (try simp only[hl5_1]);(try simp only[hl5_2]);(try simp only[hl5_4]);(try simp only[hl6_4]);(with_reducible repeat (first|refine kn' ?_ _|refine kd' ?_|refine ka' ?_ _));exact BK183.out⟩,⟨by (try simp only[hl5_1]);(try simp only[hl5_2]);(try simp only[hl5_4]);(try simp only[hl6_4]);(with_reducible repeat (first|refine kn' ?_ _|refine kd' ?_|refine ka' ?_ _));exact BK184.out⟩,⟨by (try simp only[hl5_1]);(try simp only[hl5_2]);(try simp only[hl5_4]);(try simp only[hl6_4]);(with_reducible repeat (first|refine kn' ?_ _|refine kd' ?_|refine ka' ?_ _));exact BK202.out⟩,⟨by repeat (first|(with_reducible first|exact HB.out|apply ba'|apply bd'|apply be'|refine bs' ?_ GE183.out|refine bs' ?_ GE184.out|refine bs' ?_ GE202.out)|exact HB.out)⟩⟩
                           ·
                            rw[if_neg c77] at H;have c77b0:decide ((rd x5_4 t211) < 0)=false:=decide_eq_false c77;clear c77;by_cases c89:(wrap64 ((rd x5_4 x8_3)+t213)) < (rd x5_4 t211)
                            ·
                             rw[if_pos c89] at H;have c89b0:decide ((wrap64 ((rd x5_4 x8_3)+t213)) < (rd x5_4 t211))=true:=decide_eq_true c89;clear c89;obtain ⟨y217,hy217⟩:∃ y_:List Int,y_=(x5_4.set (t211:Int).toNat (wrap64 ((rd x5_4 x8_3)+t213))):=⟨_,rfl⟩
                             replace H:(spec_seFar.l3 k4 y217 y197 x8_3 t203 (t203.length:Int) (wrap64 (x82_4+1)) l0_0 a0_1 t198 t201)=some r:=by first|(rw[hy217];with_reducible exact H)|(have H2_:=(Option.bind_some _ _).symm.trans H;rw[hy217];with_reducible exact H2_)|(have H2_:=(Option.bind_some _ _).symm.trans H;with_reducible exact H2_)|with_reducible exact H|(rw[hy217];exact H)|exact H
                             have Ny217:=am' hy217;clear hy217;have H':=am' H;clear H;have p206:0≤(x82_4:Int):=of_decide_eq_true (by first|(with_reducible assumption)|assumption);have q206:x82_4 < (t203.length:Int):=of_decide_eq_true (by first|(with_reducible assumption)|assumption);obtain ⟨ad206,A206_0,c206_0,e206,hx206_0,hl206_0,hi206_0⟩:=at_L2 (Kd.N_reads' HO_80.out).2.2 x82_4 p206 q206;cases e206;obtain ⟨ce206,hce206,hMe206,hcc206⟩:=Kd.N_get HO_80.out [] x82_4 p206 (by first|exact q206|exact of_decide_eq_true (by first|(with_reducible assumption)|assumption)|(have e_:=(Kd.N_reads' HO_80.out).1;omega));obtain ⟨ua206_0,uc206_0,rfl,ul206_0,ge206_0⟩:=Kd.FK_slice_open hMe206;have hv206_0:=hcc206 0 _ rfl;rw[Nat.add_zero,show ((Kd.slice 3 (Kd.int .i64))).sz=1 from rfl,Nat.mul_one] at hv206_0;replace hv206_0:=Option.some.inj (hv206_0.symm.trans hx206_0);injection hv206_0 with hva_ hvn_ hvc_
                             rw[hva_] at ge206_0;rw[hvc_] at ul206_0;have HL206_0:=am' (show Kd.V (Kd.int .i64) 3 _ w.heap.size _ _ (rd_L2 t203 x82_4) from Kd.V_mk ul206_0 ge206_0);clear hva_ hvn_ hvc_ ge206_0 ul206_0;clear hcc206 hce206;have HR206_0:=am' hi206_0;have HC206_0:=am' hl206_0;clear hi206_0 hl206_0;replace p206:=eq_true p206;replace q206:=eq_true q206;have hnb91:=NB202_183.out;have hnc91:=NB183_202.out;have hnb92:=NB202_184.out;have hnc92:=NB184_202.out;have hcz93_0:wr.cell? ⟨gb202,0,none⟩=some (.slice Ao60 t198.length co60):=(blk_cell BK202.out 0).trans rfl;have hcz93_1:wr.cell? ⟨gb202,1,none⟩=some (.bool t201):=(blk_cell BK202.out 1).trans rfl;have hfz93_0:=blk_frozen BK202.out 0;have hfz93_1:=blk_frozen BK202.out 1
                             try go_wp2_with (first|((with_reducible refine gate_callee (f:=101) rfl ?_);refine goesL_ (some 88) rfl rfl Try.func101 (by kernel_rfl) rfl #[.agg #[.slice Ao60 t198.length co60, .bool t201], .slice A206_0 (rd_L2 t203 x82_4).length c206_0] rfl (by (try simp only[List.map_toArray,List.map_cons,List.map_nil]);first|done|rfl|(simp only[List.length_drop,List.length_take];rfl)) ?_;(with_reducible refine (spec_paCross.calls k4 _ _ t198 t201 _ _ (rd_L2 t203 x82_4) t207 t210 _ ?side1 ?side2 ?side3 ?side4 A70.out).mono ?_);(case side1=>repeat (first|exact (Kd.R_reads' HO_203000.out).2.2|(with_reducible refine ca' ?_ _)|(with_reducible refine cn' ?_ _)|(with_reducible refine cd' ?_)));(case side2=>exact (Kd.R_reads' HO_203000.out).2.1);(case side3=>repeat (first|exact (by repeat (first|(with_reducible exact HR206_0.out)|(with_reducible refine ca' ?_ _)|(with_reducible refine cn' ?_ _)|(with_reducible refine cd' ?_)|exact HR206_0.out))|(with_reducible refine ca' ?_ _)|(with_reducible refine cn' ?_ _)|(with_reducible refine cd' ?_)));(case side4=>exact HC206_0.out);rintro e w94 ⟨v208,rfl,ho0,hb⟩;refine ⟨_,rfl,?_⟩;have n0_:=am' (Kd.R_below (by (with_reducible repeat (first|apply ra'|apply rn'|apply rw'));exact HO_5.out) hb);have n1_:=am' (Kd.R_elder' (by (with_reducible repeat (first|apply ra'|apply rn'|apply rw'));exact HO_6.out) (Kd.R_base ho0) hb);have n2_:=am' (Kd.N_elder' (by (with_reducible repeat (first|apply Kd.N_alloc|apply Kd.N_drewN|apply Kd.N_drew));exact HO_80.out) (Kd.R_base ho0) hb);have n3_:=am' (Kd.R_elder' (by (with_reducible repeat (first|apply ra'|apply rn'|apply rw'));exact HO_203000.out) (Kd.R_base ho0) hb);have n4_:=am' (Kd.V_elder' (by (with_reducible repeat (first|apply Kd.V_alloc|apply Kd.V_drewN|apply Kd.V_drew));exact HL206_0.out) (Kd.R_base ho0) hb);have n5_:=am' (Kd.R_lower (Kd.R_new' (Kd.R_new' ho0 (Kd.R_lt (by (with_reducible repeat (first|apply ra'|apply rn'|apply rw'));exact HO_6.out))) (Kd.R_lt (by (with_reducible repeat (first|apply ra'|apply rn'|apply rw'));exact HO_203000.out))) (below_size (by repeat (first|(with_reducible first|exact HB.out|apply ba'|apply bd'|apply be'|refine bs' ?_ GE183.out|refine bs' ?_ GE184.out|refine bs' ?_ GE202.out)|exact HB.out))));have n6_:=am' (blk_below (g:=gb183) (o := .cells #[.slice A0_0 l0_0.length c0_0, .int .i64 a0_1] 28 (0,0)) (by (with_reducible repeat (first|refine kn' ?_ _|refine kd' ?_|refine ka' ?_ _));exact BK183.out) hb);have n7_:=am' (blk_below (g:=gb184) (o := .cells #[.slice A1_0 l1_0.length c1_0, .bool a1_1] 44 (0,0)) (by (with_reducible repeat (first|refine kn' ?_ _|refine kd' ?_|refine ka' ?_ _));exact BK184.out) hb);have n8_:=am' (blk_below (g:=gb202) (o := .cells #[.slice Ao60 t198.length co60, .bool t201] 44 (0,0)) (by (with_reducible repeat (first|refine kn' ?_ _|refine kd' ?_|refine ka' ?_ _));exact BK202.out) hb);have n9_:=am' (Kd.C_below (by repeat (first|(with_reducible exact HR206_0.out)|(with_reducible refine ca' ?_ _)|(with_reducible refine cn' ?_ _)|(with_reducible refine cd' ?_)|exact HR206_0.out)) hb);have n10_:=am' (below_step (by repeat (first|(with_reducible first|exact HB.out|apply ba'|apply bd'|apply be'|refine bs' ?_ GE183.out|refine bs' ?_ GE184.out|refine bs' ?_ GE202.out)|exact HB.out)) hb);clear HO_5;clear HO_6;clear HO_80;clear HO_203000;clear HL206_0;clear BK183;clear BK184;clear BK202;clear HR206_0;clear HB;have HO_5:=n0_;have HO_6:=n1_;have HO_80:=n2_;have HO_203000:=n3_;have HL206_0:=n4_;have HO209:=n5_;have BK183:=n6_;have BK184:=n7_;have BK202:=n8_;have HR206_0:=n9_;have HB:=n10_;clear n0_ n1_ n2_ n3_ n4_ n5_ n6_ n7_ n8_ n9_ n10_;(try clear hb);(try clear hb2);(try clear hk);(try clear hi);(try clear ho0);obtain ⟨Ao95,co95,eo95⟩:=Kd.R_slice HO209.out;subst eo95)|((with_reducible refine gate_callee (f:=78) rfl ?_);refine goesL_ (some 89) rfl rfl Try.func78 (by kernel_rfl) rfl #[.agg #[.slice Ao95 t207.length co95, .bool t210]] rfl (by (try simp only[List.map_toArray,List.map_cons,List.map_nil]);first|done|rfl|(simp only[List.length_drop,List.length_take];rfl)) ?_;(with_reducible refine (spec_seIndex.calls k4 _ _ t207 t210 t211 _ ?side1 ?side2 A71.out).mono ?_);(case side1=>repeat (first|exact (Kd.R_reads' HO209.out).2.2|(with_reducible refine ca' ?_ _)|(with_reducible refine cn' ?_ _)|(with_reducible refine cd' ?_)));(case side2=>exact (Kd.R_reads' HO209.out).2.1);rintro e w96 ⟨rfl,hb⟩;refine ⟨_,rfl,?_⟩;have n0_:=am' (Kd.R_below (by (with_reducible repeat (first|apply ra'|apply rn'|apply rw'));exact HO_5.out) hb);have n1_:=am' (Kd.R_below (by (with_reducible repeat (first|apply ra'|apply rn'|apply rw'));exact HO_6.out) hb);have n2_:=am' (Kd.N_below (by (with_reducible repeat (first|apply Kd.N_alloc|apply Kd.N_drewN|apply Kd.N_drew));exact HO_80.out) hb);have n3_:=am' (Kd.R_below (by (with_reducible repeat (first|apply ra'|apply rn'|apply rw'));exact HO_203000.out) hb);have n4_:=am' (Kd.V_below (by (with_reducible repeat (first|apply Kd.V_alloc|apply Kd.V_drewN|apply Kd.V_drew));exact HL206_0.out) hb);have n5_:=am' (Kd.R_below (by (with_reducible repeat (first|apply ra'|apply rn'|apply rw'));exact HO209.out) hb);have n6_:=am' (blk_below (g:=gb183) (o := .cells #[.slice A0_0 l0_0.length c0_0, .int .i64 a0_1] 28 (0,0)) (by (with_reducible repeat (first|refine kn' ?_ _|refine kd' ?_|refine ka' ?_ _));exact BK183.out) hb);have n7_:=am' (blk_below (g:=gb184) (o := .cells #[.slice A1_0 l1_0.length c1_0, .bool a1_1] 44 (0,0)) (by (with_reducible repeat (first|refine kn' ?_ _|refine kd' ?_|refine ka' ?_ _));exact BK184.out) hb);have n8_:=am' (blk_below (g:=gb202) (o := .cells #[.slice Ao60 t198.length co60, .bool t201] 44 (0,0)) (by (with_reducible repeat (first|refine kn' ?_ _|refine kd' ?_|refine ka' ?_ _));exact BK202.out) hb);have n9_:=am' (Kd.C_below (by repeat (first|(with_reducible exact HR206_0.out)|(with_reducible refine ca' ?_ _)|(with_reducible refine cn' ?_ _)|(with_reducible refine cd' ?_)|exact HR206_0.out)) hb);have n10_:=am' (below_step (by repeat (first|(with_reducible first|exact HB.out|apply ba'|apply bd'|apply be'|refine bs' ?_ GE183.out|refine bs' ?_ GE184.out|refine bs' ?_ GE202.out)|exact HB.out)) hb);clear HO_5;clear HO_6;clear HO_80;clear HO_203000;clear HL206_0;clear HO209;clear BK183;clear BK184;clear BK202;clear HR206_0;clear HB;have HO_5:=n0_;have HO_6:=n1_;have HO_80:=n2_;have HO_203000:=n3_;have HL206_0:=n4_;have HO209:=n5_;have BK183:=n6_;have BK184:=n7_;have BK202:=n8_;have HR206_0:=n9_;have HB:=n10_;clear n0_ n1_ n2_ n3_ n4_ n5_ n6_ n7_ n8_ n9_ n10_;(try clear hb);(try clear hb2);(try clear hk);(try clear hi)))
                             have n0_:=am' (rw' HO_5.out);have n1_:=am' (rw' HO_6.out);have n2_:=am' (Kd.N_drew HO_80.out);have n3_:=am' (rw' HO_203000.out);have n4_:=am' (Kd.V_drew HL206_0.out);have n5_:=am' (rw' HO209.out);have n6_:=am' (kd' BK183.out);have n7_:=am' (kd' BK184.out);have n8_:=am' (kd' BK202.out);have n9_:=am' (cd' HR206_0.out);have n10_:=am' (be' HB.out);clear HO_5;clear HO_6;clear HO_80;clear HO_203000;clear HL206_0;clear HO209;clear BK183;clear BK184;clear BK202;clear HR206_0;clear HB;have HO_5:=n0_;have HO_6:=n1_;have HO_80:=n2_;have HO_203000:=n3_;have HL206_0:=n4_;have HO209:=n5_;have BK183:=n6_;have BK184:=n7_;have BK202:=n8_;have HR206_0:=n9_;have HB:=n10_;clear n0_ n1_ n2_ n3_ n4_ n5_ n6_ n7_ n8_ n9_ n10_;have p212:0≤(x8_3:Int):=of_decide_eq_true (by first|(with_reducible assumption)|assumption);have q212:x8_3 < (x5_4.length:Int):=of_decide_eq_true (by first|(with_reducible assumption)|assumption);obtain ⟨ad212,e212,hx212_0⟩:=Kd.at_int (Kd.R_reads' HO_5.out).2.2 x8_3 p212 q212;obtain rfl:(⟨go26,0,none⟩:Addr)=ad212:=(by injection e212)
                             (first|simp only[add_plain] at hx212_0|simp only[add_at] at hx212_0|simp only[Addr.add,Nat.zero_add] at hx212_0|skip)
                             replace p212:=eq_true p212;replace q212:=eq_true q212;refine start_ (n:=9) (S:=fun w'=>w'.cell? ⟨gb183,0,none⟩=some (.slice A0_0 l0_0.length c0_0)∧w'.cell? ⟨gb183,1,none⟩=some (.int .i64 a0_1)∧w'.cell? ⟨go26,(x8_3).toNat,none⟩=some (.int .i64 (rd x5_4 x8_3))) (ds:=[]) #[false,false,false,false,false,false,false,false,false] (by kernel_rfl) rfl rfl ⟨(blk_cell BK183.out 0).trans rfl,(blk_cell BK183.out 1).trans rfl,hx212_0⟩ (fun hHeld=>?_);refine with_tabW spec_seFar.tab24 spec_seFar.bits24 (fun HT_ HW_=>?_);generalize w96.drew=w97 at HO_5 HO_6 HO_80 HO_203000 HL206_0 HO209 BK183 BK184 BK202 HR206_0 HB hx212_0 hHeld ⊢
                             refine pure_ (i:=0) (N:=some 90) (v:=?_) (a':=?_) #[true,false,false,false,false,false,false,false,false] rfl rfl (any_of HT_.out (by kernel_rfl)) (fun _ _ _ h=>h) (Or.inl ⟨by rfl,?_⟩) ?_ ?_
                             rotate_left
                             ·
                              intro w';go_simp;with_reducible rfl
                             rotate_left
                             ·
                              simp only[Act.put,sa',sb',sc',i64_w,i32_w];rfl
                             refine pure_ (i:=1) (N:=some 91) (v:=?_) (a':=?_) #[true,true,false,false,false,false,false,false,false] rfl rfl (any_of HT_.out (by kernel_rfl)) (fun _ _ _ h=>h) (Or.inl ⟨by rfl,?_⟩) ?_ ?_
                             rotate_left
                             ·
                              intro w';go_simp;with_reducible rfl
                             rotate_left
                             ·
                              simp only[Act.put,sa',sb',sc',i64_w,i32_w];rfl
                             refine pure_ (i:=2) (N:=some 92) (v:=?_) (a':=?_) #[true,true,true,false,false,false,false,false,false] rfl rfl (any_of HT_.out (by kernel_rfl)) (fun _ _ _ h=>h) (Or.inl ⟨by rfl,?_⟩) ?_ ?_
                             rotate_left
                             ·
                              intro w';go_simp;with_reducible rfl
                             rotate_left
                             ·
                              simp only[Act.put,sa',sb',sc',i64_w,i32_w];rfl
                             refine pure_ (i:=5) (N:=some 95) (v:=?_) (a':=?_) #[true,true,true,false,false,true,false,false,false] rfl rfl (any_of HT_.out (by kernel_rfl)) (fun _ _ _ h=>h) (Or.inl ⟨by rfl,?_⟩) ?_ ?_
                             rotate_left
                             ·
                              intro w';go_simp;with_reducible rfl
                             rotate_left
                             ·
                              simp only[Act.put,sa',sb',sc',i64_w,i32_w];rfl
                             refine take_ (i:=3) (N:=some 93) (v:=?_) (a':=?_) #[true,true,true,true,false,true,false,false,false] rfl rfl (take_ofW HT_.out HW_.out (by kernel_rfl)) (fun _ _ _ h=>h) (Or.inl ⟨by rfl,?_⟩) hHeld ?_ ?_
                             rotate_left
                             ·
                              rintro w' ⟨s0,s1,s2⟩
                              go_simp;with_reducible rfl
                             rotate_left
                             ·
                              simp only[Act.put,sa',sb',sc',i64_w,i32_w];rfl
                             refine take_ (i:=4) (N:=some 94) (v:=?_) (a':=?_) #[true,true,true,true,true,true,false,false,false] rfl rfl (take_ofW HT_.out HW_.out (by kernel_rfl)) (fun _ _ _ h=>h) (Or.inl ⟨by rfl,?_⟩) hHeld ?_ ?_
                             rotate_left
                             ·
                              rintro w' ⟨s0,s1,s2⟩
                              go_simp;with_reducible rfl
                             rotate_left
                             ·
                              simp only[Act.put,sa',sb',sc',i64_w,i32_w];rfl
                             refine one_ (i:=6) (N:=some 96) #[true,true,true,true,true,true,true,false,false] rfl rfl (one_of HT_.out (by kernel_rfl)) (by decide) (fun K hK=>?_);refine goes_ Try.func102 (by kernel_rfl) rfl #[.agg #[.slice A0_0 l0_0.length c0_0, .int .i64 a0_1], .slice A206_0 (rd_L2 t203 x82_4).length c206_0] (by rfl) rfl rfl (by (try simp only[List.map_toArray,List.map_cons,List.map_nil]);first|done|rfl|(simp only[List.length_drop,List.length_take];rfl)) ?_
                             with_reducible refine (spec_paTime.calls k4 _ _ l0_0 a0_1 _ _ (rd_L2 t203 x82_4) t213 _ ?side1 ?side2 ?side3 ?side4 A74.out).mono ?_
                             (case side1=>repeat (first|exact (Kd.C_below HR0_0.out HB.out)|(with_reducible refine ca' ?_ _)|(with_reducible refine cn' ?_ _)|(with_reducible refine cd' ?_)))
                             (case side2=>exact HC0_0.out)
                             (case side3=>repeat (first|exact (by repeat (first|(with_reducible exact HR206_0.out)|(with_reducible refine ca' ?_ _)|(with_reducible refine cn' ?_ _)|(with_reducible refine cd' ?_)|exact HR206_0.out))|(with_reducible refine ca' ?_ _)|(with_reducible refine cn' ?_ _)|(with_reducible refine cd' ?_)))
                             (case side4=>exact HC206_0.out)
                             rintro e w98 ⟨rfl,hb⟩
                             have HS2_:=(hb.cell (bl' _ _ (hHeld.2.2))).trans (hHeld.2.2);refine ⟨_,rfl,?_⟩;have n0_:=am' (Kd.R_below (by (with_reducible repeat (first|apply ra'|apply rn'|apply rw'));exact HO_5.out) hb);have n1_:=am' (Kd.R_below (by (with_reducible repeat (first|apply ra'|apply rn'|apply rw'));exact HO_6.out) hb);have n2_:=am' (Kd.N_below (by (with_reducible repeat (first|apply Kd.N_alloc|apply Kd.N_drewN|apply Kd.N_drew));exact HO_80.out) hb);have n3_:=am' (Kd.R_below (by (with_reducible repeat (first|apply ra'|apply rn'|apply rw'));exact HO_203000.out) hb);have n4_:=am' (Kd.V_below (by (with_reducible repeat (first|apply Kd.V_alloc|apply Kd.V_drewN|apply Kd.V_drew));exact HL206_0.out) hb);have n5_:=am' (Kd.R_below (by (with_reducible repeat (first|apply ra'|apply rn'|apply rw'));exact HO209.out) hb);have n6_:=am' (blk_below (g:=gb183) (o := .cells #[.slice A0_0 l0_0.length c0_0, .int .i64 a0_1] 28 (0,0)) (by (with_reducible repeat (first|refine kn' ?_ _|refine kd' ?_|refine ka' ?_ _));exact BK183.out) hb);have n7_:=am' (blk_below (g:=gb184) (o := .cells #[.slice A1_0 l1_0.length c1_0, .bool a1_1] 44 (0,0)) (by (with_reducible repeat (first|refine kn' ?_ _|refine kd' ?_|refine ka' ?_ _));exact BK184.out) hb);have n8_:=am' (blk_below (g:=gb202) (o := .cells #[.slice Ao60 t198.length co60, .bool t201] 44 (0,0)) (by (with_reducible repeat (first|refine kn' ?_ _|refine kd' ?_|refine ka' ?_ _));exact BK202.out) hb);have n9_:=am' (Kd.C_below (by repeat (first|(with_reducible exact HR206_0.out)|(with_reducible refine ca' ?_ _)|(with_reducible refine cn' ?_ _)|(with_reducible refine cd' ?_)|exact HR206_0.out)) hb);have n10_:=am' (below_step (by repeat (first|(with_reducible first|exact HB.out|apply ba'|apply bd'|apply be'|refine bs' ?_ GE183.out|refine bs' ?_ GE184.out|refine bs' ?_ GE202.out)|exact HB.out)) hb);clear HO_5;clear HO_6;clear HO_80;clear HO_203000;clear HL206_0;clear HO209;clear BK183;clear BK184;clear BK202;clear HR206_0;clear HB;have HO_5:=n0_;have HO_6:=n1_;have HO_80:=n2_;have HO_203000:=n3_;have HL206_0:=n4_;have HO209:=n5_;have BK183:=n6_;have BK184:=n7_;have BK202:=n8_;have HR206_0:=n9_;have HB:=n10_;clear n0_ n1_ n2_ n3_ n4_ n5_ n6_ n7_ n8_ n9_ n10_
                             (try clear hb)
                             (try clear hb2)
                             (try clear hk)
                             (try clear hi)
                             refine hK.out _ _ ⟨(blk_cell BK183.out 0).trans rfl,(blk_cell BK183.out 1).trans rfl,HS2_⟩ (fun hHeld=>?_);clear hK K;refine norm_ (a':=?_) ?_ ?_
                             rotate_left
                             ·
                              show Act.put _ (some 96) _=_
                              simp only[Act.put,sa',sb',sc',i64_w,i32_w];rfl
                             refine pure_ (i:=7) (N:=some 97) (v:=?_) (a':=?_) #[true,true,true,true,true,true,true,true,false] rfl rfl (any_of HT_.out (by kernel_rfl)) (fun _ _ _ h=>h) (Or.inl ⟨by rfl,?_⟩) ?_ ?_
                             rotate_left
                             ·
                              intro w';go_simp;with_reducible rfl
                             rotate_left
                             ·
                              simp only[Act.put,sa',sb',sc',i64_w,i32_w];rfl
                             refine pure_ (i:=8) (N:=some 15) (v:=?_) (a':=?_) #[true,true,true,true,true,true,true,true,true] rfl rfl (any_of HT_.out (by kernel_rfl)) (fun _ _ _ h=>h) (Or.inl ⟨by rfl,?_⟩) ?_ ?_
                             rotate_left
                             ·
                              intro w';go_simp;with_reducible rfl
                             rotate_left
                             ·
                              simp only[Act.put,sa',sb',sc',i64_w,i32_w];rfl
                             refine done_ (done_of HT_.out (by kernel_rfl)) ?_
                             have p214:0≤(t211:Int):=of_decide_eq_true (by first|(with_reducible assumption)|assumption);have q214:t211 < (x5_4.length:Int):=of_decide_eq_true (by first|(with_reducible assumption)|assumption);obtain ⟨ad214,e214,hx214_0⟩:=Kd.at_int (Kd.R_reads' HO_5.out).2.2 t211 p214 q214;obtain rfl:(⟨go26,0,none⟩:Addr)=ad214:=(by injection e214)
                             (first|simp only[add_plain] at hx214_0|simp only[add_at] at hx214_0|simp only[Addr.add,Nat.zero_add] at hx214_0|skip)
                             replace p214:=eq_true p214;replace q214:=eq_true q214;have p216:0≤(t211:Int):=of_decide_eq_true (by first|(with_reducible assumption)|assumption);have q216:t211 < (x5_4.length:Int):=of_decide_eq_true (by first|(with_reducible assumption)|assumption);obtain ⟨ad216,e216,hx216_0⟩:=Kd.at_int (Kd.R_reads' HO_5.out).2.2 t211 p216 q216;obtain rfl:(⟨go26,0,none⟩:Addr)=ad216:=(by injection e216)
                             (first|simp only[add_plain] at hx216_0|simp only[add_at] at hx216_0|simp only[Addr.add,Nat.zero_add] at hx216_0|skip)
                             replace p216:=eq_true p216;replace q216:=eq_true q216;have p90:0≤(t211:Int):=of_decide_eq_true (by first|(with_reducible assumption)|assumption);have q90:(t211:Int) < ((x5_4.length:Int):Int):=of_decide_eq_true (by first|(with_reducible assumption)|assumption);obtain ⟨hx90_0,hf90_0⟩:=Kd.R_celln 0 HO_5.out (t211:Int) p90 q90;replace p90:=eq_true p90;replace q90:=eq_true q90;obtain ⟨hy99_,hz99_⟩:=Kd.R_celln 0 HO_5.out (t211:Int) (of_decide_eq_true (by first|(with_reducible assumption)|assumption)) (of_decide_eq_true (by first|(with_reducible assumption)|assumption));have HP99:=Kd.R_putg HO_5.out (t211:Int) (wrap64 ((rd x5_4 x8_3)+t213))
                             try go_wp2_with (first|((with_reducible refine gate_store (t:=3) (p:=114) rfl ?_);refine store_event (t:=3) (p:=114) (v:=?vo_w100) (w1:=(w98.setCell ⟨go26,(t211:Int).toNat,none⟩ (.int .i64 (wrap64 ((rd x5_4 x8_3)+t213))))) ?hg ?ho ?hn ?hr ?_;(case ho=>rfl);(case hg=>rfl);(case hn=>rfl);(case hr=>first|(go_simp;done)|(go_simp;rfl));intro w100 hw;have hg:w98.grownBy w100 (some go26):=(by rw[hw];exact HP99.2);have hp_:Kd.R (Kd.int .i64) 3 w100 w.heap.size (fun _=>True) (.slice (some ⟨go26,0,none⟩) x5_4.length co14) y217:=(by rw[hw,Ny217.out];exact HP99.1);clear HP99;have n0_:=am' (hp_);have n1_:=am' (Kd.R_over' (v:=(.slice (some ⟨go26,0,none⟩) x5_4.length co14)) (by (with_reducible repeat (first|apply ra'|apply rn'|apply rw'));exact HO_6.out) (Kd.R_typed HO_5.out) (by decide) hg);have n2_:=am' (Kd.N_afterv (v:=(.slice (some ⟨go26,0,none⟩) x5_4.length co14)) (v1:=(.slice (some ⟨go26,0,none⟩) x5_4.length co14)) (ok:=(fun k_=>some k_≠(.slice (some ⟨go51,0,none⟩) y197.length co51:Value).ownBlock∧some k_≠(.slice Ao60 t198.length co60:Value).ownBlock∧some k_≠(.slice Ao95 t207.length co95:Value).ownBlock∧k_≠gb183∧k_≠gb184∧k_≠gb202)) (by (with_reducible repeat (first|apply Kd.N_alloc|apply Kd.N_drewN|apply Kd.N_drew));exact Kd.N_mono HO_80.out (fun _ hk=>⟨⟨hk.1.2.1,⟨hk.1.2.2.1,⟨hk.2,⟨hk.1.2.2.2.1,⟨hk.1.2.2.2.2.1,hk.1.2.2.2.2.2⟩⟩⟩⟩⟩,hk.1.1⟩)) hg (.inl rfl));have n3_:=am' (Kd.R_over' (v:=(.slice (some ⟨go26,0,none⟩) x5_4.length co14)) (by (with_reducible repeat (first|apply ra'|apply rn'|apply rw'));exact HO_203000.out) (Kd.R_typed HO_5.out) (by decide) hg);have n4_:=am' (blk_grown (g:=gb183) (o := .cells #[.slice A0_0 l0_0.length c0_0, .int .i64 a0_1] 28 (0,0)) (by (with_reducible repeat (first|refine kn' ?_ _|refine kd' ?_|refine ka' ?_ _));exact BK183.out) hg (Kd.R_ne HO_5.out BK183.out (by decide)));have n5_:=am' (blk_grown (g:=gb184) (o := .cells #[.slice A1_0 l1_0.length c1_0, .bool a1_1] 44 (0,0)) (by (with_reducible repeat (first|refine kn' ?_ _|refine kd' ?_|refine ka' ?_ _));exact BK184.out) hg (Kd.R_ne HO_5.out BK184.out (by decide)));have n6_:=am' (blk_grown (g:=gb202) (o := .cells #[.slice Ao60 t198.length co60, .bool t201] 44 (0,0)) (by (with_reducible repeat (first|refine kn' ?_ _|refine kd' ?_|refine ka' ?_ _));exact BK202.out) hg (Kd.R_ne HO_5.out BK202.out (by decide)));have n7_:=am' (Kd.V_afterv (v:=(.slice (some ⟨go26,0,none⟩) x5_4.length co14)) (v1:=(.slice (some ⟨go26,0,none⟩) x5_4.length co14)) (ok:=(fun k_=>some k_≠(.slice (some ⟨go51,0,none⟩) y197.length co51:Value).ownBlock∧some k_≠(.slice (some ad206) t203.length co66:Value).ownBlock∧some k_≠(.slice Ao60 t198.length co60:Value).ownBlock∧some k_≠(.slice Ao95 t207.length co95:Value).ownBlock∧k_≠gb183∧k_≠gb184∧k_≠gb202)) (by (with_reducible repeat (first|apply Kd.V_alloc|apply Kd.V_drewN|apply Kd.V_drew));exact Kd.V_mono HL206_0.out (fun _ hk=>⟨⟨hk.1.1.2.1,⟨hk.1.2,⟨hk.1.1.2.2.1,⟨hk.2,⟨hk.1.1.2.2.2.1,⟨hk.1.1.2.2.2.2.1,hk.1.1.2.2.2.2.2⟩⟩⟩⟩⟩⟩,hk.1.1.1⟩)) hg (.inl rfl));have n8_:=am' (Kd.R_over' (v:=(.slice (some ⟨go26,0,none⟩) x5_4.length co14)) (by (with_reducible repeat (first|apply ra'|apply rn'|apply rw'));exact HO209.out) (Kd.R_typed HO_5.out) (by decide) hg);have n9_:=am' ((by rw[hw];exact bs' (HB.out) GB26.out:Below w.heap.size w w100));clear HO_5;clear HO_6;clear HO_80;clear HO_203000;clear BK183;clear BK184;clear BK202;clear HL206_0;clear HO209;clear HB;have HO_5:=n0_;have HO_6:=n1_;have HO_80:=n2_;have HO_203000:=n3_;have BK183:=n4_;have BK184:=n5_;have BK202:=n6_;have HL206_0:=n7_;have HO209:=n8_;have HB:=n9_;clear n0_ n1_ n2_ n3_ n4_ n5_ n6_ n7_ n8_ n9_;clear hg hw hp_))
                             (try simp only[← hl5_4,← hl6_4])
                             go_roundg k4
                             case measure=>have:=HK1.out;have:=HK2.out;have:=HK3.out;have:=HK4.out;omega
                             case rel=>exact ⟨(y217),(wrap64 (x82_4+1)),(by first|rfl|(simp;done)|(simp[*];done)),H',⟨by have:=HK1.out;have:=HK2.out;have:=HK3.out;have:=HK4.out;omega⟩,⟨by (try simp only[hl5_1]);(try simp only[hl5_2]);(try simp only[hl5_4]);(try simp only[hl6_4]);(with_reducible repeat (first|apply ra'|apply rn'|apply rw'));exact HO_5.out⟩,⟨by (try simp only[hl5_1]);(try simp only[hl5_2]);(try simp only[hl5_4]);(try simp only[hl6_4]);(with_reducible repeat (first|apply ra'|apply rn'|apply rw'));exact Kd.R_mono HO_6.out (fun _ hk=>hk.1)⟩,⟨by (try simp only[hl5_1]);(try simp only[hl5_2]);(try simp only[hl5_4]);(try simp only[hl6_4]);(with_reducible repeat (first|apply Kd.N_alloc|apply Kd.N_drewN|apply Kd.N_drew));exact Kd.N_mono HO_80.out (fun _ hk=>⟨hk.2,⟨hk.1.1,⟨hk.1.2.1,⟨hk.1.2.2.2.1,⟨hk.1.2.2.2.2.1,hk.1.2.2.2.2.2⟩⟩⟩⟩⟩)⟩,⟨by (try simp only[hl5_1]);(try simp only[hl5_2]);(try simp only[hl5_4]);(try simp only[hl6_4]);(with_reducible repeat (first|apply ra'|apply rn'|apply rw'));exact Kd.R_mono HO_203000.out (fun _ hk=>hk.1)⟩,⟨by (try simp only[hl5_1]);(try simp only[hl5_2]);(try simp only[hl5_4]);(try simp only[hl6_4]);(with_reducible repeat (first|refine kn' ?_ _|refine kd' ?_|refine ka' ?_ _));exact BK183.out⟩,⟨by (try simp only[hl5_1]);(try simp only[hl5_2]);(try simp only[hl5_4]);(try simp only[hl6_4]);(with_reducible repeat (first|refine kn' ?_ _|refine kd' ?_|refine ka' ?_ _));exact BK184.out⟩,⟨by (try simp only[hl5_1]);(try simp only[hl5_2]);(try simp only[hl5_4]);(try simp only[hl6_4]);(with_reducible repeat (first|refine kn' ?_ _|refine kd' ?_|refine ka' ?_ _));exact BK202.out⟩,⟨by repeat (first|(with_reducible first|exact HB.out|apply ba'|apply bd'|apply be'|refine bs' ?_ GE183.out|refine bs' ?_ GE184.out|refine bs' ?_ GE202.out)|exact HB.out)⟩⟩
                            ·
                             rw[if_neg c89] at H;have c89b0:decide ((wrap64 ((rd x5_4 x8_3)+t213)) < (rd x5_4 t211))=false:=decide_eq_false c89;clear c89;have H':=am' H;clear H;have p206:0≤(x82_4:Int):=of_decide_eq_true (by first|(with_reducible assumption)|assumption);have q206:x82_4 < (t203.length:Int):=of_decide_eq_true (by first|(with_reducible assumption)|assumption);obtain ⟨ad206,A206_0,c206_0,e206,hx206_0,hl206_0,hi206_0⟩:=at_L2 (Kd.N_reads' HO_80.out).2.2 x82_4 p206 q206;cases e206;obtain ⟨ce206,hce206,hMe206,hcc206⟩:=Kd.N_get HO_80.out [] x82_4 p206 (by first|exact q206|exact of_decide_eq_true (by first|(with_reducible assumption)|assumption)|(have e_:=(Kd.N_reads' HO_80.out).1;omega));obtain ⟨ua206_0,uc206_0,rfl,ul206_0,ge206_0⟩:=Kd.FK_slice_open hMe206;have hv206_0:=hcc206 0 _ rfl;rw[Nat.add_zero,show ((Kd.slice 3 (Kd.int .i64))).sz=1 from rfl,Nat.mul_one] at hv206_0;replace hv206_0:=Option.some.inj (hv206_0.symm.trans hx206_0);injection hv206_0 with hva_ hvn_ hvc_
                             rw[hva_] at ge206_0;rw[hvc_] at ul206_0;have HL206_0:=am' (show Kd.V (Kd.int .i64) 3 _ w.heap.size _ _ (rd_L2 t203 x82_4) from Kd.V_mk ul206_0 ge206_0);clear hva_ hvn_ hvc_ ge206_0 ul206_0;clear hcc206 hce206;have HR206_0:=am' hi206_0;have HC206_0:=am' hl206_0;clear hi206_0 hl206_0;replace p206:=eq_true p206;replace q206:=eq_true q206;have hnb101:=NB202_183.out;have hnc101:=NB183_202.out;have hnb102:=NB202_184.out;have hnc102:=NB184_202.out;have hcz103_0:wr.cell? ⟨gb202,0,none⟩=some (.slice Ao60 t198.length co60):=(blk_cell BK202.out 0).trans rfl;have hcz103_1:wr.cell? ⟨gb202,1,none⟩=some (.bool t201):=(blk_cell BK202.out 1).trans rfl;have hfz103_0:=blk_frozen BK202.out 0;have hfz103_1:=blk_frozen BK202.out 1
                             try go_wp2_with (first|((with_reducible refine gate_callee (f:=101) rfl ?_);refine goesL_ (some 88) rfl rfl Try.func101 (by kernel_rfl) rfl #[.agg #[.slice Ao60 t198.length co60, .bool t201], .slice A206_0 (rd_L2 t203 x82_4).length c206_0] rfl (by (try simp only[List.map_toArray,List.map_cons,List.map_nil]);first|done|rfl|(simp only[List.length_drop,List.length_take];rfl)) ?_;(with_reducible refine (spec_paCross.calls k4 _ _ t198 t201 _ _ (rd_L2 t203 x82_4) t207 t210 _ ?side1 ?side2 ?side3 ?side4 A70.out).mono ?_);(case side1=>repeat (first|exact (Kd.R_reads' HO_203000.out).2.2|(with_reducible refine ca' ?_ _)|(with_reducible refine cn' ?_ _)|(with_reducible refine cd' ?_)));(case side2=>exact (Kd.R_reads' HO_203000.out).2.1);(case side3=>repeat (first|exact (by repeat (first|(with_reducible exact HR206_0.out)|(with_reducible refine ca' ?_ _)|(with_reducible refine cn' ?_ _)|(with_reducible refine cd' ?_)|exact HR206_0.out))|(with_reducible refine ca' ?_ _)|(with_reducible refine cn' ?_ _)|(with_reducible refine cd' ?_)));(case side4=>exact HC206_0.out);rintro e w104 ⟨v208,rfl,ho0,hb⟩;refine ⟨_,rfl,?_⟩;have n0_:=am' (Kd.R_below (by (with_reducible repeat (first|apply ra'|apply rn'|apply rw'));exact HO_5.out) hb);have n1_:=am' (Kd.R_elder' (by (with_reducible repeat (first|apply ra'|apply rn'|apply rw'));exact HO_6.out) (Kd.R_base ho0) hb);have n2_:=am' (Kd.N_elder' (by (with_reducible repeat (first|apply Kd.N_alloc|apply Kd.N_drewN|apply Kd.N_drew));exact HO_80.out) (Kd.R_base ho0) hb);have n3_:=am' (Kd.R_elder' (by (with_reducible repeat (first|apply ra'|apply rn'|apply rw'));exact HO_203000.out) (Kd.R_base ho0) hb);have n4_:=am' (Kd.V_elder' (by (with_reducible repeat (first|apply Kd.V_alloc|apply Kd.V_drewN|apply Kd.V_drew));exact HL206_0.out) (Kd.R_base ho0) hb);have n5_:=am' (Kd.R_lower (Kd.R_new' (Kd.R_new' ho0 (Kd.R_lt (by (with_reducible repeat (first|apply ra'|apply rn'|apply rw'));exact HO_6.out))) (Kd.R_lt (by (with_reducible repeat (first|apply ra'|apply rn'|apply rw'));exact HO_203000.out))) (below_size (by repeat (first|(with_reducible first|exact HB.out|apply ba'|apply bd'|apply be'|refine bs' ?_ GE183.out|refine bs' ?_ GE184.out|refine bs' ?_ GE202.out)|exact HB.out))));have n6_:=am' (blk_below (g:=gb183) (o := .cells #[.slice A0_0 l0_0.length c0_0, .int .i64 a0_1] 28 (0,0)) (by (with_reducible repeat (first|refine kn' ?_ _|refine kd' ?_|refine ka' ?_ _));exact BK183.out) hb);have n7_:=am' (blk_below (g:=gb184) (o := .cells #[.slice A1_0 l1_0.length c1_0, .bool a1_1] 44 (0,0)) (by (with_reducible repeat (first|refine kn' ?_ _|refine kd' ?_|refine ka' ?_ _));exact BK184.out) hb);have n8_:=am' (blk_below (g:=gb202) (o := .cells #[.slice Ao60 t198.length co60, .bool t201] 44 (0,0)) (by (with_reducible repeat (first|refine kn' ?_ _|refine kd' ?_|refine ka' ?_ _));exact BK202.out) hb);have n9_:=am' (Kd.C_below (by repeat (first|(with_reducible exact HR206_0.out)|(with_reducible refine ca' ?_ _)|(with_reducible refine cn' ?_ _)|(with_reducible refine cd' ?_)|exact HR206_0.out)) hb);have n10_:=am' (below_step (by repeat (first|(with_reducible first|exact HB.out|apply ba'|apply bd'|apply be'|refine bs' ?_ GE183.out|refine bs' ?_ GE184.out|refine bs' ?_ GE202.out)|exact HB.out)) hb);clear HO_5;clear HO_6;clear HO_80;clear HO_203000;clear HL206_0;clear BK183;clear BK184;clear BK202;clear HR206_0;clear HB;have HO_5:=n0_;have HO_6:=n1_;have HO_80:=n2_;have HO_203000:=n3_;have HL206_0:=n4_;have HO209:=n5_;have BK183:=n6_;have BK184:=n7_;have BK202:=n8_;have HR206_0:=n9_;have HB:=n10_;clear n0_ n1_ n2_ n3_ n4_ n5_ n6_ n7_ n8_ n9_ n10_;(try clear hb);(try clear hb2);(try clear hk);(try clear hi);(try clear ho0);obtain ⟨Ao105,co105,eo105⟩:=Kd.R_slice HO209.out;subst eo105)|((with_reducible refine gate_callee (f:=78) rfl ?_);refine goesL_ (some 89) rfl rfl Try.func78 (by kernel_rfl) rfl #[.agg #[.slice Ao105 t207.length co105, .bool t210]] rfl (by (try simp only[List.map_toArray,List.map_cons,List.map_nil]);first|done|rfl|(simp only[List.length_drop,List.length_take];rfl)) ?_;(with_reducible refine (spec_seIndex.calls k4 _ _ t207 t210 t211 _ ?side1 ?side2 A71.out).mono ?_);(case side1=>repeat (first|exact (Kd.R_reads' HO209.out).2.2|(with_reducible refine ca' ?_ _)|(with_reducible refine cn' ?_ _)|(with_reducible refine cd' ?_)));(case side2=>exact (Kd.R_reads' HO209.out).2.1);rintro e w106 ⟨rfl,hb⟩;refine ⟨_,rfl,?_⟩;have n0_:=am' (Kd.R_below (by (with_reducible repeat (first|apply ra'|apply rn'|apply rw'));exact HO_5.out) hb);have n1_:=am' (Kd.R_below (by (with_reducible repeat (first|apply ra'|apply rn'|apply rw'));exact HO_6.out) hb);have n2_:=am' (Kd.N_below (by (with_reducible repeat (first|apply Kd.N_alloc|apply Kd.N_drewN|apply Kd.N_drew));exact HO_80.out) hb);have n3_:=am' (Kd.R_below (by (with_reducible repeat (first|apply ra'|apply rn'|apply rw'));exact HO_203000.out) hb);have n4_:=am' (Kd.V_below (by (with_reducible repeat (first|apply Kd.V_alloc|apply Kd.V_drewN|apply Kd.V_drew));exact HL206_0.out) hb);have n5_:=am' (Kd.R_below (by (with_reducible repeat (first|apply ra'|apply rn'|apply rw'));exact HO209.out) hb);have n6_:=am' (blk_below (g:=gb183) (o := .cells #[.slice A0_0 l0_0.length c0_0, .int .i64 a0_1] 28 (0,0)) (by (with_reducible repeat (first|refine kn' ?_ _|refine kd' ?_|refine ka' ?_ _));exact BK183.out) hb);have n7_:=am' (blk_below (g:=gb184) (o := .cells #[.slice A1_0 l1_0.length c1_0, .bool a1_1] 44 (0,0)) (by (with_reducible repeat (first|refine kn' ?_ _|refine kd' ?_|refine ka' ?_ _));exact BK184.out) hb);have n8_:=am' (blk_below (g:=gb202) (o := .cells #[.slice Ao60 t198.length co60, .bool t201] 44 (0,0)) (by (with_reducible repeat (first|refine kn' ?_ _|refine kd' ?_|refine ka' ?_ _));exact BK202.out) hb);have n9_:=am' (Kd.C_below (by repeat (first|(with_reducible exact HR206_0.out)|(with_reducible refine ca' ?_ _)|(with_reducible refine cn' ?_ _)|(with_reducible refine cd' ?_)|exact HR206_0.out)) hb);have n10_:=am' (below_step (by repeat (first|(with_reducible first|exact HB.out|apply ba'|apply bd'|apply be'|refine bs' ?_ GE183.out|refine bs' ?_ GE184.out|refine bs' ?_ GE202.out)|exact HB.out)) hb);clear HO_5;clear HO_6;clear HO_80;clear HO_203000;clear HL206_0;clear HO209;clear BK183;clear BK184;clear BK202;clear HR206_0;clear HB;have HO_5:=n0_;have HO_6:=n1_;have HO_80:=n2_;have HO_203000:=n3_;have HL206_0:=n4_;have HO209:=n5_;have BK183:=n6_;have BK184:=n7_;have BK202:=n8_;have HR206_0:=n9_;have HB:=n10_;clear n0_ n1_ n2_ n3_ n4_ n5_ n6_ n7_ n8_ n9_ n10_;(try clear hb);(try clear hb2);(try clear hk);(try clear hi)))
                             have n0_:=am' (rw' HO_5.out);have n1_:=am' (rw' HO_6.out);have n2_:=am' (Kd.N_drew HO_80.out);have n3_:=am' (rw' HO_203000.out);have n4_:=am' (Kd.V_drew HL206_0.out);have n5_:=am' (rw' HO209.out);have n6_:=am' (kd' BK183.out);have n7_:=am' (kd' BK184.out);have n8_:=am' (kd' BK202.out);have n9_:=am' (cd' HR206_0.out);have n10_:=am' (be' HB.out);clear HO_5;clear HO_6;clear HO_80;clear HO_203000;clear HL206_0;clear HO209;clear BK183;clear BK184;clear BK202;clear HR206_0;clear HB;have HO_5:=n0_;have HO_6:=n1_;have HO_80:=n2_;have HO_203000:=n3_;have HL206_0:=n4_;have HO209:=n5_;have BK183:=n6_;have BK184:=n7_;have BK202:=n8_;have HR206_0:=n9_;have HB:=n10_;clear n0_ n1_ n2_ n3_ n4_ n5_ n6_ n7_ n8_ n9_ n10_;have p212:0≤(x8_3:Int):=of_decide_eq_true (by first|(with_reducible assumption)|assumption);have q212:x8_3 < (x5_4.length:Int):=of_decide_eq_true (by first|(with_reducible assumption)|assumption);obtain ⟨ad212,e212,hx212_0⟩:=Kd.at_int (Kd.R_reads' HO_5.out).2.2 x8_3 p212 q212;obtain rfl:(⟨go26,0,none⟩:Addr)=ad212:=(by injection e212)
                             (first|simp only[add_plain] at hx212_0|simp only[add_at] at hx212_0|simp only[Addr.add,Nat.zero_add] at hx212_0|skip)
                             replace p212:=eq_true p212;replace q212:=eq_true q212;refine start_ (n:=9) (S:=fun w'=>w'.cell? ⟨gb183,0,none⟩=some (.slice A0_0 l0_0.length c0_0)∧w'.cell? ⟨gb183,1,none⟩=some (.int .i64 a0_1)∧w'.cell? ⟨go26,(x8_3).toNat,none⟩=some (.int .i64 (rd x5_4 x8_3))) (ds:=[]) #[false,false,false,false,false,false,false,false,false] (by kernel_rfl) rfl rfl ⟨(blk_cell BK183.out 0).trans rfl,(blk_cell BK183.out 1).trans rfl,hx212_0⟩ (fun hHeld=>?_);refine with_tabW spec_seFar.tab24 spec_seFar.bits24 (fun HT_ HW_=>?_);generalize w106.drew=w107 at HO_5 HO_6 HO_80 HO_203000 HL206_0 HO209 BK183 BK184 BK202 HR206_0 HB hx212_0 hHeld ⊢
                             refine pure_ (i:=0) (N:=some 90) (v:=?_) (a':=?_) #[true,false,false,false,false,false,false,false,false] rfl rfl (any_of HT_.out (by kernel_rfl)) (fun _ _ _ h=>h) (Or.inl ⟨by rfl,?_⟩) ?_ ?_
                             rotate_left
                             ·
                              intro w';go_simp;with_reducible rfl
                             rotate_left
                             ·
                              simp only[Act.put,sa',sb',sc',i64_w,i32_w];rfl
                             refine pure_ (i:=1) (N:=some 91) (v:=?_) (a':=?_) #[true,true,false,false,false,false,false,false,false] rfl rfl (any_of HT_.out (by kernel_rfl)) (fun _ _ _ h=>h) (Or.inl ⟨by rfl,?_⟩) ?_ ?_
                             rotate_left
                             ·
                              intro w';go_simp;with_reducible rfl
                             rotate_left
                             ·
                              simp only[Act.put,sa',sb',sc',i64_w,i32_w];rfl
                             refine pure_ (i:=2) (N:=some 92) (v:=?_) (a':=?_) #[true,true,true,false,false,false,false,false,false] rfl rfl (any_of HT_.out (by kernel_rfl)) (fun _ _ _ h=>h) (Or.inl ⟨by rfl,?_⟩) ?_ ?_
                             rotate_left
                             ·
                              intro w';go_simp;with_reducible rfl
                             rotate_left
                             ·
                              simp only[Act.put,sa',sb',sc',i64_w,i32_w];rfl
                             refine pure_ (i:=5) (N:=some 95) (v:=?_) (a':=?_) #[true,true,true,false,false,true,false,false,false] rfl rfl (any_of HT_.out (by kernel_rfl)) (fun _ _ _ h=>h) (Or.inl ⟨by rfl,?_⟩) ?_ ?_
                             rotate_left
                             ·
                              intro w';go_simp;with_reducible rfl
                             rotate_left
                             ·
                              simp only[Act.put,sa',sb',sc',i64_w,i32_w];rfl
                             refine take_ (i:=3) (N:=some 93) (v:=?_) (a':=?_) #[true,true,true,true,false,true,false,false,false] rfl rfl (take_ofW HT_.out HW_.out (by kernel_rfl)) (fun _ _ _ h=>h) (Or.inl ⟨by rfl,?_⟩) hHeld ?_ ?_
                             rotate_left
                             ·
                              rintro w' ⟨s0,s1,s2⟩
                              go_simp;with_reducible rfl
                             rotate_left
                             ·
                              simp only[Act.put,sa',sb',sc',i64_w,i32_w];rfl
                             refine take_ (i:=4) (N:=some 94) (v:=?_) (a':=?_) #[true,true,true,true,true,true,false,false,false] rfl rfl (take_ofW HT_.out HW_.out (by kernel_rfl)) (fun _ _ _ h=>h) (Or.inl ⟨by rfl,?_⟩) hHeld ?_ ?_
                             rotate_left
                             ·
                              rintro w' ⟨s0,s1,s2⟩
                              go_simp;with_reducible rfl
                             rotate_left
                             ·
                              simp only[Act.put,sa',sb',sc',i64_w,i32_w];rfl
                             refine one_ (i:=6) (N:=some 96) #[true,true,true,true,true,true,true,false,false] rfl rfl (one_of HT_.out (by kernel_rfl)) (by decide) (fun K hK=>?_);refine goes_ Try.func102 (by kernel_rfl) rfl #[.agg #[.slice A0_0 l0_0.length c0_0, .int .i64 a0_1], .slice A206_0 (rd_L2 t203 x82_4).length c206_0] (by rfl) rfl rfl (by (try simp only[List.map_toArray,List.map_cons,List.map_nil]);first|done|rfl|(simp only[List.length_drop,List.length_take];rfl)) ?_
                             with_reducible refine (spec_paTime.calls k4 _ _ l0_0 a0_1 _ _ (rd_L2 t203 x82_4) t213 _ ?side1 ?side2 ?side3 ?side4 A74.out).mono ?_
                             (case side1=>repeat (first|exact (Kd.C_below HR0_0.out HB.out)|(with_reducible refine ca' ?_ _)|(with_reducible refine cn' ?_ _)|(with_reducible refine cd' ?_)))
                             (case side2=>exact HC0_0.out)
                             (case side3=>repeat (first|exact (by repeat (first|(with_reducible exact HR206_0.out)|(with_reducible refine ca' ?_ _)|(with_reducible refine cn' ?_ _)|(with_reducible refine cd' ?_)|exact HR206_0.out))|(with_reducible refine ca' ?_ _)|(with_reducible refine cn' ?_ _)|(with_reducible refine cd' ?_)))
                             (case side4=>exact HC206_0.out)
                             rintro e w108 ⟨rfl,hb⟩
                             have HS2_:=(hb.cell (bl' _ _ (hHeld.2.2))).trans (hHeld.2.2);refine ⟨_,rfl,?_⟩;have n0_:=am' (Kd.R_below (by (with_reducible repeat (first|apply ra'|apply rn'|apply rw'));exact HO_5.out) hb);have n1_:=am' (Kd.R_below (by (with_reducible repeat (first|apply ra'|apply rn'|apply rw'));exact HO_6.out) hb);have n2_:=am' (Kd.N_below (by (with_reducible repeat (first|apply Kd.N_alloc|apply Kd.N_drewN|apply Kd.N_drew));exact HO_80.out) hb);have n3_:=am' (Kd.R_below (by (with_reducible repeat (first|apply ra'|apply rn'|apply rw'));exact HO_203000.out) hb);have n4_:=am' (Kd.V_below (by (with_reducible repeat (first|apply Kd.V_alloc|apply Kd.V_drewN|apply Kd.V_drew));exact HL206_0.out) hb);have n5_:=am' (Kd.R_below (by (with_reducible repeat (first|apply ra'|apply rn'|apply rw'));exact HO209.out) hb);have n6_:=am' (blk_below (g:=gb183) (o := .cells #[.slice A0_0 l0_0.length c0_0, .int .i64 a0_1] 28 (0,0)) (by (with_reducible repeat (first|refine kn' ?_ _|refine kd' ?_|refine ka' ?_ _));exact BK183.out) hb);have n7_:=am' (blk_below (g:=gb184) (o := .cells #[.slice A1_0 l1_0.length c1_0, .bool a1_1] 44 (0,0)) (by (with_reducible repeat (first|refine kn' ?_ _|refine kd' ?_|refine ka' ?_ _));exact BK184.out) hb);have n8_:=am' (blk_below (g:=gb202) (o := .cells #[.slice Ao60 t198.length co60, .bool t201] 44 (0,0)) (by (with_reducible repeat (first|refine kn' ?_ _|refine kd' ?_|refine ka' ?_ _));exact BK202.out) hb);have n9_:=am' (Kd.C_below (by repeat (first|(with_reducible exact HR206_0.out)|(with_reducible refine ca' ?_ _)|(with_reducible refine cn' ?_ _)|(with_reducible refine cd' ?_)|exact HR206_0.out)) hb);have n10_:=am' (below_step (by repeat (first|(with_reducible first|exact HB.out|apply ba'|apply bd'|apply be'|refine bs' ?_ GE183.out|refine bs' ?_ GE184.out|refine bs' ?_ GE202.out)|exact HB.out)) hb);clear HO_5;clear HO_6;clear HO_80;clear HO_203000;clear HL206_0;clear HO209;clear BK183;clear BK184;clear BK202;clear HR206_0;clear HB;have HO_5:=n0_;have HO_6:=n1_;have HO_80:=n2_;have HO_203000:=n3_;have HL206_0:=n4_;have HO209:=n5_;have BK183:=n6_;have BK184:=n7_;have BK202:=n8_;have HR206_0:=n9_;have HB:=n10_;clear n0_ n1_ n2_ n3_ n4_ n5_ n6_ n7_ n8_ n9_ n10_
                             (try clear hb)
                             (try clear hb2)
                             (try clear hk)
                             (try clear hi)
                             refine hK.out _ _ ⟨(blk_cell BK183.out 0).trans rfl,(blk_cell BK183.out 1).trans rfl,HS2_⟩ (fun hHeld=>?_);clear hK K;refine norm_ (a':=?_) ?_ ?_
                             rotate_left
                             ·
                              show Act.put _ (some 96) _=_
                              simp only[Act.put,sa',sb',sc',i64_w,i32_w];rfl
                             refine pure_ (i:=7) (N:=some 97) (v:=?_) (a':=?_) #[true,true,true,true,true,true,true,true,false] rfl rfl (any_of HT_.out (by kernel_rfl)) (fun _ _ _ h=>h) (Or.inl ⟨by rfl,?_⟩) ?_ ?_
                             rotate_left
                             ·
                              intro w';go_simp;with_reducible rfl
                             rotate_left
                             ·
                              simp only[Act.put,sa',sb',sc',i64_w,i32_w];rfl
                             refine pure_ (i:=8) (N:=some 15) (v:=?_) (a':=?_) #[true,true,true,true,true,true,true,true,true] rfl rfl (any_of HT_.out (by kernel_rfl)) (fun _ _ _ h=>h) (Or.inl ⟨by rfl,?_⟩) ?_ ?_
                             rotate_left
                             ·
                              intro w';go_simp;with_reducible rfl
                             rotate_left
                             ·
                              simp only[Act.put,sa',sb',sc',i64_w,i32_w];rfl
                             refine done_ (done_of HT_.out (by kernel_rfl)) ?_
                             have p214:0≤(t211:Int):=of_decide_eq_true (by first|(with_reducible assumption)|assumption);have q214:t211 < (x5_4.length:Int):=of_decide_eq_true (by first|(with_reducible assumption)|assumption);obtain ⟨ad214,e214,hx214_0⟩:=Kd.at_int (Kd.R_reads' HO_5.out).2.2 t211 p214 q214;obtain rfl:(⟨go26,0,none⟩:Addr)=ad214:=(by injection e214)
                             (first|simp only[add_plain] at hx214_0|simp only[add_at] at hx214_0|simp only[Addr.add,Nat.zero_add] at hx214_0|skip)
                             replace p214:=eq_true p214;replace q214:=eq_true q214;have p216:0≤(t211:Int):=of_decide_eq_true (by first|(with_reducible assumption)|assumption);have q216:t211 < (x5_4.length:Int):=of_decide_eq_true (by first|(with_reducible assumption)|assumption);obtain ⟨ad216,e216,hx216_0⟩:=Kd.at_int (Kd.R_reads' HO_5.out).2.2 t211 p216 q216;obtain rfl:(⟨go26,0,none⟩:Addr)=ad216:=(by injection e216)
                             (first|simp only[add_plain] at hx216_0|simp only[add_at] at hx216_0|simp only[Addr.add,Nat.zero_add] at hx216_0|skip)
                             replace p216:=eq_true p216;replace q216:=eq_true q216
                             try go_wp2
                             (try simp only[← hl5_4,← hl6_4])
                             go_roundg k4
                             case measure=>have:=HK1.out;have:=HK2.out;have:=HK3.out;have:=HK4.out;omega
                             case rel=>exact ⟨(x5_4),(wrap64 (x82_4+1)),(by first|rfl|(simp;done)|(simp[*];done)),H',⟨by have:=HK1.out;have:=HK2.out;have:=HK3.out;have:=HK4.out;omega⟩,⟨by (try simp only[hl5_1]);(try simp only[hl5_2]);(try simp only[hl5_4]);(try simp only[hl6_4]);(with_reducible repeat (first|apply ra'|apply rn'|apply rw'));exact HO_5.out⟩,⟨by (try simp only[hl5_1]);(try simp only[hl5_2]);(try simp only[hl5_4]);(try simp only[hl6_4]);(with_reducible repeat (first|apply ra'|apply rn'|apply rw'));exact Kd.R_mono HO_6.out (fun _ hk=>hk.1)⟩,⟨by (try simp only[hl5_1]);(try simp only[hl5_2]);(try simp only[hl5_4]);(try simp only[hl6_4]);(with_reducible repeat (first|apply Kd.N_alloc|apply Kd.N_drewN|apply Kd.N_drew));exact Kd.N_mono HO_80.out (fun _ hk=>⟨hk.1.1,⟨hk.1.2.1,⟨hk.1.2.2.1,⟨hk.1.2.2.2.1,⟨hk.1.2.2.2.2.1,hk.1.2.2.2.2.2⟩⟩⟩⟩⟩)⟩,⟨by (try simp only[hl5_1]);(try simp only[hl5_2]);(try simp only[hl5_4]);(try simp only[hl6_4]);(with_reducible repeat (first|apply ra'|apply rn'|apply rw'));exact Kd.R_mono HO_203000.out (fun _ hk=>hk.1)⟩,⟨by (try simp only[hl5_1]);(try simp only[hl5_2]);(try simp only[hl5_4]);(try simp only[hl6_4]);(with_reducible repeat (first|refine kn' ?_ _|refine kd' ?_|refine ka' ?_ _));exact BK183.out⟩,⟨by (try simp only[hl5_1]);(try simp only[hl5_2]);(try simp only[hl5_4]);(try simp only[hl6_4]);(with_reducible repeat (first|refine kn' ?_ _|refine kd' ?_|refine ka' ?_ _));exact BK184.out⟩,⟨by (try simp only[hl5_1]);(try simp only[hl5_2]);(try simp only[hl5_4]);(try simp only[hl6_4]);(with_reducible repeat (first|refine kn' ?_ _|refine kd' ?_|refine ka' ?_ _));exact BK202.out⟩,⟨by repeat (first|(with_reducible first|exact HB.out|apply ba'|apply bd'|apply be'|refine bs' ?_ GE183.out|refine bs' ?_ GE184.out|refine bs' ?_ GE202.out)|exact HB.out)⟩⟩
                          ·
                           rw[if_neg c76] at H;exact absurd H (by simp)
                         ·
                          rw[if_neg c75] at H;exact absurd H (by simp)
                        ·
                         rw[if_neg c73] at H;exact absurd H (by simp)
                       ·
                        rw[if_neg c72] at H;exact absurd H (by simp)
                      ·
                       rw[if_neg c69] at H;exact absurd H (by simp)
                     ·
                      rw[if_neg c68] at H;exact absurd H (by simp)
                    ·
                     rw[if_neg c67] at H;have c67b0:decide (x82_4 < (t203.length:Int))=false:=decide_eq_false c67;clear c67;have H':=am' H;clear H;go_wp2
                     (try simp only[← hl5_2,← hl5_4,← hl6_4])
                     go_roundg k4
                     case measure=>have:=HK1.out;have:=HK2.out;have:=HK3.out;have:=HK4.out;omega
                     case rel=>exact ⟨(x5_4),(y197),H',⟨by have:=HK1.out;have:=HK2.out;have:=HK3.out;have:=HK4.out;omega⟩,⟨by (try simp only[hl5_1]);(try simp only[hl5_2]);(try simp only[hl5_4]);(try simp only[hl6_4]);(with_reducible repeat (first|apply ra'|apply rn'|apply rw'));exact HO_5.out⟩,⟨by (try simp only[hl5_1]);(try simp only[hl5_2]);(try simp only[hl5_4]);(try simp only[hl6_4]);(with_reducible repeat (first|apply ra'|apply rn'|apply rw'));exact Kd.R_mono HO_6.out (fun _ hk=>trivial)⟩,⟨by (try simp only[hl5_1]);(try simp only[hl5_2]);(try simp only[hl5_4]);(try simp only[hl6_4]);(with_reducible repeat (first|refine kn' ?_ _|refine kd' ?_|refine ka' ?_ _));exact BK183.out⟩,⟨by (try simp only[hl5_1]);(try simp only[hl5_2]);(try simp only[hl5_4]);(try simp only[hl6_4]);(with_reducible repeat (first|refine kn' ?_ _|refine kd' ?_|refine ka' ?_ _));exact BK184.out⟩,⟨by repeat (first|(with_reducible first|exact HB.out|apply ba'|apply bd'|apply be'|refine bs' ?_ GE183.out|refine bs' ?_ GE184.out|refine bs' ?_ GE202.out)|exact HB.out)⟩⟩
                 ·
                  rw[if_neg c50] at H;exact absurd H (by simp)
                ·
                 rw[if_neg c49] at H;exact absurd H (by simp)
         ·
          rw[if_neg c25] at H;exact absurd H (by simp)
        ·
         rw[if_neg c24] at H;exact absurd H (by simp)
    ·
     rw[if_neg c7] at H;exact absurd H (by simp)
   ·
    rw[if_neg c6] at H;exact absurd H (by simp)
  ·
   rw[if_neg c5] at H;exact absurd H (by simp)
 ·
  rw[if_neg c4] at H;exact absurd H (by simp)
end Go.Proofs.Ytamljjfhkolflaa.C15
