import Derived.Test.YtihieplobgehaaaC1zx0
import Derived.Test.YtihieplobgehaaaC1zx2
import Derived.Test.YtihieplobgehaaaC1zx3
import Derived.Test.YtihieplobgehaaaC1zx4
import Derived.Test.YtihieplobgehaaaC1zx5
import Derived.Test.YtihieplobgehaaaC1zAl
namespace Go.Proofs.Ytihieplobgehaaa.C1
open Go.RowKit Go.Proofs.YtihieplobgehaaaW.PrintWords Go.Proofs.YtihieplobgehaaaW.PrintLast Go.Proofs.YtihieplobgehaaaW.PrintMore Go.Proofs.Ytihieplobgehaaa.H
attribute [local go_sem] max2_int min2_int max_two min_two max_three min_three max_four min_four
set_option linter.unusedVariables false
set_option linter.unusedSimpArgs false
mutual
def spec_seFar.l0:Nat→List Int→List Bool→Int→Int→List Int→Int→List Bool→Bool→Option (List Int)
 | 0,_,_,_,_,_,_,_,_=>none
 | k+1,x5,x6,x25,x26,x190000,x190001,x191000,x191001=>if x26 < x25 then (if 0≤x26 then (if x26 < (x5.length:Int) then (spec_seFar.l0 k (x5.set (x26:Int).toNat (-1)) x6 x25 (wrap64 (x26+1)) x190000 x190001 x191000 x191001) else (none)) else (none)) else ((spec_seIndex.f k x191000 x191001).bind fun t198=>(if 0≤t198 then (if t198 < (x5.length:Int) then (spec_seFar.l1 k (x5.set (t198:Int).toNat 0) x6 x190000 x190001) else (none)) else (none)))
def spec_seFar.l1:Nat→List Int→List Bool→List Int→Int→Option (List Int)
 | 0,_,_,_,_=>none
 | k+1,x5,x6,x190000,x190001=>spec_seFar.l2 k x5 x6 (-1) x5 (x5.length:Int) 0 x190000 x190001
def spec_seFar.l2:Nat→List Int→List Bool→Int→List Int→Int→Int→List Int→Int→Option (List Int)
 | 0,_,_,_,_,_,_,_,_=>none
 | k+1,x5,x6,x8,x37,x38,x39,x190000,x190001=>if x39 < x38 then (if 0≤x39 then (if x39 < (x37.length:Int) then (if x39 < (x6.length:Int) then (if rdOf false x6 x39=true then (spec_seFar.l2 k x5 x6 x8 x37 x38 (wrap64 (x39+1)) x190000 x190001) else (if (rd x37 x39) ≥ 0 then (if x8 < 0 then (spec_seFar.l2 k x5 x6 x39 x37 x38 (wrap64 (x39+1)) x190000 x190001) else (if 0≤x8 then (if x8 < (x5.length:Int) then (if (rd x37 x39) < (rd x5 x8) then (spec_seFar.l2 k x5 x6 x39 x37 x38 (wrap64 (x39+1)) x190000 x190001) else (spec_seFar.l2 k x5 x6 x8 x37 x38 (wrap64 (x39+1)) x190000 x190001)) else (none)) else (none))) else (spec_seFar.l2 k x5 x6 x8 x37 x38 (wrap64 (x39+1)) x190000 x190001))) else (none)) else (none)) else (none)) else (if x8 < 0 then (some x5) else (if 0≤x8 then (if x8 < (x6.length:Int) then ((spec_seState.f k x8 (x190000.length:Int)).bind fun bt204=>((spec_paTrips.f k x190000 x190001 bt204.1 bt204.2).bind fun t209=>(spec_seFar.l3 k x5 (x6.set (x8:Int).toNat true) x8 t209 (t209.length:Int) 0 x190000 x190001 bt204.1 bt204.2))) else (none)) else (none)))
def spec_seFar.l3:Nat→List Int→List Bool→Int→List (List Int)→Int→Int→List Int→Int→List Bool→Bool→Option (List Int)
 | 0,_,_,_,_,_,_,_,_,_,_=>none
 | k+1,x5,x6,x8,x80,x81,x82,x190000,x190001,x209000,x209001=>if x82 < x81 then (if 0≤x82 then (if x82 < (x80.length:Int) then ((spec_paCross.f k x209000 x209001 (rd_L2 x80 x82)).bind fun bt213=>((spec_seIndex.f k bt213.1 bt213.2).bind fun t217=>(if 0≤x8 then (if x8 < (x5.length:Int) then ((spec_paTime.f k x190000 x190001 (rd_L2 x80 x82)).bind fun t219=>(if 0≤t217 then (if t217 < (x5.length:Int) then (if (rd x5 t217) < 0 then (spec_seFar.l3 k (x5.set (t217:Int).toNat (wrap64 ((rd x5 x8)+t219))) x6 x8 x80 x81 (wrap64 (x82+1)) x190000 x190001 x209000 x209001) else (if (wrap64 ((rd x5 x8)+t219)) < (rd x5 t217) then (spec_seFar.l3 k (x5.set (t217:Int).toNat (wrap64 ((rd x5 x8)+t219))) x6 x8 x80 x81 (wrap64 (x82+1)) x190000 x190001 x209000 x209001) else (spec_seFar.l3 k x5 x6 x8 x80 x81 (wrap64 (x82+1)) x190000 x190001 x209000 x209001))) else (none)) else (none))) else (none)) else (none)))) else (none)) else (none)) else (spec_seFar.l1 k x5 x6 x190000 x190001)
end
def spec_seFar.f (k:Nat) (l0_0:List Int) (a0_1:Int) (l1_0:List Bool) (a1_1:Bool):Option (List Int):=if 0≤(shl .i64 2 (l0_0.length:Int)) then (if (shl .i64 2 (l0_0.length:Int):Int).toNat≤35184372088832 then ((some (List.replicate (shl .i64 2 (l0_0.length:Int):Int).toNat 0:List Int)).bind fun y191=>(if 0≤(y191.length:Int) then (if ((y191.length:Int):Int).toNat≤281474976710656 then (spec_seFar.l0 k y191 (List.replicate ((y191.length:Int):Int).toNat false) (y191.length:Int) 0 l0_0 a0_1 l1_0 a1_1) else (none)) else (none))) else (none)) else (none)
def spec_seFar.T24:Bool × List (List Nat × List Nat):=(true,[([],[]),([],[]),([0,1],[0,1]),([2],[2]),([],[]),([],[]),([4,5],[4,5]),([3,6],[3,6]),([7,6,0,1,2,3,4,5,6,7],[7])])
def spec_seFar.B24:List Nat:=[0,0,3,7,0,0,48,127,255]
theorem spec_seFar.tab24:rtab .any (opsOf Try.f25 24)=spec_seFar.T24:=by kernel_rfl
theorem spec_seFar.bits24:waitsOk spec_seFar.T24.2 spec_seFar.B24=true:=by kernel_rfl
set_option maxHeartbeats 8000000 in
set_option maxRecDepth 100000 in
theorem spec_seFar.calls (k:Nat) (A0_0:Option Addr) (c0_0:Nat) (l0_0:List Int) (a0_1:Int) (A1_0:Option Addr) (c1_0:Nat) (l1_0:List Bool) (a1_1:Bool) (r:List Int) (w:World) (hr0_0:Kd.C (Kd.int .i64) w A0_0 l0_0.length l0_0) (hc0_0:l0_0.length≤c0_0) (hr1_0:Kd.C Kd.bool w A1_0 l1_0.length l1_0) (hc1_0:l1_0.length≤c1_0) (h:spec_seFar.f k l0_0 a0_1 l1_0 a1_1=some r) :
  Calls Try.prog 25 #[.agg #[.slice A0_0 l0_0.length c0_0, .int .i64 a0_1], .agg #[.slice A1_0 l1_0.length c1_0, .bool a1_1]] w fun e w'=>∃ v0_:Value,e = .returned (v0_)∧Kd.R (Kd.int .i64) 3 w' w.heap.size (fun _=>True) v0_ r∧Below w.heap.size w w':=by
 have hu28:=Try.underlying28
 have hu54:=Try.underlying54
 have HR0_0:=am' hr0_0
 have HC0_0:=am' hc0_0
 clear hr0_0 hc0_0;have HR1_0:=am' hr1_0
 have HC1_0:=am' hc1_0
 clear hr1_0 hc1_0;have HB:=am' (Below.refl w.heap.size w)
 have H:(if 0≤(shl .i64 2 (l0_0.length:Int)) then (if (shl .i64 2 (l0_0.length:Int):Int).toNat≤35184372088832 then ((some (List.replicate (shl .i64 2 (l0_0.length:Int):Int).toNat 0:List Int)).bind fun y191=>(if 0≤(y191.length:Int) then (if ((y191.length:Int):Int).toNat≤281474976710656 then (spec_seFar.l0 k y191 (List.replicate ((y191.length:Int):Int).toNat false) (y191.length:Int) 0 l0_0 a0_1 l1_0 a1_1) else (none)) else (none))) else (none)) else (none))=some r:=h
 clear h;obtain ⟨ji3,hji3⟩:∃ j_:Int,(shl .i64 2 (l0_0.length:Int))=j_:=⟨_,rfl⟩
 replace H:(if 0≤(ji3) then (if (ji3:Int).toNat≤35184372088832 then ((some (List.replicate (ji3:Int).toNat 0:List Int)).bind fun y191=>(if 0≤(y191.length:Int) then (if ((y191.length:Int):Int).toNat≤281474976710656 then (spec_seFar.l0 k y191 (List.replicate ((y191.length:Int):Int).toNat false) (y191.length:Int) 0 l0_0 a0_1 l1_0 a1_1) else (none)) else (none))) else (none)) else (none))=some r:=by first|(rw[hji3] at H;exact H)|(simp only[hji3] at H ⊢;exact H)
 have hji3_:(IntKind.i64.wrap (2 * 2 ^ min (l0_0.length:Int).toNat 64))=ji3:=hji3
 have hji3z:(l0_0.length:Int)≤64→(IntKind.i64.wrap (2 * 2 ^ (l0_0.length:Int).toNat))=ji3:=shl_small hji3
 have hji3p:(IntKind.i64.wrap (2 * 2 ^ min l0_0.length 64))=ji3:=hji3_
 have hji3q:(l0_0.length:Int)≤64→(IntKind.i64.wrap (2 * 2 ^ l0_0.length))=ji3:=hji3z
 have hji3y:(wrap64 (2 * 2 ^ min (l0_0.length:Int).toNat 64))=ji3:=(i64_w _).symm.trans hji3_
 have hji3x:(l0_0.length:Int)≤64→(wrap64 (2 * 2 ^ (l0_0.length:Int).toNat))=ji3:=fun h_=>(i64_w _).symm.trans (hji3z h_)
 by_cases c4:0≤(ji3)
 ·
  rw[if_pos c4] at H;have c4b0:=eq_true c4;have c4b1:decide (0≤(ji3))=true:=decide_eq_true c4;clear c4;by_cases c5:(ji3:Int).toNat≤35184372088832
  ·
   rw[if_pos c5] at H;have c5b0:=eq_true c5;have c5b1:decide ((ji3:Int).toNat≤35184372088832)=true:=decide_eq_true c5;clear c5;obtain ⟨y191,hy191⟩:∃ y_:List Int,y_=(List.replicate (ji3:Int).toNat 0):=⟨_,rfl⟩
   replace H:(if 0≤(y191.length:Int) then (if ((y191.length:Int):Int).toNat≤281474976710656 then (spec_seFar.l0 k y191 (List.replicate ((y191.length:Int):Int).toNat false) (y191.length:Int) 0 l0_0 a0_1 l1_0 a1_1) else (none)) else (none))=some r:=by first|(rw[hy191];with_reducible exact H)|(have H2_:=(Option.bind_some _ _).symm.trans H;rw[hy191];with_reducible exact H2_)|(have H2_:=(Option.bind_some _ _).symm.trans H;with_reducible exact H2_)|with_reducible exact H|(rw[hy191];exact H)|exact H
   have Ny191:=am' hy191;clear hy191;by_cases c6:0≤(y191.length:Int)
   ·
    rw[if_pos c6] at H;have c6b0:=eq_true c6;have c6b1:decide (0≤(y191.length:Int))=true:=decide_eq_true c6;clear c6;by_cases c7:((y191.length:Int):Int).toNat≤281474976710656
    ·
     rw[if_pos c7] at H;have c7b0:=eq_true c7;have c7b1:decide (((y191.length:Int):Int).toNat≤281474976710656)=true:=decide_eq_true c7;clear c7;obtain ⟨y194,hy194⟩:∃ y_:List Bool,y_=(List.replicate ((y191.length:Int):Int).toNat false):=⟨_,rfl⟩
     replace H:(spec_seFar.l0 k y191 y194 (y191.length:Int) 0 l0_0 a0_1 l1_0 a1_1)=some r:=by first|(rw[hy194];with_reducible exact H)|(have H2_:=(Option.bind_some _ _).symm.trans H;rw[hy194];with_reducible exact H2_)|(have H2_:=(Option.bind_some _ _).symm.trans H;with_reducible exact H2_)|with_reducible exact H|(rw[hy194];exact H)|exact H
     have Ny194:=am' hy194;clear hy194;have H':=am' H;clear H;go_enter Try.func25,Try.ntmps25;go_wp2_with (first|((with_reducible refine gate_dst (N:=2) rfl ?_);refine box_event ?hg (N:=2) ?hd (cs:=#[.slice A0_0 l0_0.length c0_0, .int .i64 a0_1]) (t:=28) ?hr ?_;(case hd=>rfl);(case hg=>rfl);(case hr=>first|(go_simp;done)|(go_simp;rfl));intro gb189 hg w8 hbox hb;have n0_:=am' (below_step (by repeat (first|(with_reducible first|exact HB.out|apply ba'|apply bd'|apply be')|exact HB.out)) hb);have n1_:=am' (hbox);have n2_:=am' ((by rw[hg];exact (below_size (by repeat (first|(with_reducible first|exact HB.out|apply ba'|apply bd'|apply be')|exact HB.out))):w.heap.size≤gb189));have n3_:=am' ((by rw[hg];exact (below_size (by repeat (first|(with_reducible first|exact HB.out|apply ba'|apply bd'|apply be')|exact HB.out))):w.heap.size≤gb189));clear HB;have HB:=n0_;have BK189:=n1_;have GW189:=n2_;have GE189:=n3_;clear n0_ n1_ n2_ n3_;clear hb hbox hg)|((with_reducible refine gate_dst (N:=3) rfl ?_);refine box_event ?hg (N:=3) ?hd (cs:=#[.slice A1_0 l1_0.length c1_0, .bool a1_1]) (t:=54) ?hr ?_;(case hd=>rfl);(case hg=>rfl);(case hr=>first|(go_simp;done)|(go_simp;rfl));intro gb190 hg w9 hbox hb;have n0_:=am' (blk_below (g:=gb189) (o := .cells #[.slice A0_0 l0_0.length c0_0, .int .i64 a0_1] 28 (0,0)) (by (with_reducible repeat (first|refine kn' ?_ _|refine kd' ?_|refine ka' ?_ _));exact BK189.out) hb);have n1_:=am' (below_step (by repeat (first|(with_reducible first|exact HB.out|apply ba'|apply bd'|apply be'|refine bs' ?_ GE189.out)|exact HB.out)) hb);have n2_:=am' (hbox);have n3_:=am' ((by rw[hg];exact (below_size (by repeat (first|(with_reducible first|exact HB.out|apply ba'|apply bd'|apply be'|refine bs' ?_ GE189.out)|exact HB.out))):w.heap.size≤gb190));have n4_:=am' ((by rw[hg];exact (below_size (by repeat (first|(with_reducible first|exact HB.out|apply ba'|apply bd'|apply be'|refine bs' ?_ GE189.out)|exact HB.out))):w.heap.size≤gb190));have n5_:=am' ((by rw[hg];exact Nat.ne_of_lt (blk_lt (g:=gb189) (o := .cells #[.slice A0_0 l0_0.length c0_0, .int .i64 a0_1] 28 (0,0)) (by (with_reducible repeat (first|refine kn' ?_ _|refine kd' ?_|refine ka' ?_ _));exact BK189.out)):gb189≠gb190));have n6_:=am' ((by rw[hg];exact Nat.ne_of_gt (blk_lt (g:=gb189) (o := .cells #[.slice A0_0 l0_0.length c0_0, .int .i64 a0_1] 28 (0,0)) (by (with_reducible repeat (first|refine kn' ?_ _|refine kd' ?_|refine ka' ?_ _));exact BK189.out)):gb190≠gb189));clear BK189;clear HB;have BK189:=n0_;have HB:=n1_;have BK190:=n2_;have GW190:=n3_;have GE190:=n4_;have NB189_190:=n5_;have NB190_189:=n6_;clear n0_ n1_ n2_ n3_ n4_ n5_ n6_;clear hb hbox hg;have hnb10:=NB189_190.out;have hnc10:=NB190_189.out;have hcz11_0:w9.cell? ⟨gb189,0,none⟩=some (.slice A0_0 l0_0.length c0_0):=(blk_cell BK189.out 0).trans rfl;have hcz11_1:w9.cell? ⟨gb189,1,none⟩=some (.int .i64 a0_1):=(blk_cell BK189.out 1).trans rfl;have hfz11_0:=blk_frozen BK189.out 0;have hfz11_1:=blk_frozen BK189.out 1)|((with_reducible refine gate_dst (N:=20) rfl ?_);refine Kd.R_make (Kd.int .i64) _ 3 rfl (N:=20) rfl 22 _ _ rfl ji3 rfl rfl Try.underlying22 (.int .i64 0) 8 info3 rfl (by decide) (by omega) 0 (ok:=fun _=>True) (okp:=fun _=>True) rfl (fun _ hk=>hk) trivial (of_decide_eq_true (by first|(with_reducible assumption)|assumption)) (Nat.le_trans (Nat.mul_le_mul_right _ (of_decide_eq_true (by first|(with_reducible assumption)|assumption):ji3.toNat≤35184372088832)) (by omega)) (Below.refl _ _) (Nat.le_refl _) ?_;intro v192 w12 ho13 hb hg_ hnew_;clear hg_ hnew_;(first|rw[← Ny191.out] at ho13|(simp only[Int.reduceToNat] at ho13;rw[← Ny191.out] at ho13));have n0_:=am' (Kd.R_lower ho13 (below_size (by repeat (first|(with_reducible first|exact HB.out|apply ba'|apply bd'|apply be'|refine bs' ?_ GE189.out|refine bs' ?_ GE190.out)|exact HB.out))));have n1_:=am' (blk_below (g:=gb189) (o := .cells #[.slice A0_0 l0_0.length c0_0, .int .i64 a0_1] 28 (0,0)) (by (with_reducible repeat (first|refine kn' ?_ _|refine kd' ?_|refine ka' ?_ _));exact BK189.out) hb);have n2_:=am' (blk_below (g:=gb190) (o := .cells #[.slice A1_0 l1_0.length c1_0, .bool a1_1] 54 (0,0)) (by (with_reducible repeat (first|refine kn' ?_ _|refine kd' ?_|refine ka' ?_ _));exact BK190.out) hb);have n3_:=am' (below_step (by repeat (first|(with_reducible first|exact HB.out|apply ba'|apply bd'|apply be'|refine bs' ?_ GE189.out|refine bs' ?_ GE190.out)|exact HB.out)) hb);clear BK189;clear BK190;clear HB;have HO193:=n0_;have BK189:=n1_;have BK190:=n2_;have HB:=n3_;clear n0_ n1_ n2_ n3_;clear hb ho13;obtain ⟨Ao14,co14,eo14⟩:=Kd.R_slice HO193.out;subst eo14)|((with_reducible refine gate_dst (N:=23) rfl ?_);refine Kd.R_make Kd.bool _ 4 rfl (N:=23) rfl 52 _ _ rfl (y191.length:Int) rfl rfl Try.underlying52 (.bool false) 1 info4 rfl (by decide) (by omega) false (ok:=fun _=>True) (okp:=fun _=>True) rfl (fun _ hk=>hk) trivial (of_decide_eq_true (by first|(with_reducible assumption)|assumption)) (Nat.le_trans (Nat.mul_le_mul_right _ (of_decide_eq_true (by first|(with_reducible assumption)|assumption):(y191.length:Int).toNat≤281474976710656)) (by omega)) (Below.refl _ _) (Nat.le_refl _) ?_;intro v195 w15 ho16 hb hg_ hnew_;clear hg_ hnew_;(first|rw[← Ny194.out] at ho16|(simp only[Int.reduceToNat] at ho16;rw[← Ny194.out] at ho16));have n0_:=am' (Kd.R_below (by (with_reducible repeat (first|apply ra'|apply rn'|apply rw'));exact HO193.out) hb);have n1_:=am' (Kd.R_lower ho16 (below_size (by repeat (first|(with_reducible first|exact HB.out|apply ba'|apply bd'|apply be'|refine bs' ?_ GE189.out|refine bs' ?_ GE190.out)|exact HB.out))));have n2_:=am' (blk_below (g:=gb189) (o := .cells #[.slice A0_0 l0_0.length c0_0, .int .i64 a0_1] 28 (0,0)) (by (with_reducible repeat (first|refine kn' ?_ _|refine kd' ?_|refine ka' ?_ _));exact BK189.out) hb);have n3_:=am' (blk_below (g:=gb190) (o := .cells #[.slice A1_0 l1_0.length c1_0, .bool a1_1] 54 (0,0)) (by (with_reducible repeat (first|refine kn' ?_ _|refine kd' ?_|refine ka' ?_ _));exact BK190.out) hb);have n4_:=am' (below_step (by repeat (first|(with_reducible first|exact HB.out|apply ba'|apply bd'|apply be'|refine bs' ?_ GE189.out|refine bs' ?_ GE190.out)|exact HB.out)) hb);clear HO193;clear BK189;clear BK190;clear HB;have HO193:=n0_;have HO196:=n1_;have BK189:=n2_;have BK190:=n3_;have HB:=n4_;clear n0_ n1_ n2_ n3_ n4_;clear hb ho16))
     go_loopg [26] k (fun kq v26 w'=>∃ (x5_1:List Int) (x26_1:Int),v26 = .int .i64 x26_1∧Aside0 (spec_seFar.l0 kq x5_1 y194 (y191.length:Int) x26_1 l0_0 a0_1 l1_0 a1_1=some r)∧Aside0 (kq≤k)∧Aside0 (Kd.R (Kd.int .i64) 3 w' w.heap.size (fun _=>True) (.slice Ao14 y191.length co14) x5_1)∧Aside0 (Kd.R Kd.bool 4 w' w.heap.size (fun _=>True) v195 y194)∧Aside0 (w'.heap[gb189]? = some (.cells #[(.slice A0_0 l0_0.length c0_0), .int .i64 a0_1] 28 (0,0)))∧Aside0 (w'.heap[gb190]? = some (.cells #[(.slice A1_0 l1_0.length c1_0), .bool a1_1] 54 (0,0)))∧Aside0 (Below w.heap.size w w'))
     case atStart=>exact ⟨(y191),(0),(by first|rfl|(simp;done)|(simp[*];done)),H',⟨Nat.le_refl _⟩,⟨by (with_reducible repeat (first|apply ra'|apply rn'|apply rw'));exact HO193.out⟩,⟨by (with_reducible repeat (first|apply ra'|apply rn'|apply rw'));exact HO196.out⟩,⟨by (with_reducible repeat (first|refine kn' ?_ _|refine kd' ?_|refine ka' ?_ _));exact BK189.out⟩,⟨by (with_reducible repeat (first|refine kn' ?_ _|refine kd' ?_|refine ka' ?_ _));exact BK190.out⟩,⟨by repeat (first|(with_reducible first|exact HB.out|apply ba'|apply bd'|apply be'|refine bs' ?_ GE189.out|refine bs' ?_ GE190.out)|exact HB.out)⟩⟩
     case round =>
      clear H';try clear c1
      try clear c2
      try clear p2
      try clear c4
      try clear c4b0
      try clear c4b1
      try clear c5
      try clear c5b0
      try clear c5b1
      try clear c6
      try clear c6b0
      try clear c6b1
      try clear p6
      try clear c7
      try clear c7b0
      try clear c7b1
      try clear c10
      try clear hcz11_0
      try clear hcz11_1
      try clear hfz11_0
      try clear hfz11_1
      obtain ⟨x5_1,x26_1,rfl,HA,HK1,HO_5,HO_6,BK189,BK190,HB⟩:=hrel;have hl5_1:=(Kd.R_reads' HO_5.out).1;rw[hl5_1] at HO_5
      (try simp only[hl5_1])
      (try simp only[hl5_1] at BK189)
      (try simp only[hl5_1] at BK190)
      (try simp only[hl5_1] at HO_6)
      cases gk with
      | zero=>exact absurd HA.out (by simp[spec_seFar.l0])
      | succ k1 =>
       have H:=HA.out;clear HA;simp only[spec_seFar.l0] at H;by_cases c17:x26_1 < (y191.length:Int)
       ·
        rw[if_pos c17] at H;have c17b0:decide (x26_1 < (y191.length:Int))=true:=decide_eq_true c17;clear c17;by_cases c18:0≤x26_1
        ·
         rw[if_pos c18] at H;have c18b0:decide (0≤x26_1)=true:=decide_eq_true c18;clear c18;by_cases c19:x26_1 < (x5_1.length:Int)
         ·
          rw[if_pos c19] at H;have c19b0:decide (x26_1 < (x5_1.length:Int))=true:=decide_eq_true c19;clear c19;obtain ⟨y197,hy197⟩:∃ y_:List Int,y_=(x5_1.set (x26_1:Int).toNat (-1)):=⟨_,rfl⟩
          replace H:(spec_seFar.l0 k1 y197 y194 (y191.length:Int) (wrap64 (x26_1+1)) l0_0 a0_1 l1_0 a1_1)=some r:=by first|(rw[hy197];with_reducible exact H)|(have H2_:=(Option.bind_some _ _).symm.trans H;rw[hy197];with_reducible exact H2_)|(have H2_:=(Option.bind_some _ _).symm.trans H;with_reducible exact H2_)|with_reducible exact H|(rw[hy197];exact H)|exact H
          have Ny197:=am' hy197;clear hy197;have H':=am' H;clear H;have p20:0≤(x26_1:Int):=of_decide_eq_true (by first|(with_reducible assumption)|assumption);have q20:(x26_1:Int) < ((x5_1.length:Int):Int):=of_decide_eq_true (by first|(with_reducible assumption)|assumption);obtain ⟨go20,co20,eo20,gb20,gl20,cl20,HG20⟩:=Kd.R_form HO_5.out (by omega)
          (first|cases eo20|(injection eo20 with ea_ en_ ec_;(first|subst ea_|(injection ea_ with ea_;subst ea_));subst ec_;clear en_))
          have GB20:=am' gb20;have GG20:=am' HG20;clear gb20 gl20 HG20;obtain ⟨hx20_0,hf20_0⟩:=Kd.R_celln 0 HO_5.out (x26_1:Int) p20 q20;replace p20:=eq_true p20;replace q20:=eq_true q20;have HP21:=Kd.R_putg HO_5.out (x26_1:Int) (-1);go_wp2_with (first|((with_reducible refine gate_store (t:=3) (p:=31) rfl ?_);refine store_event (t:=3) (p:=31) (v:=?vo_w22) (w1:=(wr.setCell ⟨go20,(x26_1:Int).toNat,none⟩ (.int .i64 (-1)))) ?hg ?ho ?hn ?hr ?_;(case ho=>rfl);(case hg=>rfl);(case hn=>rfl);(case hr=>first|(go_simp;done)|(go_simp;rfl));intro w22 hw;have hg:wr.grownBy w22 (some go20):=(by rw[hw];exact HP21.2);have hp_:Kd.R (Kd.int .i64) 3 w22 w.heap.size (fun _=>True) (.slice (some ⟨go20,0,none⟩) x5_1.length co14) y197:=(by rw[hw,Ny197.out];exact HP21.1);clear HP21;have n0_:=am' (hp_);have n1_:=am' (Kd.R_over' (v:=(.slice (some ⟨go20,0,none⟩) x5_1.length co14)) (by (with_reducible repeat (first|apply ra'|apply rn'|apply rw'));exact HO_6.out) (Kd.R_typed HO_5.out) (by decide) hg);have n2_:=am' (blk_grown (g:=gb189) (o := .cells #[.slice A0_0 l0_0.length c0_0, .int .i64 a0_1] 28 (0,0)) (by (with_reducible repeat (first|refine kn' ?_ _|refine kd' ?_|refine ka' ?_ _));exact BK189.out) hg (Kd.R_ne HO_5.out BK189.out (by decide)));have n3_:=am' (blk_grown (g:=gb190) (o := .cells #[.slice A1_0 l1_0.length c1_0, .bool a1_1] 54 (0,0)) (by (with_reducible repeat (first|refine kn' ?_ _|refine kd' ?_|refine ka' ?_ _));exact BK190.out) hg (Kd.R_ne HO_5.out BK190.out (by decide)));have n4_:=am' ((by rw[hw];exact bs' (HB.out) GB20.out:Below w.heap.size w w22));clear HO_5;clear HO_6;clear BK189;clear BK190;clear HB;have HO_5:=n0_;have HO_6:=n1_;have BK189:=n2_;have BK190:=n3_;have HB:=n4_;clear n0_ n1_ n2_ n3_ n4_;clear hg hw hp_))
          (try simp only[← hl5_1])
          go_roundg k1
          case measure=>have:=HK1.out;omega
          case rel=>exact ⟨(y197),(wrap64 (x26_1+1)),(by first|rfl|(simp;done)|(simp[*];done)),H',⟨by have:=HK1.out;omega⟩,⟨by (try simp only[hl5_1]);(with_reducible repeat (first|apply ra'|apply rn'|apply rw'));exact HO_5.out⟩,⟨by (try simp only[hl5_1]);(with_reducible repeat (first|apply ra'|apply rn'|apply rw'));exact HO_6.out⟩,⟨by (try simp only[hl5_1]);(with_reducible repeat (first|refine kn' ?_ _|refine kd' ?_|refine ka' ?_ _));exact BK189.out⟩,⟨by (try simp only[hl5_1]);(with_reducible repeat (first|refine kn' ?_ _|refine kd' ?_|refine ka' ?_ _));exact BK190.out⟩,⟨by repeat (first|(with_reducible first|exact HB.out|apply ba'|apply bd'|apply be'|refine bs' ?_ GE189.out|refine bs' ?_ GE190.out)|exact HB.out)⟩⟩
         ·
          rw[if_neg c19] at H;exact absurd H (by simp)
        ·
         rw[if_neg c18] at H;exact absurd H (by simp)
       ·
        rw[if_neg c17] at H;have c17b0:decide (x26_1 < (y191.length:Int))=false:=decide_eq_false c17
        (try (have c17bz:=c17b0;rw[hl5_1] at c17bz))
        clear c17;replace H:=Option.bind_eq_some_iff.mp H;obtain ⟨t198,A230,H⟩:=H;replace H:(if 0≤t198 then (if t198 < (x5_1.length:Int) then (spec_seFar.l1 k1 (x5_1.set (t198:Int).toNat 0) y194 l0_0 a0_1) else (none)) else (none))=some r:=H;have A23:=am' A230;clear A230;by_cases c24:0≤t198
        ·
         rw[if_pos c24] at H;have c24b0:decide (0≤t198)=true:=decide_eq_true c24;clear c24;by_cases c25:t198 < (x5_1.length:Int)
         ·
          rw[if_pos c25] at H;have c25b0:decide (t198 < (x5_1.length:Int))=true:=decide_eq_true c25;clear c25;obtain ⟨y199,hy199⟩:∃ y_:List Int,y_=(x5_1.set (t198:Int).toNat 0):=⟨_,rfl⟩
          replace H:(spec_seFar.l1 k1 y199 y194 l0_0 a0_1)=some r:=by first|(rw[hy199];with_reducible exact H)|(have H2_:=(Option.bind_some _ _).symm.trans H;rw[hy199];with_reducible exact H2_)|(have H2_:=(Option.bind_some _ _).symm.trans H;with_reducible exact H2_)|with_reducible exact H|(rw[hy199];exact H)|exact H
          have Ny199:=am' hy199;clear hy199;have H':=am' H;clear H;have hnb27:=NB190_189.out;have hnc27:=NB189_190.out;have hcz28_0:wr.cell? ⟨gb190,0,none⟩=some (.slice A1_0 l1_0.length c1_0):=(blk_cell BK190.out 0).trans rfl;have hcz28_1:wr.cell? ⟨gb190,1,none⟩=some (.bool a1_1):=(blk_cell BK190.out 1).trans rfl;have hfz28_0:=blk_frozen BK190.out 0;have hfz28_1:=blk_frozen BK190.out 1;go_wp2_with (first|((with_reducible refine gate_callee (f:=40) rfl ?_);refine goesL_ (some 35) rfl rfl Try.func40 (by kernel_rfl) rfl #[.agg #[.slice A1_0 l1_0.length c1_0, .bool a1_1]] rfl (by (try simp only[List.map_toArray,List.map_cons,List.map_nil]);first|done|rfl|(simp only[List.length_drop,List.length_take];rfl)) ?_;(with_reducible refine (spec_seIndex.calls k1 _ _ l1_0 a1_1 t198 _ ?side1 ?side2 A23.out).mono ?_);(case side1=>repeat (first|exact (Kd.C_below HR1_0.out HB.out)|(with_reducible refine ca' ?_ _)|(with_reducible refine cn' ?_ _)|(with_reducible refine cd' ?_)));(case side2=>exact HC1_0.out);rintro e w29 ⟨rfl,hb⟩;refine ⟨_,rfl,?_⟩;have n0_:=am' (Kd.R_below (by (with_reducible repeat (first|apply ra'|apply rn'|apply rw'));exact HO_5.out) hb);have n1_:=am' (Kd.R_below (by (with_reducible repeat (first|apply ra'|apply rn'|apply rw'));exact HO_6.out) hb);have n2_:=am' (blk_below (g:=gb189) (o := .cells #[.slice A0_0 l0_0.length c0_0, .int .i64 a0_1] 28 (0,0)) (by (with_reducible repeat (first|refine kn' ?_ _|refine kd' ?_|refine ka' ?_ _));exact BK189.out) hb);have n3_:=am' (blk_below (g:=gb190) (o := .cells #[.slice A1_0 l1_0.length c1_0, .bool a1_1] 54 (0,0)) (by (with_reducible repeat (first|refine kn' ?_ _|refine kd' ?_|refine ka' ?_ _));exact BK190.out) hb);have n4_:=am' (below_step (by repeat (first|(with_reducible first|exact HB.out|apply ba'|apply bd'|apply be'|refine bs' ?_ GE189.out|refine bs' ?_ GE190.out)|exact HB.out)) hb);clear HO_5;clear HO_6;clear BK189;clear BK190;clear HB;have HO_5:=n0_;have HO_6:=n1_;have BK189:=n2_;have BK190:=n3_;have HB:=n4_;clear n0_ n1_ n2_ n3_ n4_;(try clear hb);(try clear hb2);(try clear hk);(try clear hi);have p26:0≤(t198:Int):=of_decide_eq_true (by first|(with_reducible assumption)|assumption);have q26:(t198:Int) < ((x5_1.length:Int):Int):=of_decide_eq_true (by first|(with_reducible assumption)|assumption);obtain ⟨go26,co26,eo26,gb26,gl26,cl26,HG26⟩:=Kd.R_form HO_5.out (by omega);(first|cases eo26|(injection eo26 with ea_ en_ ec_;(first|subst ea_|(injection ea_ with ea_;subst ea_));subst ec_;clear en_));have GB26:=am' gb26;have GG26:=am' HG26;clear gb26 gl26 HG26;obtain ⟨hx26_0,hf26_0⟩:=Kd.R_celln 0 HO_5.out (t198:Int) p26 q26;replace p26:=eq_true p26;replace q26:=eq_true q26;obtain ⟨hy30_,hz30_⟩:=Kd.R_celln 0 HO_5.out (t198:Int) (of_decide_eq_true (by first|(with_reducible assumption)|assumption)) (of_decide_eq_true (by first|(with_reducible assumption)|assumption));have HP30:=Kd.R_putg HO_5.out (t198:Int) 0)|((with_reducible refine gate_store (t:=3) (p:=36) rfl ?_);refine store_event (t:=3) (p:=36) (v:=?vo_w31) (w1:=(w29.setCell ⟨go26,(t198:Int).toNat,none⟩ (.int .i64 0))) ?hg ?ho ?hn ?hr ?_;(case ho=>rfl);(case hg=>rfl);(case hn=>rfl);(case hr=>first|(go_simp;done)|(go_simp;rfl));intro w31 hw;have hg:w29.grownBy w31 (some go26):=(by rw[hw];exact HP30.2);have hp_:Kd.R (Kd.int .i64) 3 w31 w.heap.size (fun _=>True) (.slice (some ⟨go26,0,none⟩) x5_1.length co14) y199:=(by rw[hw,Ny199.out];exact HP30.1);clear HP30;have n0_:=am' (hp_);have n1_:=am' (Kd.R_over' (v:=(.slice (some ⟨go26,0,none⟩) x5_1.length co14)) (by (with_reducible repeat (first|apply ra'|apply rn'|apply rw'));exact HO_6.out) (Kd.R_typed HO_5.out) (by decide) hg);have n2_:=am' (blk_grown (g:=gb189) (o := .cells #[.slice A0_0 l0_0.length c0_0, .int .i64 a0_1] 28 (0,0)) (by (with_reducible repeat (first|refine kn' ?_ _|refine kd' ?_|refine ka' ?_ _));exact BK189.out) hg (Kd.R_ne HO_5.out BK189.out (by decide)));have n3_:=am' (blk_grown (g:=gb190) (o := .cells #[.slice A1_0 l1_0.length c1_0, .bool a1_1] 54 (0,0)) (by (with_reducible repeat (first|refine kn' ?_ _|refine kd' ?_|refine ka' ?_ _));exact BK190.out) hg (Kd.R_ne HO_5.out BK190.out (by decide)));have n4_:=am' ((by rw[hw];exact bs' (HB.out) GB26.out:Below w.heap.size w w31));clear HO_5;clear HO_6;clear BK189;clear BK190;clear HB;have HO_5:=n0_;have HO_6:=n1_;have BK189:=n2_;have BK190:=n3_;have HB:=n4_;clear n0_ n1_ n2_ n3_ n4_;clear hg hw hp_))
          go_loopg [] k1 (fun kq w'=>∃ (x5_2:List Int) (x6_2:List Bool),Aside0 (spec_seFar.l1 kq x5_2 x6_2 l0_0 a0_1=some r)∧Aside0 (kq≤k1)∧Aside0 (Kd.R (Kd.int .i64) 3 w' w.heap.size (fun _=>True) (.slice (some ⟨go26,0,none⟩) x5_1.length co14) x5_2)∧Aside0 (Kd.R Kd.bool 4 w' w.heap.size (fun _=>True) v195 x6_2)∧Aside0 (w'.heap[gb189]? = some (.cells #[(.slice A0_0 l0_0.length c0_0), .int .i64 a0_1] 28 (0,0)))∧Aside0 (w'.heap[gb190]? = some (.cells #[(.slice A1_0 l1_0.length c1_0), .bool a1_1] 54 (0,0)))∧Aside0 (Below w.heap.size w w'))
          case atStart=>exact ⟨(y199),(y194),H',⟨Nat.le_refl _⟩,⟨by (try simp only[hl5_1]);(with_reducible repeat (first|apply ra'|apply rn'|apply rw'));exact HO_5.out⟩,⟨by (try simp only[hl5_1]);(with_reducible repeat (first|apply ra'|apply rn'|apply rw'));exact HO_6.out⟩,⟨by (try simp only[hl5_1]);(with_reducible repeat (first|refine kn' ?_ _|refine kd' ?_|refine ka' ?_ _));exact BK189.out⟩,⟨by (try simp only[hl5_1]);(with_reducible repeat (first|refine kn' ?_ _|refine kd' ?_|refine ka' ?_ _));exact BK190.out⟩,⟨by repeat (first|(with_reducible first|exact HB.out|apply ba'|apply bd'|apply be'|refine bs' ?_ GE189.out|refine bs' ?_ GE190.out)|exact HB.out)⟩⟩
          case round =>
           clear H';try clear c1
           try clear c2
           try clear p2
           try clear q2
           try clear hx2
           try clear hf2
           try clear c4
           try clear c4b0
           try clear c4b1
           try clear c5
           try clear c5b0
           try clear c5b1
           try clear c6
           try clear c6b0
           try clear c6b1
           try clear p6
           try clear c7
           try clear c7b0
           try clear c7b1
           try clear c10
           try clear c17
           try clear c17b0
           try clear c18
           try clear c18b0
           try clear c19
           try clear c19b0
           try clear p20
           try clear q20
           try clear hx20
           try clear hf20
           try clear c24
           try clear c24b0
           try clear c25
           try clear c25b0
           try clear p26
           try clear q26
           try clear hx26
           try clear hf26
           try clear c27
           try clear hcz11_0
           try clear hcz11_1
           try clear hcz28_0
           try clear hcz28_1
           try clear hfz11_0
           try clear hfz11_1
           try clear hfz28_0
           try clear hfz28_1
           try clear hx20_0
           try clear hx26_0
           try clear p2
           try clear p20
           try clear p26
           try clear p6
           try clear q20
           try clear q26
           obtain ⟨x5_2,x6_2,HA,HK2,HO_5,HO_6,BK189,BK190,HB⟩:=hrel;have hl5_2:=(Kd.R_reads' HO_5.out).1;rw[hl5_2] at HO_5
           (try simp only[hl5_2])
           (try simp only[hl5_2] at BK189)
           (try simp only[hl5_2] at BK190)
           (try simp only[hl5_2] at HO_6)
           cases gk with
           | zero=>exact absurd HA.out (by simp[spec_seFar.l1])
           | succ k2 =>
            have H:=HA.out;clear HA;simp only[spec_seFar.l1] at H;have H':=am' H;clear H;go_wp2;go_loopg [8,39] k2 (fun kq v8 v39 w'=>∃ (x8_3:Int) (x39_3:Int),v8 = .int .i64 x8_3∧v39 = .int .i64 x39_3∧Aside0 (spec_seFar.l2 kq x5_2 x6_2 x8_3 x5_2 (x5_2.length:Int) x39_3 l0_0 a0_1=some r)∧Aside0 (kq≤k2)∧Aside0 (Kd.R (Kd.int .i64) 3 w' w.heap.size (fun _=>True) (.slice (some ⟨go26,0,none⟩) x5_2.length co14) x5_2)∧Aside0 (Kd.R Kd.bool 4 w' w.heap.size (fun _=>True) v195 x6_2)∧Aside0 (Kd.R (Kd.int .i64) 3 w' w.heap.size (fun _=>True) (.slice (some ⟨go26,0,none⟩) x5_2.length co14) x5_2)∧Aside0 (w'.heap[gb189]? = some (.cells #[(.slice A0_0 l0_0.length c0_0), .int .i64 a0_1] 28 (0,0)))∧Aside0 (w'.heap[gb190]? = some (.cells #[(.slice A1_0 l1_0.length c1_0), .bool a1_1] 54 (0,0)))∧Aside0 (Below w.heap.size w w'))
            case atStart=>exact ⟨((-1)),(0),(by first|rfl|(simp;done)|(simp[*];done)),(by first|rfl|(simp;done)|(simp[*];done)),H',⟨Nat.le_refl _⟩,⟨by (try simp only[hl5_1]);(try simp only[hl5_2]);(with_reducible repeat (first|apply ra'|apply rn'|apply rw'));exact HO_5.out⟩,⟨by (try simp only[hl5_1]);(try simp only[hl5_2]);(with_reducible repeat (first|apply ra'|apply rn'|apply rw'));exact HO_6.out⟩,⟨by (try simp only[hl5_1]);(try simp only[hl5_2]);(with_reducible repeat (first|apply ra'|apply rn'|apply rw'));exact HO_5.out⟩,⟨by (try simp only[hl5_1]);(try simp only[hl5_2]);(with_reducible repeat (first|refine kn' ?_ _|refine kd' ?_|refine ka' ?_ _));exact BK189.out⟩,⟨by (try simp only[hl5_1]);(try simp only[hl5_2]);(with_reducible repeat (first|refine kn' ?_ _|refine kd' ?_|refine ka' ?_ _));exact BK190.out⟩,⟨by repeat (first|(with_reducible first|exact HB.out|apply ba'|apply bd'|apply be'|refine bs' ?_ GE189.out|refine bs' ?_ GE190.out)|exact HB.out)⟩⟩
            case round =>
             clear H';try clear c1
             try clear c2
             try clear p2
             try clear q2
             try clear hx2
             try clear hf2
             try clear c4
             try clear c4b0
             try clear c4b1
             try clear c5
             try clear c5b0
             try clear c5b1
             try clear c6
             try clear c6b0
             try clear c6b1
             try clear p6
             try clear c7
             try clear c7b0
             try clear c7b1
             try clear c10
             try clear c17
             try clear c17b0
             try clear c18
             try clear c18b0
             try clear c19
             try clear c19b0
             try clear p20
             try clear q20
             try clear hx20
             try clear hf20
             try clear c24
             try clear c24b0
             try clear c25
             try clear c25b0
             try clear p26
             try clear q26
             try clear hx26
             try clear hf26
             try clear c27
             try clear hcz11_0
             try clear hcz11_1
             try clear hcz28_0
             try clear hcz28_1
             try clear hfz11_0
             try clear hfz11_1
             try clear hfz28_0
             try clear hfz28_1
             try clear hx20_0
             try clear hx26_0
             try clear p2
             try clear p20
             try clear p26
             try clear p6
             try clear q2
             try clear q20
             try clear q26
             obtain ⟨x8_3,x39_3,rfl,rfl,HA,HK3,HO_5,HO_6,HO_37,BK189,BK190,HB⟩:=hrel;cases gk with
             | zero=>exact absurd HA.out (by simp[spec_seFar.l2])
             | succ k3 =>
              have H:=HA.out;clear HA;simp only[spec_seFar.l2] at H;by_cases c32:x39_3 < (x5_2.length:Int)
              ·
               rw[if_pos c32] at H;have c32b0:decide (x39_3 < (x5_2.length:Int))=true:=decide_eq_true c32;clear c32;by_cases c33:0≤x39_3
               ·
                rw[if_pos c33] at H;have c33b0:decide (0≤x39_3)=true:=decide_eq_true c33;clear c33;by_cases c34:x39_3 < (x5_2.length:Int)
                ·
                 rw[if_pos c34] at H;have c34b0:decide (x39_3 < (x5_2.length:Int))=true:=decide_eq_true c34;clear c34;by_cases c35:x39_3 < (x6_2.length:Int)
                 ·
                  rw[if_pos c35] at H;have c35b0:decide (x39_3 < (x6_2.length:Int))=true:=decide_eq_true c35;clear c35;obtain ⟨bq36,hbq36⟩:∃ b_:Bool,b_=(rdOf false x6_2 x39_3):=⟨_,rfl⟩
                  replace H:(if bq36=true then (spec_seFar.l2 k3 x5_2 x6_2 x8_3 x5_2 (x5_2.length:Int) (wrap64 (x39_3+1)) l0_0 a0_1) else (if (rd x5_2 x39_3) ≥ 0 then (if x8_3 < 0 then (spec_seFar.l2 k3 x5_2 x6_2 x39_3 x5_2 (x5_2.length:Int) (wrap64 (x39_3+1)) l0_0 a0_1) else (if 0≤x8_3 then (if x8_3 < (x5_2.length:Int) then (if (rd x5_2 x39_3) < (rd x5_2 x8_3) then (spec_seFar.l2 k3 x5_2 x6_2 x39_3 x5_2 (x5_2.length:Int) (wrap64 (x39_3+1)) l0_0 a0_1) else (spec_seFar.l2 k3 x5_2 x6_2 x8_3 x5_2 (x5_2.length:Int) (wrap64 (x39_3+1)) l0_0 a0_1)) else (none)) else (none))) else (spec_seFar.l2 k3 x5_2 x6_2 x8_3 x5_2 (x5_2.length:Int) (wrap64 (x39_3+1)) l0_0 a0_1)))=some r:=by rw[← hbq36] at H;exact H
                  have Nbq36:=am' hbq36;clear hbq36;by_cases c37:bq36=true
                  ·
                   subst c37;have H1:(spec_seFar.l2 k3 x5_2 x6_2 x8_3 x5_2 (x5_2.length:Int) (wrap64 (x39_3+1)) l0_0 a0_1)=some r:=by rw[if_pos rfl] at H;exact H
                   clear H;have H:=H1;clear H1;have H':=am' H;clear H;have p200:0≤(x39_3:Int):=of_decide_eq_true (by first|(with_reducible assumption)|assumption);have q200:x39_3 < (x5_2.length:Int):=of_decide_eq_true (by first|(with_reducible assumption)|assumption);obtain ⟨ad200,e200,hx200_0⟩:=Kd.at_int (Kd.R_reads' HO_37.out).2.2 x39_3 p200 q200;obtain rfl:(⟨go26,0,none⟩:Addr)=ad200:=(by injection e200)
                   (first|simp only[add_plain] at hx200_0|simp only[add_at] at hx200_0|simp only[Addr.add,Nat.zero_add] at hx200_0|skip)
                   replace p200:=eq_true p200;replace q200:=eq_true q200;obtain ⟨Ao38,co38,eo38⟩:=Kd.R_slice HO_6.out;subst eo38;have p201:0≤(x39_3:Int):=of_decide_eq_true (by first|(with_reducible assumption)|assumption);have q201:x39_3 < (x6_2.length:Int):=of_decide_eq_true (by first|(with_reducible assumption)|assumption);obtain ⟨ad201,e201,hx201_0⟩:=Kd.at_bool (Kd.R_reads' HO_6.out).2.2 x39_3 p201 q201
                   (try rw [← Nbq36.out] at hx201_0)
                   cases e201
                   replace p201:=eq_true p201;replace q201:=eq_true q201;go_wp2;go_roundg k3
                   case measure=>have:=HK1.out;have:=HK2.out;have:=HK3.out;omega
                   case rel=>exact ⟨(x8_3),(wrap64 (x39_3+1)),(by first|rfl|(simp;done)|(simp[*];done)),(by first|rfl|(simp;done)|(simp[*];done)),H',⟨by have:=HK1.out;have:=HK2.out;have:=HK3.out;omega⟩,⟨by (try simp only[hl5_1]);(try simp only[hl5_2]);(with_reducible repeat (first|apply ra'|apply rn'|apply rw'));exact HO_5.out⟩,⟨by (try simp only[hl5_1]);(try simp only[hl5_2]);(with_reducible repeat (first|apply ra'|apply rn'|apply rw'));exact HO_6.out⟩,⟨by (try simp only[hl5_1]);(try simp only[hl5_2]);(with_reducible repeat (first|apply ra'|apply rn'|apply rw'));exact HO_37.out⟩,⟨by (try simp only[hl5_1]);(try simp only[hl5_2]);(with_reducible repeat (first|refine kn' ?_ _|refine kd' ?_|refine ka' ?_ _));exact BK189.out⟩,⟨by (try simp only[hl5_1]);(try simp only[hl5_2]);(with_reducible repeat (first|refine kn' ?_ _|refine kd' ?_|refine ka' ?_ _));exact BK190.out⟩,⟨by repeat (first|(with_reducible first|exact HB.out|apply ba'|apply bd'|apply be'|refine bs' ?_ GE189.out|refine bs' ?_ GE190.out)|exact HB.out)⟩⟩
                  ·
                   replace c37:=Bool.eq_false_iff.mpr c37;subst c37;have H1:(if (rd x5_2 x39_3) ≥ 0 then (if x8_3 < 0 then (spec_seFar.l2 k3 x5_2 x6_2 x39_3 x5_2 (x5_2.length:Int) (wrap64 (x39_3+1)) l0_0 a0_1) else (if 0≤x8_3 then (if x8_3 < (x5_2.length:Int) then (if (rd x5_2 x39_3) < (rd x5_2 x8_3) then (spec_seFar.l2 k3 x5_2 x6_2 x39_3 x5_2 (x5_2.length:Int) (wrap64 (x39_3+1)) l0_0 a0_1) else (spec_seFar.l2 k3 x5_2 x6_2 x8_3 x5_2 (x5_2.length:Int) (wrap64 (x39_3+1)) l0_0 a0_1)) else (none)) else (none))) else (spec_seFar.l2 k3 x5_2 x6_2 x8_3 x5_2 (x5_2.length:Int) (wrap64 (x39_3+1)) l0_0 a0_1))=some r:=by rw[if_neg (show ¬ (false=true) by decide)] at H;exact H
                   clear H;have H:=H1;clear H1;by_cases c39:(rd x5_2 x39_3) ≥ 0
                   ·
                    rw[if_pos c39] at H;have c39b0:decide (0≤(rd x5_2 x39_3))=true:=decide_eq_true c39;clear c39;by_cases c40:x8_3 < 0
                    ·
                     rw[if_pos c40] at H;have c40b0:decide (x8_3 < 0)=true:=decide_eq_true c40;clear c40;have H':=am' H;clear H;have p200:0≤(x39_3:Int):=of_decide_eq_true (by first|(with_reducible assumption)|assumption);have q200:x39_3 < (x5_2.length:Int):=of_decide_eq_true (by first|(with_reducible assumption)|assumption);obtain ⟨ad200,e200,hx200_0⟩:=Kd.at_int (Kd.R_reads' HO_37.out).2.2 x39_3 p200 q200;obtain rfl:(⟨go26,0,none⟩:Addr)=ad200:=(by injection e200)
                     (first|simp only[add_plain] at hx200_0|simp only[add_at] at hx200_0|simp only[Addr.add,Nat.zero_add] at hx200_0|skip)
                     replace p200:=eq_true p200;replace q200:=eq_true q200;obtain ⟨Ao41,co41,eo41⟩:=Kd.R_slice HO_6.out;subst eo41;have p201:0≤(x39_3:Int):=of_decide_eq_true (by first|(with_reducible assumption)|assumption);have q201:x39_3 < (x6_2.length:Int):=of_decide_eq_true (by first|(with_reducible assumption)|assumption);obtain ⟨ad201,e201,hx201_0⟩:=Kd.at_bool (Kd.R_reads' HO_6.out).2.2 x39_3 p201 q201
                     (try rw [← Nbq36.out] at hx201_0)
                     cases e201
                     replace p201:=eq_true p201;replace q201:=eq_true q201;go_wp2;go_roundg k3
                     case measure=>have:=HK1.out;have:=HK2.out;have:=HK3.out;omega
                     case rel=>exact ⟨(x39_3),(wrap64 (x39_3+1)),(by first|rfl|(simp;done)|(simp[*];done)),(by first|rfl|(simp;done)|(simp[*];done)),H',⟨by have:=HK1.out;have:=HK2.out;have:=HK3.out;omega⟩,⟨by (try simp only[hl5_1]);(try simp only[hl5_2]);(with_reducible repeat (first|apply ra'|apply rn'|apply rw'));exact HO_5.out⟩,⟨by (try simp only[hl5_1]);(try simp only[hl5_2]);(with_reducible repeat (first|apply ra'|apply rn'|apply rw'));exact HO_6.out⟩,⟨by (try simp only[hl5_1]);(try simp only[hl5_2]);(with_reducible repeat (first|apply ra'|apply rn'|apply rw'));exact HO_37.out⟩,⟨by (try simp only[hl5_1]);(try simp only[hl5_2]);(with_reducible repeat (first|refine kn' ?_ _|refine kd' ?_|refine ka' ?_ _));exact BK189.out⟩,⟨by (try simp only[hl5_1]);(try simp only[hl5_2]);(with_reducible repeat (first|refine kn' ?_ _|refine kd' ?_|refine ka' ?_ _));exact BK190.out⟩,⟨by repeat (first|(with_reducible first|exact HB.out|apply ba'|apply bd'|apply be'|refine bs' ?_ GE189.out|refine bs' ?_ GE190.out)|exact HB.out)⟩⟩
                    ·
                     rw[if_neg c40] at H;have c40b0:decide (x8_3 < 0)=false:=decide_eq_false c40;clear c40;by_cases c42:0≤x8_3
                     ·
                      rw[if_pos c42] at H;have c42b0:decide (0≤x8_3)=true:=decide_eq_true c42;clear c42;by_cases c43:x8_3 < (x5_2.length:Int)
                      ·
                       rw[if_pos c43] at H;have c43b0:decide (x8_3 < (x5_2.length:Int))=true:=decide_eq_true c43;clear c43;by_cases c44:(rd x5_2 x39_3) < (rd x5_2 x8_3)
                       ·
                        rw[if_pos c44] at H;have c44b0:decide ((rd x5_2 x39_3) < (rd x5_2 x8_3))=true:=decide_eq_true c44;clear c44;have H':=am' H;clear H;have p200:0≤(x39_3:Int):=of_decide_eq_true (by first|(with_reducible assumption)|assumption);have q200:x39_3 < (x5_2.length:Int):=of_decide_eq_true (by first|(with_reducible assumption)|assumption);obtain ⟨ad200,e200,hx200_0⟩:=Kd.at_int (Kd.R_reads' HO_37.out).2.2 x39_3 p200 q200;obtain rfl:(⟨go26,0,none⟩:Addr)=ad200:=(by injection e200)
                        (first|simp only[add_plain] at hx200_0|simp only[add_at] at hx200_0|simp only[Addr.add,Nat.zero_add] at hx200_0|skip)
                        replace p200:=eq_true p200;replace q200:=eq_true q200;obtain ⟨Ao45,co45,eo45⟩:=Kd.R_slice HO_6.out;subst eo45;have p201:0≤(x39_3:Int):=of_decide_eq_true (by first|(with_reducible assumption)|assumption);have q201:x39_3 < (x6_2.length:Int):=of_decide_eq_true (by first|(with_reducible assumption)|assumption);obtain ⟨ad201,e201,hx201_0⟩:=Kd.at_bool (Kd.R_reads' HO_6.out).2.2 x39_3 p201 q201
                        (try rw [← Nbq36.out] at hx201_0)
                        cases e201
                        replace p201:=eq_true p201;replace q201:=eq_true q201;have p202:0≤(x8_3:Int):=of_decide_eq_true (by first|(with_reducible assumption)|assumption);have q202:x8_3 < (x5_2.length:Int):=of_decide_eq_true (by first|(with_reducible assumption)|assumption);obtain ⟨ad202,e202,hx202_0⟩:=Kd.at_int (Kd.R_reads' HO_5.out).2.2 x8_3 p202 q202;obtain rfl:(⟨go26,0,none⟩:Addr)=ad202:=(by injection e202)
                        (first|simp only[add_plain] at hx202_0|simp only[add_at] at hx202_0|simp only[Addr.add,Nat.zero_add] at hx202_0|skip)
                        replace p202:=eq_true p202;replace q202:=eq_true q202;go_wp2;go_roundg k3
                        case measure=>have:=HK1.out;have:=HK2.out;have:=HK3.out;omega
                        case rel=>exact ⟨(x39_3),(wrap64 (x39_3+1)),(by first|rfl|(simp;done)|(simp[*];done)),(by first|rfl|(simp;done)|(simp[*];done)),H',⟨by have:=HK1.out;have:=HK2.out;have:=HK3.out;omega⟩,⟨by (try simp only[hl5_1]);(try simp only[hl5_2]);(with_reducible repeat (first|apply ra'|apply rn'|apply rw'));exact HO_5.out⟩,⟨by (try simp only[hl5_1]);(try simp only[hl5_2]);(with_reducible repeat (first|apply ra'|apply rn'|apply rw'));exact HO_6.out⟩,⟨by (try simp only[hl5_1]);(try simp only[hl5_2]);(with_reducible repeat (first|apply ra'|apply rn'|apply rw'));exact HO_37.out⟩,⟨by (try simp only[hl5_1]);(try simp only[hl5_2]);(with_reducible repeat (first|refine kn' ?_ _|refine kd' ?_|refine ka' ?_ _));exact BK189.out⟩,⟨by (try simp only[hl5_1]);(try simp only[hl5_2]);(with_reducible repeat (first|refine kn' ?_ _|refine kd' ?_|refine ka' ?_ _));exact BK190.out⟩,⟨by repeat (first|(with_reducible first|exact HB.out|apply ba'|apply bd'|apply be'|refine bs' ?_ GE189.out|refine bs' ?_ GE190.out)|exact HB.out)⟩⟩
                       ·
                        rw[if_neg c44] at H;have c44b0:decide ((rd x5_2 x39_3) < (rd x5_2 x8_3))=false:=decide_eq_false c44;clear c44;have H':=am' H;clear H;have p200:0≤(x39_3:Int):=of_decide_eq_true (by first|(with_reducible assumption)|assumption);have q200:x39_3 < (x5_2.length:Int):=of_decide_eq_true (by first|(with_reducible assumption)|assumption);obtain ⟨ad200,e200,hx200_0⟩:=Kd.at_int (Kd.R_reads' HO_37.out).2.2 x39_3 p200 q200;obtain rfl:(⟨go26,0,none⟩:Addr)=ad200:=(by injection e200)
                        (first|simp only[add_plain] at hx200_0|simp only[add_at] at hx200_0|simp only[Addr.add,Nat.zero_add] at hx200_0|skip)
                        replace p200:=eq_true p200;replace q200:=eq_true q200;obtain ⟨Ao46,co46,eo46⟩:=Kd.R_slice HO_6.out;subst eo46;have p201:0≤(x39_3:Int):=of_decide_eq_true (by first|(with_reducible assumption)|assumption);have q201:x39_3 < (x6_2.length:Int):=of_decide_eq_true (by first|(with_reducible assumption)|assumption);obtain ⟨ad201,e201,hx201_0⟩:=Kd.at_bool (Kd.R_reads' HO_6.out).2.2 x39_3 p201 q201
                        (try rw [← Nbq36.out] at hx201_0)
                        cases e201
                        replace p201:=eq_true p201;replace q201:=eq_true q201;have p202:0≤(x8_3:Int):=of_decide_eq_true (by first|(with_reducible assumption)|assumption);have q202:x8_3 < (x5_2.length:Int):=of_decide_eq_true (by first|(with_reducible assumption)|assumption);obtain ⟨ad202,e202,hx202_0⟩:=Kd.at_int (Kd.R_reads' HO_5.out).2.2 x8_3 p202 q202;obtain rfl:(⟨go26,0,none⟩:Addr)=ad202:=(by injection e202)
                        (first|simp only[add_plain] at hx202_0|simp only[add_at] at hx202_0|simp only[Addr.add,Nat.zero_add] at hx202_0|skip)
                        replace p202:=eq_true p202;replace q202:=eq_true q202;go_wp2;go_roundg k3
                        case measure=>have:=HK1.out;have:=HK2.out;have:=HK3.out;omega
                        case rel=>exact ⟨(x8_3),(wrap64 (x39_3+1)),(by first|rfl|(simp;done)|(simp[*];done)),(by first|rfl|(simp;done)|(simp[*];done)),H',⟨by have:=HK1.out;have:=HK2.out;have:=HK3.out;omega⟩,⟨by (try simp only[hl5_1]);(try simp only[hl5_2]);(with_reducible repeat (first|apply ra'|apply rn'|apply rw'));exact HO_5.out⟩,⟨by (try simp only[hl5_1]);(try simp only[hl5_2]);(with_reducible repeat (first|apply ra'|apply rn'|apply rw'));exact HO_6.out⟩,⟨by (try simp only[hl5_1]);(try simp only[hl5_2]);(with_reducible repeat (first|apply ra'|apply rn'|apply rw'));exact HO_37.out⟩,⟨by (try simp only[hl5_1]);(try simp only[hl5_2]);(with_reducible repeat (first|refine kn' ?_ _|refine kd' ?_|refine ka' ?_ _));exact BK189.out⟩,⟨by (try simp only[hl5_1]);(try simp only[hl5_2]);(with_reducible repeat (first|refine kn' ?_ _|refine kd' ?_|refine ka' ?_ _));exact BK190.out⟩,⟨by repeat (first|(with_reducible first|exact HB.out|apply ba'|apply bd'|apply be'|refine bs' ?_ GE189.out|refine bs' ?_ GE190.out)|exact HB.out)⟩⟩
                      ·
                       rw[if_neg c43] at H;exact absurd H (by simp)
                     ·
                      rw[if_neg c42] at H;exact absurd H (by simp)
                   ·
                    rw[if_neg c39] at H;have c39b0:decide (0≤(rd x5_2 x39_3))=false:=decide_eq_false c39;clear c39;have H':=am' H;clear H;have p200:0≤(x39_3:Int):=of_decide_eq_true (by first|(with_reducible assumption)|assumption);have q200:x39_3 < (x5_2.length:Int):=of_decide_eq_true (by first|(with_reducible assumption)|assumption);obtain ⟨ad200,e200,hx200_0⟩:=Kd.at_int (Kd.R_reads' HO_37.out).2.2 x39_3 p200 q200;obtain rfl:(⟨go26,0,none⟩:Addr)=ad200:=(by injection e200)
                    (first|simp only[add_plain] at hx200_0|simp only[add_at] at hx200_0|simp only[Addr.add,Nat.zero_add] at hx200_0|skip)
                    replace p200:=eq_true p200;replace q200:=eq_true q200;obtain ⟨Ao47,co47,eo47⟩:=Kd.R_slice HO_6.out;subst eo47;have p201:0≤(x39_3:Int):=of_decide_eq_true (by first|(with_reducible assumption)|assumption);have q201:x39_3 < (x6_2.length:Int):=of_decide_eq_true (by first|(with_reducible assumption)|assumption);obtain ⟨ad201,e201,hx201_0⟩:=Kd.at_bool (Kd.R_reads' HO_6.out).2.2 x39_3 p201 q201
                    (try rw [← Nbq36.out] at hx201_0)
                    cases e201
                    replace p201:=eq_true p201;replace q201:=eq_true q201;go_wp2;go_roundg k3
                    case measure=>have:=HK1.out;have:=HK2.out;have:=HK3.out;omega
                    case rel=>exact ⟨(x8_3),(wrap64 (x39_3+1)),(by first|rfl|(simp;done)|(simp[*];done)),(by first|rfl|(simp;done)|(simp[*];done)),H',⟨by have:=HK1.out;have:=HK2.out;have:=HK3.out;omega⟩,⟨by (try simp only[hl5_1]);(try simp only[hl5_2]);(with_reducible repeat (first|apply ra'|apply rn'|apply rw'));exact HO_5.out⟩,⟨by (try simp only[hl5_1]);(try simp only[hl5_2]);(with_reducible repeat (first|apply ra'|apply rn'|apply rw'));exact HO_6.out⟩,⟨by (try simp only[hl5_1]);(try simp only[hl5_2]);(with_reducible repeat (first|apply ra'|apply rn'|apply rw'));exact HO_37.out⟩,⟨by (try simp only[hl5_1]);(try simp only[hl5_2]);(with_reducible repeat (first|refine kn' ?_ _|refine kd' ?_|refine ka' ?_ _));exact BK189.out⟩,⟨by (try simp only[hl5_1]);(try simp only[hl5_2]);(with_reducible repeat (first|refine kn' ?_ _|refine kd' ?_|refine ka' ?_ _));exact BK190.out⟩,⟨by repeat (first|(with_reducible first|exact HB.out|apply ba'|apply bd'|apply be'|refine bs' ?_ GE189.out|refine bs' ?_ GE190.out)|exact HB.out)⟩⟩
                 ·
                  rw[if_neg c35] at H;exact absurd H (by simp)
                ·
                 rw[if_neg c34] at H;exact absurd H (by simp)
               ·
                rw[if_neg c33] at H;exact absurd H (by simp)
              ·
               rw[if_neg c32] at H;have c32b0:decide (x39_3 < (x5_2.length:Int))=false:=decide_eq_false c32;clear c32;by_cases c48:x8_3 < 0
               ·
                rw[if_pos c48] at H;have c48b0:decide (x8_3 < 0)=true:=decide_eq_true c48;clear c48;obtain rfl:=Option.some.inj H;go_wp2;go_ret
                exact ⟨_,by first|rfl|(simp[errW_none,errW_some] <;> rfl)|(simp only[← hji3];first|rfl|(simp[errW_none,errW_some] <;> rfl))|(simp[*,errW_none,errW_some] <;> rfl),by (with_reducible repeat (first|apply ra'|apply rn'|apply rw'));exact HO_5.out,by repeat (first|(with_reducible first|exact HB.out|apply ba'|apply bd'|apply be'|refine bs' ?_ GE189.out|refine bs' ?_ GE190.out)|exact HB.out)⟩
               ·
                rw[if_neg c48] at H;have c48b0:decide (x8_3 < 0)=false:=decide_eq_false c48;clear c48;by_cases c49:0≤x8_3
                ·
                 rw[if_pos c49] at H;have c49b0:decide (0≤x8_3)=true:=decide_eq_true c49;clear c49;by_cases c50:x8_3 < (x6_2.length:Int)
                 ·
                  rw[if_pos c50] at H;have c50b0:decide (x8_3 < (x6_2.length:Int))=true:=decide_eq_true c50;clear c50;obtain ⟨y203,hy203⟩:∃ y_:List Bool,y_=(x6_2.set (x8_3:Int).toNat true):=⟨_,rfl⟩
                  replace H:((spec_seState.f k3 x8_3 (l0_0.length:Int)).bind fun bt204=>((spec_paTrips.f k3 l0_0 a0_1 bt204.1 bt204.2).bind fun t209=>(spec_seFar.l3 k3 x5_2 y203 x8_3 t209 (t209.length:Int) 0 l0_0 a0_1 bt204.1 bt204.2)))=some r:=by first|(rw[hy203];with_reducible exact H)|(have H2_:=(Option.bind_some _ _).symm.trans H;rw[hy203];with_reducible exact H2_)|(have H2_:=(Option.bind_some _ _).symm.trans H;with_reducible exact H2_)|with_reducible exact H|(rw[hy203];exact H)|exact H
                  have Ny203:=am' hy203;clear hy203;replace H:=Option.bind_eq_some_iff.mp H;obtain ⟨⟨t204,t207⟩,A520,H⟩:=H;replace H:((spec_paTrips.f k3 l0_0 a0_1 t204 t207).bind fun t209=>(spec_seFar.l3 k3 x5_2 y203 x8_3 t209 (t209.length:Int) 0 l0_0 a0_1 t204 t207))=some r:=H;have A52:=am' A520;clear A520;replace H:=Option.bind_eq_some_iff.mp H;obtain ⟨t209,A530,H⟩:=H;replace H:(spec_seFar.l3 k3 x5_2 y203 x8_3 t209 (t209.length:Int) 0 l0_0 a0_1 t204 t207)=some r:=H;have A53:=am' A530;clear A530;have H':=am' H;clear H;have p51:0≤(x8_3:Int):=of_decide_eq_true (by first|(with_reducible assumption)|assumption);have q51:(x8_3:Int) < ((x6_2.length:Int):Int):=of_decide_eq_true (by first|(with_reducible assumption)|assumption);obtain ⟨go51,co51,eo51,gb51,gl51,cl51,HG51⟩:=Kd.R_form HO_6.out (by omega)
                  (first|cases eo51|(injection eo51 with ea_ en_ ec_;(first|subst ea_|(injection ea_ with ea_;subst ea_));subst ec_;clear en_))
                  have GB51:=am' gb51;have GG51:=am' HG51;clear gb51 gl51 HG51;obtain ⟨hx51_0,hf51_0⟩:=Kd.R_celln false HO_6.out (x8_3:Int) p51 q51;replace p51:=eq_true p51;replace q51:=eq_true q51;have HP54:=Kd.R_putg HO_6.out (x8_3:Int) true;go_wp2_with (first|((with_reducible refine gate_store (t:=4) (p:=72) rfl ?_);refine store_event (t:=4) (p:=72) (v:=?vo_w55) (w1:=(wr.setCell ⟨go51,(x8_3:Int).toNat,none⟩ (.bool true))) ?hg ?ho ?hn ?hr ?_;(case ho=>rfl);(case hg=>rfl);(case hn=>rfl);(case hr=>first|(go_simp;done)|(go_simp;rfl));intro w55 hw;have hg:wr.grownBy w55 (some go51):=(by rw[hw];exact HP54.2);have hp_:Kd.R Kd.bool 4 w55 w.heap.size (fun _=>True) (.slice (some ⟨go51,0,none⟩) x6_2.length co51) y203:=(by rw[hw,Ny203.out];exact HP54.1);clear HP54;have n0_:=am' (Kd.R_over' (v:=(.slice (some ⟨go51,0,none⟩) x6_2.length co51)) (by (with_reducible repeat (first|apply ra'|apply rn'|apply rw'));exact HO_5.out) (Kd.R_typed HO_6.out) (by decide) hg);have n1_:=am' (hp_);have n2_:=am' (Kd.R_over' (v:=(.slice (some ⟨go51,0,none⟩) x6_2.length co51)) (by (with_reducible repeat (first|apply ra'|apply rn'|apply rw'));exact HO_37.out) (Kd.R_typed HO_6.out) (by decide) hg);have n3_:=am' (blk_grown (g:=gb189) (o := .cells #[.slice A0_0 l0_0.length c0_0, .int .i64 a0_1] 28 (0,0)) (by (with_reducible repeat (first|refine kn' ?_ _|refine kd' ?_|refine ka' ?_ _));exact BK189.out) hg (Kd.R_ne HO_6.out BK189.out (by decide)));have n4_:=am' (blk_grown (g:=gb190) (o := .cells #[.slice A1_0 l1_0.length c1_0, .bool a1_1] 54 (0,0)) (by (with_reducible repeat (first|refine kn' ?_ _|refine kd' ?_|refine ka' ?_ _));exact BK190.out) hg (Kd.R_ne HO_6.out BK190.out (by decide)));have n5_:=am' ((by rw[hw];exact bs' (HB.out) GB51.out:Below w.heap.size w w55));clear HO_5;clear HO_6;clear HO_37;clear BK189;clear BK190;clear HB;have HO_5:=n0_;have HO_6:=n1_;have HO_37:=n2_;have BK189:=n3_;have BK190:=n4_;have HB:=n5_;clear n0_ n1_ n2_ n3_ n4_ n5_;clear hg hw hp_;have hnb56:=NB189_190.out;have hnc56:=NB190_189.out;have hcz57_0:w55.cell? ⟨gb189,0,none⟩=some (.slice A0_0 l0_0.length c0_0):=(blk_cell BK189.out 0).trans rfl;have hcz57_1:w55.cell? ⟨gb189,1,none⟩=some (.int .i64 a0_1):=(blk_cell BK189.out 1).trans rfl;have hfz57_0:=blk_frozen BK189.out 0;have hfz57_1:=blk_frozen BK189.out 1)|((with_reducible refine gate_callee (f:=28) rfl ?_);refine goesL_ (some 77) rfl rfl Try.func28 (by kernel_rfl) rfl #[.int .i64 x8_3, .int .i64 (l0_0.length:Int)] rfl (by (try simp only[List.map_toArray,List.map_cons,List.map_nil]);first|done|rfl|(simp only[List.length_drop,List.length_take];rfl)) ?_;(with_reducible refine (spec_seState.calls k3 x8_3 (l0_0.length:Int) t204 t207 _ A52.out).mono ?_);rintro e w58 ⟨v205,rfl,ho0,hb⟩;refine ⟨_,rfl,?_⟩;have n0_:=am' (Kd.R_below (by (with_reducible repeat (first|apply ra'|apply rn'|apply rw'));exact HO_5.out) hb);have n1_:=am' (Kd.R_elder' (by (with_reducible repeat (first|apply ra'|apply rn'|apply rw'));exact HO_6.out) (Kd.R_base ho0) hb);have n2_:=am' (Kd.R_below (by (with_reducible repeat (first|apply ra'|apply rn'|apply rw'));exact HO_37.out) hb);have n3_:=am' (Kd.R_lower (Kd.R_new' ho0 (Kd.R_lt (by (with_reducible repeat (first|apply ra'|apply rn'|apply rw'));exact HO_6.out))) (below_size (by repeat (first|(with_reducible first|exact HB.out|apply ba'|apply bd'|apply be'|refine bs' ?_ GE189.out|refine bs' ?_ GE190.out)|exact HB.out))));have n4_:=am' (blk_below (g:=gb189) (o := .cells #[.slice A0_0 l0_0.length c0_0, .int .i64 a0_1] 28 (0,0)) (by (with_reducible repeat (first|refine kn' ?_ _|refine kd' ?_|refine ka' ?_ _));exact BK189.out) hb);have n5_:=am' (blk_below (g:=gb190) (o := .cells #[.slice A1_0 l1_0.length c1_0, .bool a1_1] 54 (0,0)) (by (with_reducible repeat (first|refine kn' ?_ _|refine kd' ?_|refine ka' ?_ _));exact BK190.out) hb);have n6_:=am' (below_step (by repeat (first|(with_reducible first|exact HB.out|apply ba'|apply bd'|apply be'|refine bs' ?_ GE189.out|refine bs' ?_ GE190.out)|exact HB.out)) hb);clear HO_5;clear HO_6;clear HO_37;clear BK189;clear BK190;clear HB;have HO_5:=n0_;have HO_6:=n1_;have HO_37:=n2_;have HO206:=n3_;have BK189:=n4_;have BK190:=n5_;have HB:=n6_;clear n0_ n1_ n2_ n3_ n4_ n5_ n6_;(try clear hb);(try clear hb2);(try clear hk);(try clear hi);(try clear ho0))|((with_reducible refine gate_dst (N:=11) rfl ?_);refine box_event ?hg (N:=11) ?hd (cs:=#[.slice none 0 0, .bool false]) (t:=54) ?hr ?_;(case hd=>rfl);(case hg=>rfl);(case hr=>first|(go_simp;done)|(go_simp;rfl));intro gb208 hg w59 hbox hb;have n0_:=am' (Kd.R_below (by (with_reducible repeat (first|apply ra'|apply rn'|apply rw'));exact HO_5.out) hb);have n1_:=am' (Kd.R_below (by (with_reducible repeat (first|apply ra'|apply rn'|apply rw'));exact HO_6.out) hb);have n2_:=am' (Kd.R_below (by (with_reducible repeat (first|apply ra'|apply rn'|apply rw'));exact HO_37.out) hb);have n3_:=am' (Kd.R_below (by (with_reducible repeat (first|apply ra'|apply rn'|apply rw'));exact HO206.out) hb);have n4_:=am' (blk_below (g:=gb189) (o := .cells #[.slice A0_0 l0_0.length c0_0, .int .i64 a0_1] 28 (0,0)) (by (with_reducible repeat (first|refine kn' ?_ _|refine kd' ?_|refine ka' ?_ _));exact BK189.out) hb);have n5_:=am' (blk_below (g:=gb190) (o := .cells #[.slice A1_0 l1_0.length c1_0, .bool a1_1] 54 (0,0)) (by (with_reducible repeat (first|refine kn' ?_ _|refine kd' ?_|refine ka' ?_ _));exact BK190.out) hb);have n6_:=am' (below_step (by repeat (first|(with_reducible first|exact HB.out|apply ba'|apply bd'|apply be'|refine bs' ?_ GE189.out|refine bs' ?_ GE190.out)|exact HB.out)) hb);have n7_:=am' (hbox);have n8_:=am' ((by rw[hg];exact (below_size (by repeat (first|(with_reducible first|exact HB.out|apply ba'|apply bd'|apply be'|refine bs' ?_ GE189.out|refine bs' ?_ GE190.out)|exact HB.out))):w.heap.size≤gb208));have n9_:=am' ((by rw[hg];exact (below_size (by repeat (first|(with_reducible first|exact HB.out|apply ba'|apply bd'|apply be'|refine bs' ?_ GE189.out|refine bs' ?_ GE190.out)|exact HB.out))):w.heap.size≤gb208));have n10_:=am' ((by rw[hg];exact Nat.ne_of_lt (blk_lt (g:=gb189) (o := .cells #[.slice A0_0 l0_0.length c0_0, .int .i64 a0_1] 28 (0,0)) (by (with_reducible repeat (first|refine kn' ?_ _|refine kd' ?_|refine ka' ?_ _));exact BK189.out)):gb189≠gb208));have n11_:=am' ((by rw[hg];exact Nat.ne_of_gt (blk_lt (g:=gb189) (o := .cells #[.slice A0_0 l0_0.length c0_0, .int .i64 a0_1] 28 (0,0)) (by (with_reducible repeat (first|refine kn' ?_ _|refine kd' ?_|refine ka' ?_ _));exact BK189.out)):gb208≠gb189));have n12_:=am' ((by rw[hg];exact Nat.ne_of_lt (blk_lt (g:=gb190) (o := .cells #[.slice A1_0 l1_0.length c1_0, .bool a1_1] 54 (0,0)) (by (with_reducible repeat (first|refine kn' ?_ _|refine kd' ?_|refine ka' ?_ _));exact BK190.out)):gb190≠gb208));have n13_:=am' ((by rw[hg];exact Nat.ne_of_gt (blk_lt (g:=gb190) (o := .cells #[.slice A1_0 l1_0.length c1_0, .bool a1_1] 54 (0,0)) (by (with_reducible repeat (first|refine kn' ?_ _|refine kd' ?_|refine ka' ?_ _));exact BK190.out)):gb208≠gb190));clear HO_5;clear HO_6;clear HO_37;clear HO206;clear BK189;clear BK190;clear HB;have HO_5:=n0_;have HO_6:=n1_;have HO_37:=n2_;have HO206:=n3_;have BK189:=n4_;have BK190:=n5_;have HB:=n6_;have BK208:=n7_;have GW208:=n8_;have GE208:=n9_;have NB189_208:=n10_;have NB208_189:=n11_;have NB190_208:=n12_;have NB208_190:=n13_;clear n0_ n1_ n2_ n3_ n4_ n5_ n6_ n7_ n8_ n9_ n10_ n11_ n12_ n13_;clear hb hbox hg;obtain ⟨Ao60,co60,eo60⟩:=Kd.R_slice HO206.out;subst eo60;have hnb61:=NB208_189.out;have hnc61:=NB189_208.out;have hnb62:=NB208_190.out;have hnc62:=NB190_208.out;have hcz63_0:w59.cell? ⟨gb208,0,none⟩=some (.slice none 0 0):=(blk_cell BK208.out 0).trans rfl;have hcz63_1:w59.cell? ⟨gb208,1,none⟩=some (.bool false):=(blk_cell BK208.out 1).trans rfl;have hfz63_0:=blk_frozen BK208.out 0;have hfz63_1:=blk_frozen BK208.out 1;have hcz64_0:w59.cell? ⟨gb189,0,none⟩=some (.slice A0_0 l0_0.length c0_0):=(blk_cell BK189.out 0).trans rfl;have hcz64_1:w59.cell? ⟨gb189,1,none⟩=some (.int .i64 a0_1):=(blk_cell BK189.out 1).trans rfl;have hfz64_0:=blk_frozen BK189.out 0;have hfz64_1:=blk_frozen BK189.out 1)|((with_reducible refine gate_callee (f:=50) rfl ?_);refine goesL_ (some 80) rfl rfl Try.func50 (by kernel_rfl) rfl #[.agg #[.slice A0_0 l0_0.length c0_0, .int .i64 a0_1], .agg #[.slice Ao60 t204.length co60, .bool t207]] rfl (by (try simp only[List.map_toArray,List.map_cons,List.map_nil]);first|done|rfl|(simp only[List.length_drop,List.length_take];rfl)) ?_;(with_reducible refine (spec_paTrips.calls k3 _ _ l0_0 a0_1 _ _ t204 t207 t209 _ ?side1 ?side2 ?side3 ?side4 A53.out).mono ?_);(case side1=>exact Kd.C_below HR0_0.out (by repeat (first|(with_reducible first|exact HB.out|apply ba'|apply bd'|apply be'|refine bs' ?_ GE189.out|refine bs' ?_ GE190.out|refine bs' ?_ GE208.out)|exact HB.out)));(case side2=>exact HC0_0.out);(case side3=>refine (Kd.R_reads' (e:=4) (base:=w.heap.size) (ok:=fun k_=>(True∧some k_≠(.slice (some ⟨go51,0,none⟩) x6_2.length co51:Value).ownBlock)) (n:=t204.length) (c:=co60) ?_).2.2;exact (by (with_reducible repeat (first|apply ra'|apply rn'|apply rw'));exact (Kd.R_mono (Kd.R_far (p:=⟨gb208,1,none⟩) (Kd.R_far (p:=⟨gb208,0,none⟩) (Kd.R_types HO206.out BK208.out (by decide)) (fun _ hk=>hk.2) (.slice Ao60 t204.length co60)) (fun _ hk=>hk.2) (.bool t207)) (fun _ h_=>h_.1))));(case side4=>exact (Kd.R_reads' HO206.out).2.1);rintro e w65 ⟨v210,rfl,ho0,hb⟩;refine ⟨_,rfl,?_⟩;have n0_:=am' (Kd.R_below (by (with_reducible repeat (first|apply ra'|apply rn'|apply rw'));exact (Kd.R_mono (Kd.R_far (p:=⟨gb208,1,none⟩) (Kd.R_far (p:=⟨gb208,0,none⟩) (Kd.R_types HO_5.out BK208.out (by decide)) (fun _ hk=>hk.2) (.slice Ao60 t204.length co60)) (fun _ hk=>hk.2) (.bool t207)) (fun _ h_=>h_.1))) hb);have n1_:=am' (Kd.R_below (by (with_reducible repeat (first|apply ra'|apply rn'|apply rw'));exact (Kd.R_mono (Kd.R_far (p:=⟨gb208,1,none⟩) (Kd.R_far (p:=⟨gb208,0,none⟩) (Kd.R_types HO_6.out BK208.out (by decide)) (fun _ hk=>hk.2) (.slice Ao60 t204.length co60)) (fun _ hk=>hk.2) (.bool t207)) (fun _ h_=>h_.1))) hb);have n2_:=am' (Kd.R_below (by (with_reducible repeat (first|apply ra'|apply rn'|apply rw'));exact (Kd.R_mono (Kd.R_far (p:=⟨gb208,1,none⟩) (Kd.R_far (p:=⟨gb208,0,none⟩) (Kd.R_types HO_37.out BK208.out (by decide)) (fun _ hk=>hk.2) (.slice Ao60 t204.length co60)) (fun _ hk=>hk.2) (.bool t207)) (fun _ h_=>h_.1))) hb);have n3_:=am' (Kd.R_below (by (with_reducible repeat (first|apply ra'|apply rn'|apply rw'));exact (Kd.R_mono (Kd.R_far (p:=⟨gb208,1,none⟩) (Kd.R_far (p:=⟨gb208,0,none⟩) (Kd.R_types HO206.out BK208.out (by decide)) (fun _ hk=>hk.2) (.slice Ao60 t204.length co60)) (fun _ hk=>hk.2) (.bool t207)) (fun _ h_=>h_.1))) hb);have n4_:=am' (Kd.N_lower (Kd.N_mono (ok':=fun k_=>some k_≠(.slice (some ⟨go26,0,none⟩) x5_2.length co14:Value).ownBlock∧some k_≠(.slice (some ⟨go51,0,none⟩) x6_2.length co51:Value).ownBlock∧some k_≠(.slice (some ⟨go26,0,none⟩) x5_2.length co14:Value).ownBlock∧some k_≠(.slice Ao60 t204.length co60:Value).ownBlock∧k_≠gb189∧k_≠gb190∧k_≠gb208) ho0 (fun k_ hk_=>⟨(Kd.fresh' (Kd.R_lt (by (with_reducible repeat (first|apply ra'|apply rn'|apply rw'));exact (Kd.R_mono (Kd.R_far (p:=⟨gb208,1,none⟩) (Kd.R_far (p:=⟨gb208,0,none⟩) (Kd.R_types HO_5.out BK208.out (by decide)) (fun _ hk=>hk.2) (.slice Ao60 t204.length co60)) (fun _ hk=>hk.2) (.bool t207)) (fun _ h_=>h_.1)))) k_ hk_),(Kd.fresh' (Kd.R_lt (by (with_reducible repeat (first|apply ra'|apply rn'|apply rw'));exact (Kd.R_mono (Kd.R_far (p:=⟨gb208,1,none⟩) (Kd.R_far (p:=⟨gb208,0,none⟩) (Kd.R_types HO_6.out BK208.out (by decide)) (fun _ hk=>hk.2) (.slice Ao60 t204.length co60)) (fun _ hk=>hk.2) (.bool t207)) (fun _ h_=>h_.1)))) k_ hk_),(Kd.fresh' (Kd.R_lt (by (with_reducible repeat (first|apply ra'|apply rn'|apply rw'));exact (Kd.R_mono (Kd.R_far (p:=⟨gb208,1,none⟩) (Kd.R_far (p:=⟨gb208,0,none⟩) (Kd.R_types HO_37.out BK208.out (by decide)) (fun _ hk=>hk.2) (.slice Ao60 t204.length co60)) (fun _ hk=>hk.2) (.bool t207)) (fun _ h_=>h_.1)))) k_ hk_),(Kd.fresh' (Kd.R_lt (by (with_reducible repeat (first|apply ra'|apply rn'|apply rw'));exact (Kd.R_mono (Kd.R_far (p:=⟨gb208,1,none⟩) (Kd.R_far (p:=⟨gb208,0,none⟩) (Kd.R_types HO206.out BK208.out (by decide)) (fun _ hk=>hk.2) (.slice Ao60 t204.length co60)) (fun _ hk=>hk.2) (.bool t207)) (fun _ h_=>h_.1)))) k_ hk_),(Kd.freshB (g:=gb189) (o := .cells #[.slice A0_0 l0_0.length c0_0, .int .i64 a0_1] 28 (0,0)) (by (with_reducible repeat (first|refine kn' ?_ _|refine kd' ?_|refine ka' ?_ _));refine blk_far ?_ NB189_208.out _;(with_reducible repeat (first|refine kn' ?_ _|refine kd' ?_|refine ka' ?_ _));refine blk_far ?_ NB189_208.out _;(with_reducible repeat (first|refine kn' ?_ _|refine kd' ?_|refine ka' ?_ _));exact BK189.out) k_ hk_),(Kd.freshB (g:=gb190) (o := .cells #[.slice A1_0 l1_0.length c1_0, .bool a1_1] 54 (0,0)) (by (with_reducible repeat (first|refine kn' ?_ _|refine kd' ?_|refine ka' ?_ _));refine blk_far ?_ NB190_208.out _;(with_reducible repeat (first|refine kn' ?_ _|refine kd' ?_|refine ka' ?_ _));refine blk_far ?_ NB190_208.out _;(with_reducible repeat (first|refine kn' ?_ _|refine kd' ?_|refine ka' ?_ _));exact BK190.out) k_ hk_),(Kd.freshB (g:=gb208) (o := .cells #[.slice Ao60 t204.length co60, .bool t207] 54 (0,0)) (by (with_reducible repeat (first|refine kn' ?_ _|refine kd' ?_|refine ka' ?_ _));refine blk_put (cs:=#[.slice Ao60 t204.length co60, .bool false]) ?_ 1 _ rfl;(with_reducible repeat (first|refine kn' ?_ _|refine kd' ?_|refine ka' ?_ _));refine blk_put (cs:=#[.slice none 0 0, .bool false]) ?_ 0 _ rfl;(with_reducible repeat (first|refine kn' ?_ _|refine kd' ?_|refine ka' ?_ _));exact BK208.out) k_ hk_)⟩)) (below_size (by repeat (first|(with_reducible first|exact HB.out|apply ba'|apply bd'|apply be'|refine bs' ?_ GE189.out|refine bs' ?_ GE190.out|refine bs' ?_ GE208.out)|exact HB.out))));have n5_:=am' (blk_below (g:=gb189) (o := .cells #[.slice A0_0 l0_0.length c0_0, .int .i64 a0_1] 28 (0,0)) (by (with_reducible repeat (first|refine kn' ?_ _|refine kd' ?_|refine ka' ?_ _));refine blk_far ?_ NB189_208.out _;(with_reducible repeat (first|refine kn' ?_ _|refine kd' ?_|refine ka' ?_ _));refine blk_far ?_ NB189_208.out _;(with_reducible repeat (first|refine kn' ?_ _|refine kd' ?_|refine ka' ?_ _));exact BK189.out) hb);have n6_:=am' (blk_below (g:=gb190) (o := .cells #[.slice A1_0 l1_0.length c1_0, .bool a1_1] 54 (0,0)) (by (with_reducible repeat (first|refine kn' ?_ _|refine kd' ?_|refine ka' ?_ _));refine blk_far ?_ NB190_208.out _;(with_reducible repeat (first|refine kn' ?_ _|refine kd' ?_|refine ka' ?_ _));refine blk_far ?_ NB190_208.out _;(with_reducible repeat (first|refine kn' ?_ _|refine kd' ?_|refine ka' ?_ _));exact BK190.out) hb);have n7_:=am' (blk_below (g:=gb208) (o := .cells #[.slice Ao60 t204.length co60, .bool t207] 54 (0,0)) (by (with_reducible repeat (first|refine kn' ?_ _|refine kd' ?_|refine ka' ?_ _));refine blk_put (cs:=#[.slice Ao60 t204.length co60, .bool false]) ?_ 1 _ rfl;(with_reducible repeat (first|refine kn' ?_ _|refine kd' ?_|refine ka' ?_ _));refine blk_put (cs:=#[.slice none 0 0, .bool false]) ?_ 0 _ rfl;(with_reducible repeat (first|refine kn' ?_ _|refine kd' ?_|refine ka' ?_ _));exact BK208.out) hb);have n8_:=am' (below_step (by repeat (first|(with_reducible first|exact HB.out|apply ba'|apply bd'|apply be'|refine bs' ?_ GE189.out|refine bs' ?_ GE190.out|refine bs' ?_ GE208.out)|exact HB.out)) hb);clear HO_5;clear HO_6;clear HO_37;clear HO206;clear BK189;clear BK190;clear BK208;clear HB;have HO_5:=n0_;have HO_6:=n1_;have HO_37:=n2_;have HO206:=n3_;have HO211:=n4_;have BK189:=n5_;have BK190:=n6_;have BK208:=n7_;have HB:=n8_;clear n0_ n1_ n2_ n3_ n4_ n5_ n6_ n7_ n8_;(try clear hb);(try clear hb2);(try clear hk);(try clear hi);(try clear ho0);obtain ⟨Ao66,co66,eo66⟩:=Kd.N_slice HO211.out;subst eo66))
                  go_loopg [82] k3 (fun kq v82 w'=>∃ (x5_4:List Int) (x82_4:Int),v82 = .int .i64 x82_4∧Aside0 (spec_seFar.l3 kq x5_4 y203 x8_3 t209 (t209.length:Int) x82_4 l0_0 a0_1 t204 t207=some r)∧Aside0 (kq≤k3)∧Aside0 (Kd.R (Kd.int .i64) 3 w' w.heap.size (fun _=>True) (.slice (some ⟨go26,0,none⟩) x5_2.length co14) x5_4)∧Aside0 (Kd.R Kd.bool 4 w' w.heap.size (fun k_=>some k_≠((.slice Ao60 t204.length co60):Value).ownBlock) (.slice (some ⟨go51,0,none⟩) x6_2.length co51) y203)∧Aside0 (Kd.N (Kd.slice 3 (Kd.int .i64)) 22 w' w.heap.size (fun k_=>some k_≠((.slice (some ⟨go26,0,none⟩) x5_2.length co14):Value).ownBlock∧some k_≠((.slice (some ⟨go51,0,none⟩) x6_2.length co51):Value).ownBlock∧some k_≠((.slice Ao60 t204.length co60):Value).ownBlock∧k_≠gb189∧k_≠gb190∧k_≠gb208) (.slice Ao66 t209.length co66) t209)∧Aside0 (Kd.R Kd.bool 4 w' w.heap.size (fun k_=>some k_≠((.slice (some ⟨go51,0,none⟩) x6_2.length co51):Value).ownBlock) (.slice Ao60 t204.length co60) t204)∧Aside0 (w'.heap[gb189]? = some (.cells #[(.slice A0_0 l0_0.length c0_0), .int .i64 a0_1] 28 (0,0)))∧Aside0 (w'.heap[gb190]? = some (.cells #[(.slice A1_0 l1_0.length c1_0), .bool a1_1] 54 (0,0)))∧Aside0 (w'.heap[gb208]? = some (.cells #[(.slice Ao60 t204.length co60), .bool t207] 54 (0,0)))∧Aside0 (Below w.heap.size w w'))
                  case atStart=>exact ⟨(x5_2),(0),(by first|rfl|(simp;done)|(simp[*];done)),H',⟨Nat.le_refl _⟩,⟨by (try simp only[hl5_1]);(try simp only[hl5_2]);(with_reducible repeat (first|apply ra'|apply rn'|apply rw'));exact HO_5.out⟩,⟨by (try simp only[hl5_1]);(try simp only[hl5_2]);(with_reducible repeat (first|apply ra'|apply rn'|apply rw'));exact Kd.R_mono HO_6.out (fun _ hk=>hk.2)⟩,⟨by (try simp only[hl5_1]);(try simp only[hl5_2]);(with_reducible repeat (first|apply Kd.N_alloc|apply Kd.N_drewN|apply Kd.N_drew));exact Kd.N_mono HO211.out (fun _ hk=>⟨hk.1,⟨hk.2.1,⟨hk.2.2.2.1,⟨hk.2.2.2.2.1,⟨hk.2.2.2.2.2.1,hk.2.2.2.2.2.2⟩⟩⟩⟩⟩)⟩,⟨by (try simp only[hl5_1]);(try simp only[hl5_2]);(with_reducible repeat (first|apply ra'|apply rn'|apply rw'));exact Kd.R_mono HO206.out (fun _ hk=>hk.2)⟩,⟨by (try simp only[hl5_1]);(try simp only[hl5_2]);(with_reducible repeat (first|refine kn' ?_ _|refine kd' ?_|refine ka' ?_ _));exact BK189.out⟩,⟨by (try simp only[hl5_1]);(try simp only[hl5_2]);(with_reducible repeat (first|refine kn' ?_ _|refine kd' ?_|refine ka' ?_ _));exact BK190.out⟩,⟨by (try simp only[hl5_1]);(try simp only[hl5_2]);(with_reducible repeat (first|refine kn' ?_ _|refine kd' ?_|refine ka' ?_ _));exact BK208.out⟩,⟨by repeat (first|(with_reducible first|exact HB.out|apply ba'|apply bd'|apply be'|refine bs' ?_ GE189.out|refine bs' ?_ GE190.out|refine bs' ?_ GE208.out)|exact HB.out)⟩⟩
                  case round =>
                   clear H';try clear c1
                   try clear c2
                   try clear p2
                   try clear q2
                   try clear hx2
                   try clear hf2
                   try clear c3
                   try clear q3
                   try clear c4
                   try clear c4b0
                   try clear c4b1
                   try clear c5
                   try clear c5b0
                   try clear c5b1
                   try clear p5
                   try clear q5
                   try clear hx5
                   try clear hf5
                   try clear c6
                   try clear c6b0
                   try clear c6b1
                   try clear p6
                   try clear c7
                   try clear c7b0
                   try clear c7b1
                   try clear c10
                   try clear c17
                   try clear c17b0
                   try clear c18
                   try clear c18b0
                   try clear c19
                   try clear c19b0
                   try clear p20
                   try clear q20
                   try clear hx20
                   try clear hf20
                   try clear c24
                   try clear c24b0
                   try clear c25
                   try clear c25b0
                   try clear p26
                   try clear q26
                   try clear hx26
                   try clear hf26
                   try clear c27
                   try clear c28
                   try clear c32
                   try clear c32b0
                   try clear c33
                   try clear c33b0
                   try clear c34
                   try clear c34b0
                   try clear c35
                   try clear c35b0
                   try clear q36
                   try clear c37
                   try clear c39
                   try clear c39b0
                   try clear c40
                   try clear c40b0
                   try clear c42
                   try clear c42b0
                   try clear c43
                   try clear c43b0
                   try clear c44
                   try clear c44b0
                   try clear c48
                   try clear c48b0
                   try clear c49
                   try clear c49b0
                   try clear c50
                   try clear c50b0
                   try clear p51
                   try clear q51
                   try clear hx51
                   try clear hf51
                   try clear c56
                   try clear c61
                   try clear c62
                   try clear p64
                   try clear hcz11_0
                   try clear hcz11_1
                   try clear hcz28_0
                   try clear hcz28_1
                   try clear hcz57_0
                   try clear hcz57_1
                   try clear hcz63_0
                   try clear hcz63_1
                   try clear hcz64_0
                   try clear hcz64_1
                   try clear hfz11_0
                   try clear hfz11_1
                   try clear hfz28_0
                   try clear hfz28_1
                   try clear hfz57_0
                   try clear hfz57_1
                   try clear hfz63_0
                   try clear hfz63_1
                   try clear hfz64_0
                   try clear hfz64_1
                   try clear hx200_0
                   try clear hx201_0
                   try clear hx202_0
                   try clear hx20_0
                   try clear hx26_0
                   try clear hx51_0
                   try clear p2
                   try clear p20
                   try clear p200
                   try clear p201
                   try clear p202
                   try clear p26
                   try clear p51
                   try clear p6
                   try clear q2
                   try clear q20
                   try clear q200
                   try clear q201
                   try clear q202
                   try clear q26
                   try clear q51
                   obtain ⟨x5_4,x82_4,rfl,HA,HK4,HO_5,HO_6,HO_80,HO_209000,BK189,BK190,BK208,HB⟩:=hrel;have hl5_4:=(Kd.R_reads' HO_5.out).1;rw[hl5_4] at HO_5
                   (try simp only[hl5_4])
                   (try simp only[hl5_4] at BK189)
                   (try simp only[hl5_4] at BK190)
                   (try simp only[hl5_4] at BK208)
                   (try simp only[hl5_4] at HO_6)
                   (try simp only[hl5_4] at HO_80)
                   (try simp only[hl5_4] at HO_209000)
                   have hl6_4:=(Kd.R_reads' HO_6.out).1;rw[hl6_4] at HO_6
                   (try simp only[hl6_4])
                   (try simp only[hl6_4] at BK189)
                   (try simp only[hl6_4] at BK190)
                   (try simp only[hl6_4] at BK208)
                   (try simp only[hl6_4] at HO_5)
                   (try simp only[hl6_4] at HO_80)
                   (try simp only[hl6_4] at HO_209000)
                   cases gk with
                   | zero=>exact absurd HA.out (by simp[spec_seFar.l3])
                   | succ k4 =>
                    have H:=HA.out;clear HA;simp only[spec_seFar.l3] at H;by_cases c67:x82_4 < (t209.length:Int)
                    ·
                     rw[if_pos c67] at H;have c67b0:decide (x82_4 < (t209.length:Int))=true:=decide_eq_true c67;clear c67;by_cases c68:0≤x82_4
                     ·
                      rw[if_pos c68] at H;have c68b0:decide (0≤x82_4)=true:=decide_eq_true c68;clear c68;by_cases c69:x82_4 < (t209.length:Int)
                      ·
                       rw[if_pos c69] at H;have c69b0:decide (x82_4 < (t209.length:Int))=true:=decide_eq_true c69;clear c69;replace H:=Option.bind_eq_some_iff.mp H;obtain ⟨⟨t213,t216⟩,A700,H⟩:=H;replace H:((spec_seIndex.f k4 t213 t216).bind fun t217=>(if 0≤x8_3 then (if x8_3 < (x5_4.length:Int) then ((spec_paTime.f k4 l0_0 a0_1 (rd_L2 t209 x82_4)).bind fun t219=>(if 0≤t217 then (if t217 < (x5_4.length:Int) then (if (rd x5_4 t217) < 0 then (spec_seFar.l3 k4 (x5_4.set (t217:Int).toNat (wrap64 ((rd x5_4 x8_3)+t219))) y203 x8_3 t209 (t209.length:Int) (wrap64 (x82_4+1)) l0_0 a0_1 t204 t207) else (if (wrap64 ((rd x5_4 x8_3)+t219)) < (rd x5_4 t217) then (spec_seFar.l3 k4 (x5_4.set (t217:Int).toNat (wrap64 ((rd x5_4 x8_3)+t219))) y203 x8_3 t209 (t209.length:Int) (wrap64 (x82_4+1)) l0_0 a0_1 t204 t207) else (spec_seFar.l3 k4 x5_4 y203 x8_3 t209 (t209.length:Int) (wrap64 (x82_4+1)) l0_0 a0_1 t204 t207))) else (none)) else (none))) else (none)) else (none)))=some r:=H;have A70:=am' A700;clear A700;replace H:=Option.bind_eq_some_iff.mp H;obtain ⟨t217,A710,H⟩:=H;replace H:(if 0≤x8_3 then (if x8_3 < (x5_4.length:Int) then ((spec_paTime.f k4 l0_0 a0_1 (rd_L2 t209 x82_4)).bind fun t219=>(if 0≤t217 then (if t217 < (x5_4.length:Int) then (if (rd x5_4 t217) < 0 then (spec_seFar.l3 k4 (x5_4.set (t217:Int).toNat (wrap64 ((rd x5_4 x8_3)+t219))) y203 x8_3 t209 (t209.length:Int) (wrap64 (x82_4+1)) l0_0 a0_1 t204 t207) else (if (wrap64 ((rd x5_4 x8_3)+t219)) < (rd x5_4 t217) then (spec_seFar.l3 k4 (x5_4.set (t217:Int).toNat (wrap64 ((rd x5_4 x8_3)+t219))) y203 x8_3 t209 (t209.length:Int) (wrap64 (x82_4+1)) l0_0 a0_1 t204 t207) else (spec_seFar.l3 k4 x5_4 y203 x8_3 t209 (t209.length:Int) (wrap64 (x82_4+1)) l0_0 a0_1 t204 t207))) else (none)) else (none))) else (none)) else (none))=some r:=H;have A71:=am' A710;clear A710;by_cases c72:0≤x8_3
                       ·
                        rw[if_pos c72] at H;have c72b0:decide (0≤x8_3)=true:=decide_eq_true c72;clear c72;by_cases c73:x8_3 < (x5_4.length:Int)
                        ·
                         rw[if_pos c73] at H;have c73b0:decide (x8_3 < (x5_4.length:Int))=true:=decide_eq_true c73;clear c73;replace H:=Option.bind_eq_some_iff.mp H;obtain ⟨t219,A740,H⟩:=H;replace H:(if 0≤t217 then (if t217 < (x5_4.length:Int) then (if (rd x5_4 t217) < 0 then (spec_seFar.l3 k4 (x5_4.set (t217:Int).toNat (wrap64 ((rd x5_4 x8_3)+t219))) y203 x8_3 t209 (t209.length:Int) (wrap64 (x82_4+1)) l0_0 a0_1 t204 t207) else (if (wrap64 ((rd x5_4 x8_3)+t219)) < (rd x5_4 t217) then (spec_seFar.l3 k4 (x5_4.set (t217:Int).toNat (wrap64 ((rd x5_4 x8_3)+t219))) y203 x8_3 t209 (t209.length:Int) (wrap64 (x82_4+1)) l0_0 a0_1 t204 t207) else (spec_seFar.l3 k4 x5_4 y203 x8_3 t209 (t209.length:Int) (wrap64 (x82_4+1)) l0_0 a0_1 t204 t207))) else (none)) else (none))=some r:=H;have A74:=am' A740;clear A740;by_cases c75:0≤t217
                         ·
                          rw[if_pos c75] at H;have c75b0:decide (0≤t217)=true:=decide_eq_true c75;clear c75;by_cases c76:t217 < (x5_4.length:Int)
                          ·
                           rw[if_pos c76] at H;have c76b0:decide (t217 < (x5_4.length:Int))=true:=decide_eq_true c76;clear c76;by_cases c77:(rd x5_4 t217) < 0
                           ·
                            rw[if_pos c77] at H;have c77b0:decide ((rd x5_4 t217) < 0)=true:=decide_eq_true c77;clear c77;obtain ⟨y221,hy221⟩:∃ y_:List Int,y_=(x5_4.set (t217:Int).toNat (wrap64 ((rd x5_4 x8_3)+t219))):=⟨_,rfl⟩
                            replace H:(spec_seFar.l3 k4 y221 y203 x8_3 t209 (t209.length:Int) (wrap64 (x82_4+1)) l0_0 a0_1 t204 t207)=some r:=by first|(rw[hy221];with_reducible exact H)|(have H2_:=(Option.bind_some _ _).symm.trans H;rw[hy221];with_reducible exact H2_)|(have H2_:=(Option.bind_some _ _).symm.trans H;with_reducible exact H2_)|with_reducible exact H|(rw[hy221];exact H)|exact H
                            have Ny221:=am' hy221;clear hy221;have H':=am' H;clear H;have p212:0≤(x82_4:Int):=of_decide_eq_true (by first|(with_reducible assumption)|assumption);have q212:x82_4 < (t209.length:Int):=of_decide_eq_true (by first|(with_reducible assumption)|assumption);obtain ⟨ad212,A212_0,c212_0,e212,hx212_0,hl212_0,hi212_0⟩:=at_L2 (Kd.N_reads' HO_80.out).2.2 x82_4 p212 q212;cases e212;obtain ⟨ce212,hce212,hMe212,hcc212⟩:=Kd.N_get HO_80.out [] x82_4 p212 (by first|exact q212|exact of_decide_eq_true (by first|(with_reducible assumption)|assumption)|(have e_:=(Kd.N_reads' HO_80.out).1;omega));obtain ⟨ua212_0,uc212_0,rfl,ul212_0,ge212_0⟩:=Kd.FK_slice_open hMe212;have hv212_0:=hcc212 0 _ rfl;rw[Nat.add_zero,show ((Kd.slice 3 (Kd.int .i64))).sz=1 from rfl,Nat.mul_one] at hv212_0;replace hv212_0:=Option.some.inj (hv212_0.symm.trans hx212_0);injection hv212_0 with hva_ hvn_ hvc_
                            rw[hva_] at ge212_0;rw[hvc_] at ul212_0;have HL212_0:=am' (show Kd.V (Kd.int .i64) 3 _ w.heap.size _ _ (rd_L2 t209 x82_4) from Kd.V_mk ul212_0 ge212_0);clear hva_ hvn_ hvc_ ge212_0 ul212_0;clear hcc212 hce212;have HR212_0:=am' hi212_0;have HC212_0:=am' hl212_0;clear hi212_0 hl212_0;replace p212:=eq_true p212;replace q212:=eq_true q212;have hnb79:=NB208_189.out;have hnc79:=NB189_208.out;have hnb80:=NB208_190.out;have hnc80:=NB190_208.out;have hcz81_0:wr.cell? ⟨gb208,0,none⟩=some (.slice Ao60 t204.length co60):=(blk_cell BK208.out 0).trans rfl;have hcz81_1:wr.cell? ⟨gb208,1,none⟩=some (.bool t207):=(blk_cell BK208.out 1).trans rfl;have hfz81_0:=blk_frozen BK208.out 0;have hfz81_1:=blk_frozen BK208.out 1
                            try go_wp2_with (first|((with_reducible refine gate_callee (f:=44) rfl ?_);refine goesL_ (some 88) rfl rfl Try.func44 (by kernel_rfl) rfl #[.agg #[.slice Ao60 t204.length co60, .bool t207], .slice A212_0 (rd_L2 t209 x82_4).length c212_0] rfl (by (try simp only[List.map_toArray,List.map_cons,List.map_nil]);first|done|rfl|(simp only[List.length_drop,List.length_take];rfl)) ?_;(with_reducible refine (spec_paCross.calls k4 _ _ t204 t207 _ _ (rd_L2 t209 x82_4) t213 t216 _ ?side1 ?side2 ?side3 ?side4 A70.out).mono ?_);(case side1=>repeat (first|exact (Kd.R_reads' HO_209000.out).2.2|(with_reducible refine ca' ?_ _)|(with_reducible refine cn' ?_ _)|(with_reducible refine cd' ?_)));(case side2=>exact (Kd.R_reads' HO_209000.out).2.1);(case side3=>repeat (first|exact (by repeat (first|(with_reducible exact HR212_0.out)|(with_reducible refine ca' ?_ _)|(with_reducible refine cn' ?_ _)|(with_reducible refine cd' ?_)|exact HR212_0.out))|(with_reducible refine ca' ?_ _)|(with_reducible refine cn' ?_ _)|(with_reducible refine cd' ?_)));(case side4=>exact HC212_0.out);rintro e w82 ⟨v214,rfl,ho0,hb⟩;refine ⟨_,rfl,?_⟩;have n0_:=am' (Kd.R_below (by (with_reducible repeat (first|apply ra'|apply rn'|apply rw'));exact HO_5.out) hb);have n1_:=am' (Kd.R_elder' (by (with_reducible repeat (first|apply ra'|apply rn'|apply rw'));exact HO_6.out) (Kd.R_base ho0) hb);have n2_:=am' (Kd.N_elder' (by (with_reducible repeat (first|apply Kd.N_alloc|apply Kd.N_drewN|apply Kd.N_drew));exact HO_80.out) (Kd.R_base ho0) hb);have n3_:=am' (Kd.R_elder' (by (with_reducible repeat (first|apply ra'|apply rn'|apply rw'));exact HO_209000.out) (Kd.R_base ho0) hb);have n4_:=am' (Kd.V_elder' (by (with_reducible repeat (first|apply Kd.V_alloc|apply Kd.V_drewN|apply Kd.V_drew));exact HL212_0.out) (Kd.R_base ho0) hb);have n5_:=am' (Kd.R_lower (Kd.R_new' (Kd.R_new' ho0 (Kd.R_lt (by (with_reducible repeat (first|apply ra'|apply rn'|apply rw'));exact HO_6.out))) (Kd.R_lt (by (with_reducible repeat (first|apply ra'|apply rn'|apply rw'));exact HO_209000.out))) (below_size (by repeat (first|(with_reducible first|exact HB.out|apply ba'|apply bd'|apply be'|refine bs' ?_ GE189.out|refine bs' ?_ GE190.out|refine bs' ?_ GE208.out)|exact HB.out))));have n6_:=am' (blk_below (g:=gb189) (o := .cells #[.slice A0_0 l0_0.length c0_0, .int .i64 a0_1] 28 (0,0)) (by (with_reducible repeat (first|refine kn' ?_ _|refine kd' ?_|refine ka' ?_ _));exact BK189.out) hb);have n7_:=am' (blk_below (g:=gb190) (o := .cells #[.slice A1_0 l1_0.length c1_0, .bool a1_1] 54 (0,0)) (by (with_reducible repeat (first|refine kn' ?_ _|refine kd' ?_|refine ka' ?_ _));exact BK190.out) hb);have n8_:=am' (blk_below (g:=gb208) (o := .cells #[.slice Ao60 t204.length co60, .bool t207] 54 (0,0)) (by (with_reducible repeat (first|refine kn' ?_ _|refine kd' ?_|refine ka' ?_ _));exact BK208.out) hb);have n9_:=am' (Kd.C_below (by repeat (first|(with_reducible exact HR212_0.out)|(with_reducible refine ca' ?_ _)|(with_reducible refine cn' ?_ _)|(with_reducible refine cd' ?_)|exact HR212_0.out)) hb);have n10_:=am' (below_step (by repeat (first|(with_reducible first|exact HB.out|apply ba'|apply bd'|apply be'|refine bs' ?_ GE189.out|refine bs' ?_ GE190.out|refine bs' ?_ GE208.out)|exact HB.out)) hb);clear HO_5;clear HO_6;clear HO_80;clear HO_209000;clear HL212_0;clear BK189;clear BK190;clear BK208;clear HR212_0;clear HB;have HO_5:=n0_;have HO_6:=n1_;have HO_80:=n2_;have HO_209000:=n3_;have HL212_0:=n4_;have HO215:=n5_;have BK189:=n6_;have BK190:=n7_;have BK208:=n8_;have HR212_0:=n9_;have HB:=n10_;clear n0_ n1_ n2_ n3_ n4_ n5_ n6_ n7_ n8_ n9_ n10_;(try clear hb);(try clear hb2);(try clear hk);(try clear hi);(try clear ho0);obtain ⟨Ao83,co83,eo83⟩:=Kd.R_slice HO215.out;subst eo83)|((with_reducible refine gate_callee (f:=40) rfl ?_);refine goesL_ (some 89) rfl rfl Try.func40 (by kernel_rfl) rfl #[.agg #[.slice Ao83 t213.length co83, .bool t216]] rfl (by (try simp only[List.map_toArray,List.map_cons,List.map_nil]);first|done|rfl|(simp only[List.length_drop,List.length_take];rfl)) ?_;(with_reducible refine (spec_seIndex.calls k4 _ _ t213 t216 t217 _ ?side1 ?side2 A71.out).mono ?_);(case side1=>repeat (first|exact (Kd.R_reads' HO215.out).2.2|(with_reducible refine ca' ?_ _)|(with_reducible refine cn' ?_ _)|(with_reducible refine cd' ?_)));(case side2=>exact (Kd.R_reads' HO215.out).2.1);rintro e w84 ⟨rfl,hb⟩;refine ⟨_,rfl,?_⟩;have n0_:=am' (Kd.R_below (by (with_reducible repeat (first|apply ra'|apply rn'|apply rw'));exact HO_5.out) hb);have n1_:=am' (Kd.R_below (by (with_reducible repeat (first|apply ra'|apply rn'|apply rw'));exact HO_6.out) hb);have n2_:=am' (Kd.N_below (by (with_reducible repeat (first|apply Kd.N_alloc|apply Kd.N_drewN|apply Kd.N_drew));exact HO_80.out) hb);have n3_:=am' (Kd.R_below (by (with_reducible repeat (first|apply ra'|apply rn'|apply rw'));exact HO_209000.out) hb);have n4_:=am' (Kd.V_below (by (with_reducible repeat (first|apply Kd.V_alloc|apply Kd.V_drewN|apply Kd.V_drew));exact HL212_0.out) hb);have n5_:=am' (Kd.R_below (by (with_reducible repeat (first|apply ra'|apply rn'|apply rw'));exact HO215.out) hb);have n6_:=am' (blk_below (g:=gb189) (o := .cells #[.slice A0_0 l0_0.length c0_0, .int .i64 a0_1] 28 (0,0)) (by (with_reducible repeat (first|refine kn' ?_ _|refine kd' ?_|refine ka' ?_ _));exact BK189.out) hb);have n7_:=am' (blk_below (g:=gb190) (o := .cells #[.slice A1_0 l1_0.length c1_0, .bool a1_1] 54 (0,0)) (by (with_reducible repeat (first|refine kn' ?_ _|refine kd' ?_|refine ka' ?_ _));exact BK190.out) hb);have n8_:=am' (blk_below (g:=gb208) (o := .cells #[.slice Ao60 t204.length co60, .bool t207] 54 (0,0)) (by (with_reducible repeat (first|refine kn' ?_ _|refine kd' ?_|refine ka' ?_ _));exact BK208.out) hb);have n9_:=am' (Kd.C_below (by repeat (first|(with_reducible exact HR212_0.out)|(with_reducible refine ca' ?_ _)|(with_reducible refine cn' ?_ _)|(with_reducible refine cd' ?_)|exact HR212_0.out)) hb);have n10_:=am' (below_step (by repeat (first|(with_reducible first|exact HB.out|apply ba'|apply bd'|apply be'|refine bs' ?_ GE189.out|refine bs' ?_ GE190.out|refine bs' ?_ GE208.out)|exact HB.out)) hb);clear HO_5;clear HO_6;clear HO_80;clear HO_209000;clear HL212_0;clear HO215;clear BK189;clear BK190;clear BK208;clear HR212_0;clear HB;have HO_5:=n0_;have HO_6:=n1_;have HO_80:=n2_;have HO_209000:=n3_;have HL212_0:=n4_;have HO215:=n5_;have BK189:=n6_;have BK190:=n7_;have BK208:=n8_;have HR212_0:=n9_;have HB:=n10_;clear n0_ n1_ n2_ n3_ n4_ n5_ n6_ n7_ n8_ n9_ n10_;(try clear hb);(try clear hb2);(try clear hk);(try clear hi)))
                            have n0_:=am' (rw' HO_5.out);have n1_:=am' (rw' HO_6.out);have n2_:=am' (Kd.N_drew HO_80.out);have n3_:=am' (rw' HO_209000.out);have n4_:=am' (Kd.V_drew HL212_0.out);have n5_:=am' (rw' HO215.out);have n6_:=am' (kd' BK189.out);have n7_:=am' (kd' BK190.out);have n8_:=am' (kd' BK208.out);have n9_:=am' (cd' HR212_0.out);have n10_:=am' (be' HB.out);clear HO_5;clear HO_6;clear HO_80;clear HO_209000;clear HL212_0;clear HO215;clear BK189;clear BK190;clear BK208;clear HR212_0;clear HB;have HO_5:=n0_;have HO_6:=n1_;have HO_80:=n2_;have HO_209000:=n3_;have HL212_0:=n4_;have HO215:=n5_;have BK189:=n6_;have BK190:=n7_;have BK208:=n8_;have HR212_0:=n9_;have HB:=n10_;clear n0_ n1_ n2_ n3_ n4_ n5_ n6_ n7_ n8_ n9_ n10_;have p218:0≤(x8_3:Int):=of_decide_eq_true (by first|(with_reducible assumption)|assumption);have q218:x8_3 < (x5_4.length:Int):=of_decide_eq_true (by first|(with_reducible assumption)|assumption);obtain ⟨ad218,e218,hx218_0⟩:=Kd.at_int (Kd.R_reads' HO_5.out).2.2 x8_3 p218 q218;obtain rfl:(⟨go26,0,none⟩:Addr)=ad218:=(by injection e218)
                            (first|simp only[add_plain] at hx218_0|simp only[add_at] at hx218_0|simp only[Addr.add,Nat.zero_add] at hx218_0|skip)
                            replace p218:=eq_true p218;replace q218:=eq_true q218;refine start_ (n:=9) (S:=fun w'=>w'.cell? ⟨gb189,0,none⟩=some (.slice A0_0 l0_0.length c0_0)∧w'.cell? ⟨gb189,1,none⟩=some (.int .i64 a0_1)∧w'.cell? ⟨go26,(x8_3).toNat,none⟩=some (.int .i64 (rd x5_4 x8_3))) (ds:=[]) #[false,false,false,false,false,false,false,false,false] (by kernel_rfl) rfl rfl ⟨(blk_cell BK189.out 0).trans rfl,(blk_cell BK189.out 1).trans rfl,hx218_0⟩ (fun hHeld=>?_);refine with_tabW spec_seFar.tab24 spec_seFar.bits24 (fun HT_ HW_=>?_);generalize w84.drew=w85 at HO_5 HO_6 HO_80 HO_209000 HL212_0 HO215 BK189 BK190 BK208 HR212_0 HB hx218_0 hHeld ⊢
                            refine pure_ (i:=0) (N:=some 90) (v:=?_) (a':=?_) #[true,false,false,false,false,false,false,false,false] rfl rfl (any_of HT_.out (by kernel_rfl)) (fun _ _ _ h=>h) (Or.inl ⟨by rfl,?_⟩) ?_ ?_
                            rotate_left
                            ·
                             intro w';go_simp;with_reducible rfl
                            rotate_left
                            ·
                             simp only[Act.put,sa',sb',sc',i64_w,i32_w];rfl
                            refine pure_ (i:=1) (N:=some 91) (v:=?_) (a':=?_) #[true,true,false,false,false,false,false,false,false] rfl rfl (any_of HT_.out (by kernel_rfl)) (fun _ _ _ h=>h) (Or.inl ⟨by rfl,?_⟩) ?_ ?_
                            rotate_left
                            ·
                             intro w';go_simp;with_reducible rfl
                            rotate_left
                            ·
                             simp only[Act.put,sa',sb',sc',i64_w,i32_w];rfl
                            refine pure_ (i:=2) (N:=some 92) (v:=?_) (a':=?_) #[true,true,true,false,false,false,false,false,false] rfl rfl (any_of HT_.out (by kernel_rfl)) (fun _ _ _ h=>h) (Or.inl ⟨by rfl,?_⟩) ?_ ?_
                            rotate_left
                            ·
                             intro w';go_simp;with_reducible rfl
                            rotate_left
                            ·
                             simp only[Act.put,sa',sb',sc',i64_w,i32_w];rfl
                            refine pure_ (i:=5) (N:=some 95) (v:=?_) (a':=?_) #[true,true,true,false,false,true,false,false,false] rfl rfl (any_of HT_.out (by kernel_rfl)) (fun _ _ _ h=>h) (Or.inl ⟨by rfl,?_⟩) ?_ ?_
                            rotate_left
                            ·
                             intro w';go_simp;with_reducible rfl
                            rotate_left
                            ·
                             simp only[Act.put,sa',sb',sc',i64_w,i32_w];rfl
                            refine take_ (i:=3) (N:=some 93) (v:=?_) (a':=?_) #[true,true,true,true,false,true,false,false,false] rfl rfl (take_ofW HT_.out HW_.out (by kernel_rfl)) (fun _ _ _ h=>h) (Or.inl ⟨by rfl,?_⟩) hHeld ?_ ?_
                            rotate_left
                            ·
                             rintro w' ⟨s0,s1,s2⟩
                             go_simp;with_reducible rfl
                            rotate_left
                            ·
                             simp only[Act.put,sa',sb',sc',i64_w,i32_w];rfl
                            refine take_ (i:=4) (N:=some 94) (v:=?_) (a':=?_) #[true,true,true,true,true,true,false,false,false] rfl rfl (take_ofW HT_.out HW_.out (by kernel_rfl)) (fun _ _ _ h=>h) (Or.inl ⟨by rfl,?_⟩) hHeld ?_ ?_
                            rotate_left
                            ·
                             rintro w' ⟨s0,s1,s2⟩
                             go_simp;with_reducible rfl
                            rotate_left
                            ·
                             simp only[Act.put,sa',sb',sc',i64_w,i32_w];rfl
                            refine one_ (i:=6) (N:=some 96) #[true,true,true,true,true,true,true,false,false] rfl rfl (one_of HT_.out (by kernel_rfl)) (by decide) (fun K hK=>?_);refine goes_ Try.func51 (by kernel_rfl) rfl #[.agg #[.slice A0_0 l0_0.length c0_0, .int .i64 a0_1], .slice A212_0 (rd_L2 t209 x82_4).length c212_0] (by rfl) rfl rfl (by (try simp only[List.map_toArray,List.map_cons,List.map_nil]);first|done|rfl|(simp only[List.length_drop,List.length_take];rfl)) ?_
                            with_reducible refine (spec_paTime.calls k4 _ _ l0_0 a0_1 _ _ (rd_L2 t209 x82_4) t219 _ ?side1 ?side2 ?side3 ?side4 A74.out).mono ?_
                            (case side1=>repeat (first|exact (Kd.C_below HR0_0.out HB.out)|(with_reducible refine ca' ?_ _)|(with_reducible refine cn' ?_ _)|(with_reducible refine cd' ?_)))
                            (case side2=>exact HC0_0.out)
                            (case side3=>repeat (first|exact (by repeat (first|(with_reducible exact HR212_0.out)|(with_reducible refine ca' ?_ _)|(with_reducible refine cn' ?_ _)|(with_reducible refine cd' ?_)|exact HR212_0.out))|(with_reducible refine ca' ?_ _)|(with_reducible refine cn' ?_ _)|(with_reducible refine cd' ?_)))
                            (case side4=>exact HC212_0.out)
                            rintro e w86 ⟨rfl,hb⟩
                            have HS2_:=(hb.cell (bl' _ _ (hHeld.2.2))).trans (hHeld.2.2);refine ⟨_,rfl,?_⟩;have n0_:=am' (Kd.R_below (by (with_reducible repeat (first|apply ra'|apply rn'|apply rw'));exact HO_5.out) hb);have n1_:=am' (Kd.R_below (by (with_reducible repeat (first|apply ra'|apply rn'|apply rw'));exact HO_6.out) hb);have n2_:=am' (Kd.N_below (by (with_reducible repeat (first|apply Kd.N_alloc|apply Kd.N_drewN|apply Kd.N_drew));exact HO_80.out) hb);have n3_:=am' (Kd.R_below (by (with_reducible repeat (first|apply ra'|apply rn'|apply rw'));exact HO_209000.out) hb);have n4_:=am' (Kd.V_below (by (with_reducible repeat (first|apply Kd.V_alloc|apply Kd.V_drewN|apply Kd.V_drew));exact HL212_0.out) hb);have n5_:=am' (Kd.R_below (by (with_reducible repeat (first|apply ra'|apply rn'|apply rw'));exact HO215.out) hb);have n6_:=am' (blk_below (g:=gb189) (o := .cells #[.slice A0_0 l0_0.length c0_0, .int .i64 a0_1] 28 (0,0)) (by (with_reducible repeat (first|refine kn' ?_ _|refine kd' ?_|refine ka' ?_ _));exact BK189.out) hb);have n7_:=am' (blk_below (g:=gb190) (o := .cells #[.slice A1_0 l1_0.length c1_0, .bool a1_1] 54 (0,0)) (by (with_reducible repeat (first|refine kn' ?_ _|refine kd' ?_|refine ka' ?_ _));exact BK190.out) hb);have n8_:=am' (blk_below (g:=gb208) (o := .cells #[.slice Ao60 t204.length co60, .bool t207] 54 (0,0)) (by (with_reducible repeat (first|refine kn' ?_ _|refine kd' ?_|refine ka' ?_ _));exact BK208.out) hb);have n9_:=am' (Kd.C_below (by repeat (first|(with_reducible exact HR212_0.out)|(with_reducible refine ca' ?_ _)|(with_reducible refine cn' ?_ _)|(with_reducible refine cd' ?_)|exact HR212_0.out)) hb);have n10_:=am' (below_step (by repeat (first|(with_reducible first|exact HB.out|apply ba'|apply bd'|apply be'|refine bs' ?_ GE189.out|refine bs' ?_ GE190.out|refine bs' ?_ GE208.out)|exact HB.out)) hb);clear HO_5;clear HO_6;clear HO_80;clear HO_209000;clear HL212_0;clear HO215;clear BK189;clear BK190;clear BK208;clear HR212_0;clear HB;have HO_5:=n0_;have HO_6:=n1_;have HO_80:=n2_;have HO_209000:=n3_;have HL212_0:=n4_;have HO215:=n5_;have BK189:=n6_;have BK190:=n7_;have BK208:=n8_;have HR212_0:=n9_;have HB:=n10_;clear n0_ n1_ n2_ n3_ n4_ n5_ n6_ n7_ n8_ n9_ n10_
                            (try clear hb)
                            (try clear hb2)
                            (try clear hk)
                            (try clear hi)
                            refine hK.out _ _ ⟨(blk_cell BK189.out 0).trans rfl,(blk_cell BK189.out 1).trans rfl,HS2_⟩ (fun hHeld=>?_);clear hK K;refine norm_ (a':=?_) ?_ ?_
                            rotate_left
                            ·
                             show Act.put _ (some 96) _=_
                             simp only[Act.put,sa',sb',sc',i64_w,i32_w];rfl
                            refine pure_ (i:=7) (N:=some 97) (v:=?_) (a':=?_) #[true,true,true,true,true,true,true,true,false] rfl rfl (any_of HT_.out (by kernel_rfl)) (fun _ _ _ h=>h) (Or.inl ⟨by rfl,?_⟩) ?_ ?_
                            rotate_left
                            ·
                             intro w';go_simp;with_reducible rfl
                            rotate_left
                            ·
                             simp only[Act.put,sa',sb',sc',i64_w,i32_w];rfl
                            refine pure_ (i:=8) (N:=some 15) (v:=?_) (a':=?_) #[true,true,true,true,true,true,true,true,true] rfl rfl (any_of HT_.out (by kernel_rfl)) (fun _ _ _ h=>h) (Or.inl ⟨by rfl,?_⟩) ?_ ?_
                            rotate_left
                            ·
                             intro w';go_simp;with_reducible rfl
                            rotate_left
                            ·
                             simp only[Act.put,sa',sb',sc',i64_w,i32_w];rfl
                            refine done_ (done_of HT_.out (by kernel_rfl)) ?_
                            have p220:0≤(t217:Int):=of_decide_eq_true (by first|(with_reducible assumption)|assumption);have q220:t217 < (x5_4.length:Int):=of_decide_eq_true (by first|(with_reducible assumption)|assumption);obtain ⟨ad220,e220,hx220_0⟩:=Kd.at_int (Kd.R_reads' HO_5.out).2.2 t217 p220 q220;obtain rfl:(⟨go26,0,none⟩:Addr)=ad220:=(by injection e220)
                            (first|simp only[add_plain] at hx220_0|simp only[add_at] at hx220_0|simp only[Addr.add,Nat.zero_add] at hx220_0|skip)
                            replace p220:=eq_true p220;replace q220:=eq_true q220;have p78:0≤(t217:Int):=of_decide_eq_true (by first|(with_reducible assumption)|assumption);have q78:(t217:Int) < ((x5_4.length:Int):Int):=of_decide_eq_true (by first|(with_reducible assumption)|assumption);obtain ⟨hx78_0,hf78_0⟩:=Kd.R_celln 0 HO_5.out (t217:Int) p78 q78;replace p78:=eq_true p78;replace q78:=eq_true q78;obtain ⟨hy87_,hz87_⟩:=Kd.R_celln 0 HO_5.out (t217:Int) (of_decide_eq_true (by first|(with_reducible assumption)|assumption)) (of_decide_eq_true (by first|(with_reducible assumption)|assumption));have HP87:=Kd.R_putg HO_5.out (t217:Int) (wrap64 ((rd x5_4 x8_3)+t219))
                            try go_wp2_with (first|((with_reducible refine gate_store (t:=3) (p:=114) rfl ?_);refine store_event (t:=3) (p:=114) (v:=?vo_w88) (w1:=(w86.setCell ⟨go26,(t217:Int).toNat,none⟩ (.int .i64 (wrap64 ((rd x5_4 x8_3)+t219))))) ?hg ?ho ?hn ?hr ?_;(case ho=>rfl);(case hg=>rfl);(case hn=>rfl);(case hr=>first|(go_simp;done)|(go_simp;rfl));intro w88 hw;have hg:w86.grownBy w88 (some go26):=(by rw[hw];exact HP87.2);have hp_:Kd.R (Kd.int .i64) 3 w88 w.heap.size (fun _=>True) (.slice (some ⟨go26,0,none⟩) x5_4.length co14) y221:=(by rw[hw,Ny221.out];exact HP87.1);clear HP87;have n0_:=am' (hp_);have n1_:=am' (Kd.R_over' (v:=(.slice (some ⟨go26,0,none⟩) x5_4.length co14)) (by (with_reducible repeat (first|apply ra'|apply rn'|apply rw'));exact HO_6.out) (Kd.R_typed HO_5.out) (by decide) hg);have n2_:=am' (Kd.N_afterv (v:=(.slice (some ⟨go26,0,none⟩) x5_4.length co14)) (v1:=(.slice (some ⟨go26,0,none⟩) x5_4.length co14)) (ok:=(fun k_=>some k_≠(.slice (some ⟨go51,0,none⟩) y203.length co51:Value).ownBlock∧some k_≠(.slice Ao60 t204.length co60:Value).ownBlock∧some k_≠(.slice Ao83 t213.length co83:Value).ownBlock∧k_≠gb189∧k_≠gb190∧k_≠gb208)) (by (with_reducible repeat (first|apply Kd.N_alloc|apply Kd.N_drewN|apply Kd.N_drew));exact Kd.N_mono HO_80.out (fun _ hk=>⟨⟨hk.1.2.1,⟨hk.1.2.2.1,⟨hk.2,⟨hk.1.2.2.2.1,⟨hk.1.2.2.2.2.1,hk.1.2.2.2.2.2⟩⟩⟩⟩⟩,hk.1.1⟩)) hg (.inl rfl));have n3_:=am' (Kd.R_over' (v:=(.slice (some ⟨go26,0,none⟩) x5_4.length co14)) (by (with_reducible repeat (first|apply ra'|apply rn'|apply rw'));exact HO_209000.out) (Kd.R_typed HO_5.out) (by decide) hg);have n4_:=am' (blk_grown (g:=gb189) (o := .cells #[.slice A0_0 l0_0.length c0_0, .int .i64 a0_1] 28 (0,0)) (by (with_reducible repeat (first|refine kn' ?_ _|refine kd' ?_|refine ka' ?_ _));exact BK189.out) hg (Kd.R_ne HO_5.out BK189.out (by decide)));have n5_:=am' (blk_grown (g:=gb190) (o := .cells #[.slice A1_0 l1_0.length c1_0, .bool a1_1] 54 (0,0)) (by (with_reducible repeat (first|refine kn' ?_ _|refine kd' ?_|refine ka' ?_ _));exact BK190.out) hg (Kd.R_ne HO_5.out BK190.out (by decide)));have n6_:=am' (blk_grown (g:=gb208) (o := .cells #[.slice Ao60 t204.length co60, .bool t207] 54 (0,0)) (by (with_reducible repeat (first|refine kn' ?_ _|refine kd' ?_|refine ka' ?_ _));exact BK208.out) hg (Kd.R_ne HO_5.out BK208.out (by decide)));have n7_:=am' (Kd.V_afterv (v:=(.slice (some ⟨go26,0,none⟩) x5_4.length co14)) (v1:=(.slice (some ⟨go26,0,none⟩) x5_4.length co14)) (ok:=(fun k_=>some k_≠(.slice (some ⟨go51,0,none⟩) y203.length co51:Value).ownBlock∧some k_≠(.slice (some ad212) t209.length co66:Value).ownBlock∧some k_≠(.slice Ao60 t204.length co60:Value).ownBlock∧some k_≠(.slice Ao83 t213.length co83:Value).ownBlock∧k_≠gb189∧k_≠gb190∧k_≠gb208)) (by (with_reducible repeat (first|apply Kd.V_alloc|apply Kd.V_drewN|apply Kd.V_drew));exact Kd.V_mono HL212_0.out (fun _ hk=>⟨⟨hk.1.1.2.1,⟨hk.1.2,⟨hk.1.1.2.2.1,⟨hk.2,⟨hk.1.1.2.2.2.1,⟨hk.1.1.2.2.2.2.1,hk.1.1.2.2.2.2.2⟩⟩⟩⟩⟩⟩,hk.1.1.1⟩)) hg (.inl rfl));have n8_:=am' (Kd.R_over' (v:=(.slice (some ⟨go26,0,none⟩) x5_4.length co14)) (by (with_reducible repeat (first|apply ra'|apply rn'|apply rw'));exact HO215.out) (Kd.R_typed HO_5.out) (by decide) hg);have n9_:=am' ((by rw[hw];exact bs' (HB.out) GB26.out:Below w.heap.size w w88));clear HO_5;clear HO_6;clear HO_80;clear HO_209000;clear BK189;clear BK190;clear BK208;clear HL212_0;clear HO215;clear HB;have HO_5:=n0_;have HO_6:=n1_;have HO_80:=n2_;have HO_209000:=n3_;have BK189:=n4_;have BK190:=n5_;have BK208:=n6_;have HL212_0:=n7_;have HO215:=n8_;have HB:=n9_;clear n0_ n1_ n2_ n3_ n4_ n5_ n6_ n7_ n8_ n9_;clear hg hw hp_))
                            (try simp only[← hl5_4,← hl6_4])
                            go_roundg k4
                            case measure=>have:=HK1.out;have:=HK2.out;have:=HK3.out;have:=HK4.out;omega
                            case rel=>exact ⟨(y221),(wrap64 (x82_4+1)),(by first|rfl|(simp;done)|(simp[*];done)),H',⟨by have:=HK1.out;have:=HK2.out;have:=HK3.out;have:=HK4.out;omega⟩,⟨by (try simp only[hl5_1]);(try simp only[hl5_2]);(try simp only[hl5_4]);(try simp only[hl6_4]);(with_reducible repeat (first|apply ra'|apply rn'|apply rw'));exact HO_5.out⟩,⟨by (try simp only[hl5_1]);(try simp only[hl5_2]);(try simp only[hl5_4]);(try simp only[hl6_4]);(with_reducible repeat (first|apply ra'|apply rn'|apply rw'));exact Kd.R_mono HO_6.out (fun _ hk=>hk.1)⟩,⟨by (try simp only[hl5_1]);(try simp only[hl5_2]);(try simp only[hl5_4]);(try simp only[hl6_4]);(with_reducible repeat (first|apply Kd.N_alloc|apply Kd.N_drewN|apply Kd.N_drew));exact Kd.N_mono HO_80.out (fun _ hk=>⟨hk.2,⟨hk.1.1,⟨hk.1.2.1,⟨hk.1.2.2.2.1,⟨hk.1.2.2.2.2.1,hk.1.2.2.2.2.2⟩⟩⟩⟩⟩)⟩,⟨by (try simp only[hl5_1]);(try simp only[hl5_2]);(try simp only[hl5_4]);(try simp only[hl6_4]);(with_reducible repeat (first|apply ra'|apply rn'|apply rw'));exact Kd.R_mono HO_209000.out (fun _ hk=>hk.1)⟩,⟨by (try simp only[hl5_1]);(try simp only[hl5_2]);(try simp only[hl5_4]);(try simp only[hl6_4]);(with_reducible repeat (first|refine kn' ?_ _|refine kd' ?_|refine ka' ?_ _));exact BK189.out⟩,⟨by (try simp only[hl5_1]);(try simp only[hl5_2]);(try simp only[hl5_4]);(try simp only[hl6_4]);(with_reducible repeat (first|refine kn' ?_ _|refine kd' ?_|refine ka' ?_ _));exact BK190.out⟩,⟨by (try simp only[hl5_1]);(try simp only[hl5_2]);(try simp only[hl5_4]);(try simp only[hl6_4]);(with_reducible repeat (first|refine kn' ?_ _|refine kd' ?_|refine ka' ?_ _));exact BK208.out⟩,⟨by repeat (first|(with_reducible first|exact HB.out|apply ba'|apply bd'|apply be'|refine bs' ?_ GE189.out|refine bs' ?_ GE190.out|refine bs' ?_ GE208.out)|exact HB.out)⟩⟩
                           ·
                            rw[if_neg c77] at H;have c77b0:decide ((rd x5_4 t217) < 0)=false:=decide_eq_false c77;clear c77;by_cases c89:(wrap64 ((rd x5_4 x8_3)+t219)) < (rd x5_4 t217)
                            ·
                             rw[if_pos c89] at H;have c89b0:decide ((wrap64 ((rd x5_4 x8_3)+t219)) < (rd x5_4 t217))=true:=decide_eq_true c89;clear c89;obtain ⟨y223,hy223⟩:∃ y_:List Int,y_=(x5_4.set (t217:Int).toNat (wrap64 ((rd x5_4 x8_3)+t219))):=⟨_,rfl⟩
                             replace H:(spec_seFar.l3 k4 y223 y203 x8_3 t209 (t209.length:Int) (wrap64 (x82_4+1)) l0_0 a0_1 t204 t207)=some r:=by first|(rw[hy223];with_reducible exact H)|(have H2_:=(Option.bind_some _ _).symm.trans H;rw[hy223];with_reducible exact H2_)|(have H2_:=(Option.bind_some _ _).symm.trans H;with_reducible exact H2_)|with_reducible exact H|(rw[hy223];exact H)|exact H
                             have Ny223:=am' hy223;clear hy223;have H':=am' H;clear H;have p212:0≤(x82_4:Int):=of_decide_eq_true (by first|(with_reducible assumption)|assumption);have q212:x82_4 < (t209.length:Int):=of_decide_eq_true (by first|(with_reducible assumption)|assumption);obtain ⟨ad212,A212_0,c212_0,e212,hx212_0,hl212_0,hi212_0⟩:=at_L2 (Kd.N_reads' HO_80.out).2.2 x82_4 p212 q212;cases e212;obtain ⟨ce212,hce212,hMe212,hcc212⟩:=Kd.N_get HO_80.out [] x82_4 p212 (by first|exact q212|exact of_decide_eq_true (by first|(with_reducible assumption)|assumption)|(have e_:=(Kd.N_reads' HO_80.out).1;omega));obtain ⟨ua212_0,uc212_0,rfl,ul212_0,ge212_0⟩:=Kd.FK_slice_open hMe212;have hv212_0:=hcc212 0 _ rfl;rw[Nat.add_zero,show ((Kd.slice 3 (Kd.int .i64))).sz=1 from rfl,Nat.mul_one] at hv212_0;replace hv212_0:=Option.some.inj (hv212_0.symm.trans hx212_0);injection hv212_0 with hva_ hvn_ hvc_
                             rw[hva_] at ge212_0;rw[hvc_] at ul212_0;have HL212_0:=am' (show Kd.V (Kd.int .i64) 3 _ w.heap.size _ _ (rd_L2 t209 x82_4) from Kd.V_mk ul212_0 ge212_0);clear hva_ hvn_ hvc_ ge212_0 ul212_0;clear hcc212 hce212;have HR212_0:=am' hi212_0;have HC212_0:=am' hl212_0;clear hi212_0 hl212_0;replace p212:=eq_true p212;replace q212:=eq_true q212;have hnb91:=NB208_189.out;have hnc91:=NB189_208.out;have hnb92:=NB208_190.out;have hnc92:=NB190_208.out;have hcz93_0:wr.cell? ⟨gb208,0,none⟩=some (.slice Ao60 t204.length co60):=(blk_cell BK208.out 0).trans rfl;have hcz93_1:wr.cell? ⟨gb208,1,none⟩=some (.bool t207):=(blk_cell BK208.out 1).trans rfl;have hfz93_0:=blk_frozen BK208.out 0;have hfz93_1:=blk_frozen BK208.out 1
                             try go_wp2_with (first|((with_reducible refine gate_callee (f:=44) rfl ?_);refine goesL_ (some 88) rfl rfl Try.func44 (by kernel_rfl) rfl #[.agg #[.slice Ao60 t204.length co60, .bool t207], .slice A212_0 (rd_L2 t209 x82_4).length c212_0] rfl (by (try simp only[List.map_toArray,List.map_cons,List.map_nil]);first|done|rfl|(simp only[List.length_drop,List.length_take];rfl)) ?_;(with_reducible refine (spec_paCross.calls k4 _ _ t204 t207 _ _ (rd_L2 t209 x82_4) t213 t216 _ ?side1 ?side2 ?side3 ?side4 A70.out).mono ?_);(case side1=>repeat (first|exact (Kd.R_reads' HO_209000.out).2.2|(with_reducible refine ca' ?_ _)|(with_reducible refine cn' ?_ _)|(with_reducible refine cd' ?_)));(case side2=>exact (Kd.R_reads' HO_209000.out).2.1);(case side3=>repeat (first|exact (by repeat (first|(with_reducible exact HR212_0.out)|(with_reducible refine ca' ?_ _)|(with_reducible refine cn' ?_ _)|(with_reducible refine cd' ?_)|exact HR212_0.out))|(with_reducible refine ca' ?_ _)|(with_reducible refine cn' ?_ _)|(with_reducible refine cd' ?_)));(case side4=>exact HC212_0.out);rintro e w94 ⟨v214,rfl,ho0,hb⟩;refine ⟨_,rfl,?_⟩;have n0_:=am' (Kd.R_below (by (with_reducible repeat (first|apply ra'|apply rn'|apply rw'));exact HO_5.out) hb);have n1_:=am' (Kd.R_elder' (by (with_reducible repeat (first|apply ra'|apply rn'|apply rw'));exact HO_6.out) (Kd.R_base ho0) hb);have n2_:=am' (Kd.N_elder' (by (with_reducible repeat (first|apply Kd.N_alloc|apply Kd.N_drewN|apply Kd.N_drew));exact HO_80.out) (Kd.R_base ho0) hb);have n3_:=am' (Kd.R_elder' (by (with_reducible repeat (first|apply ra'|apply rn'|apply rw'));exact HO_209000.out) (Kd.R_base ho0) hb);have n4_:=am' (Kd.V_elder' (by (with_reducible repeat (first|apply Kd.V_alloc|apply Kd.V_drewN|apply Kd.V_drew));exact HL212_0.out) (Kd.R_base ho0) hb);have n5_:=am' (Kd.R_lower (Kd.R_new' (Kd.R_new' ho0 (Kd.R_lt (by (with_reducible repeat (first|apply ra'|apply rn'|apply rw'));exact HO_6.out))) (Kd.R_lt (by (with_reducible repeat (first|apply ra'|apply rn'|apply rw'));exact HO_209000.out))) (below_size (by repeat (first|(with_reducible first|exact HB.out|apply ba'|apply bd'|apply be'|refine bs' ?_ GE189.out|refine bs' ?_ GE190.out|refine bs' ?_ GE208.out)|exact HB.out))));have n6_:=am' (blk_below (g:=gb189) (o := .cells #[.slice A0_0 l0_0.length c0_0, .int .i64 a0_1] 28 (0,0)) (by (with_reducible repeat (first|refine kn' ?_ _|refine kd' ?_|refine ka' ?_ _));exact BK189.out) hb);have n7_:=am' (blk_below (g:=gb190) (o := .cells #[.slice A1_0 l1_0.length c1_0, .bool a1_1] 54 (0,0)) (by (with_reducible repeat (first|refine kn' ?_ _|refine kd' ?_|refine ka' ?_ _));exact BK190.out) hb);have n8_:=am' (blk_below (g:=gb208) (o := .cells #[.slice Ao60 t204.length co60, .bool t207] 54 (0,0)) (by (with_reducible repeat (first|refine kn' ?_ _|refine kd' ?_|refine ka' ?_ _));exact BK208.out) hb);have n9_:=am' (Kd.C_below (by repeat (first|(with_reducible exact HR212_0.out)|(with_reducible refine ca' ?_ _)|(with_reducible refine cn' ?_ _)|(with_reducible refine cd' ?_)|exact HR212_0.out)) hb);have n10_:=am' (below_step (by repeat (first|(with_reducible first|exact HB.out|apply ba'|apply bd'|apply be'|refine bs' ?_ GE189.out|refine bs' ?_ GE190.out|refine bs' ?_ GE208.out)|exact HB.out)) hb);clear HO_5;clear HO_6;clear HO_80;clear HO_209000;clear HL212_0;clear BK189;clear BK190;clear BK208;clear HR212_0;clear HB;have HO_5:=n0_;have HO_6:=n1_;have HO_80:=n2_;have HO_209000:=n3_;have HL212_0:=n4_;have HO215:=n5_;have BK189:=n6_;have BK190:=n7_;have BK208:=n8_;have HR212_0:=n9_;have HB:=n10_;clear n0_ n1_ n2_ n3_ n4_ n5_ n6_ n7_ n8_ n9_ n10_;(try clear hb);(try clear hb2);(try clear hk);(try clear hi);(try clear ho0);obtain ⟨Ao95,co95,eo95⟩:=Kd.R_slice HO215.out;subst eo95)|((with_reducible refine gate_callee (f:=40) rfl ?_);refine goesL_ (some 89) rfl rfl Try.func40 (by kernel_rfl) rfl #[.agg #[.slice Ao95 t213.length co95, .bool t216]] rfl (by (try simp only[List.map_toArray,List.map_cons,List.map_nil]);first|done|rfl|(simp only[List.length_drop,List.length_take];rfl)) ?_;(with_reducible refine (spec_seIndex.calls k4 _ _ t213 t216 t217 _ ?side1 ?side2 A71.out).mono ?_);(case side1=>repeat (first|exact (Kd.R_reads' HO215.out).2.2|(with_reducible refine ca' ?_ _)|(with_reducible refine cn' ?_ _)|(with_reducible refine cd' ?_)));(case side2=>exact (Kd.R_reads' HO215.out).2.1);rintro e w96 ⟨rfl,hb⟩;refine ⟨_,rfl,?_⟩;have n0_:=am' (Kd.R_below (by (with_reducible repeat (first|apply ra'|apply rn'|apply rw'));exact HO_5.out) hb);have n1_:=am' (Kd.R_below (by (with_reducible repeat (first|apply ra'|apply rn'|apply rw'));exact HO_6.out) hb);have n2_:=am' (Kd.N_below (by (with_reducible repeat (first|apply Kd.N_alloc|apply Kd.N_drewN|apply Kd.N_drew));exact HO_80.out) hb);have n3_:=am' (Kd.R_below (by (with_reducible repeat (first|apply ra'|apply rn'|apply rw'));exact HO_209000.out) hb);have n4_:=am' (Kd.V_below (by (with_reducible repeat (first|apply Kd.V_alloc|apply Kd.V_drewN|apply Kd.V_drew));exact HL212_0.out) hb);have n5_:=am' (Kd.R_below (by (with_reducible repeat (first|apply ra'|apply rn'|apply rw'));exact HO215.out) hb);have n6_:=am' (blk_below (g:=gb189) (o := .cells #[.slice A0_0 l0_0.length c0_0, .int .i64 a0_1] 28 (0,0)) (by (with_reducible repeat (first|refine kn' ?_ _|refine kd' ?_|refine ka' ?_ _));exact BK189.out) hb);have n7_:=am' (blk_below (g:=gb190) (o := .cells #[.slice A1_0 l1_0.length c1_0, .bool a1_1] 54 (0,0)) (by (with_reducible repeat (first|refine kn' ?_ _|refine kd' ?_|refine ka' ?_ _));exact BK190.out) hb);have n8_:=am' (blk_below (g:=gb208) (o := .cells #[.slice Ao60 t204.length co60, .bool t207] 54 (0,0)) (by (with_reducible repeat (first|refine kn' ?_ _|refine kd' ?_|refine ka' ?_ _));exact BK208.out) hb);have n9_:=am' (Kd.C_below (by repeat (first|(with_reducible exact HR212_0.out)|(with_reducible refine ca' ?_ _)|(with_reducible refine cn' ?_ _)|(with_reducible refine cd' ?_)|exact HR212_0.out)) hb);have n10_:=am' (below_step (by repeat (first|(with_reducible first|exact HB.out|apply ba'|apply bd'|apply be'|refine bs' ?_ GE189.out|refine bs' ?_ GE190.out|refine bs' ?_ GE208.out)|exact HB.out)) hb);clear HO_5;clear HO_6;clear HO_80;clear HO_209000;clear HL212_0;clear HO215;clear BK189;clear BK190;clear BK208;clear HR212_0;clear HB;have HO_5:=n0_;have HO_6:=n1_;have HO_80:=n2_;have HO_209000:=n3_;have HL212_0:=n4_;have HO215:=n5_;have BK189:=n6_;have BK190:=n7_;have BK208:=n8_;have HR212_0:=n9_;have HB:=n10_;clear n0_ n1_ n2_ n3_ n4_ n5_ n6_ n7_ n8_ n9_ n10_;(try clear hb);(try clear hb2);(try clear hk);(try clear hi)))
                             have n0_:=am' (rw' HO_5.out);have n1_:=am' (rw' HO_6.out);have n2_:=am' (Kd.N_drew HO_80.out);have n3_:=am' (rw' HO_209000.out);have n4_:=am' (Kd.V_drew HL212_0.out);have n5_:=am' (rw' HO215.out);have n6_:=am' (kd' BK189.out);have n7_:=am' (kd' BK190.out);have n8_:=am' (kd' BK208.out);have n9_:=am' (cd' HR212_0.out);have n10_:=am' (be' HB.out);clear HO_5;clear HO_6;clear HO_80;clear HO_209000;clear HL212_0;clear HO215;clear BK189;clear BK190;clear BK208;clear HR212_0;clear HB;have HO_5:=n0_;have HO_6:=n1_;have HO_80:=n2_;have HO_209000:=n3_;have HL212_0:=n4_;have HO215:=n5_;have BK189:=n6_;have BK190:=n7_;have BK208:=n8_;have HR212_0:=n9_;have HB:=n10_;clear n0_ n1_ n2_ n3_ n4_ n5_ n6_ n7_ n8_ n9_ n10_;have p218:0≤(x8_3:Int):=of_decide_eq_true (by first|(with_reducible assumption)|assumption);have q218:x8_3 < (x5_4.length:Int):=of_decide_eq_true (by first|(with_reducible assumption)|assumption);obtain ⟨ad218,e218,hx218_0⟩:=Kd.at_int (Kd.R_reads' HO_5.out).2.2 x8_3 p218 q218;obtain rfl:(⟨go26,0,none⟩:Addr)=ad218:=(by injection e218)
                             (first|simp only[add_plain] at hx218_0|simp only[add_at] at hx218_0|simp only[Addr.add,Nat.zero_add] at hx218_0|skip)
                             replace p218:=eq_true p218;replace q218:=eq_true q218;refine start_ (n:=9) (S:=fun w'=>w'.cell? ⟨gb189,0,none⟩=some (.slice A0_0 l0_0.length c0_0)∧w'.cell? ⟨gb189,1,none⟩=some (.int .i64 a0_1)∧w'.cell? ⟨go26,(x8_3).toNat,none⟩=some (.int .i64 (rd x5_4 x8_3))) (ds:=[]) #[false,false,false,false,false,false,false,false,false] (by kernel_rfl) rfl rfl ⟨(blk_cell BK189.out 0).trans rfl,(blk_cell BK189.out 1).trans rfl,hx218_0⟩ (fun hHeld=>?_);refine with_tabW spec_seFar.tab24 spec_seFar.bits24 (fun HT_ HW_=>?_);generalize w96.drew=w97 at HO_5 HO_6 HO_80 HO_209000 HL212_0 HO215 BK189 BK190 BK208 HR212_0 HB hx218_0 hHeld ⊢
                             refine pure_ (i:=0) (N:=some 90) (v:=?_) (a':=?_) #[true,false,false,false,false,false,false,false,false] rfl rfl (any_of HT_.out (by kernel_rfl)) (fun _ _ _ h=>h) (Or.inl ⟨by rfl,?_⟩) ?_ ?_
                             rotate_left
                             ·
                              intro w';go_simp;with_reducible rfl
                             rotate_left
                             ·
                              simp only[Act.put,sa',sb',sc',i64_w,i32_w];rfl
                             refine pure_ (i:=1) (N:=some 91) (v:=?_) (a':=?_) #[true,true,false,false,false,false,false,false,false] rfl rfl (any_of HT_.out (by kernel_rfl)) (fun _ _ _ h=>h) (Or.inl ⟨by rfl,?_⟩) ?_ ?_
                             rotate_left
                             ·
                              intro w';go_simp;with_reducible rfl
                             rotate_left
                             ·
                              simp only[Act.put,sa',sb',sc',i64_w,i32_w];rfl
                             refine pure_ (i:=2) (N:=some 92) (v:=?_) (a':=?_) #[true,true,true,false,false,false,false,false,false] rfl rfl (any_of HT_.out (by kernel_rfl)) (fun _ _ _ h=>h) (Or.inl ⟨by rfl,?_⟩) ?_ ?_
                             rotate_left
                             ·
                              intro w';go_simp;with_reducible rfl
                             rotate_left
                             ·
                              simp only[Act.put,sa',sb',sc',i64_w,i32_w];rfl
                             refine pure_ (i:=5) (N:=some 95) (v:=?_) (a':=?_) #[true,true,true,false,false,true,false,false,false] rfl rfl (any_of HT_.out (by kernel_rfl)) (fun _ _ _ h=>h) (Or.inl ⟨by rfl,?_⟩) ?_ ?_
                             rotate_left
                             ·
                              intro w';go_simp;with_reducible rfl
                             rotate_left
                             ·
                              simp only[Act.put,sa',sb',sc',i64_w,i32_w];rfl
                             refine take_ (i:=3) (N:=some 93) (v:=?_) (a':=?_) #[true,true,true,true,false,true,false,false,false] rfl rfl (take_ofW HT_.out HW_.out (by kernel_rfl)) (fun _ _ _ h=>h) (Or.inl ⟨by rfl,?_⟩) hHeld ?_ ?_
                             rotate_left
                             ·
                              rintro w' ⟨s0,s1,s2⟩
                              go_simp;with_reducible rfl
                             rotate_left
                             ·
                              simp only[Act.put,sa',sb',sc',i64_w,i32_w];rfl
                             refine take_ (i:=4) (N:=some 94) (v:=?_) (a':=?_) #[true,true,true,true,true,true,false,false,false] rfl rfl (take_ofW HT_.out HW_.out (by kernel_rfl)) (fun _ _ _ h=>h) (Or.inl ⟨by rfl,?_⟩) hHeld ?_ ?_
                             rotate_left
                             ·
                              rintro w' ⟨s0,s1,s2⟩
                              go_simp;with_reducible rfl
                             rotate_left
                             ·
                              simp only[Act.put,sa',sb',sc',i64_w,i32_w];rfl
                             refine one_ (i:=6) (N:=some 96) #[true,true,true,true,true,true,true,false,false] rfl rfl (one_of HT_.out (by kernel_rfl)) (by decide) (fun K hK=>?_);refine goes_ Try.func51 (by kernel_rfl) rfl #[.agg #[.slice A0_0 l0_0.length c0_0, .int .i64 a0_1], .slice A212_0 (rd_L2 t209 x82_4).length c212_0] (by rfl) rfl rfl (by (try simp only[List.map_toArray,List.map_cons,List.map_nil]);first|done|rfl|(simp only[List.length_drop,List.length_take];rfl)) ?_
                             with_reducible refine (spec_paTime.calls k4 _ _ l0_0 a0_1 _ _ (rd_L2 t209 x82_4) t219 _ ?side1 ?side2 ?side3 ?side4 A74.out).mono ?_
                             (case side1=>repeat (first|exact (Kd.C_below HR0_0.out HB.out)|(with_reducible refine ca' ?_ _)|(with_reducible refine cn' ?_ _)|(with_reducible refine cd' ?_)))
                             (case side2=>exact HC0_0.out)
                             (case side3=>repeat (first|exact (by repeat (first|(with_reducible exact HR212_0.out)|(with_reducible refine ca' ?_ _)|(with_reducible refine cn' ?_ _)|(with_reducible refine cd' ?_)|exact HR212_0.out))|(with_reducible refine ca' ?_ _)|(with_reducible refine cn' ?_ _)|(with_reducible refine cd' ?_)))
                             (case side4=>exact HC212_0.out)
                             rintro e w98 ⟨rfl,hb⟩
                             have HS2_:=(hb.cell (bl' _ _ (hHeld.2.2))).trans (hHeld.2.2);refine ⟨_,rfl,?_⟩;have n0_:=am' (Kd.R_below (by (with_reducible repeat (first|apply ra'|apply rn'|apply rw'));exact HO_5.out) hb);have n1_:=am' (Kd.R_below (by (with_reducible repeat (first|apply ra'|apply rn'|apply rw'));exact HO_6.out) hb);have n2_:=am' (Kd.N_below (by (with_reducible repeat (first|apply Kd.N_alloc|apply Kd.N_drewN|apply Kd.N_drew));exact HO_80.out) hb);have n3_:=am' (Kd.R_below (by (with_reducible repeat (first|apply ra'|apply rn'|apply rw'));exact HO_209000.out) hb);have n4_:=am' (Kd.V_below (by (with_reducible repeat (first|apply Kd.V_alloc|apply Kd.V_drewN|apply Kd.V_drew));exact HL212_0.out) hb);have n5_:=am' (Kd.R_below (by (with_reducible repeat (first|apply ra'|apply rn'|apply rw'));exact HO215.out) hb);have n6_:=am' (blk_below (g:=gb189) (o := .cells #[.slice A0_0 l0_0.length c0_0, .int .i64 a0_1] 28 (0,0)) (by (with_reducible repeat (first|refine kn' ?_ _|refine kd' ?_|refine ka' ?_ _));exact BK189.out) hb);have n7_:=am' (blk_below (g:=gb190) (o := .cells #[.slice A1_0 l1_0.length c1_0, .bool a1_1] 54 (0,0)) (by (with_reducible repeat (first|refine kn' ?_ _|refine kd' ?_|refine ka' ?_ _));exact BK190.out) hb);have n8_:=am' (blk_below (g:=gb208) (o := .cells #[.slice Ao60 t204.length co60, .bool t207] 54 (0,0)) (by (with_reducible repeat (first|refine kn' ?_ _|refine kd' ?_|refine ka' ?_ _));exact BK208.out) hb);have n9_:=am' (Kd.C_below (by repeat (first|(with_reducible exact HR212_0.out)|(with_reducible refine ca' ?_ _)|(with_reducible refine cn' ?_ _)|(with_reducible refine cd' ?_)|exact HR212_0.out)) hb);have n10_:=am' (below_step (by repeat (first|(with_reducible first|exact HB.out|apply ba'|apply bd'|apply be'|refine bs' ?_ GE189.out|refine bs' ?_ GE190.out|refine bs' ?_ GE208.out)|exact HB.out)) hb);clear HO_5;clear HO_6;clear HO_80;clear HO_209000;clear HL212_0;clear HO215;clear BK189;clear BK190;clear BK208;clear HR212_0;clear HB;have HO_5:=n0_;have HO_6:=n1_;have HO_80:=n2_;have HO_209000:=n3_;have HL212_0:=n4_;have HO215:=n5_;have BK189:=n6_;have BK190:=n7_;have BK208:=n8_;have HR212_0:=n9_;have HB:=n10_;clear n0_ n1_ n2_ n3_ n4_ n5_ n6_ n7_ n8_ n9_ n10_
                             (try clear hb)
                             (try clear hb2)
                             (try clear hk)
                             (try clear hi)
                             refine hK.out _ _ ⟨(blk_cell BK189.out 0).trans rfl,(blk_cell BK189.out 1).trans rfl,HS2_⟩ (fun hHeld=>?_);clear hK K;refine norm_ (a':=?_) ?_ ?_
                             rotate_left
                             ·
                              show Act.put _ (some 96) _=_
                              simp only[Act.put,sa',sb',sc',i64_w,i32_w];rfl
                             refine pure_ (i:=7) (N:=some 97) (v:=?_) (a':=?_) #[true,true,true,true,true,true,true,true,false] rfl rfl (any_of HT_.out (by kernel_rfl)) (fun _ _ _ h=>h) (Or.inl ⟨by rfl,?_⟩) ?_ ?_
                             rotate_left
                             ·
                              intro w';go_simp;with_reducible rfl
                             rotate_left
                             ·
                              simp only[Act.put,sa',sb',sc',i64_w,i32_w];rfl
                             refine pure_ (i:=8) (N:=some 15) (v:=?_) (a':=?_) #[true,true,true,true,true,true,true,true,true] rfl rfl (any_of HT_.out (by kernel_rfl)) (fun _ _ _ h=>h) (Or.inl ⟨by rfl,?_⟩) ?_ ?_
                             rotate_left
                             ·
                              intro w';go_simp;with_reducible rfl
                             rotate_left
                             ·
                              simp only[Act.put,sa',sb',sc',i64_w,i32_w];rfl
                             refine done_ (done_of HT_.out (by kernel_rfl)) ?_
                             have p220:0≤(t217:Int):=of_decide_eq_true (by first|(with_reducible assumption)|assumption);have q220:t217 < (x5_4.length:Int):=of_decide_eq_true (by first|(with_reducible assumption)|assumption);obtain ⟨ad220,e220,hx220_0⟩:=Kd.at_int (Kd.R_reads' HO_5.out).2.2 t217 p220 q220;obtain rfl:(⟨go26,0,none⟩:Addr)=ad220:=(by injection e220)
                             (first|simp only[add_plain] at hx220_0|simp only[add_at] at hx220_0|simp only[Addr.add,Nat.zero_add] at hx220_0|skip)
                             replace p220:=eq_true p220;replace q220:=eq_true q220;have p222:0≤(t217:Int):=of_decide_eq_true (by first|(with_reducible assumption)|assumption);have q222:t217 < (x5_4.length:Int):=of_decide_eq_true (by first|(with_reducible assumption)|assumption);obtain ⟨ad222,e222,hx222_0⟩:=Kd.at_int (Kd.R_reads' HO_5.out).2.2 t217 p222 q222;obtain rfl:(⟨go26,0,none⟩:Addr)=ad222:=(by injection e222)
                             (first|simp only[add_plain] at hx222_0|simp only[add_at] at hx222_0|simp only[Addr.add,Nat.zero_add] at hx222_0|skip)
                             replace p222:=eq_true p222;replace q222:=eq_true q222;have p90:0≤(t217:Int):=of_decide_eq_true (by first|(with_reducible assumption)|assumption);have q90:(t217:Int) < ((x5_4.length:Int):Int):=of_decide_eq_true (by first|(with_reducible assumption)|assumption);obtain ⟨hx90_0,hf90_0⟩:=Kd.R_celln 0 HO_5.out (t217:Int) p90 q90;replace p90:=eq_true p90;replace q90:=eq_true q90;obtain ⟨hy99_,hz99_⟩:=Kd.R_celln 0 HO_5.out (t217:Int) (of_decide_eq_true (by first|(with_reducible assumption)|assumption)) (of_decide_eq_true (by first|(with_reducible assumption)|assumption));have HP99:=Kd.R_putg HO_5.out (t217:Int) (wrap64 ((rd x5_4 x8_3)+t219))
                             try go_wp2_with (first|((with_reducible refine gate_store (t:=3) (p:=114) rfl ?_);refine store_event (t:=3) (p:=114) (v:=?vo_w100) (w1:=(w98.setCell ⟨go26,(t217:Int).toNat,none⟩ (.int .i64 (wrap64 ((rd x5_4 x8_3)+t219))))) ?hg ?ho ?hn ?hr ?_;(case ho=>rfl);(case hg=>rfl);(case hn=>rfl);(case hr=>first|(go_simp;done)|(go_simp;rfl));intro w100 hw;have hg:w98.grownBy w100 (some go26):=(by rw[hw];exact HP99.2);have hp_:Kd.R (Kd.int .i64) 3 w100 w.heap.size (fun _=>True) (.slice (some ⟨go26,0,none⟩) x5_4.length co14) y223:=(by rw[hw,Ny223.out];exact HP99.1);clear HP99;have n0_:=am' (hp_);have n1_:=am' (Kd.R_over' (v:=(.slice (some ⟨go26,0,none⟩) x5_4.length co14)) (by (with_reducible repeat (first|apply ra'|apply rn'|apply rw'));exact HO_6.out) (Kd.R_typed HO_5.out) (by decide) hg);have n2_:=am' (Kd.N_afterv (v:=(.slice (some ⟨go26,0,none⟩) x5_4.length co14)) (v1:=(.slice (some ⟨go26,0,none⟩) x5_4.length co14)) (ok:=(fun k_=>some k_≠(.slice (some ⟨go51,0,none⟩) y203.length co51:Value).ownBlock∧some k_≠(.slice Ao60 t204.length co60:Value).ownBlock∧some k_≠(.slice Ao95 t213.length co95:Value).ownBlock∧k_≠gb189∧k_≠gb190∧k_≠gb208)) (by (with_reducible repeat (first|apply Kd.N_alloc|apply Kd.N_drewN|apply Kd.N_drew));exact Kd.N_mono HO_80.out (fun _ hk=>⟨⟨hk.1.2.1,⟨hk.1.2.2.1,⟨hk.2,⟨hk.1.2.2.2.1,⟨hk.1.2.2.2.2.1,hk.1.2.2.2.2.2⟩⟩⟩⟩⟩,hk.1.1⟩)) hg (.inl rfl));have n3_:=am' (Kd.R_over' (v:=(.slice (some ⟨go26,0,none⟩) x5_4.length co14)) (by (with_reducible repeat (first|apply ra'|apply rn'|apply rw'));exact HO_209000.out) (Kd.R_typed HO_5.out) (by decide) hg);have n4_:=am' (blk_grown (g:=gb189) (o := .cells #[.slice A0_0 l0_0.length c0_0, .int .i64 a0_1] 28 (0,0)) (by (with_reducible repeat (first|refine kn' ?_ _|refine kd' ?_|refine ka' ?_ _));exact BK189.out) hg (Kd.R_ne HO_5.out BK189.out (by decide)));have n5_:=am' (blk_grown (g:=gb190) (o := .cells #[.slice A1_0 l1_0.length c1_0, .bool a1_1] 54 (0,0)) (by (with_reducible repeat (first|refine kn' ?_ _|refine kd' ?_|refine ka' ?_ _));exact BK190.out) hg (Kd.R_ne HO_5.out BK190.out (by decide)));have n6_:=am' (blk_grown (g:=gb208) (o := .cells #[.slice Ao60 t204.length co60, .bool t207] 54 (0,0)) (by (with_reducible repeat (first|refine kn' ?_ _|refine kd' ?_|refine ka' ?_ _));exact BK208.out) hg (Kd.R_ne HO_5.out BK208.out (by decide)));have n7_:=am' (Kd.V_afterv (v:=(.slice (some ⟨go26,0,none⟩) x5_4.length co14)) (v1:=(.slice (some ⟨go26,0,none⟩) x5_4.length co14)) (ok:=(fun k_=>some k_≠(.slice (some ⟨go51,0,none⟩) y203.length co51:Value).ownBlock∧some k_≠(.slice (some ad212) t209.length co66:Value).ownBlock∧some k_≠(.slice Ao60 t204.length co60:Value).ownBlock∧some k_≠(.slice Ao95 t213.length co95:Value).ownBlock∧k_≠gb189∧k_≠gb190∧k_≠gb208)) (by (with_reducible repeat (first|apply Kd.V_alloc|apply Kd.V_drewN|apply Kd.V_drew));exact Kd.V_mono HL212_0.out (fun _ hk=>⟨⟨hk.1.1.2.1,⟨hk.1.2,⟨hk.1.1.2.2.1,⟨hk.2,⟨hk.1.1.2.2.2.1,⟨hk.1.1.2.2.2.2.1,hk.1.1.2.2.2.2.2⟩⟩⟩⟩⟩⟩,hk.1.1.1⟩)) hg (.inl rfl));have n8_:=am' (Kd.R_over' (v:=(.slice (some ⟨go26,0,none⟩) x5_4.length co14)) (by (with_reducible repeat (first|apply ra'|apply rn'|apply rw'));exact HO215.out) (Kd.R_typed HO_5.out) (by decide) hg);have n9_:=am' ((by rw[hw];exact bs' (HB.out) GB26.out:Below w.heap.size w w100));clear HO_5;clear HO_6;clear HO_80;clear HO_209000;clear BK189;clear BK190;clear BK208;clear HL212_0;clear HO215;clear HB;have HO_5:=n0_;have HO_6:=n1_;have HO_80:=n2_;have HO_209000:=n3_;have BK189:=n4_;have BK190:=n5_;have BK208:=n6_;have HL212_0:=n7_;have HO215:=n8_;have HB:=n9_;clear n0_ n1_ n2_ n3_ n4_ n5_ n6_ n7_ n8_ n9_;clear hg hw hp_))
                             (try simp only[← hl5_4,← hl6_4])
                             go_roundg k4
                             case measure=>have:=HK1.out;have:=HK2.out;have:=HK3.out;have:=HK4.out;omega
                             case rel=>exact ⟨(y223),(wrap64 (x82_4+1)),(by first|rfl|(simp;done)|(simp[*];done)),H',⟨by have:=HK1.out;have:=HK2.out;have:=HK3.out;have:=HK4.out;omega⟩,⟨by (try simp only[hl5_1]);(try simp only[hl5_2]);(try simp only[hl5_4]);(try simp only[hl6_4]);(with_reducible repeat (first|apply ra'|apply rn'|apply rw'));exact HO_5.out⟩,⟨by (try simp only[hl5_1]);(try simp only[hl5_2]);(try simp only[hl5_4]);(try simp only[hl6_4]);(with_reducible repeat (first|apply ra'|apply rn'|apply rw'));exact Kd.R_mono HO_6.out (fun _ hk=>hk.1)⟩,⟨by (try simp only[hl5_1]);(try simp only[hl5_2]);(try simp only[hl5_4]);(try simp only[hl6_4]);(with_reducible repeat (first|apply Kd.N_alloc|apply Kd.N_drewN|apply Kd.N_drew));exact Kd.N_mono HO_80.out (fun _ hk=>⟨hk.2,⟨hk.1.1,⟨hk.1.2.1,⟨hk.1.2.2.2.1,⟨hk.1.2.2.2.2.1,hk.1.2.2.2.2.2⟩⟩⟩⟩⟩)⟩,⟨by (try simp only[hl5_1]);(try simp only[hl5_2]);(try simp only[hl5_4]);(try simp only[hl6_4]);(with_reducible repeat (first|apply ra'|apply rn'|apply rw'));exact Kd.R_mono HO_209000.out (fun _ hk=>hk.1)⟩,⟨by (try simp only[hl5_1]);(try simp only[hl5_2]);(try simp only[hl5_4]);(try simp only[hl6_4]);(with_reducible repeat (first|refine kn' ?_ _|refine kd' ?_|refine ka' ?_ _));exact BK189.out⟩,⟨by (try simp only[hl5_1]);(try simp only[hl5_2]);(try simp only[hl5_4]);(try simp only[hl6_4]);(with_reducible repeat (first|refine kn' ?_ _|refine kd' ?_|refine ka' ?_ _));exact BK190.out⟩,⟨by (try simp only[hl5_1]);(try simp only[hl5_2]);(try simp only[hl5_4]);(try simp only[hl6_4]);(with_reducible repeat (first|refine kn' ?_ _|refine kd' ?_|refine ka' ?_ _));exact BK208.out⟩,⟨by repeat (first|(with_reducible first|exact HB.out|apply ba'|apply bd'|apply be'|refine bs' ?_ GE189.out|refine bs' ?_ GE190.out|refine bs' ?_ GE208.out)|exact HB.out)⟩⟩
                            ·
                             rw[if_neg c89] at H;have c89b0:decide ((wrap64 ((rd x5_4 x8_3)+t219)) < (rd x5_4 t217))=false:=decide_eq_false c89;clear c89;have H':=am' H;clear H;have p212:0≤(x82_4:Int):=of_decide_eq_true (by first|(with_reducible assumption)|assumption);have q212:x82_4 < (t209.length:Int):=of_decide_eq_true (by first|(with_reducible assumption)|assumption);obtain ⟨ad212,A212_0,c212_0,e212,hx212_0,hl212_0,hi212_0⟩:=at_L2 (Kd.N_reads' HO_80.out).2.2 x82_4 p212 q212;cases e212;obtain ⟨ce212,hce212,hMe212,hcc212⟩:=Kd.N_get HO_80.out [] x82_4 p212 (by first|exact q212|exact of_decide_eq_true (by first|(with_reducible assumption)|assumption)|(have e_:=(Kd.N_reads' HO_80.out).1;omega));obtain ⟨ua212_0,uc212_0,rfl,ul212_0,ge212_0⟩:=Kd.FK_slice_open hMe212;have hv212_0:=hcc212 0 _ rfl;rw[Nat.add_zero,show ((Kd.slice 3 (Kd.int .i64))).sz=1 from rfl,Nat.mul_one] at hv212_0;replace hv212_0:=Option.some.inj (hv212_0.symm.trans hx212_0);injection hv212_0 with hva_ hvn_ hvc_
                             rw[hva_] at ge212_0;rw[hvc_] at ul212_0;have HL212_0:=am' (show Kd.V (Kd.int .i64) 3 _ w.heap.size _ _ (rd_L2 t209 x82_4) from Kd.V_mk ul212_0 ge212_0);clear hva_ hvn_ hvc_ ge212_0 ul212_0;clear hcc212 hce212;have HR212_0:=am' hi212_0;have HC212_0:=am' hl212_0;clear hi212_0 hl212_0;replace p212:=eq_true p212;replace q212:=eq_true q212;have hnb101:=NB208_189.out;have hnc101:=NB189_208.out;have hnb102:=NB208_190.out;have hnc102:=NB190_208.out;have hcz103_0:wr.cell? ⟨gb208,0,none⟩=some (.slice Ao60 t204.length co60):=(blk_cell BK208.out 0).trans rfl;have hcz103_1:wr.cell? ⟨gb208,1,none⟩=some (.bool t207):=(blk_cell BK208.out 1).trans rfl;have hfz103_0:=blk_frozen BK208.out 0;have hfz103_1:=blk_frozen BK208.out 1
                             try go_wp2_with (first|((with_reducible refine gate_callee (f:=44) rfl ?_);refine goesL_ (some 88) rfl rfl Try.func44 (by kernel_rfl) rfl #[.agg #[.slice Ao60 t204.length co60, .bool t207], .slice A212_0 (rd_L2 t209 x82_4).length c212_0] rfl (by (try simp only[List.map_toArray,List.map_cons,List.map_nil]);first|done|rfl|(simp only[List.length_drop,List.length_take];rfl)) ?_;(with_reducible refine (spec_paCross.calls k4 _ _ t204 t207 _ _ (rd_L2 t209 x82_4) t213 t216 _ ?side1 ?side2 ?side3 ?side4 A70.out).mono ?_);(case side1=>repeat (first|exact (Kd.R_reads' HO_209000.out).2.2|(with_reducible refine ca' ?_ _)|(with_reducible refine cn' ?_ _)|(with_reducible refine cd' ?_)));(case side2=>exact (Kd.R_reads' HO_209000.out).2.1);(case side3=>repeat (first|exact (by repeat (first|(with_reducible exact HR212_0.out)|(with_reducible refine ca' ?_ _)|(with_reducible refine cn' ?_ _)|(with_reducible refine cd' ?_)|exact HR212_0.out))|(with_reducible refine ca' ?_ _)|(with_reducible refine cn' ?_ _)|(with_reducible refine cd' ?_)));(case side4=>exact HC212_0.out);rintro e w104 ⟨v214,rfl,ho0,hb⟩;refine ⟨_,rfl,?_⟩;have n0_:=am' (Kd.R_below (by (with_reducible repeat (first|apply ra'|apply rn'|apply rw'));exact HO_5.out) hb);have n1_:=am' (Kd.R_elder' (by (with_reducible repeat (first|apply ra'|apply rn'|apply rw'));exact HO_6.out) (Kd.R_base ho0) hb);have n2_:=am' (Kd.N_elder' (by (with_reducible repeat (first|apply Kd.N_alloc|apply Kd.N_drewN|apply Kd.N_drew));exact HO_80.out) (Kd.R_base ho0) hb);have n3_:=am' (Kd.R_elder' (by (with_reducible repeat (first|apply ra'|apply rn'|apply rw'));exact HO_209000.out) (Kd.R_base ho0) hb);have n4_:=am' (Kd.V_elder' (by (with_reducible repeat (first|apply Kd.V_alloc|apply Kd.V_drewN|apply Kd.V_drew));exact HL212_0.out) (Kd.R_base ho0) hb);have n5_:=am' (Kd.R_lower (Kd.R_new' (Kd.R_new' ho0 (Kd.R_lt (by (with_reducible repeat (first|apply ra'|apply rn'|apply rw'));exact HO_6.out))) (Kd.R_lt (by (with_reducible repeat (first|apply ra'|apply rn'|apply rw'));exact HO_209000.out))) (below_size (by repeat (first|(with_reducible first|exact HB.out|apply ba'|apply bd'|apply be'|refine bs' ?_ GE189.out|refine bs' ?_ GE190.out|refine bs' ?_ GE208.out)|exact HB.out))));have n6_:=am' (blk_below (g:=gb189) (o := .cells #[.slice A0_0 l0_0.length c0_0, .int .i64 a0_1] 28 (0,0)) (by (with_reducible repeat (first|refine kn' ?_ _|refine kd' ?_|refine ka' ?_ _));exact BK189.out) hb);have n7_:=am' (blk_below (g:=gb190) (o := .cells #[.slice A1_0 l1_0.length c1_0, .bool a1_1] 54 (0,0)) (by (with_reducible repeat (first|refine kn' ?_ _|refine kd' ?_|refine ka' ?_ _));exact BK190.out) hb);have n8_:=am' (blk_below (g:=gb208) (o := .cells #[.slice Ao60 t204.length co60, .bool t207] 54 (0,0)) (by (with_reducible repeat (first|refine kn' ?_ _|refine kd' ?_|refine ka' ?_ _));exact BK208.out) hb);have n9_:=am' (Kd.C_below (by repeat (first|(with_reducible exact HR212_0.out)|(with_reducible refine ca' ?_ _)|(with_reducible refine cn' ?_ _)|(with_reducible refine cd' ?_)|exact HR212_0.out)) hb);have n10_:=am' (below_step (by repeat (first|(with_reducible first|exact HB.out|apply ba'|apply bd'|apply be'|refine bs' ?_ GE189.out|refine bs' ?_ GE190.out|refine bs' ?_ GE208.out)|exact HB.out)) hb);clear HO_5;clear HO_6;clear HO_80;clear HO_209000;clear HL212_0;clear BK189;clear BK190;clear BK208;clear HR212_0;clear HB;have HO_5:=n0_;have HO_6:=n1_;have HO_80:=n2_;have HO_209000:=n3_;have HL212_0:=n4_;have HO215:=n5_;have BK189:=n6_;have BK190:=n7_;have BK208:=n8_;have HR212_0:=n9_;have HB:=n10_;clear n0_ n1_ n2_ n3_ n4_ n5_ n6_ n7_ n8_ n9_ n10_;(try clear hb);(try clear hb2);(try clear hk);(try clear hi);(try clear ho0);obtain ⟨Ao105,co105,eo105⟩:=Kd.R_slice HO215.out;subst eo105)|((with_reducible refine gate_callee (f:=40) rfl ?_);refine goesL_ (some 89) rfl rfl Try.func40 (by kernel_rfl) rfl #[.agg #[.slice Ao105 t213.length co105, .bool t216]] rfl (by (try simp only[List.map_toArray,List.map_cons,List.map_nil]);first|done|rfl|(simp only[List.length_drop,List.length_take];rfl)) ?_;(with_reducible refine (spec_seIndex.calls k4 _ _ t213 t216 t217 _ ?side1 ?side2 A71.out).mono ?_);(case side1=>repeat (first|exact (Kd.R_reads' HO215.out).2.2|(with_reducible refine ca' ?_ _)|(with_reducible refine cn' ?_ _)|(with_reducible refine cd' ?_)));(case side2=>exact (Kd.R_reads' HO215.out).2.1);rintro e w106 ⟨rfl,hb⟩;refine ⟨_,rfl,?_⟩;have n0_:=am' (Kd.R_below (by (with_reducible repeat (first|apply ra'|apply rn'|apply rw'));exact HO_5.out) hb);have n1_:=am' (Kd.R_below (by (with_reducible repeat (first|apply ra'|apply rn'|apply rw'));exact HO_6.out) hb);have n2_:=am' (Kd.N_below (by (with_reducible repeat (first|apply Kd.N_alloc|apply Kd.N_drewN|apply Kd.N_drew));exact HO_80.out) hb);have n3_:=am' (Kd.R_below (by (with_reducible repeat (first|apply ra'|apply rn'|apply rw'));exact HO_209000.out) hb);have n4_:=am' (Kd.V_below (by (with_reducible repeat (first|apply Kd.V_alloc|apply Kd.V_drewN|apply Kd.V_drew));exact HL212_0.out) hb);have n5_:=am' (Kd.R_below (by (with_reducible repeat (first|apply ra'|apply rn'|apply rw'));exact HO215.out) hb);have n6_:=am' (blk_below (g:=gb189) (o := .cells #[.slice A0_0 l0_0.length c0_0, .int .i64 a0_1] 28 (0,0)) (by (with_reducible repeat (first|refine kn' ?_ _|refine kd' ?_|refine ka' ?_ _));exact BK189.out) hb);have n7_:=am' (blk_below (g:=gb190) (o := .cells #[.slice A1_0 l1_0.length c1_0, .bool a1_1] 54 (0,0)) (by (with_reducible repeat (first|refine kn' ?_ _|refine kd' ?_|refine ka' ?_ _));exact BK190.out) hb);have n8_:=am' (blk_below (g:=gb208) (o := .cells #[.slice Ao60 t204.length co60, .bool t207] 54 (0,0)) (by (with_reducible repeat (first|refine kn' ?_ _|refine kd' ?_|refine ka' ?_ _));exact BK208.out) hb);have n9_:=am' (Kd.C_below (by repeat (first|(with_reducible exact HR212_0.out)|(with_reducible refine ca' ?_ _)|(with_reducible refine cn' ?_ _)|(with_reducible refine cd' ?_)|exact HR212_0.out)) hb);have n10_:=am' (below_step (by repeat (first|(with_reducible first|exact HB.out|apply ba'|apply bd'|apply be'|refine bs' ?_ GE189.out|refine bs' ?_ GE190.out|refine bs' ?_ GE208.out)|exact HB.out)) hb);clear HO_5;clear HO_6;clear HO_80;clear HO_209000;clear HL212_0;clear HO215;clear BK189;clear BK190;clear BK208;clear HR212_0;clear HB;have HO_5:=n0_;have HO_6:=n1_;have HO_80:=n2_;have HO_209000:=n3_;have HL212_0:=n4_;have HO215:=n5_;have BK189:=n6_;have BK190:=n7_;have BK208:=n8_;have HR212_0:=n9_;have HB:=n10_;clear n0_ n1_ n2_ n3_ n4_ n5_ n6_ n7_ n8_ n9_ n10_;(try clear hb);(try clear hb2);(try clear hk);(try clear hi)))
                             have n0_:=am' (rw' HO_5.out);have n1_:=am' (rw' HO_6.out);have n2_:=am' (Kd.N_drew HO_80.out);have n3_:=am' (rw' HO_209000.out);have n4_:=am' (Kd.V_drew HL212_0.out);have n5_:=am' (rw' HO215.out);have n6_:=am' (kd' BK189.out);have n7_:=am' (kd' BK190.out);have n8_:=am' (kd' BK208.out);have n9_:=am' (cd' HR212_0.out);have n10_:=am' (be' HB.out);clear HO_5;clear HO_6;clear HO_80;clear HO_209000;clear HL212_0;clear HO215;clear BK189;clear BK190;clear BK208;clear HR212_0;clear HB;have HO_5:=n0_;have HO_6:=n1_;have HO_80:=n2_;have HO_209000:=n3_;have HL212_0:=n4_;have HO215:=n5_;have BK189:=n6_;have BK190:=n7_;have BK208:=n8_;have HR212_0:=n9_;have HB:=n10_;clear n0_ n1_ n2_ n3_ n4_ n5_ n6_ n7_ n8_ n9_ n10_;have p218:0≤(x8_3:Int):=of_decide_eq_true (by first|(with_reducible assumption)|assumption);have q218:x8_3 < (x5_4.length:Int):=of_decide_eq_true (by first|(with_reducible assumption)|assumption);obtain ⟨ad218,e218,hx218_0⟩:=Kd.at_int (Kd.R_reads' HO_5.out).2.2 x8_3 p218 q218;obtain rfl:(⟨go26,0,none⟩:Addr)=ad218:=(by injection e218)
                             (first|simp only[add_plain] at hx218_0|simp only[add_at] at hx218_0|simp only[Addr.add,Nat.zero_add] at hx218_0|skip)
                             replace p218:=eq_true p218;replace q218:=eq_true q218;refine start_ (n:=9) (S:=fun w'=>w'.cell? ⟨gb189,0,none⟩=some (.slice A0_0 l0_0.length c0_0)∧w'.cell? ⟨gb189,1,none⟩=some (.int .i64 a0_1)∧w'.cell? ⟨go26,(x8_3).toNat,none⟩=some (.int .i64 (rd x5_4 x8_3))) (ds:=[]) #[false,false,false,false,false,false,false,false,false] (by kernel_rfl) rfl rfl ⟨(blk_cell BK189.out 0).trans rfl,(blk_cell BK189.out 1).trans rfl,hx218_0⟩ (fun hHeld=>?_);refine with_tabW spec_seFar.tab24 spec_seFar.bits24 (fun HT_ HW_=>?_);generalize w106.drew=w107 at HO_5 HO_6 HO_80 HO_209000 HL212_0 HO215 BK189 BK190 BK208 HR212_0 HB hx218_0 hHeld ⊢
                             refine pure_ (i:=0) (N:=some 90) (v:=?_) (a':=?_) #[true,false,false,false,false,false,false,false,false] rfl rfl (any_of HT_.out (by kernel_rfl)) (fun _ _ _ h=>h) (Or.inl ⟨by rfl,?_⟩) ?_ ?_
                             rotate_left
                             ·
                              intro w';go_simp;with_reducible rfl
                             rotate_left
                             ·
                              simp only[Act.put,sa',sb',sc',i64_w,i32_w];rfl
                             refine pure_ (i:=1) (N:=some 91) (v:=?_) (a':=?_) #[true,true,false,false,false,false,false,false,false] rfl rfl (any_of HT_.out (by kernel_rfl)) (fun _ _ _ h=>h) (Or.inl ⟨by rfl,?_⟩) ?_ ?_
                             rotate_left
                             ·
                              intro w';go_simp;with_reducible rfl
                             rotate_left
                             ·
                              simp only[Act.put,sa',sb',sc',i64_w,i32_w];rfl
                             refine pure_ (i:=2) (N:=some 92) (v:=?_) (a':=?_) #[true,true,true,false,false,false,false,false,false] rfl rfl (any_of HT_.out (by kernel_rfl)) (fun _ _ _ h=>h) (Or.inl ⟨by rfl,?_⟩) ?_ ?_
                             rotate_left
                             ·
                              intro w';go_simp;with_reducible rfl
                             rotate_left
                             ·
                              simp only[Act.put,sa',sb',sc',i64_w,i32_w];rfl
                             refine pure_ (i:=5) (N:=some 95) (v:=?_) (a':=?_) #[true,true,true,false,false,true,false,false,false] rfl rfl (any_of HT_.out (by kernel_rfl)) (fun _ _ _ h=>h) (Or.inl ⟨by rfl,?_⟩) ?_ ?_
                             rotate_left
                             ·
                              intro w';go_simp;with_reducible rfl
                             rotate_left
                             ·
                              simp only[Act.put,sa',sb',sc',i64_w,i32_w];rfl
                             refine take_ (i:=3) (N:=some 93) (v:=?_) (a':=?_) #[true,true,true,true,false,true,false,false,false] rfl rfl (take_ofW HT_.out HW_.out (by kernel_rfl)) (fun _ _ _ h=>h) (Or.inl ⟨by rfl,?_⟩) hHeld ?_ ?_
                             rotate_left
                             ·
                              rintro w' ⟨s0,s1,s2⟩
                              go_simp;with_reducible rfl
                             rotate_left
                             ·
                              simp only[Act.put,sa',sb',sc',i64_w,i32_w];rfl
                             refine take_ (i:=4) (N:=some 94) (v:=?_) (a':=?_) #[true,true,true,true,true,true,false,false,false] rfl rfl (take_ofW HT_.out HW_.out (by kernel_rfl)) (fun _ _ _ h=>h) (Or.inl ⟨by rfl,?_⟩) hHeld ?_ ?_
                             rotate_left
                             ·
                              rintro w' ⟨s0,s1,s2⟩
                              go_simp;with_reducible rfl
                             rotate_left
                             ·
                              simp only[Act.put,sa',sb',sc',i64_w,i32_w];rfl
                             refine one_ (i:=6) (N:=some 96) #[true,true,true,true,true,true,true,false,false] rfl rfl (one_of HT_.out (by kernel_rfl)) (by decide) (fun K hK=>?_);refine goes_ Try.func51 (by kernel_rfl) rfl #[.agg #[.slice A0_0 l0_0.length c0_0, .int .i64 a0_1], .slice A212_0 (rd_L2 t209 x82_4).length c212_0] (by rfl) rfl rfl (by (try simp only[List.map_toArray,List.map_cons,List.map_nil]);first|done|rfl|(simp only[List.length_drop,List.length_take];rfl)) ?_
                             with_reducible refine (spec_paTime.calls k4 _ _ l0_0 a0_1 _ _ (rd_L2 t209 x82_4) t219 _ ?side1 ?side2 ?side3 ?side4 A74.out).mono ?_
                             (case side1=>repeat (first|exact (Kd.C_below HR0_0.out HB.out)|(with_reducible refine ca' ?_ _)|(with_reducible refine cn' ?_ _)|(with_reducible refine cd' ?_)))
                             (case side2=>exact HC0_0.out)
                             (case side3=>repeat (first|exact (by repeat (first|(with_reducible exact HR212_0.out)|(with_reducible refine ca' ?_ _)|(with_reducible refine cn' ?_ _)|(with_reducible refine cd' ?_)|exact HR212_0.out))|(with_reducible refine ca' ?_ _)|(with_reducible refine cn' ?_ _)|(with_reducible refine cd' ?_)))
                             (case side4=>exact HC212_0.out)
                             rintro e w108 ⟨rfl,hb⟩
                             have HS2_:=(hb.cell (bl' _ _ (hHeld.2.2))).trans (hHeld.2.2);refine ⟨_,rfl,?_⟩;have n0_:=am' (Kd.R_below (by (with_reducible repeat (first|apply ra'|apply rn'|apply rw'));exact HO_5.out) hb);have n1_:=am' (Kd.R_below (by (with_reducible repeat (first|apply ra'|apply rn'|apply rw'));exact HO_6.out) hb);have n2_:=am' (Kd.N_below (by (with_reducible repeat (first|apply Kd.N_alloc|apply Kd.N_drewN|apply Kd.N_drew));exact HO_80.out) hb);have n3_:=am' (Kd.R_below (by (with_reducible repeat (first|apply ra'|apply rn'|apply rw'));exact HO_209000.out) hb);have n4_:=am' (Kd.V_below (by (with_reducible repeat (first|apply Kd.V_alloc|apply Kd.V_drewN|apply Kd.V_drew));exact HL212_0.out) hb);have n5_:=am' (Kd.R_below (by (with_reducible repeat (first|apply ra'|apply rn'|apply rw'));exact HO215.out) hb);have n6_:=am' (blk_below (g:=gb189) (o := .cells #[.slice A0_0 l0_0.length c0_0, .int .i64 a0_1] 28 (0,0)) (by (with_reducible repeat (first|refine kn' ?_ _|refine kd' ?_|refine ka' ?_ _));exact BK189.out) hb);have n7_:=am' (blk_below (g:=gb190) (o := .cells #[.slice A1_0 l1_0.length c1_0, .bool a1_1] 54 (0,0)) (by (with_reducible repeat (first|refine kn' ?_ _|refine kd' ?_|refine ka' ?_ _));exact BK190.out) hb);have n8_:=am' (blk_below (g:=gb208) (o := .cells #[.slice Ao60 t204.length co60, .bool t207] 54 (0,0)) (by (with_reducible repeat (first|refine kn' ?_ _|refine kd' ?_|refine ka' ?_ _));exact BK208.out) hb);have n9_:=am' (Kd.C_below (by repeat (first|(with_reducible exact HR212_0.out)|(with_reducible refine ca' ?_ _)|(with_reducible refine cn' ?_ _)|(with_reducible refine cd' ?_)|exact HR212_0.out)) hb);have n10_:=am' (below_step (by repeat (first|(with_reducible first|exact HB.out|apply ba'|apply bd'|apply be'|refine bs' ?_ GE189.out|refine bs' ?_ GE190.out|refine bs' ?_ GE208.out)|exact HB.out)) hb);clear HO_5;clear HO_6;clear HO_80;clear HO_209000;clear HL212_0;clear HO215;clear BK189;clear BK190;clear BK208;clear HR212_0;clear HB;have HO_5:=n0_;have HO_6:=n1_;have HO_80:=n2_;have HO_209000:=n3_;have HL212_0:=n4_;have HO215:=n5_;have BK189:=n6_;have BK190:=n7_;have BK208:=n8_;have HR212_0:=n9_;have HB:=n10_;clear n0_ n1_ n2_ n3_ n4_ n5_ n6_ n7_ n8_ n9_ n10_
                             (try clear hb)
                             (try clear hb2)
                             (try clear hk)
                             (try clear hi)
                             refine hK.out _ _ ⟨(blk_cell BK189.out 0).trans rfl,(blk_cell BK189.out 1).trans rfl,HS2_⟩ (fun hHeld=>?_);clear hK K;refine norm_ (a':=?_) ?_ ?_
                             rotate_left
                             ·
                              show Act.put _ (some 96) _=_
                              simp only[Act.put,sa',sb',sc',i64_w,i32_w];rfl
                             refine pure_ (i:=7) (N:=some 97) (v:=?_) (a':=?_) #[true,true,true,true,true,true,true,true,false] rfl rfl (any_of HT_.out (by kernel_rfl)) (fun _ _ _ h=>h) (Or.inl ⟨by rfl,?_⟩) ?_ ?_
                             rotate_left
                             ·
                              intro w';go_simp;with_reducible rfl
                             rotate_left
                             ·
                              simp only[Act.put,sa',sb',sc',i64_w,i32_w];rfl
                             refine pure_ (i:=8) (N:=some 15) (v:=?_) (a':=?_) #[true,true,true,true,true,true,true,true,true] rfl rfl (any_of HT_.out (by kernel_rfl)) (fun _ _ _ h=>h) (Or.inl ⟨by rfl,?_⟩) ?_ ?_
                             rotate_left
                             ·
                              intro w';go_simp;with_reducible rfl
                             rotate_left
                             ·
                              simp only[Act.put,sa',sb',sc',i64_w,i32_w];rfl
                             refine done_ (done_of HT_.out (by kernel_rfl)) ?_
                             have p220:0≤(t217:Int):=of_decide_eq_true (by first|(with_reducible assumption)|assumption);have q220:t217 < (x5_4.length:Int):=of_decide_eq_true (by first|(with_reducible assumption)|assumption);obtain ⟨ad220,e220,hx220_0⟩:=Kd.at_int (Kd.R_reads' HO_5.out).2.2 t217 p220 q220;obtain rfl:(⟨go26,0,none⟩:Addr)=ad220:=(by injection e220)
                             (first|simp only[add_plain] at hx220_0|simp only[add_at] at hx220_0|simp only[Addr.add,Nat.zero_add] at hx220_0|skip)
                             replace p220:=eq_true p220;replace q220:=eq_true q220;have p222:0≤(t217:Int):=of_decide_eq_true (by first|(with_reducible assumption)|assumption);have q222:t217 < (x5_4.length:Int):=of_decide_eq_true (by first|(with_reducible assumption)|assumption);obtain ⟨ad222,e222,hx222_0⟩:=Kd.at_int (Kd.R_reads' HO_5.out).2.2 t217 p222 q222;obtain rfl:(⟨go26,0,none⟩:Addr)=ad222:=(by injection e222)
                             (first|simp only[add_plain] at hx222_0|simp only[add_at] at hx222_0|simp only[Addr.add,Nat.zero_add] at hx222_0|skip)
                             replace p222:=eq_true p222;replace q222:=eq_true q222
                             try go_wp2
                             (try simp only[← hl5_4,← hl6_4])
                             go_roundg k4
                             case measure=>have:=HK1.out;have:=HK2.out;have:=HK3.out;have:=HK4.out;omega
                             case rel=>exact ⟨(x5_4),(wrap64 (x82_4+1)),(by first|rfl|(simp;done)|(simp[*];done)),H',⟨by have:=HK1.out;have:=HK2.out;have:=HK3.out;have:=HK4.out;omega⟩,⟨by (try simp only[hl5_1]);(try simp only[hl5_2]);(try simp only[hl5_4]);(try simp only[hl6_4]);(with_reducible repeat (first|apply ra'|apply rn'|apply rw'));exact HO_5.out⟩,⟨by (try simp only[hl5_1]);(try simp only[hl5_2]);(try simp only[hl5_4]);(try simp only[hl6_4]);(with_reducible repeat (first|apply ra'|apply rn'|apply rw'));exact Kd.R_mono HO_6.out (fun _ hk=>hk.1)⟩,⟨by (try simp only[hl5_1]);(try simp only[hl5_2]);(try simp only[hl5_4]);(try simp only[hl6_4]);(with_reducible repeat (first|apply Kd.N_alloc|apply Kd.N_drewN|apply Kd.N_drew));exact Kd.N_mono HO_80.out (fun _ hk=>⟨hk.1.1,⟨hk.1.2.1,⟨hk.1.2.2.1,⟨hk.1.2.2.2.1,⟨hk.1.2.2.2.2.1,hk.1.2.2.2.2.2⟩⟩⟩⟩⟩)⟩,⟨by (try simp only[hl5_1]);(try simp only[hl5_2]);(try simp only[hl5_4]);(try simp only[hl6_4]);(with_reducible repeat (first|apply ra'|apply rn'|apply rw'));exact Kd.R_mono HO_209000.out (fun _ hk=>hk.1)⟩,⟨by (try simp only[hl5_1]);(try simp only[hl5_2]);(try simp only[hl5_4]);(try simp only[hl6_4]);(with_reducible repeat (first|refine kn' ?_ _|refine kd' ?_|refine ka' ?_ _));exact BK189.out⟩,⟨by (try simp only[hl5_1]);(try simp only[hl5_2]);(try simp only[hl5_4]);(try simp only[hl6_4]);(with_reducible repeat (first|refine kn' ?_ _|refine kd' ?_|refine ka' ?_ _));exact BK190.out⟩,⟨by (try simp only[hl5_1]);(try simp only[hl5_2]);(try simp only[hl5_4]);(try simp only[hl6_4]);(with_reducible repeat (first|refine kn' ?_ _|refine kd' ?_|refine ka' ?_ _));exact BK208.out⟩,⟨by repeat (first|(with_reducible first|exact HB.out|apply ba'|apply bd'|apply be'|refine bs' ?_ GE189.out|refine bs' ?_ GE190.out|refine bs' ?_ GE208.out)|exact HB.out)⟩⟩
                          ·
                           rw[if_neg c76] at H;exact absurd H (by simp)
                         ·
                          rw[if_neg c75] at H;exact absurd H (by simp)
                        ·
                         rw[if_neg c73] at H;exact absurd H (by simp)
                       ·
                        rw[if_neg c72] at H;exact absurd H (by simp)
                      ·
                       rw[if_neg c69] at H;exact absurd H (by simp)
                     ·
                      rw[if_neg c68] at H;exact absurd H (by simp)
                    ·
                     rw[if_neg c67] at H;have c67b0:decide (x82_4 < (t209.length:Int))=false:=decide_eq_false c67;clear c67;have H':=am' H;clear H;go_wp2
                     (try simp only[← hl5_2,← hl5_4,← hl6_4])
                     go_roundg k4
                     case measure=>have:=HK1.out;have:=HK2.out;have:=HK3.out;have:=HK4.out;omega
                     case rel=>exact ⟨(x5_4),(y203),H',⟨by have:=HK1.out;have:=HK2.out;have:=HK3.out;have:=HK4.out;omega⟩,⟨by (try simp only[hl5_1]);(try simp only[hl5_2]);(try simp only[hl5_4]);(try simp only[hl6_4]);(with_reducible repeat (first|apply ra'|apply rn'|apply rw'));exact HO_5.out⟩,⟨by (try simp only[hl5_1]);(try simp only[hl5_2]);(try simp only[hl5_4]);(try simp only[hl6_4]);(with_reducible repeat (first|apply ra'|apply rn'|apply rw'));exact Kd.R_mono HO_6.out (fun _ hk=>trivial)⟩,⟨by (try simp only[hl5_1]);(try simp only[hl5_2]);(try simp only[hl5_4]);(try simp only[hl6_4]);(with_reducible repeat (first|refine kn' ?_ _|refine kd' ?_|refine ka' ?_ _));exact BK189.out⟩,⟨by (try simp only[hl5_1]);(try simp only[hl5_2]);(try simp only[hl5_4]);(try simp only[hl6_4]);(with_reducible repeat (first|refine kn' ?_ _|refine kd' ?_|refine ka' ?_ _));exact BK190.out⟩,⟨by repeat (first|(with_reducible first|exact HB.out|apply ba'|apply bd'|apply be'|refine bs' ?_ GE189.out|refine bs' ?_ GE190.out|refine bs' ?_ GE208.out)|exact HB.out)⟩⟩
                 ·
                  rw[if_neg c50] at H;exact absurd H (by simp)
                ·
                 rw[if_neg c49] at H;exact absurd H (by simp)
         ·
          rw[if_neg c25] at H;exact absurd H (by simp)
        ·
         rw[if_neg c24] at H;exact absurd H (by simp)
    ·
     rw[if_neg c7] at H;exact absurd H (by simp)
   ·
    rw[if_neg c6] at H;exact absurd H (by simp)
  ·
   rw[if_neg c5] at H;exact absurd H (by simp)
 ·
  rw[if_neg c4] at H;exact absurd H (by simp)
end Go.Proofs.Ytihieplobgehaaa.C1
