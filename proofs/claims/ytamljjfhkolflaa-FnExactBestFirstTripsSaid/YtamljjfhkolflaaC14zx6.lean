import Derived.Test.YtamljjfhkolflaaC14zx0
import Derived.Test.YtamljjfhkolflaaC14zx2
import Derived.Test.YtamljjfhkolflaaC14zx5
import Derived.Test.YtamljjfhkolflaaC14zAl
namespace Go.Proofs.Ytamljjfhkolflaa.C14
open Go.RowKit Go.Proofs.YtamljjfhkolflaaW.PrintWords Go.Proofs.YtamljjfhkolflaaW.PrintLast Go.Proofs.YtamljjfhkolflaaW.PrintMore Go.Proofs.Ytamljjfhkolflaa.H
attribute [local go_sem] max2_int min2_int max_two min_two max_three min_three max_four min_four
set_option linter.unusedVariables false
set_option linter.unusedSimpArgs false
def spec_paFirst.f (l0_0:List Int) (a0_1:Int):Option (List Bool × Bool):=if 0≤(l0_0.length:Int) then (if ((l0_0.length:Int):Int).toNat≤281474976710656 then (some ((List.replicate ((l0_0.length:Int):Int).toNat false),false)) else (none)) else (none)
set_option maxHeartbeats 8000000 in
set_option maxRecDepth 100000 in
theorem spec_paFirst.calls (A0_0:Option Addr) (c0_0:Nat) (l0_0:List Int) (a0_1:Int) (r1:List Bool) (r2:Bool) (w:World) (hr0_0:Kd.C (Kd.int .i64) w A0_0 l0_0.length l0_0) (hc0_0:l0_0.length≤c0_0) (h:spec_paFirst.f l0_0 a0_1=some (r1,r2)) :
  Calls Try.prog 62 #[.agg #[.slice A0_0 l0_0.length c0_0, .int .i64 a0_1]] w fun e w'=>∃ v0_:Value,e = .returned (.agg #[v0_, .bool r2])∧Kd.R Kd.bool 4 w' w.heap.size (fun _=>True) v0_ r1∧Below w.heap.size w w':=by
 have hu28:=Try.underlying28
 have hu44:=Try.underlying44
 have HR0_0:=am' hr0_0
 have HC0_0:=am' hc0_0
 clear hr0_0 hc0_0;have HB:=am' (Below.refl w.heap.size w)
 have H:(if 0≤(l0_0.length:Int) then (if ((l0_0.length:Int):Int).toNat≤281474976710656 then (some ((List.replicate ((l0_0.length:Int):Int).toNat false),false)) else (none)) else (none))=some (r1,r2):=h
 clear h;by_cases c2:0≤(l0_0.length:Int)
 ·
  rw[if_pos c2] at H;have c2b0:=eq_true c2;have c2b1:decide (0≤(l0_0.length:Int))=true:=decide_eq_true c2;clear c2;by_cases c3:((l0_0.length:Int):Int).toNat≤281474976710656
  ·
   rw[if_pos c3] at H;have c3b0:=eq_true c3;have c3b1:decide (((l0_0.length:Int):Int).toNat≤281474976710656)=true:=decide_eq_true c3;clear c3;obtain ⟨y230,hy230⟩:∃ y_:List Bool,y_=(List.replicate ((l0_0.length:Int):Int).toNat false):=⟨_,rfl⟩
   replace H:(some (y230,false))=some (r1,r2):=by first|(rw[hy230];with_reducible exact H)|(have H2_:=(Option.bind_some _ _).symm.trans H;rw[hy230];with_reducible exact H2_)|(have H2_:=(Option.bind_some _ _).symm.trans H;with_reducible exact H2_)|with_reducible exact H|(rw[hy230];exact H)|exact H
   have Ny230:=am' hy230;clear hy230;simp only[Option.some.injEq,Prod.mk.injEq] at H;obtain ⟨rfl,rfl⟩:=H;go_enter Try.func62,Try.ntmps62;go_wp2_with (first|((with_reducible refine gate_dst (N:=1) rfl ?_);refine box_event ?hg (N:=1) ?hd (cs:=#[.slice A0_0 l0_0.length c0_0, .int .i64 a0_1]) (t:=28) ?hr ?_;(case hd=>rfl);(case hg=>rfl);(case hr=>first|(go_simp;done)|(go_simp;rfl));intro gb228 hg w4 hbox hb;have n0_:=am' (below_step (by repeat (first|(with_reducible first|exact HB.out|apply ba'|apply bd'|apply be')|exact HB.out)) hb);have n1_:=am' (hbox);have n2_:=am' ((by rw[hg];exact (below_size (by repeat (first|(with_reducible first|exact HB.out|apply ba'|apply bd'|apply be')|exact HB.out))):w.heap.size≤gb228));have n3_:=am' ((by rw[hg];exact (below_size (by repeat (first|(with_reducible first|exact HB.out|apply ba'|apply bd'|apply be')|exact HB.out))):w.heap.size≤gb228));clear HB;have HB:=n0_;have BK228:=n1_;have GW228:=n2_;have GE228:=n3_;clear n0_ n1_ n2_ n3_;clear hb hbox hg)|((with_reducible refine gate_dst (N:=2) rfl ?_);refine box_event ?hg (N:=2) ?hd (cs:=#[.slice none 0 0, .bool false]) (t:=44) ?hr ?_;(case hd=>rfl);(case hg=>rfl);(case hr=>first|(go_simp;done)|(go_simp;rfl));intro gb229 hg w5 hbox hb;have n0_:=am' (blk_below (g:=gb228) (o := .cells #[.slice A0_0 l0_0.length c0_0, .int .i64 a0_1] 28 (0,0)) (by (with_reducible repeat (first|refine kn' ?_ _|refine kd' ?_|refine ka' ?_ _));exact BK228.out) hb);have n1_:=am' (below_step (by repeat (first|(with_reducible first|exact HB.out|apply ba'|apply bd'|apply be'|refine bs' ?_ GE228.out)|exact HB.out)) hb);have n2_:=am' (hbox);have n3_:=am' ((by rw[hg];exact (below_size (by repeat (first|(with_reducible first|exact HB.out|apply ba'|apply bd'|apply be'|refine bs' ?_ GE228.out)|exact HB.out))):w.heap.size≤gb229));have n4_:=am' ((by rw[hg];exact (below_size (by repeat (first|(with_reducible first|exact HB.out|apply ba'|apply bd'|apply be'|refine bs' ?_ GE228.out)|exact HB.out))):w.heap.size≤gb229));have n5_:=am' ((by rw[hg];exact Nat.ne_of_lt (blk_lt (g:=gb228) (o := .cells #[.slice A0_0 l0_0.length c0_0, .int .i64 a0_1] 28 (0,0)) (by (with_reducible repeat (first|refine kn' ?_ _|refine kd' ?_|refine ka' ?_ _));exact BK228.out)):gb228≠gb229));have n6_:=am' ((by rw[hg];exact Nat.ne_of_gt (blk_lt (g:=gb228) (o := .cells #[.slice A0_0 l0_0.length c0_0, .int .i64 a0_1] 28 (0,0)) (by (with_reducible repeat (first|refine kn' ?_ _|refine kd' ?_|refine ka' ?_ _));exact BK228.out)):gb229≠gb228));clear BK228;clear HB;have BK228:=n0_;have HB:=n1_;have BK229:=n2_;have GW229:=n3_;have GE229:=n4_;have NB228_229:=n5_;have NB229_228:=n6_;clear n0_ n1_ n2_ n3_ n4_ n5_ n6_;clear hb hbox hg;have hnb6:=NB228_229.out;have hnc6:=NB229_228.out;have hcz7_0:w5.cell? ⟨gb228,0,none⟩=some (.slice A0_0 l0_0.length c0_0):=(blk_cell BK228.out 0).trans rfl;have hcz7_1:w5.cell? ⟨gb228,1,none⟩=some (.int .i64 a0_1):=(blk_cell BK228.out 1).trans rfl;have hfz7_0:=blk_frozen BK228.out 0;have hfz7_1:=blk_frozen BK228.out 1)|((with_reducible refine gate_dst (N:=6) rfl ?_);refine Kd.R_make Kd.bool _ 4 rfl (N:=6) rfl 39 _ _ rfl (l0_0.length:Int) rfl rfl Try.underlying39 (.bool false) 1 info4 rfl (by decide) (by omega) false (ok:=fun _=>True) (okp:=fun _=>True) rfl (fun _ hk=>hk) trivial (of_decide_eq_true (by first|(with_reducible assumption)|assumption)) (Nat.le_trans (Nat.mul_le_mul_right _ (of_decide_eq_true (by first|(with_reducible assumption)|assumption):(l0_0.length:Int).toNat≤281474976710656)) (by omega)) (Below.refl _ _) (Nat.le_refl _) ?_;intro v231 w8 ho9 hb hg_ hnew_;clear hg_ hnew_;(first|rw[← Ny230.out] at ho9|(simp only[Int.reduceToNat] at ho9;rw[← Ny230.out] at ho9));have n0_:=am' (Kd.R_lower ho9 (below_size (by repeat (first|(with_reducible first|exact HB.out|apply ba'|apply bd'|apply be'|refine bs' ?_ GE228.out|refine bs' ?_ GE229.out)|exact HB.out))));have n1_:=am' (blk_below (g:=gb228) (o := .cells #[.slice A0_0 l0_0.length c0_0, .int .i64 a0_1] 28 (0,0)) (by (with_reducible repeat (first|refine kn' ?_ _|refine kd' ?_|refine ka' ?_ _));exact BK228.out) hb);have n2_:=am' (blk_below (g:=gb229) (o := .cells #[.slice none 0 0, .bool false] 44 (0,0)) (by (with_reducible repeat (first|refine kn' ?_ _|refine kd' ?_|refine ka' ?_ _));exact BK229.out) hb);have n3_:=am' (below_step (by repeat (first|(with_reducible first|exact HB.out|apply ba'|apply bd'|apply be'|refine bs' ?_ GE228.out|refine bs' ?_ GE229.out)|exact HB.out)) hb);clear BK228;clear BK229;clear HB;have HO232:=n0_;have BK228:=n1_;have BK229:=n2_;have HB:=n3_;clear n0_ n1_ n2_ n3_;clear hb ho9;obtain ⟨Ao10,co10,eo10⟩:=Kd.R_slice HO232.out;subst eo10;have hcz11_0:w8.cell? ⟨gb229,0,none⟩=some (.slice none 0 0):=(blk_cell BK229.out 0).trans rfl;have hcz11_1:w8.cell? ⟨gb229,1,none⟩=some (.bool false):=(blk_cell BK229.out 1).trans rfl;have hfz11_0:=blk_frozen BK229.out 0;have hfz11_1:=blk_frozen BK229.out 1))
   refine bodyPost_ret (results_cell_row rfl _ _ gb229 44 #[.slice Ao10 y230.length co10, .bool false] (0,0) _ rfl (by (with_reducible repeat (first|refine kn' ?_ _|refine kd' ?_|refine ka' ?_ _));refine blk_put (cs:=#[.slice Ao10 y230.length co10, .bool false]) ?_ 1 _ rfl;(with_reducible repeat (first|refine kn' ?_ _|refine kd' ?_|refine ka' ?_ _));refine blk_put (cs:=#[.slice none 0 0, .bool false]) ?_ 0 _ rfl;(with_reducible repeat (first|refine kn' ?_ _|refine kd' ?_|refine ka' ?_ _));exact BK229.out) Try.underlying44 rfl (by kernel_rfl)) rfl ?_
   exact ⟨_,by first|rfl|(simp[errW_none,errW_some] <;> rfl)|(simp[*,errW_none,errW_some] <;> rfl),by (with_reducible repeat (first|apply ra'|apply rn'|apply rw'));exact Kd.R_mono (Kd.R_far (p:=⟨gb229,1,none⟩) (Kd.R_far (p:=⟨gb229,0,none⟩) (Kd.R_types HO232.out BK229.out (by decide)) (fun _ hk=>hk.2) (.slice Ao10 y230.length co10)) (fun _ hk=>hk.2) (.bool false)) (fun _ hk=>trivial),by repeat (first|(with_reducible first|exact HB.out|apply ba'|apply bd'|apply be'|refine bs' ?_ GE228.out|refine bs' ?_ GE229.out)|exact HB.out)⟩
  ·
   rw[if_neg c3] at H;exact absurd H (by simp)
 ·
  rw[if_neg c2] at H;exact absurd H (by simp)
def spec_paLast.l0:Nat→Int→Int→List Bool→Bool→Option (List Bool × Bool)
 | 0,_,_,_,_=>none
 | k+1,x7,x8,x236000,x236001=>if x8 < x7 then (if x236000.length < 140737488355328 then (spec_paLast.l0 k x7 (wrap64 (x8+1)) (x236000 ++ [true]) x236001) else (none)) else (some (x236000,x236001))
def spec_paLast.f (k:Nat) (l0_0:List Int) (a0_1:Int):Option (List Bool × Bool):=spec_paLast.l0 k (l0_0.length:Int) 0 ([]:List Bool) true
set_option maxHeartbeats 8000000 in
set_option maxRecDepth 100000 in
theorem spec_paLast.calls (k:Nat) (A0_0:Option Addr) (c0_0:Nat) (l0_0:List Int) (a0_1:Int) (r1:List Bool) (r2:Bool) (w:World) (hr0_0:Kd.C (Kd.int .i64) w A0_0 l0_0.length l0_0) (hc0_0:l0_0.length≤c0_0) (h:spec_paLast.f k l0_0 a0_1=some (r1,r2)) :
  Calls Try.prog 83 #[.agg #[.slice A0_0 l0_0.length c0_0, .int .i64 a0_1]] w fun e w'=>∃ v0_:Value,e = .returned (.agg #[v0_, .bool r2])∧Kd.R Kd.bool 4 w' w.heap.size (fun _=>True) v0_ r1∧Below w.heap.size w w':=by
 have hu28:=Try.underlying28
 have hu44:=Try.underlying44
 have HR0_0:=am' hr0_0
 have HC0_0:=am' hc0_0
 clear hr0_0 hc0_0;have HB:=am' (Below.refl w.heap.size w)
 have H:(spec_paLast.l0 k (l0_0.length:Int) 0 ([]:List Bool) true)=some (r1,r2):=h
 clear h;have H':=am' H
 clear H;go_enter Try.func83,Try.ntmps83
 go_wp2_with (first|((with_reducible refine gate_dst (N:=1) rfl ?_);refine box_event ?hg (N:=1) ?hd (cs:=#[.slice A0_0 l0_0.length c0_0, .int .i64 a0_1]) (t:=28) ?hr ?_;(case hd=>rfl);(case hg=>rfl);(case hr=>first|(go_simp;done)|(go_simp;rfl));intro gb233 hg w2 hbox hb;have n0_:=am' (below_step (by repeat (first|(with_reducible first|exact HB.out|apply ba'|apply bd'|apply be')|exact HB.out)) hb);have n1_:=am' (hbox);have n2_:=am' ((by rw[hg];exact (below_size (by repeat (first|(with_reducible first|exact HB.out|apply ba'|apply bd'|apply be')|exact HB.out))):w.heap.size≤gb233));have n3_:=am' ((by rw[hg];exact (below_size (by repeat (first|(with_reducible first|exact HB.out|apply ba'|apply bd'|apply be')|exact HB.out))):w.heap.size≤gb233));clear HB;have HB:=n0_;have BK233:=n1_;have GW233:=n2_;have GE233:=n3_;clear n0_ n1_ n2_ n3_;clear hb hbox hg)|((with_reducible refine gate_dst (N:=2) rfl ?_);refine box_event ?hg (N:=2) ?hd (cs:=#[.slice none 0 0, .bool false]) (t:=44) ?hr ?_;(case hd=>rfl);(case hg=>rfl);(case hr=>first|(go_simp;done)|(go_simp;rfl));intro gb234 hg w3 hbox hb;have n0_:=am' (blk_below (g:=gb233) (o := .cells #[.slice A0_0 l0_0.length c0_0, .int .i64 a0_1] 28 (0,0)) (by (with_reducible repeat (first|refine kn' ?_ _|refine kd' ?_|refine ka' ?_ _));exact BK233.out) hb);have n1_:=am' (below_step (by repeat (first|(with_reducible first|exact HB.out|apply ba'|apply bd'|apply be'|refine bs' ?_ GE233.out)|exact HB.out)) hb);have n2_:=am' (hbox);have n3_:=am' ((by rw[hg];exact (below_size (by repeat (first|(with_reducible first|exact HB.out|apply ba'|apply bd'|apply be'|refine bs' ?_ GE233.out)|exact HB.out))):w.heap.size≤gb234));have n4_:=am' ((by rw[hg];exact (below_size (by repeat (first|(with_reducible first|exact HB.out|apply ba'|apply bd'|apply be'|refine bs' ?_ GE233.out)|exact HB.out))):w.heap.size≤gb234));have n5_:=am' ((by rw[hg];exact Nat.ne_of_lt (blk_lt (g:=gb233) (o := .cells #[.slice A0_0 l0_0.length c0_0, .int .i64 a0_1] 28 (0,0)) (by (with_reducible repeat (first|refine kn' ?_ _|refine kd' ?_|refine ka' ?_ _));exact BK233.out)):gb233≠gb234));have n6_:=am' ((by rw[hg];exact Nat.ne_of_gt (blk_lt (g:=gb233) (o := .cells #[.slice A0_0 l0_0.length c0_0, .int .i64 a0_1] 28 (0,0)) (by (with_reducible repeat (first|refine kn' ?_ _|refine kd' ?_|refine ka' ?_ _));exact BK233.out)):gb234≠gb233));clear BK233;clear HB;have BK233:=n0_;have HB:=n1_;have BK234:=n2_;have GW234:=n3_;have GE234:=n4_;have NB233_234:=n5_;have NB234_233:=n6_;clear n0_ n1_ n2_ n3_ n4_ n5_ n6_;clear hb hbox hg)|((with_reducible refine gate_dst (N:=3) rfl ?_);refine box_event ?hg (N:=3) ?hd (cs:=#[.slice none 0 0, .bool false]) (t:=44) ?hr ?_;(case hd=>rfl);(case hg=>rfl);(case hr=>first|(go_simp;done)|(go_simp;rfl));intro gb235 hg w4 hbox hb;have n0_:=am' (blk_below (g:=gb233) (o := .cells #[.slice A0_0 l0_0.length c0_0, .int .i64 a0_1] 28 (0,0)) (by (with_reducible repeat (first|refine kn' ?_ _|refine kd' ?_|refine ka' ?_ _));exact BK233.out) hb);have n1_:=am' (blk_below (g:=gb234) (o := .cells #[.slice none 0 0, .bool false] 44 (0,0)) (by (with_reducible repeat (first|refine kn' ?_ _|refine kd' ?_|refine ka' ?_ _));exact BK234.out) hb);have n2_:=am' (below_step (by repeat (first|(with_reducible first|exact HB.out|apply ba'|apply bd'|apply be'|refine bs' ?_ GE233.out|refine bs' ?_ GE234.out)|exact HB.out)) hb);have n3_:=am' (hbox);have n4_:=am' ((by rw[hg];exact (below_size (by repeat (first|(with_reducible first|exact HB.out|apply ba'|apply bd'|apply be'|refine bs' ?_ GE233.out|refine bs' ?_ GE234.out)|exact HB.out))):w.heap.size≤gb235));have n5_:=am' ((by rw[hg];exact (below_size (by repeat (first|(with_reducible first|exact HB.out|apply ba'|apply bd'|apply be'|refine bs' ?_ GE233.out|refine bs' ?_ GE234.out)|exact HB.out))):w.heap.size≤gb235));have n6_:=am' ((by rw[hg];exact Nat.ne_of_lt (blk_lt (g:=gb233) (o := .cells #[.slice A0_0 l0_0.length c0_0, .int .i64 a0_1] 28 (0,0)) (by (with_reducible repeat (first|refine kn' ?_ _|refine kd' ?_|refine ka' ?_ _));exact BK233.out)):gb233≠gb235));have n7_:=am' ((by rw[hg];exact Nat.ne_of_gt (blk_lt (g:=gb233) (o := .cells #[.slice A0_0 l0_0.length c0_0, .int .i64 a0_1] 28 (0,0)) (by (with_reducible repeat (first|refine kn' ?_ _|refine kd' ?_|refine ka' ?_ _));exact BK233.out)):gb235≠gb233));have n8_:=am' ((by rw[hg];exact Nat.ne_of_lt (blk_lt (g:=gb234) (o := .cells #[.slice none 0 0, .bool false] 44 (0,0)) (by (with_reducible repeat (first|refine kn' ?_ _|refine kd' ?_|refine ka' ?_ _));exact BK234.out)):gb234≠gb235));have n9_:=am' ((by rw[hg];exact Nat.ne_of_gt (blk_lt (g:=gb234) (o := .cells #[.slice none 0 0, .bool false] 44 (0,0)) (by (with_reducible repeat (first|refine kn' ?_ _|refine kd' ?_|refine ka' ?_ _));exact BK234.out)):gb235≠gb234));clear BK233;clear BK234;clear HB;have BK233:=n0_;have BK234:=n1_;have HB:=n2_;have BK235:=n3_;have GW235:=n4_;have GE235:=n5_;have NB233_235:=n6_;have NB235_233:=n7_;have NB234_235:=n8_;have NB235_234:=n9_;clear n0_ n1_ n2_ n3_ n4_ n5_ n6_ n7_ n8_ n9_;clear hb hbox hg;have hnb5:=NB235_233.out;have hnc5:=NB233_235.out;have hnb6:=NB235_234.out;have hnc6:=NB234_235.out;have hcz7_0:w4.cell? ⟨gb235,0,none⟩=some (.slice none 0 0):=(blk_cell BK235.out 0).trans rfl;have hcz7_1:w4.cell? ⟨gb235,1,none⟩=some (.bool false):=(blk_cell BK235.out 1).trans rfl;have hfz7_0:=blk_frozen BK235.out 0;have hfz7_1:=blk_frozen BK235.out 1;have hnb8:=NB233_234.out;have hnc8:=NB234_233.out;have hcz9_0:w4.cell? ⟨gb233,0,none⟩=some (.slice A0_0 l0_0.length c0_0):=(blk_cell BK233.out 0).trans rfl;have hcz9_1:w4.cell? ⟨gb233,1,none⟩=some (.int .i64 a0_1):=(blk_cell BK233.out 1).trans rfl;have hfz9_0:=blk_frozen BK233.out 0;have hfz9_1:=blk_frozen BK233.out 1))
 go_loopg [8] k (fun kq v8 w'=>∃ (x8_1:Int) (x236000_1:List Bool) (u236000:Value),v8 = .int .i64 x8_1∧Aside0 (spec_paLast.l0 kq (l0_0.length:Int) x8_1 x236000_1 true=some (r1,r2))∧Aside0 (kq≤k)∧Aside0 (Kd.R Kd.bool 4 w' w.heap.size (fun _=>True) u236000 x236000_1)∧Aside0 (w'.heap[gb233]? = some (.cells #[(.slice A0_0 l0_0.length c0_0), .int .i64 a0_1] 28 (0,0)))∧Aside0 (w'.heap[gb234]? = some (.cells #[(.slice none 0 0), .bool false] 44 (0,0)))∧Aside0 (w'.heap[gb235]? = some (.cells #[u236000, .bool true] 44 (0,0)))∧Aside0 (Below w.heap.size w w'))
 case atStart=>exact ⟨(0),(([]:List Bool)),(.slice none 0 0),(by first|rfl|(simp;done)|(simp[*];done)),H',⟨Nat.le_refl _⟩,⟨by first|exact Kd.R_nil _ _ _ _ _|exact Kd.N_nil _ _ _ _ _|exact Kd.V_nil _ _ _ _ _|exact Kd.Q_nil _ _ _ _ _|exact Kd.S_nil _ _ _ _ _⟩,⟨by (with_reducible repeat (first|refine kn' ?_ _|refine kd' ?_|refine ka' ?_ _));refine blk_far ?_ NB233_235.out _;(with_reducible repeat (first|refine kn' ?_ _|refine kd' ?_|refine ka' ?_ _));refine blk_far ?_ NB233_235.out _;(with_reducible repeat (first|refine kn' ?_ _|refine kd' ?_|refine ka' ?_ _));exact BK233.out⟩,⟨by (with_reducible repeat (first|refine kn' ?_ _|refine kd' ?_|refine ka' ?_ _));refine blk_far ?_ NB234_235.out _;(with_reducible repeat (first|refine kn' ?_ _|refine kd' ?_|refine ka' ?_ _));refine blk_far ?_ NB234_235.out _;(with_reducible repeat (first|refine kn' ?_ _|refine kd' ?_|refine ka' ?_ _));exact BK234.out⟩,⟨by (with_reducible repeat (first|refine kn' ?_ _|refine kd' ?_|refine ka' ?_ _));refine blk_put (cs:=#[.slice none 0 0, .bool false]) ?_ 1 _ rfl;(with_reducible repeat (first|refine kn' ?_ _|refine kd' ?_|refine ka' ?_ _));refine blk_put (cs:=#[.slice none 0 0, .bool false]) ?_ 0 _ rfl;(with_reducible repeat (first|refine kn' ?_ _|refine kd' ?_|refine ka' ?_ _));exact BK235.out⟩,⟨by repeat (first|(with_reducible first|exact HB.out|apply ba'|apply bd'|apply be'|refine bs' ?_ GE233.out|refine bs' ?_ GE234.out|refine bs' ?_ GE235.out)|exact HB.out)⟩⟩
 case round =>
  clear H';try clear p2
  try clear c5
  try clear c6
  try clear c8
  try clear hcz7_0
  try clear hcz7_1
  try clear hcz9_0
  try clear hcz9_1
  try clear hfz7_0
  try clear hfz7_1
  try clear hfz9_0
  try clear hfz9_1
  obtain ⟨x8_1,x236000_1,u236000,rfl,HA,HK1,HO_236000,BK233,BK234,BK235,HB⟩:=hrel;cases gk with
  | zero=>exact absurd HA.out (by simp[spec_paLast.l0])
  | succ k1 =>
   have H:=HA.out;clear HA;simp only[spec_paLast.l0] at H;by_cases c10:x8_1 < (l0_0.length:Int)
   ·
    rw[if_pos c10] at H;have c10b0:decide (x8_1 < (l0_0.length:Int))=true:=decide_eq_true c10;clear c10;by_cases c11:x236000_1.length < 140737488355328
    ·
     rw[if_pos c11] at H;have LMc11:=am' c11;clear c11;obtain ⟨y236,hy236⟩:∃ y_:List Bool,y_=(x236000_1 ++ [true]):=⟨_,rfl⟩
     replace H:(spec_paLast.l0 k1 (l0_0.length:Int) (wrap64 (x8_1+1)) y236 true)=some (r1,r2):=by first|(rw[hy236];with_reducible exact H)|(have H2_:=(Option.bind_some _ _).symm.trans H;rw[hy236];with_reducible exact H2_)|(have H2_:=(Option.bind_some _ _).symm.trans H;with_reducible exact H2_)|with_reducible exact H|(rw[hy236];exact H)|exact H
     have Ny236:=am' hy236;clear hy236;have H':=am' H;clear H;have hnb12:=NB235_233.out;have hnc12:=NB233_235.out;have hnb13:=NB235_234.out;have hnc13:=NB234_235.out;have hcz14_0:wr.cell? ⟨gb235,0,none⟩=some (u236000):=(blk_cell BK235.out 0).trans rfl;have hcz14_1:wr.cell? ⟨gb235,1,none⟩=some (.bool true):=(blk_cell BK235.out 1).trans rfl;have hfz14_0:=blk_frozen BK235.out 0;have hfz14_1:=blk_frozen BK235.out 1;go_wp2_with (first|((with_reducible refine gate_builtin (b := .append) (xs:=#[.tmp 11, .tmp 12]) rfl ?_);at_builtin;refine Kd.R_append Kd.bool (w0:=w) w.heap.size rfl (.tmp 11) (.tmp 12) 39 4 (.bool false) 1 rfl Try.underlying39 info4 rfl (by decide) (by omega) u236000 x236000_1 true [.bool true] (fun _=>True) (fun _=>False) rfl rfl ?aP (fun _ hk=>hk.elim) ?aF ?aO ?aB ?aS ?aL ?_;(case aP=>exact rfl);(case aB=>exact (by repeat (first|(with_reducible first|exact HB.out|apply ba'|apply bd'|apply be'|refine bs' ?_ GE233.out|refine bs' ?_ GE234.out|refine bs' ?_ GE235.out)|exact HB.out)));(case aF=>exact (fun _ _=>trivial));(case aO=>exact (by (with_reducible repeat (first|apply ra'|apply rn'|apply rw'));exact HO_236000.out));(case aS=>exact (below_size (by repeat (first|(with_reducible first|exact HB.out|apply ba'|apply bd'|apply be'|refine bs' ?_ GE233.out|refine bs' ?_ GE234.out|refine bs' ?_ GE235.out)|exact HB.out))));(case aL=>have:=LMc11.out;omega);intro v237 w15 ho hb hg hat;rw[← Ny236.out] at ho;have n0_:=am' (blk_grown (g:=gb233) (o := .cells #[.slice A0_0 l0_0.length c0_0, .int .i64 a0_1] 28 (0,0)) (by (with_reducible repeat (first|refine kn' ?_ _|refine kd' ?_|refine ka' ?_ _));exact BK233.out) hg (Kd.R_ne HO_236000.out BK233.out (by decide)));have n1_:=am' (blk_grown (g:=gb234) (o := .cells #[.slice none 0 0, .bool false] 44 (0,0)) (by (with_reducible repeat (first|refine kn' ?_ _|refine kd' ?_|refine ka' ?_ _));exact BK234.out) hg (Kd.R_ne HO_236000.out BK234.out (by decide)));have n2_:=am' (blk_grown (g:=gb235) (o := .cells #[u236000, .bool true] 44 (0,0)) (by (with_reducible repeat (first|refine kn' ?_ _|refine kd' ?_|refine ka' ?_ _));exact BK235.out) hg (Kd.R_ne HO_236000.out BK235.out (by decide)));have n3_:=am' (hb);have n4_:=am' (ho);clear BK233;clear BK234;clear BK235;clear HB;clear HO_236000;have BK233:=n0_;have BK234:=n1_;have BK235:=n2_;have HB:=n3_;have HO238:=n4_;clear n0_ n1_ n2_ n3_ n4_;clear ho hb hg hat;obtain ⟨Ao16,co16,eo16⟩:=Kd.R_slice HO238.out;subst eo16;have hcz17_0:w15.cell? ⟨gb235,0,none⟩=some (u236000):=(blk_cell BK235.out 0).trans rfl;have hcz17_1:w15.cell? ⟨gb235,1,none⟩=some (.bool true):=(blk_cell BK235.out 1).trans rfl;have hfz17_0:=blk_frozen BK235.out 0;have hfz17_1:=blk_frozen BK235.out 1));go_roundg k1
     case measure=>have:=HK1.out;omega
     case rel=>exact ⟨(wrap64 (x8_1+1)),(y236),(.slice Ao16 y236.length co16),(by first|rfl|(simp;done)|(simp[*];done)),H',⟨by have:=HK1.out;omega⟩,⟨by (with_reducible repeat (first|apply ra'|apply rn'|apply rw'));exact Kd.R_mono (Kd.R_far (p:=⟨gb235,0,none⟩) (Kd.R_types HO238.out BK235.out (by decide)) (fun _ hk=>hk.2) (.slice Ao16 y236.length co16)) (fun _ hk=>trivial)⟩,⟨by (with_reducible repeat (first|refine kn' ?_ _|refine kd' ?_|refine ka' ?_ _));refine blk_far ?_ NB233_235.out _;(with_reducible repeat (first|refine kn' ?_ _|refine kd' ?_|refine ka' ?_ _));exact BK233.out⟩,⟨by (with_reducible repeat (first|refine kn' ?_ _|refine kd' ?_|refine ka' ?_ _));refine blk_far ?_ NB234_235.out _;(with_reducible repeat (first|refine kn' ?_ _|refine kd' ?_|refine ka' ?_ _));exact BK234.out⟩,⟨by (with_reducible repeat (first|refine kn' ?_ _|refine kd' ?_|refine ka' ?_ _));refine blk_put (cs:=#[u236000, .bool true]) ?_ 0 _ rfl;(with_reducible repeat (first|refine kn' ?_ _|refine kd' ?_|refine ka' ?_ _));exact BK235.out⟩,⟨by repeat (first|(with_reducible first|exact HB.out|apply ba'|apply bd'|apply be'|refine bs' ?_ GE233.out|refine bs' ?_ GE234.out|refine bs' ?_ GE235.out)|exact HB.out)⟩⟩
    ·
     rw[if_neg c11] at H;exact absurd H (by simp)
   ·
    rw[if_neg c10] at H;have c10b0:decide (x8_1 < (l0_0.length:Int))=false:=decide_eq_false c10;clear c10;simp only[Option.some.injEq,Prod.mk.injEq] at H;obtain ⟨rfl,rfl⟩:=H;have hnb18:=NB235_233.out;have hnc18:=NB233_235.out;have hnb19:=NB235_234.out;have hnc19:=NB234_235.out;have hcz20_0:wr.cell? ⟨gb235,0,none⟩=some (u236000):=(blk_cell BK235.out 0).trans rfl;have hcz20_1:wr.cell? ⟨gb235,1,none⟩=some (.bool true):=(blk_cell BK235.out 1).trans rfl;have hfz20_0:=blk_frozen BK235.out 0;have hfz20_1:=blk_frozen BK235.out 1;obtain ⟨Ao21,co21,eo21⟩:=Kd.R_slice HO_236000.out;subst eo21;have hnb22:=NB234_233.out;have hnc22:=NB233_234.out;have hcz23_0:wr.cell? ⟨gb234,0,none⟩=some (.slice none 0 0):=(blk_cell BK234.out 0).trans rfl;have hcz23_1:wr.cell? ⟨gb234,1,none⟩=some (.bool false):=(blk_cell BK234.out 1).trans rfl;have hfz23_0:=blk_frozen BK234.out 0;have hfz23_1:=blk_frozen BK234.out 1;go_wp2;refine bodyPost_ret (results_cell_row rfl _ _ gb234 44 #[.slice Ao21 x236000_1.length co21, .bool true] (0,0) _ rfl (by (with_reducible repeat (first|refine kn' ?_ _|refine kd' ?_|refine ka' ?_ _));refine blk_put (cs:=#[.slice Ao21 x236000_1.length co21, .bool false]) ?_ 1 _ rfl;(with_reducible repeat (first|refine kn' ?_ _|refine kd' ?_|refine ka' ?_ _));refine blk_put (cs:=#[.slice none 0 0, .bool false]) ?_ 0 _ rfl;(with_reducible repeat (first|refine kn' ?_ _|refine kd' ?_|refine ka' ?_ _));exact BK234.out) Try.underlying44 rfl (by kernel_rfl)) rfl ?_
    exact ⟨_,by first|rfl|(simp[errW_none,errW_some] <;> rfl)|(simp[*,errW_none,errW_some] <;> rfl),by (with_reducible repeat (first|apply ra'|apply rn'|apply rw'));exact Kd.R_mono (Kd.R_far (p:=⟨gb234,1,none⟩) (Kd.R_far (p:=⟨gb234,0,none⟩) (Kd.R_types HO_236000.out BK234.out (by decide)) (fun _ hk=>hk.2) (.slice Ao21 x236000_1.length co21)) (fun _ hk=>hk.2) (.bool true)) (fun _ hk=>trivial),by repeat (first|(with_reducible first|exact HB.out|apply ba'|apply bd'|apply be'|refine bs' ?_ GE233.out|refine bs' ?_ GE234.out|refine bs' ?_ GE235.out)|exact HB.out)⟩
def spec_seLeast.f (k:Nat) (l0_0:List Int) (a0_1:Int):Option (Int):=(spec_paFirst.f l0_0 a0_1).bind fun b1=>(spec_seFar.f k l0_0 a0_1 b1.1 b1.2).bind fun r=>(spec_paLast.f k l0_0 a0_1).bind fun b2=>(spec_seIndex.f k b2.1 b2.2).bind fun i=>if 0≤i∧i < (r.length:Int) then some (rd r i) else none
set_option maxHeartbeats 2000000 in
set_option maxRecDepth 100000 in
theorem spec_seLeast.calls (k:Nat) (A0_0:Option Addr) (c0_0:Nat) (l0_0:List Int) (a0_1:Int) (r:Int) (w:World) (hr0_0:Kd.C (Kd.int .i64) w A0_0 l0_0.length l0_0) (hc0_0:l0_0.length≤c0_0) (h:spec_seLeast.f k l0_0 a0_1=some r) :
  Calls Try.prog 69 #[.agg #[.slice A0_0 l0_0.length c0_0, .int .i64 a0_1]] w fun e w'=>e = .returned (.int .i64 r)∧Below w.heap.size w w':=by
 have hu0:=Try.underlying28
 have hu1:=Try.underlying44
 unfold spec_seLeast.f at h
 obtain ⟨⟨f1,f2⟩,hF,h⟩:=Option.bind_eq_some_iff.mp h
 obtain ⟨far,hR,h⟩:=Option.bind_eq_some_iff.mp h
 obtain ⟨⟨g1,g2⟩,hL,h⟩:=Option.bind_eq_some_iff.mp h
 obtain ⟨i,hI,h⟩:=Option.bind_eq_some_iff.mp h
 dsimp only at hF hR hL hI
 by_cases hi:0≤i∧i < (far.length:Int)
 ·
  rw[if_pos hi] at h;have hrd:=Option.some.inj h;have HF:=am' (fun (W:World) (hb:Below w.heap.size w W)=>spec_paFirst.calls A0_0 c0_0 l0_0 a0_1 f1 f2 W (Kd.C_below hr0_0 hb) hc0_0 hF);have HR:=am' (fun (W:World) (hb:Below w.heap.size w W) (A1:Option Addr) (c1:Nat) (hC:Kd.C Kd.bool W A1 f1.length f1) (hc:f1.length≤c1)=>spec_seFar.calls k A0_0 c0_0 l0_0 a0_1 A1 c1 f1 f2 far W (Kd.C_below hr0_0 hb) hc0_0 hC hc hR);have HL:=am' (fun (W:World) (hb:Below w.heap.size w W)=>spec_paLast.calls k A0_0 c0_0 l0_0 a0_1 g1 g2 W (Kd.C_below hr0_0 hb) hc0_0 hL);have HI:=am' (fun (W:World) (A1:Option Addr) (c1:Nat) (hC:Kd.C Kd.bool W A1 g1.length g1) (hc:g1.length≤c1)=>spec_seIndex.calls k A1 c1 g1 g2 i W hC hc hI);have HRD:=am' hrd;have hi0:=hi.1;have hi1:=hi.2;clear hr0_0 hF hR hL hI h hrd hi;have HB1:=am' (ba' (Below.refl w.heap.size w) (.cells #[.slice A0_0 l0_0.length c0_0, .int .i64 a0_1] 28));have HX:=am' (heap_alloc_new w (.cells #[.slice A0_0 l0_0.length c0_0, .int .i64 a0_1] 28));go_enter Try.func69,Try.ntmps69;go_wp2_with fail;generalize w.alloc (.cells #[.slice A0_0 l0_0.length c0_0, .int .i64 a0_1] 28)=W1 at HB1 HX ⊢
  have x0:W1.cell? ⟨w.heap.size,0,none⟩=some (.slice A0_0 l0_0.length c0_0):=(blk_cell HX.out 0).trans rfl;have x1:W1.cell? ⟨w.heap.size,1,none⟩=some (.int .i64 a0_1):=(blk_cell HX.out 1).trans rfl;have HW1:=am' (Below.refl W1.heap.size W1);refine start_ (n:=10) (S:=fun w'=>w'.cell? ⟨w.heap.size,0,none⟩=some (.slice A0_0 l0_0.length c0_0)∧w'.cell? ⟨w.heap.size,1,none⟩=some (.int .i64 a0_1)) (ds:=[]) #[false,false,false,false,false,false,false,false,false,false] (by kernel_rfl) rfl rfl ⟨x0,x1⟩ (fun hHeld=>?_);refine take_ (i:=0) (N:=some 3) (v:=?_) (a':=?_) #[true,false,false,false,false,false,false,false,false,false] rfl rfl (by kernel_rfl) (fun _ _ _ h=>h) (Or.inl ⟨by rfl,?_⟩) hHeld ?_ ?_
  rotate_left
  ·
   rintro w' ⟨s0_,s1_⟩
   go_simp;with_reducible rfl
  rotate_left
  ·
   simp only[Act.put,sa',sb',sc',i64_w,i32_w];rfl
  refine take_ (i:=1) (N:=some 4) (v:=?_) (a':=?_) #[true,true,false,false,false,false,false,false,false,false] rfl rfl (by kernel_rfl) (fun _ _ _ h=>h) (Or.inl ⟨by rfl,?_⟩) hHeld ?_ ?_
  rotate_left
  ·
   rintro w' ⟨s0_,s1_⟩
   go_simp;with_reducible rfl
  rotate_left
  ·
   simp only[Act.put,sa',sb',sc',i64_w,i32_w];rfl
  refine take_ (i:=4) (N:=some 7) (v:=?_) (a':=?_) #[true,true,false,false,true,false,false,false,false,false] rfl rfl (by kernel_rfl) (fun _ _ _ h=>h) (Or.inl ⟨by rfl,?_⟩) hHeld ?_ ?_
  rotate_left
  ·
   rintro w' ⟨s0_,s1_⟩
   go_simp;with_reducible rfl
  rotate_left
  ·
   simp only[Act.put,sa',sb',sc',i64_w,i32_w];rfl
  refine one_ (i:=2) (N:=some 5) #[true,true,true,false,true,false,false,false,false,false] rfl rfl (by kernel_rfl) (by decide) (fun K hK=>?_);refine goes_ Try.func62 (by kernel_rfl) rfl #[.agg #[.slice A0_0 l0_0.length c0_0, .int .i64 a0_1]] (by rfl) rfl rfl (by (try simp only[List.map_toArray,List.map_cons,List.map_nil]);first|done|rfl) ?_
  refine (HF.out _ ?sd0).mono ?_
  (case sd0=>(repeat (first|(with_reducible exact HB1.out)|apply be'|apply bd')))
  rintro e w4 ⟨v4,rfl,ho4,hb4⟩
  obtain ⟨A4,c4,rfl,hc4,hC4⟩:=Kd.R_reads ho4;have HW4:=am' (below_step (by repeat (first|(with_reducible exact HW1.out)|apply be'|apply bd')) hb4);have HB4:=am' (below_step (by repeat (first|(with_reducible exact HB1.out)|apply be'|apply bd')) hb4);have HC4:=am' hC4;have HL4:=am' hc4;have HO4:=am' (Below.refl w4.heap.size w4);have y40:=(HW4.out.cell (bl' W1 _ x0)).trans x0;have y41:=(HW4.out.cell (bl' W1 _ x1)).trans x1;clear ho4 hb4 hC4 hc4;refine ⟨_,rfl,?_⟩;refine hK.out _ _ ⟨y40,y41⟩ (fun hHeld=>?_);clear hK K;refine norm_ (a':=?_) ?_ ?_
  rotate_left
  ·
   show Act.put _ (some 5) _=_
   simp only[Act.put,sa',sb',sc',i64_w,i32_w];rfl
  refine one_ (i:=3) (N:=some 6) #[true,true,true,true,true,false,false,false,false,false] rfl rfl (by kernel_rfl) (by decide) (fun K hK=>?_);refine goes_ Try.func61 (by kernel_rfl) rfl #[.agg #[.slice A0_0 l0_0.length c0_0, .int .i64 a0_1], .agg #[.slice A4 f1.length c4, .bool f2]] (by rfl) rfl rfl (by (try simp only[List.map_toArray,List.map_cons,List.map_nil]);first|done|rfl) ?_
  refine (HR.out _ ?sd0 A4 c4 ?sd1 HL4.out).mono ?_
  (case sd0=>(repeat (first|(with_reducible exact HB4.out)|apply be'|apply bd')))
  (case sd1=>(exact Kd.C_below HC4.out (by repeat (first|(with_reducible exact HO4.out)|apply be'|apply bd'))))
  rintro e w5 ⟨v5,rfl,ho5,hb5⟩
  obtain ⟨A5,c5,rfl,hc5,hC5⟩:=Kd.R_reads ho5;have HW5:=am' (below_step (by repeat (first|(with_reducible exact HW4.out)|apply be'|apply bd')) hb5);have HB5:=am' (below_step (by repeat (first|(with_reducible exact HB4.out)|apply be'|apply bd')) hb5);obtain ⟨ad,e0,hx0_⟩:=Kd.at_int hC5 i hi0 hi1;cases e0;obtain ⟨dv,hdv⟩:∃ x,x=rd far i:=⟨_,rfl⟩
  rw[← hdv] at hx0_;have HDV:=am' hdv;have HX0:=am' hx0_;have HO5:=am' (Below.refl w5.heap.size w5);have y50:=(HW5.out.cell (bl' W1 _ x0)).trans x0;have y51:=(HW5.out.cell (bl' W1 _ x1)).trans x1;clear ho5 hb5 hC5 hc5 hdv hx0_;refine ⟨_,rfl,?_⟩;refine hK.out _ _ ⟨y50,y51⟩ (fun hHeld=>?_);clear hK K;refine norm_ (a':=?_) ?_ ?_
  rotate_left
  ·
   show Act.put _ (some 6) _=_
   simp only[Act.put,sa',sb',sc',i64_w,i32_w];rfl
  refine one_ (i:=5) (N:=some 8) #[true,true,true,true,true,true,false,false,false,false] rfl rfl (by kernel_rfl) (by decide) (fun K hK=>?_);refine goes_ Try.func83 (by kernel_rfl) rfl #[.agg #[.slice A0_0 l0_0.length c0_0, .int .i64 a0_1]] (by rfl) rfl rfl (by (try simp only[List.map_toArray,List.map_cons,List.map_nil]);first|done|rfl) ?_
  refine (HL.out _ ?sd0).mono ?_
  (case sd0=>(repeat (first|(with_reducible exact HB5.out)|apply be'|apply bd')))
  rintro e w6 ⟨v6,rfl,ho6,hb6⟩
  obtain ⟨A6,c6,rfl,hc6,hC6⟩:=Kd.R_reads ho6;have HW6:=am' (below_step (by repeat (first|(with_reducible exact HW5.out)|apply be'|apply bd')) hb6);have HB6:=am' (below_step (by repeat (first|(with_reducible exact HB5.out)|apply be'|apply bd')) hb6);have HK6:=am' (below_step (by repeat (first|(with_reducible exact HO5.out)|apply be'|apply bd')) hb6);have HC6:=am' hC6;have HL6:=am' hc6;have HO6:=am' (Below.refl w6.heap.size w6);have y60:=(HW6.out.cell (bl' W1 _ x0)).trans x0;have y61:=(HW6.out.cell (bl' W1 _ x1)).trans x1;clear ho6 hb6 hC6 hc6;refine ⟨_,rfl,?_⟩;refine hK.out _ _ ⟨y60,y61⟩ (fun hHeld=>?_);clear hK K;refine norm_ (a':=?_) ?_ ?_
  rotate_left
  ·
   show Act.put _ (some 8) _=_
   simp only[Act.put,sa',sb',sc',i64_w,i32_w];rfl
  refine one_ (i:=6) (N:=some 9) #[true,true,true,true,true,true,true,false,false,false] rfl rfl (by kernel_rfl) (by decide) (fun K hK=>?_);refine goes_ Try.func78 (by kernel_rfl) rfl #[.agg #[.slice A6 g1.length c6, .bool g2]] (by rfl) rfl rfl (by (try simp only[List.map_toArray,List.map_cons,List.map_nil]);first|done|rfl) ?_
  refine (HI.out _ A6 c6 ?sd0 HL6.out).mono ?_
  (case sd0=>(exact Kd.C_below HC6.out (by repeat (first|(with_reducible exact HO6.out)|apply be'|apply bd'))))
  rintro e w7 ⟨rfl,hb7⟩
  have HW7:=am' (below_step (by repeat (first|(with_reducible exact HW6.out)|apply be'|apply bd')) hb7);have HB7:=am' (below_step (by repeat (first|(with_reducible exact HB6.out)|apply be'|apply bd')) hb7);have HK7:=am' (below_step (by repeat (first|(with_reducible exact HK6.out)|apply be'|apply bd')) hb7);have y70:=(HW7.out.cell (bl' W1 _ x0)).trans x0;have y71:=(HW7.out.cell (bl' W1 _ x1)).trans x1;have y72:=(HK7.out.cell (bl' w5 _ HX0.out)).trans HX0.out;clear hb7;refine ⟨_,rfl,?_⟩;refine hK.out _ _ ⟨y70,y71⟩ (fun hHeld=>?_);clear hK K;refine norm_ (a':=?_) ?_ ?_
  rotate_left
  ·
   show Act.put _ (some 9) _=_
   simp only[Act.put,sa',sb',sc',i64_w,i32_w];rfl
  refine pure_ (i:=7) (N:=some 10) (v:=?_) (a':=?_) #[true,true,true,true,true,true,true,true,false,false] rfl rfl (by kernel_rfl) (fun _ _ _ h=>h) (Or.inl ⟨by rfl,?_⟩) ?_ ?_
  rotate_left
  ·
   intro w';go_simp;with_reducible rfl
  rotate_left
  ·
   simp only[Act.put,sa',sb',sc',i64_w,i32_w];rfl
  refine one_ (i:=8) (N:=some 11) #[true,true,true,true,true,true,true,true,true,false] rfl rfl (by kernel_rfl) (by decide) (fun K hK=>?_);refine value_ (v := .int .i64 dv) (w1:=w7) (by rfl) rfl ?_ ?_
  ·
   go_simp
  refine hK.out _ _ ⟨y70,y71⟩ (fun hHeld=>?_);clear hK K;refine norm_ (a':=?_) ?_ ?_
  rotate_left
  ·
   show Act.put _ (some 11) _=_
   simp only[Act.put,sa',sb',sc',i64_w,i32_w];rfl
  refine pure_ (i:=9) (N:=some 2) (v:=?_) (a':=?_) #[true,true,true,true,true,true,true,true,true,true] rfl rfl (by kernel_rfl) (fun _ _ _ h=>h) (Or.inl ⟨by rfl,?_⟩) ?_ ?_
  rotate_left
  ·
   intro w';go_simp;with_reducible rfl
  rotate_left
  ·
   simp only[Act.put,sa',sb',sc',i64_w,i32_w];rfl
  refine done_ (by kernel_rfl) ?_
  go_wp2;go_ret
  exact ⟨by rw[← HRD.out,HDV.out];rfl,HB7.out⟩
 ·
  rw[if_neg hi] at h;cases h
end Go.Proofs.Ytamljjfhkolflaa.C14
