import Derived.Test.YtamljjfhkolflaaC15zx0
import Derived.Test.YtamljjfhkolflaaC15zx1
import Derived.Test.YtamljjfhkolflaaC15zx5
import Derived.Test.YtamljjfhkolflaaC15zAl
namespace Go.Proofs.Ytamljjfhkolflaa.C15
open Go.RowKit Go.Proofs.YtamljjfhkolflaaW.PrintWords Go.Proofs.YtamljjfhkolflaaW.PrintLast Go.Proofs.YtamljjfhkolflaaW.PrintMore Go.Proofs.Ytamljjfhkolflaa.H
attribute [local go_sem] max2_int min2_int max_two min_two max_three min_three max_four min_four
set_option linter.unusedVariables false
set_option linter.unusedSimpArgs false
def spec_paFirst.f (l0_0:List Int) (a0_1:Int):Option (List Bool × Bool):=if 0≤(l0_0.length:Int) then (if ((l0_0.length:Int):Int).toNat≤281474976710656 then (some ((List.replicate ((l0_0.length:Int):Int).toNat false),false)) else (none)) else (none)
set_option maxHeartbeats 8000000 in
set_option maxRecDepth 100000 in
theorem spec_paFirst.calls (A0_0:Option Addr) (c0_0:Nat) (l0_0:List Int) (a0_1:Int) (r1:List Bool) (r2:Bool) (w:World) (hr0_0:Kd.C (Kd.int .i64) w A0_0 l0_0.length l0_0) (hc0_0:l0_0.length≤c0_0) (h:spec_paFirst.f l0_0 a0_1=some (r1,r2)) :
  Calls Try.prog 62 #[.agg #[.slice A0_0 l0_0.length c0_0, .int .i64 a0_1]] w fun e w'=>∃ v0_:Value,e = .returned (.agg #[v0_, .bool r2])∧Kd.R Kd.bool 4 w' w.heap.size (fun _=>True) v0_ r1∧Below w.heap.size w w':=by
 have hu28:=Try.underlying28
 have hu44:=Try.underlying44
 have HR0_0:=am' hr0_0
 have HC0_0:=am' hc0_0
 clear hr0_0 hc0_0;have HB:=am' (Below.refl w.heap.size w)
 have H:(if 0≤(l0_0.length:Int) then (if ((l0_0.length:Int):Int).toNat≤281474976710656 then (some ((List.replicate ((l0_0.length:Int):Int).toNat false),false)) else (none)) else (none))=some (r1,r2):=h
 clear h;by_cases c2:0≤(l0_0.length:Int)
 ·
  rw[if_pos c2] at H;have c2b0:=eq_true c2;have c2b1:decide (0≤(l0_0.length:Int))=true:=decide_eq_true c2;clear c2;by_cases c3:((l0_0.length:Int):Int).toNat≤281474976710656
  ·
   rw[if_pos c3] at H;have c3b0:=eq_true c3;have c3b1:decide (((l0_0.length:Int):Int).toNat≤281474976710656)=true:=decide_eq_true c3;clear c3;obtain ⟨y220,hy220⟩:∃ y_:List Bool,y_=(List.replicate ((l0_0.length:Int):Int).toNat false):=⟨_,rfl⟩
   replace H:(some (y220,false))=some (r1,r2):=by first|(rw[hy220];with_reducible exact H)|(have H2_:=(Option.bind_some _ _).symm.trans H;rw[hy220];with_reducible exact H2_)|(have H2_:=(Option.bind_some _ _).symm.trans H;with_reducible exact H2_)|with_reducible exact H|(rw[hy220];exact H)|exact H
   have Ny220:=am' hy220;clear hy220;simp only[Option.some.injEq,Prod.mk.injEq] at H;obtain ⟨rfl,rfl⟩:=H;go_enter Try.func62,Try.ntmps62;go_wp2_with (first|((with_reducible refine gate_dst (N:=1) rfl ?_);refine box_event ?hg (N:=1) ?hd (cs:=#[.slice A0_0 l0_0.length c0_0, .int .i64 a0_1]) (t:=28) ?hr ?_;(case hd=>rfl);(case hg=>rfl);(case hr=>first|(go_simp;done)|(go_simp;rfl));intro gb218 hg w4 hbox hb;have n0_:=am' (below_step (by repeat (first|(with_reducible first|exact HB.out|apply ba'|apply bd'|apply be')|exact HB.out)) hb);have n1_:=am' (hbox);have n2_:=am' ((by rw[hg];exact (below_size (by repeat (first|(with_reducible first|exact HB.out|apply ba'|apply bd'|apply be')|exact HB.out))):w.heap.size≤gb218));have n3_:=am' ((by rw[hg];exact (below_size (by repeat (first|(with_reducible first|exact HB.out|apply ba'|apply bd'|apply be')|exact HB.out))):w.heap.size≤gb218));clear HB;have HB:=n0_;have BK218:=n1_;have GW218:=n2_;have GE218:=n3_;clear n0_ n1_ n2_ n3_;clear hb hbox hg)|((with_reducible refine gate_dst (N:=2) rfl ?_);refine box_event ?hg (N:=2) ?hd (cs:=#[.slice none 0 0, .bool false]) (t:=44) ?hr ?_;(case hd=>rfl);(case hg=>rfl);(case hr=>first|(go_simp;done)|(go_simp;rfl));intro gb219 hg w5 hbox hb;have n0_:=am' (blk_below (g:=gb218) (o := .cells #[.slice A0_0 l0_0.length c0_0, .int .i64 a0_1] 28 (0,0)) (by (with_reducible repeat (first|refine kn' ?_ _|refine kd' ?_|refine ka' ?_ _));exact BK218.out) hb);have n1_:=am' (below_step (by repeat (first|(with_reducible first|exact HB.out|apply ba'|apply bd'|apply be'|refine bs' ?_ GE218.out)|exact HB.out)) hb);have n2_:=am' (hbox);have n3_:=am' ((by rw[hg];exact (below_size (by repeat (first|(with_reducible first|exact HB.out|apply ba'|apply bd'|apply be'|refine bs' ?_ GE218.out)|exact HB.out))):w.heap.size≤gb219));have n4_:=am' ((by rw[hg];exact (below_size (by repeat (first|(with_reducible first|exact HB.out|apply ba'|apply bd'|apply be'|refine bs' ?_ GE218.out)|exact HB.out))):w.heap.size≤gb219));have n5_:=am' ((by rw[hg];exact Nat.ne_of_lt (blk_lt (g:=gb218) (o := .cells #[.slice A0_0 l0_0.length c0_0, .int .i64 a0_1] 28 (0,0)) (by (with_reducible repeat (first|refine kn' ?_ _|refine kd' ?_|refine ka' ?_ _));exact BK218.out)):gb218≠gb219));have n6_:=am' ((by rw[hg];exact Nat.ne_of_gt (blk_lt (g:=gb218) (o := .cells #[.slice A0_0 l0_0.length c0_0, .int .i64 a0_1] 28 (0,0)) (by (with_reducible repeat (first|refine kn' ?_ _|refine kd' ?_|refine ka' ?_ _));exact BK218.out)):gb219≠gb218));clear BK218;clear HB;have BK218:=n0_;have HB:=n1_;have BK219:=n2_;have GW219:=n3_;have GE219:=n4_;have NB218_219:=n5_;have NB219_218:=n6_;clear n0_ n1_ n2_ n3_ n4_ n5_ n6_;clear hb hbox hg;have hnb6:=NB218_219.out;have hnc6:=NB219_218.out;have hcz7_0:w5.cell? ⟨gb218,0,none⟩=some (.slice A0_0 l0_0.length c0_0):=(blk_cell BK218.out 0).trans rfl;have hcz7_1:w5.cell? ⟨gb218,1,none⟩=some (.int .i64 a0_1):=(blk_cell BK218.out 1).trans rfl;have hfz7_0:=blk_frozen BK218.out 0;have hfz7_1:=blk_frozen BK218.out 1)|((with_reducible refine gate_dst (N:=6) rfl ?_);refine Kd.R_make Kd.bool _ 4 rfl (N:=6) rfl 39 _ _ rfl (l0_0.length:Int) rfl rfl Try.underlying39 (.bool false) 1 info4 rfl (by decide) (by omega) false (ok:=fun _=>True) (okp:=fun _=>True) rfl (fun _ hk=>hk) trivial (of_decide_eq_true (by first|(with_reducible assumption)|assumption)) (Nat.le_trans (Nat.mul_le_mul_right _ (of_decide_eq_true (by first|(with_reducible assumption)|assumption):(l0_0.length:Int).toNat≤281474976710656)) (by omega)) (Below.refl _ _) (Nat.le_refl _) ?_;intro v221 w8 ho9 hb hg_ hnew_;clear hg_ hnew_;(first|rw[← Ny220.out] at ho9|(simp only[Int.reduceToNat] at ho9;rw[← Ny220.out] at ho9));have n0_:=am' (Kd.R_lower ho9 (below_size (by repeat (first|(with_reducible first|exact HB.out|apply ba'|apply bd'|apply be'|refine bs' ?_ GE218.out|refine bs' ?_ GE219.out)|exact HB.out))));have n1_:=am' (blk_below (g:=gb218) (o := .cells #[.slice A0_0 l0_0.length c0_0, .int .i64 a0_1] 28 (0,0)) (by (with_reducible repeat (first|refine kn' ?_ _|refine kd' ?_|refine ka' ?_ _));exact BK218.out) hb);have n2_:=am' (blk_below (g:=gb219) (o := .cells #[.slice none 0 0, .bool false] 44 (0,0)) (by (with_reducible repeat (first|refine kn' ?_ _|refine kd' ?_|refine ka' ?_ _));exact BK219.out) hb);have n3_:=am' (below_step (by repeat (first|(with_reducible first|exact HB.out|apply ba'|apply bd'|apply be'|refine bs' ?_ GE218.out|refine bs' ?_ GE219.out)|exact HB.out)) hb);clear BK218;clear BK219;clear HB;have HO222:=n0_;have BK218:=n1_;have BK219:=n2_;have HB:=n3_;clear n0_ n1_ n2_ n3_;clear hb ho9;obtain ⟨Ao10,co10,eo10⟩:=Kd.R_slice HO222.out;subst eo10;have hcz11_0:w8.cell? ⟨gb219,0,none⟩=some (.slice none 0 0):=(blk_cell BK219.out 0).trans rfl;have hcz11_1:w8.cell? ⟨gb219,1,none⟩=some (.bool false):=(blk_cell BK219.out 1).trans rfl;have hfz11_0:=blk_frozen BK219.out 0;have hfz11_1:=blk_frozen BK219.out 1))
   refine bodyPost_ret (results_cell_row rfl _ _ gb219 44 #[.slice Ao10 y220.length co10, .bool false] (0,0) _ rfl (by (with_reducible repeat (first|refine kn' ?_ _|refine kd' ?_|refine ka' ?_ _));refine blk_put (cs:=#[.slice Ao10 y220.length co10, .bool false]) ?_ 1 _ rfl;(with_reducible repeat (first|refine kn' ?_ _|refine kd' ?_|refine ka' ?_ _));refine blk_put (cs:=#[.slice none 0 0, .bool false]) ?_ 0 _ rfl;(with_reducible repeat (first|refine kn' ?_ _|refine kd' ?_|refine ka' ?_ _));exact BK219.out) Try.underlying44 rfl (by kernel_rfl)) rfl ?_
   exact ⟨_,by first|rfl|(simp[errW_none,errW_some] <;> rfl)|(simp[*,errW_none,errW_some] <;> rfl),by (with_reducible repeat (first|apply ra'|apply rn'|apply rw'));exact Kd.R_mono (Kd.R_far (p:=⟨gb219,1,none⟩) (Kd.R_far (p:=⟨gb219,0,none⟩) (Kd.R_types HO222.out BK219.out (by decide)) (fun _ hk=>hk.2) (.slice Ao10 y220.length co10)) (fun _ hk=>hk.2) (.bool false)) (fun _ hk=>trivial),by repeat (first|(with_reducible first|exact HB.out|apply ba'|apply bd'|apply be'|refine bs' ?_ GE218.out|refine bs' ?_ GE219.out)|exact HB.out)⟩
  ·
   rw[if_neg c3] at H;exact absurd H (by simp)
 ·
  rw[if_neg c2] at H;exact absurd H (by simp)
def spec_paLast.l0:Nat→Int→Int→List Bool→Bool→Option (List Bool × Bool)
 | 0,_,_,_,_=>none
 | k+1,x7,x8,x226000,x226001=>if x8 < x7 then (if x226000.length < 140737488355328 then (spec_paLast.l0 k x7 (wrap64 (x8+1)) (x226000 ++ [true]) x226001) else (none)) else (some (x226000,x226001))
def spec_paLast.f (k:Nat) (l0_0:List Int) (a0_1:Int):Option (List Bool × Bool):=spec_paLast.l0 k (l0_0.length:Int) 0 ([]:List Bool) true
set_option maxHeartbeats 8000000 in
set_option maxRecDepth 100000 in
theorem spec_paLast.calls (k:Nat) (A0_0:Option Addr) (c0_0:Nat) (l0_0:List Int) (a0_1:Int) (r1:List Bool) (r2:Bool) (w:World) (hr0_0:Kd.C (Kd.int .i64) w A0_0 l0_0.length l0_0) (hc0_0:l0_0.length≤c0_0) (h:spec_paLast.f k l0_0 a0_1=some (r1,r2)) :
  Calls Try.prog 83 #[.agg #[.slice A0_0 l0_0.length c0_0, .int .i64 a0_1]] w fun e w'=>∃ v0_:Value,e = .returned (.agg #[v0_, .bool r2])∧Kd.R Kd.bool 4 w' w.heap.size (fun _=>True) v0_ r1∧Below w.heap.size w w':=by
 have hu28:=Try.underlying28
 have hu44:=Try.underlying44
 have HR0_0:=am' hr0_0
 have HC0_0:=am' hc0_0
 clear hr0_0 hc0_0;have HB:=am' (Below.refl w.heap.size w)
 have H:(spec_paLast.l0 k (l0_0.length:Int) 0 ([]:List Bool) true)=some (r1,r2):=h
 clear h;have H':=am' H
 clear H;go_enter Try.func83,Try.ntmps83
 go_wp2_with (first|((with_reducible refine gate_dst (N:=1) rfl ?_);refine box_event ?hg (N:=1) ?hd (cs:=#[.slice A0_0 l0_0.length c0_0, .int .i64 a0_1]) (t:=28) ?hr ?_;(case hd=>rfl);(case hg=>rfl);(case hr=>first|(go_simp;done)|(go_simp;rfl));intro gb223 hg w2 hbox hb;have n0_:=am' (below_step (by repeat (first|(with_reducible first|exact HB.out|apply ba'|apply bd'|apply be')|exact HB.out)) hb);have n1_:=am' (hbox);have n2_:=am' ((by rw[hg];exact (below_size (by repeat (first|(with_reducible first|exact HB.out|apply ba'|apply bd'|apply be')|exact HB.out))):w.heap.size≤gb223));have n3_:=am' ((by rw[hg];exact (below_size (by repeat (first|(with_reducible first|exact HB.out|apply ba'|apply bd'|apply be')|exact HB.out))):w.heap.size≤gb223));clear HB;have HB:=n0_;have BK223:=n1_;have GW223:=n2_;have GE223:=n3_;clear n0_ n1_ n2_ n3_;clear hb hbox hg)|((with_reducible refine gate_dst (N:=2) rfl ?_);refine box_event ?hg (N:=2) ?hd (cs:=#[.slice none 0 0, .bool false]) (t:=44) ?hr ?_;(case hd=>rfl);(case hg=>rfl);(case hr=>first|(go_simp;done)|(go_simp;rfl));intro gb224 hg w3 hbox hb;have n0_:=am' (blk_below (g:=gb223) (o := .cells #[.slice A0_0 l0_0.length c0_0, .int .i64 a0_1] 28 (0,0)) (by (with_reducible repeat (first|refine kn' ?_ _|refine kd' ?_|refine ka' ?_ _));exact BK223.out) hb);have n1_:=am' (below_step (by repeat (first|(with_reducible first|exact HB.out|apply ba'|apply bd'|apply be'|refine bs' ?_ GE223.out)|exact HB.out)) hb);have n2_:=am' (hbox);have n3_:=am' ((by rw[hg];exact (below_size (by repeat (first|(with_reducible first|exact HB.out|apply ba'|apply bd'|apply be'|refine bs' ?_ GE223.out)|exact HB.out))):w.heap.size≤gb224));have n4_:=am' ((by rw[hg];exact (below_size (by repeat (first|(with_reducible first|exact HB.out|apply ba'|apply bd'|apply be'|refine bs' ?_ GE223.out)|exact HB.out))):w.heap.size≤gb224));have n5_:=am' ((by rw[hg];exact Nat.ne_of_lt (blk_lt (g:=gb223) (o := .cells #[.slice A0_0 l0_0.length c0_0, .int .i64 a0_1] 28 (0,0)) (by (with_reducible repeat (first|refine kn' ?_ _|refine kd' ?_|refine ka' ?_ _));exact BK223.out)):gb223≠gb224));have n6_:=am' ((by rw[hg];exact Nat.ne_of_gt (blk_lt (g:=gb223) (o := .cells #[.slice A0_0 l0_0.length c0_0, .int .i64 a0_1] 28 (0,0)) (by (with_reducible repeat (first|refine kn' ?_ _|refine kd' ?_|refine ka' ?_ _));exact BK223.out)):gb224≠gb223));clear BK223;clear HB;have BK223:=n0_;have HB:=n1_;have BK224:=n2_;have GW224:=n3_;have GE224:=n4_;have NB223_224:=n5_;have NB224_223:=n6_;clear n0_ n1_ n2_ n3_ n4_ n5_ n6_;clear hb hbox hg)|((with_reducible refine gate_dst (N:=3) rfl ?_);refine box_event ?hg (N:=3) ?hd (cs:=#[.slice none 0 0, .bool false]) (t:=44) ?hr ?_;(case hd=>rfl);(case hg=>rfl);(case hr=>first|(go_simp;done)|(go_simp;rfl));intro gb225 hg w4 hbox hb;have n0_:=am' (blk_below (g:=gb223) (o := .cells #[.slice A0_0 l0_0.length c0_0, .int .i64 a0_1] 28 (0,0)) (by (with_reducible repeat (first|refine kn' ?_ _|refine kd' ?_|refine ka' ?_ _));exact BK223.out) hb);have n1_:=am' (blk_below (g:=gb224) (o := .cells #[.slice none 0 0, .bool false] 44 (0,0)) (by (with_reducible repeat (first|refine kn' ?_ _|refine kd' ?_|refine ka' ?_ _));exact BK224.out) hb);have n2_:=am' (below_step (by repeat (first|(with_reducible first|exact HB.out|apply ba'|apply bd'|apply be'|refine bs' ?_ GE223.out|refine bs' ?_ GE224.out)|exact HB.out)) hb);have n3_:=am' (hbox);have n4_:=am' ((by rw[hg];exact (below_size (by repeat (first|(with_reducible first|exact HB.out|apply ba'|apply bd'|apply be'|refine bs' ?_ GE223.out|refine bs' ?_ GE224.out)|exact HB.out))):w.heap.size≤gb225));have n5_:=am' ((by rw[hg];exact (below_size (by repeat (first|(with_reducible first|exact HB.out|apply ba'|apply bd'|apply be'|refine bs' ?_ GE223.out|refine bs' ?_ GE224.out)|exact HB.out))):w.heap.size≤gb225));have n6_:=am' ((by rw[hg];exact Nat.ne_of_lt (blk_lt (g:=gb223) (o := .cells #[.slice A0_0 l0_0.length c0_0, .int .i64 a0_1] 28 (0,0)) (by (with_reducible repeat (first|refine kn' ?_ _|refine kd' ?_|refine ka' ?_ _));exact BK223.out)):gb223≠gb225));have n7_:=am' ((by rw[hg];exact Nat.ne_of_gt (blk_lt (g:=gb223) (o := .cells #[.slice A0_0 l0_0.length c0_0, .int .i64 a0_1] 28 (0,0)) (by (with_reducible repeat (first|refine kn' ?_ _|refine kd' ?_|refine ka' ?_ _));exact BK223.out)):gb225≠gb223));have n8_:=am' ((by rw[hg];exact Nat.ne_of_lt (blk_lt (g:=gb224) (o := .cells #[.slice none 0 0, .bool false] 44 (0,0)) (by (with_reducible repeat (first|refine kn' ?_ _|refine kd' ?_|refine ka' ?_ _));exact BK224.out)):gb224≠gb225));have n9_:=am' ((by rw[hg];exact Nat.ne_of_gt (blk_lt (g:=gb224) (o := .cells #[.slice none 0 0, .bool false] 44 (0,0)) (by (with_reducible repeat (first|refine kn' ?_ _|refine kd' ?_|refine ka' ?_ _));exact BK224.out)):gb225≠gb224));clear BK223;clear BK224;clear HB;have BK223:=n0_;have BK224:=n1_;have HB:=n2_;have BK225:=n3_;have GW225:=n4_;have GE225:=n5_;have NB223_225:=n6_;have NB225_223:=n7_;have NB224_225:=n8_;have NB225_224:=n9_;clear n0_ n1_ n2_ n3_ n4_ n5_ n6_ n7_ n8_ n9_;clear hb hbox hg;have hnb5:=NB225_223.out;have hnc5:=NB223_225.out;have hnb6:=NB225_224.out;have hnc6:=NB224_225.out;have hcz7_0:w4.cell? ⟨gb225,0,none⟩=some (.slice none 0 0):=(blk_cell BK225.out 0).trans rfl;have hcz7_1:w4.cell? ⟨gb225,1,none⟩=some (.bool false):=(blk_cell BK225.out 1).trans rfl;have hfz7_0:=blk_frozen BK225.out 0;have hfz7_1:=blk_frozen BK225.out 1;have hnb8:=NB223_224.out;have hnc8:=NB224_223.out;have hcz9_0:w4.cell? ⟨gb223,0,none⟩=some (.slice A0_0 l0_0.length c0_0):=(blk_cell BK223.out 0).trans rfl;have hcz9_1:w4.cell? ⟨gb223,1,none⟩=some (.int .i64 a0_1):=(blk_cell BK223.out 1).trans rfl;have hfz9_0:=blk_frozen BK223.out 0;have hfz9_1:=blk_frozen BK223.out 1))
 go_loopg [8] k (fun kq v8 w'=>∃ (x8_1:Int) (x226000_1:List Bool) (u226000:Value),v8 = .int .i64 x8_1∧Aside0 (spec_paLast.l0 kq (l0_0.length:Int) x8_1 x226000_1 true=some (r1,r2))∧Aside0 (kq≤k)∧Aside0 (Kd.R Kd.bool 4 w' w.heap.size (fun _=>True) u226000 x226000_1)∧Aside0 (w'.heap[gb223]? = some (.cells #[(.slice A0_0 l0_0.length c0_0), .int .i64 a0_1] 28 (0,0)))∧Aside0 (w'.heap[gb224]? = some (.cells #[(.slice none 0 0), .bool false] 44 (0,0)))∧Aside0 (w'.heap[gb225]? = some (.cells #[u226000, .bool true] 44 (0,0)))∧Aside0 (Below w.heap.size w w'))
 case atStart=>exact ⟨(0),(([]:List Bool)),(.slice none 0 0),(by first|rfl|(simp;done)|(simp[*];done)),H',⟨Nat.le_refl _⟩,⟨by first|exact Kd.R_nil _ _ _ _ _|exact Kd.N_nil _ _ _ _ _|exact Kd.V_nil _ _ _ _ _|exact Kd.Q_nil _ _ _ _ _|exact Kd.S_nil _ _ _ _ _⟩,⟨by (with_reducible repeat (first|refine kn' ?_ _|refine kd' ?_|refine ka' ?_ _));refine blk_far ?_ NB223_225.out _;(with_reducible repeat (first|refine kn' ?_ _|refine kd' ?_|refine ka' ?_ _));refine blk_far ?_ NB223_225.out _;(with_reducible repeat (first|refine kn' ?_ _|refine kd' ?_|refine ka' ?_ _));exact BK223.out⟩,⟨by (with_reducible repeat (first|refine kn' ?_ _|refine kd' ?_|refine ka' ?_ _));refine blk_far ?_ NB224_225.out _;(with_reducible repeat (first|refine kn' ?_ _|refine kd' ?_|refine ka' ?_ _));refine blk_far ?_ NB224_225.out _;(with_reducible repeat (first|refine kn' ?_ _|refine kd' ?_|refine ka' ?_ _));exact BK224.out⟩,⟨by (with_reducible repeat (first|refine kn' ?_ _|refine kd' ?_|refine ka' ?_ _));refine blk_put (cs:=#[.slice none 0 0, .bool false]) ?_ 1 _ rfl;(with_reducible repeat (first|refine kn' ?_ _|refine kd' ?_|refine ka' ?_ _));refine blk_put (cs:=#[.slice none 0 0, .bool false]) ?_ 0 _ rfl;(with_reducible repeat (first|refine kn' ?_ _|refine kd' ?_|refine ka' ?_ _));exact BK225.out⟩,⟨by repeat (first|(with_reducible first|exact HB.out|apply ba'|apply bd'|apply be'|refine bs' ?_ GE223.out|refine bs' ?_ GE224.out|refine bs' ?_ GE225.out)|exact HB.out)⟩⟩
 case round =>
  clear H';try clear p2
  try clear c5
  try clear c6
  try clear c8
  try clear hcz7_0
  try clear hcz7_1
  try clear hcz9_0
  try clear hcz9_1
  try clear hfz7_0
  try clear hfz7_1
  try clear hfz9_0
  try clear hfz9_1
  obtain ⟨x8_1,x226000_1,u226000,rfl,HA,HK1,HO_226000,BK223,BK224,BK225,HB⟩:=hrel;cases gk with
  | zero=>exact absurd HA.out (by simp[spec_paLast.l0])
  | succ k1 =>
   have H:=HA.out;clear HA;simp only[spec_paLast.l0] at H;by_cases c10:x8_1 < (l0_0.length:Int)
   ·
    rw[if_pos c10] at H;have c10b0:decide (x8_1 < (l0_0.length:Int))=true:=decide_eq_true c10;clear c10;by_cases c11:x226000_1.length < 140737488355328
    ·
     rw[if_pos c11] at H;have LMc11:=am' c11;clear c11;obtain ⟨y226,hy226⟩:∃ y_:List Bool,y_=(x226000_1 ++ [true]):=⟨_,rfl⟩
     replace H:(spec_paLast.l0 k1 (l0_0.length:Int) (wrap64 (x8_1+1)) y226 true)=some (r1,r2):=by first|(rw[hy226];with_reducible exact H)|(have H2_:=(Option.bind_some _ _).symm.trans H;rw[hy226];with_reducible exact H2_)|(have H2_:=(Option.bind_some _ _).symm.trans H;with_reducible exact H2_)|with_reducible exact H|(rw[hy226];exact H)|exact H
     have Ny226:=am' hy226;clear hy226;have H':=am' H;clear H;have hnb12:=NB225_223.out;have hnc12:=NB223_225.out;have hnb13:=NB225_224.out;have hnc13:=NB224_225.out;have hcz14_0:wr.cell? ⟨gb225,0,none⟩=some (u226000):=(blk_cell BK225.out 0).trans rfl;have hcz14_1:wr.cell? ⟨gb225,1,none⟩=some (.bool true):=(blk_cell BK225.out 1).trans rfl;have hfz14_0:=blk_frozen BK225.out 0;have hfz14_1:=blk_frozen BK225.out 1;go_wp2_with (first|((with_reducible refine gate_builtin (b := .append) (xs:=#[.tmp 11, .tmp 12]) rfl ?_);at_builtin;refine Kd.R_append Kd.bool (w0:=w) w.heap.size rfl (.tmp 11) (.tmp 12) 39 4 (.bool false) 1 rfl Try.underlying39 info4 rfl (by decide) (by omega) u226000 x226000_1 true [.bool true] (fun _=>True) (fun _=>False) rfl rfl ?aP (fun _ hk=>hk.elim) ?aF ?aO ?aB ?aS ?aL ?_;(case aP=>exact rfl);(case aB=>exact (by repeat (first|(with_reducible first|exact HB.out|apply ba'|apply bd'|apply be'|refine bs' ?_ GE223.out|refine bs' ?_ GE224.out|refine bs' ?_ GE225.out)|exact HB.out)));(case aF=>exact (fun _ _=>trivial));(case aO=>exact (by (with_reducible repeat (first|apply ra'|apply rn'|apply rw'));exact HO_226000.out));(case aS=>exact (below_size (by repeat (first|(with_reducible first|exact HB.out|apply ba'|apply bd'|apply be'|refine bs' ?_ GE223.out|refine bs' ?_ GE224.out|refine bs' ?_ GE225.out)|exact HB.out))));(case aL=>have:=LMc11.out;omega);intro v227 w15 ho hb hg hat;rw[← Ny226.out] at ho;have n0_:=am' (blk_grown (g:=gb223) (o := .cells #[.slice A0_0 l0_0.length c0_0, .int .i64 a0_1] 28 (0,0)) (by (with_reducible repeat (first|refine kn' ?_ _|refine kd' ?_|refine ka' ?_ _));exact BK223.out) hg (Kd.R_ne HO_226000.out BK223.out (by decide)));have n1_:=am' (blk_grown (g:=gb224) (o := .cells #[.slice none 0 0, .bool false] 44 (0,0)) (by (with_reducible repeat (first|refine kn' ?_ _|refine kd' ?_|refine ka' ?_ _));exact BK224.out) hg (Kd.R_ne HO_226000.out BK224.out (by decide)));have n2_:=am' (blk_grown (g:=gb225) (o := .cells #[u226000, .bool true] 44 (0,0)) (by (with_reducible repeat (first|refine kn' ?_ _|refine kd' ?_|refine ka' ?_ _));exact BK225.out) hg (Kd.R_ne HO_226000.out BK225.out (by decide)));have n3_:=am' (hb);have n4_:=am' (ho);clear BK223;clear BK224;clear BK225;clear HB;clear HO_226000;have BK223:=n0_;have BK224:=n1_;have BK225:=n2_;have HB:=n3_;have HO228:=n4_;clear n0_ n1_ n2_ n3_ n4_;clear ho hb hg hat;obtain ⟨Ao16,co16,eo16⟩:=Kd.R_slice HO228.out;subst eo16;have hcz17_0:w15.cell? ⟨gb225,0,none⟩=some (u226000):=(blk_cell BK225.out 0).trans rfl;have hcz17_1:w15.cell? ⟨gb225,1,none⟩=some (.bool true):=(blk_cell BK225.out 1).trans rfl;have hfz17_0:=blk_frozen BK225.out 0;have hfz17_1:=blk_frozen BK225.out 1));go_roundg k1
     case measure=>have:=HK1.out;omega
     case rel=>exact ⟨(wrap64 (x8_1+1)),(y226),(.slice Ao16 y226.length co16),(by first|rfl|(simp;done)|(simp[*];done)),H',⟨by have:=HK1.out;omega⟩,⟨by (with_reducible repeat (first|apply ra'|apply rn'|apply rw'));exact Kd.R_mono (Kd.R_far (p:=⟨gb225,0,none⟩) (Kd.R_types HO228.out BK225.out (by decide)) (fun _ hk=>hk.2) (.slice Ao16 y226.length co16)) (fun _ hk=>trivial)⟩,⟨by (with_reducible repeat (first|refine kn' ?_ _|refine kd' ?_|refine ka' ?_ _));refine blk_far ?_ NB223_225.out _;(with_reducible repeat (first|refine kn' ?_ _|refine kd' ?_|refine ka' ?_ _));exact BK223.out⟩,⟨by (with_reducible repeat (first|refine kn' ?_ _|refine kd' ?_|refine ka' ?_ _));refine blk_far ?_ NB224_225.out _;(with_reducible repeat (first|refine kn' ?_ _|refine kd' ?_|refine ka' ?_ _));exact BK224.out⟩,⟨by (with_reducible repeat (first|refine kn' ?_ _|refine kd' ?_|refine ka' ?_ _));refine blk_put (cs:=#[u226000, .bool true]) ?_ 0 _ rfl;(with_reducible repeat (first|refine kn' ?_ _|refine kd' ?_|refine ka' ?_ _));exact BK225.out⟩,⟨by repeat (first|(with_reducible first|exact HB.out|apply ba'|apply bd'|apply be'|refine bs' ?_ GE223.out|refine bs' ?_ GE224.out|refine bs' ?_ GE225.out)|exact HB.out)⟩⟩
    ·
     rw[if_neg c11] at H;exact absurd H (by simp)
   ·
    rw[if_neg c10] at H;have c10b0:decide (x8_1 < (l0_0.length:Int))=false:=decide_eq_false c10;clear c10;simp only[Option.some.injEq,Prod.mk.injEq] at H;obtain ⟨rfl,rfl⟩:=H;have hnb18:=NB225_223.out;have hnc18:=NB223_225.out;have hnb19:=NB225_224.out;have hnc19:=NB224_225.out;have hcz20_0:wr.cell? ⟨gb225,0,none⟩=some (u226000):=(blk_cell BK225.out 0).trans rfl;have hcz20_1:wr.cell? ⟨gb225,1,none⟩=some (.bool true):=(blk_cell BK225.out 1).trans rfl;have hfz20_0:=blk_frozen BK225.out 0;have hfz20_1:=blk_frozen BK225.out 1;obtain ⟨Ao21,co21,eo21⟩:=Kd.R_slice HO_226000.out;subst eo21;have hnb22:=NB224_223.out;have hnc22:=NB223_224.out;have hcz23_0:wr.cell? ⟨gb224,0,none⟩=some (.slice none 0 0):=(blk_cell BK224.out 0).trans rfl;have hcz23_1:wr.cell? ⟨gb224,1,none⟩=some (.bool false):=(blk_cell BK224.out 1).trans rfl;have hfz23_0:=blk_frozen BK224.out 0;have hfz23_1:=blk_frozen BK224.out 1;go_wp2;refine bodyPost_ret (results_cell_row rfl _ _ gb224 44 #[.slice Ao21 x226000_1.length co21, .bool true] (0,0) _ rfl (by (with_reducible repeat (first|refine kn' ?_ _|refine kd' ?_|refine ka' ?_ _));refine blk_put (cs:=#[.slice Ao21 x226000_1.length co21, .bool false]) ?_ 1 _ rfl;(with_reducible repeat (first|refine kn' ?_ _|refine kd' ?_|refine ka' ?_ _));refine blk_put (cs:=#[.slice none 0 0, .bool false]) ?_ 0 _ rfl;(with_reducible repeat (first|refine kn' ?_ _|refine kd' ?_|refine ka' ?_ _));exact BK224.out) Try.underlying44 rfl (by kernel_rfl)) rfl ?_
    exact ⟨_,by first|rfl|(simp[errW_none,errW_some] <;> rfl)|(simp[*,errW_none,errW_some] <;> rfl),by (with_reducible repeat (first|apply ra'|apply rn'|apply rw'));exact Kd.R_mono (Kd.R_far (p:=⟨gb224,1,none⟩) (Kd.R_far (p:=⟨gb224,0,none⟩) (Kd.R_types HO_226000.out BK224.out (by decide)) (fun _ hk=>hk.2) (.slice Ao21 x226000_1.length co21)) (fun _ hk=>hk.2) (.bool true)) (fun _ hk=>trivial),by repeat (first|(with_reducible first|exact HB.out|apply ba'|apply bd'|apply be'|refine bs' ?_ GE223.out|refine bs' ?_ GE224.out|refine bs' ?_ GE225.out)|exact HB.out)⟩
def spec_seLeast.f (k:Nat) (l0_0:List Int) (a0_1:Int):Option (Int):=(spec_paFirst.f l0_0 a0_1).bind fun b1=>(spec_seFar.f k l0_0 a0_1 b1.1 b1.2).bind fun r=>(spec_paLast.f k l0_0 a0_1).bind fun b2=>(spec_seIndex.f k b2.1 b2.2).bind fun i=>if 0≤i∧i < (r.length:Int) then some (rd r i) else none
set_option maxHeartbeats 2000000 in
set_option maxRecDepth 100000 in
theorem spec_seLeast.calls (k:Nat) (A0_0:Option Addr) (c0_0:Nat) (l0_0:List Int) (a0_1:Int) (r:Int) (w:World) (hr0_0:Kd.C (Kd.int .i64) w A0_0 l0_0.length l0_0) (hc0_0:l0_0.length≤c0_0) (h:spec_seLeast.f k l0_0 a0_1=some r) :
  Calls Try.prog 69 #[.agg #[.slice A0_0 l0_0.length c0_0, .int .i64 a0_1]] w fun e w'=>e = .returned (.int .i64 r)∧Below w.heap.size w w':=by
 have hu0:=Try.underlying28
 have hu1:=Try.underlying44
 unfold spec_seLeast.f at h
 obtain ⟨⟨f1,f2⟩,hF,h⟩:=Option.bind_eq_some_iff.mp h
 obtain ⟨far,hR,h⟩:=Option.bind_eq_some_iff.mp h
 obtain ⟨⟨g1,g2⟩,hL,h⟩:=Option.bind_eq_some_iff.mp h
 obtain ⟨i,hI,h⟩:=Option.bind_eq_some_iff.mp h
 dsimp only at hF hR hL hI
 by_cases hi:0≤i∧i < (far.length:Int)
 ·
  rw[if_pos hi] at h;have hrd:=Option.some.inj h;have HF:=am' (fun (W:World) (hb:Below w.heap.size w W)=>spec_paFirst.calls A0_0 c0_0 l0_0 a0_1 f1 f2 W (Kd.C_below hr0_0 hb) hc0_0 hF);have HR:=am' (fun (W:World) (hb:Below w.heap.size w W) (A1:Option Addr) (c1:Nat) (hC:Kd.C Kd.bool W A1 f1.length f1) (hc:f1.length≤c1)=>spec_seFar.calls k A0_0 c0_0 l0_0 a0_1 A1 c1 f1 f2 far W (Kd.C_below hr0_0 hb) hc0_0 hC hc hR);have HL:=am' (fun (W:World) (hb:Below w.heap.size w W)=>spec_paLast.calls k A0_0 c0_0 l0_0 a0_1 g1 g2 W (Kd.C_below hr0_0 hb) hc0_0 hL);have HI:=am' (fun (W:World) (A1:Option Addr) (c1:Nat) (hC:Kd.C Kd.bool W A1 g1.length g1) (hc:g1.length≤c1)=>spec_seIndex.calls k A1 c1 g1 g2 i W hC hc hI);have HRD:=am' hrd;have hi0:=hi.1;have hi1:=hi.2;clear hr0_0 hF hR hL hI h hrd hi;have HB1:=am' (ba' (Below.refl w.heap.size w) (.cells #[.slice A0_0 l0_0.length c0_0, .int .i64 a0_1] 28));have HX:=am' (heap_alloc_new w (.cells #[.slice A0_0 l0_0.length c0_0, .int .i64 a0_1] 28));go_enter Try.func69,Try.ntmps69;go_wp2_with fail;generalize w.alloc (.cells #[.slice A0_0 l0_0.length c0_0, .int .i64 a0_1] 28)=W1 at HB1 HX ⊢
  have x0:W1.cell? ⟨w.heap.size,0,none⟩=some (.slice A0_0 l0_0.length c0_0):=(blk_cell HX.out 0).trans rfl;have x1:W1.cell? ⟨w.heap.size,1,none⟩=some (.int .i64 a0_1):=(blk_cell HX.out 1).trans rfl;have HW1:=am' (Below.refl W1.heap.size W1);refine start_ (n:=10) (S:=fun w'=>w'.cell? ⟨w.heap.size,0,none⟩=some (.slice A0_0 l0_0.length c0_0)∧w'.cell? ⟨w.heap.size,1,none⟩=some (.int .i64 a0_1)) (ds:=[]) #[false,false,false,false,false,false,false,false,false,false] (by kernel_rfl) rfl rfl ⟨x0,x1⟩ (fun hHeld=>?_);refine take_ (i:=0) (N:=some 3) (v:=?_) (a':=?_) #[true,false,false,false,false,false,false,false,false,false] rfl rfl (by kernel_rfl) (fun _ _ _ h=>h) (Or.inl ⟨by rfl,?_⟩) hHeld ?_ ?_
  rotate_left
  ·
   rintro w' ⟨s0_,s1_⟩
   go_simp;with_reducible rfl
  rotate_left
  ·
   simp only[Act.put,sa',sb',sc',i64_w,i32_w];rfl
  refine take_ (i:=1) (N:=some 4) (v:=?_) (a':=?_) #[true,true,false,false,false,false,false,false,false,false] rfl rfl (by kernel_rfl) (fun _ _ _ h=>h) (Or.inl ⟨by rfl,?_⟩) hHeld ?_ ?_
  rotate_left
  ·
   rintro w' ⟨s0_,s1_⟩
   go_simp;with_reducible rfl
  rotate_left
  ·
   simp only[Act.put,sa',sb',sc',i64_w,i32_w];rfl
  refine take_ (i:=4) (N:=some 7) (v:=?_) (a':=?_) #[true,true,false,false,true,false,false,false,false,false] rfl rfl (by kernel_rfl) (fun _ _ _ h=>h) (Or.inl ⟨by rfl,?_⟩) hHeld ?_ ?_
  rotate_left
  ·
   rintro w' ⟨s0_,s1_⟩
   go_simp;with_reducible rfl
  rotate_left
  ·
   simp only[Act.put,sa',sb',sc',i64_w,i32_w];rfl
  refine one_ (i:=2) (N:=some 5) #[true,true,true,false,true,false,false,false,false,false] rfl rfl (by kernel_rfl) (by decide) (fun K hK=>?_);refine goes_ Try.func62 (by kernel_rfl) rfl #[.agg #[.slice A0_0 l0_0.length c0_0, .int .i64 a0_1]] (by rfl) rfl rfl (by (try simp only[List.map_toArray,List.map_cons,List.map_nil]);first|done|rfl) ?_
  refine (HF.out _ ?sd0).mono ?_
  (case sd0=>(repeat (first|(with_reducible exact HB1.out)|apply be'|apply bd')))
  rintro e w4 ⟨v4,rfl,ho4,hb4⟩
  obtain ⟨A4,c4,rfl,hc4,hC4⟩:=Kd.R_reads ho4;have HW4:=am' (below_step (by repeat (first|(with_reducible exact HW1.out)|apply be'|apply bd')) hb4);have HB4:=am' (below_step (by repeat (first|(with_reducible exact HB1.out)|apply be'|apply bd')) hb4);have HC4:=am' hC4;have HL4:=am' hc4;have HO4:=am' (Below.refl w4.heap.size w4);have y40:=(HW4.out.cell (bl' W1 _ x0)).trans x0;have y41:=(HW4.out.cell (bl' W1 _ x1)).trans x1;clear ho4 hb4 hC4 hc4;refine ⟨_,rfl,?_⟩;refine hK.out _ _ ⟨y40,y41⟩ (fun hHeld=>?_);clear hK K;refine norm_ (a':=?_) ?_ ?_
  rotate_left
  ·
   show Act.put _ (some 5) _=_
   simp only[Act.put,sa',sb',sc',i64_w,i32_w];rfl
  refine one_ (i:=3) (N:=some 6) #[true,true,true,true,true,false,false,false,false,false] rfl rfl (by kernel_rfl) (by decide) (fun K hK=>?_);refine goes_ Try.func61 (by kernel_rfl) rfl #[.agg #[.slice A0_0 l0_0.length c0_0, .int .i64 a0_1], .agg #[.slice A4 f1.length c4, .bool f2]] (by rfl) rfl rfl (by (try simp only[List.map_toArray,List.map_cons,List.map_nil]);first|done|rfl) ?_
  refine (HR.out _ ?sd0 A4 c4 ?sd1 HL4.out).mono ?_
  (case sd0=>(repeat (first|(with_reducible exact HB4.out)|apply be'|apply bd')))
  (case sd1=>(exact Kd.C_below HC4.out (by repeat (first|(with_reducible exact HO4.out)|apply be'|apply bd'))))
  rintro e w5 ⟨v5,rfl,ho5,hb5⟩
  obtain ⟨A5,c5,rfl,hc5,hC5⟩:=Kd.R_reads ho5;have HW5:=am' (below_step (by repeat (first|(with_reducible exact HW4.out)|apply be'|apply bd')) hb5);have HB5:=am' (below_step (by repeat (first|(with_reducible exact HB4.out)|apply be'|apply bd')) hb5);obtain ⟨ad,e0,hx0_⟩:=Kd.at_int hC5 i hi0 hi1;cases e0;obtain ⟨dv,hdv⟩:∃ x,x=rd far i:=⟨_,rfl⟩
  rw[← hdv] at hx0_;have HDV:=am' hdv;have HX0:=am' hx0_;have HO5:=am' (Below.refl w5.heap.size w5);have y50:=(HW5.out.cell (bl' W1 _ x0)).trans x0;have y51:=(HW5.out.cell (bl' W1 _ x1)).trans x1;clear ho5 hb5 hC5 hc5 hdv hx0_;refine ⟨_,rfl,?_⟩;refine hK.out _ _ ⟨y50,y51⟩ (fun hHeld=>?_);clear hK K;refine norm_ (a':=?_) ?_ ?_
  rotate_left
  ·
   show Act.put _ (some 6) _=_
   simp only[Act.put,sa',sb',sc',i64_w,i32_w];rfl
  refine one_ (i:=5) (N:=some 8) #[true,true,true,true,true,true,false,false,false,false] rfl rfl (by kernel_rfl) (by decide) (fun K hK=>?_);refine goes_ Try.func83 (by kernel_rfl) rfl #[.agg #[.slice A0_0 l0_0.length c0_0, .int .i64 a0_1]] (by rfl) rfl rfl (by (try simp only[List.map_toArray,List.map_cons,List.map_nil]);first|done|rfl) ?_
  refine (HL.out _ ?sd0).mono ?_
  (case sd0=>(repeat (first|(with_reducible exact HB5.out)|apply be'|apply bd')))
  rintro e w6 ⟨v6,rfl,ho6,hb6⟩
  obtain ⟨A6,c6,rfl,hc6,hC6⟩:=Kd.R_reads ho6;have HW6:=am' (below_step (by repeat (first|(with_reducible exact HW5.out)|apply be'|apply bd')) hb6);have HB6:=am' (below_step (by repeat (first|(with_reducible exact HB5.out)|apply be'|apply bd')) hb6);have HK6:=am' (below_step (by repeat (first|(with_reducible exact HO5.out)|apply be'|apply bd')) hb6);have HC6:=am' hC6;have HL6:=am' hc6;have HO6:=am' (Below.refl w6.heap.size w6);have y60:=(HW6.out.cell (bl' W1 _ x0)).trans x0;have y61:=(HW6.out.cell (bl' W1 _ x1)).trans x1;clear ho6 hb6 hC6 hc6;refine ⟨_,rfl,?_⟩;refine hK.out _ _ ⟨y60,y61⟩ (fun hHeld=>?_);clear hK K;refine norm_ (a':=?_) ?_ ?_
  rotate_left
  ·
   show Act.put _ (some 8) _=_
   simp only[Act.put,sa',sb',sc',i64_w,i32_w];rfl
  refine one_ (i:=6) (N:=some 9) #[true,true,true,true,true,true,true,false,false,false] rfl rfl (by kernel_rfl) (by decide) (fun K hK=>?_);refine goes_ Try.func78 (by kernel_rfl) rfl #[.agg #[.slice A6 g1.length c6, .bool g2]] (by rfl) rfl rfl (by (try simp only[List.map_toArray,List.map_cons,List.map_nil]);first|done|rfl) ?_
  refine (HI.out _ A6 c6 ?sd0 HL6.out).mono ?_
  (case sd0=>(exact Kd.C_below HC6.out (by repeat (first|(with_reducible exact HO6.out)|apply be'|apply bd'))))
  rintro e w7 ⟨rfl,hb7⟩
  have HW7:=am' (below_step (by repeat (first|(with_reducible exact HW6.out)|apply be'|apply bd')) hb7);have HB7:=am' (below_step (by repeat (first|(with_reducible exact HB6.out)|apply be'|apply bd')) hb7);have HK7:=am' (below_step (by repeat (first|(with_reducible exact HK6.out)|apply be'|apply bd')) hb7);have y70:=(HW7.out.cell (bl' W1 _ x0)).trans x0;have y71:=(HW7.out.cell (bl' W1 _ x1)).trans x1;have y72:=(HK7.out.cell (bl' w5 _ HX0.out)).trans HX0.out;clear hb7;refine ⟨_,rfl,?_⟩;refine hK.out _ _ ⟨y70,y71⟩ (fun hHeld=>?_);clear hK K;refine norm_ (a':=?_) ?_ ?_
  rotate_left
  ·
   show Act.put _ (some 9) _=_
   simp only[Act.put,sa',sb',sc',i64_w,i32_w];rfl
  refine pure_ (i:=7) (N:=some 10) (v:=?_) (a':=?_) #[true,true,true,true,true,true,true,true,false,false] rfl rfl (by kernel_rfl) (fun _ _ _ h=>h) (Or.inl ⟨by rfl,?_⟩) ?_ ?_
  rotate_left
  ·
   intro w';go_simp;with_reducible rfl
  rotate_left
  ·
   simp only[Act.put,sa',sb',sc',i64_w,i32_w];rfl
  refine one_ (i:=8) (N:=some 11) #[true,true,true,true,true,true,true,true,true,false] rfl rfl (by kernel_rfl) (by decide) (fun K hK=>?_);refine value_ (v := .int .i64 dv) (w1:=w7) (by rfl) rfl ?_ ?_
  ·
   go_simp
  refine hK.out _ _ ⟨y70,y71⟩ (fun hHeld=>?_);clear hK K;refine norm_ (a':=?_) ?_ ?_
  rotate_left
  ·
   show Act.put _ (some 11) _=_
   simp only[Act.put,sa',sb',sc',i64_w,i32_w];rfl
  refine pure_ (i:=9) (N:=some 2) (v:=?_) (a':=?_) #[true,true,true,true,true,true,true,true,true,true] rfl rfl (by kernel_rfl) (fun _ _ _ h=>h) (Or.inl ⟨by rfl,?_⟩) ?_ ?_
  rotate_left
  ·
   intro w';go_simp;with_reducible rfl
  rotate_left
  ·
   simp only[Act.put,sa',sb',sc',i64_w,i32_w];rfl
  refine done_ (by kernel_rfl) ?_
  go_wp2;go_ret
  exact ⟨by rw[← HRD.out,HDV.out];rfl,HB7.out⟩
 ·
  rw[if_neg hi] at h;cases h
def spec_l1In.f (a0:Int) (a1:Int) (a2:Int):Option (Bool):=if a0 ≥ a1 then (some (decide (a0≤a2))) else (some false)
set_option maxHeartbeats 8000000 in
set_option maxRecDepth 100000 in
theorem spec_l1In.calls (a0:Int) (a1:Int) (a2:Int) (r:Bool) (w:World) (h:spec_l1In.f a0 a1 a2=some r) :
  Calls Try.prog 60 #[.int .i64 a0, .int .i64 a1, .int .i64 a2] w fun e w'=>e = .returned (.bool r)∧Drawn0 w w':=by
 have H:(if a0 ≥ a1 then (some (decide (a0≤a2))) else (some false))=some r:=h
 clear h;by_cases c4:a0 ≥ a1
 ·
  rw[if_pos c4] at H;have c4b0:decide (a1≤a0)=true:=decide_eq_true c4;clear c4;obtain rfl:=Option.some.inj H;go_enter Try.func60,Try.ntmps60;go_wp2;go_ret
  exact ⟨by first|rfl|(simp;done)|(simp[*];done),by repeat (first|exact Drawn0.refl _|apply Drawn0.step)⟩
 ·
  rw[if_neg c4] at H;have c4b0:decide (a1≤a0)=false:=decide_eq_false c4;clear c4;obtain rfl:=Option.some.inj H;go_enter Try.func60,Try.ntmps60;go_wp2;go_ret
  exact ⟨by first|rfl|(simp;done)|(simp[*];done),by repeat (first|exact Drawn0.refl _|apply Drawn0.step)⟩
def spec_l1All.l0:Nat→Int→Int→List Int→Int→Int→Option (Bool)
 | 0,_,_,_,_,_=>none
 | k+1,x1,x2,x9,x10,x11=>if x11 < x10 then (if 0≤x11 then (if x11 < (x9.length:Int) then ((spec_l1In.f (rd x9 x11) x1 x2).bind fun t230=>(if t230=true then (spec_l1All.l0 k x1 x2 x9 x10 (wrap64 (x11+1))) else (some false))) else (none)) else (none)) else (some true)
def spec_l1All.f (k:Nat) (l0:List Int) (a1:Int) (a2:Int):Option (Bool):=spec_l1All.l0 k a1 a2 l0 (l0.length:Int) 0
set_option maxHeartbeats 8000000 in
set_option maxRecDepth 100000 in
theorem spec_l1All.calls (k:Nat) (A0:Option Addr) (c0:Nat) (l0:List Int) (a1:Int) (a2:Int) (r:Bool) (w:World) (hr0:Kd.C (Kd.int .i64) w A0 l0.length l0) (hc0:l0.length≤c0) (h:spec_l1All.f k l0 a1 a2=some r) :
  Calls Try.prog 99 #[.slice A0 l0.length c0, .int .i64 a1, .int .i64 a2] w fun e w'=>e = .returned (.bool r)∧Drawn0 w w':=by
 have HR0:=am' hr0
 have HC0:=am' hc0
 clear hr0 hc0;have H:(spec_l1All.l0 k a1 a2 l0 (l0.length:Int) 0)=some r:=h
 clear h;have H':=am' H
 clear H;go_enter Try.func99,Try.ntmps99
 go_wp2
 go_loopg [11] k (fun kq v11 w'=>∃ (x11_1:Int),v11 = .int .i64 x11_1∧Aside0 (spec_l1All.l0 kq a1 a2 l0 (l0.length:Int) x11_1=some r)∧Aside0 (kq≤k)∧Drawn0 w w')
 case atStart=>exact ⟨(0),(by first|rfl|(simp;done)|(simp[*];done)),H',⟨Nat.le_refl _⟩,by repeat (first|exact Drawn0.refl _|apply Drawn0.step)⟩
 case round =>
  clear H';try clear p2
  obtain ⟨x11_1,rfl,HA,HK1,⟨m1,rfl⟩⟩:=hrel;cases gk with
  | zero=>exact absurd HA.out (by simp[spec_l1All.l0])
  | succ k1 =>
   have H:=HA.out;clear HA;simp only[spec_l1All.l0] at H;by_cases c4:x11_1 < (l0.length:Int)
   ·
    rw[if_pos c4] at H;have c4b0:decide (x11_1 < (l0.length:Int))=true:=decide_eq_true c4;clear c4;by_cases c5:0≤x11_1
    ·
     rw[if_pos c5] at H;have c5b0:decide (0≤x11_1)=true:=decide_eq_true c5;clear c5;by_cases c6:x11_1 < (l0.length:Int)
     ·
      rw[if_pos c6] at H;have c6b0:decide (x11_1 < (l0.length:Int))=true:=decide_eq_true c6;clear c6;replace H:=Option.bind_eq_some_iff.mp H;obtain ⟨t230,A70,H⟩:=H;replace H:(if t230=true then (spec_l1All.l0 k1 a1 a2 l0 (l0.length:Int) (wrap64 (x11_1+1))) else (some false))=some r:=H;have A7:=am' A70;clear A70;by_cases c8:t230=true
      ·
       subst c8;have H1:(spec_l1All.l0 k1 a1 a2 l0 (l0.length:Int) (wrap64 (x11_1+1)))=some r:=by rw[if_pos rfl] at H;exact H
       clear H;have H:=H1;clear H1;have H':=am' H;clear H;have p229:0≤(x11_1:Int):=of_decide_eq_true (by first|(with_reducible assumption)|assumption);have q229:x11_1 < (l0.length:Int):=of_decide_eq_true (by first|(with_reducible assumption)|assumption);obtain ⟨ad229,e229,hx229_0⟩:=Kd.at_int HR0.out x11_1 p229 q229;cases e229;replace p229:=eq_true p229;replace q229:=eq_true q229;go_wp2_with (first|((with_reducible refine gate_callee (f:=60) rfl ?_);refine goesL_ (some 18) rfl rfl Try.func60 (by kernel_rfl) rfl #[.int .i64 (rd l0 x11_1), .int .i64 a1, .int .i64 a2] rfl (by (try simp only[List.map_toArray,List.map_cons,List.map_nil]);first|done|rfl|(simp only[List.length_drop,List.length_take];rfl)) ?_;(with_reducible refine (spec_l1In.calls (rd l0 x11_1) a1 a2 true _ A7.out).mono ?_);rintro e w' ⟨rfl,⟨nd,rfl⟩⟩;refine ⟨_,rfl,?_⟩));go_roundg k1
       case measure=>have:=HK1.out;omega
       case rel=>exact ⟨(wrap64 (x11_1+1)),(by first|rfl|(simp;done)|(simp[*];done)),H',⟨by have:=HK1.out;omega⟩,by repeat (first|exact Drawn0.refl _|apply Drawn0.step)⟩
      ·
       replace c8:=Bool.eq_false_iff.mpr c8;subst c8;have H1:(some false)=some r:=by rw[if_neg (show ¬ (false=true) by decide)] at H;exact H
       clear H;have H:=H1;clear H1;obtain rfl:=Option.some.inj H;have p229:0≤(x11_1:Int):=of_decide_eq_true (by first|(with_reducible assumption)|assumption);have q229:x11_1 < (l0.length:Int):=of_decide_eq_true (by first|(with_reducible assumption)|assumption);obtain ⟨ad229,e229,hx229_0⟩:=Kd.at_int HR0.out x11_1 p229 q229;cases e229;replace p229:=eq_true p229;replace q229:=eq_true q229;go_wp2_with (first|((with_reducible refine gate_callee (f:=60) rfl ?_);refine goesL_ (some 18) rfl rfl Try.func60 (by kernel_rfl) rfl #[.int .i64 (rd l0 x11_1), .int .i64 a1, .int .i64 a2] rfl (by (try simp only[List.map_toArray,List.map_cons,List.map_nil]);first|done|rfl|(simp only[List.length_drop,List.length_take];rfl)) ?_;(with_reducible refine (spec_l1In.calls (rd l0 x11_1) a1 a2 false _ A7.out).mono ?_);rintro e w' ⟨rfl,⟨nd,rfl⟩⟩;refine ⟨_,rfl,?_⟩));go_ret
       exact ⟨by first|rfl|(simp;done)|(simp[*];done),by repeat (first|exact Drawn0.refl _|apply Drawn0.step)⟩
     ·
      rw[if_neg c6] at H;exact absurd H (by simp)
    ·
     rw[if_neg c5] at H;exact absurd H (by simp)
   ·
    rw[if_neg c4] at H;have c4b0:decide (x11_1 < (l0.length:Int))=false:=decide_eq_false c4;clear c4;obtain rfl:=Option.some.inj H;go_wp2;go_ret
    exact ⟨by first|rfl|(simp;done)|(simp[*];done),by repeat (first|exact Drawn0.refl _|apply Drawn0.step)⟩
def spec_paGood.f (k:Nat) (l0_0:List Int) (a0_1:Int):Option (Bool):=(spec_l1In.f (l0_0.length:Int) 1 8).bind fun t232=>(if t232=true then ((spec_l1All.f k l0_0 1 1000).bind fun t233=>(if t233=true then ((spec_l1In.f a0_1 1 3).bind fun t234=>(some t234)) else (some false))) else (some false))
set_option maxHeartbeats 8000000 in
set_option maxRecDepth 100000 in
theorem spec_paGood.calls (k:Nat) (A0_0:Option Addr) (c0_0:Nat) (l0_0:List Int) (a0_1:Int) (r:Bool) (w:World) (hr0_0:Kd.C (Kd.int .i64) w A0_0 l0_0.length l0_0) (hc0_0:l0_0.length≤c0_0) (h:spec_paGood.f k l0_0 a0_1=some r) :
  Calls Try.prog 59 #[.agg #[.slice A0_0 l0_0.length c0_0, .int .i64 a0_1]] w fun e w'=>e = .returned (.bool r)∧Below w.heap.size w w':=by
 have hu28:=Try.underlying28
 have HR0_0:=am' hr0_0
 have HC0_0:=am' hc0_0
 clear hr0_0 hc0_0;have HB:=am' (Below.refl w.heap.size w)
 have H:((spec_l1In.f (l0_0.length:Int) 1 8).bind fun t232=>(if t232=true then ((spec_l1All.f k l0_0 1 1000).bind fun t233=>(if t233=true then ((spec_l1In.f a0_1 1 3).bind fun t234=>(some t234)) else (some false))) else (some false)))=some r:=h
 clear h;replace H:=Option.bind_eq_some_iff.mp H
 obtain ⟨t232,A20,H⟩:=H
 replace H:(if t232=true then ((spec_l1All.f k l0_0 1 1000).bind fun t233=>(if t233=true then ((spec_l1In.f a0_1 1 3).bind fun t234=>(some t234)) else (some false))) else (some false))=some r:=H
 have A2:=am' A20
 clear A20;by_cases c3:t232=true
 ·
  subst c3;have H1:((spec_l1All.f k l0_0 1 1000).bind fun t233=>(if t233=true then ((spec_l1In.f a0_1 1 3).bind fun t234=>(some t234)) else (some false)))=some r:=by rw[if_pos rfl] at H;exact H
  clear H;have H:=H1;clear H1;replace H:=Option.bind_eq_some_iff.mp H;obtain ⟨t233,A40,H⟩:=H;replace H:(if t233=true then ((spec_l1In.f a0_1 1 3).bind fun t234=>(some t234)) else (some false))=some r:=H;have A4:=am' A40;clear A40;by_cases c5:t233=true
  ·
   subst c5;have H1:((spec_l1In.f a0_1 1 3).bind fun t234=>(some t234))=some r:=by rw[if_pos rfl] at H;exact H
   clear H;have H:=H1;clear H1;replace H:=Option.bind_eq_some_iff.mp H;obtain ⟨t234,A60,H⟩:=H;replace H:(some t234)=some r:=H;have A6:=am' A60;clear A60;obtain rfl:=Option.some.inj H;go_enter Try.func59,Try.ntmps59;go_wp2_with (first|((with_reducible refine gate_dst (N:=1) rfl ?_);refine box_event ?hg (N:=1) ?hd (cs:=#[.slice A0_0 l0_0.length c0_0, .int .i64 a0_1]) (t:=28) ?hr ?_;(case hd=>rfl);(case hg=>rfl);(case hr=>first|(go_simp;done)|(go_simp;rfl));intro gb231 hg w7 hbox hb;have n0_:=am' (below_step (by repeat (first|(with_reducible first|exact HB.out|apply ba'|apply bd'|apply be')|exact HB.out)) hb);have n1_:=am' (hbox);have n2_:=am' ((by rw[hg];exact (below_size (by repeat (first|(with_reducible first|exact HB.out|apply ba'|apply bd'|apply be')|exact HB.out))):w.heap.size≤gb231));have n3_:=am' ((by rw[hg];exact (below_size (by repeat (first|(with_reducible first|exact HB.out|apply ba'|apply bd'|apply be')|exact HB.out))):w.heap.size≤gb231));clear HB;have HB:=n0_;have BK231:=n1_;have GW231:=n2_;have GE231:=n3_;clear n0_ n1_ n2_ n3_;clear hb hbox hg;have hcz8_0:w7.cell? ⟨gb231,0,none⟩=some (.slice A0_0 l0_0.length c0_0):=(blk_cell BK231.out 0).trans rfl;have hcz8_1:w7.cell? ⟨gb231,1,none⟩=some (.int .i64 a0_1):=(blk_cell BK231.out 1).trans rfl;have hfz8_0:=blk_frozen BK231.out 0;have hfz8_1:=blk_frozen BK231.out 1)|((with_reducible refine gate_callee (f:=60) rfl ?_);refine goesL_ (some 6) rfl rfl Try.func60 (by kernel_rfl) rfl #[.int .i64 (l0_0.length:Int), .int .i64 1, .int .i64 8] rfl (by (try simp only[List.map_toArray,List.map_cons,List.map_nil]);first|done|rfl|(simp only[List.length_drop,List.length_take];rfl)) ?_;(with_reducible refine (spec_l1In.calls (l0_0.length:Int) 1 8 true _ A2.out).mono ?_);rintro e w' ⟨rfl,⟨nd,rfl⟩⟩;refine ⟨_,rfl,?_⟩)|(go_at_call 99;(with_reducible refine (spec_l1All.calls k _ _ l0_0 1 1000 true _ ?side1 ?side2 A4.out).mono ?_);(case side1=>repeat (first|exact (Kd.C_below HR0_0.out (by repeat (first|(with_reducible first|exact HB.out|apply ba'|apply bd'|apply be'|refine bs' ?_ GE231.out)|exact HB.out)))|(with_reducible refine ca' ?_ _)|(with_reducible refine cn' ?_ _)|(with_reducible refine cd' ?_)));(case side2=>exact HC0_0.out);rintro e w' ⟨rfl,⟨nd,rfl⟩⟩)|(go_at_call 60;(with_reducible refine (spec_l1In.calls a0_1 1 3 t234 _ A6.out).mono ?_);rintro e w' ⟨rfl,⟨nd,rfl⟩⟩));go_ret
   exact ⟨by first|rfl|(simp[errW_none,errW_some] <;> rfl)|(simp[*,errW_none,errW_some] <;> rfl),by repeat (first|(with_reducible first|exact HB.out|apply ba'|apply bd'|apply be'|refine bs' ?_ GE231.out)|exact HB.out)⟩
  ·
   replace c5:=Bool.eq_false_iff.mpr c5;subst c5;have H1:(some false)=some r:=by rw[if_neg (show ¬ (false=true) by decide)] at H;exact H
   clear H;have H:=H1;clear H1;obtain rfl:=Option.some.inj H;go_enter Try.func59,Try.ntmps59;go_wp2_with (first|((with_reducible refine gate_dst (N:=1) rfl ?_);refine box_event ?hg (N:=1) ?hd (cs:=#[.slice A0_0 l0_0.length c0_0, .int .i64 a0_1]) (t:=28) ?hr ?_;(case hd=>rfl);(case hg=>rfl);(case hr=>first|(go_simp;done)|(go_simp;rfl));intro gb231 hg w9 hbox hb;have n0_:=am' (below_step (by repeat (first|(with_reducible first|exact HB.out|apply ba'|apply bd'|apply be')|exact HB.out)) hb);have n1_:=am' (hbox);have n2_:=am' ((by rw[hg];exact (below_size (by repeat (first|(with_reducible first|exact HB.out|apply ba'|apply bd'|apply be')|exact HB.out))):w.heap.size≤gb231));have n3_:=am' ((by rw[hg];exact (below_size (by repeat (first|(with_reducible first|exact HB.out|apply ba'|apply bd'|apply be')|exact HB.out))):w.heap.size≤gb231));clear HB;have HB:=n0_;have BK231:=n1_;have GW231:=n2_;have GE231:=n3_;clear n0_ n1_ n2_ n3_;clear hb hbox hg;have hcz10_0:w9.cell? ⟨gb231,0,none⟩=some (.slice A0_0 l0_0.length c0_0):=(blk_cell BK231.out 0).trans rfl;have hcz10_1:w9.cell? ⟨gb231,1,none⟩=some (.int .i64 a0_1):=(blk_cell BK231.out 1).trans rfl;have hfz10_0:=blk_frozen BK231.out 0;have hfz10_1:=blk_frozen BK231.out 1)|((with_reducible refine gate_callee (f:=60) rfl ?_);refine goesL_ (some 6) rfl rfl Try.func60 (by kernel_rfl) rfl #[.int .i64 (l0_0.length:Int), .int .i64 1, .int .i64 8] rfl (by (try simp only[List.map_toArray,List.map_cons,List.map_nil]);first|done|rfl|(simp only[List.length_drop,List.length_take];rfl)) ?_;(with_reducible refine (spec_l1In.calls (l0_0.length:Int) 1 8 true _ A2.out).mono ?_);rintro e w' ⟨rfl,⟨nd,rfl⟩⟩;refine ⟨_,rfl,?_⟩)|(go_at_call 99;(with_reducible refine (spec_l1All.calls k _ _ l0_0 1 1000 false _ ?side1 ?side2 A4.out).mono ?_);(case side1=>repeat (first|exact (Kd.C_below HR0_0.out (by repeat (first|(with_reducible first|exact HB.out|apply ba'|apply bd'|apply be'|refine bs' ?_ GE231.out)|exact HB.out)))|(with_reducible refine ca' ?_ _)|(with_reducible refine cn' ?_ _)|(with_reducible refine cd' ?_)));(case side2=>exact HC0_0.out);rintro e w' ⟨rfl,⟨nd,rfl⟩⟩));go_ret
   exact ⟨by first|rfl|(simp[errW_none,errW_some] <;> rfl)|(simp[*,errW_none,errW_some] <;> rfl),by repeat (first|(with_reducible first|exact HB.out|apply ba'|apply bd'|apply be'|refine bs' ?_ GE231.out)|exact HB.out)⟩
 ·
  replace c3:=Bool.eq_false_iff.mpr c3;subst c3;have H1:(some false)=some r:=by rw[if_neg (show ¬ (false=true) by decide)] at H;exact H
  clear H;have H:=H1;clear H1;obtain rfl:=Option.some.inj H;go_enter Try.func59,Try.ntmps59;go_wp2_with (first|((with_reducible refine gate_dst (N:=1) rfl ?_);refine box_event ?hg (N:=1) ?hd (cs:=#[.slice A0_0 l0_0.length c0_0, .int .i64 a0_1]) (t:=28) ?hr ?_;(case hd=>rfl);(case hg=>rfl);(case hr=>first|(go_simp;done)|(go_simp;rfl));intro gb231 hg w11 hbox hb;have n0_:=am' (below_step (by repeat (first|(with_reducible first|exact HB.out|apply ba'|apply bd'|apply be')|exact HB.out)) hb);have n1_:=am' (hbox);have n2_:=am' ((by rw[hg];exact (below_size (by repeat (first|(with_reducible first|exact HB.out|apply ba'|apply bd'|apply be')|exact HB.out))):w.heap.size≤gb231));have n3_:=am' ((by rw[hg];exact (below_size (by repeat (first|(with_reducible first|exact HB.out|apply ba'|apply bd'|apply be')|exact HB.out))):w.heap.size≤gb231));clear HB;have HB:=n0_;have BK231:=n1_;have GW231:=n2_;have GE231:=n3_;clear n0_ n1_ n2_ n3_;clear hb hbox hg;have hcz12_0:w11.cell? ⟨gb231,0,none⟩=some (.slice A0_0 l0_0.length c0_0):=(blk_cell BK231.out 0).trans rfl;have hcz12_1:w11.cell? ⟨gb231,1,none⟩=some (.int .i64 a0_1):=(blk_cell BK231.out 1).trans rfl;have hfz12_0:=blk_frozen BK231.out 0;have hfz12_1:=blk_frozen BK231.out 1)|((with_reducible refine gate_callee (f:=60) rfl ?_);refine goesL_ (some 6) rfl rfl Try.func60 (by kernel_rfl) rfl #[.int .i64 (l0_0.length:Int), .int .i64 1, .int .i64 8] rfl (by (try simp only[List.map_toArray,List.map_cons,List.map_nil]);first|done|rfl|(simp only[List.length_drop,List.length_take];rfl)) ?_;(with_reducible refine (spec_l1In.calls (l0_0.length:Int) 1 8 false _ A2.out).mono ?_);rintro e w' ⟨rfl,⟨nd,rfl⟩⟩;refine ⟨_,rfl,?_⟩));go_ret
  exact ⟨by first|rfl|(simp[errW_none,errW_some] <;> rfl)|(simp[*,errW_none,errW_some] <;> rfl),by repeat (first|(with_reducible first|exact HB.out|apply ba'|apply bd'|apply be'|refine bs' ?_ GE231.out)|exact HB.out)⟩
end Go.Proofs.Ytamljjfhkolflaa.C15
