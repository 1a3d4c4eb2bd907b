import Derived.Test.YtmfofjloklafoaaC7zx0
import Derived.Test.YtmfofjloklafoaaC7zx7
import Derived.Test.YtmfofjloklafoaaC7zAl
namespace Go.Proofs.Ytmfofjloklafoaa.C7
open Go.RowKit Go.Proofs.YtmfofjloklafoaaW.PrintWords Go.Proofs.YtmfofjloklafoaaW.PrintLast Go.Proofs.YtmfofjloklafoaaW.PrintMore Go.Proofs.Ytmfofjloklafoaa.H
attribute [local go_sem] max2_int min2_int max_two min_two max_three min_three max_four min_four
set_option linter.unusedVariables false
set_option linter.unusedSimpArgs false
def laws_toKeep.f (k:Nat) (a0_0:Int) (l0_1:List (List Int)) (a0_2:Int):Option (Int × (List (List Int)) × Int):=(laws_toIntSS.f k l0_1).bind fun t239=>(some (a0_0,t239,a0_2))
set_option maxHeartbeats 8000000 in
set_option maxRecDepth 100000 in
theorem laws_toKeep.calls (k:Nat) (a0_0:Int) (A0_1:Option Addr) (c0_1:Nat) (l0_1:List (List Int)) (a0_2:Int) (r1:Int) (r2:List (List Int)) (r3:Int) (w:World) (hr0_1:Kd.C (Kd.slice 3 (Kd.int .i64)) w A0_1 l0_1.length l0_1) (hc0_1:l0_1.length≤c0_1) (h:laws_toKeep.f k a0_0 l0_1 a0_2=some (r1,r2,r3)) :
  Calls Try.prog 12 #[.agg #[.int .i64 a0_0, .slice A0_1 l0_1.length c0_1, .int .i64 a0_2]] w fun e w'=>∃ v1_:Value,e = .returned (.agg #[.int .i64 r1,v1_, .int .i64 r3])∧Kd.S (Kd.slice 3 (Kd.int .i64)) 43 w' w.heap.size (fun _=>True) v1_ r2∧Below w.heap.size w w':=by
 have hu24:=Try.underlying24
 have hu32:=Try.underlying32
 have HR0_1:=am' hr0_1
 have HC0_1:=am' hc0_1
 clear hr0_1 hc0_1;have HB:=am' (Below.refl w.heap.size w)
 have H:((laws_toIntSS.f k l0_1).bind fun t239=>(some (a0_0,t239,a0_2)))=some (r1,r2,r3):=h
 clear h;replace H:=Option.bind_eq_some_iff.mp H
 obtain ⟨t239,A20,H⟩:=H
 replace H:(some (a0_0,t239,a0_2))=some (r1,r2,r3):=H
 have A2:=am' A20
 clear A20;simp only[Option.some.injEq,Prod.mk.injEq] at H
 obtain ⟨rfl,rfl,rfl⟩:=H
 go_enter Try.func12,Try.ntmps12
 go_wp2_with (first|((with_reducible refine gate_dst (N:=1) rfl ?_);refine box_event ?hg (N:=1) ?hd (cs:=#[.int .i64 a0_0, .slice A0_1 l0_1.length c0_1, .int .i64 a0_2]) (t:=24) ?hr ?_;(case hd=>rfl);(case hg=>rfl);(case hr=>first|(go_simp;done)|(go_simp;rfl));intro gb236 hg w3 hbox hb;have n0_:=am' (below_step (by repeat (first|(with_reducible first|exact HB.out|apply ba'|apply bd'|apply be')|exact HB.out)) hb);have n1_:=am' (hbox);have n2_:=am' ((by rw[hg];exact (below_size (by repeat (first|(with_reducible first|exact HB.out|apply ba'|apply bd'|apply be')|exact HB.out))):w.heap.size≤gb236));have n3_:=am' ((by rw[hg];exact (below_size (by repeat (first|(with_reducible first|exact HB.out|apply ba'|apply bd'|apply be')|exact HB.out))):w.heap.size≤gb236));clear HB;have HB:=n0_;have BK236:=n1_;have GW236:=n2_;have GE236:=n3_;clear n0_ n1_ n2_ n3_;clear hb hbox hg)|((with_reducible refine gate_dst (N:=2) rfl ?_);refine box_event ?hg (N:=2) ?hd (cs:=#[.int .i64 0, .slice none 0 0, .int .i64 0]) (t:=32) ?hr ?_;(case hd=>rfl);(case hg=>rfl);(case hr=>first|(go_simp;done)|(go_simp;rfl));intro gb237 hg w4 hbox hb;have n0_:=am' (blk_below (g:=gb236) (o := .cells #[.int .i64 a0_0, .slice A0_1 l0_1.length c0_1, .int .i64 a0_2] 24 (0,0)) (by (with_reducible repeat (first|refine kn' ?_ _|refine kd' ?_|refine ka' ?_ _));exact BK236.out) hb);have n1_:=am' (below_step (by repeat (first|(with_reducible first|exact HB.out|apply ba'|apply bd'|apply be'|refine bs' ?_ GE236.out)|exact HB.out)) hb);have n2_:=am' (hbox);have n3_:=am' ((by rw[hg];exact (below_size (by repeat (first|(with_reducible first|exact HB.out|apply ba'|apply bd'|apply be'|refine bs' ?_ GE236.out)|exact HB.out))):w.heap.size≤gb237));have n4_:=am' ((by rw[hg];exact (below_size (by repeat (first|(with_reducible first|exact HB.out|apply ba'|apply bd'|apply be'|refine bs' ?_ GE236.out)|exact HB.out))):w.heap.size≤gb237));have n5_:=am' ((by rw[hg];exact Nat.ne_of_lt (blk_lt (g:=gb236) (o := .cells #[.int .i64 a0_0, .slice A0_1 l0_1.length c0_1, .int .i64 a0_2] 24 (0,0)) (by (with_reducible repeat (first|refine kn' ?_ _|refine kd' ?_|refine ka' ?_ _));exact BK236.out)):gb236≠gb237));have n6_:=am' ((by rw[hg];exact Nat.ne_of_gt (blk_lt (g:=gb236) (o := .cells #[.int .i64 a0_0, .slice A0_1 l0_1.length c0_1, .int .i64 a0_2] 24 (0,0)) (by (with_reducible repeat (first|refine kn' ?_ _|refine kd' ?_|refine ka' ?_ _));exact BK236.out)):gb237≠gb236));clear BK236;clear HB;have BK236:=n0_;have HB:=n1_;have BK237:=n2_;have GW237:=n3_;have GE237:=n4_;have NB236_237:=n5_;have NB237_236:=n6_;clear n0_ n1_ n2_ n3_ n4_ n5_ n6_;clear hb hbox hg)|((with_reducible refine gate_dst (N:=3) rfl ?_);refine box_event ?hg (N:=3) ?hd (cs:=#[.int .i64 0, .slice none 0 0, .int .i64 0]) (t:=32) ?hr ?_;(case hd=>rfl);(case hg=>rfl);(case hr=>first|(go_simp;done)|(go_simp;rfl));intro gb238 hg w5 hbox hb;have n0_:=am' (blk_below (g:=gb236) (o := .cells #[.int .i64 a0_0, .slice A0_1 l0_1.length c0_1, .int .i64 a0_2] 24 (0,0)) (by (with_reducible repeat (first|refine kn' ?_ _|refine kd' ?_|refine ka' ?_ _));exact BK236.out) hb);have n1_:=am' (blk_below (g:=gb237) (o := .cells #[.int .i64 0, .slice none 0 0, .int .i64 0] 32 (0,0)) (by (with_reducible repeat (first|refine kn' ?_ _|refine kd' ?_|refine ka' ?_ _));exact BK237.out) hb);have n2_:=am' (below_step (by repeat (first|(with_reducible first|exact HB.out|apply ba'|apply bd'|apply be'|refine bs' ?_ GE236.out|refine bs' ?_ GE237.out)|exact HB.out)) hb);have n3_:=am' (hbox);have n4_:=am' ((by rw[hg];exact (below_size (by repeat (first|(with_reducible first|exact HB.out|apply ba'|apply bd'|apply be'|refine bs' ?_ GE236.out|refine bs' ?_ GE237.out)|exact HB.out))):w.heap.size≤gb238));have n5_:=am' ((by rw[hg];exact (below_size (by repeat (first|(with_reducible first|exact HB.out|apply ba'|apply bd'|apply be'|refine bs' ?_ GE236.out|refine bs' ?_ GE237.out)|exact HB.out))):w.heap.size≤gb238));have n6_:=am' ((by rw[hg];exact Nat.ne_of_lt (blk_lt (g:=gb236) (o := .cells #[.int .i64 a0_0, .slice A0_1 l0_1.length c0_1, .int .i64 a0_2] 24 (0,0)) (by (with_reducible repeat (first|refine kn' ?_ _|refine kd' ?_|refine ka' ?_ _));exact BK236.out)):gb236≠gb238));have n7_:=am' ((by rw[hg];exact Nat.ne_of_gt (blk_lt (g:=gb236) (o := .cells #[.int .i64 a0_0, .slice A0_1 l0_1.length c0_1, .int .i64 a0_2] 24 (0,0)) (by (with_reducible repeat (first|refine kn' ?_ _|refine kd' ?_|refine ka' ?_ _));exact BK236.out)):gb238≠gb236));have n8_:=am' ((by rw[hg];exact Nat.ne_of_lt (blk_lt (g:=gb237) (o := .cells #[.int .i64 0, .slice none 0 0, .int .i64 0] 32 (0,0)) (by (with_reducible repeat (first|refine kn' ?_ _|refine kd' ?_|refine ka' ?_ _));exact BK237.out)):gb237≠gb238));have n9_:=am' ((by rw[hg];exact Nat.ne_of_gt (blk_lt (g:=gb237) (o := .cells #[.int .i64 0, .slice none 0 0, .int .i64 0] 32 (0,0)) (by (with_reducible repeat (first|refine kn' ?_ _|refine kd' ?_|refine ka' ?_ _));exact BK237.out)):gb238≠gb237));clear BK236;clear BK237;clear HB;have BK236:=n0_;have BK237:=n1_;have HB:=n2_;have BK238:=n3_;have GW238:=n4_;have GE238:=n5_;have NB236_238:=n6_;have NB238_236:=n7_;have NB237_238:=n8_;have NB238_237:=n9_;clear n0_ n1_ n2_ n3_ n4_ n5_ n6_ n7_ n8_ n9_;clear hb hbox hg;have hnb6:=NB236_237.out;have hnc6:=NB237_236.out;have hnb7:=NB236_238.out;have hnc7:=NB238_236.out;have hcz8_0:w5.cell? ⟨gb236,0,none⟩=some (.int .i64 a0_0):=(blk_cell BK236.out 0).trans rfl;have hcz8_1:w5.cell? ⟨gb236,1,none⟩=some (.slice A0_1 l0_1.length c0_1):=(blk_cell BK236.out 1).trans rfl;have hcz8_2:w5.cell? ⟨gb236,2,none⟩=some (.int .i64 a0_2):=(blk_cell BK236.out 2).trans rfl;have hfz8_0:=blk_frozen BK236.out 0;have hfz8_1:=blk_frozen BK236.out 1;have hfz8_2:=blk_frozen BK236.out 2;have hnb9:=NB238_237.out;have hnc9:=NB237_238.out;have hcz10_0:w5.cell? ⟨gb238,0,none⟩=some (.int .i64 0):=(blk_cell BK238.out 0).trans rfl;have hcz10_1:w5.cell? ⟨gb238,1,none⟩=some (.slice none 0 0):=(blk_cell BK238.out 1).trans rfl;have hcz10_2:w5.cell? ⟨gb238,2,none⟩=some (.int .i64 0):=(blk_cell BK238.out 2).trans rfl;have hfz10_0:=blk_frozen BK238.out 0;have hfz10_1:=blk_frozen BK238.out 1;have hfz10_2:=blk_frozen BK238.out 2)|((with_reducible refine gate_callee (f:=55) rfl ?_);refine goesL_ (some 9) rfl rfl Try.func55 (by kernel_rfl) rfl #[.slice A0_1 l0_1.length c0_1] rfl (by (try simp only[List.map_toArray,List.map_cons,List.map_nil]);first|done|rfl|(simp only[List.length_drop,List.length_take];rfl)) ?_;(with_reducible refine (laws_toIntSS.calls k _ _ l0_1 t239 _ ?side1 ?side2 A2.out).mono ?_);(case side1=>exact Kd.C_below HR0_1.out (by repeat (first|(with_reducible first|exact HB.out|apply ba'|apply bd'|apply be'|refine bs' ?_ GE236.out|refine bs' ?_ GE237.out|refine bs' ?_ GE238.out)|exact HB.out)));(case side2=>exact HC0_1.out);rintro e w11 ⟨v240,rfl,ho0,hb⟩;refine ⟨_,rfl,?_⟩;have n0_:=am' (Kd.S_lower ho0 (below_size (by repeat (first|(with_reducible first|exact HB.out|apply ba'|apply bd'|apply be'|refine bs' ?_ GE236.out|refine bs' ?_ GE237.out|refine bs' ?_ GE238.out)|exact HB.out))));have n1_:=am' (blk_below (g:=gb236) (o := .cells #[.int .i64 a0_0, .slice A0_1 l0_1.length c0_1, .int .i64 a0_2] 24 (0,0)) (by (with_reducible repeat (first|refine kn' ?_ _|refine kd' ?_|refine ka' ?_ _));refine blk_far ?_ NB236_238.out _;(with_reducible repeat (first|refine kn' ?_ _|refine kd' ?_|refine ka' ?_ _));exact BK236.out) hb);have n2_:=am' (blk_below (g:=gb237) (o := .cells #[.int .i64 0, .slice none 0 0, .int .i64 0] 32 (0,0)) (by (with_reducible repeat (first|refine kn' ?_ _|refine kd' ?_|refine ka' ?_ _));refine blk_far ?_ NB237_238.out _;(with_reducible repeat (first|refine kn' ?_ _|refine kd' ?_|refine ka' ?_ _));exact BK237.out) hb);have n3_:=am' (blk_below (g:=gb238) (o := .cells #[.int .i64 a0_0, .slice none 0 0, .int .i64 0] 32 (0,0)) (by (with_reducible repeat (first|refine kn' ?_ _|refine kd' ?_|refine ka' ?_ _));refine blk_put (cs:=#[.int .i64 0, .slice none 0 0, .int .i64 0]) ?_ 0 _ rfl;(with_reducible repeat (first|refine kn' ?_ _|refine kd' ?_|refine ka' ?_ _));exact BK238.out) hb);have n4_:=am' (below_step (by repeat (first|(with_reducible first|exact HB.out|apply ba'|apply bd'|apply be'|refine bs' ?_ GE236.out|refine bs' ?_ GE237.out|refine bs' ?_ GE238.out)|exact HB.out)) hb);clear BK236;clear BK237;clear BK238;clear HB;have HO241:=n0_;have BK236:=n1_;have BK237:=n2_;have BK238:=n3_;have HB:=n4_;clear n0_ n1_ n2_ n3_ n4_;(try clear hb);(try clear hb2);(try clear hk);(try clear hi);(try clear ho0);obtain ⟨Ao12,co12,eo12⟩:=Kd.S_slice HO241.out;subst eo12;have hcz13_0:w11.cell? ⟨gb238,0,none⟩=some (.int .i64 a0_0):=(blk_cell BK238.out 0).trans rfl;have hcz13_1:w11.cell? ⟨gb238,1,none⟩=some (.slice none 0 0):=(blk_cell BK238.out 1).trans rfl;have hcz13_2:w11.cell? ⟨gb238,2,none⟩=some (.int .i64 0):=(blk_cell BK238.out 2).trans rfl;have hfz13_0:=blk_frozen BK238.out 0;have hfz13_1:=blk_frozen BK238.out 1;have hfz13_2:=blk_frozen BK238.out 2;have hcz14_0:w11.cell? ⟨gb236,0,none⟩=some (.int .i64 a0_0):=(blk_cell BK236.out 0).trans rfl;have hcz14_1:w11.cell? ⟨gb236,1,none⟩=some (.slice A0_1 l0_1.length c0_1):=(blk_cell BK236.out 1).trans rfl;have hcz14_2:w11.cell? ⟨gb236,2,none⟩=some (.int .i64 a0_2):=(blk_cell BK236.out 2).trans rfl;have hfz14_0:=blk_frozen BK236.out 0;have hfz14_1:=blk_frozen BK236.out 1;have hfz14_2:=blk_frozen BK236.out 2;have hcz15_0:w11.cell? ⟨gb237,0,none⟩=some (.int .i64 0):=(blk_cell BK237.out 0).trans rfl;have hcz15_1:w11.cell? ⟨gb237,1,none⟩=some (.slice none 0 0):=(blk_cell BK237.out 1).trans rfl;have hcz15_2:w11.cell? ⟨gb237,2,none⟩=some (.int .i64 0):=(blk_cell BK237.out 2).trans rfl;have hfz15_0:=blk_frozen BK237.out 0;have hfz15_1:=blk_frozen BK237.out 1;have hfz15_2:=blk_frozen BK237.out 2))
 refine bodyPost_ret (results_cell_row rfl _ _ gb237 32 #[.int .i64 a0_0, .slice Ao12 t239.length co12, .int .i64 a0_2] (0,0) _ rfl (by (with_reducible repeat (first|refine kn' ?_ _|refine kd' ?_|refine ka' ?_ _));refine blk_put (cs:=#[.int .i64 a0_0, .slice Ao12 t239.length co12, .int .i64 0]) ?_ 2 _ rfl;(with_reducible repeat (first|refine kn' ?_ _|refine kd' ?_|refine ka' ?_ _));refine blk_put (cs:=#[.int .i64 a0_0, .slice none 0 0, .int .i64 0]) ?_ 1 _ rfl;(with_reducible repeat (first|refine kn' ?_ _|refine kd' ?_|refine ka' ?_ _));refine blk_put (cs:=#[.int .i64 0, .slice none 0 0, .int .i64 0]) ?_ 0 _ rfl;(with_reducible repeat (first|refine kn' ?_ _|refine kd' ?_|refine ka' ?_ _));refine blk_far ?_ NB237_238.out _;(with_reducible repeat (first|refine kn' ?_ _|refine kd' ?_|refine ka' ?_ _));refine blk_far ?_ NB237_238.out _;(with_reducible repeat (first|refine kn' ?_ _|refine kd' ?_|refine ka' ?_ _));exact BK237.out) Try.underlying32 rfl (by kernel_rfl)) rfl ?_
 exact ⟨_,by first|rfl|(simp[errW_none,errW_some] <;> rfl)|(simp[*,errW_none,errW_some] <;> rfl),by (with_reducible repeat (first|apply Kd.S_alloc|apply Kd.S_drewN|apply Kd.S_drew));exact Kd.S_mono (Kd.S_far (p:=⟨gb237,2,none⟩) (Kd.S_far (p:=⟨gb237,1,none⟩) (Kd.S_far (p:=⟨gb237,0,none⟩) (Kd.S_far (p:=⟨gb238,2,none⟩) (Kd.S_far (p:=⟨gb238,1,none⟩) (Kd.S_types (Kd.S_types HO241.out BK238.out (by decide)) BK237.out (by decide)) (fun _ hk=>hk.1.2) (.slice Ao12 t239.length co12)) (fun _ hk=>hk.1.2) (.int .i64 a0_2)) (fun _ hk=>hk.2) (.int .i64 a0_0)) (fun _ hk=>hk.2) (.slice Ao12 t239.length co12)) (fun _ hk=>hk.2) (.int .i64 a0_2)) (fun _ hk=>trivial),by repeat (first|(with_reducible first|exact HB.out|apply ba'|apply bd'|apply be'|refine bs' ?_ GE236.out|refine bs' ?_ GE237.out|refine bs' ?_ GE238.out)|exact HB.out)⟩
def laws_toBoolS.l0:Nat→List Bool→List Bool→Int→Option (List Bool)
 | 0,_,_,_=>none
 | k+1,x0,x3,x4=>if x4 < (x0.length:Int) then (if 0≤x4 then (if x4 < (x3.length:Int) then (laws_toBoolS.l0 k x0 (x3.set (x4:Int).toNat (rdOf false x0 x4)) (wrap64 (x4+1))) else (none)) else (none)) else (some x3)
def laws_toBoolS.f (k:Nat) (l0:List Bool):Option (List Bool):=if 0≤(l0.length:Int) then (if ((l0.length:Int):Int).toNat≤281474976710656 then (laws_toBoolS.l0 k l0 (List.replicate ((l0.length:Int):Int).toNat false) 0) else (none)) else (none)
set_option maxHeartbeats 8000000 in
set_option maxRecDepth 100000 in
theorem laws_toBoolS.calls (k:Nat) (A0:Option Addr) (c0:Nat) (l0:List Bool) (r:List Bool) (w:World) (hr0:Kd.C Kd.bool w A0 l0.length l0) (hc0:l0.length≤c0) (h:laws_toBoolS.f k l0=some r) :
  Calls Try.prog 56 #[.slice A0 l0.length c0] w fun e w'=>∃ v0_:Value,e = .returned (v0_)∧Kd.R Kd.bool 4 w' w.heap.size (fun _=>True) v0_ r∧Below w.heap.size w w':=by
 have HR0:=am' hr0
 have HC0:=am' hc0
 clear hr0 hc0;have HB:=am' (Below.refl w.heap.size w)
 have H:(if 0≤(l0.length:Int) then (if ((l0.length:Int):Int).toNat≤281474976710656 then (laws_toBoolS.l0 k l0 (List.replicate ((l0.length:Int):Int).toNat false) 0) else (none)) else (none))=some r:=h
 clear h;by_cases c2:0≤(l0.length:Int)
 ·
  rw[if_pos c2] at H;have c2b0:=eq_true c2;have c2b1:decide (0≤(l0.length:Int))=true:=decide_eq_true c2;clear c2;by_cases c3:((l0.length:Int):Int).toNat≤281474976710656
  ·
   rw[if_pos c3] at H;have c3b0:=eq_true c3;have c3b1:decide (((l0.length:Int):Int).toNat≤281474976710656)=true:=decide_eq_true c3;clear c3;obtain ⟨y242,hy242⟩:∃ y_:List Bool,y_=(List.replicate ((l0.length:Int):Int).toNat false):=⟨_,rfl⟩
   replace H:(laws_toBoolS.l0 k l0 y242 0)=some r:=by first|(rw[hy242];with_reducible exact H)|(have H2_:=(Option.bind_some _ _).symm.trans H;rw[hy242];with_reducible exact H2_)|(have H2_:=(Option.bind_some _ _).symm.trans H;with_reducible exact H2_)|with_reducible exact H|(rw[hy242];exact H)|exact H
   have Ny242:=am' hy242;clear hy242;have H':=am' H;clear H;go_enter Try.func56,Try.ntmps56;go_wp2_with (first|((with_reducible refine gate_dst (N:=7) rfl ?_);refine Kd.R_make Kd.bool _ 4 rfl (N:=7) rfl 25 _ _ rfl (l0.length:Int) rfl rfl Try.underlying25 (.bool false) 1 info4 rfl (by decide) (by omega) false (ok:=fun _=>True) (okp:=fun _=>True) rfl (fun _ hk=>hk) trivial (of_decide_eq_true (by first|(with_reducible assumption)|assumption)) (Nat.le_trans (Nat.mul_le_mul_right _ (of_decide_eq_true (by first|(with_reducible assumption)|assumption):(l0.length:Int).toNat≤281474976710656)) (by omega)) (Below.refl _ _) (Nat.le_refl _) ?_;intro v243 w4 ho5 hb hg_ hnew_;clear hg_ hnew_;(first|rw[← Ny242.out] at ho5|(simp only[Int.reduceToNat] at ho5;rw[← Ny242.out] at ho5));have n0_:=am' (Kd.R_lower ho5 (below_size (by repeat (first|(with_reducible first|exact HB.out|apply ba'|apply bd'|apply be')|exact HB.out))));have n1_:=am' (below_step (by repeat (first|(with_reducible first|exact HB.out|apply ba'|apply bd'|apply be')|exact HB.out)) hb);clear HB;have HO244:=n0_;have HB:=n1_;clear n0_ n1_;clear hb ho5));go_loopg [4] k (fun kq v4 w'=>∃ (x3_1:List Bool) (x4_1:Int),v4 = .int .i64 x4_1∧Aside0 (laws_toBoolS.l0 kq l0 x3_1 x4_1=some r)∧Aside0 (kq≤k)∧Aside0 (Kd.R Kd.bool 4 w' w.heap.size (fun _=>True) v243 x3_1)∧Aside0 (Below w.heap.size w w'))
   case atStart=>exact ⟨(y242),(0),(by first|rfl|(simp;done)|(simp[*];done)),H',⟨Nat.le_refl _⟩,⟨by (with_reducible repeat (first|apply ra'|apply rn'|apply rw'));exact HO244.out⟩,⟨by repeat (first|(with_reducible first|exact HB.out|apply ba'|apply bd'|apply be')|exact HB.out)⟩⟩
   case round =>
    clear H';try clear c2
    try clear c2b0
    try clear c2b1
    try clear p2
    try clear c3
    try clear c3b0
    try clear c3b1
    try clear c5
    obtain ⟨x3_1,x4_1,rfl,HA,HK1,HO_3,HB⟩:=hrel;cases gk with
    | zero=>exact absurd HA.out (by simp[laws_toBoolS.l0])
    | succ k1 =>
     have H:=HA.out;clear HA;simp only[laws_toBoolS.l0] at H;by_cases c6:x4_1 < (l0.length:Int)
     ·
      rw[if_pos c6] at H;have c6b0:decide (x4_1 < (l0.length:Int))=true:=decide_eq_true c6;clear c6;by_cases c7:0≤x4_1
      ·
       rw[if_pos c7] at H;have c7b0:decide (0≤x4_1)=true:=decide_eq_true c7;clear c7;by_cases c8:x4_1 < (x3_1.length:Int)
       ·
        rw[if_pos c8] at H;have c8b0:decide (x4_1 < (x3_1.length:Int))=true:=decide_eq_true c8;clear c8;obtain ⟨y246,hy246⟩:∃ y_:List Bool,y_=(x3_1.set (x4_1:Int).toNat (rdOf false l0 x4_1)):=⟨_,rfl⟩
        replace H:(laws_toBoolS.l0 k1 l0 y246 (wrap64 (x4_1+1)))=some r:=by first|(rw[hy246];with_reducible exact H)|(have H2_:=(Option.bind_some _ _).symm.trans H;rw[hy246];with_reducible exact H2_)|(have H2_:=(Option.bind_some _ _).symm.trans H;with_reducible exact H2_)|with_reducible exact H|(rw[hy246];exact H)|exact H
        have Ny246:=am' hy246;clear hy246;have H':=am' H;clear H;have p245:0≤(x4_1:Int):=of_decide_eq_true (by first|(with_reducible assumption)|assumption);have q245:x4_1 < (l0.length:Int):=of_decide_eq_true (by first|(with_reducible assumption)|assumption);obtain ⟨ad245,e245,hx245_0⟩:=Kd.at_bool HR0.out x4_1 p245 q245;cases e245;replace hx245_0:=(HB.out.cell (bl' w _ hx245_0)).trans hx245_0;replace p245:=eq_true p245;replace q245:=eq_true q245;have p9:0≤(x4_1:Int):=of_decide_eq_true (by first|(with_reducible assumption)|assumption);have q9:(x4_1:Int) < ((x3_1.length:Int):Int):=of_decide_eq_true (by first|(with_reducible assumption)|assumption);obtain ⟨go9,co9,eo9,gb9,gl9,cl9,HG9⟩:=Kd.R_form HO_3.out (by omega)
        (first|cases eo9|(injection eo9 with ea_ en_ ec_;(first|subst ea_|(injection ea_ with ea_;subst ea_));subst ec_;clear en_))
        have GB9:=am' gb9;have GG9:=am' HG9;clear gb9 gl9 HG9;obtain ⟨hx9_0,hf9_0⟩:=Kd.R_celln false HO_3.out (x4_1:Int) p9 q9;replace p9:=eq_true p9;replace q9:=eq_true q9;have HP10:=Kd.R_putg HO_3.out (x4_1:Int) (rdOf false l0 x4_1);go_wp2_with (first|((with_reducible refine gate_store (t:=4) (p:=20) rfl ?_);refine store_event (t:=4) (p:=20) (v:=?vo_w11) (w1:=(wr.setCell ⟨go9,(x4_1:Int).toNat,none⟩ (.bool (rdOf false l0 x4_1)))) ?hg ?ho ?hn ?hr ?_;(case ho=>rfl);(case hg=>rfl);(case hn=>rfl);(case hr=>first|(go_simp;done)|(go_simp;rfl));intro w11 hw;have hg:wr.grownBy w11 (some go9):=(by rw[hw];exact HP10.2);have hp_:Kd.R Kd.bool 4 w11 w.heap.size (fun _=>True) (.slice (some ⟨go9,0,none⟩) x3_1.length co9) y246:=(by rw[hw,Ny246.out];exact HP10.1);clear HP10;have n0_:=am' (hp_);have n1_:=am' ((by rw[hw];exact bs' (HB.out) GB9.out:Below w.heap.size w w11));clear HO_3;clear HB;have HO_3:=n0_;have HB:=n1_;clear n0_ n1_;clear hg hw hp_));go_roundg k1
        case measure=>have:=HK1.out;omega
        case rel=>exact ⟨(y246),(wrap64 (x4_1+1)),(by first|rfl|(simp;done)|(simp[*];done)),H',⟨by have:=HK1.out;omega⟩,⟨by (with_reducible repeat (first|apply ra'|apply rn'|apply rw'));exact HO_3.out⟩,⟨by repeat (first|(with_reducible first|exact HB.out|apply ba'|apply bd'|apply be')|exact HB.out)⟩⟩
       ·
        rw[if_neg c8] at H;exact absurd H (by simp)
      ·
       rw[if_neg c7] at H;exact absurd H (by simp)
     ·
      rw[if_neg c6] at H;have c6b0:decide (x4_1 < (l0.length:Int))=false:=decide_eq_false c6;clear c6;obtain rfl:=Option.some.inj H;go_wp2;go_ret
      exact ⟨_,by first|rfl|(simp[errW_none,errW_some] <;> rfl)|(simp[*,errW_none,errW_some] <;> rfl),by (with_reducible repeat (first|apply ra'|apply rn'|apply rw'));exact HO_3.out,by repeat (first|(with_reducible first|exact HB.out|apply ba'|apply bd'|apply be')|exact HB.out)⟩
  ·
   rw[if_neg c3] at H;exact absurd H (by simp)
 ·
  rw[if_neg c2] at H;exact absurd H (by simp)
def laws_toBank.f (k:Nat) (l0_0:List Bool) (a0_1:Bool):Option (List Bool × Bool):=(laws_toBoolS.f k l0_0).bind fun t250=>(some (t250,a0_1))
set_option maxHeartbeats 8000000 in
set_option maxRecDepth 100000 in
theorem laws_toBank.calls (k:Nat) (A0_0:Option Addr) (c0_0:Nat) (l0_0:List Bool) (a0_1:Bool) (r1:List Bool) (r2:Bool) (w:World) (hr0_0:Kd.C Kd.bool w A0_0 l0_0.length l0_0) (hc0_0:l0_0.length≤c0_0) (h:laws_toBank.f k l0_0 a0_1=some (r1,r2)) :
  Calls Try.prog 13 #[.agg #[.slice A0_0 l0_0.length c0_0, .bool a0_1]] w fun e w'=>∃ v0_:Value,e = .returned (.agg #[v0_, .bool r2])∧Kd.R Kd.bool 4 w' w.heap.size (fun _=>True) v0_ r1∧Below w.heap.size w w':=by
 have hu27:=Try.underlying27
 have hu34:=Try.underlying34
 have HR0_0:=am' hr0_0
 have HC0_0:=am' hc0_0
 clear hr0_0 hc0_0;have HB:=am' (Below.refl w.heap.size w)
 have H:((laws_toBoolS.f k l0_0).bind fun t250=>(some (t250,a0_1)))=some (r1,r2):=h
 clear h;replace H:=Option.bind_eq_some_iff.mp H
 obtain ⟨t250,A20,H⟩:=H
 replace H:(some (t250,a0_1))=some (r1,r2):=H
 have A2:=am' A20
 clear A20;simp only[Option.some.injEq,Prod.mk.injEq] at H
 obtain ⟨rfl,rfl⟩:=H
 go_enter Try.func13,Try.ntmps13
 go_wp2_with (first|((with_reducible refine gate_dst (N:=1) rfl ?_);refine box_event ?hg (N:=1) ?hd (cs:=#[.slice A0_0 l0_0.length c0_0, .bool a0_1]) (t:=27) ?hr ?_;(case hd=>rfl);(case hg=>rfl);(case hr=>first|(go_simp;done)|(go_simp;rfl));intro gb247 hg w3 hbox hb;have n0_:=am' (below_step (by repeat (first|(with_reducible first|exact HB.out|apply ba'|apply bd'|apply be')|exact HB.out)) hb);have n1_:=am' (hbox);have n2_:=am' ((by rw[hg];exact (below_size (by repeat (first|(with_reducible first|exact HB.out|apply ba'|apply bd'|apply be')|exact HB.out))):w.heap.size≤gb247));have n3_:=am' ((by rw[hg];exact (below_size (by repeat (first|(with_reducible first|exact HB.out|apply ba'|apply bd'|apply be')|exact HB.out))):w.heap.size≤gb247));clear HB;have HB:=n0_;have BK247:=n1_;have GW247:=n2_;have GE247:=n3_;clear n0_ n1_ n2_ n3_;clear hb hbox hg)|((with_reducible refine gate_dst (N:=2) rfl ?_);refine box_event ?hg (N:=2) ?hd (cs:=#[.slice none 0 0, .bool false]) (t:=34) ?hr ?_;(case hd=>rfl);(case hg=>rfl);(case hr=>first|(go_simp;done)|(go_simp;rfl));intro gb248 hg w4 hbox hb;have n0_:=am' (blk_below (g:=gb247) (o := .cells #[.slice A0_0 l0_0.length c0_0, .bool a0_1] 27 (0,0)) (by (with_reducible repeat (first|refine kn' ?_ _|refine kd' ?_|refine ka' ?_ _));exact BK247.out) hb);have n1_:=am' (below_step (by repeat (first|(with_reducible first|exact HB.out|apply ba'|apply bd'|apply be'|refine bs' ?_ GE247.out)|exact HB.out)) hb);have n2_:=am' (hbox);have n3_:=am' ((by rw[hg];exact (below_size (by repeat (first|(with_reducible first|exact HB.out|apply ba'|apply bd'|apply be'|refine bs' ?_ GE247.out)|exact HB.out))):w.heap.size≤gb248));have n4_:=am' ((by rw[hg];exact (below_size (by repeat (first|(with_reducible first|exact HB.out|apply ba'|apply bd'|apply be'|refine bs' ?_ GE247.out)|exact HB.out))):w.heap.size≤gb248));have n5_:=am' ((by rw[hg];exact Nat.ne_of_lt (blk_lt (g:=gb247) (o := .cells #[.slice A0_0 l0_0.length c0_0, .bool a0_1] 27 (0,0)) (by (with_reducible repeat (first|refine kn' ?_ _|refine kd' ?_|refine ka' ?_ _));exact BK247.out)):gb247≠gb248));have n6_:=am' ((by rw[hg];exact Nat.ne_of_gt (blk_lt (g:=gb247) (o := .cells #[.slice A0_0 l0_0.length c0_0, .bool a0_1] 27 (0,0)) (by (with_reducible repeat (first|refine kn' ?_ _|refine kd' ?_|refine ka' ?_ _));exact BK247.out)):gb248≠gb247));clear BK247;clear HB;have BK247:=n0_;have HB:=n1_;have BK248:=n2_;have GW248:=n3_;have GE248:=n4_;have NB247_248:=n5_;have NB248_247:=n6_;clear n0_ n1_ n2_ n3_ n4_ n5_ n6_;clear hb hbox hg)|((with_reducible refine gate_dst (N:=3) rfl ?_);refine box_event ?hg (N:=3) ?hd (cs:=#[.slice none 0 0, .bool false]) (t:=34) ?hr ?_;(case hd=>rfl);(case hg=>rfl);(case hr=>first|(go_simp;done)|(go_simp;rfl));intro gb249 hg w5 hbox hb;have n0_:=am' (blk_below (g:=gb247) (o := .cells #[.slice A0_0 l0_0.length c0_0, .bool a0_1] 27 (0,0)) (by (with_reducible repeat (first|refine kn' ?_ _|refine kd' ?_|refine ka' ?_ _));exact BK247.out) hb);have n1_:=am' (blk_below (g:=gb248) (o := .cells #[.slice none 0 0, .bool false] 34 (0,0)) (by (with_reducible repeat (first|refine kn' ?_ _|refine kd' ?_|refine ka' ?_ _));exact BK248.out) hb);have n2_:=am' (below_step (by repeat (first|(with_reducible first|exact HB.out|apply ba'|apply bd'|apply be'|refine bs' ?_ GE247.out|refine bs' ?_ GE248.out)|exact HB.out)) hb);have n3_:=am' (hbox);have n4_:=am' ((by rw[hg];exact (below_size (by repeat (first|(with_reducible first|exact HB.out|apply ba'|apply bd'|apply be'|refine bs' ?_ GE247.out|refine bs' ?_ GE248.out)|exact HB.out))):w.heap.size≤gb249));have n5_:=am' ((by rw[hg];exact (below_size (by repeat (first|(with_reducible first|exact HB.out|apply ba'|apply bd'|apply be'|refine bs' ?_ GE247.out|refine bs' ?_ GE248.out)|exact HB.out))):w.heap.size≤gb249));have n6_:=am' ((by rw[hg];exact Nat.ne_of_lt (blk_lt (g:=gb247) (o := .cells #[.slice A0_0 l0_0.length c0_0, .bool a0_1] 27 (0,0)) (by (with_reducible repeat (first|refine kn' ?_ _|refine kd' ?_|refine ka' ?_ _));exact BK247.out)):gb247≠gb249));have n7_:=am' ((by rw[hg];exact Nat.ne_of_gt (blk_lt (g:=gb247) (o := .cells #[.slice A0_0 l0_0.length c0_0, .bool a0_1] 27 (0,0)) (by (with_reducible repeat (first|refine kn' ?_ _|refine kd' ?_|refine ka' ?_ _));exact BK247.out)):gb249≠gb247));have n8_:=am' ((by rw[hg];exact Nat.ne_of_lt (blk_lt (g:=gb248) (o := .cells #[.slice none 0 0, .bool false] 34 (0,0)) (by (with_reducible repeat (first|refine kn' ?_ _|refine kd' ?_|refine ka' ?_ _));exact BK248.out)):gb248≠gb249));have n9_:=am' ((by rw[hg];exact Nat.ne_of_gt (blk_lt (g:=gb248) (o := .cells #[.slice none 0 0, .bool false] 34 (0,0)) (by (with_reducible repeat (first|refine kn' ?_ _|refine kd' ?_|refine ka' ?_ _));exact BK248.out)):gb249≠gb248));clear BK247;clear BK248;clear HB;have BK247:=n0_;have BK248:=n1_;have HB:=n2_;have BK249:=n3_;have GW249:=n4_;have GE249:=n5_;have NB247_249:=n6_;have NB249_247:=n7_;have NB248_249:=n8_;have NB249_248:=n9_;clear n0_ n1_ n2_ n3_ n4_ n5_ n6_ n7_ n8_ n9_;clear hb hbox hg;have hnb6:=NB247_248.out;have hnc6:=NB248_247.out;have hnb7:=NB247_249.out;have hnc7:=NB249_247.out;have hcz8_0:w5.cell? ⟨gb247,0,none⟩=some (.slice A0_0 l0_0.length c0_0):=(blk_cell BK247.out 0).trans rfl;have hcz8_1:w5.cell? ⟨gb247,1,none⟩=some (.bool a0_1):=(blk_cell BK247.out 1).trans rfl;have hfz8_0:=blk_frozen BK247.out 0;have hfz8_1:=blk_frozen BK247.out 1)|((with_reducible refine gate_callee (f:=56) rfl ?_);refine goesL_ (some 6) rfl rfl Try.func56 (by kernel_rfl) rfl #[.slice A0_0 l0_0.length c0_0] rfl (by (try simp only[List.map_toArray,List.map_cons,List.map_nil]);first|done|rfl|(simp only[List.length_drop,List.length_take];rfl)) ?_;(with_reducible refine (laws_toBoolS.calls k _ _ l0_0 t250 _ ?side1 ?side2 A2.out).mono ?_);(case side1=>repeat (first|exact (Kd.C_below HR0_0.out HB.out)|(with_reducible refine ca' ?_ _)|(with_reducible refine cn' ?_ _)|(with_reducible refine cd' ?_)));(case side2=>exact HC0_0.out);rintro e w9 ⟨v251,rfl,ho0,hb⟩;refine ⟨_,rfl,?_⟩;have n0_:=am' (Kd.R_lower ho0 (below_size (by repeat (first|(with_reducible first|exact HB.out|apply ba'|apply bd'|apply be'|refine bs' ?_ GE247.out|refine bs' ?_ GE248.out|refine bs' ?_ GE249.out)|exact HB.out))));have n1_:=am' (blk_below (g:=gb247) (o := .cells #[.slice A0_0 l0_0.length c0_0, .bool a0_1] 27 (0,0)) (by (with_reducible repeat (first|refine kn' ?_ _|refine kd' ?_|refine ka' ?_ _));exact BK247.out) hb);have n2_:=am' (blk_below (g:=gb248) (o := .cells #[.slice none 0 0, .bool false] 34 (0,0)) (by (with_reducible repeat (first|refine kn' ?_ _|refine kd' ?_|refine ka' ?_ _));exact BK248.out) hb);have n3_:=am' (blk_below (g:=gb249) (o := .cells #[.slice none 0 0, .bool false] 34 (0,0)) (by (with_reducible repeat (first|refine kn' ?_ _|refine kd' ?_|refine ka' ?_ _));exact BK249.out) hb);have n4_:=am' (below_step (by repeat (first|(with_reducible first|exact HB.out|apply ba'|apply bd'|apply be'|refine bs' ?_ GE247.out|refine bs' ?_ GE248.out|refine bs' ?_ GE249.out)|exact HB.out)) hb);clear BK247;clear BK248;clear BK249;clear HB;have HO252:=n0_;have BK247:=n1_;have BK248:=n2_;have BK249:=n3_;have HB:=n4_;clear n0_ n1_ n2_ n3_ n4_;(try clear hb);(try clear hb2);(try clear hk);(try clear hi);(try clear ho0);obtain ⟨Ao10,co10,eo10⟩:=Kd.R_slice HO252.out;subst eo10;have hnb11:=NB249_248.out;have hnc11:=NB248_249.out;have hcz12_0:w9.cell? ⟨gb249,0,none⟩=some (.slice none 0 0):=(blk_cell BK249.out 0).trans rfl;have hcz12_1:w9.cell? ⟨gb249,1,none⟩=some (.bool false):=(blk_cell BK249.out 1).trans rfl;have hfz12_0:=blk_frozen BK249.out 0;have hfz12_1:=blk_frozen BK249.out 1;have hcz13_0:w9.cell? ⟨gb247,0,none⟩=some (.slice A0_0 l0_0.length c0_0):=(blk_cell BK247.out 0).trans rfl;have hcz13_1:w9.cell? ⟨gb247,1,none⟩=some (.bool a0_1):=(blk_cell BK247.out 1).trans rfl;have hfz13_0:=blk_frozen BK247.out 0;have hfz13_1:=blk_frozen BK247.out 1;have hcz14_0:w9.cell? ⟨gb248,0,none⟩=some (.slice none 0 0):=(blk_cell BK248.out 0).trans rfl;have hcz14_1:w9.cell? ⟨gb248,1,none⟩=some (.bool false):=(blk_cell BK248.out 1).trans rfl;have hfz14_0:=blk_frozen BK248.out 0;have hfz14_1:=blk_frozen BK248.out 1))
 refine bodyPost_ret (results_cell_row rfl _ _ gb248 34 #[.slice Ao10 t250.length co10, .bool a0_1] (0,0) _ rfl (by (with_reducible repeat (first|refine kn' ?_ _|refine kd' ?_|refine ka' ?_ _));refine blk_put (cs:=#[.slice Ao10 t250.length co10, .bool false]) ?_ 1 _ rfl;(with_reducible repeat (first|refine kn' ?_ _|refine kd' ?_|refine ka' ?_ _));refine blk_put (cs:=#[.slice none 0 0, .bool false]) ?_ 0 _ rfl;(with_reducible repeat (first|refine kn' ?_ _|refine kd' ?_|refine ka' ?_ _));refine blk_far ?_ NB248_249.out _;(with_reducible repeat (first|refine kn' ?_ _|refine kd' ?_|refine ka' ?_ _));refine blk_far ?_ NB248_249.out _;(with_reducible repeat (first|refine kn' ?_ _|refine kd' ?_|refine ka' ?_ _));exact BK248.out) Try.underlying34 rfl (by kernel_rfl)) rfl ?_
 exact ⟨_,by first|rfl|(simp[errW_none,errW_some] <;> rfl)|(simp[*,errW_none,errW_some] <;> rfl),by (with_reducible repeat (first|apply ra'|apply rn'|apply rw'));exact Kd.R_mono (Kd.R_far (p:=⟨gb248,1,none⟩) (Kd.R_far (p:=⟨gb248,0,none⟩) (Kd.R_far (p:=⟨gb249,1,none⟩) (Kd.R_far (p:=⟨gb249,0,none⟩) (Kd.R_types (Kd.R_types HO252.out BK249.out (by decide)) BK248.out (by decide)) (fun _ hk=>hk.1.2) (.slice Ao10 t250.length co10)) (fun _ hk=>hk.1.2) (.bool a0_1)) (fun _ hk=>hk.2) (.slice Ao10 t250.length co10)) (fun _ hk=>hk.2) (.bool a0_1)) (fun _ hk=>trivial),by repeat (first|(with_reducible first|exact HB.out|apply ba'|apply bd'|apply be'|refine bs' ?_ GE247.out|refine bs' ?_ GE248.out|refine bs' ?_ GE249.out)|exact HB.out)⟩
def impl_in.f (a0:Int) (a1:Int) (a2:Int):Option (Bool):=if a1≤a0 then (some (decide (a0≤a2))) else (some false)
set_option maxHeartbeats 8000000 in
set_option maxRecDepth 100000 in
theorem impl_in.calls (a0:Int) (a1:Int) (a2:Int) (r:Bool) (w:World) (h:impl_in.f a0 a1 a2=some r) :
  Calls Try.prog 81 #[.int .i64 a0, .int .i64 a1, .int .i64 a2] w fun e w'=>e = .returned (.bool r)∧Drawn0 w w':=by
 have H:(if a1≤a0 then (some (decide (a0≤a2))) else (some false))=some r:=h
 clear h;by_cases c4:a1≤a0
 ·
  rw[if_pos c4] at H;have c4b0:decide (a1≤a0)=true:=decide_eq_true c4;clear c4;obtain rfl:=Option.some.inj H;go_enter Try.func81,Try.ntmps81;go_wp2;go_ret
  exact ⟨by first|rfl|(simp;done)|(simp[*];done),by repeat (first|exact Drawn0.refl _|apply Drawn0.step)⟩
 ·
  rw[if_neg c4] at H;have c4b0:decide (a1≤a0)=false:=decide_eq_false c4;clear c4;obtain rfl:=Option.some.inj H;go_enter Try.func81,Try.ntmps81;go_wp2;go_ret
  exact ⟨by first|rfl|(simp;done)|(simp[*];done),by repeat (first|exact Drawn0.refl _|apply Drawn0.step)⟩
def PredOn (g:Nat) (lb:Array Value) (p:Int→Bool) (xs:List Int) (w:World):Prop :=
 ∀ x,x ∈ xs→∀ W:World,Below w.heap.size w W→Calls Try.prog g (#[.int .i64 x] ++ lb) W fun e w'=>e = .returned (.bool (p x))∧Below W.heap.size W w'
set_option maxHeartbeats 2000000 in
set_option maxRecDepth 100000 in
theorem IndexFunc_any (g:Nat) (lb:Array Value) (p:Int→Bool) (eg:∀ args w,(callFunc g args).run Try.prog w = .ok (.enter g args) w) (A0:Option Addr) (c0:Nat) (xs:List Int) (w:World) (hr:Kd.C (Kd.int .i64) w A0 xs.length xs) (hl:xs.length≤c0) (hbig:xs.length≤9223372036854775807)
  (hp:PredOn g lb p xs w) :
  Calls Try.prog 124 #[.slice A0 xs.length c0, .func (.func g) #[] lb] w fun e w'=>e = .returned (.int .i64 (idxF p xs))∧Below w.heap.size w w':=by
 have HP:=am' hp
 have HR:=am' hr
 clear hp hr;go_enter Try.func124,Try.ntmps124
 go_wp2
 go_loopg [5,8] xs.length (fun gg _ s8 wr=>∃ kk:Nat,kk≤xs.length∧xs.length - kk≤gg∧s8 = .int .i64 kk∧Aside0 (Below w.heap.size w wr)∧Aside0 (∀ j,j < kk→p (rd xs (j:Nat))=false))
 case atStart=>exact ⟨0,Nat.zero_le _,by omega,rfl,⟨Below.refl _ w⟩,⟨fun j hj=>absurd hj (Nat.not_lt_zero _)⟩⟩
 case round =>
  obtain ⟨kk,hkk,hg,rfl,BW,AA⟩:=hrel;by_cases hlt:kk < xs.length
  ·
   have hltz:(kk:Int) < (xs.length:Int):=by omega
   obtain ⟨ad,e0,hx0⟩:=Kd.at_int HR.out (kk:Int) (by omega) hltz;cases e0;have hx:=(BW.out.cell (bl' w _ hx0)).trans hx0;clear hx0;rw[Int.toNat_natCast] at hx;have hcall:=HP.out (rd xs kk) (rd_mem xs kk hlt) wr BW.out;generalize hy:rd xs kk=y at hx hcall
   have B:Aside0 (rd xs kk=y):=⟨hy⟩
   clear hy;cases hq:p y with
   | true =>
    rw[hq] at hcall;go_wp2_with fail;refine hcall.mono ?_
    rintro e w' ⟨rfl,hb'⟩
    clear hcall hx;go_wp2;go_ret
    refine ⟨?_,below_step BW.out hb'⟩;rw[idxF_hit p xs kk hlt (by rw[B.out];exact hq) AA.out];rfl
   | false =>
    rw[hq] at hcall;go_wp2_with fail;refine hcall.mono ?_
    rintro e w' ⟨rfl,hb'⟩
    clear hcall hx;go_wp2;go_roundg (xs.length - (kk+1))
    case measure=>omega
    case rel =>
     refine ⟨kk+1,by omega,by omega,by go_num,⟨below_step BW.out hb'⟩,⟨fun j hj=>?_⟩⟩;by_cases e:j=kk
     ·
      subst e;rw[B.out];exact hq
     ·
      exact AA.out j (by omega)
  ·
   have hltz:¬ (kk:Int) < (xs.length:Int):=by omega
   have:kk=xs.length:=by omega
   subst this;go_wp2;go_ret
   refine ⟨?_,BW.out⟩;rw[idxF_miss p xs AA.out];rfl
set_option maxHeartbeats 2000000 in
set_option maxRecDepth 100000 in
theorem ContainsFunc_any (g:Nat) (lb:Array Value) (p:Int→Bool) (eg:∀ args w,(callFunc g args).run Try.prog w = .ok (.enter g args) w) (A0:Option Addr) (c0:Nat) (xs:List Int) (w:World) (hr:Kd.C (Kd.int .i64) w A0 xs.length xs) (hl:xs.length≤c0) (hbig:xs.length≤9223372036854775807)
  (hp:PredOn g lb p xs w) :
  Calls Try.prog 110 #[.slice A0 xs.length c0, .func (.func g) #[] lb] w fun e w'=>e = .returned (.bool (xs.any p))∧Below w.heap.size w w':=by
 have HH:=am' (IndexFunc_any g lb p eg A0 c0 xs w hr hl hbig hp)
 clear hr hl hp;go_enter Try.func110,Try.ntmps110
 go_wp2_with (go_at_call 124;refine HH.out.mono ?_;rintro e w' ⟨rfl,hb⟩)
 go_ret
 refine ⟨?_,hb⟩
 rw[← idxF_any]
 rfl
theorem in_calls (x lo hi:Int) (w:World):Calls Try.prog 81 #[.int .i64 x, .int .i64 lo, .int .i64 hi] w fun e w'=>e = .returned (.bool (inB lo hi x))∧Below w.heap.size w w' :=
 (impl_in.calls x lo hi (inB lo hi x) w (by unfold impl_in.f inB;by_cases h:lo≤x <;> simp [h])).mono fun e w' ⟨he,hd⟩=>⟨he,hd.below⟩
theorem areIn1_calls (x lo hi:Int) (b1 b2:Nat) (w:World) (h1:w.cell? ⟨b1,0,none⟩=some (.int .i64 lo)) (h2:w.cell? ⟨b2,0,none⟩=some (.int .i64 hi)) :
  Calls Try.prog 111 #[.int .i64 x, .pointer (some ⟨b1,0,none⟩), .pointer (some ⟨b2,0,none⟩)] w fun e w'=>e = .returned (.bool (!inB lo hi x))∧Below w.heap.size w w':=by
 go_enter Try.func111,Try.ntmps111
 go_wp2_with (go_at_call 81;refine (in_calls _ _ _ _).mono ?_;rintro e w' ⟨rfl,hb⟩)
 go_ret
 exact ⟨rfl,hb⟩
theorem areIn_pred (lo hi:Int) (b1 b2:Nat) (xs:List Int) (w:World) (h1:w.cell? ⟨b1,0,none⟩=some (.int .i64 lo)) (h2:w.cell? ⟨b2,0,none⟩=some (.int .i64 hi)) :
  PredOn 111 #[.pointer (some ⟨b1,0,none⟩), .pointer (some ⟨b2,0,none⟩)] (fun x => !inB lo hi x) xs w:=fun x _ W hb =>
 areIn1_calls x lo hi b1 b2 W ((hb.cell (bl' w _ h1)).trans h1) ((hb.cell (bl' w _ h2)).trans h2)
def impl_areIn.f (l0:List Int) (a1 a2 a3 a4:Int):Option Bool:=some (inB a3 a4 (l0.length:Int) && l0.all (inB a1 a2))
set_option maxHeartbeats 2000000 in
set_option maxRecDepth 100000 in
theorem impl_areIn.calls (A0:Option Addr) (c0:Nat) (l0:List Int) (a1 a2 a3 a4:Int) (r:Bool) (w:World) (hr0:Kd.C (Kd.int .i64) w A0 l0.length l0) (hc0:l0.length≤c0) (h:impl_areIn.f l0 a1 a2 a3 a4=some r) :
  Calls Try.prog 82 #[.slice A0 l0.length c0, .int .i64 a1, .int .i64 a2, .int .i64 a3, .int .i64 a4] w fun e w'=>e = .returned (.bool r)∧Below w.heap.size w w':=by
 have hbig:l0.length≤9223372036854775807:=hr0.2.1
 have HC:=am' (fun (w1:World) (h1:Below w.heap.size w w1) (b1 b2:Nat) (e1:w1.cell? ⟨b1,0,none⟩=some (.int .i64 a1)) (e2:w1.cell? ⟨b2,0,none⟩=some (.int .i64 a2)) =>
  ContainsFunc_any 111 #[.pointer (some ⟨b1,0,none⟩), .pointer (some ⟨b2,0,none⟩)] (fun x => !inB a1 a2 x) (enters_of Try.func111 (by kernel_rfl) rfl) A0 c0 l0 w1 (Kd.C_below hr0 h1) hc0 hbig (areIn_pred a1 a2 b1 b2 l0 w1 e1 e2))
 clear hr0;cases hi:inB a3 a4 (l0.length:Int) with
 | false =>
  obtain rfl:false=r:=by unfold impl_areIn.f at h;simpa [hi] using h
  clear h;go_enter Try.func82,Try.ntmps82;go_wp2_with (go_at_call 81;refine (in_calls _ _ _ _).mono ?_;rintro e w' ⟨rfl,hb⟩);go_ret
  exact ⟨rfl,(after_alloc (after_alloc hb).1).1⟩
 | true =>
  obtain rfl:l0.all (inB a1 a2)=r:=by unfold impl_areIn.f at h;simpa [hi] using h
  clear h;go_enter Try.func82,Try.ntmps82;go_wp2_with (go_at_call 81;refine (in_calls _ _ _ _).mono ?_;rintro e w' ⟨rfl,hb⟩);have h2:=after_alloc hb;have h1:=after_alloc h2.1;rw[World.size_alloc] at h2;refine (HC.out w' h1.1 _ _ ((blk_cell h1.2 0).trans rfl) ((blk_cell h2.2 0).trans rfl)).mono ?_
  rintro e w2 ⟨rfl,hb2⟩
  clear hb h2;have HB2:=am' (below_step h1.1 hb2);clear h1 hb2;go_wp2;go_ret
  refine ⟨?_,HB2.out⟩;rw[← any_not_all];rfl
def cmp_isNaN_int.f (a0:Int):Option (Bool):=some (a0 != a0)
set_option maxHeartbeats 8000000 in
set_option maxRecDepth 100000 in
theorem cmp_isNaN_int.calls (a0:Int) (r:Bool) (w:World) (h:cmp_isNaN_int.f a0=some r) :
  Calls Try.prog 125 #[.int .i64 a0] w fun e w'=>e = .returned (.bool r)∧Drawn0 w w':=by
 have H:(some (a0 != a0))=some r:=h
 clear h;obtain rfl:=Option.some.inj H
 go_enter Try.func125,Try.ntmps125
 go_wp2
 go_ret
 exact ⟨by first|rfl|(simp;done)|(simp[*];done),by repeat (first|exact Drawn0.refl _|apply Drawn0.step)⟩
def cmp_Compare_int.f (a0:Int) (a1:Int):Option (Int):=(cmp_isNaN_int.f a0).bind fun t253=>((cmp_isNaN_int.f a1).bind fun t254=>(if t253=true then (if t254=true then (some 0) else (some (-1))) else (if t254=true then (some 1) else (if a0 < a1 then (some (-1)) else (if a0 > a1 then (some 1) else (some 0))))))
set_option maxHeartbeats 8000000 in
set_option maxRecDepth 100000 in
theorem cmp_Compare_int.calls (a0:Int) (a1:Int) (r:Int) (w:World) (h:cmp_Compare_int.f a0 a1=some r) :
  Calls Try.prog 112 #[.int .i64 a0, .int .i64 a1] w fun e w'=>e = .returned (.int .i64 r)∧Drawn0 w w':=by
 have H:((cmp_isNaN_int.f a0).bind fun t253=>((cmp_isNaN_int.f a1).bind fun t254=>(if t253=true then (if t254=true then (some 0) else (some (-1))) else (if t254=true then (some 1) else (if a0 < a1 then (some (-1)) else (if a0 > a1 then (some 1) else (some 0)))))))=some r:=h
 clear h;replace H:=Option.bind_eq_some_iff.mp H
 obtain ⟨t253,A30,H⟩:=H
 replace H:((cmp_isNaN_int.f a1).bind fun t254=>(if t253=true then (if t254=true then (some 0) else (some (-1))) else (if t254=true then (some 1) else (if a0 < a1 then (some (-1)) else (if a0 > a1 then (some 1) else (some 0))))))=some r:=H
 have A3:=am' A30
 clear A30;replace H:=Option.bind_eq_some_iff.mp H
 obtain ⟨t254,A40,H⟩:=H
 replace H:(if t253=true then (if t254=true then (some 0) else (some (-1))) else (if t254=true then (some 1) else (if a0 < a1 then (some (-1)) else (if a0 > a1 then (some 1) else (some 0)))))=some r:=H
 have A4:=am' A40
 clear A40;by_cases c5:t253=true
 ·
  subst c5;have H1:(if t254=true then (some 0) else (some (-1)))=some r:=by rw[if_pos rfl] at H;exact H
  clear H;have H:=H1;clear H1;by_cases c6:t254=true
  ·
   subst c6;have H1:(some 0)=some r:=by rw[if_pos rfl] at H;exact H
   clear H;have H:=H1;clear H1;obtain rfl:=Option.some.inj H;go_enter Try.func112,Try.ntmps112;go_wp2_with (first|((with_reducible refine gate_callee (f:=125) rfl ?_);refine goesL_ (some 8) rfl rfl Try.func125 (by kernel_rfl) rfl #[.int .i64 a0] rfl (by (try simp only[List.map_toArray,List.map_cons,List.map_nil]);first|done|rfl|(simp only[List.length_drop,List.length_take];rfl)) ?_;(with_reducible refine (cmp_isNaN_int.calls a0 true _ A3.out).mono ?_);rintro e w' ⟨rfl,⟨nd,rfl⟩⟩;refine ⟨_,rfl,?_⟩)|((with_reducible refine gate_callee (f:=125) rfl ?_);refine goesL_ (some 10) rfl rfl Try.func125 (by kernel_rfl) rfl #[.int .i64 a1] rfl (by (try simp only[List.map_toArray,List.map_cons,List.map_nil]);first|done|rfl|(simp only[List.length_drop,List.length_take];rfl)) ?_;(with_reducible refine (cmp_isNaN_int.calls a1 true _ A4.out).mono ?_);rintro e w' ⟨rfl,⟨nd,rfl⟩⟩;refine ⟨_,rfl,?_⟩));go_ret
   exact ⟨by first|rfl|(simp;done)|(simp[*];done),by repeat (first|exact Drawn0.refl _|apply Drawn0.step)⟩
  ·
   replace c6:=Bool.eq_false_iff.mpr c6;subst c6;have H1:(some (-1))=some r:=by rw[if_neg (show ¬ (false=true) by decide)] at H;exact H
   clear H;have H:=H1;clear H1;obtain rfl:=Option.some.inj H;go_enter Try.func112,Try.ntmps112;go_wp2_with (first|((with_reducible refine gate_callee (f:=125) rfl ?_);refine goesL_ (some 8) rfl rfl Try.func125 (by kernel_rfl) rfl #[.int .i64 a0] rfl (by (try simp only[List.map_toArray,List.map_cons,List.map_nil]);first|done|rfl|(simp only[List.length_drop,List.length_take];rfl)) ?_;(with_reducible refine (cmp_isNaN_int.calls a0 true _ A3.out).mono ?_);rintro e w' ⟨rfl,⟨nd,rfl⟩⟩;refine ⟨_,rfl,?_⟩)|((with_reducible refine gate_callee (f:=125) rfl ?_);refine goesL_ (some 10) rfl rfl Try.func125 (by kernel_rfl) rfl #[.int .i64 a1] rfl (by (try simp only[List.map_toArray,List.map_cons,List.map_nil]);first|done|rfl|(simp only[List.length_drop,List.length_take];rfl)) ?_;(with_reducible refine (cmp_isNaN_int.calls a1 false _ A4.out).mono ?_);rintro e w' ⟨rfl,⟨nd,rfl⟩⟩;refine ⟨_,rfl,?_⟩));go_ret
   exact ⟨by first|rfl|(simp;done)|(simp[*];done),by repeat (first|exact Drawn0.refl _|apply Drawn0.step)⟩
 ·
  replace c5:=Bool.eq_false_iff.mpr c5;subst c5;have H1:(if t254=true then (some 1) else (if a0 < a1 then (some (-1)) else (if a0 > a1 then (some 1) else (some 0))))=some r:=by rw[if_neg (show ¬ (false=true) by decide)] at H;exact H
  clear H;have H:=H1;clear H1;by_cases c7:t254=true
  ·
   subst c7;have H1:(some 1)=some r:=by rw[if_pos rfl] at H;exact H
   clear H;have H:=H1;clear H1;obtain rfl:=Option.some.inj H;go_enter Try.func112,Try.ntmps112;go_wp2_with (first|((with_reducible refine gate_callee (f:=125) rfl ?_);refine goesL_ (some 8) rfl rfl Try.func125 (by kernel_rfl) rfl #[.int .i64 a0] rfl (by (try simp only[List.map_toArray,List.map_cons,List.map_nil]);first|done|rfl|(simp only[List.length_drop,List.length_take];rfl)) ?_;(with_reducible refine (cmp_isNaN_int.calls a0 false _ A3.out).mono ?_);rintro e w' ⟨rfl,⟨nd,rfl⟩⟩;refine ⟨_,rfl,?_⟩)|((with_reducible refine gate_callee (f:=125) rfl ?_);refine goesL_ (some 10) rfl rfl Try.func125 (by kernel_rfl) rfl #[.int .i64 a1] rfl (by (try simp only[List.map_toArray,List.map_cons,List.map_nil]);first|done|rfl|(simp only[List.length_drop,List.length_take];rfl)) ?_;(with_reducible refine (cmp_isNaN_int.calls a1 true _ A4.out).mono ?_);rintro e w' ⟨rfl,⟨nd,rfl⟩⟩;refine ⟨_,rfl,?_⟩));go_ret
   exact ⟨by first|rfl|(simp;done)|(simp[*];done),by repeat (first|exact Drawn0.refl _|apply Drawn0.step)⟩
  ·
   replace c7:=Bool.eq_false_iff.mpr c7;subst c7;have H1:(if a0 < a1 then (some (-1)) else (if a0 > a1 then (some 1) else (some 0)))=some r:=by rw[if_neg (show ¬ (false=true) by decide)] at H;exact H
   clear H;have H:=H1;clear H1;by_cases c8:a0 < a1
   ·
    rw[if_pos c8] at H;have c8b0:decide (a0 < a1)=true:=decide_eq_true c8;clear c8;obtain rfl:=Option.some.inj H;go_enter Try.func112,Try.ntmps112;go_wp2_with (first|((with_reducible refine gate_callee (f:=125) rfl ?_);refine goesL_ (some 8) rfl rfl Try.func125 (by kernel_rfl) rfl #[.int .i64 a0] rfl (by (try simp only[List.map_toArray,List.map_cons,List.map_nil]);first|done|rfl|(simp only[List.length_drop,List.length_take];rfl)) ?_;(with_reducible refine (cmp_isNaN_int.calls a0 false _ A3.out).mono ?_);rintro e w' ⟨rfl,⟨nd,rfl⟩⟩;refine ⟨_,rfl,?_⟩)|((with_reducible refine gate_callee (f:=125) rfl ?_);refine goesL_ (some 10) rfl rfl Try.func125 (by kernel_rfl) rfl #[.int .i64 a1] rfl (by (try simp only[List.map_toArray,List.map_cons,List.map_nil]);first|done|rfl|(simp only[List.length_drop,List.length_take];rfl)) ?_;(with_reducible refine (cmp_isNaN_int.calls a1 false _ A4.out).mono ?_);rintro e w' ⟨rfl,⟨nd,rfl⟩⟩;refine ⟨_,rfl,?_⟩));go_ret
    exact ⟨by first|rfl|(simp;done)|(simp[*];done),by repeat (first|exact Drawn0.refl _|apply Drawn0.step)⟩
   ·
    rw[if_neg c8] at H;have c8b0:decide (a0 < a1)=false:=decide_eq_false c8;clear c8;by_cases c9:a0 > a1
    ·
     rw[if_pos c9] at H;have c9b0:decide (a1 < a0)=true:=decide_eq_true c9;clear c9;obtain rfl:=Option.some.inj H;go_enter Try.func112,Try.ntmps112;go_wp2_with (first|((with_reducible refine gate_callee (f:=125) rfl ?_);refine goesL_ (some 8) rfl rfl Try.func125 (by kernel_rfl) rfl #[.int .i64 a0] rfl (by (try simp only[List.map_toArray,List.map_cons,List.map_nil]);first|done|rfl|(simp only[List.length_drop,List.length_take];rfl)) ?_;(with_reducible refine (cmp_isNaN_int.calls a0 false _ A3.out).mono ?_);rintro e w' ⟨rfl,⟨nd,rfl⟩⟩;refine ⟨_,rfl,?_⟩)|((with_reducible refine gate_callee (f:=125) rfl ?_);refine goesL_ (some 10) rfl rfl Try.func125 (by kernel_rfl) rfl #[.int .i64 a1] rfl (by (try simp only[List.map_toArray,List.map_cons,List.map_nil]);first|done|rfl|(simp only[List.length_drop,List.length_take];rfl)) ?_;(with_reducible refine (cmp_isNaN_int.calls a1 false _ A4.out).mono ?_);rintro e w' ⟨rfl,⟨nd,rfl⟩⟩;refine ⟨_,rfl,?_⟩));go_ret
     exact ⟨by first|rfl|(simp;done)|(simp[*];done),by repeat (first|exact Drawn0.refl _|apply Drawn0.step)⟩
    ·
     rw[if_neg c9] at H;have c9b0:decide (a1 < a0)=false:=decide_eq_false c9;clear c9;obtain rfl:=Option.some.inj H;go_enter Try.func112,Try.ntmps112;go_wp2_with (first|((with_reducible refine gate_callee (f:=125) rfl ?_);refine goesL_ (some 8) rfl rfl Try.func125 (by kernel_rfl) rfl #[.int .i64 a0] rfl (by (try simp only[List.map_toArray,List.map_cons,List.map_nil]);first|done|rfl|(simp only[List.length_drop,List.length_take];rfl)) ?_;(with_reducible refine (cmp_isNaN_int.calls a0 false _ A3.out).mono ?_);rintro e w' ⟨rfl,⟨nd,rfl⟩⟩;refine ⟨_,rfl,?_⟩)|((with_reducible refine gate_callee (f:=125) rfl ?_);refine goesL_ (some 10) rfl rfl Try.func125 (by kernel_rfl) rfl #[.int .i64 a1] rfl (by (try simp only[List.map_toArray,List.map_cons,List.map_nil]);first|done|rfl|(simp only[List.length_drop,List.length_take];rfl)) ?_;(with_reducible refine (cmp_isNaN_int.calls a1 false _ A4.out).mono ?_);rintro e w' ⟨rfl,⟨nd,rfl⟩⟩;refine ⟨_,rfl,?_⟩));go_ret
     exact ⟨by first|rfl|(simp;done)|(simp[*];done),by repeat (first|exact Drawn0.refl _|apply Drawn0.step)⟩
def slices_Compare_int_int.l0:Nat→List Int→List Int→List Int→Int→Int→Option (Int)
 | 0,_,_,_,_,_=>none
 | k+1,x0,x1,x9,x10,x11=>if x11 < x10 then (if 0≤x11 then (if x11 < (x9.length:Int) then (if x11 ≥ (x1.length:Int) then (some 1) else (if x11 < (x1.length:Int) then ((cmp_Compare_int.f (rd x9 x11) (rd x1 x11)).bind fun t257=>(if t257=0 then (slices_Compare_int_int.l0 k x0 x1 x9 x10 (wrap64 (x11+1))) else (some t257))) else (none))) else (none)) else (none)) else (if (x0.length:Int) < (x1.length:Int) then (some (-1)) else (some 0))
def slices_Compare_int_int.f (k:Nat) (l0:List Int) (l1:List Int):Option (Int):=slices_Compare_int_int.l0 k l0 l1 l0 (l0.length:Int) 0
set_option maxHeartbeats 8000000 in
set_option maxRecDepth 100000 in
theorem slices_Compare_int_int.calls (k:Nat) (A0:Option Addr) (c0:Nat) (l0:List Int) (A1:Option Addr) (c1:Nat) (l1:List Int) (r:Int) (w:World) (hr0:Kd.C (Kd.int .i64) w A0 l0.length l0) (hc0:l0.length≤c0) (hr1:Kd.C (Kd.int .i64) w A1 l1.length l1) (hc1:l1.length≤c1) (h:slices_Compare_int_int.f k l0 l1=some r) :
  Calls Try.prog 83 #[.slice A0 l0.length c0, .slice A1 l1.length c1] w fun e w'=>e = .returned (.int .i64 r)∧Drawn0 w w':=by
 have HR0:=am' hr0
 have HC0:=am' hc0
 clear hr0 hc0;have HR1:=am' hr1
 have HC1:=am' hc1
 clear hr1 hc1;have H:(slices_Compare_int_int.l0 k l0 l1 l0 (l0.length:Int) 0)=some r:=h
 clear h;have H':=am' H
 clear H;go_enter Try.func83,Try.ntmps83
 go_wp2
 go_loopg [11] k (fun kq v11 w'=>∃ (x11_1:Int),v11 = .int .i64 x11_1∧Aside0 (slices_Compare_int_int.l0 kq l0 l1 l0 (l0.length:Int) x11_1=some r)∧Aside0 (kq≤k)∧Drawn0 w w')
 case atStart=>exact ⟨(0),(by first|rfl|(simp;done)|(simp[*];done)),H',⟨Nat.le_refl _⟩,by repeat (first|exact Drawn0.refl _|apply Drawn0.step)⟩
 case round =>
  clear H';try clear c1
  try clear p2
  obtain ⟨x11_1,rfl,HA,HK1,⟨m1,rfl⟩⟩:=hrel;cases gk with
  | zero=>exact absurd HA.out (by simp[slices_Compare_int_int.l0])
  | succ k1 =>
   have H:=HA.out;clear HA;simp only[slices_Compare_int_int.l0] at H;by_cases c3:x11_1 < (l0.length:Int)
   ·
    rw[if_pos c3] at H;have c3b0:decide (x11_1 < (l0.length:Int))=true:=decide_eq_true c3;clear c3;by_cases c4:0≤x11_1
    ·
     rw[if_pos c4] at H;have c4b0:decide (0≤x11_1)=true:=decide_eq_true c4;clear c4;by_cases c5:x11_1 < (l0.length:Int)
     ·
      rw[if_pos c5] at H;have c5b0:decide (x11_1 < (l0.length:Int))=true:=decide_eq_true c5;clear c5;by_cases c6:x11_1 ≥ (l1.length:Int)
      ·
       rw[if_pos c6] at H;have c6b0:decide ((l1.length:Int)≤x11_1)=true:=decide_eq_true c6;clear c6;obtain rfl:=Option.some.inj H;have p255:0≤(x11_1:Int):=of_decide_eq_true (by first|(with_reducible assumption)|assumption);have q255:x11_1 < (l0.length:Int):=of_decide_eq_true (by first|(with_reducible assumption)|assumption);obtain ⟨ad255,e255,hx255_0⟩:=Kd.at_int HR0.out x11_1 p255 q255;cases e255;replace p255:=eq_true p255;replace q255:=eq_true q255;go_wp2;go_ret
       exact ⟨by first|rfl|(simp;done)|(simp[*];done),by repeat (first|exact Drawn0.refl _|apply Drawn0.step)⟩
      ·
       rw[if_neg c6] at H;have c6b0:decide ((l1.length:Int)≤x11_1)=false:=decide_eq_false c6;clear c6;by_cases c7:x11_1 < (l1.length:Int)
       ·
        rw[if_pos c7] at H;have c7b0:decide (x11_1 < (l1.length:Int))=true:=decide_eq_true c7;clear c7;replace H:=Option.bind_eq_some_iff.mp H;obtain ⟨t257,A80,H⟩:=H;replace H:(if t257=0 then (slices_Compare_int_int.l0 k1 l0 l1 l0 (l0.length:Int) (wrap64 (x11_1+1))) else (some t257))=some r:=H;have A8:=am' A80;clear A80;by_cases c9:t257=0
        ·
         rw[if_pos c9] at H;have c9b0:(t257 == 0)=true:=beq_iff_eq.mpr c9;have c9b1:(t257 != 0)=false:=bne_eq_false_iff_eq.mpr c9;clear c9;have H':=am' H;clear H;have p255:0≤(x11_1:Int):=of_decide_eq_true (by first|(with_reducible assumption)|assumption);have q255:x11_1 < (l0.length:Int):=of_decide_eq_true (by first|(with_reducible assumption)|assumption);obtain ⟨ad255,e255,hx255_0⟩:=Kd.at_int HR0.out x11_1 p255 q255;cases e255;replace p255:=eq_true p255;replace q255:=eq_true q255;have p256:0≤(x11_1:Int):=of_decide_eq_true (by first|(with_reducible assumption)|assumption);have q256:x11_1 < (l1.length:Int):=of_decide_eq_true (by first|(with_reducible assumption)|assumption);obtain ⟨ad256,e256,hx256_0⟩:=Kd.at_int HR1.out x11_1 p256 q256;cases e256;replace p256:=eq_true p256;replace q256:=eq_true q256;go_wp2_with (first|((with_reducible refine gate_callee (f:=112) rfl ?_);refine goesL_ (some 26) rfl rfl Try.func112 (by kernel_rfl) rfl #[.int .i64 (rd l0 x11_1), .int .i64 (rd l1 x11_1)] rfl (by (try simp only[List.map_toArray,List.map_cons,List.map_nil]);first|done|rfl|(simp only[List.length_drop,List.length_take];rfl)) ?_;(with_reducible refine (cmp_Compare_int.calls (rd l0 x11_1) (rd l1 x11_1) t257 _ A8.out).mono ?_);rintro e w' ⟨rfl,⟨nd,rfl⟩⟩;refine ⟨_,rfl,?_⟩));go_roundg k1
         case measure=>have:=HK1.out;omega
         case rel=>exact ⟨(wrap64 (x11_1+1)),(by first|rfl|(simp;done)|(simp[*];done)),H',⟨by have:=HK1.out;omega⟩,by repeat (first|exact Drawn0.refl _|apply Drawn0.step)⟩
        ·
         rw[if_neg c9] at H;have c9b0:(t257 == 0)=false:=beq_eq_false_iff_ne.mpr c9;have c9b1:(t257 != 0)=true:=bne_iff_ne.mpr c9;obtain rfl:=Option.some.inj H;have p255:0≤(x11_1:Int):=of_decide_eq_true (by first|(with_reducible assumption)|assumption);have q255:x11_1 < (l0.length:Int):=of_decide_eq_true (by first|(with_reducible assumption)|assumption);obtain ⟨ad255,e255,hx255_0⟩:=Kd.at_int HR0.out x11_1 p255 q255;cases e255;replace p255:=eq_true p255;replace q255:=eq_true q255;have p256:0≤(x11_1:Int):=of_decide_eq_true (by first|(with_reducible assumption)|assumption);have q256:x11_1 < (l1.length:Int):=of_decide_eq_true (by first|(with_reducible assumption)|assumption);obtain ⟨ad256,e256,hx256_0⟩:=Kd.at_int HR1.out x11_1 p256 q256;cases e256;replace p256:=eq_true p256;replace q256:=eq_true q256;go_wp2_with (first|((with_reducible refine gate_callee (f:=112) rfl ?_);refine goesL_ (some 26) rfl rfl Try.func112 (by kernel_rfl) rfl #[.int .i64 (rd l0 x11_1), .int .i64 (rd l1 x11_1)] rfl (by (try simp only[List.map_toArray,List.map_cons,List.map_nil]);first|done|rfl|(simp only[List.length_drop,List.length_take];rfl)) ?_;(with_reducible refine (cmp_Compare_int.calls (rd l0 x11_1) (rd l1 x11_1) t257 _ A8.out).mono ?_);rintro e w' ⟨rfl,⟨nd,rfl⟩⟩;refine ⟨_,rfl,?_⟩));go_ret
         exact ⟨by first|rfl|(simp;done)|(simp[*];done),by repeat (first|exact Drawn0.refl _|apply Drawn0.step)⟩
       ·
        rw[if_neg c7] at H;exact absurd H (by simp)
     ·
      rw[if_neg c5] at H;exact absurd H (by simp)
    ·
     rw[if_neg c4] at H;exact absurd H (by simp)
   ·
    rw[if_neg c3] at H;have c3b0:decide (x11_1 < (l0.length:Int))=false:=decide_eq_false c3;clear c3;by_cases c10:(l0.length:Int) < (l1.length:Int)
    ·
     rw[if_pos c10] at H;have c10b0:decide ((l0.length:Int) < (l1.length:Int))=true:=decide_eq_true c10;have c10b1:decide (l0.length < l1.length)=true:=decide_eq_true (Int.ofNat_lt.mp c10);clear c10;obtain rfl:=Option.some.inj H;go_wp2;go_ret
     exact ⟨by first|rfl|(simp;done)|(simp[*];done),by repeat (first|exact Drawn0.refl _|apply Drawn0.step)⟩
    ·
     rw[if_neg c10] at H;have c10b0:decide ((l0.length:Int) < (l1.length:Int))=false:=decide_eq_false c10;have c10b1:decide (l0.length < l1.length)=false:=decide_eq_false (fun h=>c10 (Int.ofNat_lt.mpr h));clear c10;obtain rfl:=Option.some.inj H;go_wp2;go_ret
     exact ⟨by first|rfl|(simp;done)|(simp[*];done),by repeat (first|exact Drawn0.refl _|apply Drawn0.step)⟩
end Go.Proofs.Ytmfofjloklafoaa.C7
