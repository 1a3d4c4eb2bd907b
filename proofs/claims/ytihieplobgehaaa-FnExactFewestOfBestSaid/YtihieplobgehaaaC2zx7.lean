import Derived.Test.YtihieplobgehaaaC2zx0
import Derived.Test.YtihieplobgehaaaC2zx2
import Derived.Test.YtihieplobgehaaaC2zx3
import Derived.Test.YtihieplobgehaaaC2zx6
import Derived.Test.YtihieplobgehaaaC2zAl
namespace Go.Proofs.Ytihieplobgehaaa.C2
open Go.RowKit Go.Proofs.YtihieplobgehaaaW.PrintWords Go.Proofs.YtihieplobgehaaaW.PrintLast Go.Proofs.YtihieplobgehaaaW.PrintMore Go.Proofs.Ytihieplobgehaaa.H
attribute [local go_sem] max2_int min2_int max_two min_two max_three min_three max_four min_four
set_option linter.unusedVariables false
set_option linter.unusedSimpArgs false
def spec_paFirst.f (l0_0:List Int) (a0_1:Int):Option (List Bool × Bool):=if 0≤(l0_0.length:Int) then (if ((l0_0.length:Int):Int).toNat≤281474976710656 then (some ((List.replicate ((l0_0.length:Int):Int).toNat false),false)) else (none)) else (none)
set_option maxHeartbeats 8000000 in
set_option maxRecDepth 100000 in
theorem spec_paFirst.calls (A0_0:Option Addr) (c0_0:Nat) (l0_0:List Int) (a0_1:Int) (r1:List Bool) (r2:Bool) (w:World) (hr0_0:Kd.C (Kd.int .i64) w A0_0 l0_0.length l0_0) (hc0_0:l0_0.length≤c0_0) (h:spec_paFirst.f l0_0 a0_1=some (r1,r2)) :
  Calls Try.prog 26 #[.agg #[.slice A0_0 l0_0.length c0_0, .int .i64 a0_1]] w fun e w'=>∃ v0_:Value,e = .returned (.agg #[v0_, .bool r2])∧Kd.R Kd.bool 4 w' w.heap.size (fun _=>True) v0_ r1∧Below w.heap.size w w':=by
 have hu28:=Try.underlying28
 have hu54:=Try.underlying54
 have HR0_0:=am' hr0_0
 have HC0_0:=am' hc0_0
 clear hr0_0 hc0_0;have HB:=am' (Below.refl w.heap.size w)
 have H:(if 0≤(l0_0.length:Int) then (if ((l0_0.length:Int):Int).toNat≤281474976710656 then (some ((List.replicate ((l0_0.length:Int):Int).toNat false),false)) else (none)) else (none))=some (r1,r2):=h
 clear h;by_cases c2:0≤(l0_0.length:Int)
 ·
  rw[if_pos c2] at H;have c2b0:=eq_true c2;have c2b1:decide (0≤(l0_0.length:Int))=true:=dt' c2;clear c2;by_cases c3:((l0_0.length:Int):Int).toNat≤281474976710656
  ·
   rw[if_pos c3] at H;have c3b0:=eq_true c3;have c3b1:decide (((l0_0.length:Int):Int).toNat≤281474976710656)=true:=dt' c3;clear c3;obtain ⟨y210,hy210⟩:∃ y_:List Bool,y_=(List.replicate ((l0_0.length:Int):Int).toNat false):=⟨_,rfl⟩
   replace H:(some (y210,false))=some (r1,r2):=by first|(rw[hy210];with_reducible exact H)|(have H2_:=(Option.bind_some _ _).symm.trans H;rw[hy210];with_reducible exact H2_)|(have H2_:=(Option.bind_some _ _).symm.trans H;with_reducible exact H2_)|with_reducible exact H|(rw[hy210];exact H)|exact H
   have Ny210:=am' hy210;clear hy210;simp only[Option.some.injEq,Prod.mk.injEq] at H;obtain ⟨rfl,rfl⟩:=H;go_enter Try.func26,Try.ntmps26;go_wp2_with (first|((with_reducible refine gate_dst (N:=1) rfl ?_);refine box_event ?hg (N:=1) ?hd (cs:=#[.slice A0_0 l0_0.length c0_0, .int .i64 a0_1]) (t:=28) ?hr ?_;(case hd=>rfl);(case hg=>rfl);(case hr=>first|(go_simp;done)|(go_simp;rfl));intro gb208 hg w4 hbox hb;have n0_:=am' (bt' xb' hb);have n1_:=am' (hbox);have n2_:=am' ((by rw[hg];exact (bz' xb'):w.heap.size≤gb208));have n3_:=am' ((by rw[hg];exact (bz' xb'):w.heap.size≤gb208));clear HB;have HB:=n0_;have BK208:=n1_;have GW208:=n2_;have GE208:=n3_;clear n0_ n1_ n2_ n3_;clear hb hbox hg)|((with_reducible refine gate_dst (N:=2) rfl ?_);refine box_event ?hg (N:=2) ?hd (cs:=#[.slice none 0 0, .bool false]) (t:=54) ?hr ?_;(case hd=>rfl);(case hg=>rfl);(case hr=>first|(go_simp;done)|(go_simp;rfl));intro gb209 hg w5 hbox hb;have n0_:=am' (bb' (g:=gb208) (o := .cells #[.slice A0_0 l0_0.length c0_0, .int .i64 a0_1] 28 (0,0)) (kk' BK208.out) hb);have n1_:=am' (bt' (yb' GE208.out) hb);have n2_:=am' (hbox);have n3_:=am' ((by rw[hg];exact (bz' (yb' GE208.out)):w.heap.size≤gb209));have n4_:=am' ((by rw[hg];exact (bz' (yb' GE208.out)):w.heap.size≤gb209));have n5_:=am' ((by rw[hg];exact Nat.ne_of_lt (blk_lt (g:=gb208) (o := .cells #[.slice A0_0 l0_0.length c0_0, .int .i64 a0_1] 28 (0,0)) (kk' BK208.out)):gb208≠gb209));have n6_:=am' ((by rw[hg];exact Nat.ne_of_gt (blk_lt (g:=gb208) (o := .cells #[.slice A0_0 l0_0.length c0_0, .int .i64 a0_1] 28 (0,0)) (kk' BK208.out)):gb209≠gb208));clear BK208;clear HB;have BK208:=n0_;have HB:=n1_;have BK209:=n2_;have GW209:=n3_;have GE209:=n4_;have NB208_209:=n5_;have NB209_208:=n6_;clear n0_ n1_ n2_ n3_ n4_ n5_ n6_;clear hb hbox hg;have hnb6:=NB208_209.out;have hnc6:=NB209_208.out;have hcz7_0:w5.cell? ⟨gb208,0,none⟩=some (.slice A0_0 l0_0.length c0_0):=(bc' BK208.out 0).trans rfl;have hcz7_1:w5.cell? ⟨gb208,1,none⟩=some (.int .i64 a0_1):=(bc' BK208.out 1).trans rfl;have hfz7_0:=bf' BK208.out 0;have hfz7_1:=bf' BK208.out 1)|((with_reducible refine gate_dst (N:=6) rfl ?_);refine Kd.R_make Kd.bool _ 4 rfl (N:=6) rfl 52 _ _ rfl (l0_0.length:Int) rfl rfl Try.underlying52 (.bool false) 1 info4 rfl (by decide) (by omega) false (ok:=fun _=>True) (okp:=fun _=>True) rfl (fun _ hk=>hk) trivial (od' xa') (Nat.le_trans (Nat.mul_le_mul_right _ (od' xa':(l0_0.length:Int).toNat≤281474976710656)) (by omega)) (Below.refl _ _) (Nat.le_refl _) ?_;intro v211 w8 ho9 hb hg_ hnew_;clear hg_ hnew_;(first|rw[← Ny210.out] at ho9|(simp only[Int.reduceToNat] at ho9;rw[← Ny210.out] at ho9));have n0_:=am' (Kd.R_lower ho9 (bz' (y2' GE208.out GE209.out)));have n1_:=am' (bb' (g:=gb208) (o := .cells #[.slice A0_0 l0_0.length c0_0, .int .i64 a0_1] 28 (0,0)) (kk' BK208.out) hb);have n2_:=am' (bb' (g:=gb209) (o := .cells #[.slice none 0 0, .bool false] 54 (0,0)) (kk' BK209.out) hb);have n3_:=am' (bt' (y2' GE208.out GE209.out) hb);clear BK208;clear BK209;clear HB;have HO212:=n0_;have BK208:=n1_;have BK209:=n2_;have HB:=n3_;clear n0_ n1_ n2_ n3_;clear hb ho9;obtain ⟨Ao10,co10,eo10⟩:=Kd.R_slice HO212.out;subst eo10;have hcz11_0:w8.cell? ⟨gb209,0,none⟩=some (.slice none 0 0):=(bc' BK209.out 0).trans rfl;have hcz11_1:w8.cell? ⟨gb209,1,none⟩=some (.bool false):=(bc' BK209.out 1).trans rfl;have hfz11_0:=bf' BK209.out 0;have hfz11_1:=bf' BK209.out 1))
   refine bodyPost_ret (results_cell_row rfl _ _ gb209 54 #[.slice Ao10 y210.length co10, .bool false] (0,0) _ rfl (by (with_reducible repeat (first|refine kn' ?_ _|refine kd' ?_|refine ka' ?_ _));refine blk_put (cs:=#[.slice Ao10 y210.length co10, .bool false]) ?_ 1 _ rfl;(with_reducible repeat (first|refine kn' ?_ _|refine kd' ?_|refine ka' ?_ _));refine blk_put (cs:=#[.slice none 0 0, .bool false]) ?_ 0 _ rfl;(with_reducible repeat (first|refine kn' ?_ _|refine kd' ?_|refine ka' ?_ _));exact BK209.out) Try.underlying54 rfl xk') rfl ?_
   exact ⟨_,by first|rfl|(simp[errW_none,errW_some] <;> rfl)|(simp[*,errW_none,errW_some] <;> rfl),by (with_reducible repeat (first|apply ra'|apply rn'|apply rw'));exact Kd.R_mono (Kd.R_far (p:=⟨gb209,1,none⟩) (Kd.R_far (p:=⟨gb209,0,none⟩) (Kd.R_types HO212.out BK209.out (by decide)) (fun _ hk=>hk.2) (.slice Ao10 y210.length co10)) (fun _ hk=>hk.2) (.bool false)) (fun _ hk=>trivial),y2' GE208.out GE209.out⟩
  ·
   rw[if_neg c3] at H;exact absurd H (by simp)
 ·
  rw[if_neg c2] at H;exact absurd H (by simp)
def spec_paLast.l0:Nat→Int→Int→List Bool→Bool→Option (List Bool × Bool)
 | 0,_,_,_,_=>none
 | k+1,x7,x8,x216000,x216001=>if x8 < x7 then (if x216000.length < 140737488355328 then (spec_paLast.l0 k x7 (wrap64 (x8+1)) (x216000 ++ [true]) x216001) else (none)) else (some (x216000,x216001))
def spec_paLast.f (k:Nat) (l0_0:List Int) (a0_1:Int):Option (List Bool × Bool):=spec_paLast.l0 k (l0_0.length:Int) 0 ([]:List Bool) true
set_option maxHeartbeats 8000000 in
set_option maxRecDepth 100000 in
theorem spec_paLast.calls (k:Nat) (A0_0:Option Addr) (c0_0:Nat) (l0_0:List Int) (a0_1:Int) (r1:List Bool) (r2:Bool) (w:World) (hr0_0:Kd.C (Kd.int .i64) w A0_0 l0_0.length l0_0) (hc0_0:l0_0.length≤c0_0) (h:spec_paLast.f k l0_0 a0_1=some (r1,r2)) :
  Calls Try.prog 41 #[.agg #[.slice A0_0 l0_0.length c0_0, .int .i64 a0_1]] w fun e w'=>∃ v0_:Value,e = .returned (.agg #[v0_, .bool r2])∧Kd.R Kd.bool 4 w' w.heap.size (fun _=>True) v0_ r1∧Below w.heap.size w w':=by
 have hu28:=Try.underlying28
 have hu54:=Try.underlying54
 have HR0_0:=am' hr0_0
 have HC0_0:=am' hc0_0
 clear hr0_0 hc0_0;have HB:=am' (Below.refl w.heap.size w)
 have H:(spec_paLast.l0 k (l0_0.length:Int) 0 ([]:List Bool) true)=some (r1,r2):=h
 clear h;have H':=am' H
 clear H;go_enter Try.func41,Try.ntmps41
 go_wp2_with (first|((with_reducible refine gate_dst (N:=1) rfl ?_);refine box_event ?hg (N:=1) ?hd (cs:=#[.slice A0_0 l0_0.length c0_0, .int .i64 a0_1]) (t:=28) ?hr ?_;(case hd=>rfl);(case hg=>rfl);(case hr=>first|(go_simp;done)|(go_simp;rfl));intro gb213 hg w2 hbox hb;have n0_:=am' (bt' xb' hb);have n1_:=am' (hbox);have n2_:=am' ((by rw[hg];exact (bz' xb'):w.heap.size≤gb213));have n3_:=am' ((by rw[hg];exact (bz' xb'):w.heap.size≤gb213));clear HB;have HB:=n0_;have BK213:=n1_;have GW213:=n2_;have GE213:=n3_;clear n0_ n1_ n2_ n3_;clear hb hbox hg)|((with_reducible refine gate_dst (N:=2) rfl ?_);refine box_event ?hg (N:=2) ?hd (cs:=#[.slice none 0 0, .bool false]) (t:=54) ?hr ?_;(case hd=>rfl);(case hg=>rfl);(case hr=>first|(go_simp;done)|(go_simp;rfl));intro gb214 hg w3 hbox hb;have n0_:=am' (bb' (g:=gb213) (o := .cells #[.slice A0_0 l0_0.length c0_0, .int .i64 a0_1] 28 (0,0)) (kk' BK213.out) hb);have n1_:=am' (bt' (yb' GE213.out) hb);have n2_:=am' (hbox);have n3_:=am' ((by rw[hg];exact (bz' (yb' GE213.out)):w.heap.size≤gb214));have n4_:=am' ((by rw[hg];exact (bz' (yb' GE213.out)):w.heap.size≤gb214));have n5_:=am' ((by rw[hg];exact Nat.ne_of_lt (blk_lt (g:=gb213) (o := .cells #[.slice A0_0 l0_0.length c0_0, .int .i64 a0_1] 28 (0,0)) (kk' BK213.out)):gb213≠gb214));have n6_:=am' ((by rw[hg];exact Nat.ne_of_gt (blk_lt (g:=gb213) (o := .cells #[.slice A0_0 l0_0.length c0_0, .int .i64 a0_1] 28 (0,0)) (kk' BK213.out)):gb214≠gb213));clear BK213;clear HB;have BK213:=n0_;have HB:=n1_;have BK214:=n2_;have GW214:=n3_;have GE214:=n4_;have NB213_214:=n5_;have NB214_213:=n6_;clear n0_ n1_ n2_ n3_ n4_ n5_ n6_;clear hb hbox hg)|((with_reducible refine gate_dst (N:=3) rfl ?_);refine box_event ?hg (N:=3) ?hd (cs:=#[.slice none 0 0, .bool false]) (t:=54) ?hr ?_;(case hd=>rfl);(case hg=>rfl);(case hr=>first|(go_simp;done)|(go_simp;rfl));intro gb215 hg w4 hbox hb;have n0_:=am' (bb' (g:=gb213) (o := .cells #[.slice A0_0 l0_0.length c0_0, .int .i64 a0_1] 28 (0,0)) (kk' BK213.out) hb);have n1_:=am' (bb' (g:=gb214) (o := .cells #[.slice none 0 0, .bool false] 54 (0,0)) (kk' BK214.out) hb);have n2_:=am' (bt' (y2' GE213.out GE214.out) hb);have n3_:=am' (hbox);have n4_:=am' ((by rw[hg];exact (bz' (y2' GE213.out GE214.out)):w.heap.size≤gb215));have n5_:=am' ((by rw[hg];exact (bz' (y2' GE213.out GE214.out)):w.heap.size≤gb215));have n6_:=am' ((by rw[hg];exact Nat.ne_of_lt (blk_lt (g:=gb213) (o := .cells #[.slice A0_0 l0_0.length c0_0, .int .i64 a0_1] 28 (0,0)) (kk' BK213.out)):gb213≠gb215));have n7_:=am' ((by rw[hg];exact Nat.ne_of_gt (blk_lt (g:=gb213) (o := .cells #[.slice A0_0 l0_0.length c0_0, .int .i64 a0_1] 28 (0,0)) (kk' BK213.out)):gb215≠gb213));have n8_:=am' ((by rw[hg];exact Nat.ne_of_lt (blk_lt (g:=gb214) (o := .cells #[.slice none 0 0, .bool false] 54 (0,0)) (kk' BK214.out)):gb214≠gb215));have n9_:=am' ((by rw[hg];exact Nat.ne_of_gt (blk_lt (g:=gb214) (o := .cells #[.slice none 0 0, .bool false] 54 (0,0)) (kk' BK214.out)):gb215≠gb214));clear BK213;clear BK214;clear HB;have BK213:=n0_;have BK214:=n1_;have HB:=n2_;have BK215:=n3_;have GW215:=n4_;have GE215:=n5_;have NB213_215:=n6_;have NB215_213:=n7_;have NB214_215:=n8_;have NB215_214:=n9_;clear n0_ n1_ n2_ n3_ n4_ n5_ n6_ n7_ n8_ n9_;clear hb hbox hg;have hnb5:=NB215_213.out;have hnc5:=NB213_215.out;have hnb6:=NB215_214.out;have hnc6:=NB214_215.out;have hcz7_0:w4.cell? ⟨gb215,0,none⟩=some (.slice none 0 0):=(bc' BK215.out 0).trans rfl;have hcz7_1:w4.cell? ⟨gb215,1,none⟩=some (.bool false):=(bc' BK215.out 1).trans rfl;have hfz7_0:=bf' BK215.out 0;have hfz7_1:=bf' BK215.out 1;have hnb8:=NB213_214.out;have hnc8:=NB214_213.out;have hcz9_0:w4.cell? ⟨gb213,0,none⟩=some (.slice A0_0 l0_0.length c0_0):=(bc' BK213.out 0).trans rfl;have hcz9_1:w4.cell? ⟨gb213,1,none⟩=some (.int .i64 a0_1):=(bc' BK213.out 1).trans rfl;have hfz9_0:=bf' BK213.out 0;have hfz9_1:=bf' BK213.out 1))
 go_loopg [8] k (fun kq v8 w'=>∃ (x8_1:Int) (x216000_1:List Bool) (u216000:Value),v8 = .int .i64 x8_1∧Aside0 (spec_paLast.l0 kq (l0_0.length:Int) x8_1 x216000_1 true=some (r1,r2))∧Aside0 (kq≤k)∧Aside0 (Kd.R Kd.bool 4 w' w.heap.size (fun _=>True) u216000 x216000_1)∧Aside0 (w'.heap[gb213]? = some (.cells #[(.slice A0_0 l0_0.length c0_0), .int .i64 a0_1] 28 (0,0)))∧Aside0 (w'.heap[gb214]? = some (.cells #[(.slice none 0 0), .bool false] 54 (0,0)))∧Aside0 (w'.heap[gb215]? = some (.cells #[u216000, .bool true] 54 (0,0)))∧Aside0 (Below w.heap.size w w'))
 case atStart=>exact ⟨(0),(([]:List Bool)),(.slice none 0 0),xs',H',⟨Nat.le_refl _⟩,⟨by first|exact Kd.R_nil _ _ _ _ _|exact Kd.N_nil _ _ _ _ _|exact Kd.V_nil _ _ _ _ _|exact Kd.Q_nil _ _ _ _ _|exact Kd.S_nil _ _ _ _ _⟩,⟨by (with_reducible repeat (first|refine kn' ?_ _|refine kd' ?_|refine ka' ?_ _));refine blk_far ?_ NB213_215.out _;(with_reducible repeat (first|refine kn' ?_ _|refine kd' ?_|refine ka' ?_ _));refine blk_far ?_ NB213_215.out _;(with_reducible repeat (first|refine kn' ?_ _|refine kd' ?_|refine ka' ?_ _));exact BK213.out⟩,⟨by (with_reducible repeat (first|refine kn' ?_ _|refine kd' ?_|refine ka' ?_ _));refine blk_far ?_ NB214_215.out _;(with_reducible repeat (first|refine kn' ?_ _|refine kd' ?_|refine ka' ?_ _));refine blk_far ?_ NB214_215.out _;(with_reducible repeat (first|refine kn' ?_ _|refine kd' ?_|refine ka' ?_ _));exact BK214.out⟩,⟨by (with_reducible repeat (first|refine kn' ?_ _|refine kd' ?_|refine ka' ?_ _));refine blk_put (cs:=#[.slice none 0 0, .bool false]) ?_ 1 _ rfl;(with_reducible repeat (first|refine kn' ?_ _|refine kd' ?_|refine ka' ?_ _));refine blk_put (cs:=#[.slice none 0 0, .bool false]) ?_ 0 _ rfl;(with_reducible repeat (first|refine kn' ?_ _|refine kd' ?_|refine ka' ?_ _));exact BK215.out⟩,⟨y3' GE213.out GE214.out GE215.out⟩⟩
 case round =>
  clear H';try clear p2
  try clear c4
  try clear c5
  try clear c6
  try clear c8
  try clear hcz7_0
  try clear hcz7_1
  try clear hcz9_0
  try clear hcz9_1
  try clear hfz7_0
  try clear hfz7_1
  try clear hfz9_0
  try clear hfz9_1
  obtain ⟨x8_1,x216000_1,u216000,rfl,HA,HK1,HO_216000,BK213,BK214,BK215,HB⟩:=hrel;cases gk with
  | zero=>exact absurd HA.out (by simp[spec_paLast.l0])
  | succ k1 =>
   have H:=HA.out;clear HA;simp only[spec_paLast.l0] at H;by_cases c10:x8_1 < (l0_0.length:Int)
   ·
    rw[if_pos c10] at H;have c10b0:decide (x8_1 < (l0_0.length:Int))=true:=dt' c10;clear c10;by_cases c11:x216000_1.length < 140737488355328
    ·
     rw[if_pos c11] at H;have LMc11:=am' c11;clear c11;obtain ⟨y216,hy216⟩:∃ y_:List Bool,y_=(x216000_1 ++ [true]):=⟨_,rfl⟩
     replace H:(spec_paLast.l0 k1 (l0_0.length:Int) (wrap64 (x8_1+1)) y216 true)=some (r1,r2):=by first|(rw[hy216];with_reducible exact H)|(have H2_:=(Option.bind_some _ _).symm.trans H;rw[hy216];with_reducible exact H2_)|(have H2_:=(Option.bind_some _ _).symm.trans H;with_reducible exact H2_)|with_reducible exact H|(rw[hy216];exact H)|exact H
     have Ny216:=am' hy216;clear hy216;have H':=am' H;clear H;have hnb12:=NB215_213.out;have hnc12:=NB213_215.out;have hnb13:=NB215_214.out;have hnc13:=NB214_215.out;have hcz14_0:wr.cell? ⟨gb215,0,none⟩=some (u216000):=(bc' BK215.out 0).trans rfl;have hcz14_1:wr.cell? ⟨gb215,1,none⟩=some (.bool true):=(bc' BK215.out 1).trans rfl;have hfz14_0:=bf' BK215.out 0;have hfz14_1:=bf' BK215.out 1;go_wp2_with (first|((with_reducible refine gate_builtin (b := .append) (xs:=#[.tmp 11, .tmp 12]) rfl ?_);at_builtin;refine Kd.R_append Kd.bool (w0:=w) w.heap.size rfl (.tmp 11) (.tmp 12) 52 4 (.bool false) 1 rfl Try.underlying52 info4 rfl (by decide) (by omega) u216000 x216000_1 true [.bool true] (fun _=>True) (fun _=>False) rfl rfl ?aP (fun _ hk=>hk.elim) ?aF ?aO ?aB ?aS ?aL ?_;(case aP=>exact rfl);(case aB=>exact (y3' GE213.out GE214.out GE215.out));(case aF=>exact (fun _ _=>trivial));(case aO=>exact (kr' HO_216000.out));(case aS=>exact (bz' (y3' GE213.out GE214.out GE215.out)));(case aL=>have:=LMc11.out;omega);intro v217 w15 ho hb hg hat;rw[← Ny216.out] at ho;have n0_:=am' (blk_grown (g:=gb213) (o := .cells #[.slice A0_0 l0_0.length c0_0, .int .i64 a0_1] 28 (0,0)) (kk' BK213.out) hg (Kd.R_ne HO_216000.out BK213.out (by decide)));have n1_:=am' (blk_grown (g:=gb214) (o := .cells #[.slice none 0 0, .bool false] 54 (0,0)) (kk' BK214.out) hg (Kd.R_ne HO_216000.out BK214.out (by decide)));have n2_:=am' (blk_grown (g:=gb215) (o := .cells #[u216000, .bool true] 54 (0,0)) (kk' BK215.out) hg (Kd.R_ne HO_216000.out BK215.out (by decide)));have n3_:=am' (hb);have n4_:=am' (ho);clear BK213;clear BK214;clear BK215;clear HB;clear HO_216000;have BK213:=n0_;have BK214:=n1_;have BK215:=n2_;have HB:=n3_;have HO218:=n4_;clear n0_ n1_ n2_ n3_ n4_;clear ho hb hg hat;obtain ⟨Ao16,co16,eo16⟩:=Kd.R_slice HO218.out;subst eo16;have hcz17_0:w15.cell? ⟨gb215,0,none⟩=some (u216000):=(bc' BK215.out 0).trans rfl;have hcz17_1:w15.cell? ⟨gb215,1,none⟩=some (.bool true):=(bc' BK215.out 1).trans rfl;have hfz17_0:=bf' BK215.out 0;have hfz17_1:=bf' BK215.out 1));go_roundg k1
     case measure=>have:=HK1.out;omega
     case rel=>exact ⟨(wrap64 (x8_1+1)),(y216),(.slice Ao16 y216.length co16),xs',H',⟨by have:=HK1.out;omega⟩,⟨by (with_reducible repeat (first|apply ra'|apply rn'|apply rw'));exact Kd.R_mono (Kd.R_far (p:=⟨gb215,0,none⟩) (Kd.R_types HO218.out BK215.out (by decide)) (fun _ hk=>hk.2) (.slice Ao16 y216.length co16)) (fun _ hk=>trivial)⟩,⟨by (with_reducible repeat (first|refine kn' ?_ _|refine kd' ?_|refine ka' ?_ _));refine blk_far ?_ NB213_215.out _;(with_reducible repeat (first|refine kn' ?_ _|refine kd' ?_|refine ka' ?_ _));exact BK213.out⟩,⟨by (with_reducible repeat (first|refine kn' ?_ _|refine kd' ?_|refine ka' ?_ _));refine blk_far ?_ NB214_215.out _;(with_reducible repeat (first|refine kn' ?_ _|refine kd' ?_|refine ka' ?_ _));exact BK214.out⟩,⟨by (with_reducible repeat (first|refine kn' ?_ _|refine kd' ?_|refine ka' ?_ _));refine blk_put (cs:=#[u216000, .bool true]) ?_ 0 _ rfl;(with_reducible repeat (first|refine kn' ?_ _|refine kd' ?_|refine ka' ?_ _));exact BK215.out⟩,⟨y3' GE213.out GE214.out GE215.out⟩⟩
    ·
     rw[if_neg c11] at H;exact absurd H (by simp)
   ·
    rw[if_neg c10] at H;have c10b0:decide (x8_1 < (l0_0.length:Int))=false:=df' c10;clear c10;simp only[Option.some.injEq,Prod.mk.injEq] at H;obtain ⟨rfl,rfl⟩:=H;have hnb18:=NB215_213.out;have hnc18:=NB213_215.out;have hnb19:=NB215_214.out;have hnc19:=NB214_215.out;have hcz20_0:wr.cell? ⟨gb215,0,none⟩=some (u216000):=(bc' BK215.out 0).trans rfl;have hcz20_1:wr.cell? ⟨gb215,1,none⟩=some (.bool true):=(bc' BK215.out 1).trans rfl;have hfz20_0:=bf' BK215.out 0;have hfz20_1:=bf' BK215.out 1;obtain ⟨Ao21,co21,eo21⟩:=Kd.R_slice HO_216000.out;subst eo21;have hnb22:=NB214_213.out;have hnc22:=NB213_214.out;have hcz23_0:wr.cell? ⟨gb214,0,none⟩=some (.slice none 0 0):=(bc' BK214.out 0).trans rfl;have hcz23_1:wr.cell? ⟨gb214,1,none⟩=some (.bool false):=(bc' BK214.out 1).trans rfl;have hfz23_0:=bf' BK214.out 0;have hfz23_1:=bf' BK214.out 1;go_wp2;refine bodyPost_ret (results_cell_row rfl _ _ gb214 54 #[.slice Ao21 x216000_1.length co21, .bool true] (0,0) _ rfl (by (with_reducible repeat (first|refine kn' ?_ _|refine kd' ?_|refine ka' ?_ _));refine blk_put (cs:=#[.slice Ao21 x216000_1.length co21, .bool false]) ?_ 1 _ rfl;(with_reducible repeat (first|refine kn' ?_ _|refine kd' ?_|refine ka' ?_ _));refine blk_put (cs:=#[.slice none 0 0, .bool false]) ?_ 0 _ rfl;(with_reducible repeat (first|refine kn' ?_ _|refine kd' ?_|refine ka' ?_ _));exact BK214.out) Try.underlying54 rfl xk') rfl ?_
    exact ⟨_,by first|rfl|(simp[errW_none,errW_some] <;> rfl)|(simp[*,errW_none,errW_some] <;> rfl),by (with_reducible repeat (first|apply ra'|apply rn'|apply rw'));exact Kd.R_mono (Kd.R_far (p:=⟨gb214,1,none⟩) (Kd.R_far (p:=⟨gb214,0,none⟩) (Kd.R_types HO_216000.out BK214.out (by decide)) (fun _ hk=>hk.2) (.slice Ao21 x216000_1.length co21)) (fun _ hk=>hk.2) (.bool true)) (fun _ hk=>trivial),y3' GE213.out GE214.out GE215.out⟩
def spec_seLeast.f (k:Nat) (l0_0:List Int) (a0_1:Int):Option (Int):=(spec_paFirst.f l0_0 a0_1).bind fun b1=>(spec_seFar.f k l0_0 a0_1 b1.1 b1.2).bind fun r=>(spec_paLast.f k l0_0 a0_1).bind fun b2=>(spec_seIndex.f k b2.1 b2.2).bind fun i=>if 0≤i∧i < (r.length:Int) then some (rd r i) else none
set_option maxHeartbeats 2000000 in
set_option maxRecDepth 100000 in
theorem spec_seLeast.calls (k:Nat) (A0_0:Option Addr) (c0_0:Nat) (l0_0:List Int) (a0_1:Int) (r:Int) (w:World) (hr0_0:Kd.C (Kd.int .i64) w A0_0 l0_0.length l0_0) (hc0_0:l0_0.length≤c0_0) (h:spec_seLeast.f k l0_0 a0_1=some r) :
  Calls Try.prog 18 #[.agg #[.slice A0_0 l0_0.length c0_0, .int .i64 a0_1]] w fun e w'=>e = .returned (.int .i64 r)∧Below w.heap.size w w':=by
 have hu0:=Try.underlying28
 have hu1:=Try.underlying54
 unfold spec_seLeast.f at h
 obtain ⟨⟨f1,f2⟩,hF,h⟩:=Option.bind_eq_some_iff.mp h
 obtain ⟨far,hR,h⟩:=Option.bind_eq_some_iff.mp h
 obtain ⟨⟨g1,g2⟩,hL,h⟩:=Option.bind_eq_some_iff.mp h
 obtain ⟨i,hI,h⟩:=Option.bind_eq_some_iff.mp h
 dsimp only at hF hR hL hI
 by_cases hi:0≤i∧i < (far.length:Int)
 ·
  rw[if_pos hi] at h;have hrd:=os' h;have HF:=am' (fun (W:World) (hb:Below w.heap.size w W)=>spec_paFirst.calls A0_0 c0_0 l0_0 a0_1 f1 f2 W (cb' hr0_0 hb) hc0_0 hF);have HR:=am' (fun (W:World) (hb:Below w.heap.size w W) (A1:Option Addr) (c1:Nat) (hC:Kd.C Kd.bool W A1 f1.length f1) (hc:f1.length≤c1)=>spec_seFar.calls k A0_0 c0_0 l0_0 a0_1 A1 c1 f1 f2 far W (cb' hr0_0 hb) hc0_0 hC hc hR);have HL:=am' (fun (W:World) (hb:Below w.heap.size w W)=>spec_paLast.calls k A0_0 c0_0 l0_0 a0_1 g1 g2 W (cb' hr0_0 hb) hc0_0 hL);have HI:=am' (fun (W:World) (A1:Option Addr) (c1:Nat) (hC:Kd.C Kd.bool W A1 g1.length g1) (hc:g1.length≤c1)=>spec_seIndex.calls k A1 c1 g1 g2 i W hC hc hI);have HRD:=am' hrd;have hi0:=hi.1;have hi1:=hi.2;clear hr0_0 hF hR hL hI h hrd hi;have HB1:=am' (ba' (Below.refl w.heap.size w) (.cells #[.slice A0_0 l0_0.length c0_0, .int .i64 a0_1] 28));have HX:=am' (heap_alloc_new w (.cells #[.slice A0_0 l0_0.length c0_0, .int .i64 a0_1] 28));go_enter Try.func18,Try.ntmps18;go_wp2_with fail;generalize w.alloc (.cells #[.slice A0_0 l0_0.length c0_0, .int .i64 a0_1] 28)=W1 at HB1 HX ⊢
  have x0:W1.cell? ⟨w.heap.size,0,none⟩=some (.slice A0_0 l0_0.length c0_0):=(bc' HX.out 0).trans rfl;have x1:W1.cell? ⟨w.heap.size,1,none⟩=some (.int .i64 a0_1):=(bc' HX.out 1).trans rfl;have HW1:=am' (Below.refl W1.heap.size W1);refine start_ (n:=10) (S:=fun w'=>w'.cell? ⟨w.heap.size,0,none⟩=some (.slice A0_0 l0_0.length c0_0)∧w'.cell? ⟨w.heap.size,1,none⟩=some (.int .i64 a0_1)) (ds:=[]) #[false,false,false,false,false,false,false,false,false,false] xk' rfl rfl ⟨x0,x1⟩ (fun hHeld=>?_);refine take_ (i:=0) (N:=some 3) (v:=?_) (a':=?_) #[true,false,false,false,false,false,false,false,false,false] rfl rfl xk' (fun _ _ _ h=>h) (Or.inl ⟨by rfl,?_⟩) hHeld ?_ ?_
  rotate_left
  ·
   rintro w' ⟨s0_,s1_⟩
   go_simp;with_reducible rfl
  rotate_left
  ·
   simp only[Act.put,sa',sb',sc',i64_w,i32_w];rfl
  refine take_ (i:=1) (N:=some 4) (v:=?_) (a':=?_) #[true,true,false,false,false,false,false,false,false,false] rfl rfl xk' (fun _ _ _ h=>h) (Or.inl ⟨by rfl,?_⟩) hHeld ?_ ?_
  rotate_left
  ·
   rintro w' ⟨s0_,s1_⟩
   go_simp;with_reducible rfl
  rotate_left
  ·
   simp only[Act.put,sa',sb',sc',i64_w,i32_w];rfl
  refine take_ (i:=4) (N:=some 7) (v:=?_) (a':=?_) #[true,true,false,false,true,false,false,false,false,false] rfl rfl xk' (fun _ _ _ h=>h) (Or.inl ⟨by rfl,?_⟩) hHeld ?_ ?_
  rotate_left
  ·
   rintro w' ⟨s0_,s1_⟩
   go_simp;with_reducible rfl
  rotate_left
  ·
   simp only[Act.put,sa',sb',sc',i64_w,i32_w];rfl
  refine one_ (i:=2) (N:=some 5) #[true,true,true,false,true,false,false,false,false,false] rfl rfl xk' (by decide) (fun K hK=>?_);refine goes_ Try.func26 xk' rfl #[.agg #[.slice A0_0 l0_0.length c0_0, .int .i64 a0_1]] (by rfl) rfl rfl (by (try simp only[List.map_toArray,List.map_cons,List.map_nil]);first|done|rfl) ?_
  refine (HF.out _ ?sd0).mono ?_
  (case sd0=>(repeat (first|(with_reducible exact HB1.out)|apply be'|apply bd')))
  rintro e w4 ⟨v4,rfl,ho4,hb4⟩
  obtain ⟨A4,c4,rfl,hc4,hC4⟩:=Kd.R_reads ho4;have HW4:=am' (bt' (by repeat (first|(with_reducible exact HW1.out)|apply be'|apply bd')) hb4);have HB4:=am' (bt' (by repeat (first|(with_reducible exact HB1.out)|apply be'|apply bd')) hb4);have HC4:=am' hC4;have HL4:=am' hc4;have HO4:=am' (Below.refl w4.heap.size w4);have y40:=(HW4.out.cell (bl' W1 _ x0)).trans x0;have y41:=(HW4.out.cell (bl' W1 _ x1)).trans x1;clear ho4 hb4 hC4 hc4;refine ⟨_,rfl,?_⟩;refine hK.out _ _ ⟨y40,y41⟩ (fun hHeld=>?_);clear hK K;refine norm_ (a':=?_) ?_ ?_
  rotate_left
  ·
   show Act.put _ (some 5) _=_
   simp only[Act.put,sa',sb',sc',i64_w,i32_w];rfl
  refine one_ (i:=3) (N:=some 6) #[true,true,true,true,true,false,false,false,false,false] rfl rfl xk' (by decide) (fun K hK=>?_);refine goes_ Try.func25 xk' rfl #[.agg #[.slice A0_0 l0_0.length c0_0, .int .i64 a0_1], .agg #[.slice A4 f1.length c4, .bool f2]] (by rfl) rfl rfl (by (try simp only[List.map_toArray,List.map_cons,List.map_nil]);first|done|rfl) ?_
  refine (HR.out _ ?sd0 A4 c4 ?sd1 HL4.out).mono ?_
  (case sd0=>(repeat (first|(with_reducible exact HB4.out)|apply be'|apply bd')))
  (case sd1=>(exact cb' HC4.out (by repeat (first|(with_reducible exact HO4.out)|apply be'|apply bd'))))
  rintro e w5 ⟨v5,rfl,ho5,hb5⟩
  obtain ⟨A5,c5,rfl,hc5,hC5⟩:=Kd.R_reads ho5;have HW5:=am' (bt' (by repeat (first|(with_reducible exact HW4.out)|apply be'|apply bd')) hb5);have HB5:=am' (bt' (by repeat (first|(with_reducible exact HB4.out)|apply be'|apply bd')) hb5);obtain ⟨ad,e0,hx0_⟩:=Kd.at_int hC5 i hi0 hi1;cases e0;obtain ⟨dv,hdv⟩:∃ x,x=rd far i:=⟨_,rfl⟩
  rw[← hdv] at hx0_;have HDV:=am' hdv;have HX0:=am' hx0_;have HO5:=am' (Below.refl w5.heap.size w5);have y50:=(HW5.out.cell (bl' W1 _ x0)).trans x0;have y51:=(HW5.out.cell (bl' W1 _ x1)).trans x1;clear ho5 hb5 hC5 hc5 hdv hx0_;refine ⟨_,rfl,?_⟩;refine hK.out _ _ ⟨y50,y51⟩ (fun hHeld=>?_);clear hK K;refine norm_ (a':=?_) ?_ ?_
  rotate_left
  ·
   show Act.put _ (some 6) _=_
   simp only[Act.put,sa',sb',sc',i64_w,i32_w];rfl
  refine one_ (i:=5) (N:=some 8) #[true,true,true,true,true,true,false,false,false,false] rfl rfl xk' (by decide) (fun K hK=>?_);refine goes_ Try.func41 xk' rfl #[.agg #[.slice A0_0 l0_0.length c0_0, .int .i64 a0_1]] (by rfl) rfl rfl (by (try simp only[List.map_toArray,List.map_cons,List.map_nil]);first|done|rfl) ?_
  refine (HL.out _ ?sd0).mono ?_
  (case sd0=>(repeat (first|(with_reducible exact HB5.out)|apply be'|apply bd')))
  rintro e w6 ⟨v6,rfl,ho6,hb6⟩
  obtain ⟨A6,c6,rfl,hc6,hC6⟩:=Kd.R_reads ho6;have HW6:=am' (bt' (by repeat (first|(with_reducible exact HW5.out)|apply be'|apply bd')) hb6);have HB6:=am' (bt' (by repeat (first|(with_reducible exact HB5.out)|apply be'|apply bd')) hb6);have HK6:=am' (bt' (by repeat (first|(with_reducible exact HO5.out)|apply be'|apply bd')) hb6);have HC6:=am' hC6;have HL6:=am' hc6;have HO6:=am' (Below.refl w6.heap.size w6);have y60:=(HW6.out.cell (bl' W1 _ x0)).trans x0;have y61:=(HW6.out.cell (bl' W1 _ x1)).trans x1;clear ho6 hb6 hC6 hc6;refine ⟨_,rfl,?_⟩;refine hK.out _ _ ⟨y60,y61⟩ (fun hHeld=>?_);clear hK K;refine norm_ (a':=?_) ?_ ?_
  rotate_left
  ·
   show Act.put _ (some 8) _=_
   simp only[Act.put,sa',sb',sc',i64_w,i32_w];rfl
  refine one_ (i:=6) (N:=some 9) #[true,true,true,true,true,true,true,false,false,false] rfl rfl xk' (by decide) (fun K hK=>?_);refine goes_ Try.func40 xk' rfl #[.agg #[.slice A6 g1.length c6, .bool g2]] (by rfl) rfl rfl (by (try simp only[List.map_toArray,List.map_cons,List.map_nil]);first|done|rfl) ?_
  refine (HI.out _ A6 c6 ?sd0 HL6.out).mono ?_
  (case sd0=>(exact cb' HC6.out (by repeat (first|(with_reducible exact HO6.out)|apply be'|apply bd'))))
  rintro e w7 ⟨rfl,hb7⟩
  have HW7:=am' (bt' (by repeat (first|(with_reducible exact HW6.out)|apply be'|apply bd')) hb7);have HB7:=am' (bt' (by repeat (first|(with_reducible exact HB6.out)|apply be'|apply bd')) hb7);have HK7:=am' (bt' (by repeat (first|(with_reducible exact HK6.out)|apply be'|apply bd')) hb7);have y70:=(HW7.out.cell (bl' W1 _ x0)).trans x0;have y71:=(HW7.out.cell (bl' W1 _ x1)).trans x1;have y72:=(HK7.out.cell (bl' w5 _ HX0.out)).trans HX0.out;clear hb7;refine ⟨_,rfl,?_⟩;refine hK.out _ _ ⟨y70,y71⟩ (fun hHeld=>?_);clear hK K;refine norm_ (a':=?_) ?_ ?_
  rotate_left
  ·
   show Act.put _ (some 9) _=_
   simp only[Act.put,sa',sb',sc',i64_w,i32_w];rfl
  refine pure_ (i:=7) (N:=some 10) (v:=?_) (a':=?_) #[true,true,true,true,true,true,true,true,false,false] rfl rfl xk' (fun _ _ _ h=>h) (Or.inl ⟨by rfl,?_⟩) ?_ ?_
  rotate_left
  ·
   intro w';go_simp;with_reducible rfl
  rotate_left
  ·
   simp only[Act.put,sa',sb',sc',i64_w,i32_w];rfl
  refine one_ (i:=8) (N:=some 11) #[true,true,true,true,true,true,true,true,true,false] rfl rfl xk' (by decide) (fun K hK=>?_);refine value_ (v := .int .i64 dv) (w1:=w7) (by rfl) rfl ?_ ?_
  ·
   go_simp
  refine hK.out _ _ ⟨y70,y71⟩ (fun hHeld=>?_);clear hK K;refine norm_ (a':=?_) ?_ ?_
  rotate_left
  ·
   show Act.put _ (some 11) _=_
   simp only[Act.put,sa',sb',sc',i64_w,i32_w];rfl
  refine pure_ (i:=9) (N:=some 2) (v:=?_) (a':=?_) #[true,true,true,true,true,true,true,true,true,true] rfl rfl xk' (fun _ _ _ h=>h) (Or.inl ⟨by rfl,?_⟩) ?_ ?_
  rotate_left
  ·
   intro w';go_simp;with_reducible rfl
  rotate_left
  ·
   simp only[Act.put,sa',sb',sc',i64_w,i32_w];rfl
  refine done_ xk' ?_
  go_wp2;go_ret
  exact ⟨by rw[← HRD.out,HDV.out];rfl,HB7.out⟩
 ·
  rw[if_neg hi] at h;cases h
mutual
def spec_seOrder.l0:Nat→List Int→List Int→List Int→Int→Int→Option (List Int)
 | 0,_,_,_,_,_=>none
 | k+1,x0,x3,x8,x9,x10=>if x10 < x9 then (if 0≤x10 then (if x10 < (x8.length:Int) then (if (rd x8 x10) < 0 then (spec_seOrder.l0 k x0 x3 x8 x9 (wrap64 (x10+1))) else (spec_seOrder.l1 k x0 x3 x10 (rd x8 x10) (x3.length:Int) x8 x9 x10)) else (none)) else (none)) else (some x3)
def spec_seOrder.l1:Nat→List Int→List Int→Int→Int→Int→List Int→Int→Int→Option (List Int)
 | 0,_,_,_,_,_,_,_,_=>none
 | k+1,x0,x3,x4,x5,x6,x8,x9,x10=>if x6 > 0 then (if 0≤(wrap64 (x6 - 1)) then (if (wrap64 (x6 - 1)) < (x3.length:Int) then (if 0≤(rd x3 (wrap64 (x6 - 1))) then (if (rd x3 (wrap64 (x6 - 1))) < (x0.length:Int) then (if x5 < (rd x0 (rd x3 (wrap64 (x6 - 1)))) then (spec_seOrder.l1 k x0 x3 x4 x5 (wrap64 (x6 - 1)) x8 x9 x10) else (if 0≤x6 then (if x6≤(x3.length:Int) then ((spec_l1Own.f (x3.take (x6:Int).toNat)).bind fun t226=>(if t226.length < 17592186044416 then ((some (t226 ++ [x4]:List Int)).bind fun y229=>((some (x3.drop (x6:Int).toNat:List Int)).bind fun y232=>(if y229.length+y232.length < 17592186044416 then (spec_seOrder.l0 k x0 (y229 ++ y232) x8 x9 (wrap64 (x10+1))) else (none)))) else (none))) else (none)) else (none))) else (none)) else (none)) else (none)) else (none)) else (if 0≤x6 then (if x6≤(x3.length:Int) then ((spec_l1Own.f (x3.take (x6:Int).toNat)).bind fun t243=>(if t243.length < 17592186044416 then ((some (t243 ++ [x4]:List Int)).bind fun y246=>((some (x3.drop (x6:Int).toNat:List Int)).bind fun y249=>(if y246.length+y249.length < 17592186044416 then (spec_seOrder.l0 k x0 (y246 ++ y249) x8 x9 (wrap64 (x10+1))) else (none)))) else (none))) else (none)) else (none))
end
def spec_seOrder.f (k:Nat) (l0:List Int):Option (List Int):=spec_seOrder.l0 k l0 ([]:List Int) l0 (l0.length:Int) 0
set_option maxHeartbeats 8000000 in
set_option maxRecDepth 100000 in
theorem spec_seOrder.calls (k:Nat) (A0:Option Addr) (c0:Nat) (l0:List Int) (r:List Int) (w:World) (hr0:Kd.C (Kd.int .i64) w A0 l0.length l0) (hc0:l0.length≤c0) (h:spec_seOrder.f k l0=some r) :
  Calls Try.prog 42 #[.slice A0 l0.length c0] w fun e w'=>∃ v0_:Value,e = .returned (v0_)∧Kd.R (Kd.int .i64) 3 w' w.heap.size (fun _=>True) v0_ r∧Below w.heap.size w w':=by
 have HR0:=am' hr0
 have HC0:=am' hc0
 clear hr0 hc0;have HB:=am' (Below.refl w.heap.size w)
 have H:(spec_seOrder.l0 k l0 ([]:List Int) l0 (l0.length:Int) 0)=some r:=h
 clear h;have H':=am' H
 clear H;go_enter Try.func42,Try.ntmps42
 go_wp2
 go_loopg [3,10] k (fun kq v3 v10 w'=>∃ (x3_1:List Int) (x10_1:Int),v10 = .int .i64 x10_1∧Aside0 (spec_seOrder.l0 kq l0 x3_1 l0 (l0.length:Int) x10_1=some r)∧Aside0 (kq≤k)∧Aside0 (Kd.R (Kd.int .i64) 3 w' w.heap.size (fun _=>True) v3 x3_1)∧Aside0 (Below w.heap.size w w'))
 case atStart=>exact ⟨(([]:List Int)),(0),xs',H',⟨Nat.le_refl _⟩,⟨by first|exact Kd.R_nil _ _ _ _ _|exact Kd.N_nil _ _ _ _ _|exact Kd.V_nil _ _ _ _ _|exact Kd.Q_nil _ _ _ _ _|exact Kd.S_nil _ _ _ _ _⟩,⟨xb'⟩⟩
 case round =>
  clear H';obtain ⟨x3_1,x10_1,rfl,HA,HK1,HO_3,HB⟩:=hrel;cases gk with
  | zero=>exact absurd HA.out (by simp[spec_seOrder.l0])
  | succ k1 =>
   have H:=HA.out;clear HA;simp only[spec_seOrder.l0] at H;by_cases c2:x10_1 < (l0.length:Int)
   ·
    rw[if_pos c2] at H;have c2b0:decide (x10_1 < (l0.length:Int))=true:=dt' c2;clear c2;by_cases c3:0≤x10_1
    ·
     rw[if_pos c3] at H;have c3b0:decide (0≤x10_1)=true:=dt' c3;clear c3;by_cases c4:x10_1 < (l0.length:Int)
     ·
      rw[if_pos c4] at H;have c4b0:decide (x10_1 < (l0.length:Int))=true:=dt' c4;clear c4;by_cases c5:(rd l0 x10_1) < 0
      ·
       rw[if_pos c5] at H;have c5b0:decide ((rd l0 x10_1) < 0)=true:=dt' c5;clear c5;have H':=am' H;clear H;have p219:0≤(x10_1:Int):=od' xa';have q219:x10_1 < (l0.length:Int):=od' xa';obtain ⟨ad219,e219,hx219_0⟩:=Kd.at_int HR0.out x10_1 p219 q219;cases e219;replace hx219_0:=(HB.out.cell (bl' w _ hx219_0)).trans hx219_0;replace p219:=eq_true p219;replace q219:=eq_true q219;go_wp2;go_roundg k1
       case measure=>have:=HK1.out;omega
       case rel=>exact ⟨(x3_1),(wrap64 (x10_1+1)),xs',H',⟨by have:=HK1.out;omega⟩,⟨kr' HO_3.out⟩,⟨xb'⟩⟩
      ·
       rw[if_neg c5] at H;have c5b0:decide ((rd l0 x10_1) < 0)=false:=df' c5;clear c5;have H':=am' H;clear H;have p219:0≤(x10_1:Int):=od' xa';have q219:x10_1 < (l0.length:Int):=od' xa';obtain ⟨ad219,e219,hx219_0⟩:=Kd.at_int HR0.out x10_1 p219 q219;cases e219;replace hx219_0:=(HB.out.cell (bl' w _ hx219_0)).trans hx219_0;replace p219:=eq_true p219;replace q219:=eq_true q219;obtain ⟨Ao6,co6,eo6⟩:=Kd.R_slice HO_3.out;subst eo6;go_wp2;go_loopg [6] k1 (fun kq v6 w'=>∃ (x6_2:Int),v6 = .int .i64 x6_2∧Aside0 (spec_seOrder.l1 kq l0 x3_1 x10_1 (rd l0 x10_1) x6_2 l0 (l0.length:Int) x10_1=some r)∧Aside0 (kq≤k1)∧Aside0 (Kd.R (Kd.int .i64) 3 w' w.heap.size (fun _=>True) (.slice Ao6 x3_1.length co6) x3_1)∧Aside0 (Below w.heap.size w w'))
       case atStart=>exact ⟨((x3_1.length:Int)),xs',H',⟨Nat.le_refl _⟩,⟨kr' HO_3.out⟩,⟨xb'⟩⟩
       case round =>
        clear H';try clear c2
        try clear c2b0
        try clear p2
        try clear q2
        try clear hx2
        try clear c3
        try clear c3b0
        try clear c4
        try clear c4b0
        try clear c5
        try clear c5b0
        try clear p6
        try clear hx219_0
        try clear p219
        try clear q219
        obtain ⟨x6_2,rfl,HA,HK2,HO_3,HB⟩:=hrel;cases gk with
        | zero=>exact absurd HA.out (by simp[spec_seOrder.l1])
        | succ k2 =>
         have H:=HA.out;clear HA;simp only[spec_seOrder.l1] at H;by_cases c7:x6_2 > 0
         ·
          rw[if_pos c7] at H;have c7b0:decide (0 < x6_2)=true:=dt' c7;clear c7;obtain ⟨ji8,hji8⟩:∃ j_:Int,(wrap64 (x6_2 - 1))=j_:=⟨_,rfl⟩
          replace H:(if 0≤(ji8) then (if (ji8) < (x3_1.length:Int) then (if 0≤(rd x3_1 (ji8)) then (if (rd x3_1 (ji8)) < (l0.length:Int) then (if (rd l0 x10_1) < (rd l0 (rd x3_1 (ji8))) then (spec_seOrder.l1 k2 l0 x3_1 x10_1 (rd l0 x10_1) ji8 l0 (l0.length:Int) x10_1) else (if 0≤x6_2 then (if x6_2≤(x3_1.length:Int) then ((spec_l1Own.f (x3_1.take (x6_2:Int).toNat)).bind fun t226=>(if t226.length < 17592186044416 then ((some (t226 ++ [x10_1]:List Int)).bind fun y229=>((some (x3_1.drop (x6_2:Int).toNat:List Int)).bind fun y232=>(if y229.length+y232.length < 17592186044416 then (spec_seOrder.l0 k2 l0 (y229 ++ y232) l0 (l0.length:Int) (wrap64 (x10_1+1))) else (none)))) else (none))) else (none)) else (none))) else (none)) else (none)) else (none)) else (none))=some r:=by first|(rw[hji8] at H;exact H)|(simp only[hji8] at H ⊢;exact H)
          have hji8w:(IntKind.i64.wrap (x6_2 - 1))=ji8:=(i64_w _).trans hji8;by_cases c9:0≤(ji8)
          ·
           rw[if_pos c9] at H;have c9b0:decide (0≤(ji8))=true:=dt' c9;clear c9;by_cases c10:(ji8) < (x3_1.length:Int)
           ·
            rw[if_pos c10] at H;have c10b0:decide ((ji8) < (x3_1.length:Int))=true:=dt' c10;clear c10;by_cases c11:0≤(rd x3_1 (ji8))
            ·
             rw[if_pos c11] at H;have c11b0:decide (0≤(rd x3_1 (ji8)))=true:=dt' c11;clear c11;by_cases c12:(rd x3_1 (ji8)) < (l0.length:Int)
             ·
              rw[if_pos c12] at H;have c12b0:decide ((rd x3_1 (ji8)) < (l0.length:Int))=true:=dt' c12;clear c12;by_cases c13:(rd l0 x10_1) < (rd l0 (rd x3_1 (ji8)))
              ·
               rw[if_pos c13] at H;have c13b0:decide ((rd l0 x10_1) < (rd l0 (rd x3_1 (ji8))))=true:=dt' c13;clear c13;have H':=am' H;clear H;have p220:0≤((ji8):Int):=od' xa';have q220:(ji8) < (x3_1.length:Int):=od' xa';obtain ⟨ad220,e220,hx220_0⟩:=Kd.at_int (Kd.R_reads' HO_3.out).2.2 (ji8) p220 q220;cases e220;replace p220:=eq_true p220;replace q220:=eq_true q220;have p221:0≤((rd x3_1 (ji8)):Int):=od' xa';have q221:(rd x3_1 (ji8)) < (l0.length:Int):=od' xa';obtain ⟨ad221,e221,hx221_0⟩:=Kd.at_int HR0.out (rd x3_1 (ji8)) p221 q221;obtain rfl:ad219=ad221:=(by injection e221)
               replace hx221_0:=(HB.out.cell (bl' w _ hx221_0)).trans hx221_0;replace p221:=eq_true p221;replace q221:=eq_true q221;go_wp2;go_roundg k2
               case measure=>have:=HK1.out;have:=HK2.out;omega
               case rel=>exact ⟨(ji8),(by first|rfl|(simp;done)|(simp only[← hji8] <;> (first|rfl|simp))|(simp[*];done)),H',⟨by have:=HK1.out;have:=HK2.out;omega⟩,⟨kr' HO_3.out⟩,⟨xb'⟩⟩
              ·
               rw[if_neg c13] at H;have c13b0:decide ((rd l0 x10_1) < (rd l0 (rd x3_1 (ji8))))=false:=df' c13;clear c13;by_cases c14:0≤x6_2
               ·
                rw[if_pos c14] at H;have c14b0:=eq_true c14;have c14b1:decide (0≤x6_2)=true:=dt' c14;clear c14;by_cases c15:x6_2≤(x3_1.length:Int)
                ·
                 rw[if_pos c15] at H;have c15b0:=eq_true c15;have c15b1:decide (x6_2≤(x3_1.length:Int))=true:=dt' c15;clear c15;obtain ⟨y222,hy222⟩:∃ y_:List Int,y_=(x3_1.take (x6_2:Int).toNat):=⟨_,rfl⟩
                 replace H:((spec_l1Own.f y222).bind fun t226=>(if t226.length < 17592186044416 then ((some (t226 ++ [x10_1]:List Int)).bind fun y229=>((some (x3_1.drop (x6_2:Int).toNat:List Int)).bind fun y232=>(if y229.length+y232.length < 17592186044416 then (spec_seOrder.l0 k2 l0 (y229 ++ y232) l0 (l0.length:Int) (wrap64 (x10_1+1))) else (none)))) else (none)))=some r:=by first|(rw[hy222];with_reducible exact H)|(have H2_:=(Option.bind_some _ _).symm.trans H;rw[hy222];with_reducible exact H2_)|(have H2_:=(Option.bind_some _ _).symm.trans H;with_reducible exact H2_)|with_reducible exact H|(rw[hy222];exact H)|exact H
                 have Ny222:=am' hy222;clear hy222;replace H:=Option.bind_eq_some_iff.mp H;obtain ⟨t226,A160,H⟩:=H;replace H:(if t226.length < 17592186044416 then ((some (t226 ++ [x10_1]:List Int)).bind fun y229=>((some (x3_1.drop (x6_2:Int).toNat:List Int)).bind fun y232=>(if y229.length+y232.length < 17592186044416 then (spec_seOrder.l0 k2 l0 (y229 ++ y232) l0 (l0.length:Int) (wrap64 (x10_1+1))) else (none)))) else (none))=some r:=H;have A16:=am' A160;clear A160;by_cases c17:t226.length < 17592186044416
                 ·
                  rw[if_pos c17] at H;have LMc17:=am' c17;clear c17;obtain ⟨y229,hy229⟩:∃ y_:List Int,y_=(t226 ++ [x10_1]):=⟨_,rfl⟩
                  replace H:((some (x3_1.drop (x6_2:Int).toNat:List Int)).bind fun y232=>(if y229.length+y232.length < 17592186044416 then (spec_seOrder.l0 k2 l0 (y229 ++ y232) l0 (l0.length:Int) (wrap64 (x10_1+1))) else (none)))=some r:=by first|(rw[hy229];with_reducible exact H)|(have H2_:=(Option.bind_some _ _).symm.trans H;rw[hy229];with_reducible exact H2_)|(have H2_:=(Option.bind_some _ _).symm.trans H;with_reducible exact H2_)|with_reducible exact H|(rw[hy229];exact H)|exact H
                  have Ny229:=am' hy229;clear hy229;have c18b0:=eq_true (od' xa':0≤x6_2);have c19b0:=eq_true (od' xa':x6_2≤(x3_1.length:Int));obtain ⟨y232,hy232⟩:∃ y_:List Int,y_=(x3_1.drop (x6_2:Int).toNat):=⟨_,rfl⟩
                  replace H:(if y229.length+y232.length < 17592186044416 then (spec_seOrder.l0 k2 l0 (y229 ++ y232) l0 (l0.length:Int) (wrap64 (x10_1+1))) else (none))=some r:=by first|(rw[hy232];with_reducible exact H)|(have H2_:=(Option.bind_some _ _).symm.trans H;rw[hy232];with_reducible exact H2_)|(have H2_:=(Option.bind_some _ _).symm.trans H;with_reducible exact H2_)|with_reducible exact H|(rw[hy232];exact H)|exact H
                  have Ny232:=am' hy232;clear hy232;by_cases c20:y229.length+y232.length < 17592186044416
                  ·
                   rw[if_pos c20] at H;have LMc20:=am' c20;clear c20;obtain ⟨y236,hy236⟩:∃ y_:List Int,y_=(y229 ++ y232):=⟨_,rfl⟩
                   replace H:(spec_seOrder.l0 k2 l0 y236 l0 (l0.length:Int) (wrap64 (x10_1+1)))=some r:=by first|(rw[hy236];with_reducible exact H)|(have H2_:=(Option.bind_some _ _).symm.trans H;rw[hy236];with_reducible exact H2_)|(have H2_:=(Option.bind_some _ _).symm.trans H;with_reducible exact H2_)|with_reducible exact H|(rw[hy236];exact H)|exact H
                   have Ny236:=am' hy236;clear hy236;have H':=am' H;clear H;have p220:0≤((ji8):Int):=od' xa';have q220:(ji8) < (x3_1.length:Int):=od' xa';obtain ⟨ad220,e220,hx220_0⟩:=Kd.at_int (Kd.R_reads' HO_3.out).2.2 (ji8) p220 q220;cases e220;replace p220:=eq_true p220;replace q220:=eq_true q220;have p221:0≤((rd x3_1 (ji8)):Int):=od' xa';have q221:(rd x3_1 (ji8)) < (l0.length:Int):=od' xa';obtain ⟨ad221,e221,hx221_0⟩:=Kd.at_int HR0.out (rd x3_1 (ji8)) p221 q221;obtain rfl:ad219=ad221:=(by injection e221)
                   replace hx221_0:=(HB.out.cell (bl' w _ hx221_0)).trans hx221_0;replace p221:=eq_true p221;replace q221:=eq_true q221;have q21:(x6_2:Int)≤((x3_1.length:Int):Int):=od' xa';obtain ⟨i021,hi021,_,hsz21,_⟩:=info_parts info3;have hroom21:x3_1.length≤co6:=(Kd.R_reads' HO_3.out).2.1;have hC21:Kd.C (Kd.int .i64) _ (some ad220) x3_1.length x3_1:=(Kd.R_reads' HO_3.out).2.2;have hcut21:=cut_to (P:=Try.prog) 22 3 .i64 Try.underlying22 hi021 (some ad220) x3_1.length co6 x6_2 (od' xa') q21 hroom21;have hr21:=Kd.C_take (m:=(x6_2:Int).toNat) hC21 (by omega);have hy21:y222.length=(x6_2:Int).toNat:=(by rw[Ny222.out,List.length_take];omega)
                   rw[← Ny222.out] at hr21;rw[← hy21] at hcut21;have HR225:=am' hr21;have HC225:=am' (show y222.length≤co6 from by omega);clear hr21 hC21 hroom21 hi021 hsz21;have KY21:=am' hy21;clear hy21;have KL21:=am' (show (x6_2:Int).toNat≤x3_1.length from by omega);replace q21:=eq_true q21;go_wp2_with (first|((with_reducible refine gate_callee (f:=63) rfl ?_);refine goesL_ (some 38) rfl rfl Try.func63 xk' rfl #[.slice (some ad220) y222.length co6] rfl xl' ?_;(with_reducible refine (spec_l1Own.calls _ _ y222 t226 _ ?side1 ?side2 A16.out).mono ?_);(case side1=>exact kc' (kx' HR225.out));(case side2=>exact HC225.out);rintro e w22 ⟨v227,rfl,ho0,hb⟩;refine ⟨_,rfl,?_⟩;have n0_:=am' (Kd.R_elder' (kr' HO_3.out) (Kd.R_base ho0) hb);have n1_:=am' (Kd.R_lower (Kd.R_new' ho0 (Kd.R_lt (kr' HO_3.out))) (bz' xb'));have n2_:=am' (cb' (kx' HR225.out) hb);have n3_:=am' (bt' xb' hb);clear HO_3;clear HR225;clear HB;have HO_3:=n0_;have HO228:=n1_;have HR225:=n2_;have HB:=n3_;clear n0_ n1_ n2_ n3_;(try clear hb);(try clear hb2);(try clear hk);(try clear hi);(try clear ho0))|((with_reducible refine gate_builtin (b := .append) (xs:=#[.tmp 38, .tmp 40]) rfl ?_);at_builtin;refine Kd.R_append (Kd.int .i64) (w0:=w) w.heap.size rfl (.tmp 38) (.tmp 40) 22 3 (.int .i64 0) 8 rfl Try.underlying22 info3 rfl (by decide) (by omega) v227 t226 x10_1 [.int .i64 x10_1] (fun k_=>some k_≠(.slice (some ad220) x3_1.length co6:Value).ownBlock) (fun _=>False) rfl rfl ?aP (fun _ hk=>hk.elim) ?aF ?aO ?aB ?aS ?aL ?_;(case aP=>exact rfl);(case aB=>exact xb');(case aF=>exact (fun k_ hk=>Kd.fresh' (Kd.R_lt (kr' HO_3.out)) k_ hk));(case aO=>exact (by (with_reducible repeat (first|apply ra'|apply rn'|apply rw'));exact Kd.R_mono HO228.out (fun _ hk=>hk.2)));(case aS=>exact (bz' xb'));(case aL=>have:=LMc17.out;omega);intro v230 w23 ho hb hg hat;rw[← Ny229.out] at ho;have n0_:=am' (Kd.R_after (ok:=(fun _=>True)) (kr' HO_3.out) hg hat);have n1_:=am' (hb);have n2_:=am' ((show Kd.C (Kd.int .i64) w23 (some ad220) y222.length y222 from by rw[Ny222.out];exact Kd.C_take (m:=(x6_2:Int).toNat) ((Kd.R_reads' (Kd.R_after (ok:=(fun _=>True)) (kr' HO_3.out) hg hat)).2.2) KL21.out));have n3_:=am' (ho);clear HO_3;clear HB;clear HR225;clear HO228;have HO_3:=n0_;have HB:=n1_;have HR225:=n2_;have HO231:=n3_;clear n0_ n1_ n2_ n3_;clear ho hb hg hat;have q24:(x6_2:Int)≤((x3_1.length:Int):Int):=od' xa';obtain ⟨i024,hi024,_,hsz24,_⟩:=info_parts info3;have hroom24:x3_1.length≤co6:=(Kd.R_reads' HO_3.out).2.1;have hC24:Kd.C (Kd.int .i64) _ (some ad220) x3_1.length x3_1:=(Kd.R_reads' HO_3.out).2.2;have q024:(0:Int)≤(x6_2:Int):=od' xa';have hcut24:=cut_from (P:=Try.prog) 22 3 .i64 Try.underlying22 hi024 1 hsz24 (some ad220) x3_1.length co6 x6_2 q024 q24;have hr24:=Kd.C_drop (m:=(x6_2:Int).toNat) (c:=co6) hC24 (by omega) hroom24;obtain ⟨A24,hA24⟩:∃ A1,A1=(if co6=(x6_2:Int).toNat then (some ad220) else ((some ad220):Option Addr).map (·.add ((x6_2:Int).toNat * 1))):=⟨_,rfl⟩;obtain ⟨c24,hc24⟩:∃ c1,c1=co6 - (x6_2:Int).toNat:=⟨_,rfl⟩;have hy24:y232.length=x3_1.length - (x6_2:Int).toNat:=(by rw[Ny232.out,List.length_drop] <;> omega);rw[show (x3_1).drop (x6_2:Int).toNat=y232 from Ny232.out.symm] at hr24;replace hr24:Kd.C (Kd.int .i64) _ A24 y232.length y232:=(by rw[hA24];exact hr24);rw[← hy24,← hA24,← hc24] at hcut24;have HR235:=am' hr24;have HC235:=am' (show y232.length≤c24 from by rw[hy24,hc24];exact Nat.sub_le_sub_right hroom24 _);clear hr24 hC24 hroom24 hi024 hsz24 hc24;have KY24:=am' hy24;have KA24:=am' hA24;clear hy24 hA24;have KL24:=am' (show (x6_2:Int).toNat≤x3_1.length from by omega);replace q24:=eq_true q24)|((with_reducible refine gate_builtin (b := .append) (xs:=#[.tmp 42, .tmp 45]) rfl ?_);at_builtin;refine Kd.R_append_rows (Kd.int .i64) (w0:=w) w.heap.size rfl (.tmp 42) (.tmp 45) 22 3 (.int .i64 0) 8 rfl Try.underlying22 info3 rfl (by decide) (by omega) v230 y229 y232 _ _ _ (fun k_=>some k_≠(.slice (some ad220) x3_1.length co6:Value).ownBlock) (fun _=>False) rfl rfl ?aO ?aR (fun _ _ h=>h) (fun _ h=>h.elim) ?aF ?aB ?aS ?aL ?_;(case aR=>exact kc' (kx' HR235.out));(case aB=>exact xb');(case aF=>exact (fun k_ hk=>Kd.fresh' (Kd.R_lt (kr' HO_3.out)) k_ hk));(case aO=>exact (kr' HO231.out));(case aS=>exact (bz' xb'));(case aL=>have:=LMc20.out;omega);intro v237 w25 ho hb hg hat;rw[← Ny236.out] at ho;have n0_:=am' (Kd.R_after (ok:=(fun _=>True)) (kr' HO_3.out) hg hat);have n1_:=am' (hb);have n2_:=am' ((show Kd.C (Kd.int .i64) w25 (some ad220) y222.length y222 from by rw[Ny222.out];exact Kd.C_take (m:=(x6_2:Int).toNat) ((Kd.R_reads' (Kd.R_after (ok:=(fun _=>True)) (kr' HO_3.out) hg hat)).2.2) KL21.out));have n3_:=am' ((show Kd.C (Kd.int .i64) w25 A24 y232.length y232 from by rw[Ny232.out,KA24.out];exact Kd.C_drop (m:=(x6_2:Int).toNat) (c:=co6) ((Kd.R_reads' (Kd.R_after (ok:=(fun _=>True)) (kr' HO_3.out) hg hat)).2.2) KL24.out ((Kd.R_reads' (Kd.R_after (ok:=(fun _=>True)) (kr' HO_3.out) hg hat)).2.1)));have n4_:=am' (ho);clear HO_3;clear HB;clear HR225;clear HR235;clear HO231;have HO_3:=n0_;have HB:=n1_;have HR225:=n2_;have HR235:=n3_;have HO238:=n4_;clear n0_ n1_ n2_ n3_ n4_;clear ho hb hg hat))
                   go_roundg k2
                   case measure=>have:=HK1.out;have:=HK2.out;omega
                   case rel=>exact ⟨(y236),(wrap64 (x10_1+1)),xs',H',⟨by have:=HK1.out;have:=HK2.out;omega⟩,⟨by (with_reducible repeat (first|apply ra'|apply rn'|apply rw'));exact Kd.R_mono HO238.out (fun _ hk=>trivial)⟩,⟨xb'⟩⟩
                  ·
                   rw[if_neg c20] at H;exact absurd H (by simp)
                 ·
                  rw[if_neg c17] at H;exact absurd H (by simp)
                ·
                 rw[if_neg c15] at H;exact absurd H (by simp)
               ·
                rw[if_neg c14] at H;exact absurd H (by simp)
             ·
              rw[if_neg c12] at H;exact absurd H (by simp)
            ·
             rw[if_neg c11] at H;exact absurd H (by simp)
           ·
            rw[if_neg c10] at H;exact absurd H (by simp)
          ·
           rw[if_neg c9] at H;exact absurd H (by simp)
         ·
          rw[if_neg c7] at H;have c7b0:decide (0 < x6_2)=false:=df' c7;clear c7;by_cases c26:0≤x6_2
          ·
           rw[if_pos c26] at H;have c26b0:=eq_true c26;have c26b1:decide (0≤x6_2)=true:=dt' c26;clear c26;by_cases c27:x6_2≤(x3_1.length:Int)
           ·
            rw[if_pos c27] at H;have c27b0:=eq_true c27;have c27b1:decide (x6_2≤(x3_1.length:Int))=true:=dt' c27;clear c27;obtain ⟨y239,hy239⟩:∃ y_:List Int,y_=(x3_1.take (x6_2:Int).toNat):=⟨_,rfl⟩
            replace H:((spec_l1Own.f y239).bind fun t243=>(if t243.length < 17592186044416 then ((some (t243 ++ [x10_1]:List Int)).bind fun y246=>((some (x3_1.drop (x6_2:Int).toNat:List Int)).bind fun y249=>(if y246.length+y249.length < 17592186044416 then (spec_seOrder.l0 k2 l0 (y246 ++ y249) l0 (l0.length:Int) (wrap64 (x10_1+1))) else (none)))) else (none)))=some r:=by first|(rw[hy239];with_reducible exact H)|(have H2_:=(Option.bind_some _ _).symm.trans H;rw[hy239];with_reducible exact H2_)|(have H2_:=(Option.bind_some _ _).symm.trans H;with_reducible exact H2_)|with_reducible exact H|(rw[hy239];exact H)|exact H
            have Ny239:=am' hy239;clear hy239;replace H:=Option.bind_eq_some_iff.mp H;obtain ⟨t243,A280,H⟩:=H;replace H:(if t243.length < 17592186044416 then ((some (t243 ++ [x10_1]:List Int)).bind fun y246=>((some (x3_1.drop (x6_2:Int).toNat:List Int)).bind fun y249=>(if y246.length+y249.length < 17592186044416 then (spec_seOrder.l0 k2 l0 (y246 ++ y249) l0 (l0.length:Int) (wrap64 (x10_1+1))) else (none)))) else (none))=some r:=H;have A28:=am' A280;clear A280;by_cases c29:t243.length < 17592186044416
            ·
             rw[if_pos c29] at H;have LMc29:=am' c29;clear c29;obtain ⟨y246,hy246⟩:∃ y_:List Int,y_=(t243 ++ [x10_1]):=⟨_,rfl⟩
             replace H:((some (x3_1.drop (x6_2:Int).toNat:List Int)).bind fun y249=>(if y246.length+y249.length < 17592186044416 then (spec_seOrder.l0 k2 l0 (y246 ++ y249) l0 (l0.length:Int) (wrap64 (x10_1+1))) else (none)))=some r:=by first|(rw[hy246];with_reducible exact H)|(have H2_:=(Option.bind_some _ _).symm.trans H;rw[hy246];with_reducible exact H2_)|(have H2_:=(Option.bind_some _ _).symm.trans H;with_reducible exact H2_)|with_reducible exact H|(rw[hy246];exact H)|exact H
             have Ny246:=am' hy246;clear hy246;have c30b0:=eq_true (od' xa':0≤x6_2);have c31b0:=eq_true (od' xa':x6_2≤(x3_1.length:Int));obtain ⟨y249,hy249⟩:∃ y_:List Int,y_=(x3_1.drop (x6_2:Int).toNat):=⟨_,rfl⟩
             replace H:(if y246.length+y249.length < 17592186044416 then (spec_seOrder.l0 k2 l0 (y246 ++ y249) l0 (l0.length:Int) (wrap64 (x10_1+1))) else (none))=some r:=by first|(rw[hy249];with_reducible exact H)|(have H2_:=(Option.bind_some _ _).symm.trans H;rw[hy249];with_reducible exact H2_)|(have H2_:=(Option.bind_some _ _).symm.trans H;with_reducible exact H2_)|with_reducible exact H|(rw[hy249];exact H)|exact H
             have Ny249:=am' hy249;clear hy249;by_cases c32:y246.length+y249.length < 17592186044416
             ·
              rw[if_pos c32] at H;have LMc32:=am' c32;clear c32;obtain ⟨y253,hy253⟩:∃ y_:List Int,y_=(y246 ++ y249):=⟨_,rfl⟩
              replace H:(spec_seOrder.l0 k2 l0 y253 l0 (l0.length:Int) (wrap64 (x10_1+1)))=some r:=by first|(rw[hy253];with_reducible exact H)|(have H2_:=(Option.bind_some _ _).symm.trans H;rw[hy253];with_reducible exact H2_)|(have H2_:=(Option.bind_some _ _).symm.trans H;with_reducible exact H2_)|with_reducible exact H|(rw[hy253];exact H)|exact H
              have Ny253:=am' hy253;clear hy253;have H':=am' H;clear H;have q33:(x6_2:Int)≤((x3_1.length:Int):Int):=od' xa';obtain ⟨i033,hi033,_,hsz33,_⟩:=info_parts info3;have hroom33:x3_1.length≤co6:=(Kd.R_reads' HO_3.out).2.1;have hC33:Kd.C (Kd.int .i64) _ Ao6 x3_1.length x3_1:=(Kd.R_reads' HO_3.out).2.2;have hcut33:=cut_to (P:=Try.prog) 22 3 .i64 Try.underlying22 hi033 Ao6 x3_1.length co6 x6_2 (od' xa') q33 hroom33;have hr33:=Kd.C_take (m:=(x6_2:Int).toNat) hC33 (by omega);have hy33:y239.length=(x6_2:Int).toNat:=(by rw[Ny239.out,List.length_take];omega)
              rw[← Ny239.out] at hr33;rw[← hy33] at hcut33;have HR242:=am' hr33;have HC242:=am' (show y239.length≤co6 from by omega);clear hr33 hC33 hroom33 hi033 hsz33;have KY33:=am' hy33;clear hy33;have KL33:=am' (show (x6_2:Int).toNat≤x3_1.length from by omega);replace q33:=eq_true q33;go_wp2_with (first|((with_reducible refine gate_callee (f:=63) rfl ?_);refine goesL_ (some 38) rfl rfl Try.func63 xk' rfl #[.slice Ao6 y239.length co6] rfl xl' ?_;(with_reducible refine (spec_l1Own.calls _ _ y239 t243 _ ?side1 ?side2 A28.out).mono ?_);(case side1=>exact kc' (kx' HR242.out));(case side2=>exact HC242.out);rintro e w34 ⟨v244,rfl,ho0,hb⟩;refine ⟨_,rfl,?_⟩;have n0_:=am' (Kd.R_elder' (kr' HO_3.out) (Kd.R_base ho0) hb);have n1_:=am' (Kd.R_lower (Kd.R_new' ho0 (Kd.R_lt (kr' HO_3.out))) (bz' xb'));have n2_:=am' (cb' (kx' HR242.out) hb);have n3_:=am' (bt' xb' hb);clear HO_3;clear HR242;clear HB;have HO_3:=n0_;have HO245:=n1_;have HR242:=n2_;have HB:=n3_;clear n0_ n1_ n2_ n3_;(try clear hb);(try clear hb2);(try clear hk);(try clear hi);(try clear ho0))|((with_reducible refine gate_builtin (b := .append) (xs:=#[.tmp 38, .tmp 40]) rfl ?_);at_builtin;refine Kd.R_append (Kd.int .i64) (w0:=w) w.heap.size rfl (.tmp 38) (.tmp 40) 22 3 (.int .i64 0) 8 rfl Try.underlying22 info3 rfl (by decide) (by omega) v244 t243 x10_1 [.int .i64 x10_1] (fun k_=>some k_≠(.slice Ao6 x3_1.length co6:Value).ownBlock) (fun _=>False) rfl rfl ?aP (fun _ hk=>hk.elim) ?aF ?aO ?aB ?aS ?aL ?_;(case aP=>exact rfl);(case aB=>exact xb');(case aF=>exact (fun k_ hk=>Kd.fresh' (Kd.R_lt (kr' HO_3.out)) k_ hk));(case aO=>exact (by (with_reducible repeat (first|apply ra'|apply rn'|apply rw'));exact Kd.R_mono HO245.out (fun _ hk=>hk.2)));(case aS=>exact (bz' xb'));(case aL=>have:=LMc29.out;omega);intro v247 w35 ho hb hg hat;rw[← Ny246.out] at ho;have n0_:=am' (Kd.R_after (ok:=(fun _=>True)) (kr' HO_3.out) hg hat);have n1_:=am' (hb);have n2_:=am' ((show Kd.C (Kd.int .i64) w35 Ao6 y239.length y239 from by rw[Ny239.out];exact Kd.C_take (m:=(x6_2:Int).toNat) ((Kd.R_reads' (Kd.R_after (ok:=(fun _=>True)) (kr' HO_3.out) hg hat)).2.2) KL33.out));have n3_:=am' (ho);clear HO_3;clear HB;clear HR242;clear HO245;have HO_3:=n0_;have HB:=n1_;have HR242:=n2_;have HO248:=n3_;clear n0_ n1_ n2_ n3_;clear ho hb hg hat;have q36:(x6_2:Int)≤((x3_1.length:Int):Int):=od' xa';obtain ⟨i036,hi036,_,hsz36,_⟩:=info_parts info3;have hroom36:x3_1.length≤co6:=(Kd.R_reads' HO_3.out).2.1;have hC36:Kd.C (Kd.int .i64) _ Ao6 x3_1.length x3_1:=(Kd.R_reads' HO_3.out).2.2;have q036:(0:Int)≤(x6_2:Int):=od' xa';have hcut36:=cut_from (P:=Try.prog) 22 3 .i64 Try.underlying22 hi036 1 hsz36 Ao6 x3_1.length co6 x6_2 q036 q36;have hr36:=Kd.C_drop (m:=(x6_2:Int).toNat) (c:=co6) hC36 (by omega) hroom36;obtain ⟨A36,hA36⟩:∃ A1,A1=(if co6=(x6_2:Int).toNat then Ao6 else (Ao6:Option Addr).map (·.add ((x6_2:Int).toNat * 1))):=⟨_,rfl⟩;obtain ⟨c36,hc36⟩:∃ c1,c1=co6 - (x6_2:Int).toNat:=⟨_,rfl⟩;have hy36:y249.length=x3_1.length - (x6_2:Int).toNat:=(by rw[Ny249.out,List.length_drop] <;> omega);rw[show (x3_1).drop (x6_2:Int).toNat=y249 from Ny249.out.symm] at hr36;replace hr36:Kd.C (Kd.int .i64) _ A36 y249.length y249:=(by rw[hA36];exact hr36);rw[← hy36,← hA36,← hc36] at hcut36;have HR252:=am' hr36;have HC252:=am' (show y249.length≤c36 from by rw[hy36,hc36];exact Nat.sub_le_sub_right hroom36 _);clear hr36 hC36 hroom36 hi036 hsz36 hc36;have KY36:=am' hy36;have KA36:=am' hA36;clear hy36 hA36;have KL36:=am' (show (x6_2:Int).toNat≤x3_1.length from by omega);replace q36:=eq_true q36)|((with_reducible refine gate_builtin (b := .append) (xs:=#[.tmp 42, .tmp 45]) rfl ?_);at_builtin;refine Kd.R_append_rows (Kd.int .i64) (w0:=w) w.heap.size rfl (.tmp 42) (.tmp 45) 22 3 (.int .i64 0) 8 rfl Try.underlying22 info3 rfl (by decide) (by omega) v247 y246 y249 _ _ _ (fun k_=>some k_≠(.slice Ao6 x3_1.length co6:Value).ownBlock) (fun _=>False) rfl rfl ?aO ?aR (fun _ _ h=>h) (fun _ h=>h.elim) ?aF ?aB ?aS ?aL ?_;(case aR=>exact kc' (kx' HR252.out));(case aB=>exact xb');(case aF=>exact (fun k_ hk=>Kd.fresh' (Kd.R_lt (kr' HO_3.out)) k_ hk));(case aO=>exact (kr' HO248.out));(case aS=>exact (bz' xb'));(case aL=>have:=LMc32.out;omega);intro v254 w37 ho hb hg hat;rw[← Ny253.out] at ho;have n0_:=am' (Kd.R_after (ok:=(fun _=>True)) (kr' HO_3.out) hg hat);have n1_:=am' (hb);have n2_:=am' ((show Kd.C (Kd.int .i64) w37 Ao6 y239.length y239 from by rw[Ny239.out];exact Kd.C_take (m:=(x6_2:Int).toNat) ((Kd.R_reads' (Kd.R_after (ok:=(fun _=>True)) (kr' HO_3.out) hg hat)).2.2) KL33.out));have n3_:=am' ((show Kd.C (Kd.int .i64) w37 A36 y249.length y249 from by rw[Ny249.out,KA36.out];exact Kd.C_drop (m:=(x6_2:Int).toNat) (c:=co6) ((Kd.R_reads' (Kd.R_after (ok:=(fun _=>True)) (kr' HO_3.out) hg hat)).2.2) KL36.out ((Kd.R_reads' (Kd.R_after (ok:=(fun _=>True)) (kr' HO_3.out) hg hat)).2.1)));have n4_:=am' (ho);clear HO_3;clear HB;clear HR242;clear HR252;clear HO248;have HO_3:=n0_;have HB:=n1_;have HR242:=n2_;have HR252:=n3_;have HO255:=n4_;clear n0_ n1_ n2_ n3_ n4_;clear ho hb hg hat))
              go_roundg k2
              case measure=>have:=HK1.out;have:=HK2.out;omega
              case rel=>exact ⟨(y253),(wrap64 (x10_1+1)),xs',H',⟨by have:=HK1.out;have:=HK2.out;omega⟩,⟨by (with_reducible repeat (first|apply ra'|apply rn'|apply rw'));exact Kd.R_mono HO255.out (fun _ hk=>trivial)⟩,⟨xb'⟩⟩
             ·
              rw[if_neg c32] at H;exact absurd H (by simp)
            ·
             rw[if_neg c29] at H;exact absurd H (by simp)
           ·
            rw[if_neg c27] at H;exact absurd H (by simp)
          ·
           rw[if_neg c26] at H;exact absurd H (by simp)
     ·
      rw[if_neg c4] at H;exact absurd H (by simp)
    ·
     rw[if_neg c3] at H;exact absurd H (by simp)
   ·
    rw[if_neg c2] at H;have c2b0:decide (x10_1 < (l0.length:Int))=false:=df' c2;clear c2;obtain rfl:=os' H;go_wp2;go_ret
    exact ⟨_,by first|rfl|(simp[errW_none,errW_some] <;> rfl)|(simp[*,errW_none,errW_some] <;> rfl),kr' HO_3.out,xb'⟩
end Go.Proofs.Ytihieplobgehaaa.C2
