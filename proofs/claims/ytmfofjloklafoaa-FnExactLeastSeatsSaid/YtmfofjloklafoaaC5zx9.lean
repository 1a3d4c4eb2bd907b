import Derived.Test.YtmfofjloklafoaaC5zx0
import Derived.Test.YtmfofjloklafoaaC5zAl
namespace Go.Proofs.Ytmfofjloklafoaa.C5
open Go.RowKit Go.Proofs.YtmfofjloklafoaaW.PrintWords Go.Proofs.YtmfofjloklafoaaW.PrintLast Go.Proofs.YtmfofjloklafoaaW.PrintMore Go.Proofs.Ytmfofjloklafoaa.H
attribute [local go_sem] max2_int min2_int max_two min_two max_three min_three max_four min_four
set_option linter.unusedVariables false
set_option linter.unusedSimpArgs false
def spec_keEnd.l0:Nat→Int→Int→List (List Int)→Int→List Bool→Bool→Option (List Bool × Bool)
 | 0,_,_,_,_,_,_=>none
 | k+1,x4,x244000,x244001,x244002,x246000,x246001=>if x4 < x244000 then (if x246000.length < 140737488355328 then (spec_keEnd.l0 k (wrap64 (x4+1)) x244000 x244001 x244002 (x246000 ++ [true]) x246001) else (none)) else (some (x246000,x246001))
def spec_keEnd.f (k:Nat) (a0_0:Int) (l0_1:List (List Int)) (a0_2:Int):Option (List Bool × Bool):=spec_keEnd.l0 k 0 a0_0 l0_1 a0_2 ([]:List Bool) true
set_option maxHeartbeats 8000000 in
set_option maxRecDepth 100000 in
theorem spec_keEnd.calls (k:Nat) (a0_0:Int) (A0_1:Option Addr) (c0_1:Nat) (l0_1:List (List Int)) (a0_2:Int) (r1:List Bool) (r2:Bool) (w:World) (hr0_1:Kd.C (Kd.slice 3 (Kd.int .i64)) w A0_1 l0_1.length l0_1) (hc0_1:l0_1.length≤c0_1) (h:spec_keEnd.f k a0_0 l0_1 a0_2=some (r1,r2)) :
  Calls Try.prog 86 #[.agg #[.int .i64 a0_0, .slice A0_1 l0_1.length c0_1, .int .i64 a0_2]] w fun e w'=>∃ v0_:Value,e = .returned (.agg #[v0_, .bool r2])∧Kd.R Kd.bool 4 w' w.heap.size (fun _=>True) v0_ r1∧Below w.heap.size w w':=by
 have hu32:=Try.underlying32
 have hu34:=Try.underlying34
 have HR0_1:=am' hr0_1
 have HC0_1:=am' hc0_1
 clear hr0_1 hc0_1;have HB:=am' (Below.refl w.heap.size w)
 have H:(spec_keEnd.l0 k 0 a0_0 l0_1 a0_2 ([]:List Bool) true)=some (r1,r2):=h
 clear h;have H':=am' H
 clear H;go_enter Try.func86,Try.ntmps86
 go_wp2_with (first|((with_reducible refine gate_dst (N:=1) rfl ?_);refine box_event ?hg (N:=1) ?hd (cs:=#[.int .i64 a0_0, .slice A0_1 l0_1.length c0_1, .int .i64 a0_2]) (t:=32) ?hr ?_;(case hd=>rfl);(case hg=>rfl);(case hr=>first|(go_simp;done)|(go_simp;rfl));intro gb243 hg w2 hbox hb;have n0_:=am' (bt' xb' hb);have n1_:=am' (hbox);have n2_:=am' ((by rw[hg];exact (bz' xb'):w.heap.size≤gb243));have n3_:=am' ((by rw[hg];exact (bz' xb'):w.heap.size≤gb243));clear HB;have HB:=n0_;have BK243:=n1_;have GW243:=n2_;have GE243:=n3_;clear n0_ n1_ n2_ n3_;clear hb hbox hg)|((with_reducible refine gate_dst (N:=2) rfl ?_);refine box_event ?hg (N:=2) ?hd (cs:=#[.slice none 0 0, .bool false]) (t:=34) ?hr ?_;(case hd=>rfl);(case hg=>rfl);(case hr=>first|(go_simp;done)|(go_simp;rfl));intro gb244 hg w3 hbox hb;have n0_:=am' (bb' (g:=gb243) (o := .cells #[.int .i64 a0_0, .slice A0_1 l0_1.length c0_1, .int .i64 a0_2] 32 (0,0)) (kk' BK243.out) hb);have n1_:=am' (bt' (yb' GE243.out) hb);have n2_:=am' (hbox);have n3_:=am' ((by rw[hg];exact (bz' (yb' GE243.out)):w.heap.size≤gb244));have n4_:=am' ((by rw[hg];exact (bz' (yb' GE243.out)):w.heap.size≤gb244));have n5_:=am' ((by rw[hg];exact Nat.ne_of_lt (blk_lt (g:=gb243) (o := .cells #[.int .i64 a0_0, .slice A0_1 l0_1.length c0_1, .int .i64 a0_2] 32 (0,0)) (kk' BK243.out)):gb243≠gb244));have n6_:=am' ((by rw[hg];exact Nat.ne_of_gt (blk_lt (g:=gb243) (o := .cells #[.int .i64 a0_0, .slice A0_1 l0_1.length c0_1, .int .i64 a0_2] 32 (0,0)) (kk' BK243.out)):gb244≠gb243));clear BK243;clear HB;have BK243:=n0_;have HB:=n1_;have BK244:=n2_;have GW244:=n3_;have GE244:=n4_;have NB243_244:=n5_;have NB244_243:=n6_;clear n0_ n1_ n2_ n3_ n4_ n5_ n6_;clear hb hbox hg)|((with_reducible refine gate_dst (N:=3) rfl ?_);refine box_event ?hg (N:=3) ?hd (cs:=#[.slice none 0 0, .bool false]) (t:=34) ?hr ?_;(case hd=>rfl);(case hg=>rfl);(case hr=>first|(go_simp;done)|(go_simp;rfl));intro gb245 hg w4 hbox hb;have n0_:=am' (bb' (g:=gb243) (o := .cells #[.int .i64 a0_0, .slice A0_1 l0_1.length c0_1, .int .i64 a0_2] 32 (0,0)) (kk' BK243.out) hb);have n1_:=am' (bb' (g:=gb244) (o := .cells #[.slice none 0 0, .bool false] 34 (0,0)) (kk' BK244.out) hb);have n2_:=am' (bt' (y2' GE243.out GE244.out) hb);have n3_:=am' (hbox);have n4_:=am' ((by rw[hg];exact (bz' (y2' GE243.out GE244.out)):w.heap.size≤gb245));have n5_:=am' ((by rw[hg];exact (bz' (y2' GE243.out GE244.out)):w.heap.size≤gb245));have n6_:=am' ((by rw[hg];exact Nat.ne_of_lt (blk_lt (g:=gb243) (o := .cells #[.int .i64 a0_0, .slice A0_1 l0_1.length c0_1, .int .i64 a0_2] 32 (0,0)) (kk' BK243.out)):gb243≠gb245));have n7_:=am' ((by rw[hg];exact Nat.ne_of_gt (blk_lt (g:=gb243) (o := .cells #[.int .i64 a0_0, .slice A0_1 l0_1.length c0_1, .int .i64 a0_2] 32 (0,0)) (kk' BK243.out)):gb245≠gb243));have n8_:=am' ((by rw[hg];exact Nat.ne_of_lt (blk_lt (g:=gb244) (o := .cells #[.slice none 0 0, .bool false] 34 (0,0)) (kk' BK244.out)):gb244≠gb245));have n9_:=am' ((by rw[hg];exact Nat.ne_of_gt (blk_lt (g:=gb244) (o := .cells #[.slice none 0 0, .bool false] 34 (0,0)) (kk' BK244.out)):gb245≠gb244));clear BK243;clear BK244;clear HB;have BK243:=n0_;have BK244:=n1_;have HB:=n2_;have BK245:=n3_;have GW245:=n4_;have GE245:=n5_;have NB243_245:=n6_;have NB245_243:=n7_;have NB244_245:=n8_;have NB245_244:=n9_;clear n0_ n1_ n2_ n3_ n4_ n5_ n6_ n7_ n8_ n9_;clear hb hbox hg;have hnb5:=NB245_243.out;have hnc5:=NB243_245.out;have hnb6:=NB245_244.out;have hnc6:=NB244_245.out;have hcz7_0:w4.cell? ⟨gb245,0,none⟩=some (.slice none 0 0):=(bc' BK245.out 0).trans rfl;have hcz7_1:w4.cell? ⟨gb245,1,none⟩=some (.bool false):=(bc' BK245.out 1).trans rfl;have hfz7_0:=bf' BK245.out 0;have hfz7_1:=bf' BK245.out 1))
 go_loopg [4] k (fun kq v4 w'=>∃ (x4_1:Int) (x246000_1:List Bool) (u246000:Value),v4 = .int .i64 x4_1∧Aside0 (spec_keEnd.l0 kq x4_1 a0_0 l0_1 a0_2 x246000_1 true=some (r1,r2))∧Aside0 (kq≤k)∧Aside0 (Kd.R Kd.bool 4 w' w.heap.size (fun _=>True) u246000 x246000_1)∧Aside0 (w'.heap[gb243]? = some (.cells #[.int .i64 a0_0,(.slice A0_1 l0_1.length c0_1), .int .i64 a0_2] 32 (0,0)))∧Aside0 (w'.heap[gb244]? = some (.cells #[(.slice none 0 0), .bool false] 34 (0,0)))∧Aside0 (w'.heap[gb245]? = some (.cells #[u246000, .bool true] 34 (0,0)))∧Aside0 (Below w.heap.size w w'))
 case atStart=>exact ⟨(0),(([]:List Bool)),(.slice none 0 0),xs',H',⟨Nat.le_refl _⟩,⟨by first|exact Kd.R_nil _ _ _ _ _|exact Kd.N_nil _ _ _ _ _|exact Kd.V_nil _ _ _ _ _|exact Kd.Q_nil _ _ _ _ _|exact Kd.S_nil _ _ _ _ _⟩,⟨by (with_reducible repeat (first|refine kn' ?_ _|refine kd' ?_|refine ka' ?_ _));refine blk_far ?_ NB243_245.out _;(with_reducible repeat (first|refine kn' ?_ _|refine kd' ?_|refine ka' ?_ _));refine blk_far ?_ NB243_245.out _;(with_reducible repeat (first|refine kn' ?_ _|refine kd' ?_|refine ka' ?_ _));exact BK243.out⟩,⟨by (with_reducible repeat (first|refine kn' ?_ _|refine kd' ?_|refine ka' ?_ _));refine blk_far ?_ NB244_245.out _;(with_reducible repeat (first|refine kn' ?_ _|refine kd' ?_|refine ka' ?_ _));refine blk_far ?_ NB244_245.out _;(with_reducible repeat (first|refine kn' ?_ _|refine kd' ?_|refine ka' ?_ _));exact BK244.out⟩,⟨by (with_reducible repeat (first|refine kn' ?_ _|refine kd' ?_|refine ka' ?_ _));refine blk_put (cs:=#[.slice none 0 0, .bool false]) ?_ 1 _ rfl;(with_reducible repeat (first|refine kn' ?_ _|refine kd' ?_|refine ka' ?_ _));refine blk_put (cs:=#[.slice none 0 0, .bool false]) ?_ 0 _ rfl;(with_reducible repeat (first|refine kn' ?_ _|refine kd' ?_|refine ka' ?_ _));exact BK245.out⟩,⟨y3' GE243.out GE244.out GE245.out⟩⟩
 case round =>
  clear H';try clear p2
  try clear c5
  try clear c6
  try clear hcz7_0
  try clear hcz7_1
  try clear hfz7_0
  try clear hfz7_1
  obtain ⟨x4_1,x246000_1,u246000,rfl,HA,HK1,HO_246000,BK243,BK244,BK245,HB⟩:=hrel;cases gk with
  | zero=>exact absurd HA.out (by simp[spec_keEnd.l0])
  | succ k1 =>
   have H:=HA.out;clear HA;simp only[spec_keEnd.l0] at H;by_cases c8:x4_1 < a0_0
   ·
    rw[if_pos c8] at H;have c8b0:decide (x4_1 < a0_0)=true:=dt' c8;clear c8;by_cases c9:x246000_1.length < 140737488355328
    ·
     rw[if_pos c9] at H;have LMc9:=am' c9;clear c9;obtain ⟨y246,hy246⟩:∃ y_:List Bool,y_=(x246000_1 ++ [true]):=⟨_,rfl⟩
     replace H:(spec_keEnd.l0 k1 (wrap64 (x4_1+1)) a0_0 l0_1 a0_2 y246 true)=some (r1,r2):=by first|(rw[hy246];with_reducible exact H)|(have H2_:=(Option.bind_some _ _).symm.trans H;rw[hy246];with_reducible exact H2_)|(have H2_:=(Option.bind_some _ _).symm.trans H;with_reducible exact H2_)|with_reducible exact H|(rw[hy246];exact H)|exact H
     have Ny246:=am' hy246;clear hy246;have H':=am' H;clear H;have hnb10:=NB243_244.out;have hnc10:=NB244_243.out;have hnb11:=NB243_245.out;have hnc11:=NB245_243.out;have hcz12_0:wr.cell? ⟨gb243,0,none⟩=some (.int .i64 a0_0):=(bc' BK243.out 0).trans rfl;have hcz12_1:wr.cell? ⟨gb243,1,none⟩=some (.slice A0_1 l0_1.length c0_1):=(bc' BK243.out 1).trans rfl;have hcz12_2:wr.cell? ⟨gb243,2,none⟩=some (.int .i64 a0_2):=(bc' BK243.out 2).trans rfl;have hfz12_0:=bf' BK243.out 0;have hfz12_1:=bf' BK243.out 1;have hfz12_2:=bf' BK243.out 2;have hnb13:=NB245_244.out;have hnc13:=NB244_245.out;have hcz14_0:wr.cell? ⟨gb245,0,none⟩=some (u246000):=(bc' BK245.out 0).trans rfl;have hcz14_1:wr.cell? ⟨gb245,1,none⟩=some (.bool true):=(bc' BK245.out 1).trans rfl;have hfz14_0:=bf' BK245.out 0;have hfz14_1:=bf' BK245.out 1;go_wp2_with (first|((with_reducible refine gate_builtin (b := .append) (xs:=#[.tmp 13, .tmp 14]) rfl ?_);at_builtin;refine Kd.R_append Kd.bool (w0:=w) w.heap.size rfl (.tmp 13) (.tmp 14) 25 4 (.bool false) 1 rfl Try.underlying25 info4 rfl (by decide) (by omega) u246000 x246000_1 true [.bool true] (fun _=>True) (fun _=>False) rfl rfl ?aP (fun _ hk=>hk.elim) ?aF ?aO ?aB ?aS ?aL ?_;(case aP=>exact rfl);(case aB=>exact (y3' GE243.out GE244.out GE245.out));(case aF=>exact (fun _ _=>trivial));(case aO=>exact (kr' HO_246000.out));(case aS=>exact (bz' (y3' GE243.out GE244.out GE245.out)));(case aL=>have:=LMc9.out;omega);intro v247 w15 ho hb hg hat;rw[← Ny246.out] at ho;have n0_:=am' (blk_grown (g:=gb243) (o := .cells #[.int .i64 a0_0, .slice A0_1 l0_1.length c0_1, .int .i64 a0_2] 32 (0,0)) (kk' BK243.out) hg (Kd.R_ne HO_246000.out BK243.out (by decide)));have n1_:=am' (blk_grown (g:=gb244) (o := .cells #[.slice none 0 0, .bool false] 34 (0,0)) (kk' BK244.out) hg (Kd.R_ne HO_246000.out BK244.out (by decide)));have n2_:=am' (blk_grown (g:=gb245) (o := .cells #[u246000, .bool true] 34 (0,0)) (kk' BK245.out) hg (Kd.R_ne HO_246000.out BK245.out (by decide)));have n3_:=am' (hb);have n4_:=am' (ho);clear BK243;clear BK244;clear BK245;clear HB;clear HO_246000;have BK243:=n0_;have BK244:=n1_;have BK245:=n2_;have HB:=n3_;have HO248:=n4_;clear n0_ n1_ n2_ n3_ n4_;clear ho hb hg hat;obtain ⟨Ao16,co16,eo16⟩:=Kd.R_slice HO248.out;subst eo16;have hcz17_0:w15.cell? ⟨gb245,0,none⟩=some (u246000):=(bc' BK245.out 0).trans rfl;have hcz17_1:w15.cell? ⟨gb245,1,none⟩=some (.bool true):=(bc' BK245.out 1).trans rfl;have hfz17_0:=bf' BK245.out 0;have hfz17_1:=bf' BK245.out 1))
     go_roundg k1
     case measure=>have:=HK1.out;omega
     case rel=>exact ⟨(wrap64 (x4_1+1)),(y246),(.slice Ao16 y246.length co16),xs',H',⟨by have:=HK1.out;omega⟩,⟨by (with_reducible repeat (first|apply ra'|apply rn'|apply rw'));exact Kd.R_mono (Kd.R_far (p:=⟨gb245,0,none⟩) (Kd.R_types HO248.out BK245.out (by decide)) (fun _ hk=>hk.2) (.slice Ao16 y246.length co16)) (fun _ hk=>trivial)⟩,⟨by (with_reducible repeat (first|refine kn' ?_ _|refine kd' ?_|refine ka' ?_ _));refine blk_far ?_ NB243_245.out _;(with_reducible repeat (first|refine kn' ?_ _|refine kd' ?_|refine ka' ?_ _));exact BK243.out⟩,⟨by (with_reducible repeat (first|refine kn' ?_ _|refine kd' ?_|refine ka' ?_ _));refine blk_far ?_ NB244_245.out _;(with_reducible repeat (first|refine kn' ?_ _|refine kd' ?_|refine ka' ?_ _));exact BK244.out⟩,⟨by (with_reducible repeat (first|refine kn' ?_ _|refine kd' ?_|refine ka' ?_ _));refine blk_put (cs:=#[u246000, .bool true]) ?_ 0 _ rfl;(with_reducible repeat (first|refine kn' ?_ _|refine kd' ?_|refine ka' ?_ _));exact BK245.out⟩,⟨y3' GE243.out GE244.out GE245.out⟩⟩
    ·
     rw[if_neg c9] at H;exact absurd H (by simp)
   ·
    rw[if_neg c8] at H;have c8b0:decide (x4_1 < a0_0)=false:=df' c8;clear c8;simp only[Option.some.injEq,Prod.mk.injEq] at H;obtain ⟨rfl,rfl⟩:=H;have hnb18:=NB243_244.out;have hnc18:=NB244_243.out;have hnb19:=NB243_245.out;have hnc19:=NB245_243.out;have hcz20_0:wr.cell? ⟨gb243,0,none⟩=some (.int .i64 a0_0):=(bc' BK243.out 0).trans rfl;have hcz20_1:wr.cell? ⟨gb243,1,none⟩=some (.slice A0_1 l0_1.length c0_1):=(bc' BK243.out 1).trans rfl;have hcz20_2:wr.cell? ⟨gb243,2,none⟩=some (.int .i64 a0_2):=(bc' BK243.out 2).trans rfl;have hfz20_0:=bf' BK243.out 0;have hfz20_1:=bf' BK243.out 1;have hfz20_2:=bf' BK243.out 2;have hnb21:=NB245_244.out;have hnc21:=NB244_245.out;have hcz22_0:wr.cell? ⟨gb245,0,none⟩=some (u246000):=(bc' BK245.out 0).trans rfl;have hcz22_1:wr.cell? ⟨gb245,1,none⟩=some (.bool true):=(bc' BK245.out 1).trans rfl;have hfz22_0:=bf' BK245.out 0;have hfz22_1:=bf' BK245.out 1;obtain ⟨Ao23,co23,eo23⟩:=Kd.R_slice HO_246000.out;subst eo23;have hcz24_0:wr.cell? ⟨gb244,0,none⟩=some (.slice none 0 0):=(bc' BK244.out 0).trans rfl;have hcz24_1:wr.cell? ⟨gb244,1,none⟩=some (.bool false):=(bc' BK244.out 1).trans rfl;have hfz24_0:=bf' BK244.out 0;have hfz24_1:=bf' BK244.out 1;go_wp2;refine bodyPost_ret (results_cell_row rfl _ _ gb244 34 #[.slice Ao23 x246000_1.length co23, .bool true] (0,0) _ rfl (by (with_reducible repeat (first|refine kn' ?_ _|refine kd' ?_|refine ka' ?_ _));refine blk_put (cs:=#[.slice Ao23 x246000_1.length co23, .bool false]) ?_ 1 _ rfl;(with_reducible repeat (first|refine kn' ?_ _|refine kd' ?_|refine ka' ?_ _));refine blk_put (cs:=#[.slice none 0 0, .bool false]) ?_ 0 _ rfl;(with_reducible repeat (first|refine kn' ?_ _|refine kd' ?_|refine ka' ?_ _));exact BK244.out) Try.underlying34 rfl xk') rfl ?_
    exact ⟨_,by first|rfl|(simp[errW_none,errW_some] <;> rfl)|(simp[*,errW_none,errW_some] <;> rfl),by (with_reducible repeat (first|apply ra'|apply rn'|apply rw'));exact Kd.R_mono (Kd.R_far (p:=⟨gb244,1,none⟩) (Kd.R_far (p:=⟨gb244,0,none⟩) (Kd.R_types HO_246000.out BK244.out (by decide)) (fun _ hk=>hk.2) (.slice Ao23 x246000_1.length co23)) (fun _ hk=>hk.2) (.bool true)) (fun _ hk=>trivial),y3' GE243.out GE244.out GE245.out⟩
def spec_seState.l0:Nat→Int→Int→Int→Int→List Bool→Bool→Option (List Bool × Bool)
 | 0,_,_,_,_,_,_=>none
 | k+1,x0,x1,x16,x17,x254000,x254001=>if x17 < x16 then (if 0≤(wrap64 ((wrap64 (x1 - 1)) - x17)) then (if 0≤x17 then (if x17 < (x254000.length:Int) then (spec_seState.l0 k x0 x1 x16 (wrap64 (x17+1)) (x254000.set (x17:Int).toNat ((Go.bits .and .i64 (shr .i64 x0 (wrap64 ((wrap64 (x1 - 1)) - x17))) 1) == 1)) x254001) else (none)) else (none)) else (none)) else (some (x254000,x254001))
def spec_seState.f (k:Nat) (a0:Int) (a1:Int):Option (List Bool × Bool):=if 0≤a1 then (if (a1:Int).toNat≤281474976710656 then ((some (List.replicate (a1:Int).toNat false:List Bool)).bind fun y250=>(spec_seState.l0 k a0 a1 (y250.length:Int) 0 y250 ((shr .i64 a0 a1) == 1))) else (none)) else (none)
theorem spec_seState.mono_l:∀ k,(∀ y0 y1 y2 y3 y4 y5,LeO (spec_seState.l0 k y0 y1 y2 y3 y4 y5) (spec_seState.l0 (k+1) y0 y1 y2 y3 y4 y5))
 | 0=>fun _ _ _ _ _ _ r h=>by simp[spec_seState.l0] at h
 | k+1=>by
  have ih0:=spec_seState.mono_l k
  ·
   intro y0 y1 y2 y3 y4 y5;unfold spec_seState.l0
   repeat' first
   | (with_reducible exact ih0 _ _ _ _ _ _)
   | (with_reducible exact LeO.refl _)
   | (with_reducible exact LeO.none _)
   | (with_reducible refine LeO.ite ?_ ?_)
   | (with_reducible refine LeO.bind ?_ (fun _=>?_))
   | exact ih0 _ _ _ _ _ _
   | exact LeO.none _
   | refine LeO.ite ?_ ?_
   | refine LeO.bind ?_ (fun _=>?_)
theorem spec_seState.mono:∀ a0 a1 k,LeO (spec_seState.f k a0 a1) (spec_seState.f (k+1) a0 a1):=by
 intro a0 a1 k;have ih0:=spec_seState.mono_l k
 unfold spec_seState.f
 repeat' first
   | (with_reducible exact ih0 _ _ _ _ _ _)
   | (with_reducible exact LeO.refl _)
   | (with_reducible exact LeO.none _)
   | (with_reducible refine LeO.ite ?_ ?_)
   | (with_reducible refine LeO.bind ?_ (fun _=>?_))
   | exact ih0 _ _ _ _ _ _
   | exact LeO.none _
   | refine LeO.ite ?_ ?_
   | refine LeO.bind ?_ (fun _=>?_)
def spec_seState.T1:Bool × List (List Nat × List Nat):=(true,[([],[]),([0,0],[0]),([],[]),([],[]),([2,3],[2,3]),([4],[4]),([1,5],[1,5]),([],[]),([7,6,0,1,2,3,4,5,6,7],[6,7])])
def spec_seState.B1:List Nat:=[0,1,0,0,12,28,63,0,255]
theorem spec_seState.tab1:rtab .any (opsOf Try.f113 1)=spec_seState.T1:=by kernel_rfl
theorem spec_seState.bits1:waitsOk spec_seState.T1.2 spec_seState.B1=true:=by kernel_rfl
def spec_seState.T5:Bool × List (List Nat × List Nat):=(true,[([],[]),([0],[0]),([],[]),([],[]),([],[]),([4],[4]),([],[]),([5,6],[5,6]),([3,7],[3,7]),([8],[8]),([9],[9]),([1,2,0,1,2,3,4,5,6,7,8,9,10],[1,2]),([11,10,0,1,2,3,4,5,6,7,8,9,10],[10,11])])
def spec_seState.B5:List Nat:=[0,1,0,0,0,16,0,112,248,504,1016,2047,4095]
theorem spec_seState.tab5:rtab .any (opsOf Try.f113 5)=spec_seState.T5:=by kernel_rfl
theorem spec_seState.bits5:waitsOk spec_seState.T5.2 spec_seState.B5=true:=by kernel_rfl
set_option maxHeartbeats 8000000 in
set_option maxRecDepth 100000 in
theorem spec_seState.calls (k:Nat) (a0:Int) (a1:Int) (r1:List Bool) (r2:Bool) (w:World) (h:spec_seState.f k a0 a1=some (r1,r2)) :
  Calls Try.prog 113 #[.int .i64 a0, .int .i64 a1] w fun e w'=>∃ v0_:Value,e = .returned (.agg #[v0_, .bool r2])∧Kd.R Kd.bool 4 w' w.heap.size (fun _=>True) v0_ r1∧Below w.heap.size w w':=by
 have hu73:=Try.underlying73
 have HB:=am' (Below.refl w.heap.size w)
 have H:(if 0≤a1 then (if (a1:Int).toNat≤281474976710656 then ((some (List.replicate (a1:Int).toNat false:List Bool)).bind fun y250=>(spec_seState.l0 k a0 a1 (y250.length:Int) 0 y250 ((shr .i64 a0 a1) == 1))) else (none)) else (none))=some (r1,r2):=h
 clear h;by_cases c3:0≤a1
 ·
  rw[if_pos c3] at H;have c3b0:=eq_true c3;have c3b1:decide (0≤a1)=true:=dt' c3;clear c3;by_cases c4:(a1:Int).toNat≤281474976710656
  ·
   rw[if_pos c4] at H;have c4b0:=eq_true c4;have c4b1:decide ((a1:Int).toNat≤281474976710656)=true:=dt' c4;clear c4;obtain ⟨y250,hy250⟩:∃ y_:List Bool,y_=(List.replicate (a1:Int).toNat false):=⟨_,rfl⟩
   replace H:(spec_seState.l0 k a0 a1 (y250.length:Int) 0 y250 ((shr .i64 a0 a1) == 1))=some (r1,r2):=by first|(rw[hy250];with_reducible exact H)|(have H2_:=(Option.bind_some _ _).symm.trans H;rw[hy250];with_reducible exact H2_)|(have H2_:=(Option.bind_some _ _).symm.trans H;with_reducible exact H2_)|with_reducible exact H|(rw[hy250];exact H)|exact H
   have Ny250:=am' hy250;clear hy250;have c5b0:=eq_true (od' xa':0≤a1);obtain ⟨ji6,hji6⟩:∃ j_:Int,(shr .i64 a0 a1)=j_:=⟨_,rfl⟩
   replace H:(spec_seState.l0 k a0 a1 (y250.length:Int) 0 y250 ((ji6) == 1))=some (r1,r2):=by first|(rw[hji6] at H;exact H)|(simp only[hji6] at H ⊢;exact H)
   have hji6_:(a0 / 2 ^ min a1.toNat 64)=ji6:=hji6;have hji6z:a1≤64→(a0 / 2 ^ a1.toNat)=ji6:=shr_small hji6;have H':=am' H;clear H;go_enter Try.func113,Try.ntmps113
   try go_wp2_with (first|((with_reducible refine gate_dst (N:=4) rfl ?_);refine box_event ?hg (N:=4) ?hd (cs:=#[.slice none 0 0, .bool false]) (t:=73) ?hr ?_;(case hd=>rfl);(case hg=>rfl);(case hr=>first|(go_simp;done)|(go_simp;rfl));intro gb249 hg w7 hbox hb;have n0_:=am' (bt' xb' hb);have n1_:=am' (hbox);have n2_:=am' ((by rw[hg];exact (bz' xb'):w.heap.size≤gb249));have n3_:=am' ((by rw[hg];exact (bz' xb'):w.heap.size≤gb249));clear HB;have HB:=n0_;have BK249:=n1_;have GW249:=n2_;have GE249:=n3_;clear n0_ n1_ n2_ n3_;clear hb hbox hg))
   have n0_:=am' (kd' BK249.out);have n1_:=am' (be' HB.out);clear BK249;clear HB;have BK249:=n0_;have HB:=n1_;clear n0_ n1_;refine start_ (n:=9) (S:=fun w'=>True) (ds:=[]) #[false,false,false,false,false,false,false,false,false] xk' rfl rfl trivial (fun hHeld=>?_);refine with_tabW spec_seState.tab1 spec_seState.bits1 (fun HT_ HW_=>?_);generalize w7.drew=w8 at BK249 HB hHeld ⊢
   refine pure_ (i:=0) (N:=some 7) (v:=?_) (a':=?_) #[true,false,false,false,false,false,false,false,false] rfl rfl (any_of HT_.out xk') (fun _ _ _ h=>h) (Or.inl ⟨by rfl,?_⟩) ?_ ?_
   rotate_left
   ·
    intro w';go_simp;with_reducible rfl
   rotate_left
   ·
    simp only[Act.put,sa',sb',sc',i64_w,i32_w];rfl
   refine pure_ (i:=2) (N:=some 9) (v:=?_) (a':=?_) #[true,false,true,false,false,false,false,false,false] rfl rfl (any_of HT_.out xk') (fun _ _ _ h=>h) (Or.inl ⟨by rfl,?_⟩) ?_ ?_
   rotate_left
   ·
    intro w';go_simp;with_reducible rfl
   rotate_left
   ·
    simp only[Act.put,sa',sb',sc',i64_w,i32_w];rfl
   refine pure_ (i:=3) (N:=some 10) (v:=?_) (a':=?_) #[true,false,true,true,false,false,false,false,false] rfl rfl (any_of HT_.out xk') (fun _ _ _ h=>h) (Or.inl ⟨by rfl,?_⟩) ?_ ?_
   rotate_left
   ·
    intro w';go_simp;with_reducible rfl
   rotate_left
   ·
    simp only[Act.put,sa',sb',sc',i64_w,i32_w];rfl
   refine pure_ (i:=4) (N:=some 11) (v:=?_) (a':=?_) #[true,false,true,true,true,false,false,false,false] rfl rfl (any_of HT_.out xk') (fun _ _ _ h=>h) (Or.inl ⟨by rfl,?_⟩) ?_ ?_
   rotate_left
   ·
    intro w';go_simp;with_reducible rfl
   rotate_left
   ·
    simp only[Act.put,sa',sb',sc',i64_w,i32_w];rfl
   refine pure_ (i:=5) (N:=some 12) (v:=?_) (a':=?_) #[true,false,true,true,true,true,false,false,false] rfl rfl (any_of HT_.out xk') (fun _ _ _ h=>h) (Or.inl ⟨by rfl,?_⟩) ?_ ?_
   rotate_left
   ·
    intro w';go_simp;with_reducible rfl
   rotate_left
   ·
    simp only[Act.put,sa',sb',sc',i64_w,i32_w];rfl
   refine join_ (σ:=Value × Nat) 1 #[true,true,true,true,true,true,true,true,false] (fun s_=>[(8,s_.1),(5, .pointer (some ⟨s_.2,0,none⟩)),(13, .agg #[s_.1, .bool ((ji6) == 1)])]) (fun s_ w'=>(Kd.R Kd.bool 4 w' w.heap.size (fun _=>True) s_.1 y250)∧(w'.heap[gb249]? = some (.cells #[.slice none 0 0, .bool false] 73 (0,0)))∧(w'.heap[s_.2]? = some (.cells #[.slice none 0 0, .bool false] 73 (0,0)))∧(w.heap.size≤s_.2)∧(w.heap.size≤s_.2)∧(gb249≠s_.2)∧(s_.2≠gb249)∧(Below w.heap.size w w')) ?_ ?_
   rotate_left
   ·
    intro hCont;refine two_ (i:=1) (j:=7) (Ni:=some 8) (Nj:=some 5) #[true,true,true,true,true,true,false,false,false] #[true,false,true,true,true,true,false,true,false] rfl rfl rfl rfl (two_of HT_.out xk') (by decide) (by decide) (fun K hK=>?_) (fun K hK=>?_)
    ·
     skip
     refine Kd.R_make_step Kd.bool _ 4 (by rfl) (N:=8) rfl 25 _ _ rfl a1 rfl rfl Try.underlying25 (.bool false) 1 info4 rfl (by decide) (by omega) false (ok:=fun _=>True) (okp:=fun _=>True) rfl (fun _ hk=>hk) trivial (od' xa') (Nat.le_trans (Nat.mul_le_mul_right _ (od' xa':a1.toNat≤281474976710656)) (by omega)) (Below.refl _ _) (Nat.le_refl _) ?_
     intro v251 w9 ho10 hb hg_ hnew_;clear hg_ hnew_;(first|rw[← Ny250.out] at ho10|(simp only[Int.reduceToNat] at ho10;rw[← Ny250.out] at ho10))
     have n0_:=am' (Kd.R_lower ho10 (bz' (yb' GE249.out)));have n1_:=am' (bb' (g:=gb249) (o := .cells #[.slice none 0 0, .bool false] 73 (0,0)) (kk' BK249.out) hb);have n2_:=am' (bt' (yb' GE249.out) hb);clear BK249;clear HB;have HO252:=n0_;have BK249:=n1_;have HB:=n2_;clear n0_ n1_ n2_;clear hb ho10;obtain ⟨Ao11,co11,eo11⟩:=Kd.R_slice HO252.out
     (first|subst eo11|(injection eo11 with f1_ f2_ f3_;have f4_:=f1_.symm;have f5_:=f3_.symm;clear f1_ f2_ f3_;subst f4_;subst f5_))
     refine hK.out _ _ trivial (fun hHeld=>?_);clear hK K;refine norm_ (a':=?_) ?_ ?_
     rotate_left
     ·
      show Act.put _ (some 8) _=_
      simp only[Act.put,sa',sb',sc',i64_w,i32_w];rfl
     refine pure_ (i:=6) (N:=some 13) (v:=?_) (a':=?_) #[true,true,true,true,true,true,true,false,false] rfl rfl (any_of HT_.out xk') (fun _ _ _ h=>h) (Or.inl ⟨by rfl,?_⟩) ?_ ?_
     rotate_left
     ·
      intro w';go_simp;with_reducible rfl
     rotate_left
     ·
      simp only[Act.put,sa',sb',sc',i64_w,i32_w];rfl
     refine one_ (i:=7) (N:=some 5) #[true,true,true,true,true,true,true,true,false] rfl rfl (one_of HT_.out xk') (by decide) (fun K hK=>?_);refine box_step ?hg (N:=5) ?hd (cs:=#[.slice none 0 0, .bool false]) (t:=73) ?hr ?_;(case hd=>rfl);(case hg=>rfl);(case hr=>first|(go_simp;done)|(go_simp;rfl))
     intro gb253 hg w12 hbox hb;have n0_:=am' (rb' (kr' HO252.out) hb);have n1_:=am' (bb' (g:=gb249) (o := .cells #[.slice none 0 0, .bool false] 73 (0,0)) (kk' BK249.out) hb);have n2_:=am' (bt' (yb' GE249.out) hb);have n3_:=am' (hbox);have n4_:=am' ((by rw[hg];exact (bz' (yb' GE249.out)):w.heap.size≤gb253));have n5_:=am' ((by rw[hg];exact (bz' (yb' GE249.out)):w.heap.size≤gb253));have n6_:=am' ((by rw[hg];exact Nat.ne_of_lt (blk_lt (g:=gb249) (o := .cells #[.slice none 0 0, .bool false] 73 (0,0)) (kk' BK249.out)):gb249≠gb253));have n7_:=am' ((by rw[hg];exact Nat.ne_of_gt (blk_lt (g:=gb249) (o := .cells #[.slice none 0 0, .bool false] 73 (0,0)) (kk' BK249.out)):gb253≠gb249));clear HO252;clear BK249;clear HB;have HO252:=n0_;have BK249:=n1_;have HB:=n2_;have BK253:=n3_;have GW253:=n4_;have GE253:=n5_;have NB249_253:=n6_;have NB253_249:=n7_;clear n0_ n1_ n2_ n3_ n4_ n5_ n6_ n7_;clear hb hbox hg;refine hK.out _ _ trivial (fun hHeld=>?_);clear hK K;refine norm_ (a':=?_) ?_ ?_
     rotate_left
     ·
      show Act.put _ (some 5) _=_
      simp only[Act.put,sa',sb',sc',i64_w,i32_w];rfl
     exact norm_ (by simp only[putAll,Act.put,sa',sb',sc']) (hCont (.slice Ao11 y250.length co11,gb253) _ ⟨(kr' HO252.out),(kk' BK249.out),(kk' BK253.out),GW253.out,GE253.out,NB249_253.out,NB253_249.out,(y2' GE249.out GE253.out)⟩)
    ·
     skip
     refine box_step ?hg (N:=5) ?hd (cs:=#[.slice none 0 0, .bool false]) (t:=73) ?hr ?_;(case hd=>rfl);(case hg=>rfl);(case hr=>first|(go_simp;done)|(go_simp;rfl))
     intro gb253 hg w9 hbox hb;have n0_:=am' (bb' (g:=gb249) (o := .cells #[.slice none 0 0, .bool false] 73 (0,0)) (kk' BK249.out) hb);have n1_:=am' (bt' (yb' GE249.out) hb);have n2_:=am' (hbox);have n3_:=am' ((by rw[hg];exact (bz' (yb' GE249.out)):w.heap.size≤gb253));have n4_:=am' ((by rw[hg];exact (bz' (yb' GE249.out)):w.heap.size≤gb253));have n5_:=am' ((by rw[hg];exact Nat.ne_of_lt (blk_lt (g:=gb249) (o := .cells #[.slice none 0 0, .bool false] 73 (0,0)) (kk' BK249.out)):gb249≠gb253));have n6_:=am' ((by rw[hg];exact Nat.ne_of_gt (blk_lt (g:=gb249) (o := .cells #[.slice none 0 0, .bool false] 73 (0,0)) (kk' BK249.out)):gb253≠gb249));clear BK249;clear HB;have BK249:=n0_;have HB:=n1_;have BK253:=n2_;have GW253:=n3_;have GE253:=n4_;have NB249_253:=n5_;have NB253_249:=n6_;clear n0_ n1_ n2_ n3_ n4_ n5_ n6_;clear hb hbox hg;refine hK.out _ _ trivial (fun hHeld=>?_);clear hK K;refine norm_ (a':=?_) ?_ ?_
     rotate_left
     ·
      show Act.put _ (some 5) _=_
      simp only[Act.put,sa',sb',sc',i64_w,i32_w];rfl
     refine one_ (i:=1) (N:=some 8) #[true,true,true,true,true,true,false,true,false] rfl rfl (one_of HT_.out xk') (by decide) (fun K hK=>?_);refine Kd.R_make_step Kd.bool _ 4 (by rfl) (N:=8) rfl 25 _ _ rfl a1 rfl rfl Try.underlying25 (.bool false) 1 info4 rfl (by decide) (by omega) false (ok:=fun _=>True) (okp:=fun _=>True) rfl (fun _ hk=>hk) trivial (od' xa') (Nat.le_trans (Nat.mul_le_mul_right _ (od' xa':a1.toNat≤281474976710656)) (by omega)) (Below.refl _ _) (Nat.le_refl _) ?_
     intro v251 w10 ho11 hb hg_ hnew_;clear hg_ hnew_;(first|rw[← Ny250.out] at ho11|(simp only[Int.reduceToNat] at ho11;rw[← Ny250.out] at ho11))
     have n0_:=am' (Kd.R_lower ho11 (bz' (y2' GE249.out GE253.out)));have n1_:=am' (bb' (g:=gb249) (o := .cells #[.slice none 0 0, .bool false] 73 (0,0)) (kk' BK249.out) hb);have n2_:=am' (bb' (g:=gb253) (o := .cells #[.slice none 0 0, .bool false] 73 (0,0)) (kk' BK253.out) hb);have n3_:=am' (bt' (y2' GE249.out GE253.out) hb);clear BK249;clear BK253;clear HB;have HO252:=n0_;have BK249:=n1_;have BK253:=n2_;have HB:=n3_;clear n0_ n1_ n2_ n3_;clear hb ho11;obtain ⟨Ao12,co12,eo12⟩:=Kd.R_slice HO252.out
     (first|subst eo12|(injection eo12 with f1_ f2_ f3_;have f4_:=f1_.symm;have f5_:=f3_.symm;clear f1_ f2_ f3_;subst f4_;subst f5_))
     refine hK.out _ _ trivial (fun hHeld=>?_);clear hK K;refine norm_ (a':=?_) ?_ ?_
     rotate_left
     ·
      show Act.put _ (some 8) _=_
      simp only[Act.put,sa',sb',sc',i64_w,i32_w];rfl
     refine pure_ (i:=6) (N:=some 13) (v:=?_) (a':=?_) #[true,true,true,true,true,true,true,true,false] rfl rfl (any_of HT_.out xk') (fun _ _ _ h=>h) (Or.inl ⟨by rfl,?_⟩) ?_ ?_
     rotate_left
     ·
      intro w';go_simp;with_reducible rfl
     rotate_left
     ·
      simp only[Act.put,sa',sb',sc',i64_w,i32_w];rfl
     exact norm_ (by simp only[putAll,Act.put,sa',sb',sc']) (hCont (.slice Ao12 y250.length co12,gb253) _ ⟨(kr' HO252.out),(kk' BK249.out),(kk' BK253.out),GW253.out,GE253.out,NB249_253.out,NB253_249.out,(y2' GE249.out GE253.out)⟩)
   rintro ⟨v251,gb253⟩ w13 ⟨h0_,h1_,h2_,h3_,h4_,h5_,h6_,h7_⟩
   have n0_:Aside0 (Kd.R Kd.bool 4 w13 w.heap.size (fun _=>True) v251 y250):=⟨h0_⟩
   have n1_:Aside0 (w13.heap[gb249]? = some (.cells #[.slice none 0 0, .bool false] 73 (0,0))):=⟨h1_⟩
   have n2_:Aside0 (w13.heap[gb253]? = some (.cells #[.slice none 0 0, .bool false] 73 (0,0))):=⟨h2_⟩
   have n3_:Aside0 (w.heap.size≤gb253):=⟨h3_⟩
   have n4_:Aside0 (w.heap.size≤gb253):=⟨h4_⟩
   have n5_:Aside0 (gb249≠gb253):=⟨h5_⟩
   have n6_:Aside0 (gb253≠gb249):=⟨h6_⟩
   have n7_:Aside0 (Below w.heap.size w w13):=⟨h7_⟩
   clear BK249;clear HB;clear h0_ h1_ h2_ h3_ h4_ h5_ h6_ h7_;have HO252:=n0_;have BK249:=n1_;have BK253:=n2_;have GW253:=n3_;have GE253:=n4_;have NB249_253:=n5_;have NB253_249:=n6_;have HB:=n7_;clear n0_ n1_ n2_ n3_ n4_ n5_ n6_ n7_;have hHeld:=trivial;obtain ⟨Ao14,co14,eo14⟩:=Kd.R_slice HO252.out
   (first|subst eo14|(injection eo14 with f1_ f2_ f3_;have f4_:=f1_.symm;have f5_:=f3_.symm;clear f1_ f2_ f3_;subst f4_;subst f5_))
   refine norm_ (a':=?_) ?_ ?_
   rotate_left
   ·
    simp only[putAll,Act.put,sa',sb',sc'];rfl
   refine one_ (i:=8) (N:=none) #[true,true,true,true,true,true,true,true,true] rfl rfl (one_of HT_.out xk') (by decide) (fun K hK=>?_);have hs15:w13.cell? ⟨gb253,0,none⟩=some (.slice none 0 0):=(bc' BK253.out 0).trans rfl;have hfs15:=bf' BK253.out 0;have hns15_0:=NB249_253.out;have hms15_0:=NB253_249.out;have hs16:w13.cell? ⟨gb253,1,none⟩=some (.bool false):=(bc' BK253.out 1).trans rfl;have hfs16:=bf' BK253.out 1;have hns16_0:=NB249_253.out;have hms16_0:=NB253_249.out;refine skip_ (w1:=?_) (by rfl) rfl ?_ ?_
   rotate_left
   ·
    go_simp;rfl
   refine hK.out _ _ trivial (fun hHeld=>?_);clear hK K;refine done_ (done_of HT_.out xk') ?_
   have hnb17:=NB253_249.out;have hnc17:=NB249_253.out;have hcz18_0:w13.cell? ⟨gb253,0,none⟩=some (.slice none 0 0):=(bc' BK253.out 0).trans rfl;have hcz18_1:w13.cell? ⟨gb253,1,none⟩=some (.bool false):=(bc' BK253.out 1).trans rfl;have hfz18_0:=bf' BK253.out 0;have hfz18_1:=bf' BK253.out 1
   try go_wp2
   go_loopg [17] k (fun kq v17 w'=>∃ (x17_1:Int) (x254000_1:List Bool) (u254000:Value),v17 = .int .i64 x17_1∧Aside0 (spec_seState.l0 kq a0 a1 (y250.length:Int) x17_1 x254000_1 ((ji6) == 1)=some (r1,r2))∧Aside0 (kq≤k)∧Aside0 (Kd.R Kd.bool 4 w' w.heap.size (fun _=>True) u254000 x254000_1)∧Aside0 (w'.heap[gb249]? = some (.cells #[(.slice none 0 0), .bool false] 73 (0,0)))∧Aside0 (w'.heap[gb253]? = some (.cells #[u254000, .bool ((ji6) == 1)] 73 (0,0)))∧Aside0 (Below w.heap.size w w'))
   case atStart=>exact ⟨(0),(y250),(.slice Ao14 y250.length co14),xs',H',⟨Nat.le_refl _⟩,⟨by (with_reducible repeat (first|apply ra'|apply rn'|apply rw'));exact Kd.R_mono (Kd.R_far (p:=⟨gb253,1,none⟩) (Kd.R_far (p:=⟨gb253,0,none⟩) (Kd.R_types HO252.out BK253.out (by decide)) (fun _ hk=>hk.2) (.slice Ao14 y250.length co14)) (fun _ hk=>hk.2) (.bool ((ji6) == 1))) (fun _ hk=>trivial)⟩,⟨by (with_reducible repeat (first|refine kn' ?_ _|refine kd' ?_|refine ka' ?_ _));refine blk_far ?_ NB249_253.out _;(with_reducible repeat (first|refine kn' ?_ _|refine kd' ?_|refine ka' ?_ _));refine blk_far ?_ NB249_253.out _;(with_reducible repeat (first|refine kn' ?_ _|refine kd' ?_|refine ka' ?_ _));exact BK249.out⟩,⟨by (with_reducible repeat (first|refine kn' ?_ _|refine kd' ?_|refine ka' ?_ _));refine blk_put (cs:=#[.slice Ao14 y250.length co14, .bool false]) ?_ 1 _ rfl;(with_reducible repeat (first|refine kn' ?_ _|refine kd' ?_|refine ka' ?_ _));refine blk_put (cs:=#[.slice none 0 0, .bool false]) ?_ 0 _ rfl;(with_reducible repeat (first|refine kn' ?_ _|refine kd' ?_|refine ka' ?_ _));exact BK253.out⟩,⟨y2' GE249.out GE253.out⟩⟩
   case round =>
    clear H';try clear c1
    try clear p2
    try clear c3
    try clear c3b0
    try clear c3b1
    try clear c4
    try clear c4b0
    try clear c4b1
    try clear c5
    try clear c5b0
    try clear c11
    try clear c17
    try clear hcz18_0
    try clear hcz18_1
    try clear hfz18_0
    try clear hfz18_1
    obtain ⟨x17_1,x254000_1,u254000,rfl,HA,HK1,HO_254000,BK249,BK253,HB⟩:=hrel;cases gk with
    | zero=>exact absurd HA.out (by simp[spec_seState.l0])
    | succ k1 =>
     have H:=HA.out;clear HA;simp only[spec_seState.l0] at H;by_cases c19:x17_1 < (y250.length:Int)
     ·
      rw[if_pos c19] at H;have c19b0:decide (x17_1 < (y250.length:Int))=true:=dt' c19;clear c19;obtain ⟨ji20,hji20⟩:∃ j_:Int,(wrap64 ((wrap64 (a1 - 1)) - x17_1))=j_:=⟨_,rfl⟩
      replace H:(if 0≤(ji20) then (if 0≤x17_1 then (if x17_1 < (x254000_1.length:Int) then (spec_seState.l0 k1 a0 a1 (y250.length:Int) (wrap64 (x17_1+1)) (x254000_1.set (x17_1:Int).toNat ((Go.bits .and .i64 (shr .i64 a0 (ji20)) 1) == 1)) ((ji6) == 1)) else (none)) else (none)) else (none))=some (r1,r2):=by first|(rw[hji20] at H;exact H)|(simp only[hji20] at H ⊢;exact H)
      have hji20w:(IntKind.i64.wrap ((wrap64 (a1 - 1)) - x17_1))=ji20:=(i64_w _).trans hji20;by_cases c21:0≤(ji20)
      ·
       rw[if_pos c21] at H;have c21b0:=eq_true c21;have c21b1:decide (0≤(ji20))=true:=dt' c21;clear c21;obtain ⟨ji22,hji22⟩:∃ j_:Int,(shr .i64 a0 (ji20))=j_:=⟨_,rfl⟩
       replace H:(if 0≤x17_1 then (if x17_1 < (x254000_1.length:Int) then (spec_seState.l0 k1 a0 a1 (y250.length:Int) (wrap64 (x17_1+1)) (x254000_1.set (x17_1:Int).toNat ((Go.bits .and .i64 (ji22) 1) == 1)) ((ji6) == 1)) else (none)) else (none))=some (r1,r2):=by first|(rw[hji22] at H;exact H)|(simp only[hji22] at H ⊢;exact H)
       have hji22_:(a0 / 2 ^ min (ji20).toNat 64)=ji22:=hji22;have hji22z:(ji20)≤64→(a0 / 2 ^ (ji20).toNat)=ji22:=shr_small hji22;by_cases c23:0≤x17_1
       ·
        rw[if_pos c23] at H;have c23b0:decide (0≤x17_1)=true:=dt' c23;clear c23;by_cases c24:x17_1 < (x254000_1.length:Int)
        ·
         rw[if_pos c24] at H;have c24b0:decide (x17_1 < (x254000_1.length:Int))=true:=dt' c24;clear c24;obtain ⟨y254,hy254⟩:∃ y_:List Bool,y_=(x254000_1.set (x17_1:Int).toNat ((Go.bits .and .i64 (ji22) 1) == 1)):=⟨_,rfl⟩
         replace H:(spec_seState.l0 k1 a0 a1 (y250.length:Int) (wrap64 (x17_1+1)) y254 ((ji6) == 1))=some (r1,r2):=by first|(rw[hy254];with_reducible exact H)|(have H2_:=(Option.bind_some _ _).symm.trans H;rw[hy254];with_reducible exact H2_)|(have H2_:=(Option.bind_some _ _).symm.trans H;with_reducible exact H2_)|with_reducible exact H|(rw[hy254];exact H)|exact H
         have Ny254:=am' hy254;clear hy254;have H':=am' H;clear H;try go_wp2
         have n0_:=am' (rw' HO_254000.out);have n1_:=am' (kd' BK249.out);have n2_:=am' (kd' BK253.out);have n3_:=am' (be' HB.out);clear HO_254000;clear BK249;clear BK253;clear HB;have HO_254000:=n0_;have BK249:=n1_;have BK253:=n2_;have HB:=n3_;clear n0_ n1_ n2_ n3_;have p25:0≤(x17_1:Int):=od' xa';have q25:(x17_1:Int) < ((x254000_1.length:Int):Int):=od' xa';obtain ⟨go25,co25,eo25,gb25,gl25,cl25,HG25⟩:=Kd.R_form HO_254000.out (by omega)
         (first|cases eo25|(injection eo25 with ea_ en_ ec_;(first|subst ea_|(injection ea_ with ea_;subst ea_));subst ec_;clear en_))
         have GB25:=am' gb25;have GG25:=am' HG25;clear gb25 gl25 HG25;obtain ⟨hx25_0,hf25_0⟩:=Kd.R_celln false HO_254000.out (x17_1:Int) p25 q25;replace p25:=eq_true p25;replace q25:=eq_true q25;have HP27:=Kd.R_putn HO_254000.out (x17_1:Int) ((Go.bits .and .i64 (ji22) 1) == 1);rw[← Ny254.out] at HP27;have HQ27:=am' HP27;clear HP27;refine start_ (n:=13) (S:=fun w'=>w'.cell? ⟨gb253,0,none⟩=some (.slice (some ⟨go25,0,none⟩) x254000_1.length co25)∧w'.cell? ⟨gb253,1,none⟩=some (.bool ((ji6) == 1))) (ds:=[12]) #[false,false,false,false,false,false,false,false,false,false,false,false,false] xk' rfl rfl ⟨(bc' BK253.out 0).trans rfl,(bc' BK253.out 1).trans rfl⟩ (fun hHeld=>?_);refine with_tabW spec_seState.tab5 spec_seState.bits5 (fun HT_ HW_=>?_);generalize wr.drew=w26 at HO_254000 BK249 BK253 HB GG25 HQ27 hf25_0 hx25_0 hHeld ⊢
         refine pure_ (i:=0) (N:=some 20) (v:=?_) (a':=?_) #[true,false,false,false,false,false,false,false,false,false,false,false,false] rfl rfl (any_of HT_.out xk') (fun _ _ _ h=>h) (Or.inl ⟨by rfl,?_⟩) ?_ ?_
         rotate_left
         ·
          intro w';go_simp;with_reducible rfl
         rotate_left
         ·
          simp only[Act.put,sa',sb',sc',i64_w,i32_w];rfl
         refine pure_ (i:=2) (N:=some 22) (v:=?_) (a':=?_) #[true,false,true,false,false,false,false,false,false,false,false,false,false] rfl rfl (any_of HT_.out xk') (fun _ _ _ h=>h) (Or.inl ⟨by rfl,?_⟩) ?_ ?_
         rotate_left
         ·
          intro w';go_simp;with_reducible rfl
         rotate_left
         ·
          simp only[Act.put,sa',sb',sc',i64_w,i32_w];rfl
         refine pure_ (i:=3) (N:=some 23) (v:=?_) (a':=?_) #[true,false,true,true,false,false,false,false,false,false,false,false,false] rfl rfl (any_of HT_.out xk') (fun _ _ _ h=>h) (Or.inl ⟨by rfl,?_⟩) ?_ ?_
         rotate_left
         ·
          intro w';go_simp;with_reducible rfl
         rotate_left
         ·
          simp only[Act.put,sa',sb',sc',i64_w,i32_w];rfl
         refine pure_ (i:=4) (N:=some 24) (v:=?_) (a':=?_) #[true,false,true,true,true,false,false,false,false,false,false,false,false] rfl rfl (any_of HT_.out xk') (fun _ _ _ h=>h) (Or.inl ⟨by rfl,?_⟩) ?_ ?_
         rotate_left
         ·
          intro w';go_simp;with_reducible rfl
         rotate_left
         ·
          simp only[Act.put,sa',sb',sc',i64_w,i32_w];rfl
         refine pure_ (i:=5) (N:=some 25) (v:=?_) (a':=?_) #[true,false,true,true,true,true,false,false,false,false,false,false,false] rfl rfl (any_of HT_.out xk') (fun _ _ _ h=>h) (Or.inl ⟨by rfl,?_⟩) ?_ ?_
         rotate_left
         ·
          intro w';go_simp;with_reducible rfl
         rotate_left
         ·
          simp only[Act.put,sa',sb',sc',i64_w,i32_w];rfl
         refine pure_ (i:=6) (N:=some 26) (v:=?_) (a':=?_) #[true,false,true,true,true,true,true,false,false,false,false,false,false] rfl rfl (any_of HT_.out xk') (fun _ _ _ h=>h) (Or.inl ⟨by rfl,?_⟩) ?_ ?_
         rotate_left
         ·
          intro w';go_simp;with_reducible rfl
         rotate_left
         ·
          simp only[Act.put,sa',sb',sc',i64_w,i32_w];rfl
         refine pure_ (i:=7) (N:=some 27) (v:=?_) (a':=?_) #[true,false,true,true,true,true,true,true,false,false,false,false,false] rfl rfl (any_of HT_.out xk') (fun _ _ _ h=>h) (Or.inl ⟨by rfl,?_⟩) ?_ ?_
         rotate_left
         ·
          intro w';go_simp;with_reducible rfl
         rotate_left
         ·
          simp only[Act.put,sa',sb',sc',i64_w,i32_w];rfl
         refine pure_ (i:=8) (N:=some 28) (v:=?_) (a':=?_) #[true,false,true,true,true,true,true,true,true,false,false,false,false] rfl rfl (any_of HT_.out xk') (fun _ _ _ h=>h) (Or.inl ⟨by rfl,?_⟩) ?_ ?_
         rotate_left
         ·
          intro w';go_simp;with_reducible rfl
         rotate_left
         ·
          simp only[Act.put,sa',sb',sc',i64_w,i32_w];rfl
         refine pure_ (i:=9) (N:=some 29) (v:=?_) (a':=?_) #[true,false,true,true,true,true,true,true,true,true,false,false,false] rfl rfl (any_of HT_.out xk') (fun _ _ _ h=>h) (Or.inl ⟨by rfl,?_⟩) ?_ ?_
         rotate_left
         ·
          intro w';go_simp;with_reducible rfl
         rotate_left
         ·
          simp only[Act.put,sa',sb',sc',i64_w,i32_w];rfl
         refine pure_ (i:=10) (N:=some 30) (v:=?_) (a':=?_) #[true,false,true,true,true,true,true,true,true,true,true,false,false] rfl rfl (any_of HT_.out xk') (fun _ _ _ h=>h) (Or.inl ⟨by rfl,?_⟩) ?_ ?_
         rotate_left
         ·
          intro w';go_simp;with_reducible rfl
         rotate_left
         ·
          simp only[Act.put,sa',sb',sc',i64_w,i32_w];rfl
         refine take_ (i:=1) (N:=some 21) (v:=?_) (a':=?_) #[true,true,true,true,true,true,true,true,true,true,true,false,false] rfl rfl (take_ofW HT_.out HW_.out xk') (fun _ _ _ h=>h) (Or.inl ⟨by rfl,?_⟩) hHeld ?_ ?_
         rotate_left
         ·
          rintro w' ⟨s0,s1⟩
          go_simp;with_reducible rfl
         rotate_left
         ·
          simp only[Act.put,sa',sb',sc',i64_w,i32_w];rfl
         refine pure_ (i:=11) (N:=some 31) (v:=?_) (a':=?_) #[true,true,true,true,true,true,true,true,true,true,true,true,false] rfl rfl (any_of HT_.out xk') (fun _ _ _ h=>h) (Or.inl ⟨by rfl,?_⟩) ?_ ?_
         rotate_left
         ·
          intro w';go_simp;with_reducible rfl
         rotate_left
         ·
          simp only[Act.put,sa',sb',sc',i64_w,i32_w];rfl
         refine last_ (i:=12) (N:=none) #[true,true,true,true,true,true,true,true,true,true,true,true,true] rfl rfl (one_of HT_.out xk') (by decide) (fun K hK=>?_);refine skip_ (w1:=?_) (by rfl) rfl ?_ ?_
         rotate_left
         ·
          go_simp;rfl
         refine hK.out _ _ ?_
         clear hK K;refine done_ (done_of HT_.out xk') ?_
         try go_wp2
         go_roundg k1
         case measure=>have:=HK1.out;omega
         case rel=>exact ⟨(wrap64 (x17_1+1)),(y254),(.slice (some ⟨go25,0,none⟩) x254000_1.length co25),xs',H',⟨by have:=HK1.out;omega⟩,⟨kr' HQ27.out⟩,⟨by (with_reducible repeat (first|refine kn' ?_ _|refine kd' ?_|refine ka' ?_ _));refine blk_far ?_ (by have h_:=Kd.R_ne HO_254000.out BK249.out (by decide);intro e_;exact h_ (by rw[e_];rfl)) _;(with_reducible repeat (first|refine kn' ?_ _|refine kd' ?_|refine ka' ?_ _));exact BK249.out⟩,⟨by (with_reducible repeat (first|refine kn' ?_ _|refine kd' ?_|refine ka' ?_ _));refine blk_far ?_ (by have h_:=Kd.R_ne HO_254000.out BK253.out (by decide);intro e_;exact h_ (by rw[e_];rfl)) _;(with_reducible repeat (first|refine kn' ?_ _|refine kd' ?_|refine ka' ?_ _));exact BK253.out⟩,⟨y3' GB25.out GE249.out GE253.out⟩⟩
        ·
         rw[if_neg c24] at H;exact absurd H (by simp)
       ·
        rw[if_neg c23] at H;exact absurd H (by simp)
      ·
       rw[if_neg c21] at H;exact absurd H (by simp)
     ·
      rw[if_neg c19] at H;have c19b0:decide (x17_1 < (y250.length:Int))=false:=df' c19;clear c19;simp only[Option.some.injEq,Prod.mk.injEq] at H;obtain ⟨rfl,rfl⟩:=H;have hnb28:=NB253_249.out;have hnc28:=NB249_253.out;have hcz29_0:wr.cell? ⟨gb253,0,none⟩=some (u254000):=(bc' BK253.out 0).trans rfl;have hcz29_1:wr.cell? ⟨gb253,1,none⟩=some (.bool ((ji6) == 1)):=(bc' BK253.out 1).trans rfl;have hfz29_0:=bf' BK253.out 0;have hfz29_1:=bf' BK253.out 1;obtain ⟨Ao30,co30,eo30⟩:=Kd.R_slice HO_254000.out;subst eo30;have hcz31_0:wr.cell? ⟨gb249,0,none⟩=some (.slice none 0 0):=(bc' BK249.out 0).trans rfl;have hcz31_1:wr.cell? ⟨gb249,1,none⟩=some (.bool false):=(bc' BK249.out 1).trans rfl;have hfz31_0:=bf' BK249.out 0;have hfz31_1:=bf' BK249.out 1;go_wp2;refine bodyPost_ret (results_cell_row rfl _ _ gb249 73 #[.slice Ao30 x254000_1.length co30, .bool ((ji6) == 1)] (0,0) _ rfl (by (with_reducible repeat (first|refine kn' ?_ _|refine kd' ?_|refine ka' ?_ _));refine blk_put (cs:=#[.slice Ao30 x254000_1.length co30, .bool false]) ?_ 1 _ rfl;(with_reducible repeat (first|refine kn' ?_ _|refine kd' ?_|refine ka' ?_ _));refine blk_put (cs:=#[.slice none 0 0, .bool false]) ?_ 0 _ rfl;(with_reducible repeat (first|refine kn' ?_ _|refine kd' ?_|refine ka' ?_ _));exact BK249.out) Try.underlying73 rfl xk') rfl ?_
      exact ⟨_,by first|rfl|(simp[errW_none,errW_some] <;> rfl)|(simp only[← hji6];first|rfl|(simp[errW_none,errW_some] <;> rfl))|(simp[*,errW_none,errW_some] <;> rfl),by (with_reducible repeat (first|apply ra'|apply rn'|apply rw'));exact Kd.R_mono (Kd.R_far (p:=⟨gb249,1,none⟩) (Kd.R_far (p:=⟨gb249,0,none⟩) (Kd.R_types HO_254000.out BK249.out (by decide)) (fun _ hk=>hk.2) (.slice Ao30 x254000_1.length co30)) (fun _ hk=>hk.2) (.bool ((ji6) == 1))) (fun _ hk=>trivial),y2' GE249.out GE253.out⟩
  ·
   rw[if_neg c4] at H;exact absurd H (by simp)
 ·
  rw[if_neg c3] at H;exact absurd H (by simp)
def spec_keBank.f (k:Nat) (a0:Int) (a1:Int):Option (List Bool × Bool):=(spec_seState.f k a0 a1).bind fun bt256=>(some (bt256.1,bt256.2))
set_option maxHeartbeats 8000000 in
set_option maxRecDepth 100000 in
theorem spec_keBank.calls (k:Nat) (a0:Int) (a1:Int) (r1:List Bool) (r2:Bool) (w:World) (h:spec_keBank.f k a0 a1=some (r1,r2)) :
  Calls Try.prog 87 #[.int .i64 a0, .int .i64 a1] w fun e w'=>∃ v0_:Value,e = .returned (.agg #[v0_, .bool r2])∧Kd.R Kd.bool 4 w' w.heap.size (fun _=>True) v0_ r1∧Below w.heap.size w w':=by
 have hu34:=Try.underlying34
 have hu73:=Try.underlying73
 have HB:=am' (Below.refl w.heap.size w)
 have H:((spec_seState.f k a0 a1).bind fun bt256=>(some (bt256.1,bt256.2)))=some (r1,r2):=h
 clear h;replace H:=Option.bind_eq_some_iff.mp H
 obtain ⟨⟨t256,t259⟩,A30,H⟩:=H
 replace H:(some (t256,t259))=some (r1,r2):=H
 have A3:=am' A30
 clear A30;simp only[Option.some.injEq,Prod.mk.injEq] at H
 obtain ⟨rfl,rfl⟩:=H
 go_enter Try.func87,Try.ntmps87
 go_wp2_with (first|((with_reducible refine gate_dst (N:=4) rfl ?_);refine box_event ?hg (N:=4) ?hd (cs:=#[.slice none 0 0, .bool false]) (t:=34) ?hr ?_;(case hd=>rfl);(case hg=>rfl);(case hr=>first|(go_simp;done)|(go_simp;rfl));intro gb255 hg w4 hbox hb;have n0_:=am' (bt' xb' hb);have n1_:=am' (hbox);have n2_:=am' ((by rw[hg];exact (bz' xb'):w.heap.size≤gb255));have n3_:=am' ((by rw[hg];exact (bz' xb'):w.heap.size≤gb255));clear HB;have HB:=n0_;have BK255:=n1_;have GW255:=n2_;have GE255:=n3_;clear n0_ n1_ n2_ n3_;clear hb hbox hg)|((with_reducible refine gate_callee (f:=113) rfl ?_);refine goesL_ (some 8) rfl rfl Try.func113 xk' rfl #[.int .i64 a0, .int .i64 a1] rfl xl' ?_;(with_reducible refine (spec_seState.calls k a0 a1 t256 t259 _ A3.out).mono ?_);rintro e w5 ⟨v257,rfl,ho0,hb⟩;refine ⟨_,rfl,?_⟩;have n0_:=am' (Kd.R_lower ho0 (bz' (yb' GE255.out)));have n1_:=am' (bb' (g:=gb255) (o := .cells #[.slice none 0 0, .bool false] 34 (0,0)) (kk' BK255.out) hb);have n2_:=am' (bt' (yb' GE255.out) hb);clear BK255;clear HB;have HO258:=n0_;have BK255:=n1_;have HB:=n2_;clear n0_ n1_ n2_;(try clear hb);(try clear hb2);(try clear hk);(try clear hi);(try clear ho0))|((with_reducible refine gate_dst (N:=5) rfl ?_);refine box_event ?hg (N:=5) ?hd (cs:=#[.slice none 0 0, .bool false]) (t:=73) ?hr ?_;(case hd=>rfl);(case hg=>rfl);(case hr=>first|(go_simp;done)|(go_simp;rfl));intro gb260 hg w6 hbox hb;have n0_:=am' (rb' (kr' HO258.out) hb);have n1_:=am' (bb' (g:=gb255) (o := .cells #[.slice none 0 0, .bool false] 34 (0,0)) (kk' BK255.out) hb);have n2_:=am' (bt' (yb' GE255.out) hb);have n3_:=am' (hbox);have n4_:=am' ((by rw[hg];exact (bz' (yb' GE255.out)):w.heap.size≤gb260));have n5_:=am' ((by rw[hg];exact (bz' (yb' GE255.out)):w.heap.size≤gb260));have n6_:=am' ((by rw[hg];exact Nat.ne_of_lt (blk_lt (g:=gb255) (o := .cells #[.slice none 0 0, .bool false] 34 (0,0)) (kk' BK255.out)):gb255≠gb260));have n7_:=am' ((by rw[hg];exact Nat.ne_of_gt (blk_lt (g:=gb255) (o := .cells #[.slice none 0 0, .bool false] 34 (0,0)) (kk' BK255.out)):gb260≠gb255));clear HO258;clear BK255;clear HB;have HO258:=n0_;have BK255:=n1_;have HB:=n2_;have BK260:=n3_;have GW260:=n4_;have GE260:=n5_;have NB255_260:=n6_;have NB260_255:=n7_;clear n0_ n1_ n2_ n3_ n4_ n5_ n6_ n7_;clear hb hbox hg;obtain ⟨Ao7,co7,eo7⟩:=Kd.R_slice HO258.out;subst eo7;have hnb8:=NB260_255.out;have hnc8:=NB255_260.out;have hcz9_0:w6.cell? ⟨gb260,0,none⟩=some (.slice none 0 0):=(bc' BK260.out 0).trans rfl;have hcz9_1:w6.cell? ⟨gb260,1,none⟩=some (.bool false):=(bc' BK260.out 1).trans rfl;have hfz9_0:=bf' BK260.out 0;have hfz9_1:=bf' BK260.out 1;have hcz10_0:w6.cell? ⟨gb255,0,none⟩=some (.slice none 0 0):=(bc' BK255.out 0).trans rfl;have hcz10_1:w6.cell? ⟨gb255,1,none⟩=some (.bool false):=(bc' BK255.out 1).trans rfl;have hfz10_0:=bf' BK255.out 0;have hfz10_1:=bf' BK255.out 1))
 refine bodyPost_ret (results_cell_row rfl _ _ gb255 34 #[.slice Ao7 t256.length co7, .bool t259] (0,0) _ rfl (by (with_reducible repeat (first|refine kn' ?_ _|refine kd' ?_|refine ka' ?_ _));refine blk_put (cs:=#[.slice Ao7 t256.length co7, .bool false]) ?_ 1 _ rfl;(with_reducible repeat (first|refine kn' ?_ _|refine kd' ?_|refine ka' ?_ _));refine blk_put (cs:=#[.slice none 0 0, .bool false]) ?_ 0 _ rfl;(with_reducible repeat (first|refine kn' ?_ _|refine kd' ?_|refine ka' ?_ _));refine blk_far ?_ NB255_260.out _;(with_reducible repeat (first|refine kn' ?_ _|refine kd' ?_|refine ka' ?_ _));refine blk_far ?_ NB255_260.out _;(with_reducible repeat (first|refine kn' ?_ _|refine kd' ?_|refine ka' ?_ _));exact BK255.out) Try.underlying34 rfl xk') rfl ?_
 exact ⟨_,by first|rfl|(simp[errW_none,errW_some] <;> rfl)|(simp[*,errW_none,errW_some] <;> rfl),by (with_reducible repeat (first|apply ra'|apply rn'|apply rw'));exact Kd.R_mono (Kd.R_far (p:=⟨gb255,1,none⟩) (Kd.R_far (p:=⟨gb255,0,none⟩) (Kd.R_far (p:=⟨gb260,1,none⟩) (Kd.R_far (p:=⟨gb260,0,none⟩) (Kd.R_types (Kd.R_types HO258.out BK260.out (by decide)) BK255.out (by decide)) (fun _ hk=>hk.1.2) (.slice Ao7 t256.length co7)) (fun _ hk=>hk.1.2) (.bool t259)) (fun _ hk=>hk.2) (.slice Ao7 t256.length co7)) (fun _ hk=>hk.2) (.bool t259)) (fun _ hk=>trivial),y2' GE255.out GE260.out⟩
end Go.Proofs.Ytmfofjloklafoaa.C5
