import Derived.Test.YtabhhkiipilghaaC2zx0
import Derived.Test.YtabhhkiipilghaaC2zx1
import Derived.Test.YtabhhkiipilghaaC2zx3
import Derived.Test.YtabhhkiipilghaaC2zx9
import Derived.Test.YtabhhkiipilghaaC2zx10
import Derived.Test.YtabhhkiipilghaaC2zx17
import Derived.Test.YtabhhkiipilghaaC2zx11
import Derived.Test.YtabhhkiipilghaaC2zx14
import Derived.Test.YtabhhkiipilghaaC2zx15
import Derived.Test.YtabhhkiipilghaaC2zx16
import Derived.Test.YtabhhkiipilghaaC2zAl
namespace Go.Proofs.Ytabhhkiipilghaa.C2
open Go.RowKit Go.Proofs.YtabhhkiipilghaaW.PrintWords Go.Proofs.YtabhhkiipilghaaW.PrintLast Go.Proofs.YtabhhkiipilghaaW.PrintMore Go.Proofs.Ytabhhkiipilghaa.H
attribute [local go_sem] max2_int min2_int max_two min_two max_three min_three max_four min_four
set_option linter.unusedVariables false
set_option linter.unusedSimpArgs false
def bB' (n c:Nat):Array Bool:=((List.range n).map fun i=>c.testBit i).toArray
theorem pA' {P:Program} {ops:Array Oper} {Q:Exit→Act→World→Prop} {md:Region.Mode} {S:World→Prop} {ds:List Nat} {oi:Oper} {v:Value} {fuel:Nat} {l:Array Bool} {a:Act} {w:World} {a':Act} (i:Nat) (N:Option Tmp) (l':Array Bool) (hi:ops[i]? = some oi:=by rfl) (hN:oi.dst=N:=by rfl) (hc:anyB md ops l l' i=true:=by first|kernel_rfl|exact any_of HT_.out xk') (hQ:∀ c a w,Q (.panic c) (a.put oi.dst v) w→Q (.panic c) a w:=by exact fun _ _ _ h=>h) (hy:Yields P ops oi v a:=by exact Or.inl ⟨by rfl,by intro w';go_simp;with_reducible rfl⟩) (ha:a.put N v=a':=by simp only[Act.put,sa',sb',sc',i64_w,i32_w];rfl) (h:wpAnyLast P md ops Q S ds fuel l' a' w):wpAnyLast P md ops Q S ds (fuel+1) l a w:=pure_ l' hi hN hc hQ hy ha h
theorem pU' {P:Program} {ops:Array Oper} {Q:Exit→Act→World→Prop} {md:Region.Mode} {S:World→Prop} {ds:List Nat} {oi:Oper} {fuel:Nat} {l:Array Bool} {a:Act} {w:World} {a':Act} (i:Nat) (N:Option Tmp) (l':Array Bool) (hi:ops[i]? = some oi:=by rfl) (hN:oi.dst=N:=by rfl) (hc:anyB md ops l l' i=true:=by first|kernel_rfl|exact any_of HT_.out xk') (hQ:∀ c a w,Q (.panic c) (a.put oi.dst undef) w→Q (.panic c) a w:=by exact fun _ _ _ h=>h) (hy:Yields P ops oi undef a:=by exact Or.inr ⟨by rfl,rfl⟩) (ha:a.put N undef=a':=by simp only[Act.put,sa',sb',sc',i64_w,i32_w];rfl) (h:wpAnyLast P md ops Q S ds fuel l' a' w):wpAnyLast P md ops Q S ds (fuel+1) l a w:=pure_ l' hi hN hc hQ hy ha h
theorem laws_FnCouplesCalmOfAll.j2_dead:∀ (k:Nat) (x0:_) (x1:_) (x2:_) (x3:_) (x4:_) (x5:_) (x6:_) (x7:_) (x8:_) (x9:_) (x10:_) (x11:_) (x12:_) (x13:_) {r:Bool},r=true→x5=true→laws_FnCouplesCalmOfAll.j2 k x0 x1 x2 x3 x4 x5 x6 x7 x8 x9 x10 x11 x12 x13=some r→False
 | 0,_,_,_,_,_,_,_,_,_,_,_,_,_,_,_,_,_,h=>by simp[laws_FnCouplesCalmOfAll.j2] at h
 | k+1,_,_,_,_,_,_,_,_,_,_,_,_,_,_,_,e,e2,h=>by subst e2;simp[laws_FnCouplesCalmOfAll.j2] at h;rw[h] at e;cases e
theorem laws_FnCouplesCalmOfAll.j6_dead:∀ (k:Nat) (x0:_) (x1:_) (x2:_) (x3:_) (x4:_) (x5:_) (x6:_) (x7:_) (x8:_) (x9:_) (x10:_) (x11:_) {r:Bool},r=true→x5=true→laws_FnCouplesCalmOfAll.j6 k x0 x1 x2 x3 x4 x5 x6 x7 x8 x9 x10 x11=some r→False
 | 0,_,_,_,_,_,_,_,_,_,_,_,_,_,_,_,h=>by simp[laws_FnCouplesCalmOfAll.j6] at h
 | k+1,_,_,_,_,_,_,_,_,_,_,_,_,_,e,e2,h=>by subst e2;simp[laws_FnCouplesCalmOfAll.j6] at h;rw[h] at e;cases e
set_option maxHeartbeats 8000000 in
set_option maxRecDepth 100000 in
theorem laws_FnCouplesCalmOfAll.calls (k:Nat) (a0_0:Int) (a0_1:Int) (A1_0:Option Addr) (c1_0:Nat) (l1_0:List Bool) (a1_1:Bool) (a2_0:Int) (a2_1:Int) (A3_0:Option Addr) (c3_0:Nat) (l3_0:List Bool) (a3_1:Bool) (A4:Option Addr) (c4:Nat) (l4:List Int) (a5:Int) (A6:Option Addr) (c6:Nat) (l6:List Int) (r:Bool) (w:World) (hr1_0:Kd.C Kd.bool w A1_0 l1_0.length l1_0) (hc1_0:l1_0.length≤c1_0) (hr3_0:Kd.C Kd.bool w A3_0 l3_0.length l3_0) (hc3_0:l3_0.length≤c3_0) (hr4:Kd.C (Kd.int .i64) w A4 l4.length l4) (hc4:l4.length≤c4) (hr6:Kd.C (Kd.int .i64) w A6 l6.length l6) (hc6:l6.length≤c6) (h:laws_FnCouplesCalmOfAll.f k a0_0 a0_1 l1_0 a1_1 a2_0 a2_1 l3_0 a3_1 l4 a5 l6=some r) (HRT:Aside0 (r=true)) :
  Calls Try.prog 4 #[.agg #[.int .i64 a0_0, .int .i64 a0_1], .agg #[.slice A1_0 l1_0.length c1_0, .bool a1_1], .agg #[.int .i64 a2_0, .int .i64 a2_1], .agg #[.slice A3_0 l3_0.length c3_0, .bool a3_1], .slice A4 l4.length c4, .int .i64 a5, .slice A6 l6.length c6] w fun e w'=>e = .returned (.bool r)∧Below w.heap.size w w':=by
 have hu32:=Try.underlying32
 have hu35:=Try.underlying35
 have HR1_0:=am' hr1_0
 have HC1_0:=am' hc1_0
 clear hr1_0 hc1_0;have HR3_0:=am' hr3_0
 have HC3_0:=am' hc3_0
 clear hr3_0 hc3_0;have HR4:=am' hr4
 have HC4:=am' hc4
 clear hr4 hc4;have HR6:=am' hr6
 have HC6:=am' hc6
 clear hr6 hc6;have HB:=am' (Below.refl w.heap.size w)
 have H:(if (l4.length:Int) > 10000 then (laws_FnCouplesCalmOfAll.j0 k l4 a5 l6 true a0_0 a0_1 l1_0 a1_1 a2_0 a2_1 l3_0 a3_1) else (laws_FnCouplesCalmOfAll.j0 k l4 a5 l6 (decide ((l6.length:Int) > 10000)) a0_0 a0_1 l1_0 a1_1 a2_0 a2_1 l3_0 a3_1))=some r:=h
 clear h;have HC8:=am' H
 clear H;go_enter Try.func4,Try.ntmps4
 go_upto_region 1 with (first|((with_reducible refine gate_dst (N:=7) rfl ?_);(try (refine gate_guard (by rfl) ?_;dsimp only));refine box_event ?hg (N:=7) ?hd (cs:=#[.int .i64 a0_0, .int .i64 a0_1]) (t:=32) ?hr ?_;(case hd=>rfl);(case hg=>rfl);(case hr=>first|(go_simp;done)|(go_simp;rfl));intro gb331 hg w9 hbox hb;have n0_:=am' (bt' xb' hb);have n1_:=am' (hbox);have n2_:=am' ((by rw[hg];exact (bz' xb'):w.heap.size≤gb331));have n3_:=am' ((by rw[hg];exact (bz' xb'):w.heap.size≤gb331));clear HB;have HB:=n0_;have BK331:=n1_;have GW331:=n2_;have GE331:=n3_;clear n0_ n1_ n2_ n3_;clear hb hbox hg)|((with_reducible refine gate_dst (N:=8) rfl ?_);(try (refine gate_guard (by rfl) ?_;dsimp only));refine box_event ?hg (N:=8) ?hd (cs:=#[.slice A1_0 l1_0.length c1_0, .bool a1_1]) (t:=35) ?hr ?_;(case hd=>rfl);(case hg=>rfl);(case hr=>first|(go_simp;done)|(go_simp;rfl));intro gb332 hg w10 hbox hb;have n0_:=am' (bb' (g:=gb331) (o := .cells #[.int .i64 a0_0, .int .i64 a0_1] 32 (0,0)) (kk' BK331.out) hb);have n1_:=am' (bt' (yb' GE331.out) hb);have n2_:=am' (hbox);have n3_:=am' ((by rw[hg];exact (bz' (yb' GE331.out)):w.heap.size≤gb332));have n4_:=am' ((by rw[hg];exact (bz' (yb' GE331.out)):w.heap.size≤gb332));have n5_:=am' ((by rw[hg];exact Nat.ne_of_lt (blk_lt (g:=gb331) (o := .cells #[.int .i64 a0_0, .int .i64 a0_1] 32 (0,0)) (kk' BK331.out)):gb331≠gb332));have n6_:=am' ((by rw[hg];exact Nat.ne_of_gt (blk_lt (g:=gb331) (o := .cells #[.int .i64 a0_0, .int .i64 a0_1] 32 (0,0)) (kk' BK331.out)):gb332≠gb331));clear BK331;clear HB;have BK331:=n0_;have HB:=n1_;have BK332:=n2_;have GW332:=n3_;have GE332:=n4_;have NB331_332:=n5_;have NB332_331:=n6_;clear n0_ n1_ n2_ n3_ n4_ n5_ n6_;clear hb hbox hg)|((with_reducible refine gate_dst (N:=9) rfl ?_);(try (refine gate_guard (by rfl) ?_;dsimp only));refine box_event ?hg (N:=9) ?hd (cs:=#[.int .i64 a2_0, .int .i64 a2_1]) (t:=32) ?hr ?_;(case hd=>rfl);(case hg=>rfl);(case hr=>first|(go_simp;done)|(go_simp;rfl));intro gb333 hg w11 hbox hb;have n0_:=am' (bb' (g:=gb331) (o := .cells #[.int .i64 a0_0, .int .i64 a0_1] 32 (0,0)) (kk' BK331.out) hb);have n1_:=am' (bb' (g:=gb332) (o := .cells #[.slice A1_0 l1_0.length c1_0, .bool a1_1] 35 (0,0)) (kk' BK332.out) hb);have n2_:=am' (bt' (y2' GE331.out GE332.out) hb);have n3_:=am' (hbox);have n4_:=am' ((by rw[hg];exact (bz' (y2' GE331.out GE332.out)):w.heap.size≤gb333));have n5_:=am' ((by rw[hg];exact (bz' (y2' GE331.out GE332.out)):w.heap.size≤gb333));have n6_:=am' ((by rw[hg];exact Nat.ne_of_lt (blk_lt (g:=gb331) (o := .cells #[.int .i64 a0_0, .int .i64 a0_1] 32 (0,0)) (kk' BK331.out)):gb331≠gb333));have n7_:=am' ((by rw[hg];exact Nat.ne_of_gt (blk_lt (g:=gb331) (o := .cells #[.int .i64 a0_0, .int .i64 a0_1] 32 (0,0)) (kk' BK331.out)):gb333≠gb331));have n8_:=am' ((by rw[hg];exact Nat.ne_of_lt (blk_lt (g:=gb332) (o := .cells #[.slice A1_0 l1_0.length c1_0, .bool a1_1] 35 (0,0)) (kk' BK332.out)):gb332≠gb333));have n9_:=am' ((by rw[hg];exact Nat.ne_of_gt (blk_lt (g:=gb332) (o := .cells #[.slice A1_0 l1_0.length c1_0, .bool a1_1] 35 (0,0)) (kk' BK332.out)):gb333≠gb332));clear BK331;clear BK332;clear HB;have BK331:=n0_;have BK332:=n1_;have HB:=n2_;have BK333:=n3_;have GW333:=n4_;have GE333:=n5_;have NB331_333:=n6_;have NB333_331:=n7_;have NB332_333:=n8_;have NB333_332:=n9_;clear n0_ n1_ n2_ n3_ n4_ n5_ n6_ n7_ n8_ n9_;clear hb hbox hg)|((with_reducible refine gate_dst (N:=10) rfl ?_);(try (refine gate_guard (by rfl) ?_;dsimp only));refine box_event ?hg (N:=10) ?hd (cs:=#[.slice A3_0 l3_0.length c3_0, .bool a3_1]) (t:=35) ?hr ?_;(case hd=>rfl);(case hg=>rfl);(case hr=>first|(go_simp;done)|(go_simp;rfl));intro gb334 hg w12 hbox hb;have n0_:=am' (bb' (g:=gb331) (o := .cells #[.int .i64 a0_0, .int .i64 a0_1] 32 (0,0)) (kk' BK331.out) hb);have n1_:=am' (bb' (g:=gb332) (o := .cells #[.slice A1_0 l1_0.length c1_0, .bool a1_1] 35 (0,0)) (kk' BK332.out) hb);have n2_:=am' (bb' (g:=gb333) (o := .cells #[.int .i64 a2_0, .int .i64 a2_1] 32 (0,0)) (kk' BK333.out) hb);have n3_:=am' (bt' (y3' GE331.out GE332.out GE333.out) hb);have n4_:=am' (hbox);have n5_:=am' ((by rw[hg];exact (bz' (y3' GE331.out GE332.out GE333.out)):w.heap.size≤gb334));have n6_:=am' ((by rw[hg];exact (bz' (y3' GE331.out GE332.out GE333.out)):w.heap.size≤gb334));have n7_:=am' ((by rw[hg];exact Nat.ne_of_lt (blk_lt (g:=gb331) (o := .cells #[.int .i64 a0_0, .int .i64 a0_1] 32 (0,0)) (kk' BK331.out)):gb331≠gb334));have n8_:=am' ((by rw[hg];exact Nat.ne_of_gt (blk_lt (g:=gb331) (o := .cells #[.int .i64 a0_0, .int .i64 a0_1] 32 (0,0)) (kk' BK331.out)):gb334≠gb331));have n9_:=am' ((by rw[hg];exact Nat.ne_of_lt (blk_lt (g:=gb332) (o := .cells #[.slice A1_0 l1_0.length c1_0, .bool a1_1] 35 (0,0)) (kk' BK332.out)):gb332≠gb334));have n10_:=am' ((by rw[hg];exact Nat.ne_of_gt (blk_lt (g:=gb332) (o := .cells #[.slice A1_0 l1_0.length c1_0, .bool a1_1] 35 (0,0)) (kk' BK332.out)):gb334≠gb332));have n11_:=am' ((by rw[hg];exact Nat.ne_of_lt (blk_lt (g:=gb333) (o := .cells #[.int .i64 a2_0, .int .i64 a2_1] 32 (0,0)) (kk' BK333.out)):gb333≠gb334));have n12_:=am' ((by rw[hg];exact Nat.ne_of_gt (blk_lt (g:=gb333) (o := .cells #[.int .i64 a2_0, .int .i64 a2_1] 32 (0,0)) (kk' BK333.out)):gb334≠gb333));clear BK331;clear BK332;clear BK333;clear HB;have BK331:=n0_;have BK332:=n1_;have BK333:=n2_;have HB:=n3_;have BK334:=n4_;have GW334:=n5_;have GE334:=n6_;have NB331_334:=n7_;have NB334_331:=n8_;have NB332_334:=n9_;have NB334_332:=n10_;have NB333_334:=n11_;have NB334_333:=n12_;clear n0_ n1_ n2_ n3_ n4_ n5_ n6_ n7_ n8_ n9_ n10_ n11_ n12_;clear hb hbox hg))
 (try simp only[Act.put,sa',sb',sc'])
 go_cut [58] from 51 to 50 (fun v58 wc=>∃ (kq:Nat) (x58_7:Bool),v58 = .bool x58_7∧Aside0 (laws_FnCouplesCalmOfAll.j0 kq l4 a5 l6 x58_7 a0_0 a0_1 l1_0 a1_1 a2_0 a2_1 l3_0 a3_1=some r)∧Aside0 (kq≤k)∧Aside0 (wc.heap[gb331]? = some (.cells #[.int .i64 a0_0, .int .i64 a0_1] 32 (0,0)))∧Aside0 (wc.heap[gb332]? = some (.cells #[(.slice A1_0 l1_0.length c1_0), .bool a1_1] 35 (0,0)))∧Aside0 (wc.heap[gb333]? = some (.cells #[.int .i64 a2_0, .int .i64 a2_1] 32 (0,0)))∧Aside0 (wc.heap[gb334]? = some (.cells #[(.slice A3_0 l3_0.length c3_0), .bool a3_1] 35 (0,0)))∧Aside0 (Below w.heap.size w wc))
 case first =>
  have H:=HC8.out;clear HC8;by_cases c13:(l4.length:Int) > 10000
  ·
   rw[if_pos c13] at H;have c13b0:decide (10000 < (l4.length:Int))=true:=dt' c13;have c13b1:decide (10000 < l4.length)=true:=dt' (by omega);clear c13;(first|rw[c13b0]|(simp only[i64_w,i32_w];rw[c13b0])|rw[c13b1]|skip)
   have H':=am' H;clear H;go_wp2;go_meet
   case rel=>exact ⟨_,(true),xs',H',⟨by first|omega|exact Nat.le_refl _⟩,⟨kk' BK331.out⟩,⟨kk' BK332.out⟩,⟨kk' BK333.out⟩,⟨kk' BK334.out⟩,⟨y4' GE331.out GE332.out GE333.out GE334.out⟩⟩
  ·
   rw[if_neg c13] at H;have c13b0:decide (10000 < (l4.length:Int))=false:=df' c13;have c13b1:decide (10000 < l4.length)=false:=df' (by omega);clear c13;(first|rw[c13b0]|(simp only[i64_w,i32_w];rw[c13b0])|rw[c13b1]|skip)
   have H':=am' H;clear H;go_wp2;go_meet
   case rel=>exact ⟨_,(decide ((l6.length:Int) > 10000)),xs',H',⟨by first|omega|exact Nat.le_refl _⟩,⟨kk' BK331.out⟩,⟨kk' BK332.out⟩,⟨kk' BK333.out⟩,⟨kk' BK334.out⟩,⟨y4' GE331.out GE332.out GE333.out GE334.out⟩⟩
 case rest=>as_aux_lemma =>
  clear HC8;try clear c1
  try clear p2
  try clear c3
  try clear c4
  try clear c6
  try clear c13
  try clear c13b0
  try clear c13b1
  obtain ⟨kq,x58_7,rfl,HA,HJ7,BK331,BK332,BK333,BK334,HB⟩:=hcut;cases kq with
  | zero=>exact absurd HA.out (by simp[laws_FnCouplesCalmOfAll.j0])
  | succ kj7 =>
   have H:=HA.out;clear HA;simp only[laws_FnCouplesCalmOfAll.j0] at H;have HC14:=am' H;clear H;go_upto_if 58 with (fail)
   go_cut [] from 59 to 58 (fun wc=>∃ (kq:Nat),Aside0 (laws_FnCouplesCalmOfAll.j1 kq l4 a5 l6 a0_0 a0_1 l1_0 a1_1 a2_0 a2_1 l3_0 a3_1=some r)∧Aside0 (kq≤kj7)∧Aside0 (wc.heap[gb331]? = some (.cells #[.int .i64 a0_0, .int .i64 a0_1] 32 (0,0)))∧Aside0 (wc.heap[gb332]? = some (.cells #[(.slice A1_0 l1_0.length c1_0), .bool a1_1] 35 (0,0)))∧Aside0 (wc.heap[gb333]? = some (.cells #[.int .i64 a2_0, .int .i64 a2_1] 32 (0,0)))∧Aside0 (wc.heap[gb334]? = some (.cells #[(.slice A3_0 l3_0.length c3_0), .bool a3_1] 35 (0,0)))∧Aside0 (Below w.heap.size w wc))
   case first =>
    have H:=HC14.out;clear HC14;by_cases c15:x58_7=true
    ·
     subst c15;have H1:(some true)=some r:=by rw[if_pos rfl] at H;exact H
     clear H;have H:=H1;clear H1;obtain rfl:=os' H;go_wp2;go_ret
     exact ⟨by first|rfl|(simp[errW_none,errW_some] <;> rfl)|(simp[*,errW_none,errW_some] <;> rfl),y4' GE331.out GE332.out GE333.out GE334.out⟩
    ·
     replace c15:=Bool.eq_false_iff.mpr c15;subst c15;have H1:(laws_FnCouplesCalmOfAll.j1 kj7 l4 a5 l6 a0_0 a0_1 l1_0 a1_1 a2_0 a2_1 l3_0 a3_1)=some r:=by rw[if_neg (show ¬ (false=true) by decide)] at H;exact H
     clear H;have H:=H1;clear H1;have H':=am' H;clear H;go_wp2;go_meet
     case rel=>exact ⟨_,H',⟨by have:=HJ7.out;first|omega|exact Nat.le_refl _⟩,⟨kk' BK331.out⟩,⟨kk' BK332.out⟩,⟨kk' BK333.out⟩,⟨kk' BK334.out⟩,⟨y4' GE331.out GE332.out GE333.out GE334.out⟩⟩
   case rest=>as_aux_lemma =>
    clear HC14;try clear c1
    try clear p2
    try clear c3
    try clear c4
    try clear c6
    try clear c13
    try clear c13b0
    try clear c13b1
    try clear c15
    try clear p2
    obtain ⟨kq,HA,HJ13,BK331,BK332,BK333,BK334,HB⟩:=hcut;cases kq with
    | zero=>exact absurd HA.out (by simp[laws_FnCouplesCalmOfAll.j1])
    | succ kj13 =>
     have H:=HA.out;clear HA;simp only[laws_FnCouplesCalmOfAll.j1] at H;replace H:=Option.bind_eq_some_iff.mp H;obtain ⟨⟨t335,t338⟩,A160,H⟩:=H;replace H:((spec_RowsOf.f kj13 a0_0 a0_1 l1_0 a1_1).bind fun bt339=>((impl_IsCalm.f kj13 a0_0 a0_1 l1_0 a1_1).bind fun bt343=>((spec_IsCalm.f kj13 a0_0 a0_1 l1_0 a1_1).bind fun bt345=>(if (t338 != bt339.2)=true then (laws_FnCouplesCalmOfAll.j2 kj13 l4 a5 l6 t335 t338 true a0_0 a0_1 l1_0 a1_1 a2_0 a2_1 l3_0 a3_1) else ((laws_hRows.f kj13 t335 bt339.1).bind fun t347=>(if t347=true then (if (bt343.2 != bt345.2)=true then (laws_FnCouplesCalmOfAll.j2 kj13 l4 a5 l6 t335 t338 true a0_0 a0_1 l1_0 a1_1 a2_0 a2_1 l3_0 a3_1) else (if (bt343.1 != bt345.1)=true then (laws_FnCouplesCalmOfAll.j2 kj13 l4 a5 l6 t335 t338 true a0_0 a0_1 l1_0 a1_1 a2_0 a2_1 l3_0 a3_1) else (if bt343.2=true then (if (t338 != bt343.1)=true then (laws_FnCouplesCalmOfAll.j2 kj13 l4 a5 l6 t335 t338 true a0_0 a0_1 l1_0 a1_1 a2_0 a2_1 l3_0 a3_1) else ((impl_IsCompany.f a0_0 a0_1).bind fun t348=>(if t348=true then ((impl_IsCompany.f a0_0 a0_1).bind fun t349=>((spec_IsCompany.f a0_0 a0_1).bind fun t350=>(laws_FnCouplesCalmOfAll.j2 kj13 l4 a5 l6 t335 t338 (t349 != t350) a0_0 a0_1 l1_0 a1_1 a2_0 a2_1 l3_0 a3_1))) else (laws_FnCouplesCalmOfAll.j2 kj13 l4 a5 l6 t335 t338 true a0_0 a0_1 l1_0 a1_1 a2_0 a2_1 l3_0 a3_1)))) else (if (t338 != false)=true then (laws_FnCouplesCalmOfAll.j2 kj13 l4 a5 l6 t335 t338 true a0_0 a0_1 l1_0 a1_1 a2_0 a2_1 l3_0 a3_1) else ((impl_IsCompany.f a0_0 a0_1).bind fun t351=>((spec_IsCompany.f a0_0 a0_1).bind fun t352=>(laws_FnCouplesCalmOfAll.j2 kj13 l4 a5 l6 t335 t338 (t351 != t352) a0_0 a0_1 l1_0 a1_1 a2_0 a2_1 l3_0 a3_1))))))) else (laws_FnCouplesCalmOfAll.j2 kj13 l4 a5 l6 t335 t338 true a0_0 a0_1 l1_0 a1_1 a2_0 a2_1 l3_0 a3_1)))))))=some r:=H;have A16:=am' A160;clear A160;replace H:=Option.bind_eq_some_iff.mp H;obtain ⟨⟨t339,t342⟩,A170,H⟩:=H;replace H:((impl_IsCalm.f kj13 a0_0 a0_1 l1_0 a1_1).bind fun bt343=>((spec_IsCalm.f kj13 a0_0 a0_1 l1_0 a1_1).bind fun bt345=>(if (t338 != t342)=true then (laws_FnCouplesCalmOfAll.j2 kj13 l4 a5 l6 t335 t338 true a0_0 a0_1 l1_0 a1_1 a2_0 a2_1 l3_0 a3_1) else ((laws_hRows.f kj13 t335 t339).bind fun t347=>(if t347=true then (if (bt343.2 != bt345.2)=true then (laws_FnCouplesCalmOfAll.j2 kj13 l4 a5 l6 t335 t338 true a0_0 a0_1 l1_0 a1_1 a2_0 a2_1 l3_0 a3_1) else (if (bt343.1 != bt345.1)=true then (laws_FnCouplesCalmOfAll.j2 kj13 l4 a5 l6 t335 t338 true a0_0 a0_1 l1_0 a1_1 a2_0 a2_1 l3_0 a3_1) else (if bt343.2=true then (if (t338 != bt343.1)=true then (laws_FnCouplesCalmOfAll.j2 kj13 l4 a5 l6 t335 t338 true a0_0 a0_1 l1_0 a1_1 a2_0 a2_1 l3_0 a3_1) else ((impl_IsCompany.f a0_0 a0_1).bind fun t348=>(if t348=true then ((impl_IsCompany.f a0_0 a0_1).bind fun t349=>((spec_IsCompany.f a0_0 a0_1).bind fun t350=>(laws_FnCouplesCalmOfAll.j2 kj13 l4 a5 l6 t335 t338 (t349 != t350) a0_0 a0_1 l1_0 a1_1 a2_0 a2_1 l3_0 a3_1))) else (laws_FnCouplesCalmOfAll.j2 kj13 l4 a5 l6 t335 t338 true a0_0 a0_1 l1_0 a1_1 a2_0 a2_1 l3_0 a3_1)))) else (if (t338 != false)=true then (laws_FnCouplesCalmOfAll.j2 kj13 l4 a5 l6 t335 t338 true a0_0 a0_1 l1_0 a1_1 a2_0 a2_1 l3_0 a3_1) else ((impl_IsCompany.f a0_0 a0_1).bind fun t351=>((spec_IsCompany.f a0_0 a0_1).bind fun t352=>(laws_FnCouplesCalmOfAll.j2 kj13 l4 a5 l6 t335 t338 (t351 != t352) a0_0 a0_1 l1_0 a1_1 a2_0 a2_1 l3_0 a3_1))))))) else (laws_FnCouplesCalmOfAll.j2 kj13 l4 a5 l6 t335 t338 true a0_0 a0_1 l1_0 a1_1 a2_0 a2_1 l3_0 a3_1))))))=some r:=H
     have A17:=am' A170;clear A170;replace H:=Option.bind_eq_some_iff.mp H;obtain ⟨⟨t343,t344⟩,A180,H⟩:=H;replace H:((spec_IsCalm.f kj13 a0_0 a0_1 l1_0 a1_1).bind fun bt345=>(if (t338 != t342)=true then (laws_FnCouplesCalmOfAll.j2 kj13 l4 a5 l6 t335 t338 true a0_0 a0_1 l1_0 a1_1 a2_0 a2_1 l3_0 a3_1) else ((laws_hRows.f kj13 t335 t339).bind fun t347=>(if t347=true then (if (t344 != bt345.2)=true then (laws_FnCouplesCalmOfAll.j2 kj13 l4 a5 l6 t335 t338 true a0_0 a0_1 l1_0 a1_1 a2_0 a2_1 l3_0 a3_1) else (if (t343 != bt345.1)=true then (laws_FnCouplesCalmOfAll.j2 kj13 l4 a5 l6 t335 t338 true a0_0 a0_1 l1_0 a1_1 a2_0 a2_1 l3_0 a3_1) else (if t344=true then (if (t338 != t343)=true then (laws_FnCouplesCalmOfAll.j2 kj13 l4 a5 l6 t335 t338 true a0_0 a0_1 l1_0 a1_1 a2_0 a2_1 l3_0 a3_1) else ((impl_IsCompany.f a0_0 a0_1).bind fun t348=>(if t348=true then ((impl_IsCompany.f a0_0 a0_1).bind fun t349=>((spec_IsCompany.f a0_0 a0_1).bind fun t350=>(laws_FnCouplesCalmOfAll.j2 kj13 l4 a5 l6 t335 t338 (t349 != t350) a0_0 a0_1 l1_0 a1_1 a2_0 a2_1 l3_0 a3_1))) else (laws_FnCouplesCalmOfAll.j2 kj13 l4 a5 l6 t335 t338 true a0_0 a0_1 l1_0 a1_1 a2_0 a2_1 l3_0 a3_1)))) else (if (t338 != false)=true then (laws_FnCouplesCalmOfAll.j2 kj13 l4 a5 l6 t335 t338 true a0_0 a0_1 l1_0 a1_1 a2_0 a2_1 l3_0 a3_1) else ((impl_IsCompany.f a0_0 a0_1).bind fun t351=>((spec_IsCompany.f a0_0 a0_1).bind fun t352=>(laws_FnCouplesCalmOfAll.j2 kj13 l4 a5 l6 t335 t338 (t351 != t352) a0_0 a0_1 l1_0 a1_1 a2_0 a2_1 l3_0 a3_1))))))) else (laws_FnCouplesCalmOfAll.j2 kj13 l4 a5 l6 t335 t338 true a0_0 a0_1 l1_0 a1_1 a2_0 a2_1 l3_0 a3_1)))))=some r:=H;have A18:=am' A180;clear A180;replace H:=Option.bind_eq_some_iff.mp H;obtain ⟨⟨t345,t346⟩,A190,H⟩:=H;replace H:(if (t338 != t342)=true then (laws_FnCouplesCalmOfAll.j2 kj13 l4 a5 l6 t335 t338 true a0_0 a0_1 l1_0 a1_1 a2_0 a2_1 l3_0 a3_1) else ((laws_hRows.f kj13 t335 t339).bind fun t347=>(if t347=true then (if (t344 != t346)=true then (laws_FnCouplesCalmOfAll.j2 kj13 l4 a5 l6 t335 t338 true a0_0 a0_1 l1_0 a1_1 a2_0 a2_1 l3_0 a3_1) else (if (t343 != t345)=true then (laws_FnCouplesCalmOfAll.j2 kj13 l4 a5 l6 t335 t338 true a0_0 a0_1 l1_0 a1_1 a2_0 a2_1 l3_0 a3_1) else (if t344=true then (if (t338 != t343)=true then (laws_FnCouplesCalmOfAll.j2 kj13 l4 a5 l6 t335 t338 true a0_0 a0_1 l1_0 a1_1 a2_0 a2_1 l3_0 a3_1) else ((impl_IsCompany.f a0_0 a0_1).bind fun t348=>(if t348=true then ((impl_IsCompany.f a0_0 a0_1).bind fun t349=>((spec_IsCompany.f a0_0 a0_1).bind fun t350=>(laws_FnCouplesCalmOfAll.j2 kj13 l4 a5 l6 t335 t338 (t349 != t350) a0_0 a0_1 l1_0 a1_1 a2_0 a2_1 l3_0 a3_1))) else (laws_FnCouplesCalmOfAll.j2 kj13 l4 a5 l6 t335 t338 true a0_0 a0_1 l1_0 a1_1 a2_0 a2_1 l3_0 a3_1)))) else (if (t338 != false)=true then (laws_FnCouplesCalmOfAll.j2 kj13 l4 a5 l6 t335 t338 true a0_0 a0_1 l1_0 a1_1 a2_0 a2_1 l3_0 a3_1) else ((impl_IsCompany.f a0_0 a0_1).bind fun t351=>((spec_IsCompany.f a0_0 a0_1).bind fun t352=>(laws_FnCouplesCalmOfAll.j2 kj13 l4 a5 l6 t335 t338 (t351 != t352) a0_0 a0_1 l1_0 a1_1 a2_0 a2_1 l3_0 a3_1))))))) else (laws_FnCouplesCalmOfAll.j2 kj13 l4 a5 l6 t335 t338 true a0_0 a0_1 l1_0 a1_1 a2_0 a2_1 l3_0 a3_1))))=some r:=H
     have A19:=am' A190;clear A190;have HC20:=am' H;clear H;have hnb21:=NB331_332.out;have hnc21:=NB332_331.out;have hnb22:=NB331_333.out;have hnc22:=NB333_331.out;have hnb23:=NB331_334.out;have hnc23:=NB334_331.out;have hcz24_0:wc.cell? ⟨gb331,0,none⟩=some (.int .i64 a0_0):=(bc' BK331.out 0).trans rfl;have hcz24_1:wc.cell? ⟨gb331,1,none⟩=some (.int .i64 a0_1):=(bc' BK331.out 1).trans rfl;have hfz24_0:=bf' BK331.out 0;have hfz24_1:=bf' BK331.out 1;have hnb25:=NB332_333.out;have hnc25:=NB333_332.out;have hnb26:=NB332_334.out;have hnc26:=NB334_332.out;have hcz27_0:wc.cell? ⟨gb332,0,none⟩=some (.slice A1_0 l1_0.length c1_0):=(bc' BK332.out 0).trans rfl;have hcz27_1:wc.cell? ⟨gb332,1,none⟩=some (.bool a1_1):=(bc' BK332.out 1).trans rfl;have hfz27_0:=bf' BK332.out 0;have hfz27_1:=bf' BK332.out 1;go_upto_region 7 with (first|((with_reducible refine gate_callee (f:=14) rfl ?_);refine goesL_ (some 62) rfl rfl Try.func14 xk' rfl #[.agg #[.int .i64 a0_0, .int .i64 a0_1], .agg #[.slice A1_0 l1_0.length c1_0, .bool a1_1]] rfl xl' ?_;(with_reducible refine (impl_RowsOf.calls kj13 a0_0 a0_1 _ _ l1_0 a1_1 t335 t338 _ ?side1 ?side2 A16.out).mono ?_);(case side1=>exact kc' (cb' HR1_0.out HB.out));(case side2=>exact HC1_0.out);rintro e w28 ⟨v336,rfl,ho0,hb⟩;refine ⟨_,rfl,?_⟩;obtain ⟨D399_,hdl_,hdg_⟩:=dlt_of hb;have D399_lt:=am' hdl_;have D399_ge:=am' hdg_;clear hdl_ hdg_;have n0_:=am' (Kd.S_lower (Kd.S_dge ho0 D399_ge.out) (bz' (y4' GE331.out GE332.out GE333.out GE334.out)));have n1_:=am' (bb' (g:=gb331) (o := .cells #[.int .i64 a0_0, .int .i64 a0_1] 32 (0,0)) (kk' BK331.out) hb);have n2_:=am' (bb' (g:=gb332) (o := .cells #[.slice A1_0 l1_0.length c1_0, .bool a1_1] 35 (0,0)) (kk' BK332.out) hb);have n3_:=am' (bb' (g:=gb333) (o := .cells #[.int .i64 a2_0, .int .i64 a2_1] 32 (0,0)) (kk' BK333.out) hb);have n4_:=am' (bb' (g:=gb334) (o := .cells #[.slice A3_0 l3_0.length c3_0, .bool a3_1] 35 (0,0)) (kk' BK334.out) hb);have n5_:=am' (bt' (y4' GE331.out GE332.out GE333.out GE334.out) hb);clear BK331;clear BK332;clear BK333;clear BK334;clear HB;have HO337:=n0_;have BK331:=n1_;have BK332:=n2_;have BK333:=n3_;have BK334:=n4_;have HB:=n5_;clear n0_ n1_ n2_ n3_ n4_ n5_;(try clear hb);(try clear hb2);(try clear hk);(try clear hi);(try clear ho0);have hcz29_0:w28.cell? ⟨gb331,0,none⟩=some (.int .i64 a0_0):=(bc' BK331.out 0).trans rfl;have hcz29_1:w28.cell? ⟨gb331,1,none⟩=some (.int .i64 a0_1):=(bc' BK331.out 1).trans rfl;have hfz29_0:=bf' BK331.out 0;have hfz29_1:=bf' BK331.out 1;have hcz30_0:w28.cell? ⟨gb332,0,none⟩=some (.slice A1_0 l1_0.length c1_0):=(bc' BK332.out 0).trans rfl;have hcz30_1:w28.cell? ⟨gb332,1,none⟩=some (.bool a1_1):=(bc' BK332.out 1).trans rfl;have hfz30_0:=bf' BK332.out 0;have hfz30_1:=bf' BK332.out 1)|((with_reducible refine gate_callee (f:=15) rfl ?_);refine goesL_ (some 68) rfl rfl Try.func15 xk' rfl #[.agg #[.int .i64 a0_0, .int .i64 a0_1], .agg #[.slice A1_0 l1_0.length c1_0, .bool a1_1]] rfl xl' ?_;(with_reducible refine (spec_RowsOf.calls kj13 a0_0 a0_1 _ _ l1_0 a1_1 t339 t342 _ ?side1 ?side2 A17.out).mono ?_);(case side1=>exact kc' (cb' HR1_0.out HB.out));(case side2=>exact HC1_0.out);rintro e w31 ⟨v340,rfl,ho0,hb⟩;refine ⟨_,rfl,?_⟩;obtain ⟨D400_,hdl_,hdg_⟩:=dlt_of hb;have D400_lt:=am' hdl_;have D400_ge:=am' hdg_;clear hdl_ hdg_;have n0_:=am' (Kd.S_elder' (Kd.S_dlt (kS' HO337.out) D400_lt.out) (Kd.S_base ho0) hb);have n1_:=am' (Kd.S_lower (Kd.S_new' (Kd.S_dge ho0 D400_ge.out) (Kd.S_lt (kS' HO337.out))) (bz' (y4' GE331.out GE332.out GE333.out GE334.out)));have n2_:=am' (bb' (g:=gb331) (o := .cells #[.int .i64 a0_0, .int .i64 a0_1] 32 (0,0)) (kk' BK331.out) hb);have n3_:=am' (bb' (g:=gb332) (o := .cells #[.slice A1_0 l1_0.length c1_0, .bool a1_1] 35 (0,0)) (kk' BK332.out) hb);have n4_:=am' (bb' (g:=gb333) (o := .cells #[.int .i64 a2_0, .int .i64 a2_1] 32 (0,0)) (kk' BK333.out) hb);have n5_:=am' (bb' (g:=gb334) (o := .cells #[.slice A3_0 l3_0.length c3_0, .bool a3_1] 35 (0,0)) (kk' BK334.out) hb);have n6_:=am' (bt' (y4' GE331.out GE332.out GE333.out GE334.out) hb);clear HO337;clear BK331;clear BK332;clear BK333;clear BK334;clear HB;have HO337:=n0_;have HO341:=n1_;have BK331:=n2_;have BK332:=n3_;have BK333:=n4_;have BK334:=n5_;have HB:=n6_;clear n0_ n1_ n2_ n3_ n4_ n5_ n6_;(try clear hb);(try clear hb2);(try clear hk);(try clear hi);(try clear ho0);have hcz32_0:w31.cell? ⟨gb331,0,none⟩=some (.int .i64 a0_0):=(bc' BK331.out 0).trans rfl;have hcz32_1:w31.cell? ⟨gb331,1,none⟩=some (.int .i64 a0_1):=(bc' BK331.out 1).trans rfl;have hfz32_0:=bf' BK331.out 0;have hfz32_1:=bf' BK331.out 1;have hcz33_0:w31.cell? ⟨gb332,0,none⟩=some (.slice A1_0 l1_0.length c1_0):=(bc' BK332.out 0).trans rfl;have hcz33_1:w31.cell? ⟨gb332,1,none⟩=some (.bool a1_1):=(bc' BK332.out 1).trans rfl;have hfz33_0:=bf' BK332.out 0;have hfz33_1:=bf' BK332.out 1)|((with_reducible refine gate_callee (f:=16) rfl ?_);refine goesL_ (some 74) rfl rfl Try.func16 xk' rfl #[.agg #[.int .i64 a0_0, .int .i64 a0_1], .agg #[.slice A1_0 l1_0.length c1_0, .bool a1_1]] rfl xl' ?_;(with_reducible refine (impl_IsCalm.calls kj13 a0_0 a0_1 _ _ l1_0 a1_1 t343 t344 _ ?side1 ?side2 A18.out).mono ?_);(case side1=>exact kc' (cb' HR1_0.out HB.out));(case side2=>exact HC1_0.out);rintro e w34 ⟨rfl,hb⟩;refine ⟨_,rfl,?_⟩;have n0_:=am' (Kd.S_below (kS' HO337.out) hb);have n1_:=am' (Kd.S_below (kS' HO341.out) hb);have n2_:=am' (bb' (g:=gb331) (o := .cells #[.int .i64 a0_0, .int .i64 a0_1] 32 (0,0)) (kk' BK331.out) hb);have n3_:=am' (bb' (g:=gb332) (o := .cells #[.slice A1_0 l1_0.length c1_0, .bool a1_1] 35 (0,0)) (kk' BK332.out) hb);have n4_:=am' (bb' (g:=gb333) (o := .cells #[.int .i64 a2_0, .int .i64 a2_1] 32 (0,0)) (kk' BK333.out) hb);have n5_:=am' (bb' (g:=gb334) (o := .cells #[.slice A3_0 l3_0.length c3_0, .bool a3_1] 35 (0,0)) (kk' BK334.out) hb);have n6_:=am' (bt' (y4' GE331.out GE332.out GE333.out GE334.out) hb);clear HO337;clear HO341;clear BK331;clear BK332;clear BK333;clear BK334;clear HB;have HO337:=n0_;have HO341:=n1_;have BK331:=n2_;have BK332:=n3_;have BK333:=n4_;have BK334:=n5_;have HB:=n6_;clear n0_ n1_ n2_ n3_ n4_ n5_ n6_;(try clear hb);(try clear hb2);(try clear hk);(try clear hi);have hcz35_0:w34.cell? ⟨gb331,0,none⟩=some (.int .i64 a0_0):=(bc' BK331.out 0).trans rfl;have hcz35_1:w34.cell? ⟨gb331,1,none⟩=some (.int .i64 a0_1):=(bc' BK331.out 1).trans rfl;have hfz35_0:=bf' BK331.out 0;have hfz35_1:=bf' BK331.out 1;have hcz36_0:w34.cell? ⟨gb332,0,none⟩=some (.slice A1_0 l1_0.length c1_0):=(bc' BK332.out 0).trans rfl;have hcz36_1:w34.cell? ⟨gb332,1,none⟩=some (.bool a1_1):=(bc' BK332.out 1).trans rfl;have hfz36_0:=bf' BK332.out 0;have hfz36_1:=bf' BK332.out 1)|((with_reducible refine gate_callee (f:=17) rfl ?_);refine goesL_ (some 80) rfl rfl Try.func17 xk' rfl #[.agg #[.int .i64 a0_0, .int .i64 a0_1], .agg #[.slice A1_0 l1_0.length c1_0, .bool a1_1]] rfl xl' ?_;(with_reducible refine (spec_IsCalm.calls kj13 a0_0 a0_1 _ _ l1_0 a1_1 t345 t346 _ ?side1 ?side2 A19.out).mono ?_);(case side1=>exact kc' (cb' HR1_0.out HB.out));(case side2=>exact HC1_0.out);rintro e w37 ⟨rfl,hb⟩;refine ⟨_,rfl,?_⟩;have n0_:=am' (Kd.S_below (kS' HO337.out) hb);have n1_:=am' (Kd.S_below (kS' HO341.out) hb);have n2_:=am' (bb' (g:=gb331) (o := .cells #[.int .i64 a0_0, .int .i64 a0_1] 32 (0,0)) (kk' BK331.out) hb);have n3_:=am' (bb' (g:=gb332) (o := .cells #[.slice A1_0 l1_0.length c1_0, .bool a1_1] 35 (0,0)) (kk' BK332.out) hb);have n4_:=am' (bb' (g:=gb333) (o := .cells #[.int .i64 a2_0, .int .i64 a2_1] 32 (0,0)) (kk' BK333.out) hb);have n5_:=am' (bb' (g:=gb334) (o := .cells #[.slice A3_0 l3_0.length c3_0, .bool a3_1] 35 (0,0)) (kk' BK334.out) hb);have n6_:=am' (bt' (y4' GE331.out GE332.out GE333.out GE334.out) hb);clear HO337;clear HO341;clear BK331;clear BK332;clear BK333;clear BK334;clear HB;have HO337:=n0_;have HO341:=n1_;have BK331:=n2_;have BK332:=n3_;have BK333:=n4_;have BK334:=n5_;have HB:=n6_;clear n0_ n1_ n2_ n3_ n4_ n5_ n6_;(try clear hb);(try clear hb2);(try clear hk);(try clear hi)))
     (try simp only[Act.put,sa',sb',sc'])
     go_cut [124] from 59 to 82 (fun v124 wc=>∃ (kq:Nat) (x124_19:Bool),v124 = .bool x124_19∧Aside0 (laws_FnCouplesCalmOfAll.j2 kq l4 a5 l6 t335 t338 x124_19 a0_0 a0_1 l1_0 a1_1 a2_0 a2_1 l3_0 a3_1=some r)∧Aside0 (kq≤kj13)∧Aside0 (Kd.S (Kd.slice 3 (Kd.int .i64)) 28 wc w.heap.size (fun k_=>¬ D399_ k_∧D400_ k_) v336 t335)∧Aside0 (wc.heap[gb331]? = some (.cells #[.int .i64 a0_0, .int .i64 a0_1] 32 (0,0)))∧Aside0 (wc.heap[gb332]? = some (.cells #[(.slice A1_0 l1_0.length c1_0), .bool a1_1] 35 (0,0)))∧Aside0 (wc.heap[gb333]? = some (.cells #[.int .i64 a2_0, .int .i64 a2_1] 32 (0,0)))∧Aside0 (wc.heap[gb334]? = some (.cells #[(.slice A3_0 l3_0.length c3_0), .bool a3_1] 35 (0,0)))∧Aside0 (Below w.heap.size w wc))
     case first =>
      have H:=HC20.out;clear HC20;by_cases c38:(t338 != t342)=true
      ·
       rw[if_pos c38] at H;exact (laws_FnCouplesCalmOfAll.j2_dead _ _ _ _ _ _ _ _ _ _ _ _ _ _ _ HRT.out rfl H).elim
      ·
       rw[if_neg c38] at H;have c38b0:(t338 != t342)=false:=by simpa using c38
       (try (have c38b1:decide (t338=t342)=true:=by simpa using c38))
       (try (have c38b2:(t338 == t342)=true:=by simpa using c38))
       clear c38;(first|rw[c38b0]|(simp only[i64_w,i32_w];rw[c38b0])|rw[c38b1]|skip)
       replace H:=Option.bind_eq_some_iff.mp H;obtain ⟨t347,A390,H⟩:=H;replace H:(if t347=true then (if (t344 != t346)=true then (laws_FnCouplesCalmOfAll.j2 kj13 l4 a5 l6 t335 t338 true a0_0 a0_1 l1_0 a1_1 a2_0 a2_1 l3_0 a3_1) else (if (t343 != t345)=true then (laws_FnCouplesCalmOfAll.j2 kj13 l4 a5 l6 t335 t338 true a0_0 a0_1 l1_0 a1_1 a2_0 a2_1 l3_0 a3_1) else (if t344=true then (if (t338 != t343)=true then (laws_FnCouplesCalmOfAll.j2 kj13 l4 a5 l6 t335 t338 true a0_0 a0_1 l1_0 a1_1 a2_0 a2_1 l3_0 a3_1) else ((impl_IsCompany.f a0_0 a0_1).bind fun t348=>(if t348=true then ((impl_IsCompany.f a0_0 a0_1).bind fun t349=>((spec_IsCompany.f a0_0 a0_1).bind fun t350=>(laws_FnCouplesCalmOfAll.j2 kj13 l4 a5 l6 t335 t338 (t349 != t350) a0_0 a0_1 l1_0 a1_1 a2_0 a2_1 l3_0 a3_1))) else (laws_FnCouplesCalmOfAll.j2 kj13 l4 a5 l6 t335 t338 true a0_0 a0_1 l1_0 a1_1 a2_0 a2_1 l3_0 a3_1)))) else (if (t338 != false)=true then (laws_FnCouplesCalmOfAll.j2 kj13 l4 a5 l6 t335 t338 true a0_0 a0_1 l1_0 a1_1 a2_0 a2_1 l3_0 a3_1) else ((impl_IsCompany.f a0_0 a0_1).bind fun t351=>((spec_IsCompany.f a0_0 a0_1).bind fun t352=>(laws_FnCouplesCalmOfAll.j2 kj13 l4 a5 l6 t335 t338 (t351 != t352) a0_0 a0_1 l1_0 a1_1 a2_0 a2_1 l3_0 a3_1))))))) else (laws_FnCouplesCalmOfAll.j2 kj13 l4 a5 l6 t335 t338 true a0_0 a0_1 l1_0 a1_1 a2_0 a2_1 l3_0 a3_1))=some r:=H;have A39:=am' A390;clear A390;by_cases c40:t347=true
       ·
        subst c40;have H1:(if (t344 != t346)=true then (laws_FnCouplesCalmOfAll.j2 kj13 l4 a5 l6 t335 t338 true a0_0 a0_1 l1_0 a1_1 a2_0 a2_1 l3_0 a3_1) else (if (t343 != t345)=true then (laws_FnCouplesCalmOfAll.j2 kj13 l4 a5 l6 t335 t338 true a0_0 a0_1 l1_0 a1_1 a2_0 a2_1 l3_0 a3_1) else (if t344=true then (if (t338 != t343)=true then (laws_FnCouplesCalmOfAll.j2 kj13 l4 a5 l6 t335 t338 true a0_0 a0_1 l1_0 a1_1 a2_0 a2_1 l3_0 a3_1) else ((impl_IsCompany.f a0_0 a0_1).bind fun t348=>(if t348=true then ((impl_IsCompany.f a0_0 a0_1).bind fun t349=>((spec_IsCompany.f a0_0 a0_1).bind fun t350=>(laws_FnCouplesCalmOfAll.j2 kj13 l4 a5 l6 t335 t338 (t349 != t350) a0_0 a0_1 l1_0 a1_1 a2_0 a2_1 l3_0 a3_1))) else (laws_FnCouplesCalmOfAll.j2 kj13 l4 a5 l6 t335 t338 true a0_0 a0_1 l1_0 a1_1 a2_0 a2_1 l3_0 a3_1)))) else (if (t338 != false)=true then (laws_FnCouplesCalmOfAll.j2 kj13 l4 a5 l6 t335 t338 true a0_0 a0_1 l1_0 a1_1 a2_0 a2_1 l3_0 a3_1) else ((impl_IsCompany.f a0_0 a0_1).bind fun t351=>((spec_IsCompany.f a0_0 a0_1).bind fun t352=>(laws_FnCouplesCalmOfAll.j2 kj13 l4 a5 l6 t335 t338 (t351 != t352) a0_0 a0_1 l1_0 a1_1 a2_0 a2_1 l3_0 a3_1)))))))=some r:=by rw[if_pos rfl] at H;exact H
        clear H;have H:=H1;clear H1;by_cases c41:(t344 != t346)=true
        ·
         rw[if_pos c41] at H;exact (laws_FnCouplesCalmOfAll.j2_dead _ _ _ _ _ _ _ _ _ _ _ _ _ _ _ HRT.out rfl H).elim
        ·
         rw[if_neg c41] at H;have c41b0:(t344 != t346)=false:=by simpa using c41
         (try (have c41b1:decide (t344=t346)=true:=by simpa using c41))
         (try (have c41b2:(t344 == t346)=true:=by simpa using c41))
         clear c41;by_cases c42:(t343 != t345)=true
         ·
          rw[if_pos c42] at H;exact (laws_FnCouplesCalmOfAll.j2_dead _ _ _ _ _ _ _ _ _ _ _ _ _ _ _ HRT.out rfl H).elim
         ·
          rw[if_neg c42] at H;have c42b0:(t343 != t345)=false:=by simpa using c42
          (try (have c42b1:decide (t343=t345)=true:=by simpa using c42))
          (try (have c42b2:(t343 == t345)=true:=by simpa using c42))
          clear c42;by_cases c43:t344=true
          ·
           subst c43;have H1:(if (t338 != t343)=true then (laws_FnCouplesCalmOfAll.j2 kj13 l4 a5 l6 t335 t338 true a0_0 a0_1 l1_0 a1_1 a2_0 a2_1 l3_0 a3_1) else ((impl_IsCompany.f a0_0 a0_1).bind fun t348=>(if t348=true then ((impl_IsCompany.f a0_0 a0_1).bind fun t349=>((spec_IsCompany.f a0_0 a0_1).bind fun t350=>(laws_FnCouplesCalmOfAll.j2 kj13 l4 a5 l6 t335 t338 (t349 != t350) a0_0 a0_1 l1_0 a1_1 a2_0 a2_1 l3_0 a3_1))) else (laws_FnCouplesCalmOfAll.j2 kj13 l4 a5 l6 t335 t338 true a0_0 a0_1 l1_0 a1_1 a2_0 a2_1 l3_0 a3_1))))=some r:=by rw[if_pos rfl] at H;exact H
           clear H;have H:=H1;clear H1;by_cases c44:(t338 != t343)=true
           ·
            rw[if_pos c44] at H;exact (laws_FnCouplesCalmOfAll.j2_dead _ _ _ _ _ _ _ _ _ _ _ _ _ _ _ HRT.out rfl H).elim
           ·
            rw[if_neg c44] at H;have c44b0:(t338 != t343)=false:=by simpa using c44
            (try (have c44b1:decide (t338=t343)=true:=by simpa using c44))
            (try (have c44b2:(t338 == t343)=true:=by simpa using c44))
            clear c44;replace H:=Option.bind_eq_some_iff.mp H;obtain ⟨t348,A450,H⟩:=H;replace H:(if t348=true then ((impl_IsCompany.f a0_0 a0_1).bind fun t349=>((spec_IsCompany.f a0_0 a0_1).bind fun t350=>(laws_FnCouplesCalmOfAll.j2 kj13 l4 a5 l6 t335 t338 (t349 != t350) a0_0 a0_1 l1_0 a1_1 a2_0 a2_1 l3_0 a3_1))) else (laws_FnCouplesCalmOfAll.j2 kj13 l4 a5 l6 t335 t338 true a0_0 a0_1 l1_0 a1_1 a2_0 a2_1 l3_0 a3_1))=some r:=H;have A45:=am' A450;clear A450;by_cases c46:t348=true
            ·
             subst c46;have H1:((impl_IsCompany.f a0_0 a0_1).bind fun t349=>((spec_IsCompany.f a0_0 a0_1).bind fun t350=>(laws_FnCouplesCalmOfAll.j2 kj13 l4 a5 l6 t335 t338 (t349 != t350) a0_0 a0_1 l1_0 a1_1 a2_0 a2_1 l3_0 a3_1)))=some r:=by rw[if_pos rfl] at H;exact H
             clear H;have H:=H1;clear H1;replace H:=Option.bind_eq_some_iff.mp H;obtain ⟨t349,A470,H⟩:=H;replace H:((spec_IsCompany.f a0_0 a0_1).bind fun t350=>(laws_FnCouplesCalmOfAll.j2 kj13 l4 a5 l6 t335 t338 (t349 != t350) a0_0 a0_1 l1_0 a1_1 a2_0 a2_1 l3_0 a3_1))=some r:=H;have A47:=am' A470;clear A470;replace H:=Option.bind_eq_some_iff.mp H;obtain ⟨t350,A480,H⟩:=H;replace H:(laws_FnCouplesCalmOfAll.j2 kj13 l4 a5 l6 t335 t338 (t349 != t350) a0_0 a0_1 l1_0 a1_1 a2_0 a2_1 l3_0 a3_1)=some r:=H;have A48:=am' A480;clear A480;have H':=am' H;clear H;try go_wp2
             have n0_:=am' (Kd.S_drew HO337.out);have n1_:=am' (Kd.S_drew HO341.out);have n2_:=am' (kd' BK331.out);have n3_:=am' (kd' BK332.out);have n4_:=am' (kd' BK333.out);have n5_:=am' (kd' BK334.out);have n6_:=am' (be' HB.out);clear HO337;clear HO341;clear BK331;clear BK332;clear BK333;clear BK334;clear HB;have HO337:=n0_;have HO341:=n1_;have BK331:=n2_;have BK332:=n3_;have BK333:=n4_;have BK334:=n5_;have HB:=n6_;clear n0_ n1_ n2_ n3_ n4_ n5_ n6_;obtain ⟨Ao50,co50,eo50⟩:=Kd.S_slice HO337.out
             (first|subst eo50|(injection eo50 with f1_ f2_ f3_;have f4_:=f1_.symm;have f5_:=f3_.symm;clear f1_ f2_ f3_;subst f4_;subst f5_))
             obtain ⟨Ao51,co51,eo51⟩:=Kd.S_slice HO341.out
             (first|subst eo51|(injection eo51 with f1_ f2_ f3_;have f4_:=f1_.symm;have f5_:=f3_.symm;clear f1_ f2_ f3_;subst f4_;subst f5_))
             refine start_ (n:=42) (S:=fun w'=>w'.cell? ⟨gb331,0,none⟩=some (.int .i64 a0_0)∧w'.cell? ⟨gb331,1,none⟩=some (.int .i64 a0_1)) (ds:=[]) #[false,false,false,false,false,false,false,false,false,false,false,false,false,false,false,false,false,false,false,false,false,false,false,false,false,false,false,false,false,false,false,false,false,false,false,false,false,false,false,false,false,false] xk' rfl rfl ⟨(bc' BK331.out 0).trans rfl,(bc' BK331.out 1).trans rfl⟩ (fun hHeld=>?_);refine with_tabW laws_FnCouplesCalmOfAll.tab7 laws_FnCouplesCalmOfAll.bits7 (fun HT_ HW_=>?_);generalize w37.drew=w49 at HO337 HO341 BK331 BK332 BK333 BK334 HB hHeld ⊢
             refine pA' 0 (some 83) (bB' 42 1) (h:=?_);refine pA' 1 (some 84) (bB' 42 3) (h:=?_);refine pA' 2 (some 85) (bB' 42 7) (h:=?_);refine pA' 3 (some 86) (bB' 42 15) (h:=?_);refine pA' 4 (some 87) (bB' 42 31) (h:=?_);refine pA' 5 (some 88) (bB' 42 63) (h:=?_);refine one_ (i:=6) (N:=some 89) #[true,true,true,true,true,true,true,false,false,false,false,false,false,false,false,false,false,false,false,false,false,false,false,false,false,false,false,false,false,false,false,false,false,false,false,false,false,false,false,false,false,false] rfl rfl (one_of HT_.out xk') (by decide) (fun K hK=>?_);refine goes_ Try.func9 xk' rfl #[.slice Ao50 t335.length co50, .slice Ao51 t339.length co51] (by rfl) rfl rfl xl' ?_
             with_reducible refine (laws_hRows.calls kj13 _ _ t335 _ _ t339 true _ ?side1 ?side2 ?side3 ?side4 A39.out).mono ?_
             (case side1=>exact kc' ((Kd.S_reads' HO337.out).2.2))
             (case side2=>exact (Kd.S_reads' HO337.out).2.1)
             (case side3=>exact kc' ((Kd.S_reads' HO341.out).2.2))
             (case side4=>exact (Kd.S_reads' HO341.out).2.1)
             rintro e w' ⟨rfl,⟨nd,rfl⟩⟩
             refine ⟨_,rfl,?_⟩;refine hK.out _ _ ⟨(bc' BK331.out 0).trans rfl,(bc' BK331.out 1).trans rfl⟩ (fun hHeld=>?_);clear hK K;refine norm_ (a':=?_) ?_ ?_
             rotate_left
             ·
              show Act.put _ (some 89) _=_
              simp only[Act.put,sa',sb',sc',i64_w,i32_w];rfl
             refine pA' 7 (some 90) (bB' 42 255) (h:=?_);refine pA' 8 (some 91) (bB' 42 511) (h:=?_);refine pA' 9 (some 92) (bB' 42 1023) (h:=?_);refine pA' 10 (some 93) (bB' 42 2047) (h:=?_);refine pA' 11 (some 94) (bB' 42 4095) (h:=?_);refine pA' 12 (some 95) (bB' 42 8191) (h:=?_);refine pA' 13 (some 96) (bB' 42 16383) (h:=?_);refine pA' 14 (some 97) (bB' 42 32767) (h:=?_);refine pA' 15 (some 98) (bB' 42 65535) (h:=?_);refine pA' 16 (some 99) (bB' 42 131071) (h:=?_);refine pA' 17 (some 100) (bB' 42 262143) (h:=?_);refine pA' 18 (some 101) (bB' 42 524287) (h:=?_);refine pA' 19 (some 102) (bB' 42 1048575) (h:=?_);refine pA' 20 (some 103) (bB' 42 2097151) (h:=?_);refine pA' 21 (some 104) (bB' 42 4194303) (h:=?_);refine pA' 22 (some 105) (bB' 42 8388607) (h:=?_);refine pA' 23 (some 106) (bB' 42 16777215) (h:=?_);refine pA' 24 (some 107) (bB' 42 33554431) (h:=?_);refine pA' 25 (some 108) (bB' 42 67108863) (h:=?_);refine pA' 26 (some 109) (bB' 42 134217727) (h:=?_);refine pA' 27 (some 110) (bB' 42 268435455) (h:=?_);refine pA' 28 (some 111) (bB' 42 536870911) (h:=?_);refine pA' 29 (some 112) (bB' 42 1073741823) (h:=?_);refine take_ (i:=30) (N:=some 113) (v:=?_) (a':=?_) #[true,true,true,true,true,true,true,true,true,true,true,true,true,true,true,true,true,true,true,true,true,true,true,true,true,true,true,true,true,true,true,false,false,false,false,false,false,false,false,false,false,false] rfl rfl (take_ofW HT_.out HW_.out xk') (fun _ _ _ h=>h) (Or.inl ⟨by rfl,?_⟩) hHeld ?_ ?_
             rotate_left
             ·
              rintro w' ⟨s0,s1⟩
              go_simp;with_reducible rfl
             rotate_left
             ·
              simp only[Act.put,sa',sb',sc',i64_w,i32_w];rfl
             refine one_ (i:=31) (N:=some 114) #[true,true,true,true,true,true,true,true,true,true,true,true,true,true,true,true,true,true,true,true,true,true,true,true,true,true,true,true,true,true,true,true,false,false,false,false,false,false,false,false,false,false] rfl rfl (one_of HT_.out xk') (by decide) (fun K hK=>?_);refine goes_ Try.func18 xk' rfl #[.agg #[.int .i64 a0_0, .int .i64 a0_1]] (by rfl) rfl rfl xl' ?_
             with_reducible refine (impl_IsCompany.calls a0_0 a0_1 true _ A45.out).mono ?_
             rintro e w52 ⟨rfl,hb⟩
             refine ⟨_,rfl,?_⟩;have n0_:=am' (Kd.S_below (kS' HO337.out) hb);have n1_:=am' (Kd.S_below (kS' HO341.out) hb);have n2_:=am' (bb' (g:=gb331) (o := .cells #[.int .i64 a0_0, .int .i64 a0_1] 32 (0,0)) (kk' BK331.out) hb);have n3_:=am' (bb' (g:=gb332) (o := .cells #[.slice A1_0 l1_0.length c1_0, .bool a1_1] 35 (0,0)) (kk' BK332.out) hb);have n4_:=am' (bb' (g:=gb333) (o := .cells #[.int .i64 a2_0, .int .i64 a2_1] 32 (0,0)) (kk' BK333.out) hb);have n5_:=am' (bb' (g:=gb334) (o := .cells #[.slice A3_0 l3_0.length c3_0, .bool a3_1] 35 (0,0)) (kk' BK334.out) hb);have n6_:=am' (bt' (y4' GE331.out GE332.out GE333.out GE334.out) hb);clear HO337;clear HO341;clear BK331;clear BK332;clear BK333;clear BK334;clear HB;have HO337:=n0_;have HO341:=n1_;have BK331:=n2_;have BK332:=n3_;have BK333:=n4_;have BK334:=n5_;have HB:=n6_;clear n0_ n1_ n2_ n3_ n4_ n5_ n6_;(try clear hb)
             (try clear hb2)
             (try clear hk)
             (try clear hi)
             refine hK.out _ _ ⟨(bc' BK331.out 0).trans rfl,(bc' BK331.out 1).trans rfl⟩ (fun hHeld=>?_);clear hK K;refine norm_ (a':=?_) ?_ ?_
             rotate_left
             ·
              show Act.put _ (some 114) _=_
              simp only[Act.put,sa',sb',sc',i64_w,i32_w];rfl
             refine pA' 32 (some 115) (bB' 42 8589934591) (h:=?_);refine pA' 33 (some 116) (bB' 42 17179869183) (h:=?_);refine pA' 34 (some 117) (bB' 42 34359738367) (h:=?_);refine pA' 35 (some 118) (bB' 42 68719476735) (h:=?_);refine take_ (i:=36) (N:=some 119) (v:=?_) (a':=?_) #[true,true,true,true,true,true,true,true,true,true,true,true,true,true,true,true,true,true,true,true,true,true,true,true,true,true,true,true,true,true,true,true,true,true,true,true,true,false,false,false,false,false] rfl rfl (take_ofW HT_.out HW_.out xk') (fun _ _ _ h=>h) (Or.inl ⟨by rfl,?_⟩) hHeld ?_ ?_
             rotate_left
             ·
              rintro w' ⟨s0,s1⟩
              go_simp;with_reducible rfl
             rotate_left
             ·
              simp only[Act.put,sa',sb',sc',i64_w,i32_w];rfl
             refine take_ (i:=38) (N:=some 121) (v:=?_) (a':=?_) #[true,true,true,true,true,true,true,true,true,true,true,true,true,true,true,true,true,true,true,true,true,true,true,true,true,true,true,true,true,true,true,true,true,true,true,true,true,false,true,false,false,false] rfl rfl (take_ofW HT_.out HW_.out xk') (fun _ _ _ h=>h) (Or.inl ⟨by rfl,?_⟩) hHeld ?_ ?_
             rotate_left
             ·
              rintro w' ⟨s0,s1⟩
              go_simp;with_reducible rfl
             rotate_left
             ·
              simp only[Act.put,sa',sb',sc',i64_w,i32_w];rfl
             refine one_ (i:=37) (N:=some 120) #[true,true,true,true,true,true,true,true,true,true,true,true,true,true,true,true,true,true,true,true,true,true,true,true,true,true,true,true,true,true,true,true,true,true,true,true,true,true,true,false,false,false] rfl rfl (one_of HT_.out xk') (by decide) (fun K hK=>?_);refine goes_ Try.func18 xk' rfl #[.agg #[.int .i64 a0_0, .int .i64 a0_1]] (by rfl) rfl rfl xl' ?_
             with_reducible refine (impl_IsCompany.calls a0_0 a0_1 t349 _ A47.out).mono ?_
             rintro e w53 ⟨rfl,hb⟩
             refine ⟨_,rfl,?_⟩;have n0_:=am' (Kd.S_below (kS' HO337.out) hb);have n1_:=am' (Kd.S_below (kS' HO341.out) hb);have n2_:=am' (bb' (g:=gb331) (o := .cells #[.int .i64 a0_0, .int .i64 a0_1] 32 (0,0)) (kk' BK331.out) hb);have n3_:=am' (bb' (g:=gb332) (o := .cells #[.slice A1_0 l1_0.length c1_0, .bool a1_1] 35 (0,0)) (kk' BK332.out) hb);have n4_:=am' (bb' (g:=gb333) (o := .cells #[.int .i64 a2_0, .int .i64 a2_1] 32 (0,0)) (kk' BK333.out) hb);have n5_:=am' (bb' (g:=gb334) (o := .cells #[.slice A3_0 l3_0.length c3_0, .bool a3_1] 35 (0,0)) (kk' BK334.out) hb);have n6_:=am' (bt' (y4' GE331.out GE332.out GE333.out GE334.out) hb);clear HO337;clear HO341;clear BK331;clear BK332;clear BK333;clear BK334;clear HB;have HO337:=n0_;have HO341:=n1_;have BK331:=n2_;have BK332:=n3_;have BK333:=n4_;have BK334:=n5_;have HB:=n6_;clear n0_ n1_ n2_ n3_ n4_ n5_ n6_;(try clear hb)
             (try clear hb2)
             (try clear hk)
             (try clear hi)
             refine hK.out _ _ ⟨(bc' BK331.out 0).trans rfl,(bc' BK331.out 1).trans rfl⟩ (fun hHeld=>?_);clear hK K;refine norm_ (a':=?_) ?_ ?_
             rotate_left
             ·
              show Act.put _ (some 120) _=_
              simp only[Act.put,sa',sb',sc',i64_w,i32_w];rfl
             refine one_ (i:=39) (N:=some 122) #[true,true,true,true,true,true,true,true,true,true,true,true,true,true,true,true,true,true,true,true,true,true,true,true,true,true,true,true,true,true,true,true,true,true,true,true,true,true,true,true,false,false] rfl rfl (one_of HT_.out xk') (by decide) (fun K hK=>?_);refine goes_ Try.func19 xk' rfl #[.agg #[.int .i64 a0_0, .int .i64 a0_1]] (by rfl) rfl rfl xl' ?_
             with_reducible refine (spec_IsCompany.calls a0_0 a0_1 t350 _ A48.out).mono ?_
             rintro e w54 ⟨rfl,hb⟩
             refine ⟨_,rfl,?_⟩;have n0_:=am' (Kd.S_below (kS' HO337.out) hb);have n1_:=am' (Kd.S_below (kS' HO341.out) hb);have n2_:=am' (bb' (g:=gb331) (o := .cells #[.int .i64 a0_0, .int .i64 a0_1] 32 (0,0)) (kk' BK331.out) hb);have n3_:=am' (bb' (g:=gb332) (o := .cells #[.slice A1_0 l1_0.length c1_0, .bool a1_1] 35 (0,0)) (kk' BK332.out) hb);have n4_:=am' (bb' (g:=gb333) (o := .cells #[.int .i64 a2_0, .int .i64 a2_1] 32 (0,0)) (kk' BK333.out) hb);have n5_:=am' (bb' (g:=gb334) (o := .cells #[.slice A3_0 l3_0.length c3_0, .bool a3_1] 35 (0,0)) (kk' BK334.out) hb);have n6_:=am' (bt' (y4' GE331.out GE332.out GE333.out GE334.out) hb);clear HO337;clear HO341;clear BK331;clear BK332;clear BK333;clear BK334;clear HB;have HO337:=n0_;have HO341:=n1_;have BK331:=n2_;have BK332:=n3_;have BK333:=n4_;have BK334:=n5_;have HB:=n6_;clear n0_ n1_ n2_ n3_ n4_ n5_ n6_;(try clear hb)
             (try clear hb2)
             (try clear hk)
             (try clear hi)
             refine hK.out _ _ ⟨(bc' BK331.out 0).trans rfl,(bc' BK331.out 1).trans rfl⟩ (fun hHeld=>?_);clear hK K;refine norm_ (a':=?_) ?_ ?_
             rotate_left
             ·
              show Act.put _ (some 122) _=_
              simp only[Act.put,sa',sb',sc',i64_w,i32_w];rfl
             refine pA' 40 (some 123) (bB' 42 2199023255551) (h:=?_);refine pA' 41 (some 124) (bB' 42 4398046511103) (h:=?_);refine done_ (done_of HT_.out xk') ?_
             try go_wp2
             go_meet
             case rel=>exact ⟨_,((t349 != t350)),xs',H',⟨by have:=HJ7.out;have:=HJ13.out;first|omega|exact Nat.le_refl _⟩,⟨by (with_reducible repeat (first|apply Kd.S_alloc|apply Kd.S_drewN|apply Kd.S_drew));exact Kd.S_mono HO337.out (fun _ hk=>⟨hk.1.1.2,hk.1.2⟩)⟩,⟨kk' BK331.out⟩,⟨kk' BK332.out⟩,⟨kk' BK333.out⟩,⟨kk' BK334.out⟩,⟨y4' GE331.out GE332.out GE333.out GE334.out⟩⟩
            ·
             rw[if_neg c46] at H;exact (laws_FnCouplesCalmOfAll.j2_dead _ _ _ _ _ _ _ _ _ _ _ _ _ _ _ HRT.out rfl H).elim
          ·
           replace c43:=Bool.eq_false_iff.mpr c43;subst c43;have H1:(if (t338 != false)=true then (laws_FnCouplesCalmOfAll.j2 kj13 l4 a5 l6 t335 t338 true a0_0 a0_1 l1_0 a1_1 a2_0 a2_1 l3_0 a3_1) else ((impl_IsCompany.f a0_0 a0_1).bind fun t351=>((spec_IsCompany.f a0_0 a0_1).bind fun t352=>(laws_FnCouplesCalmOfAll.j2 kj13 l4 a5 l6 t335 t338 (t351 != t352) a0_0 a0_1 l1_0 a1_1 a2_0 a2_1 l3_0 a3_1))))=some r:=by rw[if_neg (show ¬ (false=true) by decide)] at H;exact H
           clear H;have H:=H1;clear H1;by_cases c55:(t338 != false)=true
           ·
            rw[if_pos c55] at H;exact (laws_FnCouplesCalmOfAll.j2_dead _ _ _ _ _ _ _ _ _ _ _ _ _ _ _ HRT.out rfl H).elim
           ·
            rw[if_neg c55] at H;have c55b0:(t338 != false)=false:=by simpa using c55
            (try (have c55b1:decide (t338=false)=true:=by simpa using c55))
            (try (have c55b2:(t338 == false)=true:=by simpa using c55))
            clear c55;replace H:=Option.bind_eq_some_iff.mp H;obtain ⟨t351,A560,H⟩:=H;replace H:((spec_IsCompany.f a0_0 a0_1).bind fun t352=>(laws_FnCouplesCalmOfAll.j2 kj13 l4 a5 l6 t335 t338 (t351 != t352) a0_0 a0_1 l1_0 a1_1 a2_0 a2_1 l3_0 a3_1))=some r:=H;have A56:=am' A560;clear A560;replace H:=Option.bind_eq_some_iff.mp H;obtain ⟨t352,A570,H⟩:=H;replace H:(laws_FnCouplesCalmOfAll.j2 kj13 l4 a5 l6 t335 t338 (t351 != t352) a0_0 a0_1 l1_0 a1_1 a2_0 a2_1 l3_0 a3_1)=some r:=H;have A57:=am' A570;clear A570;have H':=am' H;clear H;try go_wp2
            have n0_:=am' (Kd.S_drew HO337.out);have n1_:=am' (Kd.S_drew HO341.out);have n2_:=am' (kd' BK331.out);have n3_:=am' (kd' BK332.out);have n4_:=am' (kd' BK333.out);have n5_:=am' (kd' BK334.out);have n6_:=am' (be' HB.out);clear HO337;clear HO341;clear BK331;clear BK332;clear BK333;clear BK334;clear HB;have HO337:=n0_;have HO341:=n1_;have BK331:=n2_;have BK332:=n3_;have BK333:=n4_;have BK334:=n5_;have HB:=n6_;clear n0_ n1_ n2_ n3_ n4_ n5_ n6_;obtain ⟨Ao59,co59,eo59⟩:=Kd.S_slice HO337.out
            (first|subst eo59|(injection eo59 with f1_ f2_ f3_;have f4_:=f1_.symm;have f5_:=f3_.symm;clear f1_ f2_ f3_;subst f4_;subst f5_))
            obtain ⟨Ao60,co60,eo60⟩:=Kd.S_slice HO341.out
            (first|subst eo60|(injection eo60 with f1_ f2_ f3_;have f4_:=f1_.symm;have f5_:=f3_.symm;clear f1_ f2_ f3_;subst f4_;subst f5_))
            refine start_ (n:=42) (S:=fun w'=>w'.cell? ⟨gb331,0,none⟩=some (.int .i64 a0_0)∧w'.cell? ⟨gb331,1,none⟩=some (.int .i64 a0_1)) (ds:=[]) #[false,false,false,false,false,false,false,false,false,false,false,false,false,false,false,false,false,false,false,false,false,false,false,false,false,false,false,false,false,false,false,false,false,false,false,false,false,false,false,false,false,false] xk' rfl rfl ⟨(bc' BK331.out 0).trans rfl,(bc' BK331.out 1).trans rfl⟩ (fun hHeld=>?_);refine with_tabW laws_FnCouplesCalmOfAll.tab7 laws_FnCouplesCalmOfAll.bits7 (fun HT_ HW_=>?_);generalize w37.drew=w58 at HO337 HO341 BK331 BK332 BK333 BK334 HB hHeld ⊢
            refine pA' 0 (some 83) (bB' 42 1) (h:=?_);refine pA' 1 (some 84) (bB' 42 3) (h:=?_);refine pA' 2 (some 85) (bB' 42 7) (h:=?_);refine pA' 3 (some 86) (bB' 42 15) (h:=?_);refine pA' 4 (some 87) (bB' 42 31) (h:=?_);refine pA' 5 (some 88) (bB' 42 63) (h:=?_);refine one_ (i:=6) (N:=some 89) #[true,true,true,true,true,true,true,false,false,false,false,false,false,false,false,false,false,false,false,false,false,false,false,false,false,false,false,false,false,false,false,false,false,false,false,false,false,false,false,false,false,false] rfl rfl (one_of HT_.out xk') (by decide) (fun K hK=>?_);refine goes_ Try.func9 xk' rfl #[.slice Ao59 t335.length co59, .slice Ao60 t339.length co60] (by rfl) rfl rfl xl' ?_
            with_reducible refine (laws_hRows.calls kj13 _ _ t335 _ _ t339 true _ ?side1 ?side2 ?side3 ?side4 A39.out).mono ?_
            (case side1=>exact kc' ((Kd.S_reads' HO337.out).2.2))
            (case side2=>exact (Kd.S_reads' HO337.out).2.1)
            (case side3=>exact kc' ((Kd.S_reads' HO341.out).2.2))
            (case side4=>exact (Kd.S_reads' HO341.out).2.1)
            rintro e w' ⟨rfl,⟨nd,rfl⟩⟩
            refine ⟨_,rfl,?_⟩;refine hK.out _ _ ⟨(bc' BK331.out 0).trans rfl,(bc' BK331.out 1).trans rfl⟩ (fun hHeld=>?_);clear hK K;refine norm_ (a':=?_) ?_ ?_
            rotate_left
            ·
             show Act.put _ (some 89) _=_
             simp only[Act.put,sa',sb',sc',i64_w,i32_w];rfl
            refine pA' 7 (some 90) (bB' 42 255) (h:=?_);refine pA' 8 (some 91) (bB' 42 511) (h:=?_);refine pA' 9 (some 92) (bB' 42 1023) (h:=?_);refine pA' 10 (some 93) (bB' 42 2047) (h:=?_);refine pA' 11 (some 94) (bB' 42 4095) (h:=?_);refine pA' 12 (some 95) (bB' 42 8191) (h:=?_);refine pA' 13 (some 96) (bB' 42 16383) (h:=?_);refine pA' 14 (some 97) (bB' 42 32767) (h:=?_);refine pA' 15 (some 98) (bB' 42 65535) (h:=?_);refine pA' 16 (some 99) (bB' 42 131071) (h:=?_);refine pA' 17 (some 100) (bB' 42 262143) (h:=?_);refine pA' 18 (some 101) (bB' 42 524287) (h:=?_);refine pA' 19 (some 102) (bB' 42 1048575) (h:=?_);refine pA' 20 (some 103) (bB' 42 2097151) (h:=?_);refine pA' 21 (some 104) (bB' 42 4194303) (h:=?_);refine pA' 22 (some 105) (bB' 42 8388607) (h:=?_);refine pU' 23 (some 106) (bB' 42 16777215) (h:=?_);refine pA' 24 (some 107) (bB' 42 33554431) (h:=?_);refine pA' 25 (some 108) (bB' 42 67108863) (h:=?_);refine pA' 26 (some 109) (bB' 42 134217727) (h:=?_);refine pA' 27 (some 110) (bB' 42 268435455) (h:=?_);refine pA' 28 (some 111) (bB' 42 536870911) (h:=?_);refine pA' 29 (some 112) (bB' 42 1073741823) (h:=?_);refine pU' 30 (some 113) (bB' 42 2147483647) (h:=?_);refine pU' 31 (some 114) (bB' 42 4294967295) (h:=?_);refine pU' 32 (some 115) (bB' 42 8589934591) (h:=?_);refine pA' 33 (some 116) (bB' 42 17179869183) (h:=?_);refine pA' 34 (some 117) (bB' 42 34359738367) (h:=?_);refine pA' 35 (some 118) (bB' 42 68719476735) (h:=?_);refine take_ (i:=36) (N:=some 119) (v:=?_) (a':=?_) #[true,true,true,true,true,true,true,true,true,true,true,true,true,true,true,true,true,true,true,true,true,true,true,true,true,true,true,true,true,true,true,true,true,true,true,true,true,false,false,false,false,false] rfl rfl (take_ofW HT_.out HW_.out xk') (fun _ _ _ h=>h) (Or.inl ⟨by rfl,?_⟩) hHeld ?_ ?_
            rotate_left
            ·
             rintro w' ⟨s0,s1⟩
             go_simp;with_reducible rfl
            rotate_left
            ·
             simp only[Act.put,sa',sb',sc',i64_w,i32_w];rfl
            refine take_ (i:=38) (N:=some 121) (v:=?_) (a':=?_) #[true,true,true,true,true,true,true,true,true,true,true,true,true,true,true,true,true,true,true,true,true,true,true,true,true,true,true,true,true,true,true,true,true,true,true,true,true,false,true,false,false,false] rfl rfl (take_ofW HT_.out HW_.out xk') (fun _ _ _ h=>h) (Or.inl ⟨by rfl,?_⟩) hHeld ?_ ?_
            rotate_left
            ·
             rintro w' ⟨s0,s1⟩
             go_simp;with_reducible rfl
            rotate_left
            ·
             simp only[Act.put,sa',sb',sc',i64_w,i32_w];rfl
            refine one_ (i:=37) (N:=some 120) #[true,true,true,true,true,true,true,true,true,true,true,true,true,true,true,true,true,true,true,true,true,true,true,true,true,true,true,true,true,true,true,true,true,true,true,true,true,true,true,false,false,false] rfl rfl (one_of HT_.out xk') (by decide) (fun K hK=>?_);refine goes_ Try.func18 xk' rfl #[.agg #[.int .i64 a0_0, .int .i64 a0_1]] (by rfl) rfl rfl xl' ?_
            with_reducible refine (impl_IsCompany.calls a0_0 a0_1 t351 _ A56.out).mono ?_
            rintro e w61 ⟨rfl,hb⟩
            refine ⟨_,rfl,?_⟩;have n0_:=am' (Kd.S_below (kS' HO337.out) hb);have n1_:=am' (Kd.S_below (kS' HO341.out) hb);have n2_:=am' (bb' (g:=gb331) (o := .cells #[.int .i64 a0_0, .int .i64 a0_1] 32 (0,0)) (kk' BK331.out) hb);have n3_:=am' (bb' (g:=gb332) (o := .cells #[.slice A1_0 l1_0.length c1_0, .bool a1_1] 35 (0,0)) (kk' BK332.out) hb);have n4_:=am' (bb' (g:=gb333) (o := .cells #[.int .i64 a2_0, .int .i64 a2_1] 32 (0,0)) (kk' BK333.out) hb);have n5_:=am' (bb' (g:=gb334) (o := .cells #[.slice A3_0 l3_0.length c3_0, .bool a3_1] 35 (0,0)) (kk' BK334.out) hb);have n6_:=am' (bt' (y4' GE331.out GE332.out GE333.out GE334.out) hb);clear HO337;clear HO341;clear BK331;clear BK332;clear BK333;clear BK334;clear HB;have HO337:=n0_;have HO341:=n1_;have BK331:=n2_;have BK332:=n3_;have BK333:=n4_;have BK334:=n5_;have HB:=n6_;clear n0_ n1_ n2_ n3_ n4_ n5_ n6_;(try clear hb)
            (try clear hb2)
            (try clear hk)
            (try clear hi)
            refine hK.out _ _ ⟨(bc' BK331.out 0).trans rfl,(bc' BK331.out 1).trans rfl⟩ (fun hHeld=>?_);clear hK K;refine norm_ (a':=?_) ?_ ?_
            rotate_left
            ·
             show Act.put _ (some 120) _=_
             simp only[Act.put,sa',sb',sc',i64_w,i32_w];rfl
            refine one_ (i:=39) (N:=some 122) #[true,true,true,true,true,true,true,true,true,true,true,true,true,true,true,true,true,true,true,true,true,true,true,true,true,true,true,true,true,true,true,true,true,true,true,true,true,true,true,true,false,false] rfl rfl (one_of HT_.out xk') (by decide) (fun K hK=>?_);refine goes_ Try.func19 xk' rfl #[.agg #[.int .i64 a0_0, .int .i64 a0_1]] (by rfl) rfl rfl xl' ?_
            with_reducible refine (spec_IsCompany.calls a0_0 a0_1 t352 _ A57.out).mono ?_
            rintro e w62 ⟨rfl,hb⟩
            refine ⟨_,rfl,?_⟩;have n0_:=am' (Kd.S_below (kS' HO337.out) hb);have n1_:=am' (Kd.S_below (kS' HO341.out) hb);have n2_:=am' (bb' (g:=gb331) (o := .cells #[.int .i64 a0_0, .int .i64 a0_1] 32 (0,0)) (kk' BK331.out) hb);have n3_:=am' (bb' (g:=gb332) (o := .cells #[.slice A1_0 l1_0.length c1_0, .bool a1_1] 35 (0,0)) (kk' BK332.out) hb);have n4_:=am' (bb' (g:=gb333) (o := .cells #[.int .i64 a2_0, .int .i64 a2_1] 32 (0,0)) (kk' BK333.out) hb);have n5_:=am' (bb' (g:=gb334) (o := .cells #[.slice A3_0 l3_0.length c3_0, .bool a3_1] 35 (0,0)) (kk' BK334.out) hb);have n6_:=am' (bt' (y4' GE331.out GE332.out GE333.out GE334.out) hb);clear HO337;clear HO341;clear BK331;clear BK332;clear BK333;clear BK334;clear HB;have HO337:=n0_;have HO341:=n1_;have BK331:=n2_;have BK332:=n3_;have BK333:=n4_;have BK334:=n5_;have HB:=n6_;clear n0_ n1_ n2_ n3_ n4_ n5_ n6_;(try clear hb)
            (try clear hb2)
            (try clear hk)
            (try clear hi)
            refine hK.out _ _ ⟨(bc' BK331.out 0).trans rfl,(bc' BK331.out 1).trans rfl⟩ (fun hHeld=>?_);clear hK K;refine norm_ (a':=?_) ?_ ?_
            rotate_left
            ·
             show Act.put _ (some 122) _=_
             simp only[Act.put,sa',sb',sc',i64_w,i32_w];rfl
            refine pA' 40 (some 123) (bB' 42 2199023255551) (h:=?_);refine pA' 41 (some 124) (bB' 42 4398046511103) (h:=?_);refine done_ (done_of HT_.out xk') ?_
            try go_wp2
            go_meet
            case rel=>exact ⟨_,((t351 != t352)),xs',H',⟨by have:=HJ7.out;have:=HJ13.out;first|omega|exact Nat.le_refl _⟩,⟨by (with_reducible repeat (first|apply Kd.S_alloc|apply Kd.S_drewN|apply Kd.S_drew));exact Kd.S_mono HO337.out (fun _ hk=>⟨hk.1.1.2,hk.1.2⟩)⟩,⟨kk' BK331.out⟩,⟨kk' BK332.out⟩,⟨kk' BK333.out⟩,⟨kk' BK334.out⟩,⟨y4' GE331.out GE332.out GE333.out GE334.out⟩⟩
       ·
        rw[if_neg c40] at H;exact (laws_FnCouplesCalmOfAll.j2_dead _ _ _ _ _ _ _ _ _ _ _ _ _ _ _ HRT.out rfl H).elim
     case rest=>as_aux_lemma =>
      clear HC20;try clear c1
      try clear p2
      try clear c3
      try clear c4
      try clear c5
      try clear c9
      try clear c18
      try clear c19
      try clear c40
      try clear c43
      try clear c46
      try clear c55
      try clear c55b0
      try clear c55b1
      try clear c55b2
      obtain ⟨kq,x124_19,rfl,HA,HJ19,HO_15,BK331,BK332,BK333,BK334,HB⟩:=hcut;cases kq with
      | zero=>exact absurd HA.out (by simp[laws_FnCouplesCalmOfAll.j2])
      | succ kj19 =>
       have H:=HA.out;clear HA;simp only[laws_FnCouplesCalmOfAll.j2] at H;have HC63:=am' H;clear H;go_upto_if 124 with (fail)
       go_cut [] from 125 to 124 (fun wc=>∃ (kq:Nat),Aside0 (laws_FnCouplesCalmOfAll.j3 kq l4 a5 l6 t335 t338 a0_0 a0_1 l1_0 a1_1 a2_0 a2_1 l3_0 a3_1=some r)∧Aside0 (kq≤kj19)∧Aside0 (Kd.S (Kd.slice 3 (Kd.int .i64)) 28 wc w.heap.size (fun k_=>¬ D399_ k_∧D400_ k_) v336 t335)∧Aside0 (wc.heap[gb331]? = some (.cells #[.int .i64 a0_0, .int .i64 a0_1] 32 (0,0)))∧Aside0 (wc.heap[gb332]? = some (.cells #[(.slice A1_0 l1_0.length c1_0), .bool a1_1] 35 (0,0)))∧Aside0 (wc.heap[gb333]? = some (.cells #[.int .i64 a2_0, .int .i64 a2_1] 32 (0,0)))∧Aside0 (wc.heap[gb334]? = some (.cells #[(.slice A3_0 l3_0.length c3_0), .bool a3_1] 35 (0,0)))∧Aside0 (Below w.heap.size w wc))
       case first =>
        have H:=HC63.out;clear HC63;by_cases c64:x124_19=true
        ·
         rw[if_pos c64] at H;exact absurd (H.trans (congrArg some HRT.out)) (by decide)
        ·
         replace c64:=Bool.eq_false_iff.mpr c64;subst c64;have H1:(laws_FnCouplesCalmOfAll.j3 kj19 l4 a5 l6 t335 t338 a0_0 a0_1 l1_0 a1_1 a2_0 a2_1 l3_0 a3_1)=some r:=by rw[if_neg (show ¬ (false=true) by decide)] at H;exact H
         clear H;have H:=H1;clear H1;have H':=am' H;clear H;go_wp2;go_meet
         case rel=>exact ⟨_,H',⟨by have:=HJ7.out;have:=HJ13.out;have:=HJ19.out;first|omega|exact Nat.le_refl _⟩,⟨kS' HO_15.out⟩,⟨kk' BK331.out⟩,⟨kk' BK332.out⟩,⟨kk' BK333.out⟩,⟨kk' BK334.out⟩,⟨y4' GE331.out GE332.out GE333.out GE334.out⟩⟩
       case rest=>as_aux_lemma =>
        clear HC63;try clear c1
        try clear p2
        try clear c3
        try clear c4
        try clear c5
        try clear c6
        try clear c9
        try clear c18
        try clear c19
        try clear c40
        try clear c43
        try clear c46
        try clear c55
        try clear c55b0
        try clear c55b1
        try clear c55b2
        try clear c64
        try clear p2
        obtain ⟨kq,HA,HJ62,HO_15,BK331,BK332,BK333,BK334,HB⟩:=hcut;cases kq with
        | zero=>exact absurd HA.out (by simp[laws_FnCouplesCalmOfAll.j3])
        | succ kj62 =>
         have H:=HA.out;clear HA;simp only[laws_FnCouplesCalmOfAll.j3] at H;have HC65:=am' H;clear H;go_upto_if 125 with (fail)
         go_cut [] from 125 to 125 (fun wc=>∃ (kq:Nat),Aside0 (laws_FnCouplesCalmOfAll.j5 kq l4 a5 l6 a2_0 a2_1 l3_0 a3_1=some r)∧Aside0 (kq≤kj62)∧Aside0 (wc.heap[gb331]? = some (.cells #[.int .i64 a0_0, .int .i64 a0_1] 32 (0,0)))∧Aside0 (wc.heap[gb332]? = some (.cells #[(.slice A1_0 l1_0.length c1_0), .bool a1_1] 35 (0,0)))∧Aside0 (wc.heap[gb333]? = some (.cells #[.int .i64 a2_0, .int .i64 a2_1] 32 (0,0)))∧Aside0 (wc.heap[gb334]? = some (.cells #[(.slice A3_0 l3_0.length c3_0), .bool a3_1] 35 (0,0)))∧Aside0 (Below w.heap.size w wc))
         case first =>
          have H:=HC65.out;clear HC65;by_cases c66:t338=true
          ·
           subst c66;have H1:(laws_FnCouplesCalmOfAll.l0 kj62 l4 a5 l6 t335 t335 (t335.length:Int) 0 a0_0 a0_1 l1_0 a1_1 a2_0 a2_1 l3_0 a3_1)=some r:=by rw[if_pos rfl] at H;exact H
           clear H;have H:=H1;clear H1;have H':=am' H;clear H;obtain ⟨Ao67,co67,eo67⟩:=Kd.S_slice HO_15.out;subst eo67;go_wp2;go_loopg [128] kj62 (fun kq v128 w'=>∃ (x128_5:Int),v128 = .int .i64 x128_5∧Aside0 (laws_FnCouplesCalmOfAll.l0 kq l4 a5 l6 t335 t335 (t335.length:Int) x128_5 a0_0 a0_1 l1_0 a1_1 a2_0 a2_1 l3_0 a3_1=some r)∧Aside0 (kq≤kj62)∧Aside0 (Kd.S (Kd.slice 3 (Kd.int .i64)) 28 w' w.heap.size (fun k_=>¬ D399_ k_∧D400_ k_) (.slice Ao67 t335.length co67) t335)∧Aside0 (Kd.S (Kd.slice 3 (Kd.int .i64)) 28 w' w.heap.size (fun k_=>¬ D399_ k_∧D400_ k_) (.slice Ao67 t335.length co67) t335)∧Aside0 (w'.heap[gb331]? = some (.cells #[.int .i64 a0_0, .int .i64 a0_1] 32 (0,0)))∧Aside0 (w'.heap[gb332]? = some (.cells #[(.slice A1_0 l1_0.length c1_0), .bool a1_1] 35 (0,0)))∧Aside0 (w'.heap[gb333]? = some (.cells #[.int .i64 a2_0, .int .i64 a2_1] 32 (0,0)))∧Aside0 (w'.heap[gb334]? = some (.cells #[(.slice A3_0 l3_0.length c3_0), .bool a3_1] 35 (0,0)))∧Aside0 (Below w.heap.size w w'))
           case atStart=>exact ⟨(0),xs',H',⟨Nat.le_refl _⟩,⟨kS' HO_15.out⟩,⟨kS' HO_15.out⟩,⟨kk' BK331.out⟩,⟨kk' BK332.out⟩,⟨kk' BK333.out⟩,⟨kk' BK334.out⟩,⟨y4' GE331.out GE332.out GE333.out GE334.out⟩⟩
           case round=>as_aux_lemma =>
            clear H';try clear c1
            try clear p2
            try clear c3
            try clear c4
            try clear c5
            try clear c6
            try clear c9
            try clear c18
            try clear c19
            try clear c40
            try clear c43
            try clear c46
            try clear c55
            try clear c55b0
            try clear c55b1
            try clear c55b2
            try clear c64
            try clear c66
            try clear p2
            obtain ⟨x128_5,rfl,HA,HK5,HO_15,HO_126,BK331,BK332,BK333,BK334,HB⟩:=hrel;cases gk with
            | zero=>exact absurd HA.out (by simp[laws_FnCouplesCalmOfAll.l0])
            | succ k5 =>
             have H:=HA.out;clear HA;simp only[laws_FnCouplesCalmOfAll.l0] at H;by_cases c68:x128_5 < (t335.length:Int)
             ·
              rw[if_pos c68] at H;have c68b0:decide (x128_5 < (t335.length:Int))=true:=dt' c68;clear c68;(first|rw[c68b0]|(simp only[i64_w,i32_w];rw[c68b0])|skip)
              by_cases c69:0≤x128_5
              ·
               rw[if_pos c69] at H;have c69b0:decide (0≤x128_5)=true:=dt' c69;clear c69;by_cases c70:x128_5 < (t335.length:Int)
               ·
                rw[if_pos c70] at H;have c70b0:decide (x128_5 < (t335.length:Int))=true:=dt' c70;clear c70;replace H:=Option.bind_eq_some_iff.mp H;obtain ⟨⟨t354,t357,t358⟩,A710,H⟩:=H;replace H:((impl_IsCalm.f k5 a0_0 a0_1 t354 t357).bind fun bt360=>((impl_IsCalmGroup.f k5 a0_0 (rd_L1 t335 x128_5)).bind fun bt362=>((impl_RowBoat.f k5 a0_0 a0_1 t354 t357 (rd_L1 t335 x128_5)).bind fun bt364=>(if t358=true then (if bt360.2=true then (if bt360.1=true then (if bt362.2=true then (if bt362.1=true then (if bt364.2.2=true then ((laws_hState.f k5 bt364.1 bt364.2.1 l1_0 a1_1).bind fun t370=>(if t370=true then (if ((rd_L1 t335 x128_5).length:Int) < 1 then (some false) else (if ((rd_L1 t335 x128_5).length:Int) > a0_1 then (some false) else (if x128_5 > 0 then (if 0≤(wrap64 (x128_5 - 1)) then (if (wrap64 (x128_5 - 1)) < (t335.length:Int) then ((laws_hBefore.f k5 (rd_L1 t335 (wrap64 (x128_5 - 1))) (rd_L1 t335 x128_5)).bind fun t372=>(if t372=true then (laws_FnCouplesCalmOfAll.l0 k5 l4 a5 l6 t335 t335 (t335.length:Int) (wrap64 (x128_5+1)) a0_0 a0_1 l1_0 a1_1 a2_0 a2_1 l3_0 a3_1) else (some false))) else (none)) else (none)) else (laws_FnCouplesCalmOfAll.l0 k5 l4 a5 l6 t335 t335 (t335.length:Int) (wrap64 (x128_5+1)) a0_0 a0_1 l1_0 a1_1 a2_0 a2_1 l3_0 a3_1)))) else (some false))) else (some false)) else (some false)) else (some false)) else (some false)) else (some false)) else (some false)))))=some r:=H;have A71:=am' A710;clear A710;replace H:=Option.bind_eq_some_iff.mp H;obtain ⟨⟨t360,t361⟩,A720,H⟩:=H;replace H:((impl_IsCalmGroup.f k5 a0_0 (rd_L1 t335 x128_5)).bind fun bt362=>((impl_RowBoat.f k5 a0_0 a0_1 t354 t357 (rd_L1 t335 x128_5)).bind fun bt364=>(if t358=true then (if t361=true then (if t360=true then (if bt362.2=true then (if bt362.1=true then (if bt364.2.2=true then ((laws_hState.f k5 bt364.1 bt364.2.1 l1_0 a1_1).bind fun t370=>(if t370=true then (if ((rd_L1 t335 x128_5).length:Int) < 1 then (some false) else (if ((rd_L1 t335 x128_5).length:Int) > a0_1 then (some false) else (if x128_5 > 0 then (if 0≤(wrap64 (x128_5 - 1)) then (if (wrap64 (x128_5 - 1)) < (t335.length:Int) then ((laws_hBefore.f k5 (rd_L1 t335 (wrap64 (x128_5 - 1))) (rd_L1 t335 x128_5)).bind fun t372=>(if t372=true then (laws_FnCouplesCalmOfAll.l0 k5 l4 a5 l6 t335 t335 (t335.length:Int) (wrap64 (x128_5+1)) a0_0 a0_1 l1_0 a1_1 a2_0 a2_1 l3_0 a3_1) else (some false))) else (none)) else (none)) else (laws_FnCouplesCalmOfAll.l0 k5 l4 a5 l6 t335 t335 (t335.length:Int) (wrap64 (x128_5+1)) a0_0 a0_1 l1_0 a1_1 a2_0 a2_1 l3_0 a3_1)))) else (some false))) else (some false)) else (some false)) else (some false)) else (some false)) else (some false)) else (some false))))=some r:=H;have A72:=am' A720;clear A720;replace H:=Option.bind_eq_some_iff.mp H;obtain ⟨⟨t362,t363⟩,A730,H⟩:=H;replace H:((impl_RowBoat.f k5 a0_0 a0_1 t354 t357 (rd_L1 t335 x128_5)).bind fun bt364=>(if t358=true then (if t361=true then (if t360=true then (if t363=true then (if t362=true then (if bt364.2.2=true then ((laws_hState.f k5 bt364.1 bt364.2.1 l1_0 a1_1).bind fun t370=>(if t370=true then (if ((rd_L1 t335 x128_5).length:Int) < 1 then (some false) else (if ((rd_L1 t335 x128_5).length:Int) > a0_1 then (some false) else (if x128_5 > 0 then (if 0≤(wrap64 (x128_5 - 1)) then (if (wrap64 (x128_5 - 1)) < (t335.length:Int) then ((laws_hBefore.f k5 (rd_L1 t335 (wrap64 (x128_5 - 1))) (rd_L1 t335 x128_5)).bind fun t372=>(if t372=true then (laws_FnCouplesCalmOfAll.l0 k5 l4 a5 l6 t335 t335 (t335.length:Int) (wrap64 (x128_5+1)) a0_0 a0_1 l1_0 a1_1 a2_0 a2_1 l3_0 a3_1) else (some false))) else (none)) else (none)) else (laws_FnCouplesCalmOfAll.l0 k5 l4 a5 l6 t335 t335 (t335.length:Int) (wrap64 (x128_5+1)) a0_0 a0_1 l1_0 a1_1 a2_0 a2_1 l3_0 a3_1)))) else (some false))) else (some false)) else (some false)) else (some false)) else (some false)) else (some false)) else (some false)))=some r:=H
                have A73:=am' A730;clear A730;replace H:=Option.bind_eq_some_iff.mp H;obtain ⟨⟨t364,t367,t368⟩,A740,H⟩:=H;replace H:(if t358=true then (if t361=true then (if t360=true then (if t363=true then (if t362=true then (if t368=true then ((laws_hState.f k5 t364 t367 l1_0 a1_1).bind fun t370=>(if t370=true then (if ((rd_L1 t335 x128_5).length:Int) < 1 then (some false) else (if ((rd_L1 t335 x128_5).length:Int) > a0_1 then (some false) else (if x128_5 > 0 then (if 0≤(wrap64 (x128_5 - 1)) then (if (wrap64 (x128_5 - 1)) < (t335.length:Int) then ((laws_hBefore.f k5 (rd_L1 t335 (wrap64 (x128_5 - 1))) (rd_L1 t335 x128_5)).bind fun t372=>(if t372=true then (laws_FnCouplesCalmOfAll.l0 k5 l4 a5 l6 t335 t335 (t335.length:Int) (wrap64 (x128_5+1)) a0_0 a0_1 l1_0 a1_1 a2_0 a2_1 l3_0 a3_1) else (some false))) else (none)) else (none)) else (laws_FnCouplesCalmOfAll.l0 k5 l4 a5 l6 t335 t335 (t335.length:Int) (wrap64 (x128_5+1)) a0_0 a0_1 l1_0 a1_1 a2_0 a2_1 l3_0 a3_1)))) else (some false))) else (some false)) else (some false)) else (some false)) else (some false)) else (some false)) else (some false))=some r:=H;have A74:=am' A740;clear A740;by_cases c75:t358=true
                ·
                 subst c75;have H1:(if t361=true then (if t360=true then (if t363=true then (if t362=true then (if t368=true then ((laws_hState.f k5 t364 t367 l1_0 a1_1).bind fun t370=>(if t370=true then (if ((rd_L1 t335 x128_5).length:Int) < 1 then (some false) else (if ((rd_L1 t335 x128_5).length:Int) > a0_1 then (some false) else (if x128_5 > 0 then (if 0≤(wrap64 (x128_5 - 1)) then (if (wrap64 (x128_5 - 1)) < (t335.length:Int) then ((laws_hBefore.f k5 (rd_L1 t335 (wrap64 (x128_5 - 1))) (rd_L1 t335 x128_5)).bind fun t372=>(if t372=true then (laws_FnCouplesCalmOfAll.l0 k5 l4 a5 l6 t335 t335 (t335.length:Int) (wrap64 (x128_5+1)) a0_0 a0_1 l1_0 a1_1 a2_0 a2_1 l3_0 a3_1) else (some false))) else (none)) else (none)) else (laws_FnCouplesCalmOfAll.l0 k5 l4 a5 l6 t335 t335 (t335.length:Int) (wrap64 (x128_5+1)) a0_0 a0_1 l1_0 a1_1 a2_0 a2_1 l3_0 a3_1)))) else (some false))) else (some false)) else (some false)) else (some false)) else (some false)) else (some false))=some r:=by rw[if_pos rfl] at H;exact H
                 clear H;have H:=H1;clear H1;by_cases c76:t361=true
                 ·
                  subst c76;have H1:(if t360=true then (if t363=true then (if t362=true then (if t368=true then ((laws_hState.f k5 t364 t367 l1_0 a1_1).bind fun t370=>(if t370=true then (if ((rd_L1 t335 x128_5).length:Int) < 1 then (some false) else (if ((rd_L1 t335 x128_5).length:Int) > a0_1 then (some false) else (if x128_5 > 0 then (if 0≤(wrap64 (x128_5 - 1)) then (if (wrap64 (x128_5 - 1)) < (t335.length:Int) then ((laws_hBefore.f k5 (rd_L1 t335 (wrap64 (x128_5 - 1))) (rd_L1 t335 x128_5)).bind fun t372=>(if t372=true then (laws_FnCouplesCalmOfAll.l0 k5 l4 a5 l6 t335 t335 (t335.length:Int) (wrap64 (x128_5+1)) a0_0 a0_1 l1_0 a1_1 a2_0 a2_1 l3_0 a3_1) else (some false))) else (none)) else (none)) else (laws_FnCouplesCalmOfAll.l0 k5 l4 a5 l6 t335 t335 (t335.length:Int) (wrap64 (x128_5+1)) a0_0 a0_1 l1_0 a1_1 a2_0 a2_1 l3_0 a3_1)))) else (some false))) else (some false)) else (some false)) else (some false)) else (some false))=some r:=by rw[if_pos rfl] at H;exact H
                  clear H;have H:=H1;clear H1;by_cases c77:t360=true
                  ·
                   subst c77;have H1:(if t363=true then (if t362=true then (if t368=true then ((laws_hState.f k5 t364 t367 l1_0 a1_1).bind fun t370=>(if t370=true then (if ((rd_L1 t335 x128_5).length:Int) < 1 then (some false) else (if ((rd_L1 t335 x128_5).length:Int) > a0_1 then (some false) else (if x128_5 > 0 then (if 0≤(wrap64 (x128_5 - 1)) then (if (wrap64 (x128_5 - 1)) < (t335.length:Int) then ((laws_hBefore.f k5 (rd_L1 t335 (wrap64 (x128_5 - 1))) (rd_L1 t335 x128_5)).bind fun t372=>(if t372=true then (laws_FnCouplesCalmOfAll.l0 k5 l4 a5 l6 t335 t335 (t335.length:Int) (wrap64 (x128_5+1)) a0_0 a0_1 l1_0 a1_1 a2_0 a2_1 l3_0 a3_1) else (some false))) else (none)) else (none)) else (laws_FnCouplesCalmOfAll.l0 k5 l4 a5 l6 t335 t335 (t335.length:Int) (wrap64 (x128_5+1)) a0_0 a0_1 l1_0 a1_1 a2_0 a2_1 l3_0 a3_1)))) else (some false))) else (some false)) else (some false)) else (some false))=some r:=by rw[if_pos rfl] at H;exact H
                   clear H;have H:=H1;clear H1;by_cases c78:t363=true
                   ·
                    subst c78;have H1:(if t362=true then (if t368=true then ((laws_hState.f k5 t364 t367 l1_0 a1_1).bind fun t370=>(if t370=true then (if ((rd_L1 t335 x128_5).length:Int) < 1 then (some false) else (if ((rd_L1 t335 x128_5).length:Int) > a0_1 then (some false) else (if x128_5 > 0 then (if 0≤(wrap64 (x128_5 - 1)) then (if (wrap64 (x128_5 - 1)) < (t335.length:Int) then ((laws_hBefore.f k5 (rd_L1 t335 (wrap64 (x128_5 - 1))) (rd_L1 t335 x128_5)).bind fun t372=>(if t372=true then (laws_FnCouplesCalmOfAll.l0 k5 l4 a5 l6 t335 t335 (t335.length:Int) (wrap64 (x128_5+1)) a0_0 a0_1 l1_0 a1_1 a2_0 a2_1 l3_0 a3_1) else (some false))) else (none)) else (none)) else (laws_FnCouplesCalmOfAll.l0 k5 l4 a5 l6 t335 t335 (t335.length:Int) (wrap64 (x128_5+1)) a0_0 a0_1 l1_0 a1_1 a2_0 a2_1 l3_0 a3_1)))) else (some false))) else (some false)) else (some false))=some r:=by rw[if_pos rfl] at H;exact H
                    clear H;have H:=H1;clear H1;by_cases c79:t362=true
                    ·
                     subst c79;have H1:(if t368=true then ((laws_hState.f k5 t364 t367 l1_0 a1_1).bind fun t370=>(if t370=true then (if ((rd_L1 t335 x128_5).length:Int) < 1 then (some false) else (if ((rd_L1 t335 x128_5).length:Int) > a0_1 then (some false) else (if x128_5 > 0 then (if 0≤(wrap64 (x128_5 - 1)) then (if (wrap64 (x128_5 - 1)) < (t335.length:Int) then ((laws_hBefore.f k5 (rd_L1 t335 (wrap64 (x128_5 - 1))) (rd_L1 t335 x128_5)).bind fun t372=>(if t372=true then (laws_FnCouplesCalmOfAll.l0 k5 l4 a5 l6 t335 t335 (t335.length:Int) (wrap64 (x128_5+1)) a0_0 a0_1 l1_0 a1_1 a2_0 a2_1 l3_0 a3_1) else (some false))) else (none)) else (none)) else (laws_FnCouplesCalmOfAll.l0 k5 l4 a5 l6 t335 t335 (t335.length:Int) (wrap64 (x128_5+1)) a0_0 a0_1 l1_0 a1_1 a2_0 a2_1 l3_0 a3_1)))) else (some false))) else (some false))=some r:=by rw[if_pos rfl] at H;exact H
                     clear H;have H:=H1;clear H1;by_cases c80:t368=true
                     ·
                      subst c80;have H1:((laws_hState.f k5 t364 t367 l1_0 a1_1).bind fun t370=>(if t370=true then (if ((rd_L1 t335 x128_5).length:Int) < 1 then (some false) else (if ((rd_L1 t335 x128_5).length:Int) > a0_1 then (some false) else (if x128_5 > 0 then (if 0≤(wrap64 (x128_5 - 1)) then (if (wrap64 (x128_5 - 1)) < (t335.length:Int) then ((laws_hBefore.f k5 (rd_L1 t335 (wrap64 (x128_5 - 1))) (rd_L1 t335 x128_5)).bind fun t372=>(if t372=true then (laws_FnCouplesCalmOfAll.l0 k5 l4 a5 l6 t335 t335 (t335.length:Int) (wrap64 (x128_5+1)) a0_0 a0_1 l1_0 a1_1 a2_0 a2_1 l3_0 a3_1) else (some false))) else (none)) else (none)) else (laws_FnCouplesCalmOfAll.l0 k5 l4 a5 l6 t335 t335 (t335.length:Int) (wrap64 (x128_5+1)) a0_0 a0_1 l1_0 a1_1 a2_0 a2_1 l3_0 a3_1)))) else (some false)))=some r:=by rw[if_pos rfl] at H;exact H
                      clear H;have H:=H1;clear H1;replace H:=Option.bind_eq_some_iff.mp H;obtain ⟨t370,A810,H⟩:=H;replace H:(if t370=true then (if ((rd_L1 t335 x128_5).length:Int) < 1 then (some false) else (if ((rd_L1 t335 x128_5).length:Int) > a0_1 then (some false) else (if x128_5 > 0 then (if 0≤(wrap64 (x128_5 - 1)) then (if (wrap64 (x128_5 - 1)) < (t335.length:Int) then ((laws_hBefore.f k5 (rd_L1 t335 (wrap64 (x128_5 - 1))) (rd_L1 t335 x128_5)).bind fun t372=>(if t372=true then (laws_FnCouplesCalmOfAll.l0 k5 l4 a5 l6 t335 t335 (t335.length:Int) (wrap64 (x128_5+1)) a0_0 a0_1 l1_0 a1_1 a2_0 a2_1 l3_0 a3_1) else (some false))) else (none)) else (none)) else (laws_FnCouplesCalmOfAll.l0 k5 l4 a5 l6 t335 t335 (t335.length:Int) (wrap64 (x128_5+1)) a0_0 a0_1 l1_0 a1_1 a2_0 a2_1 l3_0 a3_1)))) else (some false))=some r:=H;have A81:=am' A810;clear A810;by_cases c82:t370=true
                      ·
                       subst c82;have H1:(if ((rd_L1 t335 x128_5).length:Int) < 1 then (some false) else (if ((rd_L1 t335 x128_5).length:Int) > a0_1 then (some false) else (if x128_5 > 0 then (if 0≤(wrap64 (x128_5 - 1)) then (if (wrap64 (x128_5 - 1)) < (t335.length:Int) then ((laws_hBefore.f k5 (rd_L1 t335 (wrap64 (x128_5 - 1))) (rd_L1 t335 x128_5)).bind fun t372=>(if t372=true then (laws_FnCouplesCalmOfAll.l0 k5 l4 a5 l6 t335 t335 (t335.length:Int) (wrap64 (x128_5+1)) a0_0 a0_1 l1_0 a1_1 a2_0 a2_1 l3_0 a3_1) else (some false))) else (none)) else (none)) else (laws_FnCouplesCalmOfAll.l0 k5 l4 a5 l6 t335 t335 (t335.length:Int) (wrap64 (x128_5+1)) a0_0 a0_1 l1_0 a1_1 a2_0 a2_1 l3_0 a3_1))))=some r:=by rw[if_pos rfl] at H;exact H
                       clear H;have H:=H1;clear H1;by_cases c83:((rd_L1 t335 x128_5).length:Int) < 1
                       ·
                        rw[if_pos c83] at H;exact absurd (H.trans (congrArg some HRT.out)) (by decide)
                       ·
                        rw[if_neg c83] at H;have c83b0:decide (((rd_L1 t335 x128_5).length:Int) < 1)=false:=df' c83;have c83b1:decide ((rd_L1 t335 x128_5).length < 1)=false:=df' (by omega);clear c83;by_cases c84:((rd_L1 t335 x128_5).length:Int) > a0_1
                        ·
                         rw[if_pos c84] at H;exact absurd (H.trans (congrArg some HRT.out)) (by decide)
                        ·
                         rw[if_neg c84] at H;have c84b0:decide (a0_1 < ((rd_L1 t335 x128_5).length:Int))=false:=df' c84;clear c84;by_cases c85:x128_5 > 0
                         ·
                          rw[if_pos c85] at H;have c85b0:decide (0 < x128_5)=true:=dt' c85;clear c85;obtain ⟨ji86,hji86⟩:∃ j_:Int,(wrap64 (x128_5 - 1))=j_:=⟨_,rfl⟩
                          replace H:(if 0≤(ji86) then (if (ji86) < (t335.length:Int) then ((laws_hBefore.f k5 (rd_L1 t335 (ji86)) (rd_L1 t335 x128_5)).bind fun t372=>(if t372=true then (laws_FnCouplesCalmOfAll.l0 k5 l4 a5 l6 t335 t335 (t335.length:Int) (wrap64 (x128_5+1)) a0_0 a0_1 l1_0 a1_1 a2_0 a2_1 l3_0 a3_1) else (some false))) else (none)) else (none))=some r:=by first|(rw[hji86] at H;exact H)|(simp only[hji86] at H ⊢;exact H)
                          (try rw [hji86] at A71)
                          (try rw [hji86] at A72)
                          (try rw [hji86] at A73)
                          (try rw [hji86] at A74)
                          (try rw [hji86] at A81)
                          have hji86w:(IntKind.i64.wrap (x128_5 - 1))=ji86:=(i64_w _).trans hji86;by_cases c87:0≤(ji86)
                          ·
                           rw[if_pos c87] at H;have c87b0:decide (0≤(ji86))=true:=dt' c87;clear c87;by_cases c88:(ji86) < (t335.length:Int)
                           ·
                            rw[if_pos c88] at H;have c88b0:decide ((ji86) < (t335.length:Int))=true:=dt' c88;clear c88;replace H:=Option.bind_eq_some_iff.mp H;obtain ⟨t372,A890,H⟩:=H;replace H:(if t372=true then (laws_FnCouplesCalmOfAll.l0 k5 l4 a5 l6 t335 t335 (t335.length:Int) (wrap64 (x128_5+1)) a0_0 a0_1 l1_0 a1_1 a2_0 a2_1 l3_0 a3_1) else (some false))=some r:=H;have A89:=am' A890;clear A890;by_cases c90:t372=true
                            ·
                             subst c90;have H1:(laws_FnCouplesCalmOfAll.l0 k5 l4 a5 l6 t335 t335 (t335.length:Int) (wrap64 (x128_5+1)) a0_0 a0_1 l1_0 a1_1 a2_0 a2_1 l3_0 a3_1)=some r:=by rw[if_pos rfl] at H;exact H
                             clear H;have H:=H1;clear H1;have H':=am' H;clear H;have p353:0≤(x128_5:Int):=od' xa';have q353:x128_5 < (t335.length:Int):=od' xa';obtain ⟨ad353,A353_0,c353_0,e353,hx353_0,hl353_0,hi353_0⟩:=at_L1 (Kd.S_reads' HO_126.out).2.2 x128_5 p353 q353;cases e353;obtain ⟨ce353,hce353,hMe353,hcc353⟩:=Kd.S_get HO_126.out [] x128_5 p353 (by first|exact q353|exact od' xa'|(have e_:=(Kd.S_reads' HO_126.out).1;omega));obtain ⟨ve353_0,rfl,ge353_0⟩:=hMe353;have hv353_0:=hcc353 0 _ rfl;rw[Nat.add_zero,show ((Kd.slice 3 (Kd.int .i64))).sz=1 from rfl,Nat.mul_one] at hv353_0;replace hv353_0:=os' (hv353_0.symm.trans hx353_0);rw[hv353_0] at ge353_0;have HL353_0:=am' (show Kd.R (Kd.int .i64) 3 _ _ _ _ (rd_L1 t335 x128_5) from ge353_0);clear hv353_0 ge353_0;clear hcc353 hce353;have HR353_0:=am' hi353_0;have HC353_0:=am' hl353_0;clear hi353_0 hl353_0;replace p353:=eq_true p353;replace q353:=eq_true q353;have hnb91:=NB331_332.out;have hnc91:=NB332_331.out;have hnb92:=NB331_333.out;have hnc92:=NB333_331.out;have hnb93:=NB331_334.out;have hnc93:=NB334_331.out;have hcz94_0:wr.cell? ⟨gb331,0,none⟩=some (.int .i64 a0_0):=(bc' BK331.out 0).trans rfl;have hcz94_1:wr.cell? ⟨gb331,1,none⟩=some (.int .i64 a0_1):=(bc' BK331.out 1).trans rfl;have hfz94_0:=bf' BK331.out 0;have hfz94_1:=bf' BK331.out 1;have hnb95:=NB332_333.out;have hnc95:=NB333_332.out;have hnb96:=NB332_334.out;have hnc96:=NB334_332.out;have hcz97_0:wr.cell? ⟨gb332,0,none⟩=some (.slice A1_0 l1_0.length c1_0):=(bc' BK332.out 0).trans rfl;have hcz97_1:wr.cell? ⟨gb332,1,none⟩=some (.bool a1_1):=(bc' BK332.out 1).trans rfl;have hfz97_0:=bf' BK332.out 0;have hfz97_1:=bf' BK332.out 1;go_wp2_with (first|((with_reducible refine gate_callee (f:=20) rfl ?_);refine goesL_ (some 137) rfl rfl Try.func20 xk' rfl #[.agg #[.int .i64 a0_0, .int .i64 a0_1], .agg #[.slice A1_0 l1_0.length c1_0, .bool a1_1], .slice A353_0 (rd_L1 t335 x128_5).length c353_0] rfl xl' ?_;(with_reducible refine (impl_RowBoat.calls k5 a0_0 a0_1 _ _ l1_0 a1_1 _ _ (rd_L1 t335 x128_5) t354 t357 true _ ?side1 ?side2 ?side3 ?side4 A71.out).mono ?_);(case side1=>exact kc' (cb' HR1_0.out HB.out));(case side2=>exact HC1_0.out);(case side3=>exact kc' (kx' HR353_0.out));(case side4=>exact HC353_0.out);rintro e w98 ⟨v355,rfl,ho0,hb⟩;refine ⟨_,rfl,?_⟩;obtain ⟨D401_,hdl_,hdg_⟩:=dlt_of hb;have D401_lt:=am' hdl_;have D401_ge:=am' hdg_;clear hdl_ hdg_;have n0_:=am' (Kd.S_below (Kd.S_dlt (kS' HO_15.out) D401_lt.out) hb);have n1_:=am' (Kd.S_below (Kd.S_dlt (kS' HO_126.out) D401_lt.out) hb);have n2_:=am' (rb' (Kd.R_dlt (kr' HL353_0.out) D401_lt.out) hb);have n3_:=am' (Kd.R_lower (Kd.R_dge ho0 D401_ge.out) (bz' (y4' GE331.out GE332.out GE333.out GE334.out)));have n4_:=am' (bb' (g:=gb331) (o := .cells #[.int .i64 a0_0, .int .i64 a0_1] 32 (0,0)) (kk' BK331.out) hb);have n5_:=am' (bb' (g:=gb332) (o := .cells #[.slice A1_0 l1_0.length c1_0, .bool a1_1] 35 (0,0)) (kk' BK332.out) hb);have n6_:=am' (bb' (g:=gb333) (o := .cells #[.int .i64 a2_0, .int .i64 a2_1] 32 (0,0)) (kk' BK333.out) hb);have n7_:=am' (bb' (g:=gb334) (o := .cells #[.slice A3_0 l3_0.length c3_0, .bool a3_1] 35 (0,0)) (kk' BK334.out) hb);have n8_:=am' (cb' (kx' HR353_0.out) hb);have n9_:=am' (bt' (y4' GE331.out GE332.out GE333.out GE334.out) hb);clear HO_15;clear HO_126;clear HL353_0;clear BK331;clear BK332;clear BK333;clear BK334;clear HR353_0;clear HB;have HO_15:=n0_;have HO_126:=n1_;have HL353_0:=n2_;have HO356:=n3_;have BK331:=n4_;have BK332:=n5_;have BK333:=n6_;have BK334:=n7_;have HR353_0:=n8_;have HB:=n9_;clear n0_ n1_ n2_ n3_ n4_ n5_ n6_ n7_ n8_ n9_;(try clear hb);(try clear hb2);(try clear hk);(try clear hi);(try clear ho0))|((with_reducible refine gate_dst (N:=25) rfl ?_);(try (refine gate_guard (by rfl) ?_;dsimp only));refine box_event ?hg (N:=25) ?hd (cs:=#[.slice none 0 0, .bool false]) (t:=35) ?hr ?_;(case hd=>rfl);(case hg=>rfl);(case hr=>first|(go_simp;done)|(go_simp;rfl));intro gb359 hg w99 hbox hb;have n0_:=am' (Kd.S_below (kS' HO_15.out) hb);have n1_:=am' (Kd.S_below (kS' HO_126.out) hb);have n2_:=am' (rb' (kr' HL353_0.out) hb);have n3_:=am' (rb' (kr' HO356.out) hb);have n4_:=am' (bb' (g:=gb331) (o := .cells #[.int .i64 a0_0, .int .i64 a0_1] 32 (0,0)) (kk' BK331.out) hb);have n5_:=am' (bb' (g:=gb332) (o := .cells #[.slice A1_0 l1_0.length c1_0, .bool a1_1] 35 (0,0)) (kk' BK332.out) hb);have n6_:=am' (bb' (g:=gb333) (o := .cells #[.int .i64 a2_0, .int .i64 a2_1] 32 (0,0)) (kk' BK333.out) hb);have n7_:=am' (bb' (g:=gb334) (o := .cells #[.slice A3_0 l3_0.length c3_0, .bool a3_1] 35 (0,0)) (kk' BK334.out) hb);have n8_:=am' (cb' (kx' HR353_0.out) hb);have n9_:=am' (bt' (y4' GE331.out GE332.out GE333.out GE334.out) hb);have n10_:=am' (hbox);have n11_:=am' ((by rw[hg];exact (bz' (y4' GE331.out GE332.out GE333.out GE334.out)):w.heap.size≤gb359));have n12_:=am' ((by rw[hg];exact (bz' (y4' GE331.out GE332.out GE333.out GE334.out)):w.heap.size≤gb359));have n13_:=am' ((by rw[hg];exact Nat.ne_of_lt (blk_lt (g:=gb331) (o := .cells #[.int .i64 a0_0, .int .i64 a0_1] 32 (0,0)) (kk' BK331.out)):gb331≠gb359));have n14_:=am' ((by rw[hg];exact Nat.ne_of_gt (blk_lt (g:=gb331) (o := .cells #[.int .i64 a0_0, .int .i64 a0_1] 32 (0,0)) (kk' BK331.out)):gb359≠gb331));have n15_:=am' ((by rw[hg];exact Nat.ne_of_lt (blk_lt (g:=gb332) (o := .cells #[.slice A1_0 l1_0.length c1_0, .bool a1_1] 35 (0,0)) (kk' BK332.out)):gb332≠gb359));have n16_:=am' ((by rw[hg];exact Nat.ne_of_gt (blk_lt (g:=gb332) (o := .cells #[.slice A1_0 l1_0.length c1_0, .bool a1_1] 35 (0,0)) (kk' BK332.out)):gb359≠gb332));have n17_:=am' ((by rw[hg];exact Nat.ne_of_lt (blk_lt (g:=gb333) (o := .cells #[.int .i64 a2_0, .int .i64 a2_1] 32 (0,0)) (kk' BK333.out)):gb333≠gb359));have n18_:=am' ((by rw[hg];exact Nat.ne_of_gt (blk_lt (g:=gb333) (o := .cells #[.int .i64 a2_0, .int .i64 a2_1] 32 (0,0)) (kk' BK333.out)):gb359≠gb333));have n19_:=am' ((by rw[hg];exact Nat.ne_of_lt (blk_lt (g:=gb334) (o := .cells #[.slice A3_0 l3_0.length c3_0, .bool a3_1] 35 (0,0)) (kk' BK334.out)):gb334≠gb359));have n20_:=am' ((by rw[hg];exact Nat.ne_of_gt (blk_lt (g:=gb334) (o := .cells #[.slice A3_0 l3_0.length c3_0, .bool a3_1] 35 (0,0)) (kk' BK334.out)):gb359≠gb334));clear HO_15;clear HO_126;clear HL353_0;clear HO356;clear BK331;clear BK332;clear BK333;clear BK334;clear HR353_0;clear HB;have HO_15:=n0_;have HO_126:=n1_;have HL353_0:=n2_;have HO356:=n3_;have BK331:=n4_;have BK332:=n5_;have BK333:=n6_;have BK334:=n7_;have HR353_0:=n8_;have HB:=n9_;have BK359:=n10_;have GW359:=n11_;have GE359:=n12_;have NB331_359:=n13_;have NB359_331:=n14_;have NB332_359:=n15_;have NB359_332:=n16_;have NB333_359:=n17_;have NB359_333:=n18_;have NB334_359:=n19_;have NB359_334:=n20_;clear n0_ n1_ n2_ n3_ n4_ n5_ n6_ n7_ n8_ n9_ n10_ n11_ n12_ n13_ n14_ n15_ n16_ n17_ n18_ n19_ n20_;clear hb hbox hg;obtain ⟨Ao100,co100,eo100⟩:=Kd.R_slice HO356.out;subst eo100;have hnb101:=NB359_331.out;have hnc101:=NB331_359.out;have hnb102:=NB359_332.out;have hnc102:=NB332_359.out;have hnb103:=NB359_333.out;have hnc103:=NB333_359.out;have hnb104:=NB359_334.out;have hnc104:=NB334_359.out;have hcz105_0:w99.cell? ⟨gb359,0,none⟩=some (.slice none 0 0):=(bc' BK359.out 0).trans rfl;have hcz105_1:w99.cell? ⟨gb359,1,none⟩=some (.bool false):=(bc' BK359.out 1).trans rfl;have hfz105_0:=bf' BK359.out 0;have hfz105_1:=bf' BK359.out 1;have hcz106_0:w99.cell? ⟨gb331,0,none⟩=some (.int .i64 a0_0):=(bc' BK331.out 0).trans rfl;have hcz106_1:w99.cell? ⟨gb331,1,none⟩=some (.int .i64 a0_1):=(bc' BK331.out 1).trans rfl;have hfz106_0:=bf' BK331.out 0;have hfz106_1:=bf' BK331.out 1)|((with_reducible refine gate_callee (f:=16) rfl ?_);refine goesL_ (some 143) rfl rfl Try.func16 xk' rfl #[.agg #[.int .i64 a0_0, .int .i64 a0_1], .agg #[.slice Ao100 t354.length co100, .bool t357]] rfl xl' ?_;(with_reducible refine (impl_IsCalm.calls k5 a0_0 a0_1 _ _ t354 t357 true true _ ?side1 ?side2 A72.out).mono ?_);(case side1=>refine (Kd.R_reads' (e:=4) (base:=w.heap.size) (ok:=fun k_=>(True∧¬ D401_ k_)) (n:=t354.length) (c:=co100) ?_).2.2;exact (by (with_reducible repeat (first|apply ra'|apply rn'|apply rw'));exact (Kd.R_mono (Kd.R_far (p:=⟨gb359,1,none⟩) (Kd.R_far (p:=⟨gb359,0,none⟩) (Kd.R_types HO356.out BK359.out (by decide)) (fun _ hk=>hk.2) (.slice Ao100 t354.length co100)) (fun _ hk=>hk.2) (.bool t357)) (fun _ h_=>h_.1))));(case side2=>exact (Kd.R_reads' HO356.out).2.1);rintro e w107 ⟨rfl,hb⟩;refine ⟨_,rfl,?_⟩;have n0_:=am' (Kd.S_below (by (with_reducible repeat (first|apply Kd.S_alloc|apply Kd.S_drewN|apply Kd.S_drew));exact (Kd.S_mono (Kd.S_far (p:=⟨gb359,1,none⟩) (Kd.S_far (p:=⟨gb359,0,none⟩) (Kd.S_types HO_15.out BK359.out (by decide)) (fun _ hk=>hk.2) (.slice Ao100 t354.length co100)) (fun _ hk=>hk.2) (.bool t357)) (fun _ h_=>h_.1))) hb);have n1_:=am' (Kd.S_below (by (with_reducible repeat (first|apply Kd.S_alloc|apply Kd.S_drewN|apply Kd.S_drew));exact (Kd.S_mono (Kd.S_far (p:=⟨gb359,1,none⟩) (Kd.S_far (p:=⟨gb359,0,none⟩) (Kd.S_types HO_126.out BK359.out (by decide)) (fun _ hk=>hk.2) (.slice Ao100 t354.length co100)) (fun _ hk=>hk.2) (.bool t357)) (fun _ h_=>h_.1))) hb);have n2_:=am' (rb' (by (with_reducible repeat (first|apply ra'|apply rn'|apply rw'));exact (Kd.R_mono (Kd.R_far (p:=⟨gb359,1,none⟩) (Kd.R_far (p:=⟨gb359,0,none⟩) (Kd.R_types HL353_0.out BK359.out (by decide)) (fun _ hk=>hk.2) (.slice Ao100 t354.length co100)) (fun _ hk=>hk.2) (.bool t357)) (fun _ h_=>h_.1))) hb);have n3_:=am' (rb' (by (with_reducible repeat (first|apply ra'|apply rn'|apply rw'));exact (Kd.R_mono (Kd.R_far (p:=⟨gb359,1,none⟩) (Kd.R_far (p:=⟨gb359,0,none⟩) (Kd.R_types HO356.out BK359.out (by decide)) (fun _ hk=>hk.2) (.slice Ao100 t354.length co100)) (fun _ hk=>hk.2) (.bool t357)) (fun _ h_=>h_.1))) hb);have n4_:=am' (bb' (g:=gb331) (o := .cells #[.int .i64 a0_0, .int .i64 a0_1] 32 (0,0)) (by (with_reducible repeat (first|refine kn' ?_ _|refine kd' ?_|refine ka' ?_ _));refine blk_far ?_ NB331_359.out _;(with_reducible repeat (first|refine kn' ?_ _|refine kd' ?_|refine ka' ?_ _));refine blk_far ?_ NB331_359.out _;(with_reducible repeat (first|refine kn' ?_ _|refine kd' ?_|refine ka' ?_ _));exact BK331.out) hb);have n5_:=am' (bb' (g:=gb332) (o := .cells #[.slice A1_0 l1_0.length c1_0, .bool a1_1] 35 (0,0)) (by (with_reducible repeat (first|refine kn' ?_ _|refine kd' ?_|refine ka' ?_ _));refine blk_far ?_ NB332_359.out _;(with_reducible repeat (first|refine kn' ?_ _|refine kd' ?_|refine ka' ?_ _));refine blk_far ?_ NB332_359.out _;(with_reducible repeat (first|refine kn' ?_ _|refine kd' ?_|refine ka' ?_ _));exact BK332.out) hb);have n6_:=am' (bb' (g:=gb333) (o := .cells #[.int .i64 a2_0, .int .i64 a2_1] 32 (0,0)) (by (with_reducible repeat (first|refine kn' ?_ _|refine kd' ?_|refine ka' ?_ _));refine blk_far ?_ NB333_359.out _;(with_reducible repeat (first|refine kn' ?_ _|refine kd' ?_|refine ka' ?_ _));refine blk_far ?_ NB333_359.out _;(with_reducible repeat (first|refine kn' ?_ _|refine kd' ?_|refine ka' ?_ _));exact BK333.out) hb);have n7_:=am' (bb' (g:=gb334) (o := .cells #[.slice A3_0 l3_0.length c3_0, .bool a3_1] 35 (0,0)) (by (with_reducible repeat (first|refine kn' ?_ _|refine kd' ?_|refine ka' ?_ _));refine blk_far ?_ NB334_359.out _;(with_reducible repeat (first|refine kn' ?_ _|refine kd' ?_|refine ka' ?_ _));refine blk_far ?_ NB334_359.out _;(with_reducible repeat (first|refine kn' ?_ _|refine kd' ?_|refine ka' ?_ _));exact BK334.out) hb);have n8_:=am' (cb' ((Kd.R_reads' (by (with_reducible repeat (first|apply ra'|apply rn'|apply rw'));exact (Kd.R_mono (Kd.R_far (p:=⟨gb359,1,none⟩) (Kd.R_far (p:=⟨gb359,0,none⟩) (Kd.R_types HL353_0.out BK359.out (by decide)) (fun _ hk=>hk.2) (.slice Ao100 t354.length co100)) (fun _ hk=>hk.2) (.bool t357)) (fun _ h_=>h_.1)))).2.2) hb);have n9_:=am' (bb' (g:=gb359) (o := .cells #[.slice Ao100 t354.length co100, .bool t357] 35 (0,0)) (by (with_reducible repeat (first|refine kn' ?_ _|refine kd' ?_|refine ka' ?_ _));refine blk_put (cs:=#[.slice Ao100 t354.length co100, .bool false]) ?_ 1 _ rfl;(with_reducible repeat (first|refine kn' ?_ _|refine kd' ?_|refine ka' ?_ _));refine blk_put (cs:=#[.slice none 0 0, .bool false]) ?_ 0 _ rfl;(with_reducible repeat (first|refine kn' ?_ _|refine kd' ?_|refine ka' ?_ _));exact BK359.out) hb);have n10_:=am' (bt' (y5' GE331.out GE332.out GE333.out GE334.out GE359.out) hb);clear HO_15;clear HO_126;clear HL353_0;clear HO356;clear BK331;clear BK332;clear BK333;clear BK334;clear HR353_0;clear BK359;clear HB;have HO_15:=n0_;have HO_126:=n1_;have HL353_0:=n2_;have HO356:=n3_;have BK331:=n4_;have BK332:=n5_;have BK333:=n6_;have BK334:=n7_;have HR353_0:=n8_;have BK359:=n9_;have HB:=n10_;clear n0_ n1_ n2_ n3_ n4_ n5_ n6_ n7_ n8_ n9_ n10_;(try clear hb);(try clear hb2);(try clear hk);(try clear hi);have hcz108_0:w107.cell? ⟨gb331,0,none⟩=some (.int .i64 a0_0):=(bc' BK331.out 0).trans rfl;have hcz108_1:w107.cell? ⟨gb331,1,none⟩=some (.int .i64 a0_1):=(bc' BK331.out 1).trans rfl;have hfz108_0:=bf' BK331.out 0;have hfz108_1:=bf' BK331.out 1)|((with_reducible refine gate_callee (f:=21) rfl ?_);refine goesL_ (some 150) rfl rfl Try.func21 xk' rfl #[.int .i64 a0_0, .slice A353_0 (rd_L1 t335 x128_5).length c353_0] rfl xl' ?_;(with_reducible refine (impl_IsCalmGroup.calls k5 a0_0 _ _ (rd_L1 t335 x128_5) true true _ ?side1 ?side2 A73.out).mono ?_);(case side1=>exact kc' (kx' HR353_0.out));(case side2=>exact HC353_0.out);rintro e w109 ⟨rfl,hb⟩;refine ⟨_,rfl,?_⟩;have n0_:=am' (Kd.S_below (kS' HO_15.out) hb);have n1_:=am' (Kd.S_below (kS' HO_126.out) hb);have n2_:=am' (rb' (kr' HL353_0.out) hb);have n3_:=am' (rb' (kr' HO356.out) hb);have n4_:=am' (bb' (g:=gb331) (o := .cells #[.int .i64 a0_0, .int .i64 a0_1] 32 (0,0)) (kk' BK331.out) hb);have n5_:=am' (bb' (g:=gb332) (o := .cells #[.slice A1_0 l1_0.length c1_0, .bool a1_1] 35 (0,0)) (kk' BK332.out) hb);have n6_:=am' (bb' (g:=gb333) (o := .cells #[.int .i64 a2_0, .int .i64 a2_1] 32 (0,0)) (kk' BK333.out) hb);have n7_:=am' (bb' (g:=gb334) (o := .cells #[.slice A3_0 l3_0.length c3_0, .bool a3_1] 35 (0,0)) (kk' BK334.out) hb);have n8_:=am' (cb' (kx' HR353_0.out) hb);have n9_:=am' (bb' (g:=gb359) (o := .cells #[.slice Ao100 t354.length co100, .bool t357] 35 (0,0)) (kk' BK359.out) hb);have n10_:=am' (bt' (y5' GE331.out GE332.out GE333.out GE334.out GE359.out) hb);clear HO_15;clear HO_126;clear HL353_0;clear HO356;clear BK331;clear BK332;clear BK333;clear BK334;clear HR353_0;clear BK359;clear HB;have HO_15:=n0_;have HO_126:=n1_;have HL353_0:=n2_;have HO356:=n3_;have BK331:=n4_;have BK332:=n5_;have BK333:=n6_;have BK334:=n7_;have HR353_0:=n8_;have BK359:=n9_;have HB:=n10_;clear n0_ n1_ n2_ n3_ n4_ n5_ n6_ n7_ n8_ n9_ n10_;(try clear hb);(try clear hb2);(try clear hk);(try clear hi);have hcz110_0:w109.cell? ⟨gb331,0,none⟩=some (.int .i64 a0_0):=(bc' BK331.out 0).trans rfl;have hcz110_1:w109.cell? ⟨gb331,1,none⟩=some (.int .i64 a0_1):=(bc' BK331.out 1).trans rfl;have hfz110_0:=bf' BK331.out 0;have hfz110_1:=bf' BK331.out 1;have hcz111_0:w109.cell? ⟨gb359,0,none⟩=some (.slice Ao100 t354.length co100):=(bc' BK359.out 0).trans rfl;have hcz111_1:w109.cell? ⟨gb359,1,none⟩=some (.bool t357):=(bc' BK359.out 1).trans rfl;have hfz111_0:=bf' BK359.out 0;have hfz111_1:=bf' BK359.out 1)|((with_reducible refine gate_callee (f:=20) rfl ?_);refine goesL_ (some 157) rfl rfl Try.func20 xk' rfl #[.agg #[.int .i64 a0_0, .int .i64 a0_1], .agg #[.slice Ao100 t354.length co100, .bool t357], .slice A353_0 (rd_L1 t335 x128_5).length c353_0] rfl xl' ?_;(with_reducible refine (impl_RowBoat.calls k5 a0_0 a0_1 _ _ t354 t357 _ _ (rd_L1 t335 x128_5) t364 t367 true _ ?side1 ?side2 ?side3 ?side4 A74.out).mono ?_);(case side1=>exact kc' ((Kd.R_reads' HO356.out).2.2));(case side2=>exact (Kd.R_reads' HO356.out).2.1);(case side3=>exact kc' (kx' HR353_0.out));(case side4=>exact HC353_0.out);rintro e w112 ⟨v365,rfl,ho0,hb⟩;refine ⟨_,rfl,?_⟩;obtain ⟨D402_,hdl_,hdg_⟩:=dlt_of hb;have D402_lt:=am' hdl_;have D402_ge:=am' hdg_;clear hdl_ hdg_;have n0_:=am' (Kd.S_below (Kd.S_dlt (kS' HO_15.out) D402_lt.out) hb);have n1_:=am' (Kd.S_below (Kd.S_dlt (kS' HO_126.out) D402_lt.out) hb);have n2_:=am' (rb' (Kd.R_dlt (kr' HL353_0.out) D402_lt.out) hb);have n3_:=am' (Kd.R_elder' (Kd.R_dlt (kr' HO356.out) D402_lt.out) (Kd.R_base ho0) hb);have n4_:=am' (Kd.R_lower (Kd.R_new' (Kd.R_dge ho0 D402_ge.out) (Kd.R_lt (kr' HO356.out))) (bz' (y5' GE331.out GE332.out GE333.out GE334.out GE359.out)));have n5_:=am' (bb' (g:=gb331) (o := .cells #[.int .i64 a0_0, .int .i64 a0_1] 32 (0,0)) (kk' BK331.out) hb);have n6_:=am' (bb' (g:=gb332) (o := .cells #[.slice A1_0 l1_0.length c1_0, .bool a1_1] 35 (0,0)) (kk' BK332.out) hb);have n7_:=am' (bb' (g:=gb333) (o := .cells #[.int .i64 a2_0, .int .i64 a2_1] 32 (0,0)) (kk' BK333.out) hb);have n8_:=am' (bb' (g:=gb334) (o := .cells #[.slice A3_0 l3_0.length c3_0, .bool a3_1] 35 (0,0)) (kk' BK334.out) hb);have n9_:=am' (cb' (kx' HR353_0.out) hb);have n10_:=am' (bb' (g:=gb359) (o := .cells #[.slice Ao100 t354.length co100, .bool t357] 35 (0,0)) (kk' BK359.out) hb);have n11_:=am' (bt' (y5' GE331.out GE332.out GE333.out GE334.out GE359.out) hb);clear HO_15;clear HO_126;clear HL353_0;clear HO356;clear BK331;clear BK332;clear BK333;clear BK334;clear HR353_0;clear BK359;clear HB;have HO_15:=n0_;have HO_126:=n1_;have HL353_0:=n2_;have HO356:=n3_;have HO366:=n4_;have BK331:=n5_;have BK332:=n6_;have BK333:=n7_;have BK334:=n8_;have HR353_0:=n9_;have BK359:=n10_;have HB:=n11_;clear n0_ n1_ n2_ n3_ n4_ n5_ n6_ n7_ n8_ n9_ n10_ n11_;(try clear hb);(try clear hb2);(try clear hk);(try clear hi);(try clear ho0))|((with_reducible refine gate_dst (N:=31) rfl ?_);(try (refine gate_guard (by rfl) ?_;dsimp only));refine box_event ?hg (N:=31) ?hd (cs:=#[.slice none 0 0, .bool false]) (t:=35) ?hr ?_;(case hd=>rfl);(case hg=>rfl);(case hr=>first|(go_simp;done)|(go_simp;rfl));intro gb369 hg w113 hbox hb;have n0_:=am' (Kd.S_below (kS' HO_15.out) hb);have n1_:=am' (Kd.S_below (kS' HO_126.out) hb);have n2_:=am' (rb' (kr' HL353_0.out) hb);have n3_:=am' (rb' (kr' HO356.out) hb);have n4_:=am' (rb' (kr' HO366.out) hb);have n5_:=am' (bb' (g:=gb331) (o := .cells #[.int .i64 a0_0, .int .i64 a0_1] 32 (0,0)) (kk' BK331.out) hb);have n6_:=am' (bb' (g:=gb332) (o := .cells #[.slice A1_0 l1_0.length c1_0, .bool a1_1] 35 (0,0)) (kk' BK332.out) hb);have n7_:=am' (bb' (g:=gb333) (o := .cells #[.int .i64 a2_0, .int .i64 a2_1] 32 (0,0)) (kk' BK333.out) hb);have n8_:=am' (bb' (g:=gb334) (o := .cells #[.slice A3_0 l3_0.length c3_0, .bool a3_1] 35 (0,0)) (kk' BK334.out) hb);have n9_:=am' (cb' (kx' HR353_0.out) hb);have n10_:=am' (bb' (g:=gb359) (o := .cells #[.slice Ao100 t354.length co100, .bool t357] 35 (0,0)) (kk' BK359.out) hb);have n11_:=am' (bt' (y5' GE331.out GE332.out GE333.out GE334.out GE359.out) hb);have n12_:=am' (hbox);have n13_:=am' ((by rw[hg];exact (bz' (y5' GE331.out GE332.out GE333.out GE334.out GE359.out)):w.heap.size≤gb369));have n14_:=am' ((by rw[hg];exact (bz' (y5' GE331.out GE332.out GE333.out GE334.out GE359.out)):w.heap.size≤gb369));have n15_:=am' ((by rw[hg];exact Nat.ne_of_lt (blk_lt (g:=gb331) (o := .cells #[.int .i64 a0_0, .int .i64 a0_1] 32 (0,0)) (kk' BK331.out)):gb331≠gb369));have n16_:=am' ((by rw[hg];exact Nat.ne_of_gt (blk_lt (g:=gb331) (o := .cells #[.int .i64 a0_0, .int .i64 a0_1] 32 (0,0)) (kk' BK331.out)):gb369≠gb331));have n17_:=am' ((by rw[hg];exact Nat.ne_of_lt (blk_lt (g:=gb332) (o := .cells #[.slice A1_0 l1_0.length c1_0, .bool a1_1] 35 (0,0)) (kk' BK332.out)):gb332≠gb369));have n18_:=am' ((by rw[hg];exact Nat.ne_of_gt (blk_lt (g:=gb332) (o := .cells #[.slice A1_0 l1_0.length c1_0, .bool a1_1] 35 (0,0)) (kk' BK332.out)):gb369≠gb332));have n19_:=am' ((by rw[hg];exact Nat.ne_of_lt (blk_lt (g:=gb333) (o := .cells #[.int .i64 a2_0, .int .i64 a2_1] 32 (0,0)) (kk' BK333.out)):gb333≠gb369));have n20_:=am' ((by rw[hg];exact Nat.ne_of_gt (blk_lt (g:=gb333) (o := .cells #[.int .i64 a2_0, .int .i64 a2_1] 32 (0,0)) (kk' BK333.out)):gb369≠gb333));have n21_:=am' ((by rw[hg];exact Nat.ne_of_lt (blk_lt (g:=gb334) (o := .cells #[.slice A3_0 l3_0.length c3_0, .bool a3_1] 35 (0,0)) (kk' BK334.out)):gb334≠gb369));have n22_:=am' ((by rw[hg];exact Nat.ne_of_gt (blk_lt (g:=gb334) (o := .cells #[.slice A3_0 l3_0.length c3_0, .bool a3_1] 35 (0,0)) (kk' BK334.out)):gb369≠gb334));have n23_:=am' ((by rw[hg];exact Nat.ne_of_lt (blk_lt (g:=gb359) (o := .cells #[.slice Ao100 t354.length co100, .bool t357] 35 (0,0)) (kk' BK359.out)):gb359≠gb369));have n24_:=am' ((by rw[hg];exact Nat.ne_of_gt (blk_lt (g:=gb359) (o := .cells #[.slice Ao100 t354.length co100, .bool t357] 35 (0,0)) (kk' BK359.out)):gb369≠gb359));clear HO_15;clear HO_126;clear HL353_0;clear HO356;clear HO366;clear BK331;clear BK332;clear BK333;clear BK334;clear HR353_0;clear BK359;clear HB;have HO_15:=n0_;have HO_126:=n1_;have HL353_0:=n2_;have HO356:=n3_;have HO366:=n4_;have BK331:=n5_;have BK332:=n6_;have BK333:=n7_;have BK334:=n8_;have HR353_0:=n9_;have BK359:=n10_;have HB:=n11_;have BK369:=n12_;have GW369:=n13_;have GE369:=n14_;have NB331_369:=n15_;have NB369_331:=n16_;have NB332_369:=n17_;have NB369_332:=n18_;have NB333_369:=n19_;have NB369_333:=n20_;have NB334_369:=n21_;have NB369_334:=n22_;have NB359_369:=n23_;have NB369_359:=n24_;clear n0_ n1_ n2_ n3_ n4_ n5_ n6_ n7_ n8_ n9_ n10_ n11_ n12_ n13_ n14_ n15_ n16_ n17_ n18_ n19_ n20_ n21_ n22_ n23_ n24_;clear hb hbox hg;obtain ⟨Ao114,co114,eo114⟩:=Kd.R_slice HO366.out;subst eo114;have hnb115:=NB369_331.out;have hnc115:=NB331_369.out;have hnb116:=NB369_332.out;have hnc116:=NB332_369.out;have hnb117:=NB369_333.out;have hnc117:=NB333_369.out;have hnb118:=NB369_334.out;have hnc118:=NB334_369.out;have hnb119:=NB369_359.out;have hnc119:=NB359_369.out;have hcz120_0:w113.cell? ⟨gb369,0,none⟩=some (.slice none 0 0):=(bc' BK369.out 0).trans rfl;have hcz120_1:w113.cell? ⟨gb369,1,none⟩=some (.bool false):=(bc' BK369.out 1).trans rfl;have hfz120_0:=bf' BK369.out 0;have hfz120_1:=bf' BK369.out 1;have hcz121_0:w113.cell? ⟨gb332,0,none⟩=some (.slice A1_0 l1_0.length c1_0):=(bc' BK332.out 0).trans rfl;have hcz121_1:w113.cell? ⟨gb332,1,none⟩=some (.bool a1_1):=(bc' BK332.out 1).trans rfl;have hfz121_0:=bf' BK332.out 0;have hfz121_1:=bf' BK332.out 1)|(go_at_call 22;(with_reducible refine (laws_hState.calls k5 _ _ t364 t367 _ _ l1_0 a1_1 true _ ?side1 ?side2 ?side3 ?side4 A81.out).mono ?_);(case side1=>refine (Kd.R_reads' (e:=4) (base:=w.heap.size) (ok:=fun k_=>((True∧¬ D402_ k_)∧some k_≠(.slice Ao100 t354.length co100:Value).ownBlock)) (n:=t364.length) (c:=co114) ?_).2.2;exact (by (with_reducible repeat (first|apply ra'|apply rn'|apply rw'));exact (Kd.R_mono (Kd.R_far (p:=⟨gb369,1,none⟩) (Kd.R_far (p:=⟨gb369,0,none⟩) (Kd.R_types HO366.out BK369.out (by decide)) (fun _ hk=>hk.2) (.slice Ao114 t364.length co114)) (fun _ hk=>hk.2) (.bool t367)) (fun _ h_=>h_.1))));(case side2=>exact (Kd.R_reads' HO366.out).2.1);(case side3=>exact cb' HR1_0.out (y6' GE331.out GE332.out GE333.out GE334.out GE359.out GE369.out));(case side4=>exact HC1_0.out);rintro e w122 ⟨rfl,hb⟩;have n0_:=am' (Kd.S_below (by (with_reducible repeat (first|apply Kd.S_alloc|apply Kd.S_drewN|apply Kd.S_drew));exact (Kd.S_mono (Kd.S_far (p:=⟨gb369,1,none⟩) (Kd.S_far (p:=⟨gb369,0,none⟩) (Kd.S_types HO_15.out BK369.out (by decide)) (fun _ hk=>hk.2) (.slice Ao114 t364.length co114)) (fun _ hk=>hk.2) (.bool t367)) (fun _ h_=>h_.1))) hb);have n1_:=am' (Kd.S_below (by (with_reducible repeat (first|apply Kd.S_alloc|apply Kd.S_drewN|apply Kd.S_drew));exact (Kd.S_mono (Kd.S_far (p:=⟨gb369,1,none⟩) (Kd.S_far (p:=⟨gb369,0,none⟩) (Kd.S_types HO_126.out BK369.out (by decide)) (fun _ hk=>hk.2) (.slice Ao114 t364.length co114)) (fun _ hk=>hk.2) (.bool t367)) (fun _ h_=>h_.1))) hb);have n2_:=am' (rb' (by (with_reducible repeat (first|apply ra'|apply rn'|apply rw'));exact (Kd.R_mono (Kd.R_far (p:=⟨gb369,1,none⟩) (Kd.R_far (p:=⟨gb369,0,none⟩) (Kd.R_types HL353_0.out BK369.out (by decide)) (fun _ hk=>hk.2) (.slice Ao114 t364.length co114)) (fun _ hk=>hk.2) (.bool t367)) (fun _ h_=>h_.1))) hb);have n3_:=am' (rb' (by (with_reducible repeat (first|apply ra'|apply rn'|apply rw'));exact (Kd.R_mono (Kd.R_far (p:=⟨gb369,1,none⟩) (Kd.R_far (p:=⟨gb369,0,none⟩) (Kd.R_types HO356.out BK369.out (by decide)) (fun _ hk=>hk.2) (.slice Ao114 t364.length co114)) (fun _ hk=>hk.2) (.bool t367)) (fun _ h_=>h_.1))) hb);have n4_:=am' (rb' (by (with_reducible repeat (first|apply ra'|apply rn'|apply rw'));exact (Kd.R_mono (Kd.R_far (p:=⟨gb369,1,none⟩) (Kd.R_far (p:=⟨gb369,0,none⟩) (Kd.R_types HO366.out BK369.out (by decide)) (fun _ hk=>hk.2) (.slice Ao114 t364.length co114)) (fun _ hk=>hk.2) (.bool t367)) (fun _ h_=>h_.1))) hb);have n5_:=am' (bb' (g:=gb331) (o := .cells #[.int .i64 a0_0, .int .i64 a0_1] 32 (0,0)) (by (with_reducible repeat (first|refine kn' ?_ _|refine kd' ?_|refine ka' ?_ _));refine blk_far ?_ NB331_369.out _;(with_reducible repeat (first|refine kn' ?_ _|refine kd' ?_|refine ka' ?_ _));refine blk_far ?_ NB331_369.out _;(with_reducible repeat (first|refine kn' ?_ _|refine kd' ?_|refine ka' ?_ _));exact BK331.out) hb);have n6_:=am' (bb' (g:=gb332) (o := .cells #[.slice A1_0 l1_0.length c1_0, .bool a1_1] 35 (0,0)) (by (with_reducible repeat (first|refine kn' ?_ _|refine kd' ?_|refine ka' ?_ _));refine blk_far ?_ NB332_369.out _;(with_reducible repeat (first|refine kn' ?_ _|refine kd' ?_|refine ka' ?_ _));refine blk_far ?_ NB332_369.out _;(with_reducible repeat (first|refine kn' ?_ _|refine kd' ?_|refine ka' ?_ _));exact BK332.out) hb);have n7_:=am' (bb' (g:=gb333) (o := .cells #[.int .i64 a2_0, .int .i64 a2_1] 32 (0,0)) (by (with_reducible repeat (first|refine kn' ?_ _|refine kd' ?_|refine ka' ?_ _));refine blk_far ?_ NB333_369.out _;(with_reducible repeat (first|refine kn' ?_ _|refine kd' ?_|refine ka' ?_ _));refine blk_far ?_ NB333_369.out _;(with_reducible repeat (first|refine kn' ?_ _|refine kd' ?_|refine ka' ?_ _));exact BK333.out) hb);have n8_:=am' (bb' (g:=gb334) (o := .cells #[.slice A3_0 l3_0.length c3_0, .bool a3_1] 35 (0,0)) (by (with_reducible repeat (first|refine kn' ?_ _|refine kd' ?_|refine ka' ?_ _));refine blk_far ?_ NB334_369.out _;(with_reducible repeat (first|refine kn' ?_ _|refine kd' ?_|refine ka' ?_ _));refine blk_far ?_ NB334_369.out _;(with_reducible repeat (first|refine kn' ?_ _|refine kd' ?_|refine ka' ?_ _));exact BK334.out) hb);have n9_:=am' (cb' ((Kd.R_reads' (by (with_reducible repeat (first|apply ra'|apply rn'|apply rw'));exact (Kd.R_mono (Kd.R_far (p:=⟨gb369,1,none⟩) (Kd.R_far (p:=⟨gb369,0,none⟩) (Kd.R_types HL353_0.out BK369.out (by decide)) (fun _ hk=>hk.2) (.slice Ao114 t364.length co114)) (fun _ hk=>hk.2) (.bool t367)) (fun _ h_=>h_.1)))).2.2) hb);have n10_:=am' (bb' (g:=gb359) (o := .cells #[.slice Ao100 t354.length co100, .bool t357] 35 (0,0)) (by (with_reducible repeat (first|refine kn' ?_ _|refine kd' ?_|refine ka' ?_ _));refine blk_far ?_ NB359_369.out _;(with_reducible repeat (first|refine kn' ?_ _|refine kd' ?_|refine ka' ?_ _));refine blk_far ?_ NB359_369.out _;(with_reducible repeat (first|refine kn' ?_ _|refine kd' ?_|refine ka' ?_ _));exact BK359.out) hb);have n11_:=am' (bb' (g:=gb369) (o := .cells #[.slice Ao114 t364.length co114, .bool t367] 35 (0,0)) (by (with_reducible repeat (first|refine kn' ?_ _|refine kd' ?_|refine ka' ?_ _));refine blk_put (cs:=#[.slice Ao114 t364.length co114, .bool false]) ?_ 1 _ rfl;(with_reducible repeat (first|refine kn' ?_ _|refine kd' ?_|refine ka' ?_ _));refine blk_put (cs:=#[.slice none 0 0, .bool false]) ?_ 0 _ rfl;(with_reducible repeat (first|refine kn' ?_ _|refine kd' ?_|refine ka' ?_ _));exact BK369.out) hb);have n12_:=am' (bt' (y6' GE331.out GE332.out GE333.out GE334.out GE359.out GE369.out) hb);clear HO_15;clear HO_126;clear HL353_0;clear HO356;clear HO366;clear BK331;clear BK332;clear BK333;clear BK334;clear HR353_0;clear BK359;clear BK369;clear HB;have HO_15:=n0_;have HO_126:=n1_;have HL353_0:=n2_;have HO356:=n3_;have HO366:=n4_;have BK331:=n5_;have BK332:=n6_;have BK333:=n7_;have BK334:=n8_;have HR353_0:=n9_;have BK359:=n10_;have BK369:=n11_;have HB:=n12_;clear n0_ n1_ n2_ n3_ n4_ n5_ n6_ n7_ n8_ n9_ n10_ n11_ n12_;(try clear hb);(try clear hb2);(try clear hk);(try clear hi);have hcz123_0:w122.cell? ⟨gb331,0,none⟩=some (.int .i64 a0_0):=(bc' BK331.out 0).trans rfl;have hcz123_1:w122.cell? ⟨gb331,1,none⟩=some (.int .i64 a0_1):=(bc' BK331.out 1).trans rfl;have hfz123_0:=bf' BK331.out 0;have hfz123_1:=bf' BK331.out 1;have p371:0≤((ji86):Int):=od' xa';have q371:(ji86) < (t335.length:Int):=od' xa';obtain ⟨ad371,A371_0,c371_0,e371,hx371_0,hl371_0,hi371_0⟩:=at_L1 (Kd.S_reads' HO_15.out).2.2 (ji86) p371 q371;obtain rfl:ad353=ad371:=(by injection e371);obtain ⟨ce371,hce371,hMe371,hcc371⟩:=Kd.S_get HO_15.out [] (ji86) p371 (by first|exact q371|exact od' xa'|(have e_:=(Kd.S_reads' HO_15.out).1;omega));obtain ⟨ve371_0,rfl,ge371_0⟩:=hMe371;have hv371_0:=hcc371 0 _ rfl;rw[Nat.add_zero,show ((Kd.slice 3 (Kd.int .i64))).sz=1 from rfl,Nat.mul_one] at hv371_0;replace hv371_0:=os' (hv371_0.symm.trans hx371_0);rw[hv371_0] at ge371_0;have HL371_0:=am' (show Kd.R (Kd.int .i64) 3 _ _ _ _ (rd_L1 t335 (ji86)) from ge371_0);clear hv371_0 ge371_0;clear hcc371 hce371;have HR371_0:=am' hi371_0;have HC371_0:=am' hl371_0;clear hi371_0 hl371_0;replace p371:=eq_true p371;replace q371:=eq_true q371)|(go_at_call 23;(with_reducible refine (laws_hBefore.calls k5 _ _ (rd_L1 t335 (ji86)) _ _ (rd_L1 t335 x128_5) true _ ?side1 ?side2 ?side3 ?side4 A89.out).mono ?_);(case side1=>exact kc' (kx' HR371_0.out));(case side2=>exact HC371_0.out);(case side3=>exact kc' (kx' HR353_0.out));(case side4=>exact HC353_0.out);rintro e w' ⟨rfl,⟨nd,rfl⟩⟩))
                             go_roundg k5
                             case measure=>have:=HJ7.out;have:=HJ13.out;have:=HJ19.out;have:=HJ62.out;have:=HK5.out;omega
                             case rel=>exact ⟨(wrap64 (x128_5+1)),xs',H',⟨by have:=HJ7.out;have:=HJ13.out;have:=HJ19.out;have:=HJ62.out;have:=HK5.out;omega⟩,⟨by (with_reducible repeat (first|apply Kd.S_alloc|apply Kd.S_drewN|apply Kd.S_drew));exact Kd.S_mono HO_15.out (fun _ hk=>⟨hk.1.1.1,hk.1.1.2⟩)⟩,⟨by (with_reducible repeat (first|apply Kd.S_alloc|apply Kd.S_drewN|apply Kd.S_drew));exact Kd.S_mono HO_126.out (fun _ hk=>⟨hk.1.1.1,hk.1.1.2⟩)⟩,⟨kk' BK331.out⟩,⟨kk' BK332.out⟩,⟨kk' BK333.out⟩,⟨kk' BK334.out⟩,⟨y6' GE331.out GE332.out GE333.out GE334.out GE359.out GE369.out⟩⟩
                            ·
                             rw[if_neg c90] at H;exact absurd (H.trans (congrArg some HRT.out)) (by decide)
                           ·
                            rw[if_neg c88] at H;exact absurd H (by simp)
                          ·
                           rw[if_neg c87] at H;exact absurd H (by simp)
                         ·
                          rw[if_neg c85] at H;have c85b0:decide (0 < x128_5)=false:=df' c85;clear c85;have H':=am' H;clear H;have p353:0≤(x128_5:Int):=od' xa';have q353:x128_5 < (t335.length:Int):=od' xa';obtain ⟨ad353,A353_0,c353_0,e353,hx353_0,hl353_0,hi353_0⟩:=at_L1 (Kd.S_reads' HO_126.out).2.2 x128_5 p353 q353;cases e353;obtain ⟨ce353,hce353,hMe353,hcc353⟩:=Kd.S_get HO_126.out [] x128_5 p353 (by first|exact q353|exact od' xa'|(have e_:=(Kd.S_reads' HO_126.out).1;omega));obtain ⟨ve353_0,rfl,ge353_0⟩:=hMe353;have hv353_0:=hcc353 0 _ rfl;rw[Nat.add_zero,show ((Kd.slice 3 (Kd.int .i64))).sz=1 from rfl,Nat.mul_one] at hv353_0;replace hv353_0:=os' (hv353_0.symm.trans hx353_0);rw[hv353_0] at ge353_0;have HL353_0:=am' (show Kd.R (Kd.int .i64) 3 _ _ _ _ (rd_L1 t335 x128_5) from ge353_0);clear hv353_0 ge353_0;clear hcc353 hce353;have HR353_0:=am' hi353_0;have HC353_0:=am' hl353_0;clear hi353_0 hl353_0;replace p353:=eq_true p353;replace q353:=eq_true q353;have hnb124:=NB331_332.out;have hnc124:=NB332_331.out;have hnb125:=NB331_333.out;have hnc125:=NB333_331.out;have hnb126:=NB331_334.out;have hnc126:=NB334_331.out;have hcz127_0:wr.cell? ⟨gb331,0,none⟩=some (.int .i64 a0_0):=(bc' BK331.out 0).trans rfl;have hcz127_1:wr.cell? ⟨gb331,1,none⟩=some (.int .i64 a0_1):=(bc' BK331.out 1).trans rfl;have hfz127_0:=bf' BK331.out 0;have hfz127_1:=bf' BK331.out 1;have hnb128:=NB332_333.out;have hnc128:=NB333_332.out;have hnb129:=NB332_334.out;have hnc129:=NB334_332.out;have hcz130_0:wr.cell? ⟨gb332,0,none⟩=some (.slice A1_0 l1_0.length c1_0):=(bc' BK332.out 0).trans rfl;have hcz130_1:wr.cell? ⟨gb332,1,none⟩=some (.bool a1_1):=(bc' BK332.out 1).trans rfl;have hfz130_0:=bf' BK332.out 0;have hfz130_1:=bf' BK332.out 1;go_wp2_with (first|((with_reducible refine gate_callee (f:=20) rfl ?_);refine goesL_ (some 137) rfl rfl Try.func20 xk' rfl #[.agg #[.int .i64 a0_0, .int .i64 a0_1], .agg #[.slice A1_0 l1_0.length c1_0, .bool a1_1], .slice A353_0 (rd_L1 t335 x128_5).length c353_0] rfl xl' ?_;(with_reducible refine (impl_RowBoat.calls k5 a0_0 a0_1 _ _ l1_0 a1_1 _ _ (rd_L1 t335 x128_5) t354 t357 true _ ?side1 ?side2 ?side3 ?side4 A71.out).mono ?_);(case side1=>exact kc' (cb' HR1_0.out HB.out));(case side2=>exact HC1_0.out);(case side3=>exact kc' (kx' HR353_0.out));(case side4=>exact HC353_0.out);rintro e w131 ⟨v355,rfl,ho0,hb⟩;refine ⟨_,rfl,?_⟩;obtain ⟨D403_,hdl_,hdg_⟩:=dlt_of hb;have D403_lt:=am' hdl_;have D403_ge:=am' hdg_;clear hdl_ hdg_;have n0_:=am' (Kd.S_below (Kd.S_dlt (kS' HO_15.out) D403_lt.out) hb);have n1_:=am' (Kd.S_below (Kd.S_dlt (kS' HO_126.out) D403_lt.out) hb);have n2_:=am' (rb' (Kd.R_dlt (kr' HL353_0.out) D403_lt.out) hb);have n3_:=am' (Kd.R_lower (Kd.R_dge ho0 D403_ge.out) (bz' (y4' GE331.out GE332.out GE333.out GE334.out)));have n4_:=am' (bb' (g:=gb331) (o := .cells #[.int .i64 a0_0, .int .i64 a0_1] 32 (0,0)) (kk' BK331.out) hb);have n5_:=am' (bb' (g:=gb332) (o := .cells #[.slice A1_0 l1_0.length c1_0, .bool a1_1] 35 (0,0)) (kk' BK332.out) hb);have n6_:=am' (bb' (g:=gb333) (o := .cells #[.int .i64 a2_0, .int .i64 a2_1] 32 (0,0)) (kk' BK333.out) hb);have n7_:=am' (bb' (g:=gb334) (o := .cells #[.slice A3_0 l3_0.length c3_0, .bool a3_1] 35 (0,0)) (kk' BK334.out) hb);have n8_:=am' (cb' (kx' HR353_0.out) hb);have n9_:=am' (bt' (y4' GE331.out GE332.out GE333.out GE334.out) hb);clear HO_15;clear HO_126;clear HL353_0;clear BK331;clear BK332;clear BK333;clear BK334;clear HR353_0;clear HB;have HO_15:=n0_;have HO_126:=n1_;have HL353_0:=n2_;have HO356:=n3_;have BK331:=n4_;have BK332:=n5_;have BK333:=n6_;have BK334:=n7_;have HR353_0:=n8_;have HB:=n9_;clear n0_ n1_ n2_ n3_ n4_ n5_ n6_ n7_ n8_ n9_;(try clear hb);(try clear hb2);(try clear hk);(try clear hi);(try clear ho0))|((with_reducible refine gate_dst (N:=25) rfl ?_);(try (refine gate_guard (by rfl) ?_;dsimp only));refine box_event ?hg (N:=25) ?hd (cs:=#[.slice none 0 0, .bool false]) (t:=35) ?hr ?_;(case hd=>rfl);(case hg=>rfl);(case hr=>first|(go_simp;done)|(go_simp;rfl));intro gb359 hg w132 hbox hb;have n0_:=am' (Kd.S_below (kS' HO_15.out) hb);have n1_:=am' (Kd.S_below (kS' HO_126.out) hb);have n2_:=am' (rb' (kr' HL353_0.out) hb);have n3_:=am' (rb' (kr' HO356.out) hb);have n4_:=am' (bb' (g:=gb331) (o := .cells #[.int .i64 a0_0, .int .i64 a0_1] 32 (0,0)) (kk' BK331.out) hb);have n5_:=am' (bb' (g:=gb332) (o := .cells #[.slice A1_0 l1_0.length c1_0, .bool a1_1] 35 (0,0)) (kk' BK332.out) hb);have n6_:=am' (bb' (g:=gb333) (o := .cells #[.int .i64 a2_0, .int .i64 a2_1] 32 (0,0)) (kk' BK333.out) hb);have n7_:=am' (bb' (g:=gb334) (o := .cells #[.slice A3_0 l3_0.length c3_0, .bool a3_1] 35 (0,0)) (kk' BK334.out) hb);have n8_:=am' (cb' (kx' HR353_0.out) hb);have n9_:=am' (bt' (y4' GE331.out GE332.out GE333.out GE334.out) hb);have n10_:=am' (hbox);have n11_:=am' ((by rw[hg];exact (bz' (y4' GE331.out GE332.out GE333.out GE334.out)):w.heap.size≤gb359));have n12_:=am' ((by rw[hg];exact (bz' (y4' GE331.out GE332.out GE333.out GE334.out)):w.heap.size≤gb359));have n13_:=am' ((by rw[hg];exact Nat.ne_of_lt (blk_lt (g:=gb331) (o := .cells #[.int .i64 a0_0, .int .i64 a0_1] 32 (0,0)) (kk' BK331.out)):gb331≠gb359));have n14_:=am' ((by rw[hg];exact Nat.ne_of_gt (blk_lt (g:=gb331) (o := .cells #[.int .i64 a0_0, .int .i64 a0_1] 32 (0,0)) (kk' BK331.out)):gb359≠gb331));have n15_:=am' ((by rw[hg];exact Nat.ne_of_lt (blk_lt (g:=gb332) (o := .cells #[.slice A1_0 l1_0.length c1_0, .bool a1_1] 35 (0,0)) (kk' BK332.out)):gb332≠gb359));have n16_:=am' ((by rw[hg];exact Nat.ne_of_gt (blk_lt (g:=gb332) (o := .cells #[.slice A1_0 l1_0.length c1_0, .bool a1_1] 35 (0,0)) (kk' BK332.out)):gb359≠gb332));have n17_:=am' ((by rw[hg];exact Nat.ne_of_lt (blk_lt (g:=gb333) (o := .cells #[.int .i64 a2_0, .int .i64 a2_1] 32 (0,0)) (kk' BK333.out)):gb333≠gb359));have n18_:=am' ((by rw[hg];exact Nat.ne_of_gt (blk_lt (g:=gb333) (o := .cells #[.int .i64 a2_0, .int .i64 a2_1] 32 (0,0)) (kk' BK333.out)):gb359≠gb333));have n19_:=am' ((by rw[hg];exact Nat.ne_of_lt (blk_lt (g:=gb334) (o := .cells #[.slice A3_0 l3_0.length c3_0, .bool a3_1] 35 (0,0)) (kk' BK334.out)):gb334≠gb359));have n20_:=am' ((by rw[hg];exact Nat.ne_of_gt (blk_lt (g:=gb334) (o := .cells #[.slice A3_0 l3_0.length c3_0, .bool a3_1] 35 (0,0)) (kk' BK334.out)):gb359≠gb334));clear HO_15;clear HO_126;clear HL353_0;clear HO356;clear BK331;clear BK332;clear BK333;clear BK334;clear HR353_0;clear HB;have HO_15:=n0_;have HO_126:=n1_;have HL353_0:=n2_;have HO356:=n3_;have BK331:=n4_;have BK332:=n5_;have BK333:=n6_;have BK334:=n7_;have HR353_0:=n8_;have HB:=n9_;have BK359:=n10_;have GW359:=n11_;have GE359:=n12_;have NB331_359:=n13_;have NB359_331:=n14_;have NB332_359:=n15_;have NB359_332:=n16_;have NB333_359:=n17_;have NB359_333:=n18_;have NB334_359:=n19_;have NB359_334:=n20_;clear n0_ n1_ n2_ n3_ n4_ n5_ n6_ n7_ n8_ n9_ n10_ n11_ n12_ n13_ n14_ n15_ n16_ n17_ n18_ n19_ n20_;clear hb hbox hg;obtain ⟨Ao133,co133,eo133⟩:=Kd.R_slice HO356.out;subst eo133;have hnb134:=NB359_331.out;have hnc134:=NB331_359.out;have hnb135:=NB359_332.out;have hnc135:=NB332_359.out;have hnb136:=NB359_333.out;have hnc136:=NB333_359.out;have hnb137:=NB359_334.out;have hnc137:=NB334_359.out;have hcz138_0:w132.cell? ⟨gb359,0,none⟩=some (.slice none 0 0):=(bc' BK359.out 0).trans rfl;have hcz138_1:w132.cell? ⟨gb359,1,none⟩=some (.bool false):=(bc' BK359.out 1).trans rfl;have hfz138_0:=bf' BK359.out 0;have hfz138_1:=bf' BK359.out 1;have hcz139_0:w132.cell? ⟨gb331,0,none⟩=some (.int .i64 a0_0):=(bc' BK331.out 0).trans rfl;have hcz139_1:w132.cell? ⟨gb331,1,none⟩=some (.int .i64 a0_1):=(bc' BK331.out 1).trans rfl;have hfz139_0:=bf' BK331.out 0;have hfz139_1:=bf' BK331.out 1)|((with_reducible refine gate_callee (f:=16) rfl ?_);refine goesL_ (some 143) rfl rfl Try.func16 xk' rfl #[.agg #[.int .i64 a0_0, .int .i64 a0_1], .agg #[.slice Ao133 t354.length co133, .bool t357]] rfl xl' ?_;(with_reducible refine (impl_IsCalm.calls k5 a0_0 a0_1 _ _ t354 t357 true true _ ?side1 ?side2 A72.out).mono ?_);(case side1=>refine (Kd.R_reads' (e:=4) (base:=w.heap.size) (ok:=fun k_=>(True∧¬ D403_ k_)) (n:=t354.length) (c:=co133) ?_).2.2;exact (by (with_reducible repeat (first|apply ra'|apply rn'|apply rw'));exact (Kd.R_mono (Kd.R_far (p:=⟨gb359,1,none⟩) (Kd.R_far (p:=⟨gb359,0,none⟩) (Kd.R_types HO356.out BK359.out (by decide)) (fun _ hk=>hk.2) (.slice Ao133 t354.length co133)) (fun _ hk=>hk.2) (.bool t357)) (fun _ h_=>h_.1))));(case side2=>exact (Kd.R_reads' HO356.out).2.1);rintro e w140 ⟨rfl,hb⟩;refine ⟨_,rfl,?_⟩;have n0_:=am' (Kd.S_below (by (with_reducible repeat (first|apply Kd.S_alloc|apply Kd.S_drewN|apply Kd.S_drew));exact (Kd.S_mono (Kd.S_far (p:=⟨gb359,1,none⟩) (Kd.S_far (p:=⟨gb359,0,none⟩) (Kd.S_types HO_15.out BK359.out (by decide)) (fun _ hk=>hk.2) (.slice Ao133 t354.length co133)) (fun _ hk=>hk.2) (.bool t357)) (fun _ h_=>h_.1))) hb);have n1_:=am' (Kd.S_below (by (with_reducible repeat (first|apply Kd.S_alloc|apply Kd.S_drewN|apply Kd.S_drew));exact (Kd.S_mono (Kd.S_far (p:=⟨gb359,1,none⟩) (Kd.S_far (p:=⟨gb359,0,none⟩) (Kd.S_types HO_126.out BK359.out (by decide)) (fun _ hk=>hk.2) (.slice Ao133 t354.length co133)) (fun _ hk=>hk.2) (.bool t357)) (fun _ h_=>h_.1))) hb);have n2_:=am' (rb' (by (with_reducible repeat (first|apply ra'|apply rn'|apply rw'));exact (Kd.R_mono (Kd.R_far (p:=⟨gb359,1,none⟩) (Kd.R_far (p:=⟨gb359,0,none⟩) (Kd.R_types HL353_0.out BK359.out (by decide)) (fun _ hk=>hk.2) (.slice Ao133 t354.length co133)) (fun _ hk=>hk.2) (.bool t357)) (fun _ h_=>h_.1))) hb);have n3_:=am' (rb' (by (with_reducible repeat (first|apply ra'|apply rn'|apply rw'));exact (Kd.R_mono (Kd.R_far (p:=⟨gb359,1,none⟩) (Kd.R_far (p:=⟨gb359,0,none⟩) (Kd.R_types HO356.out BK359.out (by decide)) (fun _ hk=>hk.2) (.slice Ao133 t354.length co133)) (fun _ hk=>hk.2) (.bool t357)) (fun _ h_=>h_.1))) hb);have n4_:=am' (bb' (g:=gb331) (o := .cells #[.int .i64 a0_0, .int .i64 a0_1] 32 (0,0)) (by (with_reducible repeat (first|refine kn' ?_ _|refine kd' ?_|refine ka' ?_ _));refine blk_far ?_ NB331_359.out _;(with_reducible repeat (first|refine kn' ?_ _|refine kd' ?_|refine ka' ?_ _));refine blk_far ?_ NB331_359.out _;(with_reducible repeat (first|refine kn' ?_ _|refine kd' ?_|refine ka' ?_ _));exact BK331.out) hb);have n5_:=am' (bb' (g:=gb332) (o := .cells #[.slice A1_0 l1_0.length c1_0, .bool a1_1] 35 (0,0)) (by (with_reducible repeat (first|refine kn' ?_ _|refine kd' ?_|refine ka' ?_ _));refine blk_far ?_ NB332_359.out _;(with_reducible repeat (first|refine kn' ?_ _|refine kd' ?_|refine ka' ?_ _));refine blk_far ?_ NB332_359.out _;(with_reducible repeat (first|refine kn' ?_ _|refine kd' ?_|refine ka' ?_ _));exact BK332.out) hb);have n6_:=am' (bb' (g:=gb333) (o := .cells #[.int .i64 a2_0, .int .i64 a2_1] 32 (0,0)) (by (with_reducible repeat (first|refine kn' ?_ _|refine kd' ?_|refine ka' ?_ _));refine blk_far ?_ NB333_359.out _;(with_reducible repeat (first|refine kn' ?_ _|refine kd' ?_|refine ka' ?_ _));refine blk_far ?_ NB333_359.out _;(with_reducible repeat (first|refine kn' ?_ _|refine kd' ?_|refine ka' ?_ _));exact BK333.out) hb);have n7_:=am' (bb' (g:=gb334) (o := .cells #[.slice A3_0 l3_0.length c3_0, .bool a3_1] 35 (0,0)) (by (with_reducible repeat (first|refine kn' ?_ _|refine kd' ?_|refine ka' ?_ _));refine blk_far ?_ NB334_359.out _;(with_reducible repeat (first|refine kn' ?_ _|refine kd' ?_|refine ka' ?_ _));refine blk_far ?_ NB334_359.out _;(with_reducible repeat (first|refine kn' ?_ _|refine kd' ?_|refine ka' ?_ _));exact BK334.out) hb);have n8_:=am' (cb' ((Kd.R_reads' (by (with_reducible repeat (first|apply ra'|apply rn'|apply rw'));exact (Kd.R_mono (Kd.R_far (p:=⟨gb359,1,none⟩) (Kd.R_far (p:=⟨gb359,0,none⟩) (Kd.R_types HL353_0.out BK359.out (by decide)) (fun _ hk=>hk.2) (.slice Ao133 t354.length co133)) (fun _ hk=>hk.2) (.bool t357)) (fun _ h_=>h_.1)))).2.2) hb);have n9_:=am' (bb' (g:=gb359) (o := .cells #[.slice Ao133 t354.length co133, .bool t357] 35 (0,0)) (by (with_reducible repeat (first|refine kn' ?_ _|refine kd' ?_|refine ka' ?_ _));refine blk_put (cs:=#[.slice Ao133 t354.length co133, .bool false]) ?_ 1 _ rfl;(with_reducible repeat (first|refine kn' ?_ _|refine kd' ?_|refine ka' ?_ _));refine blk_put (cs:=#[.slice none 0 0, .bool false]) ?_ 0 _ rfl;(with_reducible repeat (first|refine kn' ?_ _|refine kd' ?_|refine ka' ?_ _));exact BK359.out) hb);have n10_:=am' (bt' (y5' GE331.out GE332.out GE333.out GE334.out GE359.out) hb);clear HO_15;clear HO_126;clear HL353_0;clear HO356;clear BK331;clear BK332;clear BK333;clear BK334;clear HR353_0;clear BK359;clear HB;have HO_15:=n0_;have HO_126:=n1_;have HL353_0:=n2_;have HO356:=n3_;have BK331:=n4_;have BK332:=n5_;have BK333:=n6_;have BK334:=n7_;have HR353_0:=n8_;have BK359:=n9_;have HB:=n10_;clear n0_ n1_ n2_ n3_ n4_ n5_ n6_ n7_ n8_ n9_ n10_;(try clear hb);(try clear hb2);(try clear hk);(try clear hi);have hcz141_0:w140.cell? ⟨gb331,0,none⟩=some (.int .i64 a0_0):=(bc' BK331.out 0).trans rfl;have hcz141_1:w140.cell? ⟨gb331,1,none⟩=some (.int .i64 a0_1):=(bc' BK331.out 1).trans rfl;have hfz141_0:=bf' BK331.out 0;have hfz141_1:=bf' BK331.out 1)|((with_reducible refine gate_callee (f:=21) rfl ?_);refine goesL_ (some 150) rfl rfl Try.func21 xk' rfl #[.int .i64 a0_0, .slice A353_0 (rd_L1 t335 x128_5).length c353_0] rfl xl' ?_;(with_reducible refine (impl_IsCalmGroup.calls k5 a0_0 _ _ (rd_L1 t335 x128_5) true true _ ?side1 ?side2 A73.out).mono ?_);(case side1=>exact kc' (kx' HR353_0.out));(case side2=>exact HC353_0.out);rintro e w142 ⟨rfl,hb⟩;refine ⟨_,rfl,?_⟩;have n0_:=am' (Kd.S_below (kS' HO_15.out) hb);have n1_:=am' (Kd.S_below (kS' HO_126.out) hb);have n2_:=am' (rb' (kr' HL353_0.out) hb);have n3_:=am' (rb' (kr' HO356.out) hb);have n4_:=am' (bb' (g:=gb331) (o := .cells #[.int .i64 a0_0, .int .i64 a0_1] 32 (0,0)) (kk' BK331.out) hb);have n5_:=am' (bb' (g:=gb332) (o := .cells #[.slice A1_0 l1_0.length c1_0, .bool a1_1] 35 (0,0)) (kk' BK332.out) hb);have n6_:=am' (bb' (g:=gb333) (o := .cells #[.int .i64 a2_0, .int .i64 a2_1] 32 (0,0)) (kk' BK333.out) hb);have n7_:=am' (bb' (g:=gb334) (o := .cells #[.slice A3_0 l3_0.length c3_0, .bool a3_1] 35 (0,0)) (kk' BK334.out) hb);have n8_:=am' (cb' (kx' HR353_0.out) hb);have n9_:=am' (bb' (g:=gb359) (o := .cells #[.slice Ao133 t354.length co133, .bool t357] 35 (0,0)) (kk' BK359.out) hb);have n10_:=am' (bt' (y5' GE331.out GE332.out GE333.out GE334.out GE359.out) hb);clear HO_15;clear HO_126;clear HL353_0;clear HO356;clear BK331;clear BK332;clear BK333;clear BK334;clear HR353_0;clear BK359;clear HB;have HO_15:=n0_;have HO_126:=n1_;have HL353_0:=n2_;have HO356:=n3_;have BK331:=n4_;have BK332:=n5_;have BK333:=n6_;have BK334:=n7_;have HR353_0:=n8_;have BK359:=n9_;have HB:=n10_;clear n0_ n1_ n2_ n3_ n4_ n5_ n6_ n7_ n8_ n9_ n10_;(try clear hb);(try clear hb2);(try clear hk);(try clear hi);have hcz143_0:w142.cell? ⟨gb331,0,none⟩=some (.int .i64 a0_0):=(bc' BK331.out 0).trans rfl;have hcz143_1:w142.cell? ⟨gb331,1,none⟩=some (.int .i64 a0_1):=(bc' BK331.out 1).trans rfl;have hfz143_0:=bf' BK331.out 0;have hfz143_1:=bf' BK331.out 1;have hcz144_0:w142.cell? ⟨gb359,0,none⟩=some (.slice Ao133 t354.length co133):=(bc' BK359.out 0).trans rfl;have hcz144_1:w142.cell? ⟨gb359,1,none⟩=some (.bool t357):=(bc' BK359.out 1).trans rfl;have hfz144_0:=bf' BK359.out 0;have hfz144_1:=bf' BK359.out 1)|((with_reducible refine gate_callee (f:=20) rfl ?_);refine goesL_ (some 157) rfl rfl Try.func20 xk' rfl #[.agg #[.int .i64 a0_0, .int .i64 a0_1], .agg #[.slice Ao133 t354.length co133, .bool t357], .slice A353_0 (rd_L1 t335 x128_5).length c353_0] rfl xl' ?_;(with_reducible refine (impl_RowBoat.calls k5 a0_0 a0_1 _ _ t354 t357 _ _ (rd_L1 t335 x128_5) t364 t367 true _ ?side1 ?side2 ?side3 ?side4 A74.out).mono ?_);(case side1=>exact kc' ((Kd.R_reads' HO356.out).2.2));(case side2=>exact (Kd.R_reads' HO356.out).2.1);(case side3=>exact kc' (kx' HR353_0.out));(case side4=>exact HC353_0.out);rintro e w145 ⟨v365,rfl,ho0,hb⟩;refine ⟨_,rfl,?_⟩;obtain ⟨D404_,hdl_,hdg_⟩:=dlt_of hb;have D404_lt:=am' hdl_;have D404_ge:=am' hdg_;clear hdl_ hdg_;have n0_:=am' (Kd.S_below (Kd.S_dlt (kS' HO_15.out) D404_lt.out) hb);have n1_:=am' (Kd.S_below (Kd.S_dlt (kS' HO_126.out) D404_lt.out) hb);have n2_:=am' (rb' (Kd.R_dlt (kr' HL353_0.out) D404_lt.out) hb);have n3_:=am' (Kd.R_elder' (Kd.R_dlt (kr' HO356.out) D404_lt.out) (Kd.R_base ho0) hb);have n4_:=am' (Kd.R_lower (Kd.R_new' (Kd.R_dge ho0 D404_ge.out) (Kd.R_lt (kr' HO356.out))) (bz' (y5' GE331.out GE332.out GE333.out GE334.out GE359.out)));have n5_:=am' (bb' (g:=gb331) (o := .cells #[.int .i64 a0_0, .int .i64 a0_1] 32 (0,0)) (kk' BK331.out) hb);have n6_:=am' (bb' (g:=gb332) (o := .cells #[.slice A1_0 l1_0.length c1_0, .bool a1_1] 35 (0,0)) (kk' BK332.out) hb);have n7_:=am' (bb' (g:=gb333) (o := .cells #[.int .i64 a2_0, .int .i64 a2_1] 32 (0,0)) (kk' BK333.out) hb);have n8_:=am' (bb' (g:=gb334) (o := .cells #[.slice A3_0 l3_0.length c3_0, .bool a3_1] 35 (0,0)) (kk' BK334.out) hb);have n9_:=am' (cb' (kx' HR353_0.out) hb);have n10_:=am' (bb' (g:=gb359) (o := .cells #[.slice Ao133 t354.length co133, .bool t357] 35 (0,0)) (kk' BK359.out) hb);have n11_:=am' (bt' (y5' GE331.out GE332.out GE333.out GE334.out GE359.out) hb);clear HO_15;clear HO_126;clear HL353_0;clear HO356;clear BK331;clear BK332;clear BK333;clear BK334;clear HR353_0;clear BK359;clear HB;have HO_15:=n0_;have HO_126:=n1_;have HL353_0:=n2_;have HO356:=n3_;have HO366:=n4_;have BK331:=n5_;have BK332:=n6_;have BK333:=n7_;have BK334:=n8_;have HR353_0:=n9_;have BK359:=n10_;have HB:=n11_;clear n0_ n1_ n2_ n3_ n4_ n5_ n6_ n7_ n8_ n9_ n10_ n11_;(try clear hb);(try clear hb2);(try clear hk);(try clear hi);(try clear ho0))|((with_reducible refine gate_dst (N:=31) rfl ?_);(try (refine gate_guard (by rfl) ?_;dsimp only));refine box_event ?hg (N:=31) ?hd (cs:=#[.slice none 0 0, .bool false]) (t:=35) ?hr ?_;(case hd=>rfl);(case hg=>rfl);(case hr=>first|(go_simp;done)|(go_simp;rfl));intro gb369 hg w146 hbox hb;have n0_:=am' (Kd.S_below (kS' HO_15.out) hb);have n1_:=am' (Kd.S_below (kS' HO_126.out) hb);have n2_:=am' (rb' (kr' HL353_0.out) hb);have n3_:=am' (rb' (kr' HO356.out) hb);have n4_:=am' (rb' (kr' HO366.out) hb);have n5_:=am' (bb' (g:=gb331) (o := .cells #[.int .i64 a0_0, .int .i64 a0_1] 32 (0,0)) (kk' BK331.out) hb);have n6_:=am' (bb' (g:=gb332) (o := .cells #[.slice A1_0 l1_0.length c1_0, .bool a1_1] 35 (0,0)) (kk' BK332.out) hb);have n7_:=am' (bb' (g:=gb333) (o := .cells #[.int .i64 a2_0, .int .i64 a2_1] 32 (0,0)) (kk' BK333.out) hb);have n8_:=am' (bb' (g:=gb334) (o := .cells #[.slice A3_0 l3_0.length c3_0, .bool a3_1] 35 (0,0)) (kk' BK334.out) hb);have n9_:=am' (cb' (kx' HR353_0.out) hb);have n10_:=am' (bb' (g:=gb359) (o := .cells #[.slice Ao133 t354.length co133, .bool t357] 35 (0,0)) (kk' BK359.out) hb);have n11_:=am' (bt' (y5' GE331.out GE332.out GE333.out GE334.out GE359.out) hb);have n12_:=am' (hbox);have n13_:=am' ((by rw[hg];exact (bz' (y5' GE331.out GE332.out GE333.out GE334.out GE359.out)):w.heap.size≤gb369));have n14_:=am' ((by rw[hg];exact (bz' (y5' GE331.out GE332.out GE333.out GE334.out GE359.out)):w.heap.size≤gb369));have n15_:=am' ((by rw[hg];exact Nat.ne_of_lt (blk_lt (g:=gb331) (o := .cells #[.int .i64 a0_0, .int .i64 a0_1] 32 (0,0)) (kk' BK331.out)):gb331≠gb369));have n16_:=am' ((by rw[hg];exact Nat.ne_of_gt (blk_lt (g:=gb331) (o := .cells #[.int .i64 a0_0, .int .i64 a0_1] 32 (0,0)) (kk' BK331.out)):gb369≠gb331));have n17_:=am' ((by rw[hg];exact Nat.ne_of_lt (blk_lt (g:=gb332) (o := .cells #[.slice A1_0 l1_0.length c1_0, .bool a1_1] 35 (0,0)) (kk' BK332.out)):gb332≠gb369));have n18_:=am' ((by rw[hg];exact Nat.ne_of_gt (blk_lt (g:=gb332) (o := .cells #[.slice A1_0 l1_0.length c1_0, .bool a1_1] 35 (0,0)) (kk' BK332.out)):gb369≠gb332));have n19_:=am' ((by rw[hg];exact Nat.ne_of_lt (blk_lt (g:=gb333) (o := .cells #[.int .i64 a2_0, .int .i64 a2_1] 32 (0,0)) (kk' BK333.out)):gb333≠gb369));have n20_:=am' ((by rw[hg];exact Nat.ne_of_gt (blk_lt (g:=gb333) (o := .cells #[.int .i64 a2_0, .int .i64 a2_1] 32 (0,0)) (kk' BK333.out)):gb369≠gb333));have n21_:=am' ((by rw[hg];exact Nat.ne_of_lt (blk_lt (g:=gb334) (o := .cells #[.slice A3_0 l3_0.length c3_0, .bool a3_1] 35 (0,0)) (kk' BK334.out)):gb334≠gb369));have n22_:=am' ((by rw[hg];exact Nat.ne_of_gt (blk_lt (g:=gb334) (o := .cells #[.slice A3_0 l3_0.length c3_0, .bool a3_1] 35 (0,0)) (kk' BK334.out)):gb369≠gb334));have n23_:=am' ((by rw[hg];exact Nat.ne_of_lt (blk_lt (g:=gb359) (o := .cells #[.slice Ao133 t354.length co133, .bool t357] 35 (0,0)) (kk' BK359.out)):gb359≠gb369));have n24_:=am' ((by rw[hg];exact Nat.ne_of_gt (blk_lt (g:=gb359) (o := .cells #[.slice Ao133 t354.length co133, .bool t357] 35 (0,0)) (kk' BK359.out)):gb369≠gb359));clear HO_15;clear HO_126;clear HL353_0;clear HO356;clear HO366;clear BK331;clear BK332;clear BK333;clear BK334;clear HR353_0;clear BK359;clear HB;have HO_15:=n0_;have HO_126:=n1_;have HL353_0:=n2_;have HO356:=n3_;have HO366:=n4_;have BK331:=n5_;have BK332:=n6_;have BK333:=n7_;have BK334:=n8_;have HR353_0:=n9_;have BK359:=n10_;have HB:=n11_;have BK369:=n12_;have GW369:=n13_;have GE369:=n14_;have NB331_369:=n15_;have NB369_331:=n16_;have NB332_369:=n17_;have NB369_332:=n18_;have NB333_369:=n19_;have NB369_333:=n20_;have NB334_369:=n21_;have NB369_334:=n22_;have NB359_369:=n23_;have NB369_359:=n24_;clear n0_ n1_ n2_ n3_ n4_ n5_ n6_ n7_ n8_ n9_ n10_ n11_ n12_ n13_ n14_ n15_ n16_ n17_ n18_ n19_ n20_ n21_ n22_ n23_ n24_;clear hb hbox hg;obtain ⟨Ao147,co147,eo147⟩:=Kd.R_slice HO366.out;subst eo147;have hnb148:=NB369_331.out;have hnc148:=NB331_369.out;have hnb149:=NB369_332.out;have hnc149:=NB332_369.out;have hnb150:=NB369_333.out;have hnc150:=NB333_369.out;have hnb151:=NB369_334.out;have hnc151:=NB334_369.out;have hnb152:=NB369_359.out;have hnc152:=NB359_369.out;have hcz153_0:w146.cell? ⟨gb369,0,none⟩=some (.slice none 0 0):=(bc' BK369.out 0).trans rfl;have hcz153_1:w146.cell? ⟨gb369,1,none⟩=some (.bool false):=(bc' BK369.out 1).trans rfl;have hfz153_0:=bf' BK369.out 0;have hfz153_1:=bf' BK369.out 1;have hcz154_0:w146.cell? ⟨gb332,0,none⟩=some (.slice A1_0 l1_0.length c1_0):=(bc' BK332.out 0).trans rfl;have hcz154_1:w146.cell? ⟨gb332,1,none⟩=some (.bool a1_1):=(bc' BK332.out 1).trans rfl;have hfz154_0:=bf' BK332.out 0;have hfz154_1:=bf' BK332.out 1)|(go_at_call 22;(with_reducible refine (laws_hState.calls k5 _ _ t364 t367 _ _ l1_0 a1_1 true _ ?side1 ?side2 ?side3 ?side4 A81.out).mono ?_);(case side1=>refine (Kd.R_reads' (e:=4) (base:=w.heap.size) (ok:=fun k_=>((True∧¬ D404_ k_)∧some k_≠(.slice Ao133 t354.length co133:Value).ownBlock)) (n:=t364.length) (c:=co147) ?_).2.2;exact (by (with_reducible repeat (first|apply ra'|apply rn'|apply rw'));exact (Kd.R_mono (Kd.R_far (p:=⟨gb369,1,none⟩) (Kd.R_far (p:=⟨gb369,0,none⟩) (Kd.R_types HO366.out BK369.out (by decide)) (fun _ hk=>hk.2) (.slice Ao147 t364.length co147)) (fun _ hk=>hk.2) (.bool t367)) (fun _ h_=>h_.1))));(case side2=>exact (Kd.R_reads' HO366.out).2.1);(case side3=>exact cb' HR1_0.out (y6' GE331.out GE332.out GE333.out GE334.out GE359.out GE369.out));(case side4=>exact HC1_0.out);rintro e w155 ⟨rfl,hb⟩;have n0_:=am' (Kd.S_below (by (with_reducible repeat (first|apply Kd.S_alloc|apply Kd.S_drewN|apply Kd.S_drew));exact (Kd.S_mono (Kd.S_far (p:=⟨gb369,1,none⟩) (Kd.S_far (p:=⟨gb369,0,none⟩) (Kd.S_types HO_15.out BK369.out (by decide)) (fun _ hk=>hk.2) (.slice Ao147 t364.length co147)) (fun _ hk=>hk.2) (.bool t367)) (fun _ h_=>h_.1))) hb);have n1_:=am' (Kd.S_below (by (with_reducible repeat (first|apply Kd.S_alloc|apply Kd.S_drewN|apply Kd.S_drew));exact (Kd.S_mono (Kd.S_far (p:=⟨gb369,1,none⟩) (Kd.S_far (p:=⟨gb369,0,none⟩) (Kd.S_types HO_126.out BK369.out (by decide)) (fun _ hk=>hk.2) (.slice Ao147 t364.length co147)) (fun _ hk=>hk.2) (.bool t367)) (fun _ h_=>h_.1))) hb);have n2_:=am' (rb' (by (with_reducible repeat (first|apply ra'|apply rn'|apply rw'));exact (Kd.R_mono (Kd.R_far (p:=⟨gb369,1,none⟩) (Kd.R_far (p:=⟨gb369,0,none⟩) (Kd.R_types HL353_0.out BK369.out (by decide)) (fun _ hk=>hk.2) (.slice Ao147 t364.length co147)) (fun _ hk=>hk.2) (.bool t367)) (fun _ h_=>h_.1))) hb);have n3_:=am' (rb' (by (with_reducible repeat (first|apply ra'|apply rn'|apply rw'));exact (Kd.R_mono (Kd.R_far (p:=⟨gb369,1,none⟩) (Kd.R_far (p:=⟨gb369,0,none⟩) (Kd.R_types HO356.out BK369.out (by decide)) (fun _ hk=>hk.2) (.slice Ao147 t364.length co147)) (fun _ hk=>hk.2) (.bool t367)) (fun _ h_=>h_.1))) hb);have n4_:=am' (rb' (by (with_reducible repeat (first|apply ra'|apply rn'|apply rw'));exact (Kd.R_mono (Kd.R_far (p:=⟨gb369,1,none⟩) (Kd.R_far (p:=⟨gb369,0,none⟩) (Kd.R_types HO366.out BK369.out (by decide)) (fun _ hk=>hk.2) (.slice Ao147 t364.length co147)) (fun _ hk=>hk.2) (.bool t367)) (fun _ h_=>h_.1))) hb);have n5_:=am' (bb' (g:=gb331) (o := .cells #[.int .i64 a0_0, .int .i64 a0_1] 32 (0,0)) (by (with_reducible repeat (first|refine kn' ?_ _|refine kd' ?_|refine ka' ?_ _));refine blk_far ?_ NB331_369.out _;(with_reducible repeat (first|refine kn' ?_ _|refine kd' ?_|refine ka' ?_ _));refine blk_far ?_ NB331_369.out _;(with_reducible repeat (first|refine kn' ?_ _|refine kd' ?_|refine ka' ?_ _));exact BK331.out) hb);have n6_:=am' (bb' (g:=gb332) (o := .cells #[.slice A1_0 l1_0.length c1_0, .bool a1_1] 35 (0,0)) (by (with_reducible repeat (first|refine kn' ?_ _|refine kd' ?_|refine ka' ?_ _));refine blk_far ?_ NB332_369.out _;(with_reducible repeat (first|refine kn' ?_ _|refine kd' ?_|refine ka' ?_ _));refine blk_far ?_ NB332_369.out _;(with_reducible repeat (first|refine kn' ?_ _|refine kd' ?_|refine ka' ?_ _));exact BK332.out) hb);have n7_:=am' (bb' (g:=gb333) (o := .cells #[.int .i64 a2_0, .int .i64 a2_1] 32 (0,0)) (by (with_reducible repeat (first|refine kn' ?_ _|refine kd' ?_|refine ka' ?_ _));refine blk_far ?_ NB333_369.out _;(with_reducible repeat (first|refine kn' ?_ _|refine kd' ?_|refine ka' ?_ _));refine blk_far ?_ NB333_369.out _;(with_reducible repeat (first|refine kn' ?_ _|refine kd' ?_|refine ka' ?_ _));exact BK333.out) hb);have n8_:=am' (bb' (g:=gb334) (o := .cells #[.slice A3_0 l3_0.length c3_0, .bool a3_1] 35 (0,0)) (by (with_reducible repeat (first|refine kn' ?_ _|refine kd' ?_|refine ka' ?_ _));refine blk_far ?_ NB334_369.out _;(with_reducible repeat (first|refine kn' ?_ _|refine kd' ?_|refine ka' ?_ _));refine blk_far ?_ NB334_369.out _;(with_reducible repeat (first|refine kn' ?_ _|refine kd' ?_|refine ka' ?_ _));exact BK334.out) hb);have n9_:=am' (cb' ((Kd.R_reads' (by (with_reducible repeat (first|apply ra'|apply rn'|apply rw'));exact (Kd.R_mono (Kd.R_far (p:=⟨gb369,1,none⟩) (Kd.R_far (p:=⟨gb369,0,none⟩) (Kd.R_types HL353_0.out BK369.out (by decide)) (fun _ hk=>hk.2) (.slice Ao147 t364.length co147)) (fun _ hk=>hk.2) (.bool t367)) (fun _ h_=>h_.1)))).2.2) hb);have n10_:=am' (bb' (g:=gb359) (o := .cells #[.slice Ao133 t354.length co133, .bool t357] 35 (0,0)) (by (with_reducible repeat (first|refine kn' ?_ _|refine kd' ?_|refine ka' ?_ _));refine blk_far ?_ NB359_369.out _;(with_reducible repeat (first|refine kn' ?_ _|refine kd' ?_|refine ka' ?_ _));refine blk_far ?_ NB359_369.out _;(with_reducible repeat (first|refine kn' ?_ _|refine kd' ?_|refine ka' ?_ _));exact BK359.out) hb);have n11_:=am' (bb' (g:=gb369) (o := .cells #[.slice Ao147 t364.length co147, .bool t367] 35 (0,0)) (by (with_reducible repeat (first|refine kn' ?_ _|refine kd' ?_|refine ka' ?_ _));refine blk_put (cs:=#[.slice Ao147 t364.length co147, .bool false]) ?_ 1 _ rfl;(with_reducible repeat (first|refine kn' ?_ _|refine kd' ?_|refine ka' ?_ _));refine blk_put (cs:=#[.slice none 0 0, .bool false]) ?_ 0 _ rfl;(with_reducible repeat (first|refine kn' ?_ _|refine kd' ?_|refine ka' ?_ _));exact BK369.out) hb);have n12_:=am' (bt' (y6' GE331.out GE332.out GE333.out GE334.out GE359.out GE369.out) hb);clear HO_15;clear HO_126;clear HL353_0;clear HO356;clear HO366;clear BK331;clear BK332;clear BK333;clear BK334;clear HR353_0;clear BK359;clear BK369;clear HB;have HO_15:=n0_;have HO_126:=n1_;have HL353_0:=n2_;have HO356:=n3_;have HO366:=n4_;have BK331:=n5_;have BK332:=n6_;have BK333:=n7_;have BK334:=n8_;have HR353_0:=n9_;have BK359:=n10_;have BK369:=n11_;have HB:=n12_;clear n0_ n1_ n2_ n3_ n4_ n5_ n6_ n7_ n8_ n9_ n10_ n11_ n12_;(try clear hb);(try clear hb2);(try clear hk);(try clear hi);have hcz156_0:w155.cell? ⟨gb331,0,none⟩=some (.int .i64 a0_0):=(bc' BK331.out 0).trans rfl;have hcz156_1:w155.cell? ⟨gb331,1,none⟩=some (.int .i64 a0_1):=(bc' BK331.out 1).trans rfl;have hfz156_0:=bf' BK331.out 0;have hfz156_1:=bf' BK331.out 1))
                          go_roundg k5
                          case measure=>have:=HJ7.out;have:=HJ13.out;have:=HJ19.out;have:=HJ62.out;have:=HK5.out;omega
                          case rel=>exact ⟨(wrap64 (x128_5+1)),xs',H',⟨by have:=HJ7.out;have:=HJ13.out;have:=HJ19.out;have:=HJ62.out;have:=HK5.out;omega⟩,⟨by (with_reducible repeat (first|apply Kd.S_alloc|apply Kd.S_drewN|apply Kd.S_drew));exact Kd.S_mono HO_15.out (fun _ hk=>⟨hk.1.1.1,hk.1.1.2⟩)⟩,⟨by (with_reducible repeat (first|apply Kd.S_alloc|apply Kd.S_drewN|apply Kd.S_drew));exact Kd.S_mono HO_126.out (fun _ hk=>⟨hk.1.1.1,hk.1.1.2⟩)⟩,⟨kk' BK331.out⟩,⟨kk' BK332.out⟩,⟨kk' BK333.out⟩,⟨kk' BK334.out⟩,⟨y6' GE331.out GE332.out GE333.out GE334.out GE359.out GE369.out⟩⟩
                      ·
                       rw[if_neg c82] at H;exact absurd (H.trans (congrArg some HRT.out)) (by decide)
                     ·
                      rw[if_neg c80] at H;exact absurd (H.trans (congrArg some HRT.out)) (by decide)
                    ·
                     rw[if_neg c79] at H;exact absurd (H.trans (congrArg some HRT.out)) (by decide)
                   ·
                    rw[if_neg c78] at H;exact absurd (H.trans (congrArg some HRT.out)) (by decide)
                  ·
                   rw[if_neg c77] at H;exact absurd (H.trans (congrArg some HRT.out)) (by decide)
                 ·
                  rw[if_neg c76] at H;exact absurd (H.trans (congrArg some HRT.out)) (by decide)
                ·
                 rw[if_neg c75] at H;exact absurd (H.trans (congrArg some HRT.out)) (by decide)
               ·
                rw[if_neg c70] at H;exact absurd H (by simp)
              ·
               rw[if_neg c69] at H;exact absurd H (by simp)
             ·
              rw[if_neg c68] at H;have c68b0:decide (x128_5 < (t335.length:Int))=false:=df' c68;clear c68;(first|rw[c68b0]|(simp only[i64_w,i32_w];rw[c68b0])|skip)
              have H':=am' H;clear H;go_wp2;go_meet
              case rel=>exact ⟨_,H',⟨by have:=HJ7.out;have:=HJ13.out;have:=HJ19.out;have:=HJ62.out;have:=HK5.out;first|omega|exact Nat.le_refl _⟩,⟨kk' BK331.out⟩,⟨kk' BK332.out⟩,⟨kk' BK333.out⟩,⟨kk' BK334.out⟩,⟨y4' GE331.out GE332.out GE333.out GE334.out⟩⟩
          ·
           replace c66:=Bool.eq_false_iff.mpr c66;subst c66;have H1:(laws_FnCouplesCalmOfAll.j5 kj62 l4 a5 l6 a2_0 a2_1 l3_0 a3_1)=some r:=by rw[if_neg (show ¬ (false=true) by decide)] at H;exact H
           clear H;have H:=H1;clear H1;have H':=am' H;clear H;go_wp2;go_meet
           case rel=>exact ⟨_,H',⟨by have:=HJ7.out;have:=HJ13.out;have:=HJ19.out;have:=HJ62.out;first|omega|exact Nat.le_refl _⟩,⟨kk' BK331.out⟩,⟨kk' BK332.out⟩,⟨kk' BK333.out⟩,⟨kk' BK334.out⟩,⟨y4' GE331.out GE332.out GE333.out GE334.out⟩⟩
         case rest=>as_aux_lemma =>
          clear HC65;try clear c1
          try clear c2
          try clear p2
          try clear c3
          try clear p3
          try clear q3
          try clear hx3
          try clear c4
          try clear c5
          try clear c6
          try clear p6
          try clear c7
          try clear c8
          try clear c9
          try clear c10
          try clear c11
          try clear c12
          try clear c13
          try clear c14
          try clear c15
          try clear c16
          try clear c18
          try clear c19
          try clear c20
          try clear c21
          try clear c35
          try clear p35
          try clear q35
          try clear hx35
          try clear c37
          try clear p37
          try clear q37
          try clear hx37
          try clear c40
          try clear c43
          try clear c46
          try clear c55
          try clear c55b0
          try clear c55b1
          try clear c55b2
          try clear c64
          try clear p64
          try clear c66
          try clear c68
          try clear c68b0
          try clear c69
          try clear c69b0
          try clear c70
          try clear c70b0
          try clear c75
          try clear c76
          try clear c77
          try clear c78
          try clear c79
          try clear c80
          try clear c82
          try clear c83
          try clear c83b0
          try clear c83b1
          try clear c84
          try clear c84b0
          try clear c85
          try clear c85b0
          try clear c87
          try clear c87b0
          try clear c88
          try clear c88b0
          try clear c90
          try clear c91
          try clear c92
          try clear c93
          try clear c95
          try clear c96
          try clear c101
          try clear c102
          try clear c103
          try clear c104
          try clear c115
          try clear c116
          try clear c117
          try clear c118
          try clear c119
          try clear c124
          try clear c125
          try clear c126
          try clear c128
          try clear c129
          try clear c134
          try clear c135
          try clear c136
          try clear c137
          try clear c148
          try clear c149
          try clear c150
          try clear c151
          try clear c152
          try clear hcz105_0
          try clear hcz105_1
          try clear hcz106_0
          try clear hcz106_1
          try clear hcz108_0
          try clear hcz108_1
          try clear hcz110_0
          try clear hcz110_1
          try clear hcz111_0
          try clear hcz111_1
          try clear hcz120_0
          try clear hcz120_1
          try clear hcz121_0
          try clear hcz121_1
          try clear hcz123_0
          try clear hcz123_1
          try clear hcz127_0
          try clear hcz127_1
          try clear hcz130_0
          try clear hcz130_1
          try clear hcz138_0
          try clear hcz138_1
          try clear hcz139_0
          try clear hcz139_1
          try clear hcz141_0
          try clear hcz141_1
          try clear hcz143_0
          try clear hcz143_1
          try clear hcz144_0
          try clear hcz144_1
          try clear hcz153_0
          try clear hcz153_1
          try clear hcz154_0
          try clear hcz154_1
          try clear hcz156_0
          try clear hcz156_1
          try clear hcz94_0
          try clear hcz94_1
          try clear hcz97_0
          try clear hcz97_1
          try clear hfz105_0
          try clear hfz105_1
          try clear hfz106_0
          try clear hfz106_1
          try clear hfz108_0
          try clear hfz108_1
          try clear hfz110_0
          try clear hfz110_1
          try clear hfz111_0
          try clear hfz111_1
          try clear hfz120_0
          try clear hfz120_1
          try clear hfz121_0
          try clear hfz121_1
          try clear hfz123_0
          try clear hfz123_1
          try clear hfz127_0
          try clear hfz127_1
          try clear hfz130_0
          try clear hfz130_1
          try clear hfz138_0
          try clear hfz138_1
          try clear hfz139_0
          try clear hfz139_1
          try clear hfz141_0
          try clear hfz141_1
          try clear hfz143_0
          try clear hfz143_1
          try clear hfz144_0
          try clear hfz144_1
          try clear hfz153_0
          try clear hfz153_1
          try clear hfz154_0
          try clear hfz154_1
          try clear hfz156_0
          try clear hfz156_1
          try clear hfz94_0
          try clear hfz94_1
          try clear hfz97_0
          try clear hfz97_1
          try clear hx353_0
          try clear hx371_0
          try clear p2
          try clear p353
          try clear p371
          try clear q353
          try clear q371
          obtain ⟨kq,HA,HJ64,BK331,BK332,BK333,BK334,HB⟩:=hcut;cases kq with
          | zero=>exact absurd HA.out (by simp[laws_FnCouplesCalmOfAll.j5])
          | succ kj64 =>
           have H:=HA.out;clear HA;simp only[laws_FnCouplesCalmOfAll.j5] at H;replace H:=Option.bind_eq_some_iff.mp H;obtain ⟨⟨t373,t376,t377⟩,A1570,H⟩:=H;replace H:((spec_RowBoat.f kj64 a2_0 a2_1 l3_0 a3_1 l4).bind fun bt379=>((impl_IsCalmGroup.f kj64 a5 l6).bind fun bt385=>((spec_IsCalmGroup.f kj64 a5 l6).bind fun bt387=>(if (t377 != bt379.2.2)=true then (laws_FnCouplesCalmOfAll.j6 kj64 l4 l6 t377 bt385.1 bt385.2 true a2_0 a2_1 l3_0 a3_1 t373 t376) else ((laws_hState.f kj64 t373 t376 bt379.1 bt379.2.1).bind fun t389=>(if t389=true then (if (bt385.2 != bt387.2)=true then (laws_FnCouplesCalmOfAll.j6 kj64 l4 l6 t377 bt385.1 bt385.2 true a2_0 a2_1 l3_0 a3_1 t373 t376) else (laws_FnCouplesCalmOfAll.j6 kj64 l4 l6 t377 bt385.1 bt385.2 (bt385.1 != bt387.1) a2_0 a2_1 l3_0 a3_1 t373 t376)) else (laws_FnCouplesCalmOfAll.j6 kj64 l4 l6 t377 bt385.1 bt385.2 true a2_0 a2_1 l3_0 a3_1 t373 t376)))))))=some r:=H;have A157:=am' A1570;clear A1570;replace H:=Option.bind_eq_some_iff.mp H;obtain ⟨⟨t379,t382,t383⟩,A1580,H⟩:=H;replace H:((impl_IsCalmGroup.f kj64 a5 l6).bind fun bt385=>((spec_IsCalmGroup.f kj64 a5 l6).bind fun bt387=>(if (t377 != t383)=true then (laws_FnCouplesCalmOfAll.j6 kj64 l4 l6 t377 bt385.1 bt385.2 true a2_0 a2_1 l3_0 a3_1 t373 t376) else ((laws_hState.f kj64 t373 t376 t379 t382).bind fun t389=>(if t389=true then (if (bt385.2 != bt387.2)=true then (laws_FnCouplesCalmOfAll.j6 kj64 l4 l6 t377 bt385.1 bt385.2 true a2_0 a2_1 l3_0 a3_1 t373 t376) else (laws_FnCouplesCalmOfAll.j6 kj64 l4 l6 t377 bt385.1 bt385.2 (bt385.1 != bt387.1) a2_0 a2_1 l3_0 a3_1 t373 t376)) else (laws_FnCouplesCalmOfAll.j6 kj64 l4 l6 t377 bt385.1 bt385.2 true a2_0 a2_1 l3_0 a3_1 t373 t376))))))=some r:=H;have A158:=am' A1580;clear A1580;replace H:=Option.bind_eq_some_iff.mp H;obtain ⟨⟨t385,t386⟩,A1590,H⟩:=H;replace H:((spec_IsCalmGroup.f kj64 a5 l6).bind fun bt387=>(if (t377 != t383)=true then (laws_FnCouplesCalmOfAll.j6 kj64 l4 l6 t377 t385 t386 true a2_0 a2_1 l3_0 a3_1 t373 t376) else ((laws_hState.f kj64 t373 t376 t379 t382).bind fun t389=>(if t389=true then (if (t386 != bt387.2)=true then (laws_FnCouplesCalmOfAll.j6 kj64 l4 l6 t377 t385 t386 true a2_0 a2_1 l3_0 a3_1 t373 t376) else (laws_FnCouplesCalmOfAll.j6 kj64 l4 l6 t377 t385 t386 (t385 != bt387.1) a2_0 a2_1 l3_0 a3_1 t373 t376)) else (laws_FnCouplesCalmOfAll.j6 kj64 l4 l6 t377 t385 t386 true a2_0 a2_1 l3_0 a3_1 t373 t376)))))=some r:=H;have A159:=am' A1590;clear A1590;replace H:=Option.bind_eq_some_iff.mp H;obtain ⟨⟨t387,t388⟩,A1600,H⟩:=H;replace H:(if (t377 != t383)=true then (laws_FnCouplesCalmOfAll.j6 kj64 l4 l6 t377 t385 t386 true a2_0 a2_1 l3_0 a3_1 t373 t376) else ((laws_hState.f kj64 t373 t376 t379 t382).bind fun t389=>(if t389=true then (if (t386 != t388)=true then (laws_FnCouplesCalmOfAll.j6 kj64 l4 l6 t377 t385 t386 true a2_0 a2_1 l3_0 a3_1 t373 t376) else (laws_FnCouplesCalmOfAll.j6 kj64 l4 l6 t377 t385 t386 (t385 != t387) a2_0 a2_1 l3_0 a3_1 t373 t376)) else (laws_FnCouplesCalmOfAll.j6 kj64 l4 l6 t377 t385 t386 true a2_0 a2_1 l3_0 a3_1 t373 t376))))=some r:=H
           have A160:=am' A1600;clear A1600;have HC161:=am' H;clear H;have hnb162:=NB333_331.out;have hnc162:=NB331_333.out;have hnb163:=NB333_332.out;have hnc163:=NB332_333.out;have hnb164:=NB333_334.out;have hnc164:=NB334_333.out;have hcz165_0:wc.cell? ⟨gb333,0,none⟩=some (.int .i64 a2_0):=(bc' BK333.out 0).trans rfl;have hcz165_1:wc.cell? ⟨gb333,1,none⟩=some (.int .i64 a2_1):=(bc' BK333.out 1).trans rfl;have hfz165_0:=bf' BK333.out 0;have hfz165_1:=bf' BK333.out 1;have hnb166:=NB334_331.out;have hnc166:=NB331_334.out;have hnb167:=NB334_332.out;have hnc167:=NB332_334.out;have hcz168_0:wc.cell? ⟨gb334,0,none⟩=some (.slice A3_0 l3_0.length c3_0):=(bc' BK334.out 0).trans rfl;have hcz168_1:wc.cell? ⟨gb334,1,none⟩=some (.bool a3_1):=(bc' BK334.out 1).trans rfl;have hfz168_0:=bf' BK334.out 0;have hfz168_1:=bf' BK334.out 1;go_upto_region 24 with (first|((with_reducible refine gate_callee (f:=20) rfl ?_);refine goesL_ (some 219) rfl rfl Try.func20 xk' rfl #[.agg #[.int .i64 a2_0, .int .i64 a2_1], .agg #[.slice A3_0 l3_0.length c3_0, .bool a3_1], .slice A4 l4.length c4] rfl xl' ?_;(with_reducible refine (impl_RowBoat.calls kj64 a2_0 a2_1 _ _ l3_0 a3_1 _ _ l4 t373 t376 t377 _ ?side1 ?side2 ?side3 ?side4 A157.out).mono ?_);(case side1=>exact kc' (cb' HR3_0.out HB.out));(case side2=>exact HC3_0.out);(case side3=>exact kc' (cb' HR4.out HB.out));(case side4=>exact HC4.out);rintro e w169 ⟨v374,rfl,ho0,hb⟩;refine ⟨_,rfl,?_⟩;obtain ⟨D405_,hdl_,hdg_⟩:=dlt_of hb;have D405_lt:=am' hdl_;have D405_ge:=am' hdg_;clear hdl_ hdg_;have n0_:=am' (Kd.R_lower (Kd.R_dge ho0 D405_ge.out) (bz' (y4' GE331.out GE332.out GE333.out GE334.out)));have n1_:=am' (bb' (g:=gb331) (o := .cells #[.int .i64 a0_0, .int .i64 a0_1] 32 (0,0)) (kk' BK331.out) hb);have n2_:=am' (bb' (g:=gb332) (o := .cells #[.slice A1_0 l1_0.length c1_0, .bool a1_1] 35 (0,0)) (kk' BK332.out) hb);have n3_:=am' (bb' (g:=gb333) (o := .cells #[.int .i64 a2_0, .int .i64 a2_1] 32 (0,0)) (kk' BK333.out) hb);have n4_:=am' (bb' (g:=gb334) (o := .cells #[.slice A3_0 l3_0.length c3_0, .bool a3_1] 35 (0,0)) (kk' BK334.out) hb);have n5_:=am' (bt' (y4' GE331.out GE332.out GE333.out GE334.out) hb);clear BK331;clear BK332;clear BK333;clear BK334;clear HB;have HO375:=n0_;have BK331:=n1_;have BK332:=n2_;have BK333:=n3_;have BK334:=n4_;have HB:=n5_;clear n0_ n1_ n2_ n3_ n4_ n5_;(try clear hb);(try clear hb2);(try clear hk);(try clear hi);(try clear ho0))|((with_reducible refine gate_dst (N:=33) rfl ?_);(try (refine gate_guard (by rfl) ?_;dsimp only));refine box_event ?hg (N:=33) ?hd (cs:=#[.slice none 0 0, .bool false]) (t:=35) ?hr ?_;(case hd=>rfl);(case hg=>rfl);(case hr=>first|(go_simp;done)|(go_simp;rfl));intro gb378 hg w170 hbox hb;have n0_:=am' (rb' (kr' HO375.out) hb);have n1_:=am' (bb' (g:=gb331) (o := .cells #[.int .i64 a0_0, .int .i64 a0_1] 32 (0,0)) (kk' BK331.out) hb);have n2_:=am' (bb' (g:=gb332) (o := .cells #[.slice A1_0 l1_0.length c1_0, .bool a1_1] 35 (0,0)) (kk' BK332.out) hb);have n3_:=am' (bb' (g:=gb333) (o := .cells #[.int .i64 a2_0, .int .i64 a2_1] 32 (0,0)) (kk' BK333.out) hb);have n4_:=am' (bb' (g:=gb334) (o := .cells #[.slice A3_0 l3_0.length c3_0, .bool a3_1] 35 (0,0)) (kk' BK334.out) hb);have n5_:=am' (bt' (y4' GE331.out GE332.out GE333.out GE334.out) hb);have n6_:=am' (hbox);have n7_:=am' ((by rw[hg];exact (bz' (y4' GE331.out GE332.out GE333.out GE334.out)):w.heap.size≤gb378));have n8_:=am' ((by rw[hg];exact (bz' (y4' GE331.out GE332.out GE333.out GE334.out)):w.heap.size≤gb378));have n9_:=am' ((by rw[hg];exact Nat.ne_of_lt (blk_lt (g:=gb331) (o := .cells #[.int .i64 a0_0, .int .i64 a0_1] 32 (0,0)) (kk' BK331.out)):gb331≠gb378));have n10_:=am' ((by rw[hg];exact Nat.ne_of_gt (blk_lt (g:=gb331) (o := .cells #[.int .i64 a0_0, .int .i64 a0_1] 32 (0,0)) (kk' BK331.out)):gb378≠gb331));have n11_:=am' ((by rw[hg];exact Nat.ne_of_lt (blk_lt (g:=gb332) (o := .cells #[.slice A1_0 l1_0.length c1_0, .bool a1_1] 35 (0,0)) (kk' BK332.out)):gb332≠gb378));have n12_:=am' ((by rw[hg];exact Nat.ne_of_gt (blk_lt (g:=gb332) (o := .cells #[.slice A1_0 l1_0.length c1_0, .bool a1_1] 35 (0,0)) (kk' BK332.out)):gb378≠gb332));have n13_:=am' ((by rw[hg];exact Nat.ne_of_lt (blk_lt (g:=gb333) (o := .cells #[.int .i64 a2_0, .int .i64 a2_1] 32 (0,0)) (kk' BK333.out)):gb333≠gb378));have n14_:=am' ((by rw[hg];exact Nat.ne_of_gt (blk_lt (g:=gb333) (o := .cells #[.int .i64 a2_0, .int .i64 a2_1] 32 (0,0)) (kk' BK333.out)):gb378≠gb333));have n15_:=am' ((by rw[hg];exact Nat.ne_of_lt (blk_lt (g:=gb334) (o := .cells #[.slice A3_0 l3_0.length c3_0, .bool a3_1] 35 (0,0)) (kk' BK334.out)):gb334≠gb378));have n16_:=am' ((by rw[hg];exact Nat.ne_of_gt (blk_lt (g:=gb334) (o := .cells #[.slice A3_0 l3_0.length c3_0, .bool a3_1] 35 (0,0)) (kk' BK334.out)):gb378≠gb334));clear HO375;clear BK331;clear BK332;clear BK333;clear BK334;clear HB;have HO375:=n0_;have BK331:=n1_;have BK332:=n2_;have BK333:=n3_;have BK334:=n4_;have HB:=n5_;have BK378:=n6_;have GW378:=n7_;have GE378:=n8_;have NB331_378:=n9_;have NB378_331:=n10_;have NB332_378:=n11_;have NB378_332:=n12_;have NB333_378:=n13_;have NB378_333:=n14_;have NB334_378:=n15_;have NB378_334:=n16_;clear n0_ n1_ n2_ n3_ n4_ n5_ n6_ n7_ n8_ n9_ n10_ n11_ n12_ n13_ n14_ n15_ n16_;clear hb hbox hg;obtain ⟨Ao171,co171,eo171⟩:=Kd.R_slice HO375.out;subst eo171;have hnb172:=NB378_331.out;have hnc172:=NB331_378.out;have hnb173:=NB378_332.out;have hnc173:=NB332_378.out;have hnb174:=NB378_333.out;have hnc174:=NB333_378.out;have hnb175:=NB378_334.out;have hnc175:=NB334_378.out;have hcz176_0:w170.cell? ⟨gb378,0,none⟩=some (.slice none 0 0):=(bc' BK378.out 0).trans rfl;have hcz176_1:w170.cell? ⟨gb378,1,none⟩=some (.bool false):=(bc' BK378.out 1).trans rfl;have hfz176_0:=bf' BK378.out 0;have hfz176_1:=bf' BK378.out 1;have hcz177_0:w170.cell? ⟨gb333,0,none⟩=some (.int .i64 a2_0):=(bc' BK333.out 0).trans rfl;have hcz177_1:w170.cell? ⟨gb333,1,none⟩=some (.int .i64 a2_1):=(bc' BK333.out 1).trans rfl;have hfz177_0:=bf' BK333.out 0;have hfz177_1:=bf' BK333.out 1;have hcz178_0:w170.cell? ⟨gb334,0,none⟩=some (.slice A3_0 l3_0.length c3_0):=(bc' BK334.out 0).trans rfl;have hcz178_1:w170.cell? ⟨gb334,1,none⟩=some (.bool a3_1):=(bc' BK334.out 1).trans rfl;have hfz178_0:=bf' BK334.out 0;have hfz178_1:=bf' BK334.out 1)|((with_reducible refine gate_callee (f:=24) rfl ?_);refine goesL_ (some 226) rfl rfl Try.func24 xk' rfl #[.agg #[.int .i64 a2_0, .int .i64 a2_1], .agg #[.slice A3_0 l3_0.length c3_0, .bool a3_1], .slice A4 l4.length c4] rfl xl' ?_;(with_reducible refine (spec_RowBoat.calls kj64 a2_0 a2_1 _ _ l3_0 a3_1 _ _ l4 t379 t382 t383 _ ?side1 ?side2 ?side3 ?side4 A158.out).mono ?_);(case side1=>exact cb' HR3_0.out (y5' GE331.out GE332.out GE333.out GE334.out GE378.out));(case side2=>exact HC3_0.out);(case side3=>exact cb' HR4.out (y5' GE331.out GE332.out GE333.out GE334.out GE378.out));(case side4=>exact HC4.out);rintro e w179 ⟨v380,rfl,ho0,hb⟩;refine ⟨_,rfl,?_⟩;obtain ⟨D406_,hdl_,hdg_⟩:=dlt_of hb;have D406_lt:=am' hdl_;have D406_ge:=am' hdg_;clear hdl_ hdg_;have n0_:=am' (Kd.R_elder' (Kd.R_dlt (by (with_reducible repeat (first|apply ra'|apply rn'|apply rw'));exact (Kd.R_mono (Kd.R_far (p:=⟨gb378,1,none⟩) (Kd.R_far (p:=⟨gb378,0,none⟩) (Kd.R_types HO375.out BK378.out (by decide)) (fun _ hk=>hk.2) (.slice Ao171 t373.length co171)) (fun _ hk=>hk.2) (.bool t376)) (fun _ h_=>h_.1))) D406_lt.out) (Kd.R_base ho0) hb);have n1_:=am' (Kd.R_lower (Kd.R_new' (Kd.R_dge ho0 D406_ge.out) (Kd.R_lt (by (with_reducible repeat (first|apply ra'|apply rn'|apply rw'));exact (Kd.R_mono (Kd.R_far (p:=⟨gb378,1,none⟩) (Kd.R_far (p:=⟨gb378,0,none⟩) (Kd.R_types HO375.out BK378.out (by decide)) (fun _ hk=>hk.2) (.slice Ao171 t373.length co171)) (fun _ hk=>hk.2) (.bool t376)) (fun _ h_=>h_.1))))) (bz' (y5' GE331.out GE332.out GE333.out GE334.out GE378.out)));have n2_:=am' (bb' (g:=gb331) (o := .cells #[.int .i64 a0_0, .int .i64 a0_1] 32 (0,0)) (by (with_reducible repeat (first|refine kn' ?_ _|refine kd' ?_|refine ka' ?_ _));refine blk_far ?_ NB331_378.out _;(with_reducible repeat (first|refine kn' ?_ _|refine kd' ?_|refine ka' ?_ _));refine blk_far ?_ NB331_378.out _;(with_reducible repeat (first|refine kn' ?_ _|refine kd' ?_|refine ka' ?_ _));exact BK331.out) hb);have n3_:=am' (bb' (g:=gb332) (o := .cells #[.slice A1_0 l1_0.length c1_0, .bool a1_1] 35 (0,0)) (by (with_reducible repeat (first|refine kn' ?_ _|refine kd' ?_|refine ka' ?_ _));refine blk_far ?_ NB332_378.out _;(with_reducible repeat (first|refine kn' ?_ _|refine kd' ?_|refine ka' ?_ _));refine blk_far ?_ NB332_378.out _;(with_reducible repeat (first|refine kn' ?_ _|refine kd' ?_|refine ka' ?_ _));exact BK332.out) hb);have n4_:=am' (bb' (g:=gb333) (o := .cells #[.int .i64 a2_0, .int .i64 a2_1] 32 (0,0)) (by (with_reducible repeat (first|refine kn' ?_ _|refine kd' ?_|refine ka' ?_ _));refine blk_far ?_ NB333_378.out _;(with_reducible repeat (first|refine kn' ?_ _|refine kd' ?_|refine ka' ?_ _));refine blk_far ?_ NB333_378.out _;(with_reducible repeat (first|refine kn' ?_ _|refine kd' ?_|refine ka' ?_ _));exact BK333.out) hb);have n5_:=am' (bb' (g:=gb334) (o := .cells #[.slice A3_0 l3_0.length c3_0, .bool a3_1] 35 (0,0)) (by (with_reducible repeat (first|refine kn' ?_ _|refine kd' ?_|refine ka' ?_ _));refine blk_far ?_ NB334_378.out _;(with_reducible repeat (first|refine kn' ?_ _|refine kd' ?_|refine ka' ?_ _));refine blk_far ?_ NB334_378.out _;(with_reducible repeat (first|refine kn' ?_ _|refine kd' ?_|refine ka' ?_ _));exact BK334.out) hb);have n6_:=am' (bb' (g:=gb378) (o := .cells #[.slice Ao171 t373.length co171, .bool t376] 35 (0,0)) (by (with_reducible repeat (first|refine kn' ?_ _|refine kd' ?_|refine ka' ?_ _));refine blk_put (cs:=#[.slice Ao171 t373.length co171, .bool false]) ?_ 1 _ rfl;(with_reducible repeat (first|refine kn' ?_ _|refine kd' ?_|refine ka' ?_ _));refine blk_put (cs:=#[.slice none 0 0, .bool false]) ?_ 0 _ rfl;(with_reducible repeat (first|refine kn' ?_ _|refine kd' ?_|refine ka' ?_ _));exact BK378.out) hb);have n7_:=am' (bt' (y5' GE331.out GE332.out GE333.out GE334.out GE378.out) hb);clear HO375;clear BK331;clear BK332;clear BK333;clear BK334;clear BK378;clear HB;have HO375:=n0_;have HO381:=n1_;have BK331:=n2_;have BK332:=n3_;have BK333:=n4_;have BK334:=n5_;have BK378:=n6_;have HB:=n7_;clear n0_ n1_ n2_ n3_ n4_ n5_ n6_ n7_;(try clear hb);(try clear hb2);(try clear hk);(try clear hi);(try clear ho0))|((with_reducible refine gate_dst (N:=35) rfl ?_);(try (refine gate_guard (by rfl) ?_;dsimp only));refine box_event ?hg (N:=35) ?hd (cs:=#[.slice none 0 0, .bool false]) (t:=35) ?hr ?_;(case hd=>rfl);(case hg=>rfl);(case hr=>first|(go_simp;done)|(go_simp;rfl));intro gb384 hg w180 hbox hb;have n0_:=am' (rb' (kr' HO375.out) hb);have n1_:=am' (rb' (kr' HO381.out) hb);have n2_:=am' (bb' (g:=gb331) (o := .cells #[.int .i64 a0_0, .int .i64 a0_1] 32 (0,0)) (kk' BK331.out) hb);have n3_:=am' (bb' (g:=gb332) (o := .cells #[.slice A1_0 l1_0.length c1_0, .bool a1_1] 35 (0,0)) (kk' BK332.out) hb);have n4_:=am' (bb' (g:=gb333) (o := .cells #[.int .i64 a2_0, .int .i64 a2_1] 32 (0,0)) (kk' BK333.out) hb);have n5_:=am' (bb' (g:=gb334) (o := .cells #[.slice A3_0 l3_0.length c3_0, .bool a3_1] 35 (0,0)) (kk' BK334.out) hb);have n6_:=am' (bb' (g:=gb378) (o := .cells #[.slice Ao171 t373.length co171, .bool t376] 35 (0,0)) (kk' BK378.out) hb);have n7_:=am' (bt' (y5' GE331.out GE332.out GE333.out GE334.out GE378.out) hb);have n8_:=am' (hbox);have n9_:=am' ((by rw[hg];exact (bz' (y5' GE331.out GE332.out GE333.out GE334.out GE378.out)):w.heap.size≤gb384));have n10_:=am' ((by rw[hg];exact (bz' (y5' GE331.out GE332.out GE333.out GE334.out GE378.out)):w.heap.size≤gb384));have n11_:=am' ((by rw[hg];exact Nat.ne_of_lt (blk_lt (g:=gb331) (o := .cells #[.int .i64 a0_0, .int .i64 a0_1] 32 (0,0)) (kk' BK331.out)):gb331≠gb384));have n12_:=am' ((by rw[hg];exact Nat.ne_of_gt (blk_lt (g:=gb331) (o := .cells #[.int .i64 a0_0, .int .i64 a0_1] 32 (0,0)) (kk' BK331.out)):gb384≠gb331));have n13_:=am' ((by rw[hg];exact Nat.ne_of_lt (blk_lt (g:=gb332) (o := .cells #[.slice A1_0 l1_0.length c1_0, .bool a1_1] 35 (0,0)) (kk' BK332.out)):gb332≠gb384));have n14_:=am' ((by rw[hg];exact Nat.ne_of_gt (blk_lt (g:=gb332) (o := .cells #[.slice A1_0 l1_0.length c1_0, .bool a1_1] 35 (0,0)) (kk' BK332.out)):gb384≠gb332));have n15_:=am' ((by rw[hg];exact Nat.ne_of_lt (blk_lt (g:=gb333) (o := .cells #[.int .i64 a2_0, .int .i64 a2_1] 32 (0,0)) (kk' BK333.out)):gb333≠gb384));have n16_:=am' ((by rw[hg];exact Nat.ne_of_gt (blk_lt (g:=gb333) (o := .cells #[.int .i64 a2_0, .int .i64 a2_1] 32 (0,0)) (kk' BK333.out)):gb384≠gb333));have n17_:=am' ((by rw[hg];exact Nat.ne_of_lt (blk_lt (g:=gb334) (o := .cells #[.slice A3_0 l3_0.length c3_0, .bool a3_1] 35 (0,0)) (kk' BK334.out)):gb334≠gb384));have n18_:=am' ((by rw[hg];exact Nat.ne_of_gt (blk_lt (g:=gb334) (o := .cells #[.slice A3_0 l3_0.length c3_0, .bool a3_1] 35 (0,0)) (kk' BK334.out)):gb384≠gb334));have n19_:=am' ((by rw[hg];exact Nat.ne_of_lt (blk_lt (g:=gb378) (o := .cells #[.slice Ao171 t373.length co171, .bool t376] 35 (0,0)) (kk' BK378.out)):gb378≠gb384));have n20_:=am' ((by rw[hg];exact Nat.ne_of_gt (blk_lt (g:=gb378) (o := .cells #[.slice Ao171 t373.length co171, .bool t376] 35 (0,0)) (kk' BK378.out)):gb384≠gb378));clear HO375;clear HO381;clear BK331;clear BK332;clear BK333;clear BK334;clear BK378;clear HB;have HO375:=n0_;have HO381:=n1_;have BK331:=n2_;have BK332:=n3_;have BK333:=n4_;have BK334:=n5_;have BK378:=n6_;have HB:=n7_;have BK384:=n8_;have GW384:=n9_;have GE384:=n10_;have NB331_384:=n11_;have NB384_331:=n12_;have NB332_384:=n13_;have NB384_332:=n14_;have NB333_384:=n15_;have NB384_333:=n16_;have NB334_384:=n17_;have NB384_334:=n18_;have NB378_384:=n19_;have NB384_378:=n20_;clear n0_ n1_ n2_ n3_ n4_ n5_ n6_ n7_ n8_ n9_ n10_ n11_ n12_ n13_ n14_ n15_ n16_ n17_ n18_ n19_ n20_;clear hb hbox hg;obtain ⟨Ao181,co181,eo181⟩:=Kd.R_slice HO381.out;subst eo181;have hnb182:=NB384_331.out;have hnc182:=NB331_384.out;have hnb183:=NB384_332.out;have hnc183:=NB332_384.out;have hnb184:=NB384_333.out;have hnc184:=NB333_384.out;have hnb185:=NB384_334.out;have hnc185:=NB334_384.out;have hnb186:=NB384_378.out;have hnc186:=NB378_384.out;have hcz187_0:w180.cell? ⟨gb384,0,none⟩=some (.slice none 0 0):=(bc' BK384.out 0).trans rfl;have hcz187_1:w180.cell? ⟨gb384,1,none⟩=some (.bool false):=(bc' BK384.out 1).trans rfl;have hfz187_0:=bf' BK384.out 0;have hfz187_1:=bf' BK384.out 1)|((with_reducible refine gate_callee (f:=21) rfl ?_);refine goesL_ (some 232) rfl rfl Try.func21 xk' rfl #[.int .i64 a5, .slice A6 l6.length c6] rfl xl' ?_;(with_reducible refine (impl_IsCalmGroup.calls kj64 a5 _ _ l6 t385 t386 _ ?side1 ?side2 A159.out).mono ?_);(case side1=>exact cb' HR6.out (y6' GE331.out GE332.out GE333.out GE334.out GE378.out GE384.out));(case side2=>exact HC6.out);rintro e w188 ⟨rfl,hb⟩;refine ⟨_,rfl,?_⟩;have n0_:=am' (rb' (by (with_reducible repeat (first|apply ra'|apply rn'|apply rw'));exact (Kd.R_mono (Kd.R_far (p:=⟨gb384,1,none⟩) (Kd.R_far (p:=⟨gb384,0,none⟩) (Kd.R_types HO375.out BK384.out (by decide)) (fun _ hk=>hk.2) (.slice Ao181 t379.length co181)) (fun _ hk=>hk.2) (.bool t382)) (fun _ h_=>h_.1))) hb);have n1_:=am' (rb' (by (with_reducible repeat (first|apply ra'|apply rn'|apply rw'));exact (Kd.R_mono (Kd.R_far (p:=⟨gb384,1,none⟩) (Kd.R_far (p:=⟨gb384,0,none⟩) (Kd.R_types HO381.out BK384.out (by decide)) (fun _ hk=>hk.2) (.slice Ao181 t379.length co181)) (fun _ hk=>hk.2) (.bool t382)) (fun _ h_=>h_.1))) hb);have n2_:=am' (bb' (g:=gb331) (o := .cells #[.int .i64 a0_0, .int .i64 a0_1] 32 (0,0)) (by (with_reducible repeat (first|refine kn' ?_ _|refine kd' ?_|refine ka' ?_ _));refine blk_far ?_ NB331_384.out _;(with_reducible repeat (first|refine kn' ?_ _|refine kd' ?_|refine ka' ?_ _));refine blk_far ?_ NB331_384.out _;(with_reducible repeat (first|refine kn' ?_ _|refine kd' ?_|refine ka' ?_ _));exact BK331.out) hb);have n3_:=am' (bb' (g:=gb332) (o := .cells #[.slice A1_0 l1_0.length c1_0, .bool a1_1] 35 (0,0)) (by (with_reducible repeat (first|refine kn' ?_ _|refine kd' ?_|refine ka' ?_ _));refine blk_far ?_ NB332_384.out _;(with_reducible repeat (first|refine kn' ?_ _|refine kd' ?_|refine ka' ?_ _));refine blk_far ?_ NB332_384.out _;(with_reducible repeat (first|refine kn' ?_ _|refine kd' ?_|refine ka' ?_ _));exact BK332.out) hb);have n4_:=am' (bb' (g:=gb333) (o := .cells #[.int .i64 a2_0, .int .i64 a2_1] 32 (0,0)) (by (with_reducible repeat (first|refine kn' ?_ _|refine kd' ?_|refine ka' ?_ _));refine blk_far ?_ NB333_384.out _;(with_reducible repeat (first|refine kn' ?_ _|refine kd' ?_|refine ka' ?_ _));refine blk_far ?_ NB333_384.out _;(with_reducible repeat (first|refine kn' ?_ _|refine kd' ?_|refine ka' ?_ _));exact BK333.out) hb);have n5_:=am' (bb' (g:=gb334) (o := .cells #[.slice A3_0 l3_0.length c3_0, .bool a3_1] 35 (0,0)) (by (with_reducible repeat (first|refine kn' ?_ _|refine kd' ?_|refine ka' ?_ _));refine blk_far ?_ NB334_384.out _;(with_reducible repeat (first|refine kn' ?_ _|refine kd' ?_|refine ka' ?_ _));refine blk_far ?_ NB334_384.out _;(with_reducible repeat (first|refine kn' ?_ _|refine kd' ?_|refine ka' ?_ _));exact BK334.out) hb);have n6_:=am' (bb' (g:=gb378) (o := .cells #[.slice Ao171 t373.length co171, .bool t376] 35 (0,0)) (by (with_reducible repeat (first|refine kn' ?_ _|refine kd' ?_|refine ka' ?_ _));refine blk_far ?_ NB378_384.out _;(with_reducible repeat (first|refine kn' ?_ _|refine kd' ?_|refine ka' ?_ _));refine blk_far ?_ NB378_384.out _;(with_reducible repeat (first|refine kn' ?_ _|refine kd' ?_|refine ka' ?_ _));exact BK378.out) hb);have n7_:=am' (bb' (g:=gb384) (o := .cells #[.slice Ao181 t379.length co181, .bool t382] 35 (0,0)) (by (with_reducible repeat (first|refine kn' ?_ _|refine kd' ?_|refine ka' ?_ _));refine blk_put (cs:=#[.slice Ao181 t379.length co181, .bool false]) ?_ 1 _ rfl;(with_reducible repeat (first|refine kn' ?_ _|refine kd' ?_|refine ka' ?_ _));refine blk_put (cs:=#[.slice none 0 0, .bool false]) ?_ 0 _ rfl;(with_reducible repeat (first|refine kn' ?_ _|refine kd' ?_|refine ka' ?_ _));exact BK384.out) hb);have n8_:=am' (bt' (y6' GE331.out GE332.out GE333.out GE334.out GE378.out GE384.out) hb);clear HO375;clear HO381;clear BK331;clear BK332;clear BK333;clear BK334;clear BK378;clear BK384;clear HB;have HO375:=n0_;have HO381:=n1_;have BK331:=n2_;have BK332:=n3_;have BK333:=n4_;have BK334:=n5_;have BK378:=n6_;have BK384:=n7_;have HB:=n8_;clear n0_ n1_ n2_ n3_ n4_ n5_ n6_ n7_ n8_;(try clear hb);(try clear hb2);(try clear hk);(try clear hi))|((with_reducible refine gate_callee (f:=25) rfl ?_);refine goesL_ (some 238) rfl rfl Try.func25 xk' rfl #[.int .i64 a5, .slice A6 l6.length c6] rfl xl' ?_;(with_reducible refine (spec_IsCalmGroup.calls kj64 a5 _ _ l6 t387 t388 _ ?side1 ?side2 A160.out).mono ?_);(case side1=>exact kc' (cb' HR6.out HB.out));(case side2=>exact HC6.out);rintro e w' ⟨rfl,⟨nd,rfl⟩⟩;refine ⟨_,rfl,?_⟩))
           (try simp only[Act.put,sa',sb',sc'])
           go_cut [259] from 215 to 240 (fun v259 wc=>∃ (kq:Nat) (x259_160:Bool),v259 = .bool x259_160∧Aside0 (laws_FnCouplesCalmOfAll.j6 kq l4 l6 t377 t385 t386 x259_160 a2_0 a2_1 l3_0 a3_1 t373 t376=some r)∧Aside0 (kq≤kj64)∧Aside0 (Kd.R Kd.bool 4 wc w.heap.size (fun k_=>some k_≠((.slice Ao181 t379.length co181):Value).ownBlock∧¬ D405_ k_∧D406_ k_) (.slice Ao171 t373.length co171) t373)∧Aside0 (Kd.R Kd.bool 4 wc w.heap.size (fun k_=>some k_≠((.slice Ao171 t373.length co171):Value).ownBlock∧¬ D406_ k_) (.slice Ao181 t379.length co181) t379)∧Aside0 (wc.heap[gb331]? = some (.cells #[.int .i64 a0_0, .int .i64 a0_1] 32 (0,0)))∧Aside0 (wc.heap[gb332]? = some (.cells #[(.slice A1_0 l1_0.length c1_0), .bool a1_1] 35 (0,0)))∧Aside0 (wc.heap[gb333]? = some (.cells #[.int .i64 a2_0, .int .i64 a2_1] 32 (0,0)))∧Aside0 (wc.heap[gb334]? = some (.cells #[(.slice A3_0 l3_0.length c3_0), .bool a3_1] 35 (0,0)))∧Aside0 (wc.heap[gb378]? = some (.cells #[(.slice Ao171 t373.length co171), .bool t376] 35 (0,0)))∧Aside0 (wc.heap[gb384]? = some (.cells #[(.slice Ao181 t379.length co181), .bool t382] 35 (0,0)))∧Aside0 (Below w.heap.size w wc))
           case first =>
            have H:=HC161.out;clear HC161;by_cases c189:(t377 != t383)=true
            ·
             rw[if_pos c189] at H;exact (laws_FnCouplesCalmOfAll.j6_dead _ _ _ _ _ _ _ _ _ _ _ _ _ HRT.out rfl H).elim
            ·
             rw[if_neg c189] at H;have c189b0:(t377 != t383)=false:=by simpa using c189
             (try (have c189b1:decide (t377=t383)=true:=by simpa using c189))
             (try (have c189b2:(t377 == t383)=true:=by simpa using c189))
             clear c189;(first|rw[c189b0]|(simp only[i64_w,i32_w];rw[c189b0])|rw[c189b1]|skip)
             replace H:=Option.bind_eq_some_iff.mp H;obtain ⟨t389,A1900,H⟩:=H;replace H:(if t389=true then (if (t386 != t388)=true then (laws_FnCouplesCalmOfAll.j6 kj64 l4 l6 t377 t385 t386 true a2_0 a2_1 l3_0 a3_1 t373 t376) else (laws_FnCouplesCalmOfAll.j6 kj64 l4 l6 t377 t385 t386 (t385 != t387) a2_0 a2_1 l3_0 a3_1 t373 t376)) else (laws_FnCouplesCalmOfAll.j6 kj64 l4 l6 t377 t385 t386 true a2_0 a2_1 l3_0 a3_1 t373 t376))=some r:=H;have A190:=am' A1900;clear A1900;by_cases c191:t389=true
             ·
              subst c191;have H1:(if (t386 != t388)=true then (laws_FnCouplesCalmOfAll.j6 kj64 l4 l6 t377 t385 t386 true a2_0 a2_1 l3_0 a3_1 t373 t376) else (laws_FnCouplesCalmOfAll.j6 kj64 l4 l6 t377 t385 t386 (t385 != t387) a2_0 a2_1 l3_0 a3_1 t373 t376))=some r:=by rw[if_pos rfl] at H;exact H
              clear H;have H:=H1;clear H1;by_cases c192:(t386 != t388)=true
              ·
               rw[if_pos c192] at H;exact (laws_FnCouplesCalmOfAll.j6_dead _ _ _ _ _ _ _ _ _ _ _ _ _ HRT.out rfl H).elim
              ·
               rw[if_neg c192] at H;have c192b0:(t386 != t388)=false:=by simpa using c192
               (try (have c192b1:decide (t386=t388)=true:=by simpa using c192))
               (try (have c192b2:(t386 == t388)=true:=by simpa using c192))
               clear c192;have H':=am' H;clear H;have hnb193:=NB378_331.out;have hnc193:=NB331_378.out;have hnb194:=NB378_332.out;have hnc194:=NB332_378.out;have hnb195:=NB378_333.out;have hnc195:=NB333_378.out;have hnb196:=NB378_334.out;have hnc196:=NB334_378.out;have hnb197:=NB378_384.out;have hnc197:=NB384_378.out;have hcz198_0:w188.cell? ⟨gb378,0,none⟩=some (.slice Ao171 t373.length co171):=(bc' BK378.out 0).trans rfl;have hcz198_1:w188.cell? ⟨gb378,1,none⟩=some (.bool t376):=(bc' BK378.out 1).trans rfl;have hfz198_0:=bf' BK378.out 0;have hfz198_1:=bf' BK378.out 1;have hnb199:=NB384_331.out;have hnc199:=NB331_384.out;have hnb200:=NB384_332.out;have hnc200:=NB332_384.out;have hnb201:=NB384_333.out;have hnc201:=NB333_384.out;have hnb202:=NB384_334.out;have hnc202:=NB334_384.out;have hcz203_0:w188.cell? ⟨gb384,0,none⟩=some (.slice Ao181 t379.length co181):=(bc' BK384.out 0).trans rfl;have hcz203_1:w188.cell? ⟨gb384,1,none⟩=some (.bool t382):=(bc' BK384.out 1).trans rfl;have hfz203_0:=bf' BK384.out 0;have hfz203_1:=bf' BK384.out 1;go_wp2_with (first|(go_at_call 22;(with_reducible refine (laws_hState.calls kj64 _ _ t373 t376 _ _ t379 t382 true _ ?side1 ?side2 ?side3 ?side4 A190.out).mono ?_);(case side1=>exact kc' ((Kd.R_reads' HO375.out).2.2));(case side2=>exact (Kd.R_reads' HO375.out).2.1);(case side3=>exact kc' ((Kd.R_reads' HO381.out).2.2));(case side4=>exact (Kd.R_reads' HO381.out).2.1);rintro e w204 ⟨rfl,hb⟩;have n0_:=am' (rb' (kr' HO375.out) hb);have n1_:=am' (rb' (kr' HO381.out) hb);have n2_:=am' (bb' (g:=gb331) (o := .cells #[.int .i64 a0_0, .int .i64 a0_1] 32 (0,0)) (kk' BK331.out) hb);have n3_:=am' (bb' (g:=gb332) (o := .cells #[.slice A1_0 l1_0.length c1_0, .bool a1_1] 35 (0,0)) (kk' BK332.out) hb);have n4_:=am' (bb' (g:=gb333) (o := .cells #[.int .i64 a2_0, .int .i64 a2_1] 32 (0,0)) (kk' BK333.out) hb);have n5_:=am' (bb' (g:=gb334) (o := .cells #[.slice A3_0 l3_0.length c3_0, .bool a3_1] 35 (0,0)) (kk' BK334.out) hb);have n6_:=am' (bb' (g:=gb378) (o := .cells #[.slice Ao171 t373.length co171, .bool t376] 35 (0,0)) (kk' BK378.out) hb);have n7_:=am' (bb' (g:=gb384) (o := .cells #[.slice Ao181 t379.length co181, .bool t382] 35 (0,0)) (kk' BK384.out) hb);have n8_:=am' (bt' (y6' GE331.out GE332.out GE333.out GE334.out GE378.out GE384.out) hb);clear HO375;clear HO381;clear BK331;clear BK332;clear BK333;clear BK334;clear BK378;clear BK384;clear HB;have HO375:=n0_;have HO381:=n1_;have BK331:=n2_;have BK332:=n3_;have BK333:=n4_;have BK334:=n5_;have BK378:=n6_;have BK384:=n7_;have HB:=n8_;clear n0_ n1_ n2_ n3_ n4_ n5_ n6_ n7_ n8_;(try clear hb);(try clear hb2);(try clear hk);(try clear hi)))
               go_meet
               case rel=>exact ⟨_,((t385 != t387)),xs',H',⟨by have:=HJ7.out;have:=HJ13.out;have:=HJ19.out;have:=HJ62.out;have:=HJ64.out;first|omega|exact Nat.le_refl _⟩,⟨by (with_reducible repeat (first|apply ra'|apply rn'|apply rw'));exact Kd.R_mono HO375.out (fun _ hk=>⟨hk.2,⟨hk.1.1.2,hk.1.2⟩⟩)⟩,⟨by (with_reducible repeat (first|apply ra'|apply rn'|apply rw'));exact Kd.R_mono HO381.out (fun _ hk=>⟨hk.2,hk.1.2⟩)⟩,⟨kk' BK331.out⟩,⟨kk' BK332.out⟩,⟨kk' BK333.out⟩,⟨kk' BK334.out⟩,⟨kk' BK378.out⟩,⟨kk' BK384.out⟩,⟨y6' GE331.out GE332.out GE333.out GE334.out GE378.out GE384.out⟩⟩
             ·
              rw[if_neg c191] at H;exact (laws_FnCouplesCalmOfAll.j6_dead _ _ _ _ _ _ _ _ _ _ _ _ _ HRT.out rfl H).elim
           case rest=>as_aux_lemma =>
            clear HC161;try clear c1
            try clear c2
            try clear p2
            try clear c3
            try clear p3
            try clear q3
            try clear hx3
            try clear c4
            try clear c5
            try clear c6
            try clear p6
            try clear c7
            try clear c8
            try clear c9
            try clear c10
            try clear c11
            try clear c12
            try clear c13
            try clear c14
            try clear c15
            try clear c16
            try clear c17
            try clear c18
            try clear c19
            try clear c20
            try clear c21
            try clear c24
            try clear c25
            try clear c35
            try clear p35
            try clear q35
            try clear hx35
            try clear c37
            try clear p37
            try clear q37
            try clear hx37
            try clear c40
            try clear c43
            try clear c46
            try clear c55
            try clear c55b0
            try clear c55b1
            try clear c55b2
            try clear c64
            try clear p64
            try clear c66
            try clear c68
            try clear c68b0
            try clear c69
            try clear c69b0
            try clear c70
            try clear c70b0
            try clear c75
            try clear c76
            try clear c77
            try clear c78
            try clear c79
            try clear c80
            try clear c82
            try clear c83
            try clear c83b0
            try clear c83b1
            try clear c84
            try clear c84b0
            try clear c85
            try clear c85b0
            try clear c87
            try clear c87b0
            try clear c88
            try clear c88b0
            try clear c90
            try clear c91
            try clear c92
            try clear c93
            try clear c95
            try clear c96
            try clear c101
            try clear c102
            try clear c103
            try clear c104
            try clear c115
            try clear c116
            try clear c117
            try clear c118
            try clear c119
            try clear c124
            try clear c125
            try clear c126
            try clear c128
            try clear c129
            try clear c134
            try clear c135
            try clear c136
            try clear c137
            try clear c148
            try clear c149
            try clear c150
            try clear c151
            try clear c152
            try clear c162
            try clear c163
            try clear c164
            try clear c166
            try clear c167
            try clear c172
            try clear c173
            try clear c174
            try clear c175
            try clear c182
            try clear c183
            try clear c184
            try clear c185
            try clear c186
            try clear c189
            try clear c189b0
            try clear c189b1
            try clear c189b2
            try clear c191
            try clear c192
            try clear c192b0
            try clear c192b1
            try clear c192b2
            try clear c193
            try clear c194
            try clear c195
            try clear c196
            try clear c197
            try clear c199
            try clear c200
            try clear c201
            try clear c202
            try clear hcz105_0
            try clear hcz105_1
            try clear hcz106_0
            try clear hcz106_1
            try clear hcz108_0
            try clear hcz108_1
            try clear hcz110_0
            try clear hcz110_1
            try clear hcz111_0
            try clear hcz111_1
            try clear hcz120_0
            try clear hcz120_1
            try clear hcz121_0
            try clear hcz121_1
            try clear hcz123_0
            try clear hcz123_1
            try clear hcz127_0
            try clear hcz127_1
            try clear hcz130_0
            try clear hcz130_1
            try clear hcz138_0
            try clear hcz138_1
            try clear hcz139_0
            try clear hcz139_1
            try clear hcz141_0
            try clear hcz141_1
            try clear hcz143_0
            try clear hcz143_1
            try clear hcz144_0
            try clear hcz144_1
            try clear hcz153_0
            try clear hcz153_1
            try clear hcz154_0
            try clear hcz154_1
            try clear hcz156_0
            try clear hcz156_1
            try clear hcz165_0
            try clear hcz165_1
            try clear hcz168_0
            try clear hcz168_1
            try clear hcz176_0
            try clear hcz176_1
            try clear hcz177_0
            try clear hcz177_1
            try clear hcz178_0
            try clear hcz178_1
            try clear hcz187_0
            try clear hcz187_1
            try clear hcz198_0
            try clear hcz198_1
            try clear hcz203_0
            try clear hcz203_1
            try clear hcz94_0
            try clear hcz94_1
            try clear hcz97_0
            try clear hcz97_1
            try clear hfz105_0
            try clear hfz105_1
            try clear hfz106_0
            try clear hfz106_1
            try clear hfz108_0
            try clear hfz108_1
            try clear hfz110_0
            try clear hfz110_1
            try clear hfz111_0
            try clear hfz111_1
            try clear hfz120_0
            try clear hfz120_1
            try clear hfz121_0
            try clear hfz121_1
            try clear hfz123_0
            try clear hfz123_1
            try clear hfz127_0
            try clear hfz127_1
            try clear hfz130_0
            try clear hfz130_1
            try clear hfz138_0
            try clear hfz138_1
            try clear hfz139_0
            try clear hfz139_1
            try clear hfz141_0
            try clear hfz141_1
            try clear hfz143_0
            try clear hfz143_1
            try clear hfz144_0
            try clear hfz144_1
            try clear hfz153_0
            try clear hfz153_1
            try clear hfz154_0
            try clear hfz154_1
            try clear hfz156_0
            try clear hfz156_1
            try clear hfz165_0
            try clear hfz165_1
            try clear hfz168_0
            try clear hfz168_1
            try clear hfz176_0
            try clear hfz176_1
            try clear hfz177_0
            try clear hfz177_1
            try clear hfz178_0
            try clear hfz178_1
            try clear hfz187_0
            try clear hfz187_1
            try clear hfz198_0
            try clear hfz198_1
            try clear hfz203_0
            try clear hfz203_1
            try clear hfz94_0
            try clear hfz94_1
            try clear hfz97_0
            try clear hfz97_1
            try clear hx353_0
            try clear hx371_0
            try clear p2
            try clear p3
            try clear p35
            try clear p353
            try clear p37
            try clear p371
            try clear p6
            try clear p64
            try clear q3
            try clear q35
            try clear q353
            try clear q37
            try clear q371
            obtain ⟨kq,x259_160,rfl,HA,HJ160,HO_379000,HO_385000,BK331,BK332,BK333,BK334,BK378,BK384,HB⟩:=hcut;cases kq with
            | zero=>exact absurd HA.out (by simp[laws_FnCouplesCalmOfAll.j6])
            | succ kj160 =>
             have H:=HA.out;clear HA;simp only[laws_FnCouplesCalmOfAll.j6] at H;have HC205:=am' H;clear H;go_upto_if 259 with (fail)
             go_cut [] from 260 to 259 (fun wc=>∃ (kq:Nat),Aside0 (laws_FnCouplesCalmOfAll.j7 kq l4 l6 t377 t385 t386 a2_0 a2_1 l3_0 a3_1 t373 t376=some r)∧Aside0 (kq≤kj160)∧Aside0 (Kd.R Kd.bool 4 wc w.heap.size (fun k_=>some k_≠((.slice Ao181 t379.length co181):Value).ownBlock∧¬ D405_ k_∧D406_ k_) (.slice Ao171 t373.length co171) t373)∧Aside0 (Kd.R Kd.bool 4 wc w.heap.size (fun k_=>some k_≠((.slice Ao171 t373.length co171):Value).ownBlock∧¬ D406_ k_) (.slice Ao181 t379.length co181) t379)∧Aside0 (wc.heap[gb331]? = some (.cells #[.int .i64 a0_0, .int .i64 a0_1] 32 (0,0)))∧Aside0 (wc.heap[gb332]? = some (.cells #[(.slice A1_0 l1_0.length c1_0), .bool a1_1] 35 (0,0)))∧Aside0 (wc.heap[gb333]? = some (.cells #[.int .i64 a2_0, .int .i64 a2_1] 32 (0,0)))∧Aside0 (wc.heap[gb334]? = some (.cells #[(.slice A3_0 l3_0.length c3_0), .bool a3_1] 35 (0,0)))∧Aside0 (wc.heap[gb378]? = some (.cells #[(.slice Ao171 t373.length co171), .bool t376] 35 (0,0)))∧Aside0 (wc.heap[gb384]? = some (.cells #[(.slice Ao181 t379.length co181), .bool t382] 35 (0,0)))∧Aside0 (Below w.heap.size w wc))
             case first =>
              have H:=HC205.out;clear HC205;by_cases c206:x259_160=true
              ·
               rw[if_pos c206] at H;exact absurd (H.trans (congrArg some HRT.out)) (by decide)
              ·
               replace c206:=Bool.eq_false_iff.mpr c206;subst c206;have H1:(laws_FnCouplesCalmOfAll.j7 kj160 l4 l6 t377 t385 t386 a2_0 a2_1 l3_0 a3_1 t373 t376)=some r:=by rw[if_neg (show ¬ (false=true) by decide)] at H;exact H
               clear H;have H:=H1;clear H1;have H':=am' H;clear H;go_wp2;go_meet
               case rel=>exact ⟨_,H',⟨by have:=HJ7.out;have:=HJ13.out;have:=HJ19.out;have:=HJ62.out;have:=HJ64.out;have:=HJ160.out;first|omega|exact Nat.le_refl _⟩,⟨kr' HO_379000.out⟩,⟨kr' HO_385000.out⟩,⟨kk' BK331.out⟩,⟨kk' BK332.out⟩,⟨kk' BK333.out⟩,⟨kk' BK334.out⟩,⟨kk' BK378.out⟩,⟨kk' BK384.out⟩,⟨y6' GE331.out GE332.out GE333.out GE334.out GE378.out GE384.out⟩⟩
             case rest=>as_aux_lemma =>
              clear HC205;try clear c1
              try clear c2
              try clear p2
              try clear c3
              try clear p3
              try clear q3
              try clear hx3
              try clear c4
              try clear c5
              try clear c6
              try clear p6
              try clear c7
              try clear c8
              try clear c9
              try clear c10
              try clear c11
              try clear c12
              try clear c13
              try clear c14
              try clear c15
              try clear c16
              try clear c17
              try clear c18
              try clear c19
              try clear c20
              try clear c21
              try clear c24
              try clear c25
              try clear c35
              try clear p35
              try clear q35
              try clear hx35
              try clear c37
              try clear p37
              try clear q37
              try clear hx37
              try clear c40
              try clear c43
              try clear c46
              try clear c55
              try clear c55b0
              try clear c55b1
              try clear c55b2
              try clear c64
              try clear p64
              try clear c66
              try clear c68
              try clear c68b0
              try clear c69
              try clear c69b0
              try clear c70
              try clear c70b0
              try clear c75
              try clear c76
              try clear c77
              try clear c78
              try clear c79
              try clear c80
              try clear c82
              try clear c83
              try clear c83b0
              try clear c83b1
              try clear c84
              try clear c84b0
              try clear c85
              try clear c85b0
              try clear c87
              try clear c87b0
              try clear c88
              try clear c88b0
              try clear c90
              try clear c91
              try clear c92
              try clear c93
              try clear c95
              try clear c96
              try clear c101
              try clear c102
              try clear c103
              try clear c104
              try clear c115
              try clear c116
              try clear c117
              try clear c118
              try clear c119
              try clear c124
              try clear c125
              try clear c126
              try clear c128
              try clear c129
              try clear c134
              try clear c135
              try clear c136
              try clear c137
              try clear c148
              try clear c149
              try clear c150
              try clear c151
              try clear c152
              try clear c162
              try clear c163
              try clear c164
              try clear c166
              try clear c167
              try clear c172
              try clear c173
              try clear c174
              try clear c175
              try clear c182
              try clear c183
              try clear c184
              try clear c185
              try clear c186
              try clear c189
              try clear c189b0
              try clear c189b1
              try clear c189b2
              try clear c191
              try clear c192
              try clear c192b0
              try clear c192b1
              try clear c192b2
              try clear c193
              try clear c194
              try clear c195
              try clear c196
              try clear c197
              try clear c199
              try clear c200
              try clear c201
              try clear c202
              try clear c206
              try clear hcz105_0
              try clear hcz105_1
              try clear hcz106_0
              try clear hcz106_1
              try clear hcz108_0
              try clear hcz108_1
              try clear hcz110_0
              try clear hcz110_1
              try clear hcz111_0
              try clear hcz111_1
              try clear hcz120_0
              try clear hcz120_1
              try clear hcz121_0
              try clear hcz121_1
              try clear hcz123_0
              try clear hcz123_1
              try clear hcz127_0
              try clear hcz127_1
              try clear hcz130_0
              try clear hcz130_1
              try clear hcz138_0
              try clear hcz138_1
              try clear hcz139_0
              try clear hcz139_1
              try clear hcz141_0
              try clear hcz141_1
              try clear hcz143_0
              try clear hcz143_1
              try clear hcz144_0
              try clear hcz144_1
              try clear hcz153_0
              try clear hcz153_1
              try clear hcz154_0
              try clear hcz154_1
              try clear hcz156_0
              try clear hcz156_1
              try clear hcz165_0
              try clear hcz165_1
              try clear hcz168_0
              try clear hcz168_1
              try clear hcz176_0
              try clear hcz176_1
              try clear hcz177_0
              try clear hcz177_1
              try clear hcz178_0
              try clear hcz178_1
              try clear hcz187_0
              try clear hcz187_1
              try clear hcz198_0
              try clear hcz198_1
              try clear hcz203_0
              try clear hcz203_1
              try clear hcz94_0
              try clear hcz94_1
              try clear hcz97_0
              try clear hcz97_1
              try clear hfz105_0
              try clear hfz105_1
              try clear hfz106_0
              try clear hfz106_1
              try clear hfz108_0
              try clear hfz108_1
              try clear hfz110_0
              try clear hfz110_1
              try clear hfz111_0
              try clear hfz111_1
              try clear hfz120_0
              try clear hfz120_1
              try clear hfz121_0
              try clear hfz121_1
              try clear hfz123_0
              try clear hfz123_1
              try clear hfz127_0
              try clear hfz127_1
              try clear hfz130_0
              try clear hfz130_1
              try clear hfz138_0
              try clear hfz138_1
              try clear hfz139_0
              try clear hfz139_1
              try clear hfz141_0
              try clear hfz141_1
              try clear hfz143_0
              try clear hfz143_1
              try clear hfz144_0
              try clear hfz144_1
              try clear hfz153_0
              try clear hfz153_1
              try clear hfz154_0
              try clear hfz154_1
              try clear hfz156_0
              try clear hfz156_1
              try clear hfz165_0
              try clear hfz165_1
              try clear hfz168_0
              try clear hfz168_1
              try clear hfz176_0
              try clear hfz176_1
              try clear hfz177_0
              try clear hfz177_1
              try clear hfz178_0
              try clear hfz178_1
              try clear hfz187_0
              try clear hfz187_1
              try clear hfz198_0
              try clear hfz198_1
              try clear hfz203_0
              try clear hfz203_1
              try clear hfz94_0
              try clear hfz94_1
              try clear hfz97_0
              try clear hfz97_1
              try clear hx353_0
              try clear hx371_0
              try clear p2
              try clear p3
              try clear p35
              try clear p353
              try clear p37
              try clear p371
              try clear p6
              try clear p64
              try clear q3
              try clear q35
              try clear q353
              try clear q37
              try clear q371
              obtain ⟨kq,HA,HJ204,HO_379000,HO_385000,BK331,BK332,BK333,BK334,BK378,BK384,HB⟩:=hcut;cases kq with
              | zero=>exact absurd HA.out (by simp[laws_FnCouplesCalmOfAll.j7])
              | succ kj204 =>
               have H:=HA.out;clear HA;simp only[laws_FnCouplesCalmOfAll.j7] at H;have HC207:=am' H;clear H;go_upto_if 260 with (fail)
               go_cut [] from 260 to 260 (fun wc=>∃ (kq:Nat),Aside0 (laws_FnCouplesCalmOfAll.j9 kq l6 t385 t386=some r)∧Aside0 (kq≤kj204)∧Aside0 (Kd.R Kd.bool 4 wc w.heap.size (fun k_=>some k_≠((.slice Ao181 t379.length co181):Value).ownBlock∧¬ D405_ k_∧D406_ k_) (.slice Ao171 t373.length co171) t373)∧Aside0 (Kd.R Kd.bool 4 wc w.heap.size (fun k_=>some k_≠((.slice Ao171 t373.length co171):Value).ownBlock∧¬ D406_ k_) (.slice Ao181 t379.length co181) t379)∧Aside0 (wc.heap[gb331]? = some (.cells #[.int .i64 a0_0, .int .i64 a0_1] 32 (0,0)))∧Aside0 (wc.heap[gb332]? = some (.cells #[(.slice A1_0 l1_0.length c1_0), .bool a1_1] 35 (0,0)))∧Aside0 (wc.heap[gb333]? = some (.cells #[.int .i64 a2_0, .int .i64 a2_1] 32 (0,0)))∧Aside0 (wc.heap[gb334]? = some (.cells #[(.slice A3_0 l3_0.length c3_0), .bool a3_1] 35 (0,0)))∧Aside0 (wc.heap[gb378]? = some (.cells #[(.slice Ao171 t373.length co171), .bool t376] 35 (0,0)))∧Aside0 (wc.heap[gb384]? = some (.cells #[(.slice Ao181 t379.length co181), .bool t382] 35 (0,0)))∧Aside0 (Below w.heap.size w wc))
               case first =>
                have H:=HC207.out;clear HC207;by_cases c208:t377=true
                ·
                 subst c208;have H1:((impl_RowsOf.f kj204 a2_0 a2_1 l3_0 a3_1).bind fun bt390=>(laws_FnCouplesCalmOfAll.l1 kj204 l4 l6 t385 t386 bt390.2 false bt390.1 (bt390.1.length:Int) 0 l3_0 a3_1 t373 t376))=some r:=by rw[if_pos rfl] at H;exact H
                 clear H;have H:=H1;clear H1;replace H:=Option.bind_eq_some_iff.mp H;obtain ⟨⟨t390,t393⟩,A2090,H⟩:=H;replace H:(laws_FnCouplesCalmOfAll.l1 kj204 l4 l6 t385 t386 t393 false t390 (t390.length:Int) 0 l3_0 a3_1 t373 t376)=some r:=H;have A209:=am' A2090;clear A2090;have H':=am' H;clear H;have hnb210:=NB333_331.out;have hnc210:=NB331_333.out;have hnb211:=NB333_332.out;have hnc211:=NB332_333.out;have hnb212:=NB333_334.out;have hnc212:=NB334_333.out;have hnb213:=NB333_378.out;have hnc213:=NB378_333.out;have hnb214:=NB333_384.out;have hnc214:=NB384_333.out;have hcz215_0:wc.cell? ⟨gb333,0,none⟩=some (.int .i64 a2_0):=(bc' BK333.out 0).trans rfl;have hcz215_1:wc.cell? ⟨gb333,1,none⟩=some (.int .i64 a2_1):=(bc' BK333.out 1).trans rfl;have hfz215_0:=bf' BK333.out 0;have hfz215_1:=bf' BK333.out 1;have hnb216:=NB334_331.out;have hnc216:=NB331_334.out;have hnb217:=NB334_332.out;have hnc217:=NB332_334.out;have hnb218:=NB334_378.out;have hnc218:=NB378_334.out;have hnb219:=NB334_384.out;have hnc219:=NB384_334.out;have hcz220_0:wc.cell? ⟨gb334,0,none⟩=some (.slice A3_0 l3_0.length c3_0):=(bc' BK334.out 0).trans rfl;have hcz220_1:wc.cell? ⟨gb334,1,none⟩=some (.bool a3_1):=(bc' BK334.out 1).trans rfl;have hfz220_0:=bf' BK334.out 0;have hfz220_1:=bf' BK334.out 1;go_wp2_with (first|((with_reducible refine gate_callee (f:=14) rfl ?_);refine goesL_ (some 264) rfl rfl Try.func14 xk' rfl #[.agg #[.int .i64 a2_0, .int .i64 a2_1], .agg #[.slice A3_0 l3_0.length c3_0, .bool a3_1]] rfl xl' ?_;(with_reducible refine (impl_RowsOf.calls kj204 a2_0 a2_1 _ _ l3_0 a3_1 t390 t393 _ ?side1 ?side2 A209.out).mono ?_);(case side1=>exact kc' (cb' HR3_0.out HB.out));(case side2=>exact HC3_0.out);rintro e w221 ⟨v391,rfl,ho0,hb⟩;refine ⟨_,rfl,?_⟩;obtain ⟨D407_,hdl_,hdg_⟩:=dlt_of hb;have D407_lt:=am' hdl_;have D407_ge:=am' hdg_;clear hdl_ hdg_;have n0_:=am' (rb' (Kd.R_dlt (kr' HO_379000.out) D407_lt.out) hb);have n1_:=am' (rb' (Kd.R_dlt (kr' HO_385000.out) D407_lt.out) hb);have n2_:=am' (Kd.S_lower (Kd.S_dge ho0 D407_ge.out) (bz' (y6' GE331.out GE332.out GE333.out GE334.out GE378.out GE384.out)));have n3_:=am' (bb' (g:=gb331) (o := .cells #[.int .i64 a0_0, .int .i64 a0_1] 32 (0,0)) (kk' BK331.out) hb);have n4_:=am' (bb' (g:=gb332) (o := .cells #[.slice A1_0 l1_0.length c1_0, .bool a1_1] 35 (0,0)) (kk' BK332.out) hb);have n5_:=am' (bb' (g:=gb333) (o := .cells #[.int .i64 a2_0, .int .i64 a2_1] 32 (0,0)) (kk' BK333.out) hb);have n6_:=am' (bb' (g:=gb334) (o := .cells #[.slice A3_0 l3_0.length c3_0, .bool a3_1] 35 (0,0)) (kk' BK334.out) hb);have n7_:=am' (bb' (g:=gb378) (o := .cells #[.slice Ao171 t373.length co171, .bool t376] 35 (0,0)) (kk' BK378.out) hb);have n8_:=am' (bb' (g:=gb384) (o := .cells #[.slice Ao181 t379.length co181, .bool t382] 35 (0,0)) (kk' BK384.out) hb);have n9_:=am' (bt' (y6' GE331.out GE332.out GE333.out GE334.out GE378.out GE384.out) hb);clear HO_379000;clear HO_385000;clear BK331;clear BK332;clear BK333;clear BK334;clear BK378;clear BK384;clear HB;have HO_379000:=n0_;have HO_385000:=n1_;have HO392:=n2_;have BK331:=n3_;have BK332:=n4_;have BK333:=n5_;have BK334:=n6_;have BK378:=n7_;have BK384:=n8_;have HB:=n9_;clear n0_ n1_ n2_ n3_ n4_ n5_ n6_ n7_ n8_ n9_;(try clear hb);(try clear hb2);(try clear hk);(try clear hi);(try clear ho0);obtain ⟨Ao222,co222,eo222⟩:=Kd.S_slice HO392.out;subst eo222))
                 go_loopg [43,269] kj204 (fun kq v43 v269 w'=>∃ (x43_8:Bool) (x269_8:Int),v43 = .bool x43_8∧v269 = .int .i64 x269_8∧Aside0 (laws_FnCouplesCalmOfAll.l1 kq l4 l6 t385 t386 t393 x43_8 t390 (t390.length:Int) x269_8 l3_0 a3_1 t373 t376=some r)∧Aside0 (kq≤kj204)∧Aside0 (Kd.S (Kd.slice 3 (Kd.int .i64)) 28 w' w.heap.size (fun k_=>¬ D407_ k_) (.slice Ao222 t390.length co222) t390)∧Aside0 (Kd.R Kd.bool 4 w' w.heap.size (fun k_=>some k_≠((.slice Ao181 t379.length co181):Value).ownBlock∧¬ D405_ k_∧D406_ k_∧D407_ k_) (.slice Ao171 t373.length co171) t373)∧Aside0 (Kd.R Kd.bool 4 w' w.heap.size (fun k_=>some k_≠((.slice Ao171 t373.length co171):Value).ownBlock∧¬ D406_ k_∧D407_ k_) (.slice Ao181 t379.length co181) t379)∧Aside0 (w'.heap[gb331]? = some (.cells #[.int .i64 a0_0, .int .i64 a0_1] 32 (0,0)))∧Aside0 (w'.heap[gb332]? = some (.cells #[(.slice A1_0 l1_0.length c1_0), .bool a1_1] 35 (0,0)))∧Aside0 (w'.heap[gb333]? = some (.cells #[.int .i64 a2_0, .int .i64 a2_1] 32 (0,0)))∧Aside0 (w'.heap[gb334]? = some (.cells #[(.slice A3_0 l3_0.length c3_0), .bool a3_1] 35 (0,0)))∧Aside0 (w'.heap[gb378]? = some (.cells #[(.slice Ao171 t373.length co171), .bool t376] 35 (0,0)))∧Aside0 (w'.heap[gb384]? = some (.cells #[(.slice Ao181 t379.length co181), .bool t382] 35 (0,0)))∧Aside0 (Below w.heap.size w w'))
                 case atStart=>exact ⟨(false),(0),xs',xs',H',⟨Nat.le_refl _⟩,⟨by (with_reducible repeat (first|apply Kd.S_alloc|apply Kd.S_drewN|apply Kd.S_drew));exact Kd.S_mono HO392.out (fun _ hk=>hk.2)⟩,⟨by (with_reducible repeat (first|apply ra'|apply rn'|apply rw'));exact Kd.R_mono HO_379000.out (fun _ hk=>⟨hk.1.1,⟨hk.1.2.1,⟨hk.1.2.2,hk.2⟩⟩⟩)⟩,⟨by (with_reducible repeat (first|apply ra'|apply rn'|apply rw'));exact Kd.R_mono HO_385000.out (fun _ hk=>⟨hk.1.1,⟨hk.1.2,hk.2⟩⟩)⟩,⟨kk' BK331.out⟩,⟨kk' BK332.out⟩,⟨kk' BK333.out⟩,⟨kk' BK334.out⟩,⟨kk' BK378.out⟩,⟨kk' BK384.out⟩,⟨y6' GE331.out GE332.out GE333.out GE334.out GE378.out GE384.out⟩⟩
                 case round=>as_aux_lemma =>
                  clear H';try clear c1
                  try clear c2
                  try clear p2
                  try clear c3
                  try clear p3
                  try clear q3
                  try clear hx3
                  try clear c4
                  try clear c5
                  try clear c6
                  try clear p6
                  try clear c7
                  try clear c8
                  try clear c9
                  try clear c10
                  try clear c11
                  try clear c12
                  try clear c13
                  try clear c14
                  try clear c15
                  try clear c16
                  try clear c17
                  try clear c18
                  try clear c19
                  try clear c20
                  try clear c21
                  try clear c24
                  try clear c25
                  try clear c35
                  try clear p35
                  try clear q35
                  try clear hx35
                  try clear c37
                  try clear p37
                  try clear q37
                  try clear hx37
                  try clear c40
                  try clear c43
                  try clear c46
                  try clear c55
                  try clear c55b0
                  try clear c55b1
                  try clear c55b2
                  try clear c64
                  try clear p64
                  try clear c66
                  try clear c68
                  try clear c68b0
                  try clear c69
                  try clear c69b0
                  try clear c70
                  try clear c70b0
                  try clear c75
                  try clear c76
                  try clear c77
                  try clear c78
                  try clear c79
                  try clear c80
                  try clear c82
                  try clear c83
                  try clear c83b0
                  try clear c83b1
                  try clear c84
                  try clear c84b0
                  try clear c85
                  try clear c85b0
                  try clear c87
                  try clear c87b0
                  try clear c88
                  try clear c88b0
                  try clear c90
                  try clear c91
                  try clear c92
                  try clear c93
                  try clear c95
                  try clear c96
                  try clear c101
                  try clear c102
                  try clear c103
                  try clear c104
                  try clear c115
                  try clear c116
                  try clear c117
                  try clear c118
                  try clear c119
                  try clear c124
                  try clear c125
                  try clear c126
                  try clear c128
                  try clear c129
                  try clear c134
                  try clear c135
                  try clear c136
                  try clear c137
                  try clear c148
                  try clear c149
                  try clear c150
                  try clear c151
                  try clear c152
                  try clear c162
                  try clear c163
                  try clear c164
                  try clear c166
                  try clear c167
                  try clear c172
                  try clear c173
                  try clear c174
                  try clear c175
                  try clear c182
                  try clear c183
                  try clear c184
                  try clear c185
                  try clear c186
                  try clear c189
                  try clear c189b0
                  try clear c189b1
                  try clear c189b2
                  try clear c191
                  try clear c192
                  try clear c192b0
                  try clear c192b1
                  try clear c192b2
                  try clear c193
                  try clear c194
                  try clear c195
                  try clear c196
                  try clear c197
                  try clear c199
                  try clear c200
                  try clear c201
                  try clear c202
                  try clear c206
                  try clear c208
                  try clear c210
                  try clear c211
                  try clear c212
                  try clear c213
                  try clear c214
                  try clear c216
                  try clear c217
                  try clear c218
                  try clear c219
                  try clear hcz105_0
                  try clear hcz105_1
                  try clear hcz106_0
                  try clear hcz106_1
                  try clear hcz108_0
                  try clear hcz108_1
                  try clear hcz110_0
                  try clear hcz110_1
                  try clear hcz111_0
                  try clear hcz111_1
                  try clear hcz120_0
                  try clear hcz120_1
                  try clear hcz121_0
                  try clear hcz121_1
                  try clear hcz123_0
                  try clear hcz123_1
                  try clear hcz127_0
                  try clear hcz127_1
                  try clear hcz130_0
                  try clear hcz130_1
                  try clear hcz138_0
                  try clear hcz138_1
                  try clear hcz139_0
                  try clear hcz139_1
                  try clear hcz141_0
                  try clear hcz141_1
                  try clear hcz143_0
                  try clear hcz143_1
                  try clear hcz144_0
                  try clear hcz144_1
                  try clear hcz153_0
                  try clear hcz153_1
                  try clear hcz154_0
                  try clear hcz154_1
                  try clear hcz156_0
                  try clear hcz156_1
                  try clear hcz165_0
                  try clear hcz165_1
                  try clear hcz168_0
                  try clear hcz168_1
                  try clear hcz176_0
                  try clear hcz176_1
                  try clear hcz177_0
                  try clear hcz177_1
                  try clear hcz178_0
                  try clear hcz178_1
                  try clear hcz187_0
                  try clear hcz187_1
                  try clear hcz198_0
                  try clear hcz198_1
                  try clear hcz203_0
                  try clear hcz203_1
                  try clear hcz215_0
                  try clear hcz215_1
                  try clear hcz220_0
                  try clear hcz220_1
                  try clear hcz94_0
                  try clear hcz94_1
                  try clear hcz97_0
                  try clear hcz97_1
                  try clear hfz105_0
                  try clear hfz105_1
                  try clear hfz106_0
                  try clear hfz106_1
                  try clear hfz108_0
                  try clear hfz108_1
                  try clear hfz110_0
                  try clear hfz110_1
                  try clear hfz111_0
                  try clear hfz111_1
                  try clear hfz120_0
                  try clear hfz120_1
                  try clear hfz121_0
                  try clear hfz121_1
                  try clear hfz123_0
                  try clear hfz123_1
                  try clear hfz127_0
                  try clear hfz127_1
                  try clear hfz130_0
                  try clear hfz130_1
                  try clear hfz138_0
                  try clear hfz138_1
                  try clear hfz139_0
                  try clear hfz139_1
                  try clear hfz141_0
                  try clear hfz141_1
                  try clear hfz143_0
                  try clear hfz143_1
                  try clear hfz144_0
                  try clear hfz144_1
                  try clear hfz153_0
                  try clear hfz153_1
                  try clear hfz154_0
                  try clear hfz154_1
                  try clear hfz156_0
                  try clear hfz156_1
                  try clear hfz165_0
                  try clear hfz165_1
                  try clear hfz168_0
                  try clear hfz168_1
                  try clear hfz176_0
                  try clear hfz176_1
                  try clear hfz177_0
                  try clear hfz177_1
                  try clear hfz178_0
                  try clear hfz178_1
                  try clear hfz187_0
                  try clear hfz187_1
                  try clear hfz198_0
                  try clear hfz198_1
                  try clear hfz203_0
                  try clear hfz203_1
                  try clear hfz215_0
                  try clear hfz215_1
                  try clear hfz220_0
                  try clear hfz220_1
                  try clear hfz94_0
                  try clear hfz94_1
                  try clear hfz97_0
                  try clear hfz97_1
                  try clear hx353_0
                  try clear hx371_0
                  try clear p2
                  try clear p3
                  try clear p35
                  try clear p353
                  try clear p37
                  try clear p371
                  try clear p6
                  try clear p64
                  try clear q3
                  try clear q35
                  try clear q353
                  try clear q37
                  try clear q371
                  obtain ⟨x43_8,x269_8,rfl,rfl,HA,HK8,HO_267,HO_379000,HO_385000,BK331,BK332,BK333,BK334,BK378,BK384,HB⟩:=hrel;cases gk with
                  | zero=>exact absurd HA.out (by simp[laws_FnCouplesCalmOfAll.l1])
                  | succ k8 =>
                   have H:=HA.out;clear HA;simp only[laws_FnCouplesCalmOfAll.l1] at H;by_cases c223:x269_8 < (t390.length:Int)
                   ·
                    rw[if_pos c223] at H;have c223b0:decide (x269_8 < (t390.length:Int))=true:=dt' c223;clear c223;(first|rw[c223b0]|(simp only[i64_w,i32_w];rw[c223b0])|skip)
                    by_cases c224:0≤x269_8
                    ·
                     rw[if_pos c224] at H;have c224b0:decide (0≤x269_8)=true:=dt' c224;clear c224;by_cases c225:x269_8 < (t390.length:Int)
                     ·
                      rw[if_pos c225] at H;have c225b0:decide (x269_8 < (t390.length:Int))=true:=dt' c225;clear c225;by_cases c226:x43_8=true
                      ·
                       subst c226;have H1:(laws_FnCouplesCalmOfAll.l1 k8 l4 l6 t385 t386 t393 true t390 (t390.length:Int) (wrap64 (x269_8+1)) l3_0 a3_1 t373 t376)=some r:=by rw[if_pos rfl] at H;exact H
                       clear H;have H:=H1;clear H1;have H':=am' H;clear H;have p394:0≤(x269_8:Int):=od' xa';have q394:x269_8 < (t390.length:Int):=od' xa';obtain ⟨ad394,A394_0,c394_0,e394,hx394_0,hl394_0,hi394_0⟩:=at_L1 (Kd.S_reads' HO_267.out).2.2 x269_8 p394 q394;cases e394;obtain ⟨ce394,hce394,hMe394,hcc394⟩:=Kd.S_get HO_267.out [] x269_8 p394 (by first|exact q394|exact od' xa'|(have e_:=(Kd.S_reads' HO_267.out).1;omega));obtain ⟨ve394_0,rfl,ge394_0⟩:=hMe394;have hv394_0:=hcc394 0 _ rfl;rw[Nat.add_zero,show ((Kd.slice 3 (Kd.int .i64))).sz=1 from rfl,Nat.mul_one] at hv394_0;replace hv394_0:=os' (hv394_0.symm.trans hx394_0);rw[hv394_0] at ge394_0;have HL394_0:=am' (show Kd.R (Kd.int .i64) 3 _ _ _ _ (rd_L1 t390 x269_8) from ge394_0);clear hv394_0 ge394_0;clear hcc394 hce394;have HR394_0:=am' hi394_0;have HC394_0:=am' hl394_0;clear hi394_0 hl394_0;replace p394:=eq_true p394;replace q394:=eq_true q394;go_wp2;go_roundg k8
                       case measure=>have:=HJ7.out;have:=HJ13.out;have:=HJ19.out;have:=HJ62.out;have:=HJ64.out;have:=HJ160.out;have:=HJ204.out;have:=HK8.out;omega
                       case rel=>exact ⟨(true),(wrap64 (x269_8+1)),xs',xs',H',⟨by have:=HJ7.out;have:=HJ13.out;have:=HJ19.out;have:=HJ62.out;have:=HJ64.out;have:=HJ160.out;have:=HJ204.out;have:=HK8.out;omega⟩,⟨kS' HO_267.out⟩,⟨kr' HO_379000.out⟩,⟨kr' HO_385000.out⟩,⟨kk' BK331.out⟩,⟨kk' BK332.out⟩,⟨kk' BK333.out⟩,⟨kk' BK334.out⟩,⟨kk' BK378.out⟩,⟨kk' BK384.out⟩,⟨y6' GE331.out GE332.out GE333.out GE334.out GE378.out GE384.out⟩⟩
                      ·
                       replace c226:=Bool.eq_false_iff.mpr c226;subst c226;have H1:((laws_hSame.f k8 (rd_L1 t390 x269_8) l4).bind fun t395=>(laws_FnCouplesCalmOfAll.l1 k8 l4 l6 t385 t386 t393 t395 t390 (t390.length:Int) (wrap64 (x269_8+1)) l3_0 a3_1 t373 t376))=some r:=by rw[if_neg (show ¬ (false=true) by decide)] at H;exact H
                       clear H;have H:=H1;clear H1;replace H:=Option.bind_eq_some_iff.mp H;obtain ⟨t395,A2270,H⟩:=H;replace H:(laws_FnCouplesCalmOfAll.l1 k8 l4 l6 t385 t386 t393 t395 t390 (t390.length:Int) (wrap64 (x269_8+1)) l3_0 a3_1 t373 t376)=some r:=H;have A227:=am' A2270;clear A2270;have H':=am' H;clear H;have p394:0≤(x269_8:Int):=od' xa';have q394:x269_8 < (t390.length:Int):=od' xa';obtain ⟨ad394,A394_0,c394_0,e394,hx394_0,hl394_0,hi394_0⟩:=at_L1 (Kd.S_reads' HO_267.out).2.2 x269_8 p394 q394;cases e394;obtain ⟨ce394,hce394,hMe394,hcc394⟩:=Kd.S_get HO_267.out [] x269_8 p394 (by first|exact q394|exact od' xa'|(have e_:=(Kd.S_reads' HO_267.out).1;omega));obtain ⟨ve394_0,rfl,ge394_0⟩:=hMe394;have hv394_0:=hcc394 0 _ rfl;rw[Nat.add_zero,show ((Kd.slice 3 (Kd.int .i64))).sz=1 from rfl,Nat.mul_one] at hv394_0;replace hv394_0:=os' (hv394_0.symm.trans hx394_0);rw[hv394_0] at ge394_0;have HL394_0:=am' (show Kd.R (Kd.int .i64) 3 _ _ _ _ (rd_L1 t390 x269_8) from ge394_0);clear hv394_0 ge394_0;clear hcc394 hce394;have HR394_0:=am' hi394_0;have HC394_0:=am' hl394_0;clear hi394_0 hl394_0;replace p394:=eq_true p394;replace q394:=eq_true q394;go_wp2_with (first|(go_at_call 26;(with_reducible refine (laws_hSame.calls k8 _ _ (rd_L1 t390 x269_8) _ _ l4 t395 _ ?side1 ?side2 ?side3 ?side4 A227.out).mono ?_);(case side1=>exact kc' (kx' HR394_0.out));(case side2=>exact HC394_0.out);(case side3=>exact kc' (cb' HR4.out HB.out));(case side4=>exact HC4.out);rintro e w' ⟨rfl,⟨nd,rfl⟩⟩));go_roundg k8
                       case measure=>have:=HJ7.out;have:=HJ13.out;have:=HJ19.out;have:=HJ62.out;have:=HJ64.out;have:=HJ160.out;have:=HJ204.out;have:=HK8.out;omega
                       case rel=>exact ⟨(t395),(wrap64 (x269_8+1)),xs',xs',H',⟨by have:=HJ7.out;have:=HJ13.out;have:=HJ19.out;have:=HJ62.out;have:=HJ64.out;have:=HJ160.out;have:=HJ204.out;have:=HK8.out;omega⟩,⟨kS' HO_267.out⟩,⟨kr' HO_379000.out⟩,⟨kr' HO_385000.out⟩,⟨kk' BK331.out⟩,⟨kk' BK332.out⟩,⟨kk' BK333.out⟩,⟨kk' BK334.out⟩,⟨kk' BK378.out⟩,⟨kk' BK384.out⟩,⟨y6' GE331.out GE332.out GE333.out GE334.out GE378.out GE384.out⟩⟩
                     ·
                      rw[if_neg c225] at H;exact absurd H (by simp)
                    ·
                     rw[if_neg c224] at H;exact absurd H (by simp)
                   ·
                    rw[if_neg c223] at H;have c223b0:decide (x269_8 < (t390.length:Int))=false:=df' c223;clear c223;(first|rw[c223b0]|(simp only[i64_w,i32_w];rw[c223b0])|skip)
                    by_cases c228:t393=true
                    ·
                     subst c228;have H1:(if x43_8=true then (if (t376 == a3_1)=true then (some false) else (laws_FnCouplesCalmOfAll.j9 k8 l6 t385 t386)) else (some false))=some r:=by rw[if_pos rfl] at H;exact H
                     clear H;have H:=H1;clear H1;by_cases c229:x43_8=true
                     ·
                      subst c229;have H1:(if (t376 == a3_1)=true then (some false) else (laws_FnCouplesCalmOfAll.j9 k8 l6 t385 t386))=some r:=by rw[if_pos rfl] at H;exact H
                      clear H;have H:=H1;clear H1;by_cases c230:(t376 == a3_1)=true
                      ·
                       rw[if_pos c230] at H;exact absurd (H.trans (congrArg some HRT.out)) (by decide)
                      ·
                       rw[if_neg c230] at H;have c230b0:(t376 == a3_1)=false:=by simpa using c230
                       (try (have c230b1:decide (t376=a3_1)=false:=by simpa using c230))
                       (try (have c230b2:(t376 == a3_1)=false:=by simpa using c230))
                       (try (have c230b3:¬ (t376=a3_1):=by simpa using c230))
                       clear c230;have H':=am' H;clear H;have hnb231:=NB378_331.out;have hnc231:=NB331_378.out;have hnb232:=NB378_332.out;have hnc232:=NB332_378.out;have hnb233:=NB378_333.out;have hnc233:=NB333_378.out;have hnb234:=NB378_334.out;have hnc234:=NB334_378.out;have hnb235:=NB378_384.out;have hnc235:=NB384_378.out;have hcz236_0:wr.cell? ⟨gb378,0,none⟩=some (.slice Ao171 t373.length co171):=(bc' BK378.out 0).trans rfl;have hcz236_1:wr.cell? ⟨gb378,1,none⟩=some (.bool t376):=(bc' BK378.out 1).trans rfl;have hfz236_0:=bf' BK378.out 0;have hfz236_1:=bf' BK378.out 1;have hnb237:=NB334_331.out;have hnc237:=NB331_334.out;have hnb238:=NB334_332.out;have hnc238:=NB332_334.out;have hnb239:=NB334_333.out;have hnc239:=NB333_334.out;have hnb240:=NB334_384.out;have hnc240:=NB384_334.out;have hcz241_0:wr.cell? ⟨gb334,0,none⟩=some (.slice A3_0 l3_0.length c3_0):=(bc' BK334.out 0).trans rfl;have hcz241_1:wr.cell? ⟨gb334,1,none⟩=some (.bool a3_1):=(bc' BK334.out 1).trans rfl;have hfz241_0:=bf' BK334.out 0;have hfz241_1:=bf' BK334.out 1;go_wp2;go_meet
                       case rel=>exact ⟨_,H',⟨by have:=HJ7.out;have:=HJ13.out;have:=HJ19.out;have:=HJ62.out;have:=HJ64.out;have:=HJ160.out;have:=HJ204.out;have:=HK8.out;first|omega|exact Nat.le_refl _⟩,⟨by (with_reducible repeat (first|apply ra'|apply rn'|apply rw'));exact Kd.R_mono HO_379000.out (fun _ hk=>⟨hk.1,⟨hk.2.1,hk.2.2.1⟩⟩)⟩,⟨by (with_reducible repeat (first|apply ra'|apply rn'|apply rw'));exact Kd.R_mono HO_385000.out (fun _ hk=>⟨hk.1,hk.2.1⟩)⟩,⟨kk' BK331.out⟩,⟨kk' BK332.out⟩,⟨kk' BK333.out⟩,⟨kk' BK334.out⟩,⟨kk' BK378.out⟩,⟨kk' BK384.out⟩,⟨y6' GE331.out GE332.out GE333.out GE334.out GE378.out GE384.out⟩⟩
                     ·
                      rw[if_neg c229] at H;exact absurd (H.trans (congrArg some HRT.out)) (by decide)
                    ·
                     rw[if_neg c228] at H;exact absurd (H.trans (congrArg some HRT.out)) (by decide)
                ·
                 replace c208:=Bool.eq_false_iff.mpr c208;subst c208;have H1:(laws_FnCouplesCalmOfAll.j9 kj204 l6 t385 t386)=some r:=by rw[if_neg (show ¬ (false=true) by decide)] at H;exact H
                 clear H;have H:=H1;clear H1;have H':=am' H;clear H;go_wp2;go_meet
                 case rel=>exact ⟨_,H',⟨by have:=HJ7.out;have:=HJ13.out;have:=HJ19.out;have:=HJ62.out;have:=HJ64.out;have:=HJ160.out;have:=HJ204.out;first|omega|exact Nat.le_refl _⟩,⟨kr' HO_379000.out⟩,⟨kr' HO_385000.out⟩,⟨kk' BK331.out⟩,⟨kk' BK332.out⟩,⟨kk' BK333.out⟩,⟨kk' BK334.out⟩,⟨kk' BK378.out⟩,⟨kk' BK384.out⟩,⟨y6' GE331.out GE332.out GE333.out GE334.out GE378.out GE384.out⟩⟩
               case rest=>as_aux_lemma =>
                clear HC207;try clear c1
                try clear c2
                try clear p2
                try clear c3
                try clear p3
                try clear q3
                try clear hx3
                try clear c4
                try clear c5
                try clear c6
                try clear p6
                try clear c7
                try clear c8
                try clear c9
                try clear c10
                try clear c11
                try clear c12
                try clear c13
                try clear c14
                try clear c15
                try clear c16
                try clear c17
                try clear c18
                try clear c19
                try clear c20
                try clear c21
                try clear c22
                try clear c23
                try clear c24
                try clear c25
                try clear c35
                try clear p35
                try clear q35
                try clear hx35
                try clear c37
                try clear p37
                try clear q37
                try clear hx37
                try clear c39
                try clear p39
                try clear q39
                try clear hx39
                try clear c40
                try clear c43
                try clear c46
                try clear c55
                try clear c55b0
                try clear c55b1
                try clear c55b2
                try clear c64
                try clear p64
                try clear c66
                try clear c68
                try clear c68b0
                try clear c69
                try clear c69b0
                try clear c70
                try clear c70b0
                try clear c75
                try clear c76
                try clear c77
                try clear c78
                try clear c79
                try clear c80
                try clear c82
                try clear c83
                try clear c83b0
                try clear c83b1
                try clear c84
                try clear c84b0
                try clear c85
                try clear c85b0
                try clear c87
                try clear c87b0
                try clear c88
                try clear c88b0
                try clear c90
                try clear c91
                try clear c92
                try clear c93
                try clear c95
                try clear c96
                try clear c101
                try clear c102
                try clear c103
                try clear c104
                try clear c115
                try clear c116
                try clear c117
                try clear c118
                try clear c119
                try clear c124
                try clear c125
                try clear c126
                try clear c128
                try clear c129
                try clear c134
                try clear c135
                try clear c136
                try clear c137
                try clear c148
                try clear c149
                try clear c150
                try clear c151
                try clear c152
                try clear c162
                try clear c163
                try clear c164
                try clear c166
                try clear c167
                try clear c172
                try clear c173
                try clear c174
                try clear c175
                try clear c182
                try clear c183
                try clear c184
                try clear c185
                try clear c186
                try clear c189
                try clear c189b0
                try clear c189b1
                try clear c189b2
                try clear c191
                try clear c192
                try clear c192b0
                try clear c192b1
                try clear c192b2
                try clear c193
                try clear c194
                try clear c195
                try clear c196
                try clear c197
                try clear c199
                try clear c200
                try clear c201
                try clear c202
                try clear c206
                try clear c208
                try clear c210
                try clear c211
                try clear c212
                try clear c213
                try clear c214
                try clear c216
                try clear c217
                try clear c218
                try clear c219
                try clear c223
                try clear c223b0
                try clear c224
                try clear c224b0
                try clear c225
                try clear c225b0
                try clear c226
                try clear c228
                try clear c229
                try clear c230
                try clear c230b0
                try clear c230b1
                try clear c230b2
                try clear c231
                try clear c232
                try clear c233
                try clear c234
                try clear c235
                try clear c237
                try clear c238
                try clear c239
                try clear c240
                try clear hcz105_0
                try clear hcz105_1
                try clear hcz106_0
                try clear hcz106_1
                try clear hcz108_0
                try clear hcz108_1
                try clear hcz110_0
                try clear hcz110_1
                try clear hcz111_0
                try clear hcz111_1
                try clear hcz120_0
                try clear hcz120_1
                try clear hcz121_0
                try clear hcz121_1
                try clear hcz123_0
                try clear hcz123_1
                try clear hcz127_0
                try clear hcz127_1
                try clear hcz130_0
                try clear hcz130_1
                try clear hcz138_0
                try clear hcz138_1
                try clear hcz139_0
                try clear hcz139_1
                try clear hcz141_0
                try clear hcz141_1
                try clear hcz143_0
                try clear hcz143_1
                try clear hcz144_0
                try clear hcz144_1
                try clear hcz153_0
                try clear hcz153_1
                try clear hcz154_0
                try clear hcz154_1
                try clear hcz156_0
                try clear hcz156_1
                try clear hcz165_0
                try clear hcz165_1
                try clear hcz168_0
                try clear hcz168_1
                try clear hcz176_0
                try clear hcz176_1
                try clear hcz177_0
                try clear hcz177_1
                try clear hcz178_0
                try clear hcz178_1
                try clear hcz187_0
                try clear hcz187_1
                try clear hcz198_0
                try clear hcz198_1
                try clear hcz203_0
                try clear hcz203_1
                try clear hcz215_0
                try clear hcz215_1
                try clear hcz220_0
                try clear hcz220_1
                try clear hcz236_0
                try clear hcz236_1
                try clear hcz241_0
                try clear hcz241_1
                try clear hcz94_0
                try clear hcz94_1
                try clear hcz97_0
                try clear hcz97_1
                try clear hfz105_0
                try clear hfz105_1
                try clear hfz106_0
                try clear hfz106_1
                try clear hfz108_0
                try clear hfz108_1
                try clear hfz110_0
                try clear hfz110_1
                try clear hfz111_0
                try clear hfz111_1
                try clear hfz120_0
                try clear hfz120_1
                try clear hfz121_0
                try clear hfz121_1
                try clear hfz123_0
                try clear hfz123_1
                try clear hfz127_0
                try clear hfz127_1
                try clear hfz130_0
                try clear hfz130_1
                try clear hfz138_0
                try clear hfz138_1
                try clear hfz139_0
                try clear hfz139_1
                try clear hfz141_0
                try clear hfz141_1
                try clear hfz143_0
                try clear hfz143_1
                try clear hfz144_0
                try clear hfz144_1
                try clear hfz153_0
                try clear hfz153_1
                try clear hfz154_0
                try clear hfz154_1
                try clear hfz156_0
                try clear hfz156_1
                try clear hfz165_0
                try clear hfz165_1
                try clear hfz168_0
                try clear hfz168_1
                try clear hfz176_0
                try clear hfz176_1
                try clear hfz177_0
                try clear hfz177_1
                try clear hfz178_0
                try clear hfz178_1
                try clear hfz187_0
                try clear hfz187_1
                try clear hfz198_0
                try clear hfz198_1
                try clear hfz203_0
                try clear hfz203_1
                try clear hfz215_0
                try clear hfz215_1
                try clear hfz220_0
                try clear hfz220_1
                try clear hfz236_0
                try clear hfz236_1
                try clear hfz241_0
                try clear hfz241_1
                try clear hfz94_0
                try clear hfz94_1
                try clear hfz97_0
                try clear hfz97_1
                try clear hx353_0
                try clear hx371_0
                try clear hx394_0
                try clear p2
                try clear p3
                try clear p35
                try clear p353
                try clear p37
                try clear p371
                try clear p394
                try clear p6
                try clear p64
                try clear q3
                try clear q35
                try clear q353
                try clear q37
                try clear q371
                try clear q394
                obtain ⟨kq,HA,HJ206,HO_379000,HO_385000,BK331,BK332,BK333,BK334,BK378,BK384,HB⟩:=hcut;cases kq with
                | zero=>exact absurd HA.out (by simp[laws_FnCouplesCalmOfAll.j9])
                | succ kj206 =>
                 have H:=HA.out;clear HA;simp only[laws_FnCouplesCalmOfAll.j9] at H;by_cases c242:t386=true
                 ·
                  subst c242;have H1:(laws_FnCouplesCalmOfAll.l2 kj206 l6 t385 true l6 (l6.length:Int) 0)=some r:=by rw[if_pos rfl] at H;exact H
                  clear H;have H:=H1;clear H1;have H':=am' H;clear H;go_wp2;go_loopg [46,296] kj206 (fun kq v46 v296 w'=>∃ (x46_9:Bool) (x296_9:Int),v46 = .bool x46_9∧v296 = .int .i64 x296_9∧Aside0 (laws_FnCouplesCalmOfAll.l2 kq l6 t385 x46_9 l6 (l6.length:Int) x296_9=some r)∧Aside0 (kq≤kj206)∧Aside0 (Kd.R Kd.bool 4 w' w.heap.size (fun k_=>some k_≠((.slice Ao181 t379.length co181):Value).ownBlock∧¬ D405_ k_∧D406_ k_) (.slice Ao171 t373.length co171) t373)∧Aside0 (Kd.R Kd.bool 4 w' w.heap.size (fun k_=>some k_≠((.slice Ao171 t373.length co171):Value).ownBlock∧¬ D406_ k_) (.slice Ao181 t379.length co181) t379)∧Aside0 (w'.heap[gb331]? = some (.cells #[.int .i64 a0_0, .int .i64 a0_1] 32 (0,0)))∧Aside0 (w'.heap[gb332]? = some (.cells #[(.slice A1_0 l1_0.length c1_0), .bool a1_1] 35 (0,0)))∧Aside0 (w'.heap[gb333]? = some (.cells #[.int .i64 a2_0, .int .i64 a2_1] 32 (0,0)))∧Aside0 (w'.heap[gb334]? = some (.cells #[(.slice A3_0 l3_0.length c3_0), .bool a3_1] 35 (0,0)))∧Aside0 (w'.heap[gb378]? = some (.cells #[(.slice Ao171 t373.length co171), .bool t376] 35 (0,0)))∧Aside0 (w'.heap[gb384]? = some (.cells #[(.slice Ao181 t379.length co181), .bool t382] 35 (0,0)))∧Aside0 (Below w.heap.size w w'))
                  case atStart=>exact ⟨(true),(0),xs',xs',H',⟨Nat.le_refl _⟩,⟨kr' HO_379000.out⟩,⟨kr' HO_385000.out⟩,⟨kk' BK331.out⟩,⟨kk' BK332.out⟩,⟨kk' BK333.out⟩,⟨kk' BK334.out⟩,⟨kk' BK378.out⟩,⟨kk' BK384.out⟩,⟨y6' GE331.out GE332.out GE333.out GE334.out GE378.out GE384.out⟩⟩
                  case round=>as_aux_lemma =>
                   clear H';try clear c1
                   try clear c2
                   try clear p2
                   try clear c3
                   try clear p3
                   try clear q3
                   try clear hx3
                   try clear c4
                   try clear c5
                   try clear c6
                   try clear p6
                   try clear c7
                   try clear c8
                   try clear c9
                   try clear c10
                   try clear c11
                   try clear c12
                   try clear c13
                   try clear c14
                   try clear c15
                   try clear c16
                   try clear c17
                   try clear c18
                   try clear c19
                   try clear c20
                   try clear c21
                   try clear c22
                   try clear c23
                   try clear c24
                   try clear c25
                   try clear c35
                   try clear p35
                   try clear q35
                   try clear hx35
                   try clear c37
                   try clear p37
                   try clear q37
                   try clear hx37
                   try clear c39
                   try clear p39
                   try clear q39
                   try clear hx39
                   try clear c40
                   try clear c43
                   try clear c46
                   try clear c55
                   try clear c55b0
                   try clear c55b1
                   try clear c55b2
                   try clear c64
                   try clear p64
                   try clear c66
                   try clear c68
                   try clear c68b0
                   try clear c69
                   try clear c69b0
                   try clear c70
                   try clear c70b0
                   try clear c75
                   try clear c76
                   try clear c77
                   try clear c78
                   try clear c79
                   try clear c80
                   try clear c82
                   try clear c83
                   try clear c83b0
                   try clear c83b1
                   try clear c84
                   try clear c84b0
                   try clear c85
                   try clear c85b0
                   try clear c87
                   try clear c87b0
                   try clear c88
                   try clear c88b0
                   try clear c90
                   try clear c91
                   try clear c92
                   try clear c93
                   try clear c95
                   try clear c96
                   try clear c101
                   try clear c102
                   try clear c103
                   try clear c104
                   try clear c115
                   try clear c116
                   try clear c117
                   try clear c118
                   try clear c119
                   try clear c124
                   try clear c125
                   try clear c126
                   try clear c128
                   try clear c129
                   try clear c134
                   try clear c135
                   try clear c136
                   try clear c137
                   try clear c148
                   try clear c149
                   try clear c150
                   try clear c151
                   try clear c152
                   try clear c162
                   try clear c163
                   try clear c164
                   try clear c166
                   try clear c167
                   try clear c172
                   try clear c173
                   try clear c174
                   try clear c175
                   try clear c182
                   try clear c183
                   try clear c184
                   try clear c185
                   try clear c186
                   try clear c189
                   try clear c189b0
                   try clear c189b1
                   try clear c189b2
                   try clear c191
                   try clear c192
                   try clear c192b0
                   try clear c192b1
                   try clear c192b2
                   try clear c193
                   try clear c194
                   try clear c195
                   try clear c196
                   try clear c197
                   try clear c199
                   try clear c200
                   try clear c201
                   try clear c202
                   try clear c206
                   try clear c208
                   try clear c210
                   try clear c211
                   try clear c212
                   try clear c213
                   try clear c214
                   try clear c216
                   try clear c217
                   try clear c218
                   try clear c219
                   try clear c223
                   try clear c223b0
                   try clear c224
                   try clear c224b0
                   try clear c225
                   try clear c225b0
                   try clear c226
                   try clear c228
                   try clear c229
                   try clear c230
                   try clear c230b0
                   try clear c230b1
                   try clear c230b2
                   try clear c231
                   try clear c232
                   try clear c233
                   try clear c234
                   try clear c235
                   try clear c237
                   try clear c238
                   try clear c239
                   try clear c240
                   try clear c242
                   try clear hcz105_0
                   try clear hcz105_1
                   try clear hcz106_0
                   try clear hcz106_1
                   try clear hcz108_0
                   try clear hcz108_1
                   try clear hcz110_0
                   try clear hcz110_1
                   try clear hcz111_0
                   try clear hcz111_1
                   try clear hcz120_0
                   try clear hcz120_1
                   try clear hcz121_0
                   try clear hcz121_1
                   try clear hcz123_0
                   try clear hcz123_1
                   try clear hcz127_0
                   try clear hcz127_1
                   try clear hcz130_0
                   try clear hcz130_1
                   try clear hcz138_0
                   try clear hcz138_1
                   try clear hcz139_0
                   try clear hcz139_1
                   try clear hcz141_0
                   try clear hcz141_1
                   try clear hcz143_0
                   try clear hcz143_1
                   try clear hcz144_0
                   try clear hcz144_1
                   try clear hcz153_0
                   try clear hcz153_1
                   try clear hcz154_0
                   try clear hcz154_1
                   try clear hcz156_0
                   try clear hcz156_1
                   try clear hcz165_0
                   try clear hcz165_1
                   try clear hcz168_0
                   try clear hcz168_1
                   try clear hcz176_0
                   try clear hcz176_1
                   try clear hcz177_0
                   try clear hcz177_1
                   try clear hcz178_0
                   try clear hcz178_1
                   try clear hcz187_0
                   try clear hcz187_1
                   try clear hcz198_0
                   try clear hcz198_1
                   try clear hcz203_0
                   try clear hcz203_1
                   try clear hcz215_0
                   try clear hcz215_1
                   try clear hcz220_0
                   try clear hcz220_1
                   try clear hcz236_0
                   try clear hcz236_1
                   try clear hcz241_0
                   try clear hcz241_1
                   try clear hcz94_0
                   try clear hcz94_1
                   try clear hcz97_0
                   try clear hcz97_1
                   try clear hfz105_0
                   try clear hfz105_1
                   try clear hfz106_0
                   try clear hfz106_1
                   try clear hfz108_0
                   try clear hfz108_1
                   try clear hfz110_0
                   try clear hfz110_1
                   try clear hfz111_0
                   try clear hfz111_1
                   try clear hfz120_0
                   try clear hfz120_1
                   try clear hfz121_0
                   try clear hfz121_1
                   try clear hfz123_0
                   try clear hfz123_1
                   try clear hfz127_0
                   try clear hfz127_1
                   try clear hfz130_0
                   try clear hfz130_1
                   try clear hfz138_0
                   try clear hfz138_1
                   try clear hfz139_0
                   try clear hfz139_1
                   try clear hfz141_0
                   try clear hfz141_1
                   try clear hfz143_0
                   try clear hfz143_1
                   try clear hfz144_0
                   try clear hfz144_1
                   try clear hfz153_0
                   try clear hfz153_1
                   try clear hfz154_0
                   try clear hfz154_1
                   try clear hfz156_0
                   try clear hfz156_1
                   try clear hfz165_0
                   try clear hfz165_1
                   try clear hfz168_0
                   try clear hfz168_1
                   try clear hfz176_0
                   try clear hfz176_1
                   try clear hfz177_0
                   try clear hfz177_1
                   try clear hfz178_0
                   try clear hfz178_1
                   try clear hfz187_0
                   try clear hfz187_1
                   try clear hfz198_0
                   try clear hfz198_1
                   try clear hfz203_0
                   try clear hfz203_1
                   try clear hfz215_0
                   try clear hfz215_1
                   try clear hfz220_0
                   try clear hfz220_1
                   try clear hfz236_0
                   try clear hfz236_1
                   try clear hfz241_0
                   try clear hfz241_1
                   try clear hfz94_0
                   try clear hfz94_1
                   try clear hfz97_0
                   try clear hfz97_1
                   try clear hx353_0
                   try clear hx371_0
                   try clear hx394_0
                   try clear p2
                   try clear p3
                   try clear p35
                   try clear p353
                   try clear p37
                   try clear p371
                   try clear p39
                   try clear p394
                   try clear p6
                   try clear p64
                   try clear q3
                   try clear q35
                   try clear q353
                   try clear q37
                   try clear q371
                   try clear q39
                   try clear q394
                   obtain ⟨x46_9,x296_9,rfl,rfl,HA,HK9,HO_379000,HO_385000,BK331,BK332,BK333,BK334,BK378,BK384,HB⟩:=hrel;cases gk with
                   | zero=>exact absurd HA.out (by simp[laws_FnCouplesCalmOfAll.l2])
                   | succ k9 =>
                    have H:=HA.out;clear HA;simp only[laws_FnCouplesCalmOfAll.l2] at H;by_cases c243:x296_9 < (l6.length:Int)
                    ·
                     rw[if_pos c243] at H;have c243b0:decide (x296_9 < (l6.length:Int))=true:=dt' c243;clear c243;by_cases c244:0≤x296_9
                     ·
                      rw[if_pos c244] at H;have c244b0:decide (0≤x296_9)=true:=dt' c244;clear c244;by_cases c245:x296_9 < (l6.length:Int)
                      ·
                       rw[if_pos c245] at H;have c245b0:decide (x296_9 < (l6.length:Int))=true:=dt' c245;clear c245;by_cases c246:(Int.tmod (rd l6 x296_9) 2)=0
                       ·
                        rw[if_pos c246] at H;have c246b0:((Int.tmod (rd l6 x296_9) 2) == 0)=true:=beq_iff_eq.mpr c246;have c246b1:((Int.tmod (rd l6 x296_9) 2) != 0)=false:=bne_eq_false_iff_eq.mpr c246;clear c246;have H':=am' H;clear H;have p396:0≤(x296_9:Int):=od' xa';have q396:x296_9 < (l6.length:Int):=od' xa';obtain ⟨ad396,e396,hx396_0⟩:=Kd.at_int HR6.out x296_9 p396 q396;cases e396;replace hx396_0:=(HB.out.cell (bl' w _ hx396_0)).trans hx396_0;replace p396:=eq_true p396;replace q396:=eq_true q396;go_wp2;go_roundg k9
                        case measure=>have:=HJ7.out;have:=HJ13.out;have:=HJ19.out;have:=HJ62.out;have:=HJ64.out;have:=HJ160.out;have:=HJ204.out;have:=HJ206.out;have:=HK9.out;omega
                        case rel=>exact ⟨(x46_9),(wrap64 (x296_9+1)),xs',xs',H',⟨by have:=HJ7.out;have:=HJ13.out;have:=HJ19.out;have:=HJ62.out;have:=HJ64.out;have:=HJ160.out;have:=HJ204.out;have:=HJ206.out;have:=HK9.out;omega⟩,⟨kr' HO_379000.out⟩,⟨kr' HO_385000.out⟩,⟨kk' BK331.out⟩,⟨kk' BK332.out⟩,⟨kk' BK333.out⟩,⟨kk' BK334.out⟩,⟨kk' BK378.out⟩,⟨kk' BK384.out⟩,⟨y6' GE331.out GE332.out GE333.out GE334.out GE378.out GE384.out⟩⟩
                       ·
                        rw[if_neg c246] at H;have c246b0:((Int.tmod (rd l6 x296_9) 2) == 0)=false:=beq_eq_false_iff_ne.mpr c246;have c246b1:((Int.tmod (rd l6 x296_9) 2) != 0)=true:=bne_iff_ne.mpr c246;replace H:=Option.bind_eq_some_iff.mp H;obtain ⟨t397,A2470,H⟩:=H;replace H:(if t397=true then (laws_FnCouplesCalmOfAll.l2 k9 l6 t385 x46_9 l6 (l6.length:Int) (wrap64 (x296_9+1))) else (laws_FnCouplesCalmOfAll.l3 k9 l6 t385 x46_9 l6 (l6.length:Int) x296_9 l6 (l6.length:Int) 0))=some r:=H;have A247:=am' A2470;clear A2470;by_cases c248:t397=true
                        ·
                         subst c248;have H1:(laws_FnCouplesCalmOfAll.l2 k9 l6 t385 x46_9 l6 (l6.length:Int) (wrap64 (x296_9+1)))=some r:=by rw[if_pos rfl] at H;exact H
                         clear H;have H:=H1;clear H1;have H':=am' H;clear H;have p396:0≤(x296_9:Int):=od' xa';have q396:x296_9 < (l6.length:Int):=od' xa';obtain ⟨ad396,e396,hx396_0⟩:=Kd.at_int HR6.out x296_9 p396 q396;cases e396;replace hx396_0:=(HB.out.cell (bl' w _ hx396_0)).trans hx396_0;replace p396:=eq_true p396;replace q396:=eq_true q396;go_wp2_with (first|(go_at_call 27;(with_reducible refine (laws_hHas.calls k9 _ _ l6 (wrap64 ((rd l6 x296_9) - 1)) true _ ?side1 ?side2 A247.out).mono ?_);(case side1=>exact kc' (cb' HR6.out HB.out));(case side2=>exact HC6.out);rintro e w' ⟨rfl,⟨nd,rfl⟩⟩));go_roundg k9
                         case measure=>have:=HJ7.out;have:=HJ13.out;have:=HJ19.out;have:=HJ62.out;have:=HJ64.out;have:=HJ160.out;have:=HJ204.out;have:=HJ206.out;have:=HK9.out;omega
                         case rel=>exact ⟨(x46_9),(wrap64 (x296_9+1)),xs',xs',H',⟨by have:=HJ7.out;have:=HJ13.out;have:=HJ19.out;have:=HJ62.out;have:=HJ64.out;have:=HJ160.out;have:=HJ204.out;have:=HJ206.out;have:=HK9.out;omega⟩,⟨kr' HO_379000.out⟩,⟨kr' HO_385000.out⟩,⟨kk' BK331.out⟩,⟨kk' BK332.out⟩,⟨kk' BK333.out⟩,⟨kk' BK334.out⟩,⟨kk' BK378.out⟩,⟨kk' BK384.out⟩,⟨y6' GE331.out GE332.out GE333.out GE334.out GE378.out GE384.out⟩⟩
                        ·
                         replace c248:=Bool.eq_false_iff.mpr c248;subst c248;have H1:(laws_FnCouplesCalmOfAll.l3 k9 l6 t385 x46_9 l6 (l6.length:Int) x296_9 l6 (l6.length:Int) 0)=some r:=by rw[if_neg (show ¬ (false=true) by decide)] at H;exact H
                         clear H;have H:=H1;clear H1;have H':=am' H;clear H;have p396:0≤(x296_9:Int):=od' xa';have q396:x296_9 < (l6.length:Int):=od' xa';obtain ⟨ad396,e396,hx396_0⟩:=Kd.at_int HR6.out x296_9 p396 q396;cases e396;replace hx396_0:=(HB.out.cell (bl' w _ hx396_0)).trans hx396_0;replace p396:=eq_true p396;replace q396:=eq_true q396;go_wp2_with (first|(go_at_call 27;(with_reducible refine (laws_hHas.calls k9 _ _ l6 (wrap64 ((rd l6 x296_9) - 1)) false _ ?side1 ?side2 A247.out).mono ?_);(case side1=>exact kc' (cb' HR6.out HB.out));(case side2=>exact HC6.out);rintro e w' ⟨rfl,⟨nd,rfl⟩⟩));go_loopg [46,311] k9 (fun kq v46 v311 w'=>∃ (x46_10:Bool) (x311_10:Int),v46 = .bool x46_10∧v311 = .int .i64 x311_10∧Aside0 (laws_FnCouplesCalmOfAll.l3 kq l6 t385 x46_10 l6 (l6.length:Int) x296_9 l6 (l6.length:Int) x311_10=some r)∧Aside0 (kq≤k9)∧Aside0 (Kd.R Kd.bool 4 w' w.heap.size (fun k_=>some k_≠((.slice Ao181 t379.length co181):Value).ownBlock∧¬ D405_ k_∧D406_ k_) (.slice Ao171 t373.length co171) t373)∧Aside0 (Kd.R Kd.bool 4 w' w.heap.size (fun k_=>some k_≠((.slice Ao171 t373.length co171):Value).ownBlock∧¬ D406_ k_) (.slice Ao181 t379.length co181) t379)∧Aside0 (w'.heap[gb331]? = some (.cells #[.int .i64 a0_0, .int .i64 a0_1] 32 (0,0)))∧Aside0 (w'.heap[gb332]? = some (.cells #[(.slice A1_0 l1_0.length c1_0), .bool a1_1] 35 (0,0)))∧Aside0 (w'.heap[gb333]? = some (.cells #[.int .i64 a2_0, .int .i64 a2_1] 32 (0,0)))∧Aside0 (w'.heap[gb334]? = some (.cells #[(.slice A3_0 l3_0.length c3_0), .bool a3_1] 35 (0,0)))∧Aside0 (w'.heap[gb378]? = some (.cells #[(.slice Ao171 t373.length co171), .bool t376] 35 (0,0)))∧Aside0 (w'.heap[gb384]? = some (.cells #[(.slice Ao181 t379.length co181), .bool t382] 35 (0,0)))∧Aside0 (Below w.heap.size w w'))
                         case atStart=>exact ⟨(x46_9),(0),xs',xs',H',⟨Nat.le_refl _⟩,⟨kr' HO_379000.out⟩,⟨kr' HO_385000.out⟩,⟨kk' BK331.out⟩,⟨kk' BK332.out⟩,⟨kk' BK333.out⟩,⟨kk' BK334.out⟩,⟨kk' BK378.out⟩,⟨kk' BK384.out⟩,⟨y6' GE331.out GE332.out GE333.out GE334.out GE378.out GE384.out⟩⟩
                         case round=>as_aux_lemma =>
                          clear H';try clear c1
                          try clear c2
                          try clear p2
                          try clear c3
                          try clear p3
                          try clear q3
                          try clear hx3
                          try clear c4
                          try clear c5
                          try clear c6
                          try clear p6
                          try clear c7
                          try clear c8
                          try clear c9
                          try clear c10
                          try clear c11
                          try clear c12
                          try clear c13
                          try clear c14
                          try clear c15
                          try clear c16
                          try clear c17
                          try clear c18
                          try clear c19
                          try clear c20
                          try clear c21
                          try clear c22
                          try clear c23
                          try clear c24
                          try clear c25
                          try clear c35
                          try clear p35
                          try clear q35
                          try clear hx35
                          try clear c37
                          try clear p37
                          try clear q37
                          try clear hx37
                          try clear c39
                          try clear p39
                          try clear q39
                          try clear hx39
                          try clear c40
                          try clear c43
                          try clear c46
                          try clear c55
                          try clear c55b0
                          try clear c55b1
                          try clear c55b2
                          try clear c64
                          try clear p64
                          try clear c66
                          try clear c68
                          try clear c68b0
                          try clear c69
                          try clear c69b0
                          try clear c70
                          try clear c70b0
                          try clear c75
                          try clear c76
                          try clear c77
                          try clear c78
                          try clear c79
                          try clear c80
                          try clear c82
                          try clear c83
                          try clear c83b0
                          try clear c83b1
                          try clear c84
                          try clear c84b0
                          try clear c85
                          try clear c85b0
                          try clear c87
                          try clear c87b0
                          try clear c88
                          try clear c88b0
                          try clear c90
                          try clear c91
                          try clear c92
                          try clear c93
                          try clear c95
                          try clear c96
                          try clear c101
                          try clear c102
                          try clear c103
                          try clear c104
                          try clear c115
                          try clear c116
                          try clear c117
                          try clear c118
                          try clear c119
                          try clear c124
                          try clear c125
                          try clear c126
                          try clear c128
                          try clear c129
                          try clear c134
                          try clear c135
                          try clear c136
                          try clear c137
                          try clear c148
                          try clear c149
                          try clear c150
                          try clear c151
                          try clear c152
                          try clear c162
                          try clear c163
                          try clear c164
                          try clear c166
                          try clear c167
                          try clear c172
                          try clear c173
                          try clear c174
                          try clear c175
                          try clear c182
                          try clear c183
                          try clear c184
                          try clear c185
                          try clear c186
                          try clear c189
                          try clear c189b0
                          try clear c189b1
                          try clear c189b2
                          try clear c191
                          try clear c192
                          try clear c192b0
                          try clear c192b1
                          try clear c192b2
                          try clear c193
                          try clear c194
                          try clear c195
                          try clear c196
                          try clear c197
                          try clear c199
                          try clear c200
                          try clear c201
                          try clear c202
                          try clear c206
                          try clear c208
                          try clear c210
                          try clear c211
                          try clear c212
                          try clear c213
                          try clear c214
                          try clear c216
                          try clear c217
                          try clear c218
                          try clear c219
                          try clear c223
                          try clear c223b0
                          try clear c224
                          try clear c224b0
                          try clear c225
                          try clear c225b0
                          try clear c226
                          try clear c228
                          try clear c229
                          try clear c230
                          try clear c230b0
                          try clear c230b1
                          try clear c230b2
                          try clear c231
                          try clear c232
                          try clear c233
                          try clear c234
                          try clear c235
                          try clear c237
                          try clear c238
                          try clear c239
                          try clear c240
                          try clear c242
                          try clear c243
                          try clear c243b0
                          try clear c244
                          try clear c244b0
                          try clear c245
                          try clear c245b0
                          try clear c246
                          try clear c246b0
                          try clear c246b1
                          try clear c248
                          try clear hcz105_0
                          try clear hcz105_1
                          try clear hcz106_0
                          try clear hcz106_1
                          try clear hcz108_0
                          try clear hcz108_1
                          try clear hcz110_0
                          try clear hcz110_1
                          try clear hcz111_0
                          try clear hcz111_1
                          try clear hcz120_0
                          try clear hcz120_1
                          try clear hcz121_0
                          try clear hcz121_1
                          try clear hcz123_0
                          try clear hcz123_1
                          try clear hcz127_0
                          try clear hcz127_1
                          try clear hcz130_0
                          try clear hcz130_1
                          try clear hcz138_0
                          try clear hcz138_1
                          try clear hcz139_0
                          try clear hcz139_1
                          try clear hcz141_0
                          try clear hcz141_1
                          try clear hcz143_0
                          try clear hcz143_1
                          try clear hcz144_0
                          try clear hcz144_1
                          try clear hcz153_0
                          try clear hcz153_1
                          try clear hcz154_0
                          try clear hcz154_1
                          try clear hcz156_0
                          try clear hcz156_1
                          try clear hcz165_0
                          try clear hcz165_1
                          try clear hcz168_0
                          try clear hcz168_1
                          try clear hcz176_0
                          try clear hcz176_1
                          try clear hcz177_0
                          try clear hcz177_1
                          try clear hcz178_0
                          try clear hcz178_1
                          try clear hcz187_0
                          try clear hcz187_1
                          try clear hcz198_0
                          try clear hcz198_1
                          try clear hcz203_0
                          try clear hcz203_1
                          try clear hcz215_0
                          try clear hcz215_1
                          try clear hcz220_0
                          try clear hcz220_1
                          try clear hcz236_0
                          try clear hcz236_1
                          try clear hcz241_0
                          try clear hcz241_1
                          try clear hcz94_0
                          try clear hcz94_1
                          try clear hcz97_0
                          try clear hcz97_1
                          try clear hfz105_0
                          try clear hfz105_1
                          try clear hfz106_0
                          try clear hfz106_1
                          try clear hfz108_0
                          try clear hfz108_1
                          try clear hfz110_0
                          try clear hfz110_1
                          try clear hfz111_0
                          try clear hfz111_1
                          try clear hfz120_0
                          try clear hfz120_1
                          try clear hfz121_0
                          try clear hfz121_1
                          try clear hfz123_0
                          try clear hfz123_1
                          try clear hfz127_0
                          try clear hfz127_1
                          try clear hfz130_0
                          try clear hfz130_1
                          try clear hfz138_0
                          try clear hfz138_1
                          try clear hfz139_0
                          try clear hfz139_1
                          try clear hfz141_0
                          try clear hfz141_1
                          try clear hfz143_0
                          try clear hfz143_1
                          try clear hfz144_0
                          try clear hfz144_1
                          try clear hfz153_0
                          try clear hfz153_1
                          try clear hfz154_0
                          try clear hfz154_1
                          try clear hfz156_0
                          try clear hfz156_1
                          try clear hfz165_0
                          try clear hfz165_1
                          try clear hfz168_0
                          try clear hfz168_1
                          try clear hfz176_0
                          try clear hfz176_1
                          try clear hfz177_0
                          try clear hfz177_1
                          try clear hfz178_0
                          try clear hfz178_1
                          try clear hfz187_0
                          try clear hfz187_1
                          try clear hfz198_0
                          try clear hfz198_1
                          try clear hfz203_0
                          try clear hfz203_1
                          try clear hfz215_0
                          try clear hfz215_1
                          try clear hfz220_0
                          try clear hfz220_1
                          try clear hfz236_0
                          try clear hfz236_1
                          try clear hfz241_0
                          try clear hfz241_1
                          try clear hfz94_0
                          try clear hfz94_1
                          try clear hfz97_0
                          try clear hfz97_1
                          try clear hx353_0
                          try clear hx371_0
                          try clear hx394_0
                          try clear hx396_0
                          try clear p2
                          try clear p3
                          try clear p35
                          try clear p353
                          try clear p37
                          try clear p371
                          try clear p39
                          try clear p394
                          try clear p396
                          try clear p6
                          try clear p64
                          try clear q3
                          try clear q35
                          try clear q353
                          try clear q37
                          try clear q371
                          try clear q39
                          try clear q394
                          try clear q396
                          obtain ⟨x46_10,x311_10,rfl,rfl,HA,HK10,HO_379000,HO_385000,BK331,BK332,BK333,BK334,BK378,BK384,HB⟩:=hrel;cases gk with
                          | zero=>exact absurd HA.out (by simp[laws_FnCouplesCalmOfAll.l3])
                          | succ k10 =>
                           have H:=HA.out;clear HA;simp only[laws_FnCouplesCalmOfAll.l3] at H;by_cases c249:x311_10 < (l6.length:Int)
                           ·
                            rw[if_pos c249] at H;have c249b0:decide (x311_10 < (l6.length:Int))=true:=dt' c249;clear c249;by_cases c250:0≤x311_10
                            ·
                             rw[if_pos c250] at H;have c250b0:decide (0≤x311_10)=true:=dt' c250;clear c250;by_cases c251:x311_10 < (l6.length:Int)
                             ·
                              rw[if_pos c251] at H;have c251b0:decide (x311_10 < (l6.length:Int))=true:=dt' c251;clear c251;by_cases c252:x46_10=true
                              ·
                               subst c252;have H1:(laws_FnCouplesCalmOfAll.l3 k10 l6 t385 ((Int.tmod (rd l6 x311_10) 2) == 1) l6 (l6.length:Int) x296_9 l6 (l6.length:Int) (wrap64 (x311_10+1)))=some r:=by rw[if_pos rfl] at H;exact H
                               clear H;have H:=H1;clear H1;have H':=am' H;clear H;have p398:0≤(x311_10:Int):=od' xa';have q398:x311_10 < (l6.length:Int):=od' xa';obtain ⟨ad398,e398,hx398_0⟩:=Kd.at_int HR6.out x311_10 p398 q398;obtain rfl:ad396=ad398:=(by injection e398)
                               replace hx398_0:=(HB.out.cell (bl' w _ hx398_0)).trans hx398_0;replace p398:=eq_true p398;replace q398:=eq_true q398;go_wp2;go_roundg k10
                               case measure=>have:=HJ7.out;have:=HJ13.out;have:=HJ19.out;have:=HJ62.out;have:=HJ64.out;have:=HJ160.out;have:=HJ204.out;have:=HJ206.out;have:=HK9.out;have:=HK10.out;omega
                               case rel=>exact ⟨(((Int.tmod (rd l6 x311_10) 2) == 1)),(wrap64 (x311_10+1)),xs',xs',H',⟨by have:=HJ7.out;have:=HJ13.out;have:=HJ19.out;have:=HJ62.out;have:=HJ64.out;have:=HJ160.out;have:=HJ204.out;have:=HJ206.out;have:=HK9.out;have:=HK10.out;omega⟩,⟨kr' HO_379000.out⟩,⟨kr' HO_385000.out⟩,⟨kk' BK331.out⟩,⟨kk' BK332.out⟩,⟨kk' BK333.out⟩,⟨kk' BK334.out⟩,⟨kk' BK378.out⟩,⟨kk' BK384.out⟩,⟨y6' GE331.out GE332.out GE333.out GE334.out GE378.out GE384.out⟩⟩
                              ·
                               replace c252:=Bool.eq_false_iff.mpr c252;subst c252;have H1:(laws_FnCouplesCalmOfAll.l3 k10 l6 t385 false l6 (l6.length:Int) x296_9 l6 (l6.length:Int) (wrap64 (x311_10+1)))=some r:=by rw[if_neg (show ¬ (false=true) by decide)] at H;exact H
                               clear H;have H:=H1;clear H1;have H':=am' H;clear H;have p398:0≤(x311_10:Int):=od' xa';have q398:x311_10 < (l6.length:Int):=od' xa';obtain ⟨ad398,e398,hx398_0⟩:=Kd.at_int HR6.out x311_10 p398 q398;obtain rfl:ad396=ad398:=(by injection e398)
                               replace hx398_0:=(HB.out.cell (bl' w _ hx398_0)).trans hx398_0;replace p398:=eq_true p398;replace q398:=eq_true q398;go_wp2;go_roundg k10
                               case measure=>have:=HJ7.out;have:=HJ13.out;have:=HJ19.out;have:=HJ62.out;have:=HJ64.out;have:=HJ160.out;have:=HJ204.out;have:=HJ206.out;have:=HK9.out;have:=HK10.out;omega
                               case rel=>exact ⟨(false),(wrap64 (x311_10+1)),xs',xs',H',⟨by have:=HJ7.out;have:=HJ13.out;have:=HJ19.out;have:=HJ62.out;have:=HJ64.out;have:=HJ160.out;have:=HJ204.out;have:=HJ206.out;have:=HK9.out;have:=HK10.out;omega⟩,⟨kr' HO_379000.out⟩,⟨kr' HO_385000.out⟩,⟨kk' BK331.out⟩,⟨kk' BK332.out⟩,⟨kk' BK333.out⟩,⟨kk' BK334.out⟩,⟨kk' BK378.out⟩,⟨kk' BK384.out⟩,⟨y6' GE331.out GE332.out GE333.out GE334.out GE378.out GE384.out⟩⟩
                             ·
                              rw[if_neg c251] at H;exact absurd H (by simp)
                            ·
                             rw[if_neg c250] at H;exact absurd H (by simp)
                           ·
                            rw[if_neg c249] at H;have c249b0:decide (x311_10 < (l6.length:Int))=false:=df' c249;clear c249;have H':=am' H;clear H;go_wp2;go_roundg k10
                            case measure=>have:=HJ7.out;have:=HJ13.out;have:=HJ19.out;have:=HJ62.out;have:=HJ64.out;have:=HJ160.out;have:=HJ204.out;have:=HJ206.out;have:=HK9.out;have:=HK10.out;omega
                            case rel=>exact ⟨(x46_10),(wrap64 (x296_9+1)),xs',xs',H',⟨by have:=HJ7.out;have:=HJ13.out;have:=HJ19.out;have:=HJ62.out;have:=HJ64.out;have:=HJ160.out;have:=HJ204.out;have:=HJ206.out;have:=HK9.out;have:=HK10.out;omega⟩,⟨kr' HO_379000.out⟩,⟨kr' HO_385000.out⟩,⟨kk' BK331.out⟩,⟨kk' BK332.out⟩,⟨kk' BK333.out⟩,⟨kk' BK334.out⟩,⟨kk' BK378.out⟩,⟨kk' BK384.out⟩,⟨y6' GE331.out GE332.out GE333.out GE334.out GE378.out GE384.out⟩⟩
                      ·
                       rw[if_neg c245] at H;exact absurd H (by simp)
                     ·
                      rw[if_neg c244] at H;exact absurd H (by simp)
                    ·
                     rw[if_neg c243] at H;have c243b0:decide (x296_9 < (l6.length:Int))=false:=df' c243;clear c243;obtain rfl:=os' H;go_wp2;go_ret
                     exact ⟨by first|rfl|(simp[errW_none,errW_some] <;> rfl)|(simp[*,errW_none,errW_some] <;> rfl),y6' GE331.out GE332.out GE333.out GE334.out GE378.out GE384.out⟩
                 ·
                  replace c242:=Bool.eq_false_iff.mpr c242;subst c242;have H1:(some true)=some r:=by rw[if_neg (show ¬ (false=true) by decide)] at H;exact H
                  clear H;have H:=H1;clear H1;obtain rfl:=os' H;go_wp2;go_ret
                  exact ⟨by first|rfl|(simp[errW_none,errW_some] <;> rfl)|(simp[*,errW_none,errW_some] <;> rfl),y6' GE331.out GE332.out GE333.out GE334.out GE378.out GE384.out⟩
end Go.Proofs.Ytabhhkiipilghaa.C2
