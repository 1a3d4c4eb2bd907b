import Derived.Test.YtabhhkiipilghaaC2zx0
import Derived.Test.YtabhhkiipilghaaC2zx5
import Derived.Test.YtabhhkiipilghaaC2zAl
namespace Go.Proofs.Ytabhhkiipilghaa.C2
open Go.RowKit Go.Proofs.YtabhhkiipilghaaW.PrintWords Go.Proofs.YtabhhkiipilghaaW.PrintLast Go.Proofs.YtabhhkiipilghaaW.PrintMore Go.Proofs.Ytabhhkiipilghaa.H
attribute [local go_sem] max2_int min2_int max_two min_two max_three min_three max_four min_four
set_option linter.unusedVariables false
set_option linter.unusedSimpArgs false
def spec_cuCan.j0:Nat→Int→Int→Int→Int→Int→Option (Bool)
 | 0,_,_,_,_,_=>none
 | k+1,x1,x2,x7,x173000,x173001=>if x2=0 then (some false) else (if (Go.bits .and .i64 x2 x7)=x2 then ((spec_cuList.f k x2).bind fun t174=>(if (t174.length:Int) > x173001 then (some false) else ((spec_cuCalm.f k x173000 x2).bind fun t177=>(if t177=true then ((spec_cuQuiet.f k x173000 x173001 (Go.bits .xor .i64 x1 (wrap64 ((wrap64 (2 * x2))+1)))).bind fun t178=>(some t178)) else (some false))))) else (some false))
def spec_cuCan.f (k:Nat) (a0_0:Int) (a0_1:Int) (a1:Int) (a2:Int):Option (Bool):=if (Int.tmod a1 2)=0 then ((spec_cuSize.f a0_0 a0_1).bind fun t173=>(spec_cuCan.j0 k a1 a2 (wrap64 ((wrap64 (t173 - 1)) - (wrap64 (Int.tdiv a1 2)))) a0_0 a0_1)) else (spec_cuCan.j0 k a1 a2 (wrap64 (Int.tdiv a1 2)) a0_0 a0_1)
theorem spec_cuCan.mono_l:∀ k,(∀ y0 y1 y2 y3 y4,LeO (spec_cuCan.j0 k y0 y1 y2 y3 y4) (spec_cuCan.j0 (k+1) y0 y1 y2 y3 y4))
 | 0=>fun _ _ _ _ _ r h=>by simp[spec_cuCan.j0] at h
 | k+1=>by
  have ih0:=spec_cuCan.mono_l k
  ·
   intro y0 y1 y2 y3 y4;unfold spec_cuCan.j0
   repeat' first
   | (with_reducible exact ih0 _ _ _ _ _)
   | (with_reducible exact spec_cuCalm.mono _ _ _)
   | (with_reducible exact spec_cuList.mono _ _)
   | (with_reducible exact spec_cuQuiet.mono _ _ _ _)
   | (with_reducible exact LeO.refl _)
   | (with_reducible exact LeO.none _)
   | (with_reducible refine LeO.ite ?_ ?_)
   | (with_reducible refine LeO.bind ?_ (fun _=>?_))
   | exact ih0 _ _ _ _ _
   | exact spec_cuCalm.mono _ _ _
   | exact spec_cuList.mono _ _
   | exact spec_cuQuiet.mono _ _ _ _
   | exact LeO.none _
   | refine LeO.ite ?_ ?_
   | refine LeO.bind ?_ (fun _=>?_)
theorem spec_cuCan.mono:∀ a0 a1 a2 a3 k,LeO (spec_cuCan.f k a0 a1 a2 a3) (spec_cuCan.f (k+1) a0 a1 a2 a3):=by
 intro a0 a1 a2 a3 k;have ih0:=spec_cuCan.mono_l k
 unfold spec_cuCan.f
 repeat' first
   | (with_reducible exact ih0 _ _ _ _ _)
   | (with_reducible exact spec_cuCalm.mono _ _ _)
   | (with_reducible exact spec_cuList.mono _ _)
   | (with_reducible exact spec_cuQuiet.mono _ _ _ _)
   | (with_reducible exact LeO.refl _)
   | (with_reducible exact LeO.none _)
   | (with_reducible refine LeO.ite ?_ ?_)
   | (with_reducible refine LeO.bind ?_ (fun _=>?_))
   | exact ih0 _ _ _ _ _
   | exact spec_cuCalm.mono _ _ _
   | exact spec_cuList.mono _ _
   | exact spec_cuQuiet.mono _ _ _ _
   | exact LeO.none _
   | refine LeO.ite ?_ ?_
   | refine LeO.bind ?_ (fun _=>?_)
def spec_cuCan.T4:Bool × List (List Nat × List Nat):=(true,[([],[]),([0],[0]),([1],[1]),([2],[2]),([2],[2]),([3,4,2],[2,3,4]),([2],[2]),([5,6,2],[2,5,6]),([2,7],[2,7]),([8,2],[8]),([9],[9]),([10,9,9],[9,10]),([11,9],[9,11]),([9],[9]),([13,9],[9,13]),([12,14,9],[9,12,14]),([9,15],[9,15]),([16,11],[16]),([17],[17]),([18,17],[17,18]),([17],[17]),([19,20,17,17],[17,19,20]),([21,17],[17,21]),([17,22],[17,22])])
def spec_cuCan.B4:List Nat:=[0,1,3,7,7,31,7,127,255,511,1023,2047,4095,1023,9215,32767,65535,131071,262143,524287,262143,2097151,4194303,8388607]
theorem spec_cuCan.tab4:rtab .any (opsOf Try.f70 4)=spec_cuCan.T4:=by kernel_rfl
theorem spec_cuCan.bits4:waitsOk spec_cuCan.T4.2 spec_cuCan.B4=true:=by kernel_rfl
set_option maxHeartbeats 8000000 in
set_option maxRecDepth 100000 in
theorem spec_cuCan.calls (k:Nat) (a0_0:Int) (a0_1:Int) (a1:Int) (a2:Int) (r:Bool) (w:World) (h:spec_cuCan.f k a0_0 a0_1 a1 a2=some r) :
  Calls Try.prog 70 #[.agg #[.int .i64 a0_0, .int .i64 a0_1], .int .i64 a1, .int .i64 a2] w fun e w'=>e = .returned (.bool r)∧Below w.heap.size w w':=by
 have hu32:=Try.underlying32
 have HB:=am' (Below.refl w.heap.size w)
 have H:(if (Int.tmod a1 2)=0 then ((spec_cuSize.f a0_0 a0_1).bind fun t173=>(spec_cuCan.j0 k a1 a2 (wrap64 ((wrap64 (t173 - 1)) - (wrap64 (Int.tdiv a1 2)))) a0_0 a0_1)) else (spec_cuCan.j0 k a1 a2 (wrap64 (Int.tdiv a1 2)) a0_0 a0_1))=some r:=h
 clear h;have HC4:=am' H
 clear H;go_enter Try.func70,Try.ntmps70
 go_upto_if 12 with (first|((with_reducible refine gate_dst (N:=3) rfl ?_);(try (refine gate_guard (by rfl) ?_;dsimp only));refine box_event ?hg (N:=3) ?hd (cs:=#[.int .i64 a0_0, .int .i64 a0_1]) (t:=32) ?hr ?_;(case hd=>rfl);(case hg=>rfl);(case hr=>first|(go_simp;done)|(go_simp;rfl));intro gb172 hg w5 hbox hb;have n0_:=am' (bt' xb' hb);have n1_:=am' (hbox);have n2_:=am' ((by rw[hg];exact (bz' xb'):w.heap.size≤gb172));have n3_:=am' ((by rw[hg];exact (bz' xb'):w.heap.size≤gb172));clear HB;have HB:=n0_;have BK172:=n1_;have GW172:=n2_;have GE172:=n3_;clear n0_ n1_ n2_ n3_;clear hb hbox hg))
 (try simp only[Act.put,sa',sb',sc'])
 go_cut [7] (fun v7 wc=>∃ (kq:Nat) (x7_3:Int),v7 = .int .i64 x7_3∧Aside0 (spec_cuCan.j0 kq a1 a2 x7_3 a0_0 a0_1=some r)∧Aside0 (kq≤k)∧Aside0 (wc.heap[gb172]? = some (.cells #[.int .i64 a0_0, .int .i64 a0_1] 32 (0,0)))∧Aside0 (Below w.heap.size w wc))
 case first =>
  have H:=HC4.out;clear HC4;by_cases c6:(Int.tmod a1 2)=0
  ·
   rw[if_pos c6] at H;have c6b0:((Int.tmod a1 2) == 0)=true:=beq_iff_eq.mpr c6;have c6b1:((Int.tmod a1 2) != 0)=false:=bne_eq_false_iff_eq.mpr c6;clear c6;(first|rw[c6b0]|(simp only[i64_w,i32_w];rw[c6b0])|skip)
   replace H:=Option.bind_eq_some_iff.mp H;obtain ⟨t173,A70,H⟩:=H;replace H:(spec_cuCan.j0 k a1 a2 (wrap64 ((wrap64 (t173 - 1)) - (wrap64 (Int.tdiv a1 2)))) a0_0 a0_1)=some r:=H;have A7:=am' A70;clear A70;have H':=am' H;clear H;have hcz8_0:w5.cell? ⟨gb172,0,none⟩=some (.int .i64 a0_0):=(bc' BK172.out 0).trans rfl;have hcz8_1:w5.cell? ⟨gb172,1,none⟩=some (.int .i64 a0_1):=(bc' BK172.out 1).trans rfl;have hfz8_0:=bf' BK172.out 0;have hfz8_1:=bf' BK172.out 1;go_wp2_with (first|((with_reducible refine gate_callee (f:=69) rfl ?_);refine goesL_ (some 14) rfl rfl Try.func69 xk' rfl #[.agg #[.int .i64 a0_0, .int .i64 a0_1]] rfl xl' ?_;(with_reducible refine (spec_cuSize.calls a0_0 a0_1 t173 _ A7.out).mono ?_);rintro e w9 ⟨rfl,hb⟩;refine ⟨_,rfl,?_⟩;have n0_:=am' (bb' (g:=gb172) (o := .cells #[.int .i64 a0_0, .int .i64 a0_1] 32 (0,0)) (kk' BK172.out) hb);have n1_:=am' (bt' (yb' GE172.out) hb);clear BK172;clear HB;have BK172:=n0_;have HB:=n1_;clear n0_ n1_;(try clear hb);(try clear hb2);(try clear hk);(try clear hi)));go_meet
   case rel=>exact ⟨_,(wrap64 ((wrap64 (t173 - 1)) - (wrap64 (Int.tdiv a1 2)))),xs',H',⟨by first|omega|exact Nat.le_refl _⟩,⟨kk' BK172.out⟩,⟨yb' GE172.out⟩⟩
  ·
   rw[if_neg c6] at H;have c6b0:((Int.tmod a1 2) == 0)=false:=beq_eq_false_iff_ne.mpr c6;have c6b1:((Int.tmod a1 2) != 0)=true:=bne_iff_ne.mpr c6
   (first|rw[c6b0]|(simp only[i64_w,i32_w];rw[c6b0])|skip)
   have H':=am' H;clear H;go_wp2;go_meet
   case rel=>exact ⟨_,(wrap64 (Int.tdiv a1 2)),xs',H',⟨by first|omega|exact Nat.le_refl _⟩,⟨kk' BK172.out⟩,⟨yb' GE172.out⟩⟩
 case rest =>
  clear HC4;try clear p2
  try clear c6
  try clear c6b0
  try clear c6b1
  try clear p6
  try clear c7
  try clear hcz8_0
  try clear hcz8_1
  try clear hfz8_0
  try clear hfz8_1
  obtain ⟨kq,x7_3,rfl,HA,HJ3,BK172,HB⟩:=hcut;cases kq with
  | zero=>exact absurd HA.out (by simp[spec_cuCan.j0])
  | succ kj3 =>
   have H:=HA.out;clear HA;simp only[spec_cuCan.j0] at H;by_cases c10:a2=0
   ·
    rw[if_pos c10] at H;have c10b0:(a2 == 0)=true:=beq_iff_eq.mpr c10;have c10b1:(a2 != 0)=false:=bne_eq_false_iff_eq.mpr c10;clear c10;obtain rfl:=os' H
    try go_wp2
    have n0_:=am' (kd' BK172.out);have n1_:=am' (be' HB.out);clear BK172;clear HB;have BK172:=n0_;have HB:=n1_;clear n0_ n1_;refine start_ (n:=24) (S:=fun w'=>True) (ds:=[]) #[false,false,false,false,false,false,false,false,false,false,false,false,false,false,false,false,false,false,false,false,false,false,false,false] xk' rfl rfl trivial (fun hHeld=>?_);refine with_tabW spec_cuCan.tab4 spec_cuCan.bits4 (fun HT_ HW_=>?_);generalize wc.drew=w11 at BK172 HB hHeld ⊢
    refine pure_ (i:=0) (N:=some 18) (v:=?_) (a':=?_) #[true,false,false,false,false,false,false,false,false,false,false,false,false,false,false,false,false,false,false,false,false,false,false,false] rfl rfl (any_of HT_.out xk') (fun _ _ _ h=>h) (Or.inl ⟨by rfl,?_⟩) ?_ ?_
    rotate_left
    ·
     intro w';go_simp;with_reducible rfl
    rotate_left
    ·
     simp only[Act.put,sa',sb',sc',i64_w,i32_w];rfl
    refine pure_ (i:=1) (N:=some 19) (v:=?_) (a':=?_) #[true,true,false,false,false,false,false,false,false,false,false,false,false,false,false,false,false,false,false,false,false,false,false,false] rfl rfl (any_of HT_.out xk') (fun _ _ _ h=>h) (Or.inl ⟨by rfl,?_⟩) ?_ ?_
    rotate_left
    ·
     intro w';go_simp;with_reducible rfl
    rotate_left
    ·
     simp only[Act.put,sa',sb',sc',i64_w,i32_w];rfl
    refine pure_ (i:=2) (N:=some 20) (v:=?_) (a':=?_) #[true,true,true,false,false,false,false,false,false,false,false,false,false,false,false,false,false,false,false,false,false,false,false,false] rfl rfl (any_of HT_.out xk') (fun _ _ _ h=>h) (Or.inl ⟨by rfl,?_⟩) ?_ ?_
    rotate_left
    ·
     intro w';go_simp;with_reducible rfl
    rotate_left
    ·
     simp only[Act.put,sa',sb',sc',i64_w,i32_w];rfl
    refine pure_ (i:=3) (N:=some 21) (v:=undef) (a':=?_) #[true,true,true,true,false,false,false,false,false,false,false,false,false,false,false,false,false,false,false,false,false,false,false,false] rfl rfl (any_of HT_.out xk') (fun _ _ _ h=>h) (Or.inr ⟨by rfl,rfl⟩) ?_ ?_
    rotate_left
    ·
     simp only[Act.put,sa',sb',sc',i64_w,i32_w];rfl
    refine pure_ (i:=4) (N:=some 22) (v:=undef) (a':=?_) #[true,true,true,true,true,false,false,false,false,false,false,false,false,false,false,false,false,false,false,false,false,false,false,false] rfl rfl (any_of HT_.out xk') (fun _ _ _ h=>h) (Or.inr ⟨by rfl,rfl⟩) ?_ ?_
    rotate_left
    ·
     simp only[Act.put,sa',sb',sc',i64_w,i32_w];rfl
    refine pure_ (i:=5) (N:=some 23) (v:=undef) (a':=?_) #[true,true,true,true,true,true,false,false,false,false,false,false,false,false,false,false,false,false,false,false,false,false,false,false] rfl rfl (any_of HT_.out xk') (fun _ _ _ h=>h) (Or.inr ⟨by rfl,rfl⟩) ?_ ?_
    rotate_left
    ·
     simp only[Act.put,sa',sb',sc',i64_w,i32_w];rfl
    refine pure_ (i:=6) (N:=some 24) (v:=undef) (a':=?_) #[true,true,true,true,true,true,true,false,false,false,false,false,false,false,false,false,false,false,false,false,false,false,false,false] rfl rfl (any_of HT_.out xk') (fun _ _ _ h=>h) (Or.inr ⟨by rfl,rfl⟩) ?_ ?_
    rotate_left
    ·
     simp only[Act.put,sa',sb',sc',i64_w,i32_w];rfl
    refine pure_ (i:=7) (N:=some 25) (v:=undef) (a':=?_) #[true,true,true,true,true,true,true,true,false,false,false,false,false,false,false,false,false,false,false,false,false,false,false,false] rfl rfl (any_of HT_.out xk') (fun _ _ _ h=>h) (Or.inr ⟨by rfl,rfl⟩) ?_ ?_
    rotate_left
    ·
     simp only[Act.put,sa',sb',sc',i64_w,i32_w];rfl
    refine pure_ (i:=8) (N:=some 26) (v:=?_) (a':=?_) #[true,true,true,true,true,true,true,true,true,false,false,false,false,false,false,false,false,false,false,false,false,false,false,false] rfl rfl (any_of HT_.out xk') (fun _ _ _ h=>h) (Or.inl ⟨by rfl,?_⟩) ?_ ?_
    rotate_left
    ·
     intro w';go_simp;with_reducible rfl
    rotate_left
    ·
     simp only[Act.put,sa',sb',sc',i64_w,i32_w];rfl
    refine pure_ (i:=9) (N:=some 27) (v:=?_) (a':=?_) #[true,true,true,true,true,true,true,true,true,true,false,false,false,false,false,false,false,false,false,false,false,false,false,false] rfl rfl (any_of HT_.out xk') (fun _ _ _ h=>h) (Or.inl ⟨by rfl,?_⟩) ?_ ?_
    rotate_left
    ·
     intro w';go_simp;with_reducible rfl
    rotate_left
    ·
     simp only[Act.put,sa',sb',sc',i64_w,i32_w];rfl
    refine pure_ (i:=10) (N:=some 28) (v:=undef) (a':=?_) #[true,true,true,true,true,true,true,true,true,true,true,false,false,false,false,false,false,false,false,false,false,false,false,false] rfl rfl (any_of HT_.out xk') (fun _ _ _ h=>h) (Or.inr ⟨by rfl,rfl⟩) ?_ ?_
    rotate_left
    ·
     simp only[Act.put,sa',sb',sc',i64_w,i32_w];rfl
    refine pure_ (i:=11) (N:=some 29) (v:=undef) (a':=?_) #[true,true,true,true,true,true,true,true,true,true,true,true,false,false,false,false,false,false,false,false,false,false,false,false] rfl rfl (any_of HT_.out xk') (fun _ _ _ h=>h) (Or.inr ⟨by rfl,rfl⟩) ?_ ?_
    rotate_left
    ·
     simp only[Act.put,sa',sb',sc',i64_w,i32_w];rfl
    refine pure_ (i:=12) (N:=some 30) (v:=undef) (a':=?_) #[true,true,true,true,true,true,true,true,true,true,true,true,true,false,false,false,false,false,false,false,false,false,false,false] rfl rfl (any_of HT_.out xk') (fun _ _ _ h=>h) (Or.inr ⟨by rfl,rfl⟩) ?_ ?_
    rotate_left
    ·
     simp only[Act.put,sa',sb',sc',i64_w,i32_w];rfl
    refine pure_ (i:=13) (N:=some 31) (v:=undef) (a':=?_) #[true,true,true,true,true,true,true,true,true,true,true,true,true,true,false,false,false,false,false,false,false,false,false,false] rfl rfl (any_of HT_.out xk') (fun _ _ _ h=>h) (Or.inr ⟨by rfl,rfl⟩) ?_ ?_
    rotate_left
    ·
     simp only[Act.put,sa',sb',sc',i64_w,i32_w];rfl
    refine pure_ (i:=14) (N:=some 32) (v:=undef) (a':=?_) #[true,true,true,true,true,true,true,true,true,true,true,true,true,true,true,false,false,false,false,false,false,false,false,false] rfl rfl (any_of HT_.out xk') (fun _ _ _ h=>h) (Or.inr ⟨by rfl,rfl⟩) ?_ ?_
    rotate_left
    ·
     simp only[Act.put,sa',sb',sc',i64_w,i32_w];rfl
    refine pure_ (i:=15) (N:=some 33) (v:=undef) (a':=?_) #[true,true,true,true,true,true,true,true,true,true,true,true,true,true,true,true,false,false,false,false,false,false,false,false] rfl rfl (any_of HT_.out xk') (fun _ _ _ h=>h) (Or.inr ⟨by rfl,rfl⟩) ?_ ?_
    rotate_left
    ·
     simp only[Act.put,sa',sb',sc',i64_w,i32_w];rfl
    refine pure_ (i:=16) (N:=some 34) (v:=?_) (a':=?_) #[true,true,true,true,true,true,true,true,true,true,true,true,true,true,true,true,true,false,false,false,false,false,false,false] rfl rfl (any_of HT_.out xk') (fun _ _ _ h=>h) (Or.inl ⟨by rfl,?_⟩) ?_ ?_
    rotate_left
    ·
     intro w';go_simp;with_reducible rfl
    rotate_left
    ·
     simp only[Act.put,sa',sb',sc',i64_w,i32_w];rfl
    refine pure_ (i:=17) (N:=some 35) (v:=?_) (a':=?_) #[true,true,true,true,true,true,true,true,true,true,true,true,true,true,true,true,true,true,false,false,false,false,false,false] rfl rfl (any_of HT_.out xk') (fun _ _ _ h=>h) (Or.inl ⟨by rfl,?_⟩) ?_ ?_
    rotate_left
    ·
     intro w';go_simp;with_reducible rfl
    rotate_left
    ·
     simp only[Act.put,sa',sb',sc',i64_w,i32_w];rfl
    refine pure_ (i:=18) (N:=some 36) (v:=undef) (a':=?_) #[true,true,true,true,true,true,true,true,true,true,true,true,true,true,true,true,true,true,true,false,false,false,false,false] rfl rfl (any_of HT_.out xk') (fun _ _ _ h=>h) (Or.inr ⟨by rfl,rfl⟩) ?_ ?_
    rotate_left
    ·
     simp only[Act.put,sa',sb',sc',i64_w,i32_w];rfl
    refine pure_ (i:=19) (N:=some 37) (v:=undef) (a':=?_) #[true,true,true,true,true,true,true,true,true,true,true,true,true,true,true,true,true,true,true,true,false,false,false,false] rfl rfl (any_of HT_.out xk') (fun _ _ _ h=>h) (Or.inr ⟨by rfl,rfl⟩) ?_ ?_
    rotate_left
    ·
     simp only[Act.put,sa',sb',sc',i64_w,i32_w];rfl
    refine pure_ (i:=20) (N:=some 38) (v:=undef) (a':=?_) #[true,true,true,true,true,true,true,true,true,true,true,true,true,true,true,true,true,true,true,true,true,false,false,false] rfl rfl (any_of HT_.out xk') (fun _ _ _ h=>h) (Or.inr ⟨by rfl,rfl⟩) ?_ ?_
    rotate_left
    ·
     simp only[Act.put,sa',sb',sc',i64_w,i32_w];rfl
    refine pure_ (i:=21) (N:=some 39) (v:=undef) (a':=?_) #[true,true,true,true,true,true,true,true,true,true,true,true,true,true,true,true,true,true,true,true,true,true,false,false] rfl rfl (any_of HT_.out xk') (fun _ _ _ h=>h) (Or.inr ⟨by rfl,rfl⟩) ?_ ?_
    rotate_left
    ·
     simp only[Act.put,sa',sb',sc',i64_w,i32_w];rfl
    refine pure_ (i:=22) (N:=some 40) (v:=undef) (a':=?_) #[true,true,true,true,true,true,true,true,true,true,true,true,true,true,true,true,true,true,true,true,true,true,true,false] rfl rfl (any_of HT_.out xk') (fun _ _ _ h=>h) (Or.inr ⟨by rfl,rfl⟩) ?_ ?_
    rotate_left
    ·
     simp only[Act.put,sa',sb',sc',i64_w,i32_w];rfl
    refine pure_ (i:=23) (N:=some 41) (v:=?_) (a':=?_) #[true,true,true,true,true,true,true,true,true,true,true,true,true,true,true,true,true,true,true,true,true,true,true,true] rfl rfl (any_of HT_.out xk') (fun _ _ _ h=>h) (Or.inl ⟨by rfl,?_⟩) ?_ ?_
    rotate_left
    ·
     intro w';go_simp;with_reducible rfl
    rotate_left
    ·
     simp only[Act.put,sa',sb',sc',i64_w,i32_w];rfl
    refine done_ (done_of HT_.out xk') ?_
    try go_wp2
    go_ret
    exact ⟨by first|rfl|(simp[errW_none,errW_some] <;> rfl)|(simp[*,errW_none,errW_some] <;> rfl),yb' GE172.out⟩
   ·
    rw[if_neg c10] at H;have c10b0:(a2 == 0)=false:=beq_eq_false_iff_ne.mpr c10;have c10b1:(a2 != 0)=true:=bne_iff_ne.mpr c10;by_cases c12:(Go.bits .and .i64 a2 x7_3)=a2
    ·
     rw[if_pos c12] at H;have c12b0:((Go.bits .and .i64 a2 x7_3) == a2)=true:=beq_iff_eq.mpr c12;have c12b1:((Go.bits .and .i64 a2 x7_3) != a2)=false:=bne_eq_false_iff_eq.mpr c12;clear c12;replace H:=Option.bind_eq_some_iff.mp H;obtain ⟨t174,A130,H⟩:=H;replace H:(if (t174.length:Int) > a0_1 then (some false) else ((spec_cuCalm.f kj3 a0_0 a2).bind fun t177=>(if t177=true then ((spec_cuQuiet.f kj3 a0_0 a0_1 (Go.bits .xor .i64 a1 (wrap64 ((wrap64 (2 * a2))+1)))).bind fun t178=>(some t178)) else (some false))))=some r:=H;have A13:=am' A130;clear A130;by_cases c14:(t174.length:Int) > a0_1
     ·
      rw[if_pos c14] at H;have c14b0:decide (a0_1 < (t174.length:Int))=true:=dt' c14;clear c14;obtain rfl:=os' H
      try go_wp2
      have n0_:=am' (kd' BK172.out);have n1_:=am' (be' HB.out);clear BK172;clear HB;have BK172:=n0_;have HB:=n1_;clear n0_ n1_;refine start_ (n:=24) (S:=fun w'=>w'.cell? ⟨gb172,0,none⟩=some (.int .i64 a0_0)∧w'.cell? ⟨gb172,1,none⟩=some (.int .i64 a0_1)) (ds:=[]) #[false,false,false,false,false,false,false,false,false,false,false,false,false,false,false,false,false,false,false,false,false,false,false,false] xk' rfl rfl ⟨(bc' BK172.out 0).trans rfl,(bc' BK172.out 1).trans rfl⟩ (fun hHeld=>?_);refine with_tabW spec_cuCan.tab4 spec_cuCan.bits4 (fun HT_ HW_=>?_);generalize wc.drew=w15 at BK172 HB hHeld ⊢
      refine pure_ (i:=0) (N:=some 18) (v:=?_) (a':=?_) #[true,false,false,false,false,false,false,false,false,false,false,false,false,false,false,false,false,false,false,false,false,false,false,false] rfl rfl (any_of HT_.out xk') (fun _ _ _ h=>h) (Or.inl ⟨by rfl,?_⟩) ?_ ?_
      rotate_left
      ·
       intro w';go_simp;with_reducible rfl
      rotate_left
      ·
       simp only[Act.put,sa',sb',sc',i64_w,i32_w];rfl
      refine pure_ (i:=1) (N:=some 19) (v:=?_) (a':=?_) #[true,true,false,false,false,false,false,false,false,false,false,false,false,false,false,false,false,false,false,false,false,false,false,false] rfl rfl (any_of HT_.out xk') (fun _ _ _ h=>h) (Or.inl ⟨by rfl,?_⟩) ?_ ?_
      rotate_left
      ·
       intro w';go_simp;with_reducible rfl
      rotate_left
      ·
       simp only[Act.put,sa',sb',sc',i64_w,i32_w];rfl
      refine pure_ (i:=2) (N:=some 20) (v:=?_) (a':=?_) #[true,true,true,false,false,false,false,false,false,false,false,false,false,false,false,false,false,false,false,false,false,false,false,false] rfl rfl (any_of HT_.out xk') (fun _ _ _ h=>h) (Or.inl ⟨by rfl,?_⟩) ?_ ?_
      rotate_left
      ·
       intro w';go_simp;with_reducible rfl
      rotate_left
      ·
       simp only[Act.put,sa',sb',sc',i64_w,i32_w];rfl
      refine pure_ (i:=3) (N:=some 21) (v:=?_) (a':=?_) #[true,true,true,true,false,false,false,false,false,false,false,false,false,false,false,false,false,false,false,false,false,false,false,false] rfl rfl (any_of HT_.out xk') (fun _ _ _ h=>h) (Or.inl ⟨by rfl,?_⟩) ?_ ?_
      rotate_left
      ·
       intro w';go_simp;with_reducible rfl
      rotate_left
      ·
       simp only[Act.put,sa',sb',sc',i64_w,i32_w];rfl
      refine pure_ (i:=4) (N:=some 22) (v:=?_) (a':=?_) #[true,true,true,true,true,false,false,false,false,false,false,false,false,false,false,false,false,false,false,false,false,false,false,false] rfl rfl (any_of HT_.out xk') (fun _ _ _ h=>h) (Or.inl ⟨by rfl,?_⟩) ?_ ?_
      rotate_left
      ·
       intro w';go_simp;with_reducible rfl
      rotate_left
      ·
       simp only[Act.put,sa',sb',sc',i64_w,i32_w];rfl
      refine pure_ (i:=5) (N:=some 23) (v:=?_) (a':=?_) #[true,true,true,true,true,true,false,false,false,false,false,false,false,false,false,false,false,false,false,false,false,false,false,false] rfl rfl (any_of HT_.out xk') (fun _ _ _ h=>h) (Or.inl ⟨by rfl,?_⟩) ?_ ?_
      rotate_left
      ·
       intro w';go_simp;with_reducible rfl
      rotate_left
      ·
       simp only[Act.put,sa',sb',sc',i64_w,i32_w];rfl
      refine pure_ (i:=6) (N:=some 24) (v:=?_) (a':=?_) #[true,true,true,true,true,true,true,false,false,false,false,false,false,false,false,false,false,false,false,false,false,false,false,false] rfl rfl (any_of HT_.out xk') (fun _ _ _ h=>h) (Or.inl ⟨by rfl,?_⟩) ?_ ?_
      rotate_left
      ·
       intro w';go_simp;with_reducible rfl
      rotate_left
      ·
       simp only[Act.put,sa',sb',sc',i64_w,i32_w];rfl
      refine pure_ (i:=7) (N:=some 25) (v:=?_) (a':=?_) #[true,true,true,true,true,true,true,true,false,false,false,false,false,false,false,false,false,false,false,false,false,false,false,false] rfl rfl (any_of HT_.out xk') (fun _ _ _ h=>h) (Or.inl ⟨by rfl,?_⟩) ?_ ?_
      rotate_left
      ·
       intro w';go_simp;with_reducible rfl
      rotate_left
      ·
       simp only[Act.put,sa',sb',sc',i64_w,i32_w];rfl
      refine pure_ (i:=8) (N:=some 26) (v:=?_) (a':=?_) #[true,true,true,true,true,true,true,true,true,false,false,false,false,false,false,false,false,false,false,false,false,false,false,false] rfl rfl (any_of HT_.out xk') (fun _ _ _ h=>h) (Or.inl ⟨by rfl,?_⟩) ?_ ?_
      rotate_left
      ·
       intro w';go_simp;with_reducible rfl
      rotate_left
      ·
       simp only[Act.put,sa',sb',sc',i64_w,i32_w];rfl
      refine pure_ (i:=9) (N:=some 27) (v:=?_) (a':=?_) #[true,true,true,true,true,true,true,true,true,true,false,false,false,false,false,false,false,false,false,false,false,false,false,false] rfl rfl (any_of HT_.out xk') (fun _ _ _ h=>h) (Or.inl ⟨by rfl,?_⟩) ?_ ?_
      rotate_left
      ·
       intro w';go_simp;with_reducible rfl
      rotate_left
      ·
       simp only[Act.put,sa',sb',sc',i64_w,i32_w];rfl
      refine pure_ (i:=10) (N:=some 28) (v:=?_) (a':=?_) #[true,true,true,true,true,true,true,true,true,true,true,false,false,false,false,false,false,false,false,false,false,false,false,false] rfl rfl (any_of HT_.out xk') (fun _ _ _ h=>h) (Or.inl ⟨by rfl,?_⟩) ?_ ?_
      rotate_left
      ·
       intro w';go_simp;with_reducible rfl
      rotate_left
      ·
       simp only[Act.put,sa',sb',sc',i64_w,i32_w];rfl
      refine pure_ (i:=13) (N:=some 31) (v:=?_) (a':=?_) #[true,true,true,true,true,true,true,true,true,true,true,false,false,true,false,false,false,false,false,false,false,false,false,false] rfl rfl (any_of HT_.out xk') (fun _ _ _ h=>h) (Or.inl ⟨by rfl,?_⟩) ?_ ?_
      rotate_left
      ·
       intro w';go_simp;with_reducible rfl
      rotate_left
      ·
       simp only[Act.put,sa',sb',sc',i64_w,i32_w];rfl
      refine take_ (i:=14) (N:=some 32) (v:=?_) (a':=?_) #[true,true,true,true,true,true,true,true,true,true,true,false,false,true,true,false,false,false,false,false,false,false,false,false] rfl rfl (take_ofW HT_.out HW_.out xk') (fun _ _ _ h=>h) (Or.inl ⟨by rfl,?_⟩) hHeld ?_ ?_
      rotate_left
      ·
       rintro w' ⟨s0,s1⟩
       go_simp;with_reducible rfl
      rotate_left
      ·
       simp only[Act.put,sa',sb',sc',i64_w,i32_w];rfl
      refine one_ (i:=11) (N:=some 29) #[true,true,true,true,true,true,true,true,true,true,true,true,false,true,true,false,false,false,false,false,false,false,false,false] rfl rfl (one_of HT_.out xk') (by decide) (fun K hK=>?_);refine goes_ Try.func46 xk' rfl #[.int .i64 a2] (by rfl) rfl rfl xl' ?_
      with_reducible refine (spec_cuList.calls kj3 a2 t174 _ A13.out).mono ?_
      rintro e w16 ⟨v175,rfl,ho0,hb⟩
      refine ⟨_,rfl,?_⟩;have n0_:=am' (Kd.R_lower ho0 (bz' (yb' GE172.out)));have n1_:=am' (bb' (g:=gb172) (o := .cells #[.int .i64 a0_0, .int .i64 a0_1] 32 (0,0)) (kk' BK172.out) hb);have n2_:=am' (bt' (yb' GE172.out) hb);clear BK172;clear HB;have HO176:=n0_;have BK172:=n1_;have HB:=n2_;clear n0_ n1_ n2_;(try clear hb)
      (try clear hb2)
      (try clear hk)
      (try clear hi)
      (try clear ho0)
      obtain ⟨Ao17,co17,eo17⟩:=Kd.R_slice HO176.out
      (first|subst eo17|(injection eo17 with f1_ f2_ f3_;have f4_:=f1_.symm;have f5_:=f3_.symm;clear f1_ f2_ f3_;subst f4_;subst f5_))
      refine hK.out _ _ ⟨(bc' BK172.out 0).trans rfl,(bc' BK172.out 1).trans rfl⟩ (fun hHeld=>?_);clear hK K;refine norm_ (a':=?_) ?_ ?_
      rotate_left
      ·
       show Act.put _ (some 29) _=_
       simp only[Act.put,sa',sb',sc',i64_w,i32_w];rfl
      refine pure_ (i:=12) (N:=some 30) (v:=?_) (a':=?_) #[true,true,true,true,true,true,true,true,true,true,true,true,true,true,true,false,false,false,false,false,false,false,false,false] rfl rfl (any_of HT_.out xk') (fun _ _ _ h=>h) (Or.inl ⟨by rfl,?_⟩) ?_ ?_
      rotate_left
      ·
       intro w';go_simp;with_reducible rfl
      rotate_left
      ·
       simp only[Act.put,sa',sb',sc',i64_w,i32_w];rfl
      refine pure_ (i:=15) (N:=some 33) (v:=?_) (a':=?_) #[true,true,true,true,true,true,true,true,true,true,true,true,true,true,true,true,false,false,false,false,false,false,false,false] rfl rfl (any_of HT_.out xk') (fun _ _ _ h=>h) (Or.inl ⟨by rfl,?_⟩) ?_ ?_
      rotate_left
      ·
       intro w';go_simp;with_reducible rfl
      rotate_left
      ·
       simp only[Act.put,sa',sb',sc',i64_w,i32_w];rfl
      refine pure_ (i:=16) (N:=some 34) (v:=?_) (a':=?_) #[true,true,true,true,true,true,true,true,true,true,true,true,true,true,true,true,true,false,false,false,false,false,false,false] rfl rfl (any_of HT_.out xk') (fun _ _ _ h=>h) (Or.inl ⟨by rfl,?_⟩) ?_ ?_
      rotate_left
      ·
       intro w';go_simp;with_reducible rfl
      rotate_left
      ·
       simp only[Act.put,sa',sb',sc',i64_w,i32_w];rfl
      refine pure_ (i:=17) (N:=some 35) (v:=?_) (a':=?_) #[true,true,true,true,true,true,true,true,true,true,true,true,true,true,true,true,true,true,false,false,false,false,false,false] rfl rfl (any_of HT_.out xk') (fun _ _ _ h=>h) (Or.inl ⟨by rfl,?_⟩) ?_ ?_
      rotate_left
      ·
       intro w';go_simp;with_reducible rfl
      rotate_left
      ·
       simp only[Act.put,sa',sb',sc',i64_w,i32_w];rfl
      refine pure_ (i:=18) (N:=some 36) (v:=undef) (a':=?_) #[true,true,true,true,true,true,true,true,true,true,true,true,true,true,true,true,true,true,true,false,false,false,false,false] rfl rfl (any_of HT_.out xk') (fun _ _ _ h=>h) (Or.inr ⟨by rfl,rfl⟩) ?_ ?_
      rotate_left
      ·
       simp only[Act.put,sa',sb',sc',i64_w,i32_w];rfl
      refine pure_ (i:=19) (N:=some 37) (v:=undef) (a':=?_) #[true,true,true,true,true,true,true,true,true,true,true,true,true,true,true,true,true,true,true,true,false,false,false,false] rfl rfl (any_of HT_.out xk') (fun _ _ _ h=>h) (Or.inr ⟨by rfl,rfl⟩) ?_ ?_
      rotate_left
      ·
       simp only[Act.put,sa',sb',sc',i64_w,i32_w];rfl
      refine pure_ (i:=20) (N:=some 38) (v:=undef) (a':=?_) #[true,true,true,true,true,true,true,true,true,true,true,true,true,true,true,true,true,true,true,true,true,false,false,false] rfl rfl (any_of HT_.out xk') (fun _ _ _ h=>h) (Or.inr ⟨by rfl,rfl⟩) ?_ ?_
      rotate_left
      ·
       simp only[Act.put,sa',sb',sc',i64_w,i32_w];rfl
      refine pure_ (i:=21) (N:=some 39) (v:=undef) (a':=?_) #[true,true,true,true,true,true,true,true,true,true,true,true,true,true,true,true,true,true,true,true,true,true,false,false] rfl rfl (any_of HT_.out xk') (fun _ _ _ h=>h) (Or.inr ⟨by rfl,rfl⟩) ?_ ?_
      rotate_left
      ·
       simp only[Act.put,sa',sb',sc',i64_w,i32_w];rfl
      refine pure_ (i:=22) (N:=some 40) (v:=undef) (a':=?_) #[true,true,true,true,true,true,true,true,true,true,true,true,true,true,true,true,true,true,true,true,true,true,true,false] rfl rfl (any_of HT_.out xk') (fun _ _ _ h=>h) (Or.inr ⟨by rfl,rfl⟩) ?_ ?_
      rotate_left
      ·
       simp only[Act.put,sa',sb',sc',i64_w,i32_w];rfl
      refine pure_ (i:=23) (N:=some 41) (v:=?_) (a':=?_) #[true,true,true,true,true,true,true,true,true,true,true,true,true,true,true,true,true,true,true,true,true,true,true,true] rfl rfl (any_of HT_.out xk') (fun _ _ _ h=>h) (Or.inl ⟨by rfl,?_⟩) ?_ ?_
      rotate_left
      ·
       intro w';go_simp;with_reducible rfl
      rotate_left
      ·
       simp only[Act.put,sa',sb',sc',i64_w,i32_w];rfl
      refine done_ (done_of HT_.out xk') ?_
      try go_wp2
      go_ret
      exact ⟨by first|rfl|(simp[errW_none,errW_some] <;> rfl)|(simp[*,errW_none,errW_some] <;> rfl),yb' GE172.out⟩
     ·
      rw[if_neg c14] at H;have c14b0:decide (a0_1 < (t174.length:Int))=false:=df' c14;clear c14;replace H:=Option.bind_eq_some_iff.mp H;obtain ⟨t177,A180,H⟩:=H;replace H:(if t177=true then ((spec_cuQuiet.f kj3 a0_0 a0_1 (Go.bits .xor .i64 a1 (wrap64 ((wrap64 (2 * a2))+1)))).bind fun t178=>(some t178)) else (some false))=some r:=H;have A18:=am' A180;clear A180;by_cases c19:t177=true
      ·
       subst c19;have H1:((spec_cuQuiet.f kj3 a0_0 a0_1 (Go.bits .xor .i64 a1 (wrap64 ((wrap64 (2 * a2))+1)))).bind fun t178=>(some t178))=some r:=by rw[if_pos rfl] at H;exact H
       clear H;have H:=H1;clear H1;replace H:=Option.bind_eq_some_iff.mp H;obtain ⟨t178,A200,H⟩:=H;replace H:(some t178)=some r:=H;have A20:=am' A200;clear A200;obtain rfl:=os' H
       try go_wp2
       have n0_:=am' (kd' BK172.out);have n1_:=am' (be' HB.out);clear BK172;clear HB;have BK172:=n0_;have HB:=n1_;clear n0_ n1_;refine start_ (n:=24) (S:=fun w'=>w'.cell? ⟨gb172,0,none⟩=some (.int .i64 a0_0)∧w'.cell? ⟨gb172,1,none⟩=some (.int .i64 a0_1)) (ds:=[]) #[false,false,false,false,false,false,false,false,false,false,false,false,false,false,false,false,false,false,false,false,false,false,false,false] xk' rfl rfl ⟨(bc' BK172.out 0).trans rfl,(bc' BK172.out 1).trans rfl⟩ (fun hHeld=>?_);refine with_tabW spec_cuCan.tab4 spec_cuCan.bits4 (fun HT_ HW_=>?_);generalize wc.drew=w21 at BK172 HB hHeld ⊢
       refine pure_ (i:=0) (N:=some 18) (v:=?_) (a':=?_) #[true,false,false,false,false,false,false,false,false,false,false,false,false,false,false,false,false,false,false,false,false,false,false,false] rfl rfl (any_of HT_.out xk') (fun _ _ _ h=>h) (Or.inl ⟨by rfl,?_⟩) ?_ ?_
       rotate_left
       ·
        intro w';go_simp;with_reducible rfl
       rotate_left
       ·
        simp only[Act.put,sa',sb',sc',i64_w,i32_w];rfl
       refine pure_ (i:=1) (N:=some 19) (v:=?_) (a':=?_) #[true,true,false,false,false,false,false,false,false,false,false,false,false,false,false,false,false,false,false,false,false,false,false,false] rfl rfl (any_of HT_.out xk') (fun _ _ _ h=>h) (Or.inl ⟨by rfl,?_⟩) ?_ ?_
       rotate_left
       ·
        intro w';go_simp;with_reducible rfl
       rotate_left
       ·
        simp only[Act.put,sa',sb',sc',i64_w,i32_w];rfl
       refine pure_ (i:=2) (N:=some 20) (v:=?_) (a':=?_) #[true,true,true,false,false,false,false,false,false,false,false,false,false,false,false,false,false,false,false,false,false,false,false,false] rfl rfl (any_of HT_.out xk') (fun _ _ _ h=>h) (Or.inl ⟨by rfl,?_⟩) ?_ ?_
       rotate_left
       ·
        intro w';go_simp;with_reducible rfl
       rotate_left
       ·
        simp only[Act.put,sa',sb',sc',i64_w,i32_w];rfl
       refine pure_ (i:=3) (N:=some 21) (v:=?_) (a':=?_) #[true,true,true,true,false,false,false,false,false,false,false,false,false,false,false,false,false,false,false,false,false,false,false,false] rfl rfl (any_of HT_.out xk') (fun _ _ _ h=>h) (Or.inl ⟨by rfl,?_⟩) ?_ ?_
       rotate_left
       ·
        intro w';go_simp;with_reducible rfl
       rotate_left
       ·
        simp only[Act.put,sa',sb',sc',i64_w,i32_w];rfl
       refine pure_ (i:=4) (N:=some 22) (v:=?_) (a':=?_) #[true,true,true,true,true,false,false,false,false,false,false,false,false,false,false,false,false,false,false,false,false,false,false,false] rfl rfl (any_of HT_.out xk') (fun _ _ _ h=>h) (Or.inl ⟨by rfl,?_⟩) ?_ ?_
       rotate_left
       ·
        intro w';go_simp;with_reducible rfl
       rotate_left
       ·
        simp only[Act.put,sa',sb',sc',i64_w,i32_w];rfl
       refine pure_ (i:=5) (N:=some 23) (v:=?_) (a':=?_) #[true,true,true,true,true,true,false,false,false,false,false,false,false,false,false,false,false,false,false,false,false,false,false,false] rfl rfl (any_of HT_.out xk') (fun _ _ _ h=>h) (Or.inl ⟨by rfl,?_⟩) ?_ ?_
       rotate_left
       ·
        intro w';go_simp;with_reducible rfl
       rotate_left
       ·
        simp only[Act.put,sa',sb',sc',i64_w,i32_w];rfl
       refine pure_ (i:=6) (N:=some 24) (v:=?_) (a':=?_) #[true,true,true,true,true,true,true,false,false,false,false,false,false,false,false,false,false,false,false,false,false,false,false,false] rfl rfl (any_of HT_.out xk') (fun _ _ _ h=>h) (Or.inl ⟨by rfl,?_⟩) ?_ ?_
       rotate_left
       ·
        intro w';go_simp;with_reducible rfl
       rotate_left
       ·
        simp only[Act.put,sa',sb',sc',i64_w,i32_w];rfl
       refine pure_ (i:=7) (N:=some 25) (v:=?_) (a':=?_) #[true,true,true,true,true,true,true,true,false,false,false,false,false,false,false,false,false,false,false,false,false,false,false,false] rfl rfl (any_of HT_.out xk') (fun _ _ _ h=>h) (Or.inl ⟨by rfl,?_⟩) ?_ ?_
       rotate_left
       ·
        intro w';go_simp;with_reducible rfl
       rotate_left
       ·
        simp only[Act.put,sa',sb',sc',i64_w,i32_w];rfl
       refine pure_ (i:=8) (N:=some 26) (v:=?_) (a':=?_) #[true,true,true,true,true,true,true,true,true,false,false,false,false,false,false,false,false,false,false,false,false,false,false,false] rfl rfl (any_of HT_.out xk') (fun _ _ _ h=>h) (Or.inl ⟨by rfl,?_⟩) ?_ ?_
       rotate_left
       ·
        intro w';go_simp;with_reducible rfl
       rotate_left
       ·
        simp only[Act.put,sa',sb',sc',i64_w,i32_w];rfl
       refine pure_ (i:=9) (N:=some 27) (v:=?_) (a':=?_) #[true,true,true,true,true,true,true,true,true,true,false,false,false,false,false,false,false,false,false,false,false,false,false,false] rfl rfl (any_of HT_.out xk') (fun _ _ _ h=>h) (Or.inl ⟨by rfl,?_⟩) ?_ ?_
       rotate_left
       ·
        intro w';go_simp;with_reducible rfl
       rotate_left
       ·
        simp only[Act.put,sa',sb',sc',i64_w,i32_w];rfl
       refine pure_ (i:=10) (N:=some 28) (v:=?_) (a':=?_) #[true,true,true,true,true,true,true,true,true,true,true,false,false,false,false,false,false,false,false,false,false,false,false,false] rfl rfl (any_of HT_.out xk') (fun _ _ _ h=>h) (Or.inl ⟨by rfl,?_⟩) ?_ ?_
       rotate_left
       ·
        intro w';go_simp;with_reducible rfl
       rotate_left
       ·
        simp only[Act.put,sa',sb',sc',i64_w,i32_w];rfl
       refine pure_ (i:=13) (N:=some 31) (v:=?_) (a':=?_) #[true,true,true,true,true,true,true,true,true,true,true,false,false,true,false,false,false,false,false,false,false,false,false,false] rfl rfl (any_of HT_.out xk') (fun _ _ _ h=>h) (Or.inl ⟨by rfl,?_⟩) ?_ ?_
       rotate_left
       ·
        intro w';go_simp;with_reducible rfl
       rotate_left
       ·
        simp only[Act.put,sa',sb',sc',i64_w,i32_w];rfl
       refine take_ (i:=14) (N:=some 32) (v:=?_) (a':=?_) #[true,true,true,true,true,true,true,true,true,true,true,false,false,true,true,false,false,false,false,false,false,false,false,false] rfl rfl (take_ofW HT_.out HW_.out xk') (fun _ _ _ h=>h) (Or.inl ⟨by rfl,?_⟩) hHeld ?_ ?_
       rotate_left
       ·
        rintro w' ⟨s0,s1⟩
        go_simp;with_reducible rfl
       rotate_left
       ·
        simp only[Act.put,sa',sb',sc',i64_w,i32_w];rfl
       refine one_ (i:=11) (N:=some 29) #[true,true,true,true,true,true,true,true,true,true,true,true,false,true,true,false,false,false,false,false,false,false,false,false] rfl rfl (one_of HT_.out xk') (by decide) (fun K hK=>?_);refine goes_ Try.func46 xk' rfl #[.int .i64 a2] (by rfl) rfl rfl xl' ?_
       with_reducible refine (spec_cuList.calls kj3 a2 t174 _ A13.out).mono ?_
       rintro e w22 ⟨v175,rfl,ho0,hb⟩
       refine ⟨_,rfl,?_⟩;have n0_:=am' (Kd.R_lower ho0 (bz' (yb' GE172.out)));have n1_:=am' (bb' (g:=gb172) (o := .cells #[.int .i64 a0_0, .int .i64 a0_1] 32 (0,0)) (kk' BK172.out) hb);have n2_:=am' (bt' (yb' GE172.out) hb);clear BK172;clear HB;have HO176:=n0_;have BK172:=n1_;have HB:=n2_;clear n0_ n1_ n2_;(try clear hb)
       (try clear hb2)
       (try clear hk)
       (try clear hi)
       (try clear ho0)
       obtain ⟨Ao23,co23,eo23⟩:=Kd.R_slice HO176.out
       (first|subst eo23|(injection eo23 with f1_ f2_ f3_;have f4_:=f1_.symm;have f5_:=f3_.symm;clear f1_ f2_ f3_;subst f4_;subst f5_))
       refine hK.out _ _ ⟨(bc' BK172.out 0).trans rfl,(bc' BK172.out 1).trans rfl⟩ (fun hHeld=>?_);clear hK K;refine norm_ (a':=?_) ?_ ?_
       rotate_left
       ·
        show Act.put _ (some 29) _=_
        simp only[Act.put,sa',sb',sc',i64_w,i32_w];rfl
       refine pure_ (i:=12) (N:=some 30) (v:=?_) (a':=?_) #[true,true,true,true,true,true,true,true,true,true,true,true,true,true,true,false,false,false,false,false,false,false,false,false] rfl rfl (any_of HT_.out xk') (fun _ _ _ h=>h) (Or.inl ⟨by rfl,?_⟩) ?_ ?_
       rotate_left
       ·
        intro w';go_simp;with_reducible rfl
       rotate_left
       ·
        simp only[Act.put,sa',sb',sc',i64_w,i32_w];rfl
       refine pure_ (i:=15) (N:=some 33) (v:=?_) (a':=?_) #[true,true,true,true,true,true,true,true,true,true,true,true,true,true,true,true,false,false,false,false,false,false,false,false] rfl rfl (any_of HT_.out xk') (fun _ _ _ h=>h) (Or.inl ⟨by rfl,?_⟩) ?_ ?_
       rotate_left
       ·
        intro w';go_simp;with_reducible rfl
       rotate_left
       ·
        simp only[Act.put,sa',sb',sc',i64_w,i32_w];rfl
       refine pure_ (i:=16) (N:=some 34) (v:=?_) (a':=?_) #[true,true,true,true,true,true,true,true,true,true,true,true,true,true,true,true,true,false,false,false,false,false,false,false] rfl rfl (any_of HT_.out xk') (fun _ _ _ h=>h) (Or.inl ⟨by rfl,?_⟩) ?_ ?_
       rotate_left
       ·
        intro w';go_simp;with_reducible rfl
       rotate_left
       ·
        simp only[Act.put,sa',sb',sc',i64_w,i32_w];rfl
       refine pure_ (i:=17) (N:=some 35) (v:=?_) (a':=?_) #[true,true,true,true,true,true,true,true,true,true,true,true,true,true,true,true,true,true,false,false,false,false,false,false] rfl rfl (any_of HT_.out xk') (fun _ _ _ h=>h) (Or.inl ⟨by rfl,?_⟩) ?_ ?_
       rotate_left
       ·
        intro w';go_simp;with_reducible rfl
       rotate_left
       ·
        simp only[Act.put,sa',sb',sc',i64_w,i32_w];rfl
       refine pure_ (i:=18) (N:=some 36) (v:=?_) (a':=?_) #[true,true,true,true,true,true,true,true,true,true,true,true,true,true,true,true,true,true,true,false,false,false,false,false] rfl rfl (any_of HT_.out xk') (fun _ _ _ h=>h) (Or.inl ⟨by rfl,?_⟩) ?_ ?_
       rotate_left
       ·
        intro w';go_simp;with_reducible rfl
       rotate_left
       ·
        simp only[Act.put,sa',sb',sc',i64_w,i32_w];rfl
       refine pure_ (i:=20) (N:=some 38) (v:=?_) (a':=?_) #[true,true,true,true,true,true,true,true,true,true,true,true,true,true,true,true,true,true,true,false,true,false,false,false] rfl rfl (any_of HT_.out xk') (fun _ _ _ h=>h) (Or.inl ⟨by rfl,?_⟩) ?_ ?_
       rotate_left
       ·
        intro w';go_simp;with_reducible rfl
       rotate_left
       ·
        simp only[Act.put,sa',sb',sc',i64_w,i32_w];rfl
       refine take_ (i:=19) (N:=some 37) (v:=?_) (a':=?_) #[true,true,true,true,true,true,true,true,true,true,true,true,true,true,true,true,true,true,true,true,true,false,false,false] rfl rfl (take_ofW HT_.out HW_.out xk') (fun _ _ _ h=>h) (Or.inl ⟨by rfl,?_⟩) hHeld ?_ ?_
       rotate_left
       ·
        rintro w' ⟨s0,s1⟩
        go_simp;with_reducible rfl
       rotate_left
       ·
        simp only[Act.put,sa',sb',sc',i64_w,i32_w];rfl
       refine one_ (i:=21) (N:=some 39) #[true,true,true,true,true,true,true,true,true,true,true,true,true,true,true,true,true,true,true,true,true,true,false,false] rfl rfl (one_of HT_.out xk') (by decide) (fun K hK=>?_);refine goes_ Try.func59 xk' rfl #[.int .i64 a0_0, .int .i64 a2] (by rfl) rfl rfl xl' ?_
       with_reducible refine (spec_cuCalm.calls kj3 a0_0 a2 true _ A18.out).mono ?_
       rintro e w' ⟨rfl,⟨nd,rfl⟩⟩
       refine ⟨_,rfl,?_⟩;refine hK.out _ _ ⟨(bc' BK172.out 0).trans rfl,(bc' BK172.out 1).trans rfl⟩ (fun hHeld=>?_);clear hK K;refine norm_ (a':=?_) ?_ ?_
       rotate_left
       ·
        show Act.put _ (some 39) _=_
        simp only[Act.put,sa',sb',sc',i64_w,i32_w];rfl
       refine pure_ (i:=22) (N:=some 40) (v:=?_) (a':=?_) #[true,true,true,true,true,true,true,true,true,true,true,true,true,true,true,true,true,true,true,true,true,true,true,false] rfl rfl (any_of HT_.out xk') (fun _ _ _ h=>h) (Or.inl ⟨by rfl,?_⟩) ?_ ?_
       rotate_left
       ·
        intro w';go_simp;with_reducible rfl
       rotate_left
       ·
        simp only[Act.put,sa',sb',sc',i64_w,i32_w];rfl
       refine pure_ (i:=23) (N:=some 41) (v:=?_) (a':=?_) #[true,true,true,true,true,true,true,true,true,true,true,true,true,true,true,true,true,true,true,true,true,true,true,true] rfl rfl (any_of HT_.out xk') (fun _ _ _ h=>h) (Or.inl ⟨by rfl,?_⟩) ?_ ?_
       rotate_left
       ·
        intro w';go_simp;with_reducible rfl
       rotate_left
       ·
        simp only[Act.put,sa',sb',sc',i64_w,i32_w];rfl
       refine done_ (done_of HT_.out xk') ?_
       have hcz24_0:w22.cell? ⟨gb172,0,none⟩=some (.int .i64 a0_0):=(bc' BK172.out 0).trans rfl;have hcz24_1:w22.cell? ⟨gb172,1,none⟩=some (.int .i64 a0_1):=(bc' BK172.out 1).trans rfl;have hfz24_0:=bf' BK172.out 0;have hfz24_1:=bf' BK172.out 1
       try go_wp2_with (first|((with_reducible refine gate_callee (f:=43) rfl ?_);refine goesL_ (some 48) rfl rfl Try.func43 xk' rfl #[.agg #[.int .i64 a0_0, .int .i64 a0_1], .int .i64 (Go.bits .xor .i64 a1 (wrap64 ((wrap64 (2 * a2))+1)))] rfl xl' ?_;(with_reducible refine (spec_cuQuiet.calls kj3 a0_0 a0_1 (Go.bits .xor .i64 a1 (wrap64 ((wrap64 (2 * a2))+1))) t178 _ A20.out).mono ?_);rintro e w25 ⟨rfl,hb⟩;refine ⟨_,rfl,?_⟩;have n0_:=am' (rb' (kr' HO176.out) hb);have n1_:=am' (bb' (g:=gb172) (o := .cells #[.int .i64 a0_0, .int .i64 a0_1] 32 (0,0)) (kk' BK172.out) hb);have n2_:=am' (bt' (yb' GE172.out) hb);clear HO176;clear BK172;clear HB;have HO176:=n0_;have BK172:=n1_;have HB:=n2_;clear n0_ n1_ n2_;(try clear hb);(try clear hb2);(try clear hk);(try clear hi)))
       go_ret
       exact ⟨by first|rfl|(simp[errW_none,errW_some] <;> rfl)|(simp[*,errW_none,errW_some] <;> rfl),yb' GE172.out⟩
      ·
       replace c19:=Bool.eq_false_iff.mpr c19;subst c19;have H1:(some false)=some r:=by rw[if_neg (show ¬ (false=true) by decide)] at H;exact H
       clear H;have H:=H1;clear H1;obtain rfl:=os' H
       try go_wp2
       have n0_:=am' (kd' BK172.out);have n1_:=am' (be' HB.out);clear BK172;clear HB;have BK172:=n0_;have HB:=n1_;clear n0_ n1_;refine start_ (n:=24) (S:=fun w'=>w'.cell? ⟨gb172,0,none⟩=some (.int .i64 a0_0)∧w'.cell? ⟨gb172,1,none⟩=some (.int .i64 a0_1)) (ds:=[]) #[false,false,false,false,false,false,false,false,false,false,false,false,false,false,false,false,false,false,false,false,false,false,false,false] xk' rfl rfl ⟨(bc' BK172.out 0).trans rfl,(bc' BK172.out 1).trans rfl⟩ (fun hHeld=>?_);refine with_tabW spec_cuCan.tab4 spec_cuCan.bits4 (fun HT_ HW_=>?_);generalize wc.drew=w26 at BK172 HB hHeld ⊢
       refine pure_ (i:=0) (N:=some 18) (v:=?_) (a':=?_) #[true,false,false,false,false,false,false,false,false,false,false,false,false,false,false,false,false,false,false,false,false,false,false,false] rfl rfl (any_of HT_.out xk') (fun _ _ _ h=>h) (Or.inl ⟨by rfl,?_⟩) ?_ ?_
       rotate_left
       ·
        intro w';go_simp;with_reducible rfl
       rotate_left
       ·
        simp only[Act.put,sa',sb',sc',i64_w,i32_w];rfl
       refine pure_ (i:=1) (N:=some 19) (v:=?_) (a':=?_) #[true,true,false,false,false,false,false,false,false,false,false,false,false,false,false,false,false,false,false,false,false,false,false,false] rfl rfl (any_of HT_.out xk') (fun _ _ _ h=>h) (Or.inl ⟨by rfl,?_⟩) ?_ ?_
       rotate_left
       ·
        intro w';go_simp;with_reducible rfl
       rotate_left
       ·
        simp only[Act.put,sa',sb',sc',i64_w,i32_w];rfl
       refine pure_ (i:=2) (N:=some 20) (v:=?_) (a':=?_) #[true,true,true,false,false,false,false,false,false,false,false,false,false,false,false,false,false,false,false,false,false,false,false,false] rfl rfl (any_of HT_.out xk') (fun _ _ _ h=>h) (Or.inl ⟨by rfl,?_⟩) ?_ ?_
       rotate_left
       ·
        intro w';go_simp;with_reducible rfl
       rotate_left
       ·
        simp only[Act.put,sa',sb',sc',i64_w,i32_w];rfl
       refine pure_ (i:=3) (N:=some 21) (v:=?_) (a':=?_) #[true,true,true,true,false,false,false,false,false,false,false,false,false,false,false,false,false,false,false,false,false,false,false,false] rfl rfl (any_of HT_.out xk') (fun _ _ _ h=>h) (Or.inl ⟨by rfl,?_⟩) ?_ ?_
       rotate_left
       ·
        intro w';go_simp;with_reducible rfl
       rotate_left
       ·
        simp only[Act.put,sa',sb',sc',i64_w,i32_w];rfl
       refine pure_ (i:=4) (N:=some 22) (v:=?_) (a':=?_) #[true,true,true,true,true,false,false,false,false,false,false,false,false,false,false,false,false,false,false,false,false,false,false,false] rfl rfl (any_of HT_.out xk') (fun _ _ _ h=>h) (Or.inl ⟨by rfl,?_⟩) ?_ ?_
       rotate_left
       ·
        intro w';go_simp;with_reducible rfl
       rotate_left
       ·
        simp only[Act.put,sa',sb',sc',i64_w,i32_w];rfl
       refine pure_ (i:=5) (N:=some 23) (v:=?_) (a':=?_) #[true,true,true,true,true,true,false,false,false,false,false,false,false,false,false,false,false,false,false,false,false,false,false,false] rfl rfl (any_of HT_.out xk') (fun _ _ _ h=>h) (Or.inl ⟨by rfl,?_⟩) ?_ ?_
       rotate_left
       ·
        intro w';go_simp;with_reducible rfl
       rotate_left
       ·
        simp only[Act.put,sa',sb',sc',i64_w,i32_w];rfl
       refine pure_ (i:=6) (N:=some 24) (v:=?_) (a':=?_) #[true,true,true,true,true,true,true,false,false,false,false,false,false,false,false,false,false,false,false,false,false,false,false,false] rfl rfl (any_of HT_.out xk') (fun _ _ _ h=>h) (Or.inl ⟨by rfl,?_⟩) ?_ ?_
       rotate_left
       ·
        intro w';go_simp;with_reducible rfl
       rotate_left
       ·
        simp only[Act.put,sa',sb',sc',i64_w,i32_w];rfl
       refine pure_ (i:=7) (N:=some 25) (v:=?_) (a':=?_) #[true,true,true,true,true,true,true,true,false,false,false,false,false,false,false,false,false,false,false,false,false,false,false,false] rfl rfl (any_of HT_.out xk') (fun _ _ _ h=>h) (Or.inl ⟨by rfl,?_⟩) ?_ ?_
       rotate_left
       ·
        intro w';go_simp;with_reducible rfl
       rotate_left
       ·
        simp only[Act.put,sa',sb',sc',i64_w,i32_w];rfl
       refine pure_ (i:=8) (N:=some 26) (v:=?_) (a':=?_) #[true,true,true,true,true,true,true,true,true,false,false,false,false,false,false,false,false,false,false,false,false,false,false,false] rfl rfl (any_of HT_.out xk') (fun _ _ _ h=>h) (Or.inl ⟨by rfl,?_⟩) ?_ ?_
       rotate_left
       ·
        intro w';go_simp;with_reducible rfl
       rotate_left
       ·
        simp only[Act.put,sa',sb',sc',i64_w,i32_w];rfl
       refine pure_ (i:=9) (N:=some 27) (v:=?_) (a':=?_) #[true,true,true,true,true,true,true,true,true,true,false,false,false,false,false,false,false,false,false,false,false,false,false,false] rfl rfl (any_of HT_.out xk') (fun _ _ _ h=>h) (Or.inl ⟨by rfl,?_⟩) ?_ ?_
       rotate_left
       ·
        intro w';go_simp;with_reducible rfl
       rotate_left
       ·
        simp only[Act.put,sa',sb',sc',i64_w,i32_w];rfl
       refine pure_ (i:=10) (N:=some 28) (v:=?_) (a':=?_) #[true,true,true,true,true,true,true,true,true,true,true,false,false,false,false,false,false,false,false,false,false,false,false,false] rfl rfl (any_of HT_.out xk') (fun _ _ _ h=>h) (Or.inl ⟨by rfl,?_⟩) ?_ ?_
       rotate_left
       ·
        intro w';go_simp;with_reducible rfl
       rotate_left
       ·
        simp only[Act.put,sa',sb',sc',i64_w,i32_w];rfl
       refine pure_ (i:=13) (N:=some 31) (v:=?_) (a':=?_) #[true,true,true,true,true,true,true,true,true,true,true,false,false,true,false,false,false,false,false,false,false,false,false,false] rfl rfl (any_of HT_.out xk') (fun _ _ _ h=>h) (Or.inl ⟨by rfl,?_⟩) ?_ ?_
       rotate_left
       ·
        intro w';go_simp;with_reducible rfl
       rotate_left
       ·
        simp only[Act.put,sa',sb',sc',i64_w,i32_w];rfl
       refine take_ (i:=14) (N:=some 32) (v:=?_) (a':=?_) #[true,true,true,true,true,true,true,true,true,true,true,false,false,true,true,false,false,false,false,false,false,false,false,false] rfl rfl (take_ofW HT_.out HW_.out xk') (fun _ _ _ h=>h) (Or.inl ⟨by rfl,?_⟩) hHeld ?_ ?_
       rotate_left
       ·
        rintro w' ⟨s0,s1⟩
        go_simp;with_reducible rfl
       rotate_left
       ·
        simp only[Act.put,sa',sb',sc',i64_w,i32_w];rfl
       refine one_ (i:=11) (N:=some 29) #[true,true,true,true,true,true,true,true,true,true,true,true,false,true,true,false,false,false,false,false,false,false,false,false] rfl rfl (one_of HT_.out xk') (by decide) (fun K hK=>?_);refine goes_ Try.func46 xk' rfl #[.int .i64 a2] (by rfl) rfl rfl xl' ?_
       with_reducible refine (spec_cuList.calls kj3 a2 t174 _ A13.out).mono ?_
       rintro e w27 ⟨v175,rfl,ho0,hb⟩
       refine ⟨_,rfl,?_⟩;have n0_:=am' (Kd.R_lower ho0 (bz' (yb' GE172.out)));have n1_:=am' (bb' (g:=gb172) (o := .cells #[.int .i64 a0_0, .int .i64 a0_1] 32 (0,0)) (kk' BK172.out) hb);have n2_:=am' (bt' (yb' GE172.out) hb);clear BK172;clear HB;have HO176:=n0_;have BK172:=n1_;have HB:=n2_;clear n0_ n1_ n2_;(try clear hb)
       (try clear hb2)
       (try clear hk)
       (try clear hi)
       (try clear ho0)
       obtain ⟨Ao28,co28,eo28⟩:=Kd.R_slice HO176.out
       (first|subst eo28|(injection eo28 with f1_ f2_ f3_;have f4_:=f1_.symm;have f5_:=f3_.symm;clear f1_ f2_ f3_;subst f4_;subst f5_))
       refine hK.out _ _ ⟨(bc' BK172.out 0).trans rfl,(bc' BK172.out 1).trans rfl⟩ (fun hHeld=>?_);clear hK K;refine norm_ (a':=?_) ?_ ?_
       rotate_left
       ·
        show Act.put _ (some 29) _=_
        simp only[Act.put,sa',sb',sc',i64_w,i32_w];rfl
       refine pure_ (i:=12) (N:=some 30) (v:=?_) (a':=?_) #[true,true,true,true,true,true,true,true,true,true,true,true,true,true,true,false,false,false,false,false,false,false,false,false] rfl rfl (any_of HT_.out xk') (fun _ _ _ h=>h) (Or.inl ⟨by rfl,?_⟩) ?_ ?_
       rotate_left
       ·
        intro w';go_simp;with_reducible rfl
       rotate_left
       ·
        simp only[Act.put,sa',sb',sc',i64_w,i32_w];rfl
       refine pure_ (i:=15) (N:=some 33) (v:=?_) (a':=?_) #[true,true,true,true,true,true,true,true,true,true,true,true,true,true,true,true,false,false,false,false,false,false,false,false] rfl rfl (any_of HT_.out xk') (fun _ _ _ h=>h) (Or.inl ⟨by rfl,?_⟩) ?_ ?_
       rotate_left
       ·
        intro w';go_simp;with_reducible rfl
       rotate_left
       ·
        simp only[Act.put,sa',sb',sc',i64_w,i32_w];rfl
       refine pure_ (i:=16) (N:=some 34) (v:=?_) (a':=?_) #[true,true,true,true,true,true,true,true,true,true,true,true,true,true,true,true,true,false,false,false,false,false,false,false] rfl rfl (any_of HT_.out xk') (fun _ _ _ h=>h) (Or.inl ⟨by rfl,?_⟩) ?_ ?_
       rotate_left
       ·
        intro w';go_simp;with_reducible rfl
       rotate_left
       ·
        simp only[Act.put,sa',sb',sc',i64_w,i32_w];rfl
       refine pure_ (i:=17) (N:=some 35) (v:=?_) (a':=?_) #[true,true,true,true,true,true,true,true,true,true,true,true,true,true,true,true,true,true,false,false,false,false,false,false] rfl rfl (any_of HT_.out xk') (fun _ _ _ h=>h) (Or.inl ⟨by rfl,?_⟩) ?_ ?_
       rotate_left
       ·
        intro w';go_simp;with_reducible rfl
       rotate_left
       ·
        simp only[Act.put,sa',sb',sc',i64_w,i32_w];rfl
       refine pure_ (i:=18) (N:=some 36) (v:=?_) (a':=?_) #[true,true,true,true,true,true,true,true,true,true,true,true,true,true,true,true,true,true,true,false,false,false,false,false] rfl rfl (any_of HT_.out xk') (fun _ _ _ h=>h) (Or.inl ⟨by rfl,?_⟩) ?_ ?_
       rotate_left
       ·
        intro w';go_simp;with_reducible rfl
       rotate_left
       ·
        simp only[Act.put,sa',sb',sc',i64_w,i32_w];rfl
       refine pure_ (i:=20) (N:=some 38) (v:=?_) (a':=?_) #[true,true,true,true,true,true,true,true,true,true,true,true,true,true,true,true,true,true,true,false,true,false,false,false] rfl rfl (any_of HT_.out xk') (fun _ _ _ h=>h) (Or.inl ⟨by rfl,?_⟩) ?_ ?_
       rotate_left
       ·
        intro w';go_simp;with_reducible rfl
       rotate_left
       ·
        simp only[Act.put,sa',sb',sc',i64_w,i32_w];rfl
       refine take_ (i:=19) (N:=some 37) (v:=?_) (a':=?_) #[true,true,true,true,true,true,true,true,true,true,true,true,true,true,true,true,true,true,true,true,true,false,false,false] rfl rfl (take_ofW HT_.out HW_.out xk') (fun _ _ _ h=>h) (Or.inl ⟨by rfl,?_⟩) hHeld ?_ ?_
       rotate_left
       ·
        rintro w' ⟨s0,s1⟩
        go_simp;with_reducible rfl
       rotate_left
       ·
        simp only[Act.put,sa',sb',sc',i64_w,i32_w];rfl
       refine one_ (i:=21) (N:=some 39) #[true,true,true,true,true,true,true,true,true,true,true,true,true,true,true,true,true,true,true,true,true,true,false,false] rfl rfl (one_of HT_.out xk') (by decide) (fun K hK=>?_);refine goes_ Try.func59 xk' rfl #[.int .i64 a0_0, .int .i64 a2] (by rfl) rfl rfl xl' ?_
       with_reducible refine (spec_cuCalm.calls kj3 a0_0 a2 false _ A18.out).mono ?_
       rintro e w' ⟨rfl,⟨nd,rfl⟩⟩
       refine ⟨_,rfl,?_⟩;refine hK.out _ _ ⟨(bc' BK172.out 0).trans rfl,(bc' BK172.out 1).trans rfl⟩ (fun hHeld=>?_);clear hK K;refine norm_ (a':=?_) ?_ ?_
       rotate_left
       ·
        show Act.put _ (some 39) _=_
        simp only[Act.put,sa',sb',sc',i64_w,i32_w];rfl
       refine pure_ (i:=22) (N:=some 40) (v:=?_) (a':=?_) #[true,true,true,true,true,true,true,true,true,true,true,true,true,true,true,true,true,true,true,true,true,true,true,false] rfl rfl (any_of HT_.out xk') (fun _ _ _ h=>h) (Or.inl ⟨by rfl,?_⟩) ?_ ?_
       rotate_left
       ·
        intro w';go_simp;with_reducible rfl
       rotate_left
       ·
        simp only[Act.put,sa',sb',sc',i64_w,i32_w];rfl
       refine pure_ (i:=23) (N:=some 41) (v:=?_) (a':=?_) #[true,true,true,true,true,true,true,true,true,true,true,true,true,true,true,true,true,true,true,true,true,true,true,true] rfl rfl (any_of HT_.out xk') (fun _ _ _ h=>h) (Or.inl ⟨by rfl,?_⟩) ?_ ?_
       rotate_left
       ·
        intro w';go_simp;with_reducible rfl
       rotate_left
       ·
        simp only[Act.put,sa',sb',sc',i64_w,i32_w];rfl
       refine done_ (done_of HT_.out xk') ?_
       try go_wp2
       go_ret
       exact ⟨by first|rfl|(simp[errW_none,errW_some] <;> rfl)|(simp[*,errW_none,errW_some] <;> rfl),yb' GE172.out⟩
    ·
     rw[if_neg c12] at H;have c12b0:((Go.bits .and .i64 a2 x7_3) == a2)=false:=beq_eq_false_iff_ne.mpr c12;have c12b1:((Go.bits .and .i64 a2 x7_3) != a2)=true:=bne_iff_ne.mpr c12;obtain rfl:=os' H
     try go_wp2
     have n0_:=am' (kd' BK172.out);have n1_:=am' (be' HB.out);clear BK172;clear HB;have BK172:=n0_;have HB:=n1_;clear n0_ n1_;refine start_ (n:=24) (S:=fun w'=>True) (ds:=[]) #[false,false,false,false,false,false,false,false,false,false,false,false,false,false,false,false,false,false,false,false,false,false,false,false] xk' rfl rfl trivial (fun hHeld=>?_);refine with_tabW spec_cuCan.tab4 spec_cuCan.bits4 (fun HT_ HW_=>?_);generalize wc.drew=w29 at BK172 HB hHeld ⊢
     refine pure_ (i:=0) (N:=some 18) (v:=?_) (a':=?_) #[true,false,false,false,false,false,false,false,false,false,false,false,false,false,false,false,false,false,false,false,false,false,false,false] rfl rfl (any_of HT_.out xk') (fun _ _ _ h=>h) (Or.inl ⟨by rfl,?_⟩) ?_ ?_
     rotate_left
     ·
      intro w';go_simp;with_reducible rfl
     rotate_left
     ·
      simp only[Act.put,sa',sb',sc',i64_w,i32_w];rfl
     refine pure_ (i:=1) (N:=some 19) (v:=?_) (a':=?_) #[true,true,false,false,false,false,false,false,false,false,false,false,false,false,false,false,false,false,false,false,false,false,false,false] rfl rfl (any_of HT_.out xk') (fun _ _ _ h=>h) (Or.inl ⟨by rfl,?_⟩) ?_ ?_
     rotate_left
     ·
      intro w';go_simp;with_reducible rfl
     rotate_left
     ·
      simp only[Act.put,sa',sb',sc',i64_w,i32_w];rfl
     refine pure_ (i:=2) (N:=some 20) (v:=?_) (a':=?_) #[true,true,true,false,false,false,false,false,false,false,false,false,false,false,false,false,false,false,false,false,false,false,false,false] rfl rfl (any_of HT_.out xk') (fun _ _ _ h=>h) (Or.inl ⟨by rfl,?_⟩) ?_ ?_
     rotate_left
     ·
      intro w';go_simp;with_reducible rfl
     rotate_left
     ·
      simp only[Act.put,sa',sb',sc',i64_w,i32_w];rfl
     refine pure_ (i:=3) (N:=some 21) (v:=?_) (a':=?_) #[true,true,true,true,false,false,false,false,false,false,false,false,false,false,false,false,false,false,false,false,false,false,false,false] rfl rfl (any_of HT_.out xk') (fun _ _ _ h=>h) (Or.inl ⟨by rfl,?_⟩) ?_ ?_
     rotate_left
     ·
      intro w';go_simp;with_reducible rfl
     rotate_left
     ·
      simp only[Act.put,sa',sb',sc',i64_w,i32_w];rfl
     refine pure_ (i:=4) (N:=some 22) (v:=?_) (a':=?_) #[true,true,true,true,true,false,false,false,false,false,false,false,false,false,false,false,false,false,false,false,false,false,false,false] rfl rfl (any_of HT_.out xk') (fun _ _ _ h=>h) (Or.inl ⟨by rfl,?_⟩) ?_ ?_
     rotate_left
     ·
      intro w';go_simp;with_reducible rfl
     rotate_left
     ·
      simp only[Act.put,sa',sb',sc',i64_w,i32_w];rfl
     refine pure_ (i:=5) (N:=some 23) (v:=?_) (a':=?_) #[true,true,true,true,true,true,false,false,false,false,false,false,false,false,false,false,false,false,false,false,false,false,false,false] rfl rfl (any_of HT_.out xk') (fun _ _ _ h=>h) (Or.inl ⟨by rfl,?_⟩) ?_ ?_
     rotate_left
     ·
      intro w';go_simp;with_reducible rfl
     rotate_left
     ·
      simp only[Act.put,sa',sb',sc',i64_w,i32_w];rfl
     refine pure_ (i:=6) (N:=some 24) (v:=?_) (a':=?_) #[true,true,true,true,true,true,true,false,false,false,false,false,false,false,false,false,false,false,false,false,false,false,false,false] rfl rfl (any_of HT_.out xk') (fun _ _ _ h=>h) (Or.inl ⟨by rfl,?_⟩) ?_ ?_
     rotate_left
     ·
      intro w';go_simp;with_reducible rfl
     rotate_left
     ·
      simp only[Act.put,sa',sb',sc',i64_w,i32_w];rfl
     refine pure_ (i:=7) (N:=some 25) (v:=?_) (a':=?_) #[true,true,true,true,true,true,true,true,false,false,false,false,false,false,false,false,false,false,false,false,false,false,false,false] rfl rfl (any_of HT_.out xk') (fun _ _ _ h=>h) (Or.inl ⟨by rfl,?_⟩) ?_ ?_
     rotate_left
     ·
      intro w';go_simp;with_reducible rfl
     rotate_left
     ·
      simp only[Act.put,sa',sb',sc',i64_w,i32_w];rfl
     refine pure_ (i:=8) (N:=some 26) (v:=?_) (a':=?_) #[true,true,true,true,true,true,true,true,true,false,false,false,false,false,false,false,false,false,false,false,false,false,false,false] rfl rfl (any_of HT_.out xk') (fun _ _ _ h=>h) (Or.inl ⟨by rfl,?_⟩) ?_ ?_
     rotate_left
     ·
      intro w';go_simp;with_reducible rfl
     rotate_left
     ·
      simp only[Act.put,sa',sb',sc',i64_w,i32_w];rfl
     refine pure_ (i:=9) (N:=some 27) (v:=?_) (a':=?_) #[true,true,true,true,true,true,true,true,true,true,false,false,false,false,false,false,false,false,false,false,false,false,false,false] rfl rfl (any_of HT_.out xk') (fun _ _ _ h=>h) (Or.inl ⟨by rfl,?_⟩) ?_ ?_
     rotate_left
     ·
      intro w';go_simp;with_reducible rfl
     rotate_left
     ·
      simp only[Act.put,sa',sb',sc',i64_w,i32_w];rfl
     refine pure_ (i:=10) (N:=some 28) (v:=undef) (a':=?_) #[true,true,true,true,true,true,true,true,true,true,true,false,false,false,false,false,false,false,false,false,false,false,false,false] rfl rfl (any_of HT_.out xk') (fun _ _ _ h=>h) (Or.inr ⟨by rfl,rfl⟩) ?_ ?_
     rotate_left
     ·
      simp only[Act.put,sa',sb',sc',i64_w,i32_w];rfl
     refine pure_ (i:=11) (N:=some 29) (v:=undef) (a':=?_) #[true,true,true,true,true,true,true,true,true,true,true,true,false,false,false,false,false,false,false,false,false,false,false,false] rfl rfl (any_of HT_.out xk') (fun _ _ _ h=>h) (Or.inr ⟨by rfl,rfl⟩) ?_ ?_
     rotate_left
     ·
      simp only[Act.put,sa',sb',sc',i64_w,i32_w];rfl
     refine pure_ (i:=12) (N:=some 30) (v:=undef) (a':=?_) #[true,true,true,true,true,true,true,true,true,true,true,true,true,false,false,false,false,false,false,false,false,false,false,false] rfl rfl (any_of HT_.out xk') (fun _ _ _ h=>h) (Or.inr ⟨by rfl,rfl⟩) ?_ ?_
     rotate_left
     ·
      simp only[Act.put,sa',sb',sc',i64_w,i32_w];rfl
     refine pure_ (i:=13) (N:=some 31) (v:=undef) (a':=?_) #[true,true,true,true,true,true,true,true,true,true,true,true,true,true,false,false,false,false,false,false,false,false,false,false] rfl rfl (any_of HT_.out xk') (fun _ _ _ h=>h) (Or.inr ⟨by rfl,rfl⟩) ?_ ?_
     rotate_left
     ·
      simp only[Act.put,sa',sb',sc',i64_w,i32_w];rfl
     refine pure_ (i:=14) (N:=some 32) (v:=undef) (a':=?_) #[true,true,true,true,true,true,true,true,true,true,true,true,true,true,true,false,false,false,false,false,false,false,false,false] rfl rfl (any_of HT_.out xk') (fun _ _ _ h=>h) (Or.inr ⟨by rfl,rfl⟩) ?_ ?_
     rotate_left
     ·
      simp only[Act.put,sa',sb',sc',i64_w,i32_w];rfl
     refine pure_ (i:=15) (N:=some 33) (v:=undef) (a':=?_) #[true,true,true,true,true,true,true,true,true,true,true,true,true,true,true,true,false,false,false,false,false,false,false,false] rfl rfl (any_of HT_.out xk') (fun _ _ _ h=>h) (Or.inr ⟨by rfl,rfl⟩) ?_ ?_
     rotate_left
     ·
      simp only[Act.put,sa',sb',sc',i64_w,i32_w];rfl
     refine pure_ (i:=16) (N:=some 34) (v:=?_) (a':=?_) #[true,true,true,true,true,true,true,true,true,true,true,true,true,true,true,true,true,false,false,false,false,false,false,false] rfl rfl (any_of HT_.out xk') (fun _ _ _ h=>h) (Or.inl ⟨by rfl,?_⟩) ?_ ?_
     rotate_left
     ·
      intro w';go_simp;with_reducible rfl
     rotate_left
     ·
      simp only[Act.put,sa',sb',sc',i64_w,i32_w];rfl
     refine pure_ (i:=17) (N:=some 35) (v:=?_) (a':=?_) #[true,true,true,true,true,true,true,true,true,true,true,true,true,true,true,true,true,true,false,false,false,false,false,false] rfl rfl (any_of HT_.out xk') (fun _ _ _ h=>h) (Or.inl ⟨by rfl,?_⟩) ?_ ?_
     rotate_left
     ·
      intro w';go_simp;with_reducible rfl
     rotate_left
     ·
      simp only[Act.put,sa',sb',sc',i64_w,i32_w];rfl
     refine pure_ (i:=18) (N:=some 36) (v:=undef) (a':=?_) #[true,true,true,true,true,true,true,true,true,true,true,true,true,true,true,true,true,true,true,false,false,false,false,false] rfl rfl (any_of HT_.out xk') (fun _ _ _ h=>h) (Or.inr ⟨by rfl,rfl⟩) ?_ ?_
     rotate_left
     ·
      simp only[Act.put,sa',sb',sc',i64_w,i32_w];rfl
     refine pure_ (i:=19) (N:=some 37) (v:=undef) (a':=?_) #[true,true,true,true,true,true,true,true,true,true,true,true,true,true,true,true,true,true,true,true,false,false,false,false] rfl rfl (any_of HT_.out xk') (fun _ _ _ h=>h) (Or.inr ⟨by rfl,rfl⟩) ?_ ?_
     rotate_left
     ·
      simp only[Act.put,sa',sb',sc',i64_w,i32_w];rfl
     refine pure_ (i:=20) (N:=some 38) (v:=undef) (a':=?_) #[true,true,true,true,true,true,true,true,true,true,true,true,true,true,true,true,true,true,true,true,true,false,false,false] rfl rfl (any_of HT_.out xk') (fun _ _ _ h=>h) (Or.inr ⟨by rfl,rfl⟩) ?_ ?_
     rotate_left
     ·
      simp only[Act.put,sa',sb',sc',i64_w,i32_w];rfl
     refine pure_ (i:=21) (N:=some 39) (v:=undef) (a':=?_) #[true,true,true,true,true,true,true,true,true,true,true,true,true,true,true,true,true,true,true,true,true,true,false,false] rfl rfl (any_of HT_.out xk') (fun _ _ _ h=>h) (Or.inr ⟨by rfl,rfl⟩) ?_ ?_
     rotate_left
     ·
      simp only[Act.put,sa',sb',sc',i64_w,i32_w];rfl
     refine pure_ (i:=22) (N:=some 40) (v:=undef) (a':=?_) #[true,true,true,true,true,true,true,true,true,true,true,true,true,true,true,true,true,true,true,true,true,true,true,false] rfl rfl (any_of HT_.out xk') (fun _ _ _ h=>h) (Or.inr ⟨by rfl,rfl⟩) ?_ ?_
     rotate_left
     ·
      simp only[Act.put,sa',sb',sc',i64_w,i32_w];rfl
     refine pure_ (i:=23) (N:=some 41) (v:=?_) (a':=?_) #[true,true,true,true,true,true,true,true,true,true,true,true,true,true,true,true,true,true,true,true,true,true,true,true] rfl rfl (any_of HT_.out xk') (fun _ _ _ h=>h) (Or.inl ⟨by rfl,?_⟩) ?_ ?_
     rotate_left
     ·
      intro w';go_simp;with_reducible rfl
     rotate_left
     ·
      simp only[Act.put,sa',sb',sc',i64_w,i32_w];rfl
     refine done_ (done_of HT_.out xk') ?_
     try go_wp2
     go_ret
     exact ⟨by first|rfl|(simp[errW_none,errW_some] <;> rfl)|(simp[*,errW_none,errW_some] <;> rfl),yb' GE172.out⟩
end Go.Proofs.Ytabhhkiipilghaa.C2
