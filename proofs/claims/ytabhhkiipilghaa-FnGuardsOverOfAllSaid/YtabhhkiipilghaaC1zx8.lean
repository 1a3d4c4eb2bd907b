import Derived.Test.YtabhhkiipilghaaC1zx0
import Derived.Test.YtabhhkiipilghaaC1zx1
import Derived.Test.YtabhhkiipilghaaC1zx4
import Derived.Test.YtabhhkiipilghaaC1zx7
import Derived.Test.YtabhhkiipilghaaC1zAl
namespace Go.Proofs.Ytabhhkiipilghaa.C1
open Go.RowKit Go.Proofs.YtabhhkiipilghaaW.PrintWords Go.Proofs.YtabhhkiipilghaaW.PrintLast Go.Proofs.YtabhhkiipilghaaW.PrintMore Go.Proofs.Ytabhhkiipilghaa.H
attribute [local go_sem] max2_int min2_int max_two min_two max_three min_three max_four min_four
set_option linter.unusedVariables false
set_option linter.unusedSimpArgs false
mutual
def impl_CountGuarded.l0:Nat→Int→Int→Int→Int→Int→Int→Int→Option (Int × Bool)
 | 0,_,_,_,_,_,_,_=>none
 | k+1,x0,x1,x7,x8,x169000,x169001,x169002=>if x8≤x0 then (impl_CountGuarded.l1 k x0 x1 x7 x8 0 x169000 x169001 x169002) else (some (x7,true))
def impl_CountGuarded.l1:Nat→Int→Int→Int→Int→Int→Int→Int→Int→Option (Int × Bool)
 | 0,_,_,_,_,_,_,_,_=>none
 | k+1,x0,x1,x7,x8,x9,x169000,x169001,x169002=>if x9≤x1 then ((impl_guarded_bothFine.f x169000 x169001 x169002 x8 x9).bind fun t170=>((impl_bit.f t170).bind fun t171=>(impl_CountGuarded.l1 k x0 x1 (wrap64 (x7+t171)) x8 (wrap64 (x9+1)) x169000 x169001 x169002))) else (impl_CountGuarded.l0 k x0 x1 x7 (wrap64 (x8+1)) x169000 x169001 x169002)
end
def impl_CountGuarded.f (k:Nat) (a0:Int) (a1:Int):Option (Int × Bool):=(impl_guarded_isOk.f a0 a1 1).bind fun t169=>(if t169=true then (impl_CountGuarded.l0 k a0 a1 0 0 a0 a1 1) else (some (0,false)))
theorem impl_CountGuarded.mono_l:∀ k,(∀ y0 y1 y2 y3 y4 y5 y6,LeO (impl_CountGuarded.l0 k y0 y1 y2 y3 y4 y5 y6) (impl_CountGuarded.l0 (k+1) y0 y1 y2 y3 y4 y5 y6))∧(∀ y0 y1 y2 y3 y4 y5 y6 y7,LeO (impl_CountGuarded.l1 k y0 y1 y2 y3 y4 y5 y6 y7) (impl_CountGuarded.l1 (k+1) y0 y1 y2 y3 y4 y5 y6 y7))
 | 0=>⟨fun _ _ _ _ _ _ _ r h=>by simp[impl_CountGuarded.l0] at h,fun _ _ _ _ _ _ _ _ r h=>by simp[impl_CountGuarded.l1] at h⟩
 | k+1=>by
  obtain ⟨ih0,ih1⟩:=impl_CountGuarded.mono_l k;refine ⟨?_,?_⟩
  ·
   intro y0 y1 y2 y3 y4 y5 y6;unfold impl_CountGuarded.l0
   repeat' first
   | (with_reducible exact ih0 _ _ _ _ _ _ _)
   | (with_reducible exact ih1 _ _ _ _ _ _ _ _)
   | (with_reducible exact LeO.refl _)
   | (with_reducible exact LeO.none _)
   | (with_reducible refine LeO.ite ?_ ?_)
   | (with_reducible refine LeO.bind ?_ (fun _=>?_))
   | exact ih0 _ _ _ _ _ _ _
   | exact ih1 _ _ _ _ _ _ _ _
   | exact LeO.none _
   | refine LeO.ite ?_ ?_
   | refine LeO.bind ?_ (fun _=>?_)
  ·
   intro y0 y1 y2 y3 y4 y5 y6 y7;unfold impl_CountGuarded.l1
   repeat' first
   | (with_reducible exact ih0 _ _ _ _ _ _ _)
   | (with_reducible exact ih1 _ _ _ _ _ _ _ _)
   | (with_reducible exact LeO.refl _)
   | (with_reducible exact LeO.none _)
   | (with_reducible refine LeO.ite ?_ ?_)
   | (with_reducible refine LeO.bind ?_ (fun _=>?_))
   | exact ih0 _ _ _ _ _ _ _
   | exact ih1 _ _ _ _ _ _ _ _
   | exact LeO.none _
   | refine LeO.ite ?_ ?_
   | refine LeO.bind ?_ (fun _=>?_)
theorem impl_CountGuarded.mono:∀ a0 a1 k,LeO (impl_CountGuarded.f k a0 a1) (impl_CountGuarded.f (k+1) a0 a1):=by
 intro a0 a1 k;obtain ⟨ih0,ih1⟩:=impl_CountGuarded.mono_l k
 unfold impl_CountGuarded.f
 repeat' first
   | (with_reducible exact ih0 _ _ _ _ _ _ _)
   | (with_reducible exact ih1 _ _ _ _ _ _ _ _)
   | (with_reducible exact LeO.refl _)
   | (with_reducible exact LeO.none _)
   | (with_reducible refine LeO.ite ?_ ?_)
   | (with_reducible refine LeO.bind ?_ (fun _=>?_))
   | exact ih0 _ _ _ _ _ _ _
   | exact ih1 _ _ _ _ _ _ _ _
   | exact LeO.none _
   | refine LeO.ite ?_ ?_
   | refine LeO.bind ?_ (fun _=>?_)
set_option maxHeartbeats 8000000 in
set_option maxRecDepth 100000 in
theorem impl_CountGuarded.calls (k:Nat) (a0:Int) (a1:Int) (r1:Int) (r2:Bool) (w:World) (h:impl_CountGuarded.f k a0 a1=some (r1,r2)) :
  Calls Try.prog 12 #[.int .i64 a0, .int .i64 a1] w fun e w'=>e = .returned (.tuple #[.int .i64 r1, .bool r2])∧Below w.heap.size w w':=by
 have hu52:=Try.underlying52
 have HB:=am' (Below.refl w.heap.size w)
 have H:((impl_guarded_isOk.f a0 a1 1).bind fun t169=>(if t169=true then (impl_CountGuarded.l0 k a0 a1 0 0 a0 a1 1) else (some (0,false))))=some (r1,r2):=h
 clear h;replace H:=Option.bind_eq_some_iff.mp H
 obtain ⟨t169,A30,H⟩:=H
 replace H:(if t169=true then (impl_CountGuarded.l0 k a0 a1 0 0 a0 a1 1) else (some (0,false)))=some (r1,r2):=H
 have A3:=am' A30
 clear A30;by_cases c4:t169=true
 ·
  subst c4;have H1:(impl_CountGuarded.l0 k a0 a1 0 0 a0 a1 1)=some (r1,r2):=by rw[if_pos rfl] at H;exact H
  clear H;have H:=H1;clear H1;have H':=am' H;clear H;go_enter Try.func12,Try.ntmps12;go_wp2_with (first|((with_reducible refine gate_dst (N:=6) rfl ?_);refine box_event ?hg (N:=6) ?hd (cs:=#[.int .i64 0, .int .i64 0, .int .i64 0]) (t:=52) ?hr ?_;(case hd=>rfl);(case hg=>rfl);(case hr=>first|(go_simp;done)|(go_simp;rfl));intro gb168 hg w5 hbox hb;have n0_:=am' (bt' xb' hb);have n1_:=am' (hbox);have n2_:=am' ((by rw[hg];exact (bz' xb'):w.heap.size≤gb168));have n3_:=am' ((by rw[hg];exact (bz' xb'):w.heap.size≤gb168));clear HB;have HB:=n0_;have BK168:=n1_;have GW168:=n2_;have GE168:=n3_;clear n0_ n1_ n2_ n3_;clear hb hbox hg;have hcz6_0:w5.cell? ⟨gb168,0,none⟩=some (.int .i64 0):=(bc' BK168.out 0).trans rfl;have hcz6_1:w5.cell? ⟨gb168,1,none⟩=some (.int .i64 0):=(bc' BK168.out 1).trans rfl;have hcz6_2:w5.cell? ⟨gb168,2,none⟩=some (.int .i64 0):=(bc' BK168.out 2).trans rfl;have hfz6_0:=bf' BK168.out 0;have hfz6_1:=bf' BK168.out 1;have hfz6_2:=bf' BK168.out 2)|((with_reducible refine gate_callee (f:=35) rfl ?_);refine goesL_ (some 14) rfl rfl Try.func35 xk' rfl #[.agg #[.int .i64 a0, .int .i64 a1, .int .i64 1]] rfl xl' ?_;(with_reducible refine (impl_guarded_isOk.calls a0 a1 1 true _ A3.out).mono ?_);rintro e w7 ⟨rfl,hb⟩;refine ⟨_,rfl,?_⟩;have n0_:=am' (bb' (g:=gb168) (o := .cells #[.int .i64 a0, .int .i64 a1, .int .i64 1] 52 (0,0)) (by (with_reducible repeat (first|refine kn' ?_ _|refine kd' ?_|refine ka' ?_ _));refine blk_put (cs:=#[.int .i64 a0, .int .i64 a1, .int .i64 0]) ?_ 2 _ rfl;(with_reducible repeat (first|refine kn' ?_ _|refine kd' ?_|refine ka' ?_ _));refine blk_put (cs:=#[.int .i64 a0, .int .i64 0, .int .i64 0]) ?_ 1 _ rfl;(with_reducible repeat (first|refine kn' ?_ _|refine kd' ?_|refine ka' ?_ _));refine blk_put (cs:=#[.int .i64 0, .int .i64 0, .int .i64 0]) ?_ 0 _ rfl;(with_reducible repeat (first|refine kn' ?_ _|refine kd' ?_|refine ka' ?_ _));exact BK168.out) hb);have n1_:=am' (bt' (yb' GE168.out) hb);clear BK168;clear HB;have BK168:=n0_;have HB:=n1_;clear n0_ n1_;(try clear hb);(try clear hb2);(try clear hk);(try clear hi)));go_loopg [7,8] k (fun kq v7 v8 w'=>∃ (x7_1:Int) (x8_1:Int),v7 = .int .i64 x7_1∧v8 = .int .i64 x8_1∧Aside0 (impl_CountGuarded.l0 kq a0 a1 x7_1 x8_1 a0 a1 1=some (r1,r2))∧Aside0 (kq≤k)∧Aside0 (w'.heap[gb168]? = some (.cells #[.int .i64 a0, .int .i64 a1, .int .i64 1] 52 (0,0)))∧Aside0 (Below w.heap.size w w'))
  case atStart=>exact ⟨(0),(0),xs',xs',H',⟨Nat.le_refl _⟩,⟨kk' BK168.out⟩,⟨yb' GE168.out⟩⟩
  case round =>
   clear H';try clear c1
   try clear p2
   try clear c3
   try clear c4
   try clear hcz6_0
   try clear hcz6_1
   try clear hcz6_2
   try clear hfz6_0
   try clear hfz6_1
   try clear hfz6_2
   obtain ⟨x7_1,x8_1,rfl,rfl,HA,HK1,BK168,HB⟩:=hrel;cases gk with
   | zero=>exact absurd HA.out (by simp[impl_CountGuarded.l0])
   | succ k1 =>
    have H:=HA.out;clear HA;simp only[impl_CountGuarded.l0] at H;by_cases c8:x8_1≤a0
    ·
     rw[if_pos c8] at H;have c8b0:decide (x8_1≤a0)=true:=dt' c8;clear c8;have H':=am' H;clear H;go_wp2;go_loopg [7,9] k1 (fun kq v7 v9 w'=>∃ (x7_2:Int) (x9_2:Int),v7 = .int .i64 x7_2∧v9 = .int .i64 x9_2∧Aside0 (impl_CountGuarded.l1 kq a0 a1 x7_2 x8_1 x9_2 a0 a1 1=some (r1,r2))∧Aside0 (kq≤k1)∧Aside0 (w'.heap[gb168]? = some (.cells #[.int .i64 a0, .int .i64 a1, .int .i64 1] 52 (0,0)))∧Aside0 (Below w.heap.size w w'))
     case atStart=>exact ⟨(x7_1),(0),xs',xs',H',⟨Nat.le_refl _⟩,⟨kk' BK168.out⟩,⟨yb' GE168.out⟩⟩
     case round =>
      clear H';try clear c1
      try clear p2
      try clear c3
      try clear c4
      try clear c8
      try clear c8b0
      try clear hcz6_0
      try clear hcz6_1
      try clear hcz6_2
      try clear hfz6_0
      try clear hfz6_1
      try clear hfz6_2
      try clear p2
      obtain ⟨x7_2,x9_2,rfl,rfl,HA,HK2,BK168,HB⟩:=hrel;cases gk with
      | zero=>exact absurd HA.out (by simp[impl_CountGuarded.l1])
      | succ k2 =>
       have H:=HA.out;clear HA;simp only[impl_CountGuarded.l1] at H;by_cases c9:x9_2≤a1
       ·
        rw[if_pos c9] at H;have c9b0:decide (x9_2≤a1)=true:=dt' c9;clear c9;replace H:=Option.bind_eq_some_iff.mp H;obtain ⟨t170,A100,H⟩:=H;replace H:((impl_bit.f t170).bind fun t171=>(impl_CountGuarded.l1 k2 a0 a1 (wrap64 (x7_2+t171)) x8_1 (wrap64 (x9_2+1)) a0 a1 1))=some (r1,r2):=H;have A10:=am' A100;clear A100;replace H:=Option.bind_eq_some_iff.mp H;obtain ⟨t171,A110,H⟩:=H;replace H:(impl_CountGuarded.l1 k2 a0 a1 (wrap64 (x7_2+t171)) x8_1 (wrap64 (x9_2+1)) a0 a1 1)=some (r1,r2):=H;have A11:=am' A110;clear A110;have H':=am' H;clear H;have hcz12_0:wr.cell? ⟨gb168,0,none⟩=some (.int .i64 a0):=(bc' BK168.out 0).trans rfl;have hcz12_1:wr.cell? ⟨gb168,1,none⟩=some (.int .i64 a1):=(bc' BK168.out 1).trans rfl;have hcz12_2:wr.cell? ⟨gb168,2,none⟩=some (.int .i64 1):=(bc' BK168.out 2).trans rfl;have hfz12_0:=bf' BK168.out 0;have hfz12_1:=bf' BK168.out 1;have hfz12_2:=bf' BK168.out 2;go_wp2_with (first|((with_reducible refine gate_callee (f:=37) rfl ?_);refine goesL_ (some 30) rfl rfl Try.func37 xk' rfl #[.agg #[.int .i64 a0, .int .i64 a1, .int .i64 1], .int .i64 x8_1, .int .i64 x9_2] rfl xl' ?_;(with_reducible refine (impl_guarded_bothFine.calls a0 a1 1 x8_1 x9_2 t170 _ A10.out).mono ?_);rintro e w13 ⟨rfl,hb⟩;refine ⟨_,rfl,?_⟩;have n0_:=am' (bb' (g:=gb168) (o := .cells #[.int .i64 a0, .int .i64 a1, .int .i64 1] 52 (0,0)) (kk' BK168.out) hb);have n1_:=am' (bt' (yb' GE168.out) hb);clear BK168;clear HB;have BK168:=n0_;have HB:=n1_;clear n0_ n1_;(try clear hb);(try clear hb2);(try clear hk);(try clear hi))|((with_reducible refine gate_callee (f:=36) rfl ?_);refine goesL_ (some 31) rfl rfl Try.func36 xk' rfl #[.bool t170] rfl xl' ?_;(with_reducible refine (impl_bit.calls t170 t171 _ A11.out).mono ?_);rintro e w' ⟨rfl,⟨nd,rfl⟩⟩;refine ⟨_,rfl,?_⟩));go_roundg k2
        case measure=>have:=HK1.out;have:=HK2.out;omega
        case rel=>exact ⟨(wrap64 (x7_2+t171)),(wrap64 (x9_2+1)),xs',xs',H',⟨by have:=HK1.out;have:=HK2.out;omega⟩,⟨kk' BK168.out⟩,⟨yb' GE168.out⟩⟩
       ·
        rw[if_neg c9] at H;have c9b0:decide (x9_2≤a1)=false:=df' c9;clear c9;have H':=am' H;clear H;go_wp2;go_roundg k2
        case measure=>have:=HK1.out;have:=HK2.out;omega
        case rel=>exact ⟨(x7_2),(wrap64 (x8_1+1)),xs',xs',H',⟨by have:=HK1.out;have:=HK2.out;omega⟩,⟨kk' BK168.out⟩,⟨yb' GE168.out⟩⟩
    ·
     rw[if_neg c8] at H;have c8b0:decide (x8_1≤a0)=false:=df' c8;clear c8;simp only[Option.some.injEq,Prod.mk.injEq] at H;obtain ⟨rfl,rfl⟩:=H;go_wp2;go_ret2
     exact ⟨by first|rfl|(simp[errW_none,errW_some] <;> rfl)|(simp[*,errW_none,errW_some] <;> rfl),yb' GE168.out⟩
 ·
  replace c4:=Bool.eq_false_iff.mpr c4;subst c4;have H1:(some (0,false))=some (r1,r2):=by rw[if_neg (show ¬ (false=true) by decide)] at H;exact H
  clear H;have H:=H1;clear H1;simp only[Option.some.injEq,Prod.mk.injEq] at H;obtain ⟨rfl,rfl⟩:=H;go_enter Try.func12,Try.ntmps12;go_wp2_with (first|((with_reducible refine gate_dst (N:=6) rfl ?_);refine box_event ?hg (N:=6) ?hd (cs:=#[.int .i64 0, .int .i64 0, .int .i64 0]) (t:=52) ?hr ?_;(case hd=>rfl);(case hg=>rfl);(case hr=>first|(go_simp;done)|(go_simp;rfl));intro gb168 hg w14 hbox hb;have n0_:=am' (bt' xb' hb);have n1_:=am' (hbox);have n2_:=am' ((by rw[hg];exact (bz' xb'):w.heap.size≤gb168));have n3_:=am' ((by rw[hg];exact (bz' xb'):w.heap.size≤gb168));clear HB;have HB:=n0_;have BK168:=n1_;have GW168:=n2_;have GE168:=n3_;clear n0_ n1_ n2_ n3_;clear hb hbox hg;have hcz15_0:w14.cell? ⟨gb168,0,none⟩=some (.int .i64 0):=(bc' BK168.out 0).trans rfl;have hcz15_1:w14.cell? ⟨gb168,1,none⟩=some (.int .i64 0):=(bc' BK168.out 1).trans rfl;have hcz15_2:w14.cell? ⟨gb168,2,none⟩=some (.int .i64 0):=(bc' BK168.out 2).trans rfl;have hfz15_0:=bf' BK168.out 0;have hfz15_1:=bf' BK168.out 1;have hfz15_2:=bf' BK168.out 2)|((with_reducible refine gate_callee (f:=35) rfl ?_);refine goesL_ (some 14) rfl rfl Try.func35 xk' rfl #[.agg #[.int .i64 a0, .int .i64 a1, .int .i64 1]] rfl xl' ?_;(with_reducible refine (impl_guarded_isOk.calls a0 a1 1 false _ A3.out).mono ?_);rintro e w16 ⟨rfl,hb⟩;refine ⟨_,rfl,?_⟩;have n0_:=am' (bb' (g:=gb168) (o := .cells #[.int .i64 a0, .int .i64 a1, .int .i64 1] 52 (0,0)) (by (with_reducible repeat (first|refine kn' ?_ _|refine kd' ?_|refine ka' ?_ _));refine blk_put (cs:=#[.int .i64 a0, .int .i64 a1, .int .i64 0]) ?_ 2 _ rfl;(with_reducible repeat (first|refine kn' ?_ _|refine kd' ?_|refine ka' ?_ _));refine blk_put (cs:=#[.int .i64 a0, .int .i64 0, .int .i64 0]) ?_ 1 _ rfl;(with_reducible repeat (first|refine kn' ?_ _|refine kd' ?_|refine ka' ?_ _));refine blk_put (cs:=#[.int .i64 0, .int .i64 0, .int .i64 0]) ?_ 0 _ rfl;(with_reducible repeat (first|refine kn' ?_ _|refine kd' ?_|refine ka' ?_ _));exact BK168.out) hb);have n1_:=am' (bt' (yb' GE168.out) hb);clear BK168;clear HB;have BK168:=n0_;have HB:=n1_;clear n0_ n1_;(try clear hb);(try clear hb2);(try clear hk);(try clear hi)));go_ret2
  exact ⟨by first|rfl|(simp[errW_none,errW_some] <;> rfl)|(simp[*,errW_none,errW_some] <;> rfl),yb' GE168.out⟩
mutual
def spec_CountGuarded.l0:Nat→Int→Int→Int→Int→Option (Int × Bool)
 | 0,_,_,_,_=>none
 | k+1,x0,x1,x6,x7=>if x7≤x0 then (spec_CountGuarded.l1 k x0 x1 x6 x7 0) else (some (x6,true))
def spec_CountGuarded.l1:Nat→Int→Int→Int→Int→Int→Option (Int × Bool)
 | 0,_,_,_,_,_=>none
 | k+1,x0,x1,x6,x7,x8=>if x8≤x1 then ((spec_cuGuarded.f x0 x1 x7 x8).bind fun t173=>(if t173=true then (spec_CountGuarded.l1 k x0 x1 (wrap64 (x6+1)) x7 (wrap64 (x8+1))) else (spec_CountGuarded.l1 k x0 x1 x6 x7 (wrap64 (x8+1))))) else (spec_CountGuarded.l0 k x0 x1 x6 (wrap64 (x7+1)))
end
def spec_CountGuarded.f (k:Nat) (a0:Int) (a1:Int):Option (Int × Bool):=(spec_cuSides.f a0 a1 1).bind fun t172=>(if t172=true then (spec_CountGuarded.l0 k a0 a1 0 0) else (some (0,false)))
theorem spec_CountGuarded.mono_l:∀ k,(∀ y0 y1 y2 y3,LeO (spec_CountGuarded.l0 k y0 y1 y2 y3) (spec_CountGuarded.l0 (k+1) y0 y1 y2 y3))∧(∀ y0 y1 y2 y3 y4,LeO (spec_CountGuarded.l1 k y0 y1 y2 y3 y4) (spec_CountGuarded.l1 (k+1) y0 y1 y2 y3 y4))
 | 0=>⟨fun _ _ _ _ r h=>by simp[spec_CountGuarded.l0] at h,fun _ _ _ _ _ r h=>by simp[spec_CountGuarded.l1] at h⟩
 | k+1=>by
  obtain ⟨ih0,ih1⟩:=spec_CountGuarded.mono_l k;refine ⟨?_,?_⟩
  ·
   intro y0 y1 y2 y3;unfold spec_CountGuarded.l0
   repeat' first
   | (with_reducible exact ih0 _ _ _ _)
   | (with_reducible exact ih1 _ _ _ _ _)
   | (with_reducible exact LeO.refl _)
   | (with_reducible exact LeO.none _)
   | (with_reducible refine LeO.ite ?_ ?_)
   | (with_reducible refine LeO.bind ?_ (fun _=>?_))
   | exact ih0 _ _ _ _
   | exact ih1 _ _ _ _ _
   | exact LeO.none _
   | refine LeO.ite ?_ ?_
   | refine LeO.bind ?_ (fun _=>?_)
  ·
   intro y0 y1 y2 y3 y4;unfold spec_CountGuarded.l1
   repeat' first
   | (with_reducible exact ih0 _ _ _ _)
   | (with_reducible exact ih1 _ _ _ _ _)
   | (with_reducible exact LeO.refl _)
   | (with_reducible exact LeO.none _)
   | (with_reducible refine LeO.ite ?_ ?_)
   | (with_reducible refine LeO.bind ?_ (fun _=>?_))
   | exact ih0 _ _ _ _
   | exact ih1 _ _ _ _ _
   | exact LeO.none _
   | refine LeO.ite ?_ ?_
   | refine LeO.bind ?_ (fun _=>?_)
theorem spec_CountGuarded.mono:∀ a0 a1 k,LeO (spec_CountGuarded.f k a0 a1) (spec_CountGuarded.f (k+1) a0 a1):=by
 intro a0 a1 k;obtain ⟨ih0,ih1⟩:=spec_CountGuarded.mono_l k
 unfold spec_CountGuarded.f
 repeat' first
   | (with_reducible exact ih0 _ _ _ _)
   | (with_reducible exact ih1 _ _ _ _ _)
   | (with_reducible exact LeO.refl _)
   | (with_reducible exact LeO.none _)
   | (with_reducible refine LeO.ite ?_ ?_)
   | (with_reducible refine LeO.bind ?_ (fun _=>?_))
   | exact ih0 _ _ _ _
   | exact ih1 _ _ _ _ _
   | exact LeO.none _
   | refine LeO.ite ?_ ?_
   | refine LeO.bind ?_ (fun _=>?_)
set_option maxHeartbeats 8000000 in
set_option maxRecDepth 100000 in
theorem spec_CountGuarded.calls (k:Nat) (a0:Int) (a1:Int) (r1:Int) (r2:Bool) (w:World) (h:spec_CountGuarded.f k a0 a1=some (r1,r2)) :
  Calls Try.prog 13 #[.int .i64 a0, .int .i64 a1] w fun e w'=>e = .returned (.tuple #[.int .i64 r1, .bool r2])∧Drawn0 w w':=by
 have H:((spec_cuSides.f a0 a1 1).bind fun t172=>(if t172=true then (spec_CountGuarded.l0 k a0 a1 0 0) else (some (0,false))))=some (r1,r2):=h
 clear h;replace H:=Option.bind_eq_some_iff.mp H
 obtain ⟨t172,A30,H⟩:=H
 replace H:(if t172=true then (spec_CountGuarded.l0 k a0 a1 0 0) else (some (0,false)))=some (r1,r2):=H
 have A3:=am' A30
 clear A30;by_cases c4:t172=true
 ·
  subst c4;have H1:(spec_CountGuarded.l0 k a0 a1 0 0)=some (r1,r2):=by rw[if_pos rfl] at H;exact H
  clear H;have H:=H1;clear H1;have H':=am' H;clear H;go_enter Try.func13,Try.ntmps13;go_wp2_with (first|((with_reducible refine gate_callee (f:=30) rfl ?_);refine goesL_ (some 11) rfl rfl Try.func30 xk' rfl #[.int .i64 a0, .int .i64 a1, .int .i64 1] rfl xl' ?_;(with_reducible refine (spec_cuSides.calls a0 a1 1 true _ A3.out).mono ?_);rintro e w' ⟨rfl,⟨nd,rfl⟩⟩;refine ⟨_,rfl,?_⟩));go_loopg [6,7] k (fun kq v6 v7 w'=>∃ (x6_1:Int) (x7_1:Int),v6 = .int .i64 x6_1∧v7 = .int .i64 x7_1∧Aside0 (spec_CountGuarded.l0 kq a0 a1 x6_1 x7_1=some (r1,r2))∧Aside0 (kq≤k)∧Drawn0 w w')
  case atStart=>exact ⟨(0),(0),xs',xs',H',⟨Nat.le_refl _⟩,by repeat (first|exact Drawn0.refl _|apply Drawn0.step)⟩
  case round =>
   clear H';try clear c1
   try clear p2
   try clear c3
   try clear c4
   obtain ⟨x6_1,x7_1,rfl,rfl,HA,HK1,⟨m1,rfl⟩⟩:=hrel;cases gk with
   | zero=>exact absurd HA.out (by simp[spec_CountGuarded.l0])
   | succ k1 =>
    have H:=HA.out;clear HA;simp only[spec_CountGuarded.l0] at H;by_cases c5:x7_1≤a0
    ·
     rw[if_pos c5] at H;have c5b0:decide (x7_1≤a0)=true:=dt' c5;clear c5;have H':=am' H;clear H;go_wp2;go_loopg [6,8] k1 (fun kq v6 v8 w'=>∃ (x6_2:Int) (x8_2:Int),v6 = .int .i64 x6_2∧v8 = .int .i64 x8_2∧Aside0 (spec_CountGuarded.l1 kq a0 a1 x6_2 x7_1 x8_2=some (r1,r2))∧Aside0 (kq≤k1)∧Drawn0 w w')
     case atStart=>exact ⟨(x6_1),(0),xs',xs',H',⟨Nat.le_refl _⟩,by repeat (first|exact Drawn0.refl _|apply Drawn0.step)⟩
     case round =>
      clear H';try clear c1
      try clear p2
      try clear c3
      try clear c4
      try clear c5
      try clear c5b0
      try clear p2
      obtain ⟨x6_2,x8_2,rfl,rfl,HA,HK2,⟨m2,rfl⟩⟩:=hrel;cases gk with
      | zero=>exact absurd HA.out (by simp[spec_CountGuarded.l1])
      | succ k2 =>
       have H:=HA.out;clear HA;simp only[spec_CountGuarded.l1] at H;by_cases c6:x8_2≤a1
       ·
        rw[if_pos c6] at H;have c6b0:decide (x8_2≤a1)=true:=dt' c6;clear c6;replace H:=Option.bind_eq_some_iff.mp H;obtain ⟨t173,A70,H⟩:=H;replace H:(if t173=true then (spec_CountGuarded.l1 k2 a0 a1 (wrap64 (x6_2+1)) x7_1 (wrap64 (x8_2+1))) else (spec_CountGuarded.l1 k2 a0 a1 x6_2 x7_1 (wrap64 (x8_2+1))))=some (r1,r2):=H;have A7:=am' A70;clear A70;by_cases c8:t173=true
        ·
         subst c8;have H1:(spec_CountGuarded.l1 k2 a0 a1 (wrap64 (x6_2+1)) x7_1 (wrap64 (x8_2+1)))=some (r1,r2):=by rw[if_pos rfl] at H;exact H
         clear H;have H:=H1;clear H1;have H':=am' H;clear H;go_wp2_with (first|((with_reducible refine gate_callee (f:=38) rfl ?_);refine goesL_ (some 27) rfl rfl Try.func38 xk' rfl #[.int .i64 a0, .int .i64 a1, .int .i64 x7_1, .int .i64 x8_2] rfl xl' ?_;(with_reducible refine (spec_cuGuarded.calls a0 a1 x7_1 x8_2 true _ A7.out).mono ?_);rintro e w' ⟨rfl,⟨nd,rfl⟩⟩;refine ⟨_,rfl,?_⟩));go_roundg k2
         case measure=>have:=HK1.out;have:=HK2.out;omega
         case rel=>exact ⟨(wrap64 (x6_2+1)),(wrap64 (x8_2+1)),xs',xs',H',⟨by have:=HK1.out;have:=HK2.out;omega⟩,by repeat (first|exact Drawn0.refl _|apply Drawn0.step)⟩
        ·
         replace c8:=Bool.eq_false_iff.mpr c8;subst c8;have H1:(spec_CountGuarded.l1 k2 a0 a1 x6_2 x7_1 (wrap64 (x8_2+1)))=some (r1,r2):=by rw[if_neg (show ¬ (false=true) by decide)] at H;exact H
         clear H;have H:=H1;clear H1;have H':=am' H;clear H;go_wp2_with (first|((with_reducible refine gate_callee (f:=38) rfl ?_);refine goesL_ (some 27) rfl rfl Try.func38 xk' rfl #[.int .i64 a0, .int .i64 a1, .int .i64 x7_1, .int .i64 x8_2] rfl xl' ?_;(with_reducible refine (spec_cuGuarded.calls a0 a1 x7_1 x8_2 false _ A7.out).mono ?_);rintro e w' ⟨rfl,⟨nd,rfl⟩⟩;refine ⟨_,rfl,?_⟩));go_roundg k2
         case measure=>have:=HK1.out;have:=HK2.out;omega
         case rel=>exact ⟨(x6_2),(wrap64 (x8_2+1)),xs',xs',H',⟨by have:=HK1.out;have:=HK2.out;omega⟩,by repeat (first|exact Drawn0.refl _|apply Drawn0.step)⟩
       ·
        rw[if_neg c6] at H;have c6b0:decide (x8_2≤a1)=false:=df' c6;clear c6;have H':=am' H;clear H;go_wp2;go_roundg k2
        case measure=>have:=HK1.out;have:=HK2.out;omega
        case rel=>exact ⟨(x6_2),(wrap64 (x7_1+1)),xs',xs',H',⟨by have:=HK1.out;have:=HK2.out;omega⟩,by repeat (first|exact Drawn0.refl _|apply Drawn0.step)⟩
    ·
     rw[if_neg c5] at H;have c5b0:decide (x7_1≤a0)=false:=df' c5;clear c5;simp only[Option.some.injEq,Prod.mk.injEq] at H;obtain ⟨rfl,rfl⟩:=H;go_wp2;go_ret2
     exact ⟨xs',by repeat (first|exact Drawn0.refl _|apply Drawn0.step)⟩
 ·
  replace c4:=Bool.eq_false_iff.mpr c4;subst c4;have H1:(some (0,false))=some (r1,r2):=by rw[if_neg (show ¬ (false=true) by decide)] at H;exact H
  clear H;have H:=H1;clear H1;simp only[Option.some.injEq,Prod.mk.injEq] at H;obtain ⟨rfl,rfl⟩:=H;go_enter Try.func13,Try.ntmps13;go_wp2_with (first|((with_reducible refine gate_callee (f:=30) rfl ?_);refine goesL_ (some 11) rfl rfl Try.func30 xk' rfl #[.int .i64 a0, .int .i64 a1, .int .i64 1] rfl xl' ?_;(with_reducible refine (spec_cuSides.calls a0 a1 1 false _ A3.out).mono ?_);rintro e w' ⟨rfl,⟨nd,rfl⟩⟩;refine ⟨_,rfl,?_⟩));go_ret2
  exact ⟨xs',by repeat (first|exact Drawn0.refl _|apply Drawn0.step)⟩
end Go.Proofs.Ytabhhkiipilghaa.C1
