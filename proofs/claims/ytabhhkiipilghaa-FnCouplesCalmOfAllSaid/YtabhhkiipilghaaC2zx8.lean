import Derived.Test.YtabhhkiipilghaaC2zx0
import Derived.Test.YtabhhkiipilghaaC2zx5
import Derived.Test.YtabhhkiipilghaaC2zx6
import Derived.Test.YtabhhkiipilghaaC2zx7
import Derived.Test.YtabhhkiipilghaaC2zAl
namespace Go.Proofs.Ytabhhkiipilghaa.C2
open Go.RowKit Go.Proofs.YtabhhkiipilghaaW.PrintWords Go.Proofs.YtabhhkiipilghaaW.PrintLast Go.Proofs.YtabhhkiipilghaaW.PrintMore Go.Proofs.Ytabhhkiipilghaa.H
attribute [local go_sem] max2_int min2_int max_two min_two max_three min_three max_four min_four
set_option linter.unusedVariables false
set_option linter.unusedSimpArgs false
mutual
def spec_cuRows.l0:Nat→Int→List Int→Int→Int→Int→Option (List Int)
 | 0,_,_,_,_,_=>none
 | k+1,x1,x5,x6,x190000,x190001=>(spec_cuSize.f x190000 x190001).bind fun t190=>(if x6 < t190 then ((spec_cuCan.f k x190000 x190001 x1 x6).bind fun t191=>(if t191=true then (spec_cuRows.l1 k x1 x5 x6 (x5.length:Int) x190000 x190001) else (spec_cuRows.l0 k x1 x5 (wrap64 (x6+1)) x190000 x190001))) else (some x5))
def spec_cuRows.l1:Nat→Int→List Int→Int→Int→Int→Int→Option (List Int)
 | 0,_,_,_,_,_,_=>none
 | k+1,x1,x5,x6,x7,x190000,x190001=>if x7 > 0 then ((spec_cuList.f k x6).bind fun t192=>(if 0≤(wrap64 (x7 - 1)) then (if (wrap64 (x7 - 1)) < (x5.length:Int) then ((spec_cuList.f k (rd x5 (wrap64 (x7 - 1)))).bind fun t196=>((spec_cuBefore.f k t192 t196).bind fun t199=>(if t199=true then (spec_cuRows.l1 k x1 x5 x6 (wrap64 (x7 - 1)) x190000 x190001) else (if 0≤x7 then (if x7≤(x5.length:Int) then ((spec_l1Own.f (x5.take (x7:Int).toNat)).bind fun t204=>(if t204.length < 17592186044416 then ((some (t204 ++ [x6]:List Int)).bind fun y207=>((some (x5.drop (x7:Int).toNat:List Int)).bind fun y210=>(if y207.length+y210.length < 17592186044416 then (spec_cuRows.l0 k x1 (y207 ++ y210) (wrap64 (x6+1)) x190000 x190001) else (none)))) else (none))) else (none)) else (none))))) else (none)) else (none))) else (if 0≤x7 then (if x7≤(x5.length:Int) then ((spec_l1Own.f (x5.take (x7:Int).toNat)).bind fun t221=>(if t221.length < 17592186044416 then ((some (t221 ++ [x6]:List Int)).bind fun y224=>((some (x5.drop (x7:Int).toNat:List Int)).bind fun y227=>(if y224.length+y227.length < 17592186044416 then (spec_cuRows.l0 k x1 (y224 ++ y227) (wrap64 (x6+1)) x190000 x190001) else (none)))) else (none))) else (none)) else (none))
end
def spec_cuRows.f (k:Nat) (a0_0:Int) (a0_1:Int) (a1:Int):Option (List Int):=spec_cuRows.l0 k a1 ([]:List Int) 1 a0_0 a0_1
theorem spec_cuRows.mono_l:∀ k,(∀ y0 y1 y2 y3 y4,LeO (spec_cuRows.l0 k y0 y1 y2 y3 y4) (spec_cuRows.l0 (k+1) y0 y1 y2 y3 y4))∧(∀ y0 y1 y2 y3 y4 y5,LeO (spec_cuRows.l1 k y0 y1 y2 y3 y4 y5) (spec_cuRows.l1 (k+1) y0 y1 y2 y3 y4 y5))
 | 0=>⟨fun _ _ _ _ _ r h=>by simp[spec_cuRows.l0] at h,fun _ _ _ _ _ _ r h=>by simp[spec_cuRows.l1] at h⟩
 | k+1=>by
  obtain ⟨ih0,ih1⟩:=spec_cuRows.mono_l k;refine ⟨?_,?_⟩
  ·
   intro y0 y1 y2 y3 y4;unfold spec_cuRows.l0
   repeat' first
   | (with_reducible exact ih0 _ _ _ _ _)
   | (with_reducible exact ih1 _ _ _ _ _ _)
   | (with_reducible exact spec_cuBefore.mono _ _ _)
   | (with_reducible exact spec_cuCan.mono _ _ _ _ _)
   | (with_reducible exact spec_cuList.mono _ _)
   | (with_reducible exact LeO.refl _)
   | (with_reducible exact LeO.none _)
   | (with_reducible refine LeO.ite ?_ ?_)
   | (with_reducible refine LeO.bind ?_ (fun _=>?_))
   | exact ih0 _ _ _ _ _
   | exact ih1 _ _ _ _ _ _
   | exact spec_cuBefore.mono _ _ _
   | exact spec_cuCan.mono _ _ _ _ _
   | exact spec_cuList.mono _ _
   | exact LeO.none _
   | refine LeO.ite ?_ ?_
   | refine LeO.bind ?_ (fun _=>?_)
  ·
   intro y0 y1 y2 y3 y4 y5;unfold spec_cuRows.l1
   repeat' first
   | (with_reducible exact ih0 _ _ _ _ _)
   | (with_reducible exact ih1 _ _ _ _ _ _)
   | (with_reducible exact spec_cuBefore.mono _ _ _)
   | (with_reducible exact spec_cuCan.mono _ _ _ _ _)
   | (with_reducible exact spec_cuList.mono _ _)
   | (with_reducible exact LeO.refl _)
   | (with_reducible exact LeO.none _)
   | (with_reducible refine LeO.ite ?_ ?_)
   | (with_reducible refine LeO.bind ?_ (fun _=>?_))
   | exact ih0 _ _ _ _ _
   | exact ih1 _ _ _ _ _ _
   | exact spec_cuBefore.mono _ _ _
   | exact spec_cuCan.mono _ _ _ _ _
   | exact spec_cuList.mono _ _
   | exact LeO.none _
   | refine LeO.ite ?_ ?_
   | refine LeO.bind ?_ (fun _=>?_)
theorem spec_cuRows.mono:∀ a0 a1 a2 k,LeO (spec_cuRows.f k a0 a1 a2) (spec_cuRows.f (k+1) a0 a1 a2):=by
 intro a0 a1 a2 k;obtain ⟨ih0,ih1⟩:=spec_cuRows.mono_l k
 unfold spec_cuRows.f
 repeat' first
   | (with_reducible exact ih0 _ _ _ _ _)
   | (with_reducible exact ih1 _ _ _ _ _ _)
   | (with_reducible exact spec_cuBefore.mono _ _ _)
   | (with_reducible exact spec_cuCan.mono _ _ _ _ _)
   | (with_reducible exact spec_cuList.mono _ _)
   | (with_reducible exact LeO.refl _)
   | (with_reducible exact LeO.none _)
   | (with_reducible refine LeO.ite ?_ ?_)
   | (with_reducible refine LeO.bind ?_ (fun _=>?_))
   | exact ih0 _ _ _ _ _
   | exact ih1 _ _ _ _ _ _
   | exact spec_cuBefore.mono _ _ _
   | exact spec_cuCan.mono _ _ _ _ _
   | exact spec_cuList.mono _ _
   | exact LeO.none _
   | refine LeO.ite ?_ ?_
   | refine LeO.bind ?_ (fun _=>?_)
def spec_cuRows.T7:Bool × List (List Nat × List Nat):=(true,[([],[]),([0],[0]),([1],[1]),([2],[2]),([3,2,2],[2,3]),([2],[2]),([2],[2]),([6,2],[2,6]),([5,7,2],[2,5,7]),([8,2],[2,8]),([9,4,2],[2,9]),([4,10,10,2],[2,4,10]),([2,11],[2,11])])
def spec_cuRows.B7:List Nat:=[0,1,3,7,15,7,7,71,231,487,1023,2047,4095]
theorem spec_cuRows.tab7:rtab .any (opsOf Try.f45 7)=spec_cuRows.T7:=by kernel_rfl
theorem spec_cuRows.bits7:waitsOk spec_cuRows.T7.2 spec_cuRows.B7=true:=by kernel_rfl
set_option maxHeartbeats 8000000 in
set_option maxRecDepth 100000 in
theorem spec_cuRows.calls (k:Nat) (a0_0:Int) (a0_1:Int) (a1:Int) (r:List Int) (w:World) (h:spec_cuRows.f k a0_0 a0_1 a1=some r) :
  Calls Try.prog 45 #[.agg #[.int .i64 a0_0, .int .i64 a0_1], .int .i64 a1] w fun e w'=>∃ v0_:Value,e = .returned (v0_)∧Kd.R (Kd.int .i64) 3 w' w.heap.size (fun _=>True) v0_ r∧Below w.heap.size w w':=by
 have hu32:=Try.underlying32
 have HB:=am' (Below.refl w.heap.size w)
 have H:(spec_cuRows.l0 k a1 ([]:List Int) 1 a0_0 a0_1)=some r:=h
 clear h;have H':=am' H
 clear H;go_enter Try.func45,Try.ntmps45
 go_wp2_with (first|((with_reducible refine gate_dst (N:=2) rfl ?_);refine box_event ?hg (N:=2) ?hd (cs:=#[.int .i64 a0_0, .int .i64 a0_1]) (t:=32) ?hr ?_;(case hd=>rfl);(case hg=>rfl);(case hr=>first|(go_simp;done)|(go_simp;rfl));intro gb189 hg w3 hbox hb;have n0_:=am' (bt' xb' hb);have n1_:=am' (hbox);have n2_:=am' ((by rw[hg];exact (bz' xb'):w.heap.size≤gb189));have n3_:=am' ((by rw[hg];exact (bz' xb'):w.heap.size≤gb189));clear HB;have HB:=n0_;have BK189:=n1_;have GW189:=n2_;have GE189:=n3_;clear n0_ n1_ n2_ n3_;clear hb hbox hg))
 go_loopg [5,6] k (fun kq v5 v6 w'=>∃ (x5_1:List Int) (x6_1:Int),v6 = .int .i64 x6_1∧Aside0 (spec_cuRows.l0 kq a1 x5_1 x6_1 a0_0 a0_1=some r)∧Aside0 (kq≤k)∧Aside0 (Kd.R (Kd.int .i64) 3 w' w.heap.size (fun _=>True) v5 x5_1)∧Aside0 (w'.heap[gb189]? = some (.cells #[.int .i64 a0_0, .int .i64 a0_1] 32 (0,0)))∧Aside0 (Below w.heap.size w w'))
 case atStart=>exact ⟨(([]:List Int)),(1),xs',H',⟨Nat.le_refl _⟩,⟨by first|exact Kd.R_nil _ _ _ _ _|exact Kd.N_nil _ _ _ _ _|exact Kd.V_nil _ _ _ _ _|exact Kd.Q_nil _ _ _ _ _|exact Kd.S_nil _ _ _ _ _⟩,⟨kk' BK189.out⟩,⟨yb' GE189.out⟩⟩
 case round =>
  clear H';try clear p2
  obtain ⟨x5_1,x6_1,rfl,HA,HK1,HO_5,BK189,HB⟩:=hrel;cases gk with
  | zero=>exact absurd HA.out (by simp[spec_cuRows.l0])
  | succ k1 =>
   have H:=HA.out;clear HA;simp only[spec_cuRows.l0] at H;replace H:=Option.bind_eq_some_iff.mp H;obtain ⟨t190,A40,H⟩:=H;replace H:(if x6_1 < t190 then ((spec_cuCan.f k1 a0_0 a0_1 a1 x6_1).bind fun t191=>(if t191=true then (spec_cuRows.l1 k1 a1 x5_1 x6_1 (x5_1.length:Int) a0_0 a0_1) else (spec_cuRows.l0 k1 a1 x5_1 (wrap64 (x6_1+1)) a0_0 a0_1))) else (some x5_1))=some r:=H;have A4:=am' A40;clear A40;by_cases c5:x6_1 < t190
   ·
    rw[if_pos c5] at H;have c5b0:decide (x6_1 < t190)=true:=dt' c5;clear c5;replace H:=Option.bind_eq_some_iff.mp H;obtain ⟨t191,A60,H⟩:=H;replace H:(if t191=true then (spec_cuRows.l1 k1 a1 x5_1 x6_1 (x5_1.length:Int) a0_0 a0_1) else (spec_cuRows.l0 k1 a1 x5_1 (wrap64 (x6_1+1)) a0_0 a0_1))=some r:=H;have A6:=am' A60;clear A60;by_cases c7:t191=true
    ·
     subst c7;have H1:(spec_cuRows.l1 k1 a1 x5_1 x6_1 (x5_1.length:Int) a0_0 a0_1)=some r:=by rw[if_pos rfl] at H;exact H
     clear H;have H:=H1;clear H1;have H':=am' H;clear H;have hcz8_0:wr.cell? ⟨gb189,0,none⟩=some (.int .i64 a0_0):=(bc' BK189.out 0).trans rfl;have hcz8_1:wr.cell? ⟨gb189,1,none⟩=some (.int .i64 a0_1):=(bc' BK189.out 1).trans rfl;have hfz8_0:=bf' BK189.out 0;have hfz8_1:=bf' BK189.out 1;go_wp2_with (first|((with_reducible refine gate_callee (f:=69) rfl ?_);refine goesL_ (some 11) rfl rfl Try.func69 xk' rfl #[.agg #[.int .i64 a0_0, .int .i64 a0_1]] rfl xl' ?_;(with_reducible refine (spec_cuSize.calls a0_0 a0_1 t190 _ A4.out).mono ?_);rintro e w9 ⟨rfl,hb⟩;refine ⟨_,rfl,?_⟩;have n0_:=am' (rb' (kr' HO_5.out) hb);have n1_:=am' (bb' (g:=gb189) (o := .cells #[.int .i64 a0_0, .int .i64 a0_1] 32 (0,0)) (kk' BK189.out) hb);have n2_:=am' (bt' (yb' GE189.out) hb);clear HO_5;clear BK189;clear HB;have HO_5:=n0_;have BK189:=n1_;have HB:=n2_;clear n0_ n1_ n2_;(try clear hb);(try clear hb2);(try clear hk);(try clear hi);have hcz10_0:w9.cell? ⟨gb189,0,none⟩=some (.int .i64 a0_0):=(bc' BK189.out 0).trans rfl;have hcz10_1:w9.cell? ⟨gb189,1,none⟩=some (.int .i64 a0_1):=(bc' BK189.out 1).trans rfl;have hfz10_0:=bf' BK189.out 0;have hfz10_1:=bf' BK189.out 1)|((with_reducible refine gate_callee (f:=70) rfl ?_);refine goesL_ (some 18) rfl rfl Try.func70 xk' rfl #[.agg #[.int .i64 a0_0, .int .i64 a0_1], .int .i64 a1, .int .i64 x6_1] rfl xl' ?_;(with_reducible refine (spec_cuCan.calls k1 a0_0 a0_1 a1 x6_1 true _ A6.out).mono ?_);rintro e w11 ⟨rfl,hb⟩;refine ⟨_,rfl,?_⟩;have n0_:=am' (rb' (kr' HO_5.out) hb);have n1_:=am' (bb' (g:=gb189) (o := .cells #[.int .i64 a0_0, .int .i64 a0_1] 32 (0,0)) (kk' BK189.out) hb);have n2_:=am' (bt' (yb' GE189.out) hb);clear HO_5;clear BK189;clear HB;have HO_5:=n0_;have BK189:=n1_;have HB:=n2_;clear n0_ n1_ n2_;(try clear hb);(try clear hb2);(try clear hk);(try clear hi);obtain ⟨Ao12,co12,eo12⟩:=Kd.R_slice HO_5.out;subst eo12));go_loopg [7] k1 (fun kq v7 w'=>∃ (x7_2:Int),v7 = .int .i64 x7_2∧Aside0 (spec_cuRows.l1 kq a1 x5_1 x6_1 x7_2 a0_0 a0_1=some r)∧Aside0 (kq≤k1)∧Aside0 (Kd.R (Kd.int .i64) 3 w' w.heap.size (fun _=>True) (.slice Ao12 x5_1.length co12) x5_1)∧Aside0 (w'.heap[gb189]? = some (.cells #[.int .i64 a0_0, .int .i64 a0_1] 32 (0,0)))∧Aside0 (Below w.heap.size w w'))
     case atStart=>exact ⟨((x5_1.length:Int)),xs',H',⟨Nat.le_refl _⟩,⟨kr' HO_5.out⟩,⟨kk' BK189.out⟩,⟨yb' GE189.out⟩⟩
     case round =>
      clear H';try clear p2
      try clear c4
      try clear c5
      try clear c5b0
      try clear c6
      try clear p6
      try clear c7
      try clear hcz10_0
      try clear hcz10_1
      try clear hcz8_0
      try clear hcz8_1
      try clear hfz10_0
      try clear hfz10_1
      try clear hfz8_0
      try clear hfz8_1
      try clear p2
      obtain ⟨x7_2,rfl,HA,HK2,HO_5,BK189,HB⟩:=hrel;cases gk with
      | zero=>exact absurd HA.out (by simp[spec_cuRows.l1])
      | succ k2 =>
       have H:=HA.out;clear HA;simp only[spec_cuRows.l1] at H;by_cases c13:x7_2 > 0
       ·
        rw[if_pos c13] at H;have c13b0:decide (0 < x7_2)=true:=dt' c13;clear c13;replace H:=Option.bind_eq_some_iff.mp H;obtain ⟨t192,A140,H⟩:=H;replace H:(if 0≤(wrap64 (x7_2 - 1)) then (if (wrap64 (x7_2 - 1)) < (x5_1.length:Int) then ((spec_cuList.f k2 (rd x5_1 (wrap64 (x7_2 - 1)))).bind fun t196=>((spec_cuBefore.f k2 t192 t196).bind fun t199=>(if t199=true then (spec_cuRows.l1 k2 a1 x5_1 x6_1 (wrap64 (x7_2 - 1)) a0_0 a0_1) else (if 0≤x7_2 then (if x7_2≤(x5_1.length:Int) then ((spec_l1Own.f (x5_1.take (x7_2:Int).toNat)).bind fun t204=>(if t204.length < 17592186044416 then ((some (t204 ++ [x6_1]:List Int)).bind fun y207=>((some (x5_1.drop (x7_2:Int).toNat:List Int)).bind fun y210=>(if y207.length+y210.length < 17592186044416 then (spec_cuRows.l0 k2 a1 (y207 ++ y210) (wrap64 (x6_1+1)) a0_0 a0_1) else (none)))) else (none))) else (none)) else (none))))) else (none)) else (none))=some r:=H;have A14:=am' A140;clear A140;obtain ⟨ji15,hji15⟩:∃ j_:Int,(wrap64 (x7_2 - 1))=j_:=⟨_,rfl⟩
        replace H:(if 0≤(ji15) then (if (ji15) < (x5_1.length:Int) then ((spec_cuList.f k2 (rd x5_1 (ji15))).bind fun t196=>((spec_cuBefore.f k2 t192 t196).bind fun t199=>(if t199=true then (spec_cuRows.l1 k2 a1 x5_1 x6_1 ji15 a0_0 a0_1) else (if 0≤x7_2 then (if x7_2≤(x5_1.length:Int) then ((spec_l1Own.f (x5_1.take (x7_2:Int).toNat)).bind fun t204=>(if t204.length < 17592186044416 then ((some (t204 ++ [x6_1]:List Int)).bind fun y207=>((some (x5_1.drop (x7_2:Int).toNat:List Int)).bind fun y210=>(if y207.length+y210.length < 17592186044416 then (spec_cuRows.l0 k2 a1 (y207 ++ y210) (wrap64 (x6_1+1)) a0_0 a0_1) else (none)))) else (none))) else (none)) else (none))))) else (none)) else (none))=some r:=by first|(rw[hji15] at H;exact H)|(simp only[hji15] at H ⊢;exact H)
        (try rw [hji15] at A14)
        have hji15w:(IntKind.i64.wrap (x7_2 - 1))=ji15:=(i64_w _).trans hji15;by_cases c16:0≤(ji15)
        ·
         rw[if_pos c16] at H;have c16b0:decide (0≤(ji15))=true:=dt' c16;clear c16;by_cases c17:(ji15) < (x5_1.length:Int)
         ·
          rw[if_pos c17] at H;have c17b0:decide ((ji15) < (x5_1.length:Int))=true:=dt' c17;clear c17;replace H:=Option.bind_eq_some_iff.mp H;obtain ⟨t196,A180,H⟩:=H;replace H:((spec_cuBefore.f k2 t192 t196).bind fun t199=>(if t199=true then (spec_cuRows.l1 k2 a1 x5_1 x6_1 ji15 a0_0 a0_1) else (if 0≤x7_2 then (if x7_2≤(x5_1.length:Int) then ((spec_l1Own.f (x5_1.take (x7_2:Int).toNat)).bind fun t204=>(if t204.length < 17592186044416 then ((some (t204 ++ [x6_1]:List Int)).bind fun y207=>((some (x5_1.drop (x7_2:Int).toNat:List Int)).bind fun y210=>(if y207.length+y210.length < 17592186044416 then (spec_cuRows.l0 k2 a1 (y207 ++ y210) (wrap64 (x6_1+1)) a0_0 a0_1) else (none)))) else (none))) else (none)) else (none))))=some r:=H;have A18:=am' A180;clear A180;replace H:=Option.bind_eq_some_iff.mp H;obtain ⟨t199,A190,H⟩:=H;replace H:(if t199=true then (spec_cuRows.l1 k2 a1 x5_1 x6_1 ji15 a0_0 a0_1) else (if 0≤x7_2 then (if x7_2≤(x5_1.length:Int) then ((spec_l1Own.f (x5_1.take (x7_2:Int).toNat)).bind fun t204=>(if t204.length < 17592186044416 then ((some (t204 ++ [x6_1]:List Int)).bind fun y207=>((some (x5_1.drop (x7_2:Int).toNat:List Int)).bind fun y210=>(if y207.length+y210.length < 17592186044416 then (spec_cuRows.l0 k2 a1 (y207 ++ y210) (wrap64 (x6_1+1)) a0_0 a0_1) else (none)))) else (none))) else (none)) else (none)))=some r:=H;have A19:=am' A190;clear A190;by_cases c20:t199=true
          ·
           subst c20;have H1:(spec_cuRows.l1 k2 a1 x5_1 x6_1 ji15 a0_0 a0_1)=some r:=by rw[if_pos rfl] at H;exact H
           clear H;have H:=H1;clear H1;have H':=am' H;clear H;try go_wp2
           have n0_:=am' (rw' HO_5.out);have n1_:=am' (kd' BK189.out);have n2_:=am' (be' HB.out);clear HO_5;clear BK189;clear HB;have HO_5:=n0_;have BK189:=n1_;have HB:=n2_;clear n0_ n1_ n2_;have p195:0≤((ji15):Int):=od' xa';have q195:(ji15) < (x5_1.length:Int):=od' xa';obtain ⟨ad195,e195,hx195_0⟩:=Kd.at_int (Kd.R_reads' HO_5.out).2.2 (ji15) p195 q195;cases e195;replace p195:=eq_true p195;replace q195:=eq_true q195;refine start_ (n:=13) (S:=fun w'=>w'.cell? (ad195.add ((ji15)).toNat)=some (.int .i64 (rd x5_1 (ji15)))) (ds:=[]) #[false,false,false,false,false,false,false,false,false,false,false,false,false] xk' rfl rfl (hx195_0) (fun hHeld=>?_);refine with_tabW spec_cuRows.tab7 spec_cuRows.bits7 (fun HT_ HW_=>?_);generalize wr.drew=w21 at HO_5 BK189 HB hx195_0 hHeld ⊢
           refine pure_ (i:=0) (N:=some 22) (v:=?_) (a':=?_) #[true,false,false,false,false,false,false,false,false,false,false,false,false] rfl rfl (any_of HT_.out xk') (fun _ _ _ h=>h) (Or.inl ⟨by rfl,?_⟩) ?_ ?_
           rotate_left
           ·
            intro w';go_simp;with_reducible rfl
           rotate_left
           ·
            simp only[Act.put,sa',sb',sc',i64_w,i32_w];rfl
           refine pure_ (i:=1) (N:=some 23) (v:=?_) (a':=?_) #[true,true,false,false,false,false,false,false,false,false,false,false,false] rfl rfl (any_of HT_.out xk') (fun _ _ _ h=>h) (Or.inl ⟨by rfl,?_⟩) ?_ ?_
           rotate_left
           ·
            intro w';go_simp;with_reducible rfl
           rotate_left
           ·
            simp only[Act.put,sa',sb',sc',i64_w,i32_w];rfl
           refine pure_ (i:=2) (N:=some 24) (v:=?_) (a':=?_) #[true,true,true,false,false,false,false,false,false,false,false,false,false] rfl rfl (any_of HT_.out xk') (fun _ _ _ h=>h) (Or.inl ⟨by rfl,?_⟩) ?_ ?_
           rotate_left
           ·
            intro w';go_simp;with_reducible rfl
           rotate_left
           ·
            simp only[Act.put,sa',sb',sc',i64_w,i32_w];rfl
           refine pure_ (i:=3) (N:=some 25) (v:=?_) (a':=?_) #[true,true,true,true,false,false,false,false,false,false,false,false,false] rfl rfl (any_of HT_.out xk') (fun _ _ _ h=>h) (Or.inl ⟨by rfl,?_⟩) ?_ ?_
           rotate_left
           ·
            intro w';go_simp;with_reducible rfl
           rotate_left
           ·
            simp only[Act.put,sa',sb',sc',i64_w,i32_w];rfl
           refine pure_ (i:=5) (N:=some 27) (v:=?_) (a':=?_) #[true,true,true,true,false,true,false,false,false,false,false,false,false] rfl rfl (any_of HT_.out xk') (fun _ _ _ h=>h) (Or.inl ⟨by rfl,?_⟩) ?_ ?_
           rotate_left
           ·
            intro w';go_simp;with_reducible rfl
           rotate_left
           ·
            simp only[Act.put,sa',sb',sc',i64_w,i32_w];rfl
           refine pure_ (i:=6) (N:=some 28) (v:=?_) (a':=?_) #[true,true,true,true,false,true,true,false,false,false,false,false,false] rfl rfl (any_of HT_.out xk') (fun _ _ _ h=>h) (Or.inl ⟨by rfl,?_⟩) ?_ ?_
           rotate_left
           ·
            intro w';go_simp;with_reducible rfl
           rotate_left
           ·
            simp only[Act.put,sa',sb',sc',i64_w,i32_w];rfl
           refine pure_ (i:=7) (N:=some 29) (v:=?_) (a':=?_) #[true,true,true,true,false,true,true,true,false,false,false,false,false] rfl rfl (any_of HT_.out xk') (fun _ _ _ h=>h) (Or.inl ⟨by rfl,?_⟩) ?_ ?_
           rotate_left
           ·
            intro w';go_simp;with_reducible rfl
           rotate_left
           ·
            simp only[Act.put,sa',sb',sc',i64_w,i32_w];rfl
           refine pure_ (i:=8) (N:=some 30) (v:=?_) (a':=?_) #[true,true,true,true,false,true,true,true,true,false,false,false,false] rfl rfl (any_of HT_.out xk') (fun _ _ _ h=>h) (Or.inl ⟨by rfl,?_⟩) ?_ ?_
           rotate_left
           ·
            intro w';go_simp;with_reducible rfl
           rotate_left
           ·
            simp only[Act.put,sa',sb',sc',i64_w,i32_w];rfl
           refine take_ (i:=9) (N:=some 31) (v:=?_) (a':=?_) #[true,true,true,true,false,true,true,true,true,true,false,false,false] rfl rfl (take_ofW HT_.out HW_.out xk') (fun _ _ _ h=>h) (Or.inl ⟨by rfl,?_⟩) hHeld ?_ ?_
           rotate_left
           ·
            intro w' s0;go_simp;with_reducible rfl
           rotate_left
           ·
            simp only[Act.put,sa',sb',sc',i64_w,i32_w];rfl
           refine one_ (i:=4) (N:=some 26) #[true,true,true,true,true,true,true,true,true,true,false,false,false] rfl rfl (one_of HT_.out xk') (by decide) (fun K hK=>?_);refine goes_ Try.func46 xk' rfl #[.int .i64 x6_1] (by rfl) rfl rfl xl' ?_
           with_reducible refine (spec_cuList.calls k2 x6_1 t192 _ A14.out).mono ?_
           rintro e w22 ⟨v193,rfl,ho0,hb⟩
           have HS0_:=(hb.cell (bl' _ _ (hHeld))).trans (hHeld);refine ⟨_,rfl,?_⟩;have n0_:=am' (Kd.R_elder' (kr' HO_5.out) (Kd.R_base ho0) hb);have n1_:=am' (Kd.R_lower (Kd.R_new' ho0 (Kd.R_lt (kr' HO_5.out))) (bz' (yb' GE189.out)));have n2_:=am' (bb' (g:=gb189) (o := .cells #[.int .i64 a0_0, .int .i64 a0_1] 32 (0,0)) (kk' BK189.out) hb);have n3_:=am' (bt' (yb' GE189.out) hb);clear HO_5;clear BK189;clear HB;have HO_5:=n0_;have HO194:=n1_;have BK189:=n2_;have HB:=n3_;clear n0_ n1_ n2_ n3_;(try clear hb)
           (try clear hb2)
           (try clear hk)
           (try clear hi)
           (try clear ho0)
           refine hK.out _ _ (HS0_) (fun hHeld=>?_);clear hK K;refine norm_ (a':=?_) ?_ ?_
           rotate_left
           ·
            show Act.put _ (some 26) _=_
            simp only[Act.put,sa',sb',sc',i64_w,i32_w];rfl
           refine one_ (i:=10) (N:=some 32) #[true,true,true,true,true,true,true,true,true,true,true,false,false] rfl rfl (one_of HT_.out xk') (by decide) (fun K hK=>?_);refine goes_ Try.func46 xk' rfl #[.int .i64 (rd x5_1 (ji15))] (by rfl) rfl rfl (by (try simp only[List.map_toArray,List.map_cons,List.map_nil]);first|done|(simp only[hji15];rfl)|rfl|(simp only[List.length_drop,List.length_take];rfl)) ?_
           with_reducible refine (spec_cuList.calls k2 (rd x5_1 (ji15)) t196 _ A18.out).mono ?_
           rintro e w23 ⟨v197,rfl,ho0,hb⟩
           have HS0_:=(hb.cell (bl' _ _ (hHeld))).trans (hHeld);refine ⟨_,rfl,?_⟩;have n0_:=am' (Kd.R_elder' (kr' HO_5.out) (Kd.R_base ho0) hb);have n1_:=am' (Kd.R_elder' (kr' HO194.out) (Kd.R_base ho0) hb);have n2_:=am' (Kd.R_lower (Kd.R_new' (Kd.R_new' ho0 (Kd.R_lt (kr' HO_5.out))) (Kd.R_lt (kr' HO194.out))) (bz' (yb' GE189.out)));have n3_:=am' (bb' (g:=gb189) (o := .cells #[.int .i64 a0_0, .int .i64 a0_1] 32 (0,0)) (kk' BK189.out) hb);have n4_:=am' (bt' (yb' GE189.out) hb);clear HO_5;clear HO194;clear BK189;clear HB;have HO_5:=n0_;have HO194:=n1_;have HO198:=n2_;have BK189:=n3_;have HB:=n4_;clear n0_ n1_ n2_ n3_ n4_;(try clear hb)
           (try clear hb2)
           (try clear hk)
           (try clear hi)
           (try clear ho0)
           obtain ⟨Ao24,co24,eo24⟩:=Kd.R_slice HO194.out
           (first|subst eo24|(injection eo24 with f1_ f2_ f3_;have f4_:=f1_.symm;have f5_:=f3_.symm;clear f1_ f2_ f3_;subst f4_;subst f5_))
           obtain ⟨Ao25,co25,eo25⟩:=Kd.R_slice HO198.out
           (first|subst eo25|(injection eo25 with f1_ f2_ f3_;have f4_:=f1_.symm;have f5_:=f3_.symm;clear f1_ f2_ f3_;subst f4_;subst f5_))
           refine hK.out _ _ (HS0_) (fun hHeld=>?_);clear hK K;refine norm_ (a':=?_) ?_ ?_
           rotate_left
           ·
            show Act.put _ (some 32) _=_
            simp only[Act.put,sa',sb',sc',i64_w,i32_w];rfl
           refine one_ (i:=11) (N:=some 33) #[true,true,true,true,true,true,true,true,true,true,true,true,false] rfl rfl (one_of HT_.out xk') (by decide) (fun K hK=>?_);refine goes_ Try.func71 xk' rfl #[.slice Ao24 t192.length co24, .slice Ao25 t196.length co25] (by rfl) rfl rfl xl' ?_
           with_reducible refine (spec_cuBefore.calls k2 _ _ t192 _ _ t196 true _ ?side1 ?side2 ?side3 ?side4 A19.out).mono ?_
           (case side1=>exact kc' ((Kd.R_reads' HO194.out).2.2))
           (case side2=>exact (Kd.R_reads' HO194.out).2.1)
           (case side3=>exact kc' ((Kd.R_reads' HO198.out).2.2))
           (case side4=>exact (Kd.R_reads' HO198.out).2.1)
           rintro e w' ⟨rfl,⟨nd,rfl⟩⟩
           refine ⟨_,rfl,?_⟩;refine hK.out _ _ (hHeld) (fun hHeld=>?_);clear hK K;refine norm_ (a':=?_) ?_ ?_
           rotate_left
           ·
            show Act.put _ (some 33) _=_
            simp only[Act.put,sa',sb',sc',i64_w,i32_w];rfl
           refine pure_ (i:=12) (N:=some 34) (v:=?_) (a':=?_) #[true,true,true,true,true,true,true,true,true,true,true,true,true] rfl rfl (any_of HT_.out xk') (fun _ _ _ h=>h) (Or.inl ⟨by rfl,?_⟩) ?_ ?_
           rotate_left
           ·
            intro w';go_simp;with_reducible rfl
           rotate_left
           ·
            simp only[Act.put,sa',sb',sc',i64_w,i32_w];rfl
           refine done_ (done_of HT_.out xk') ?_
           try go_wp2
           go_roundg k2
           case measure=>have:=HK1.out;have:=HK2.out;omega
           case rel=>exact ⟨(ji15),(by first|rfl|(simp;done)|(simp only[← hji15] <;> (first|rfl|simp))|(simp[*];done)),H',⟨by have:=HK1.out;have:=HK2.out;omega⟩,⟨by (with_reducible repeat (first|apply ra'|apply rn'|apply rw'));exact Kd.R_mono HO_5.out (fun _ hk=>trivial)⟩,⟨kk' BK189.out⟩,⟨yb' GE189.out⟩⟩
          ·
           replace c20:=Bool.eq_false_iff.mpr c20;subst c20;have H1:(if 0≤x7_2 then (if x7_2≤(x5_1.length:Int) then ((spec_l1Own.f (x5_1.take (x7_2:Int).toNat)).bind fun t204=>(if t204.length < 17592186044416 then ((some (t204 ++ [x6_1]:List Int)).bind fun y207=>((some (x5_1.drop (x7_2:Int).toNat:List Int)).bind fun y210=>(if y207.length+y210.length < 17592186044416 then (spec_cuRows.l0 k2 a1 (y207 ++ y210) (wrap64 (x6_1+1)) a0_0 a0_1) else (none)))) else (none))) else (none)) else (none))=some r:=by rw[if_neg (show ¬ (false=true) by decide)] at H;exact H
           clear H;have H:=H1;clear H1;by_cases c26:0≤x7_2
           ·
            rw[if_pos c26] at H;have c26b0:=eq_true c26;have c26b1:decide (0≤x7_2)=true:=dt' c26;clear c26;by_cases c27:x7_2≤(x5_1.length:Int)
            ·
             rw[if_pos c27] at H;have c27b0:=eq_true c27;have c27b1:decide (x7_2≤(x5_1.length:Int))=true:=dt' c27;clear c27;obtain ⟨y200,hy200⟩:∃ y_:List Int,y_=(x5_1.take (x7_2:Int).toNat):=⟨_,rfl⟩
             replace H:((spec_l1Own.f y200).bind fun t204=>(if t204.length < 17592186044416 then ((some (t204 ++ [x6_1]:List Int)).bind fun y207=>((some (x5_1.drop (x7_2:Int).toNat:List Int)).bind fun y210=>(if y207.length+y210.length < 17592186044416 then (spec_cuRows.l0 k2 a1 (y207 ++ y210) (wrap64 (x6_1+1)) a0_0 a0_1) else (none)))) else (none)))=some r:=by first|(rw[hy200];with_reducible exact H)|(have H2_:=(Option.bind_some _ _).symm.trans H;rw[hy200];with_reducible exact H2_)|(have H2_:=(Option.bind_some _ _).symm.trans H;with_reducible exact H2_)|with_reducible exact H|(rw[hy200];exact H)|exact H
             have Ny200:=am' hy200;clear hy200;replace H:=Option.bind_eq_some_iff.mp H;obtain ⟨t204,A280,H⟩:=H;replace H:(if t204.length < 17592186044416 then ((some (t204 ++ [x6_1]:List Int)).bind fun y207=>((some (x5_1.drop (x7_2:Int).toNat:List Int)).bind fun y210=>(if y207.length+y210.length < 17592186044416 then (spec_cuRows.l0 k2 a1 (y207 ++ y210) (wrap64 (x6_1+1)) a0_0 a0_1) else (none)))) else (none))=some r:=H;have A28:=am' A280;clear A280;by_cases c29:t204.length < 17592186044416
             ·
              rw[if_pos c29] at H;have LMc29:=am' c29;clear c29;obtain ⟨y207,hy207⟩:∃ y_:List Int,y_=(t204 ++ [x6_1]):=⟨_,rfl⟩
              replace H:((some (x5_1.drop (x7_2:Int).toNat:List Int)).bind fun y210=>(if y207.length+y210.length < 17592186044416 then (spec_cuRows.l0 k2 a1 (y207 ++ y210) (wrap64 (x6_1+1)) a0_0 a0_1) else (none)))=some r:=by first|(rw[hy207];with_reducible exact H)|(have H2_:=(Option.bind_some _ _).symm.trans H;rw[hy207];with_reducible exact H2_)|(have H2_:=(Option.bind_some _ _).symm.trans H;with_reducible exact H2_)|with_reducible exact H|(rw[hy207];exact H)|exact H
              have Ny207:=am' hy207;clear hy207;have c30b0:=eq_true (od' xa':0≤x7_2);have c31b0:=eq_true (od' xa':x7_2≤(x5_1.length:Int));obtain ⟨y210,hy210⟩:∃ y_:List Int,y_=(x5_1.drop (x7_2:Int).toNat):=⟨_,rfl⟩
              replace H:(if y207.length+y210.length < 17592186044416 then (spec_cuRows.l0 k2 a1 (y207 ++ y210) (wrap64 (x6_1+1)) a0_0 a0_1) else (none))=some r:=by first|(rw[hy210];with_reducible exact H)|(have H2_:=(Option.bind_some _ _).symm.trans H;rw[hy210];with_reducible exact H2_)|(have H2_:=(Option.bind_some _ _).symm.trans H;with_reducible exact H2_)|with_reducible exact H|(rw[hy210];exact H)|exact H
              have Ny210:=am' hy210;clear hy210;by_cases c32:y207.length+y210.length < 17592186044416
              ·
               rw[if_pos c32] at H;have LMc32:=am' c32;clear c32;obtain ⟨y214,hy214⟩:∃ y_:List Int,y_=(y207 ++ y210):=⟨_,rfl⟩
               replace H:(spec_cuRows.l0 k2 a1 y214 (wrap64 (x6_1+1)) a0_0 a0_1)=some r:=by first|(rw[hy214];with_reducible exact H)|(have H2_:=(Option.bind_some _ _).symm.trans H;rw[hy214];with_reducible exact H2_)|(have H2_:=(Option.bind_some _ _).symm.trans H;with_reducible exact H2_)|with_reducible exact H|(rw[hy214];exact H)|exact H
               have Ny214:=am' hy214;clear hy214;have H':=am' H;clear H;try go_wp2
               have n0_:=am' (rw' HO_5.out);have n1_:=am' (kd' BK189.out);have n2_:=am' (be' HB.out);clear HO_5;clear BK189;clear HB;have HO_5:=n0_;have BK189:=n1_;have HB:=n2_;clear n0_ n1_ n2_;have p195:0≤((ji15):Int):=od' xa';have q195:(ji15) < (x5_1.length:Int):=od' xa';obtain ⟨ad195,e195,hx195_0⟩:=Kd.at_int (Kd.R_reads' HO_5.out).2.2 (ji15) p195 q195;cases e195;replace p195:=eq_true p195;replace q195:=eq_true q195;refine start_ (n:=13) (S:=fun w'=>w'.cell? (ad195.add ((ji15)).toNat)=some (.int .i64 (rd x5_1 (ji15)))) (ds:=[]) #[false,false,false,false,false,false,false,false,false,false,false,false,false] xk' rfl rfl (hx195_0) (fun hHeld=>?_);refine with_tabW spec_cuRows.tab7 spec_cuRows.bits7 (fun HT_ HW_=>?_);generalize wr.drew=w33 at HO_5 BK189 HB hx195_0 hHeld ⊢
               refine pure_ (i:=0) (N:=some 22) (v:=?_) (a':=?_) #[true,false,false,false,false,false,false,false,false,false,false,false,false] rfl rfl (any_of HT_.out xk') (fun _ _ _ h=>h) (Or.inl ⟨by rfl,?_⟩) ?_ ?_
               rotate_left
               ·
                intro w';go_simp;with_reducible rfl
               rotate_left
               ·
                simp only[Act.put,sa',sb',sc',i64_w,i32_w];rfl
               refine pure_ (i:=1) (N:=some 23) (v:=?_) (a':=?_) #[true,true,false,false,false,false,false,false,false,false,false,false,false] rfl rfl (any_of HT_.out xk') (fun _ _ _ h=>h) (Or.inl ⟨by rfl,?_⟩) ?_ ?_
               rotate_left
               ·
                intro w';go_simp;with_reducible rfl
               rotate_left
               ·
                simp only[Act.put,sa',sb',sc',i64_w,i32_w];rfl
               refine pure_ (i:=2) (N:=some 24) (v:=?_) (a':=?_) #[true,true,true,false,false,false,false,false,false,false,false,false,false] rfl rfl (any_of HT_.out xk') (fun _ _ _ h=>h) (Or.inl ⟨by rfl,?_⟩) ?_ ?_
               rotate_left
               ·
                intro w';go_simp;with_reducible rfl
               rotate_left
               ·
                simp only[Act.put,sa',sb',sc',i64_w,i32_w];rfl
               refine pure_ (i:=3) (N:=some 25) (v:=?_) (a':=?_) #[true,true,true,true,false,false,false,false,false,false,false,false,false] rfl rfl (any_of HT_.out xk') (fun _ _ _ h=>h) (Or.inl ⟨by rfl,?_⟩) ?_ ?_
               rotate_left
               ·
                intro w';go_simp;with_reducible rfl
               rotate_left
               ·
                simp only[Act.put,sa',sb',sc',i64_w,i32_w];rfl
               refine pure_ (i:=5) (N:=some 27) (v:=?_) (a':=?_) #[true,true,true,true,false,true,false,false,false,false,false,false,false] rfl rfl (any_of HT_.out xk') (fun _ _ _ h=>h) (Or.inl ⟨by rfl,?_⟩) ?_ ?_
               rotate_left
               ·
                intro w';go_simp;with_reducible rfl
               rotate_left
               ·
                simp only[Act.put,sa',sb',sc',i64_w,i32_w];rfl
               refine pure_ (i:=6) (N:=some 28) (v:=?_) (a':=?_) #[true,true,true,true,false,true,true,false,false,false,false,false,false] rfl rfl (any_of HT_.out xk') (fun _ _ _ h=>h) (Or.inl ⟨by rfl,?_⟩) ?_ ?_
               rotate_left
               ·
                intro w';go_simp;with_reducible rfl
               rotate_left
               ·
                simp only[Act.put,sa',sb',sc',i64_w,i32_w];rfl
               refine pure_ (i:=7) (N:=some 29) (v:=?_) (a':=?_) #[true,true,true,true,false,true,true,true,false,false,false,false,false] rfl rfl (any_of HT_.out xk') (fun _ _ _ h=>h) (Or.inl ⟨by rfl,?_⟩) ?_ ?_
               rotate_left
               ·
                intro w';go_simp;with_reducible rfl
               rotate_left
               ·
                simp only[Act.put,sa',sb',sc',i64_w,i32_w];rfl
               refine pure_ (i:=8) (N:=some 30) (v:=?_) (a':=?_) #[true,true,true,true,false,true,true,true,true,false,false,false,false] rfl rfl (any_of HT_.out xk') (fun _ _ _ h=>h) (Or.inl ⟨by rfl,?_⟩) ?_ ?_
               rotate_left
               ·
                intro w';go_simp;with_reducible rfl
               rotate_left
               ·
                simp only[Act.put,sa',sb',sc',i64_w,i32_w];rfl
               refine take_ (i:=9) (N:=some 31) (v:=?_) (a':=?_) #[true,true,true,true,false,true,true,true,true,true,false,false,false] rfl rfl (take_ofW HT_.out HW_.out xk') (fun _ _ _ h=>h) (Or.inl ⟨by rfl,?_⟩) hHeld ?_ ?_
               rotate_left
               ·
                intro w' s0;go_simp;with_reducible rfl
               rotate_left
               ·
                simp only[Act.put,sa',sb',sc',i64_w,i32_w];rfl
               refine one_ (i:=4) (N:=some 26) #[true,true,true,true,true,true,true,true,true,true,false,false,false] rfl rfl (one_of HT_.out xk') (by decide) (fun K hK=>?_);refine goes_ Try.func46 xk' rfl #[.int .i64 x6_1] (by rfl) rfl rfl xl' ?_
               with_reducible refine (spec_cuList.calls k2 x6_1 t192 _ A14.out).mono ?_
               rintro e w34 ⟨v193,rfl,ho0,hb⟩
               have HS0_:=(hb.cell (bl' _ _ (hHeld))).trans (hHeld);refine ⟨_,rfl,?_⟩;have n0_:=am' (Kd.R_elder' (kr' HO_5.out) (Kd.R_base ho0) hb);have n1_:=am' (Kd.R_lower (Kd.R_new' ho0 (Kd.R_lt (kr' HO_5.out))) (bz' (yb' GE189.out)));have n2_:=am' (bb' (g:=gb189) (o := .cells #[.int .i64 a0_0, .int .i64 a0_1] 32 (0,0)) (kk' BK189.out) hb);have n3_:=am' (bt' (yb' GE189.out) hb);clear HO_5;clear BK189;clear HB;have HO_5:=n0_;have HO194:=n1_;have BK189:=n2_;have HB:=n3_;clear n0_ n1_ n2_ n3_;(try clear hb)
               (try clear hb2)
               (try clear hk)
               (try clear hi)
               (try clear ho0)
               refine hK.out _ _ (HS0_) (fun hHeld=>?_);clear hK K;refine norm_ (a':=?_) ?_ ?_
               rotate_left
               ·
                show Act.put _ (some 26) _=_
                simp only[Act.put,sa',sb',sc',i64_w,i32_w];rfl
               refine one_ (i:=10) (N:=some 32) #[true,true,true,true,true,true,true,true,true,true,true,false,false] rfl rfl (one_of HT_.out xk') (by decide) (fun K hK=>?_);refine goes_ Try.func46 xk' rfl #[.int .i64 (rd x5_1 (ji15))] (by rfl) rfl rfl (by (try simp only[List.map_toArray,List.map_cons,List.map_nil]);first|done|(simp only[hji15];rfl)|rfl|(simp only[List.length_drop,List.length_take];rfl)) ?_
               with_reducible refine (spec_cuList.calls k2 (rd x5_1 (ji15)) t196 _ A18.out).mono ?_
               rintro e w35 ⟨v197,rfl,ho0,hb⟩
               have HS0_:=(hb.cell (bl' _ _ (hHeld))).trans (hHeld);refine ⟨_,rfl,?_⟩;have n0_:=am' (Kd.R_elder' (kr' HO_5.out) (Kd.R_base ho0) hb);have n1_:=am' (Kd.R_elder' (kr' HO194.out) (Kd.R_base ho0) hb);have n2_:=am' (Kd.R_lower (Kd.R_new' (Kd.R_new' ho0 (Kd.R_lt (kr' HO_5.out))) (Kd.R_lt (kr' HO194.out))) (bz' (yb' GE189.out)));have n3_:=am' (bb' (g:=gb189) (o := .cells #[.int .i64 a0_0, .int .i64 a0_1] 32 (0,0)) (kk' BK189.out) hb);have n4_:=am' (bt' (yb' GE189.out) hb);clear HO_5;clear HO194;clear BK189;clear HB;have HO_5:=n0_;have HO194:=n1_;have HO198:=n2_;have BK189:=n3_;have HB:=n4_;clear n0_ n1_ n2_ n3_ n4_;(try clear hb)
               (try clear hb2)
               (try clear hk)
               (try clear hi)
               (try clear ho0)
               obtain ⟨Ao36,co36,eo36⟩:=Kd.R_slice HO194.out
               (first|subst eo36|(injection eo36 with f1_ f2_ f3_;have f4_:=f1_.symm;have f5_:=f3_.symm;clear f1_ f2_ f3_;subst f4_;subst f5_))
               obtain ⟨Ao37,co37,eo37⟩:=Kd.R_slice HO198.out
               (first|subst eo37|(injection eo37 with f1_ f2_ f3_;have f4_:=f1_.symm;have f5_:=f3_.symm;clear f1_ f2_ f3_;subst f4_;subst f5_))
               refine hK.out _ _ (HS0_) (fun hHeld=>?_);clear hK K;refine norm_ (a':=?_) ?_ ?_
               rotate_left
               ·
                show Act.put _ (some 32) _=_
                simp only[Act.put,sa',sb',sc',i64_w,i32_w];rfl
               refine one_ (i:=11) (N:=some 33) #[true,true,true,true,true,true,true,true,true,true,true,true,false] rfl rfl (one_of HT_.out xk') (by decide) (fun K hK=>?_);refine goes_ Try.func71 xk' rfl #[.slice Ao36 t192.length co36, .slice Ao37 t196.length co37] (by rfl) rfl rfl xl' ?_
               with_reducible refine (spec_cuBefore.calls k2 _ _ t192 _ _ t196 false _ ?side1 ?side2 ?side3 ?side4 A19.out).mono ?_
               (case side1=>exact kc' ((Kd.R_reads' HO194.out).2.2))
               (case side2=>exact (Kd.R_reads' HO194.out).2.1)
               (case side3=>exact kc' ((Kd.R_reads' HO198.out).2.2))
               (case side4=>exact (Kd.R_reads' HO198.out).2.1)
               rintro e w' ⟨rfl,⟨nd,rfl⟩⟩
               refine ⟨_,rfl,?_⟩;refine hK.out _ _ (hHeld) (fun hHeld=>?_);clear hK K;refine norm_ (a':=?_) ?_ ?_
               rotate_left
               ·
                show Act.put _ (some 33) _=_
                simp only[Act.put,sa',sb',sc',i64_w,i32_w];rfl
               refine pure_ (i:=12) (N:=some 34) (v:=?_) (a':=?_) #[true,true,true,true,true,true,true,true,true,true,true,true,true] rfl rfl (any_of HT_.out xk') (fun _ _ _ h=>h) (Or.inl ⟨by rfl,?_⟩) ?_ ?_
               rotate_left
               ·
                intro w';go_simp;with_reducible rfl
               rotate_left
               ·
                simp only[Act.put,sa',sb',sc',i64_w,i32_w];rfl
               refine done_ (done_of HT_.out xk') ?_
               have q38:(x7_2:Int)≤((x5_1.length:Int):Int):=od' xa';obtain ⟨i038,hi038,_,hsz38,_⟩:=info_parts info3;have hroom38:x5_1.length≤co12:=(Kd.R_reads' HO_5.out).2.1;have hC38:Kd.C (Kd.int .i64) _ (some ad195) x5_1.length x5_1:=(Kd.R_reads' HO_5.out).2.2;have hcut38:=cut_to (P:=Try.prog) 28 3 .i64 Try.underlying28 hi038 (some ad195) x5_1.length co12 x7_2 (od' xa') q38 hroom38;have hr38:=Kd.C_take (m:=(x7_2:Int).toNat) hC38 (by omega);have hy38:y200.length=(x7_2:Int).toNat:=(by rw[Ny200.out,List.length_take];omega)
               rw[← Ny200.out] at hr38;rw[← hy38] at hcut38;have HR203:=am' hr38;have HC203:=am' (show y200.length≤co12 from by omega);clear hr38 hC38 hroom38 hi038 hsz38;have KY38:=am' hy38;clear hy38;have KL38:=am' (show (x7_2:Int).toNat≤x5_1.length from by omega);replace q38:=eq_true q38
               try go_wp2_with (first|((with_reducible refine gate_callee (f:=72) rfl ?_);refine goesL_ (some 40) rfl rfl Try.func72 xk' rfl #[.slice (some ad195) y200.length co12] rfl xl' ?_;(with_reducible refine (spec_l1Own.calls _ _ y200 t204 _ ?side1 ?side2 A28.out).mono ?_);(case side1=>exact kc' (kx' HR203.out));(case side2=>exact HC203.out);rintro e w39 ⟨v205,rfl,ho0,hb⟩;refine ⟨_,rfl,?_⟩;have n0_:=am' (Kd.R_elder' (kr' HO_5.out) (Kd.R_base ho0) hb);have n1_:=am' (Kd.R_elder' (kr' HO194.out) (Kd.R_base ho0) hb);have n2_:=am' (Kd.R_elder' (kr' HO198.out) (Kd.R_base ho0) hb);have n3_:=am' (Kd.R_lower (Kd.R_new' (Kd.R_new' (Kd.R_new' ho0 (Kd.R_lt (kr' HO_5.out))) (Kd.R_lt (kr' HO194.out))) (Kd.R_lt (kr' HO198.out))) (bz' (yb' GE189.out)));have n4_:=am' (bb' (g:=gb189) (o := .cells #[.int .i64 a0_0, .int .i64 a0_1] 32 (0,0)) (kk' BK189.out) hb);have n5_:=am' (cb' (kx' HR203.out) hb);have n6_:=am' (bt' (yb' GE189.out) hb);clear HO_5;clear HO194;clear HO198;clear BK189;clear HR203;clear HB;have HO_5:=n0_;have HO194:=n1_;have HO198:=n2_;have HO206:=n3_;have BK189:=n4_;have HR203:=n5_;have HB:=n6_;clear n0_ n1_ n2_ n3_ n4_ n5_ n6_;(try clear hb);(try clear hb2);(try clear hk);(try clear hi);(try clear ho0))|((with_reducible refine gate_builtin (b := .append) (xs:=#[.tmp 40, .tmp 42]) rfl ?_);at_builtin;refine Kd.R_append (Kd.int .i64) (w0:=w) w.heap.size rfl (.tmp 40) (.tmp 42) 28 3 (.int .i64 0) 8 rfl Try.underlying28 info3 rfl (by decide) (by omega) v205 t204 x6_1 [.int .i64 x6_1] (fun k_=>some k_≠(.slice (some ad195) x5_1.length co12:Value).ownBlock∧some k_≠(.slice Ao36 t192.length co36:Value).ownBlock∧some k_≠(.slice Ao37 t196.length co37:Value).ownBlock) (fun _=>False) rfl rfl ?aP (fun _ hk=>hk.elim) ?aF ?aO ?aB ?aS ?aL ?_;(case aP=>exact rfl);(case aB=>exact (yb' GE189.out));(case aF=>exact (fun k_ hk=>⟨Kd.fresh' (Kd.R_lt (kr' HO_5.out)) k_ hk,Kd.fresh' (Kd.R_lt (kr' HO194.out)) k_ hk,Kd.fresh' (Kd.R_lt (kr' HO198.out)) k_ hk⟩));(case aO=>exact (by (with_reducible repeat (first|apply ra'|apply rn'|apply rw'));exact Kd.R_mono HO206.out (fun _ hk=>⟨hk.1.1.2,⟨hk.1.2,hk.2⟩⟩)));(case aS=>exact (bz' (yb' GE189.out)));(case aL=>have:=LMc29.out;omega);intro v208 w40 ho hb hg hat;rw[← Ny207.out] at ho;have n0_:=am' (Kd.R_after (ok:=(fun k_=>some k_≠(.slice Ao36 t192.length co36:Value).ownBlock∧some k_≠(.slice Ao37 t196.length co37:Value).ownBlock)) (by (with_reducible repeat (first|apply ra'|apply rn'|apply rw'));exact Kd.R_mono HO_5.out (fun _ hk=>⟨⟨hk.1.1.2,hk.1.2⟩,hk.2⟩)) hg hat);have n1_:=am' (blk_grown (g:=gb189) (o := .cells #[.int .i64 a0_0, .int .i64 a0_1] 32 (0,0)) (kk' BK189.out) hg (Kd.R_ne HO206.out BK189.out (by decide)));have n2_:=am' (Kd.R_after (ok:=(fun k_=>some k_≠(.slice (some ad195) x5_1.length co12:Value).ownBlock∧some k_≠(.slice Ao37 t196.length co37:Value).ownBlock)) (by (with_reducible repeat (first|apply ra'|apply rn'|apply rw'));exact Kd.R_mono HO194.out (fun _ hk=>⟨⟨hk.1.1.2,hk.1.2⟩,hk.2⟩)) hg hat);have n3_:=am' (Kd.R_after (ok:=(fun k_=>some k_≠(.slice (some ad195) x5_1.length co12:Value).ownBlock∧some k_≠(.slice Ao36 t192.length co36:Value).ownBlock)) (by (with_reducible repeat (first|apply ra'|apply rn'|apply rw'));exact Kd.R_mono HO198.out (fun _ hk=>⟨⟨hk.1.1.2,hk.1.2⟩,hk.2⟩)) hg hat);have n4_:=am' (hb);have n5_:=am' ((show Kd.C (Kd.int .i64) w40 (some ad195) y200.length y200 from by rw[Ny200.out];exact Kd.C_take (m:=(x7_2:Int).toNat) ((Kd.R_reads' (Kd.R_after (ok:=(fun k_=>some k_≠(.slice Ao36 t192.length co36:Value).ownBlock∧some k_≠(.slice Ao37 t196.length co37:Value).ownBlock)) (by (with_reducible repeat (first|apply ra'|apply rn'|apply rw'));exact Kd.R_mono HO_5.out (fun _ hk=>⟨⟨hk.1.1.2,hk.1.2⟩,hk.2⟩)) hg hat)).2.2) KL38.out));have n6_:=am' (ho);clear HO_5;clear BK189;clear HO194;clear HO198;clear HB;clear HR203;clear HO206;have HO_5:=n0_;have BK189:=n1_;have HO194:=n2_;have HO198:=n3_;have HB:=n4_;have HR203:=n5_;have HO209:=n6_;clear n0_ n1_ n2_ n3_ n4_ n5_ n6_;clear ho hb hg hat;have q41:(x7_2:Int)≤((x5_1.length:Int):Int):=od' xa';obtain ⟨i041,hi041,_,hsz41,_⟩:=info_parts info3;have hroom41:x5_1.length≤co12:=(Kd.R_reads' HO_5.out).2.1;have hC41:Kd.C (Kd.int .i64) _ (some ad195) x5_1.length x5_1:=(Kd.R_reads' HO_5.out).2.2;have q041:(0:Int)≤(x7_2:Int):=od' xa';have hcut41:=cut_from (P:=Try.prog) 28 3 .i64 Try.underlying28 hi041 1 hsz41 (some ad195) x5_1.length co12 x7_2 q041 q41;have hr41:=Kd.C_drop (m:=(x7_2:Int).toNat) (c:=co12) hC41 (by omega) hroom41;obtain ⟨A41,hA41⟩:∃ A1,A1=(if co12=(x7_2:Int).toNat then (some ad195) else ((some ad195):Option Addr).map (·.add ((x7_2:Int).toNat * 1))):=⟨_,rfl⟩;obtain ⟨c41,hc41⟩:∃ c1,c1=co12 - (x7_2:Int).toNat:=⟨_,rfl⟩;have hy41:y210.length=x5_1.length - (x7_2:Int).toNat:=(by rw[Ny210.out,List.length_drop] <;> omega);rw[show (x5_1).drop (x7_2:Int).toNat=y210 from Ny210.out.symm] at hr41;replace hr41:Kd.C (Kd.int .i64) _ A41 y210.length y210:=(by rw[hA41];exact hr41);rw[← hy41,← hA41,← hc41] at hcut41;have HR213:=am' hr41;have HC213:=am' (show y210.length≤c41 from by rw[hy41,hc41];exact Nat.sub_le_sub_right hroom41 _);clear hr41 hC41 hroom41 hi041 hsz41 hc41;have KY41:=am' hy41;have KA41:=am' hA41;clear hy41 hA41;have KL41:=am' (show (x7_2:Int).toNat≤x5_1.length from by omega);replace q41:=eq_true q41)|((with_reducible refine gate_builtin (b := .append) (xs:=#[.tmp 44, .tmp 47]) rfl ?_);at_builtin;refine Kd.R_append_rows (Kd.int .i64) (w0:=w) w.heap.size rfl (.tmp 44) (.tmp 47) 28 3 (.int .i64 0) 8 rfl Try.underlying28 info3 rfl (by decide) (by omega) v208 y207 y210 _ _ _ (fun k_=>some k_≠(.slice (some ad195) x5_1.length co12:Value).ownBlock∧some k_≠(.slice Ao36 t192.length co36:Value).ownBlock∧some k_≠(.slice Ao37 t196.length co37:Value).ownBlock) (fun _=>False) rfl rfl ?aO ?aR (fun _ _ h=>h) (fun _ h=>h.elim) ?aF ?aB ?aS ?aL ?_;(case aR=>exact kc' (kx' HR213.out));(case aB=>exact (yb' GE189.out));(case aF=>exact (fun k_ hk=>⟨Kd.fresh' (Kd.R_lt (kr' HO_5.out)) k_ hk,Kd.fresh' (Kd.R_lt (kr' HO194.out)) k_ hk,Kd.fresh' (Kd.R_lt (kr' HO198.out)) k_ hk⟩));(case aO=>exact (kr' HO209.out));(case aS=>exact (bz' (yb' GE189.out)));(case aL=>have:=LMc32.out;omega);intro v215 w42 ho hb hg hat;rw[← Ny214.out] at ho;have n0_:=am' (Kd.R_after (ok:=(fun k_=>some k_≠(.slice Ao36 t192.length co36:Value).ownBlock∧some k_≠(.slice Ao37 t196.length co37:Value).ownBlock)) (kr' HO_5.out) hg hat);have n1_:=am' (blk_grown (g:=gb189) (o := .cells #[.int .i64 a0_0, .int .i64 a0_1] 32 (0,0)) (kk' BK189.out) hg (Kd.R_ne HO209.out BK189.out (by decide)));have n2_:=am' (Kd.R_after (ok:=(fun k_=>some k_≠(.slice (some ad195) x5_1.length co12:Value).ownBlock∧some k_≠(.slice Ao37 t196.length co37:Value).ownBlock)) (kr' HO194.out) hg hat);have n3_:=am' (Kd.R_after (ok:=(fun k_=>some k_≠(.slice (some ad195) x5_1.length co12:Value).ownBlock∧some k_≠(.slice Ao36 t192.length co36:Value).ownBlock)) (kr' HO198.out) hg hat);have n4_:=am' (hb);have n5_:=am' ((show Kd.C (Kd.int .i64) w42 (some ad195) y200.length y200 from by rw[Ny200.out];exact Kd.C_take (m:=(x7_2:Int).toNat) ((Kd.R_reads' (Kd.R_after (ok:=(fun k_=>some k_≠(.slice Ao36 t192.length co36:Value).ownBlock∧some k_≠(.slice Ao37 t196.length co37:Value).ownBlock)) (kr' HO_5.out) hg hat)).2.2) KL38.out));have n6_:=am' ((show Kd.C (Kd.int .i64) w42 A41 y210.length y210 from by rw[Ny210.out,KA41.out];exact Kd.C_drop (m:=(x7_2:Int).toNat) (c:=co12) ((Kd.R_reads' (Kd.R_after (ok:=(fun k_=>some k_≠(.slice Ao36 t192.length co36:Value).ownBlock∧some k_≠(.slice Ao37 t196.length co37:Value).ownBlock)) (kr' HO_5.out) hg hat)).2.2) KL41.out ((Kd.R_reads' (Kd.R_after (ok:=(fun k_=>some k_≠(.slice Ao36 t192.length co36:Value).ownBlock∧some k_≠(.slice Ao37 t196.length co37:Value).ownBlock)) (kr' HO_5.out) hg hat)).2.1)));have n7_:=am' (ho);clear HO_5;clear BK189;clear HO194;clear HO198;clear HB;clear HR203;clear HR213;clear HO209;have HO_5:=n0_;have BK189:=n1_;have HO194:=n2_;have HO198:=n3_;have HB:=n4_;have HR203:=n5_;have HR213:=n6_;have HO216:=n7_;clear n0_ n1_ n2_ n3_ n4_ n5_ n6_ n7_;clear ho hb hg hat))
               go_roundg k2
               case measure=>have:=HK1.out;have:=HK2.out;omega
               case rel=>exact ⟨(y214),(wrap64 (x6_1+1)),xs',H',⟨by have:=HK1.out;have:=HK2.out;omega⟩,⟨by (with_reducible repeat (first|apply ra'|apply rn'|apply rw'));exact Kd.R_mono HO216.out (fun _ hk=>trivial)⟩,⟨kk' BK189.out⟩,⟨yb' GE189.out⟩⟩
              ·
               rw[if_neg c32] at H;exact absurd H (by simp)
             ·
              rw[if_neg c29] at H;exact absurd H (by simp)
            ·
             rw[if_neg c27] at H;exact absurd H (by simp)
           ·
            rw[if_neg c26] at H;exact absurd H (by simp)
         ·
          rw[if_neg c17] at H;exact absurd H (by simp)
        ·
         rw[if_neg c16] at H;exact absurd H (by simp)
       ·
        rw[if_neg c13] at H;have c13b0:decide (0 < x7_2)=false:=df' c13;clear c13;by_cases c43:0≤x7_2
        ·
         rw[if_pos c43] at H;have c43b0:=eq_true c43;have c43b1:decide (0≤x7_2)=true:=dt' c43;clear c43;by_cases c44:x7_2≤(x5_1.length:Int)
         ·
          rw[if_pos c44] at H;have c44b0:=eq_true c44;have c44b1:decide (x7_2≤(x5_1.length:Int))=true:=dt' c44;clear c44;obtain ⟨y217,hy217⟩:∃ y_:List Int,y_=(x5_1.take (x7_2:Int).toNat):=⟨_,rfl⟩
          replace H:((spec_l1Own.f y217).bind fun t221=>(if t221.length < 17592186044416 then ((some (t221 ++ [x6_1]:List Int)).bind fun y224=>((some (x5_1.drop (x7_2:Int).toNat:List Int)).bind fun y227=>(if y224.length+y227.length < 17592186044416 then (spec_cuRows.l0 k2 a1 (y224 ++ y227) (wrap64 (x6_1+1)) a0_0 a0_1) else (none)))) else (none)))=some r:=by first|(rw[hy217];with_reducible exact H)|(have H2_:=(Option.bind_some _ _).symm.trans H;rw[hy217];with_reducible exact H2_)|(have H2_:=(Option.bind_some _ _).symm.trans H;with_reducible exact H2_)|with_reducible exact H|(rw[hy217];exact H)|exact H
          have Ny217:=am' hy217;clear hy217;replace H:=Option.bind_eq_some_iff.mp H;obtain ⟨t221,A450,H⟩:=H;replace H:(if t221.length < 17592186044416 then ((some (t221 ++ [x6_1]:List Int)).bind fun y224=>((some (x5_1.drop (x7_2:Int).toNat:List Int)).bind fun y227=>(if y224.length+y227.length < 17592186044416 then (spec_cuRows.l0 k2 a1 (y224 ++ y227) (wrap64 (x6_1+1)) a0_0 a0_1) else (none)))) else (none))=some r:=H;have A45:=am' A450;clear A450;by_cases c46:t221.length < 17592186044416
          ·
           rw[if_pos c46] at H;have LMc46:=am' c46;clear c46;obtain ⟨y224,hy224⟩:∃ y_:List Int,y_=(t221 ++ [x6_1]):=⟨_,rfl⟩
           replace H:((some (x5_1.drop (x7_2:Int).toNat:List Int)).bind fun y227=>(if y224.length+y227.length < 17592186044416 then (spec_cuRows.l0 k2 a1 (y224 ++ y227) (wrap64 (x6_1+1)) a0_0 a0_1) else (none)))=some r:=by first|(rw[hy224];with_reducible exact H)|(have H2_:=(Option.bind_some _ _).symm.trans H;rw[hy224];with_reducible exact H2_)|(have H2_:=(Option.bind_some _ _).symm.trans H;with_reducible exact H2_)|with_reducible exact H|(rw[hy224];exact H)|exact H
           have Ny224:=am' hy224;clear hy224;have c47b0:=eq_true (od' xa':0≤x7_2);have c48b0:=eq_true (od' xa':x7_2≤(x5_1.length:Int));obtain ⟨y227,hy227⟩:∃ y_:List Int,y_=(x5_1.drop (x7_2:Int).toNat):=⟨_,rfl⟩
           replace H:(if y224.length+y227.length < 17592186044416 then (spec_cuRows.l0 k2 a1 (y224 ++ y227) (wrap64 (x6_1+1)) a0_0 a0_1) else (none))=some r:=by first|(rw[hy227];with_reducible exact H)|(have H2_:=(Option.bind_some _ _).symm.trans H;rw[hy227];with_reducible exact H2_)|(have H2_:=(Option.bind_some _ _).symm.trans H;with_reducible exact H2_)|with_reducible exact H|(rw[hy227];exact H)|exact H
           have Ny227:=am' hy227;clear hy227;by_cases c49:y224.length+y227.length < 17592186044416
           ·
            rw[if_pos c49] at H;have LMc49:=am' c49;clear c49;obtain ⟨y231,hy231⟩:∃ y_:List Int,y_=(y224 ++ y227):=⟨_,rfl⟩
            replace H:(spec_cuRows.l0 k2 a1 y231 (wrap64 (x6_1+1)) a0_0 a0_1)=some r:=by first|(rw[hy231];with_reducible exact H)|(have H2_:=(Option.bind_some _ _).symm.trans H;rw[hy231];with_reducible exact H2_)|(have H2_:=(Option.bind_some _ _).symm.trans H;with_reducible exact H2_)|with_reducible exact H|(rw[hy231];exact H)|exact H
            have Ny231:=am' hy231;clear hy231;have H':=am' H;clear H;try go_wp2
            have n0_:=am' (rw' HO_5.out);have n1_:=am' (kd' BK189.out);have n2_:=am' (be' HB.out);clear HO_5;clear BK189;clear HB;have HO_5:=n0_;have BK189:=n1_;have HB:=n2_;clear n0_ n1_ n2_;refine start_ (n:=13) (S:=fun w'=>True) (ds:=[]) #[false,false,false,false,false,false,false,false,false,false,false,false,false] xk' rfl rfl trivial (fun hHeld=>?_);refine with_tabW spec_cuRows.tab7 spec_cuRows.bits7 (fun HT_ HW_=>?_);generalize wr.drew=w50 at HO_5 BK189 HB hHeld ⊢
            refine pure_ (i:=0) (N:=some 22) (v:=?_) (a':=?_) #[true,false,false,false,false,false,false,false,false,false,false,false,false] rfl rfl (any_of HT_.out xk') (fun _ _ _ h=>h) (Or.inl ⟨by rfl,?_⟩) ?_ ?_
            rotate_left
            ·
             intro w';go_simp;with_reducible rfl
            rotate_left
            ·
             simp only[Act.put,sa',sb',sc',i64_w,i32_w];rfl
            refine pure_ (i:=1) (N:=some 23) (v:=?_) (a':=?_) #[true,true,false,false,false,false,false,false,false,false,false,false,false] rfl rfl (any_of HT_.out xk') (fun _ _ _ h=>h) (Or.inl ⟨by rfl,?_⟩) ?_ ?_
            rotate_left
            ·
             intro w';go_simp;with_reducible rfl
            rotate_left
            ·
             simp only[Act.put,sa',sb',sc',i64_w,i32_w];rfl
            refine pure_ (i:=2) (N:=some 24) (v:=?_) (a':=?_) #[true,true,true,false,false,false,false,false,false,false,false,false,false] rfl rfl (any_of HT_.out xk') (fun _ _ _ h=>h) (Or.inl ⟨by rfl,?_⟩) ?_ ?_
            rotate_left
            ·
             intro w';go_simp;with_reducible rfl
            rotate_left
            ·
             simp only[Act.put,sa',sb',sc',i64_w,i32_w];rfl
            refine pure_ (i:=3) (N:=some 25) (v:=undef) (a':=?_) #[true,true,true,true,false,false,false,false,false,false,false,false,false] rfl rfl (any_of HT_.out xk') (fun _ _ _ h=>h) (Or.inr ⟨by rfl,rfl⟩) ?_ ?_
            rotate_left
            ·
             simp only[Act.put,sa',sb',sc',i64_w,i32_w];rfl
            refine pure_ (i:=4) (N:=some 26) (v:=undef) (a':=?_) #[true,true,true,true,true,false,false,false,false,false,false,false,false] rfl rfl (any_of HT_.out xk') (fun _ _ _ h=>h) (Or.inr ⟨by rfl,rfl⟩) ?_ ?_
            rotate_left
            ·
             simp only[Act.put,sa',sb',sc',i64_w,i32_w];rfl
            refine pure_ (i:=5) (N:=some 27) (v:=undef) (a':=?_) #[true,true,true,true,true,true,false,false,false,false,false,false,false] rfl rfl (any_of HT_.out xk') (fun _ _ _ h=>h) (Or.inr ⟨by rfl,rfl⟩) ?_ ?_
            rotate_left
            ·
             simp only[Act.put,sa',sb',sc',i64_w,i32_w];rfl
            refine pure_ (i:=6) (N:=some 28) (v:=undef) (a':=?_) #[true,true,true,true,true,true,true,false,false,false,false,false,false] rfl rfl (any_of HT_.out xk') (fun _ _ _ h=>h) (Or.inr ⟨by rfl,rfl⟩) ?_ ?_
            rotate_left
            ·
             simp only[Act.put,sa',sb',sc',i64_w,i32_w];rfl
            refine pure_ (i:=7) (N:=some 29) (v:=undef) (a':=?_) #[true,true,true,true,true,true,true,true,false,false,false,false,false] rfl rfl (any_of HT_.out xk') (fun _ _ _ h=>h) (Or.inr ⟨by rfl,rfl⟩) ?_ ?_
            rotate_left
            ·
             simp only[Act.put,sa',sb',sc',i64_w,i32_w];rfl
            refine pure_ (i:=8) (N:=some 30) (v:=undef) (a':=?_) #[true,true,true,true,true,true,true,true,true,false,false,false,false] rfl rfl (any_of HT_.out xk') (fun _ _ _ h=>h) (Or.inr ⟨by rfl,rfl⟩) ?_ ?_
            rotate_left
            ·
             simp only[Act.put,sa',sb',sc',i64_w,i32_w];rfl
            refine pure_ (i:=9) (N:=some 31) (v:=undef) (a':=?_) #[true,true,true,true,true,true,true,true,true,true,false,false,false] rfl rfl (any_of HT_.out xk') (fun _ _ _ h=>h) (Or.inr ⟨by rfl,rfl⟩) ?_ ?_
            rotate_left
            ·
             simp only[Act.put,sa',sb',sc',i64_w,i32_w];rfl
            refine pure_ (i:=10) (N:=some 32) (v:=undef) (a':=?_) #[true,true,true,true,true,true,true,true,true,true,true,false,false] rfl rfl (any_of HT_.out xk') (fun _ _ _ h=>h) (Or.inr ⟨by rfl,rfl⟩) ?_ ?_
            rotate_left
            ·
             simp only[Act.put,sa',sb',sc',i64_w,i32_w];rfl
            refine pure_ (i:=11) (N:=some 33) (v:=undef) (a':=?_) #[true,true,true,true,true,true,true,true,true,true,true,true,false] rfl rfl (any_of HT_.out xk') (fun _ _ _ h=>h) (Or.inr ⟨by rfl,rfl⟩) ?_ ?_
            rotate_left
            ·
             simp only[Act.put,sa',sb',sc',i64_w,i32_w];rfl
            refine pure_ (i:=12) (N:=some 34) (v:=?_) (a':=?_) #[true,true,true,true,true,true,true,true,true,true,true,true,true] rfl rfl (any_of HT_.out xk') (fun _ _ _ h=>h) (Or.inl ⟨by rfl,?_⟩) ?_ ?_
            rotate_left
            ·
             intro w';go_simp;with_reducible rfl
            rotate_left
            ·
             simp only[Act.put,sa',sb',sc',i64_w,i32_w];rfl
            refine done_ (done_of HT_.out xk') ?_
            have q51:(x7_2:Int)≤((x5_1.length:Int):Int):=od' xa';obtain ⟨i051,hi051,_,hsz51,_⟩:=info_parts info3;have hroom51:x5_1.length≤co12:=(Kd.R_reads' HO_5.out).2.1;have hC51:Kd.C (Kd.int .i64) _ Ao12 x5_1.length x5_1:=(Kd.R_reads' HO_5.out).2.2;have hcut51:=cut_to (P:=Try.prog) 28 3 .i64 Try.underlying28 hi051 Ao12 x5_1.length co12 x7_2 (od' xa') q51 hroom51;have hr51:=Kd.C_take (m:=(x7_2:Int).toNat) hC51 (by omega);have hy51:y217.length=(x7_2:Int).toNat:=(by rw[Ny217.out,List.length_take];omega)
            rw[← Ny217.out] at hr51;rw[← hy51] at hcut51;have HR220:=am' hr51;have HC220:=am' (show y217.length≤co12 from by omega);clear hr51 hC51 hroom51 hi051 hsz51;have KY51:=am' hy51;clear hy51;have KL51:=am' (show (x7_2:Int).toNat≤x5_1.length from by omega);replace q51:=eq_true q51
            try go_wp2_with (first|((with_reducible refine gate_callee (f:=72) rfl ?_);refine goesL_ (some 40) rfl rfl Try.func72 xk' rfl #[.slice Ao12 y217.length co12] rfl xl' ?_;(with_reducible refine (spec_l1Own.calls _ _ y217 t221 _ ?side1 ?side2 A45.out).mono ?_);(case side1=>exact kc' (kx' HR220.out));(case side2=>exact HC220.out);rintro e w52 ⟨v222,rfl,ho0,hb⟩;refine ⟨_,rfl,?_⟩;have n0_:=am' (Kd.R_elder' (kr' HO_5.out) (Kd.R_base ho0) hb);have n1_:=am' (Kd.R_lower (Kd.R_new' ho0 (Kd.R_lt (kr' HO_5.out))) (bz' (yb' GE189.out)));have n2_:=am' (bb' (g:=gb189) (o := .cells #[.int .i64 a0_0, .int .i64 a0_1] 32 (0,0)) (kk' BK189.out) hb);have n3_:=am' (cb' (kx' HR220.out) hb);have n4_:=am' (bt' (yb' GE189.out) hb);clear HO_5;clear BK189;clear HR220;clear HB;have HO_5:=n0_;have HO223:=n1_;have BK189:=n2_;have HR220:=n3_;have HB:=n4_;clear n0_ n1_ n2_ n3_ n4_;(try clear hb);(try clear hb2);(try clear hk);(try clear hi);(try clear ho0))|((with_reducible refine gate_builtin (b := .append) (xs:=#[.tmp 40, .tmp 42]) rfl ?_);at_builtin;refine Kd.R_append (Kd.int .i64) (w0:=w) w.heap.size rfl (.tmp 40) (.tmp 42) 28 3 (.int .i64 0) 8 rfl Try.underlying28 info3 rfl (by decide) (by omega) v222 t221 x6_1 [.int .i64 x6_1] (fun k_=>some k_≠(.slice Ao12 x5_1.length co12:Value).ownBlock) (fun _=>False) rfl rfl ?aP (fun _ hk=>hk.elim) ?aF ?aO ?aB ?aS ?aL ?_;(case aP=>exact rfl);(case aB=>exact (yb' GE189.out));(case aF=>exact (fun k_ hk=>Kd.fresh' (Kd.R_lt (kr' HO_5.out)) k_ hk));(case aO=>exact (by (with_reducible repeat (first|apply ra'|apply rn'|apply rw'));exact Kd.R_mono HO223.out (fun _ hk=>hk.2)));(case aS=>exact (bz' (yb' GE189.out)));(case aL=>have:=LMc46.out;omega);intro v225 w53 ho hb hg hat;rw[← Ny224.out] at ho;have n0_:=am' (Kd.R_after (ok:=(fun _=>True)) (kr' HO_5.out) hg hat);have n1_:=am' (blk_grown (g:=gb189) (o := .cells #[.int .i64 a0_0, .int .i64 a0_1] 32 (0,0)) (kk' BK189.out) hg (Kd.R_ne HO223.out BK189.out (by decide)));have n2_:=am' (hb);have n3_:=am' ((show Kd.C (Kd.int .i64) w53 Ao12 y217.length y217 from by rw[Ny217.out];exact Kd.C_take (m:=(x7_2:Int).toNat) ((Kd.R_reads' (Kd.R_after (ok:=(fun _=>True)) (kr' HO_5.out) hg hat)).2.2) KL51.out));have n4_:=am' (ho);clear HO_5;clear BK189;clear HB;clear HR220;clear HO223;have HO_5:=n0_;have BK189:=n1_;have HB:=n2_;have HR220:=n3_;have HO226:=n4_;clear n0_ n1_ n2_ n3_ n4_;clear ho hb hg hat;have q54:(x7_2:Int)≤((x5_1.length:Int):Int):=od' xa';obtain ⟨i054,hi054,_,hsz54,_⟩:=info_parts info3;have hroom54:x5_1.length≤co12:=(Kd.R_reads' HO_5.out).2.1;have hC54:Kd.C (Kd.int .i64) _ Ao12 x5_1.length x5_1:=(Kd.R_reads' HO_5.out).2.2;have q054:(0:Int)≤(x7_2:Int):=od' xa';have hcut54:=cut_from (P:=Try.prog) 28 3 .i64 Try.underlying28 hi054 1 hsz54 Ao12 x5_1.length co12 x7_2 q054 q54;have hr54:=Kd.C_drop (m:=(x7_2:Int).toNat) (c:=co12) hC54 (by omega) hroom54;obtain ⟨A54,hA54⟩:∃ A1,A1=(if co12=(x7_2:Int).toNat then Ao12 else (Ao12:Option Addr).map (·.add ((x7_2:Int).toNat * 1))):=⟨_,rfl⟩;obtain ⟨c54,hc54⟩:∃ c1,c1=co12 - (x7_2:Int).toNat:=⟨_,rfl⟩;have hy54:y227.length=x5_1.length - (x7_2:Int).toNat:=(by rw[Ny227.out,List.length_drop] <;> omega);rw[show (x5_1).drop (x7_2:Int).toNat=y227 from Ny227.out.symm] at hr54;replace hr54:Kd.C (Kd.int .i64) _ A54 y227.length y227:=(by rw[hA54];exact hr54);rw[← hy54,← hA54,← hc54] at hcut54;have HR230:=am' hr54;have HC230:=am' (show y227.length≤c54 from by rw[hy54,hc54];exact Nat.sub_le_sub_right hroom54 _);clear hr54 hC54 hroom54 hi054 hsz54 hc54;have KY54:=am' hy54;have KA54:=am' hA54;clear hy54 hA54;have KL54:=am' (show (x7_2:Int).toNat≤x5_1.length from by omega);replace q54:=eq_true q54)|((with_reducible refine gate_builtin (b := .append) (xs:=#[.tmp 44, .tmp 47]) rfl ?_);at_builtin;refine Kd.R_append_rows (Kd.int .i64) (w0:=w) w.heap.size rfl (.tmp 44) (.tmp 47) 28 3 (.int .i64 0) 8 rfl Try.underlying28 info3 rfl (by decide) (by omega) v225 y224 y227 _ _ _ (fun k_=>some k_≠(.slice Ao12 x5_1.length co12:Value).ownBlock) (fun _=>False) rfl rfl ?aO ?aR (fun _ _ h=>h) (fun _ h=>h.elim) ?aF ?aB ?aS ?aL ?_;(case aR=>exact kc' (kx' HR230.out));(case aB=>exact (yb' GE189.out));(case aF=>exact (fun k_ hk=>Kd.fresh' (Kd.R_lt (kr' HO_5.out)) k_ hk));(case aO=>exact (kr' HO226.out));(case aS=>exact (bz' (yb' GE189.out)));(case aL=>have:=LMc49.out;omega);intro v232 w55 ho hb hg hat;rw[← Ny231.out] at ho;have n0_:=am' (Kd.R_after (ok:=(fun _=>True)) (kr' HO_5.out) hg hat);have n1_:=am' (blk_grown (g:=gb189) (o := .cells #[.int .i64 a0_0, .int .i64 a0_1] 32 (0,0)) (kk' BK189.out) hg (Kd.R_ne HO226.out BK189.out (by decide)));have n2_:=am' (hb);have n3_:=am' ((show Kd.C (Kd.int .i64) w55 Ao12 y217.length y217 from by rw[Ny217.out];exact Kd.C_take (m:=(x7_2:Int).toNat) ((Kd.R_reads' (Kd.R_after (ok:=(fun _=>True)) (kr' HO_5.out) hg hat)).2.2) KL51.out));have n4_:=am' ((show Kd.C (Kd.int .i64) w55 A54 y227.length y227 from by rw[Ny227.out,KA54.out];exact Kd.C_drop (m:=(x7_2:Int).toNat) (c:=co12) ((Kd.R_reads' (Kd.R_after (ok:=(fun _=>True)) (kr' HO_5.out) hg hat)).2.2) KL54.out ((Kd.R_reads' (Kd.R_after (ok:=(fun _=>True)) (kr' HO_5.out) hg hat)).2.1)));have n5_:=am' (ho);clear HO_5;clear BK189;clear HB;clear HR220;clear HR230;clear HO226;have HO_5:=n0_;have BK189:=n1_;have HB:=n2_;have HR220:=n3_;have HR230:=n4_;have HO233:=n5_;clear n0_ n1_ n2_ n3_ n4_ n5_;clear ho hb hg hat))
            go_roundg k2
            case measure=>have:=HK1.out;have:=HK2.out;omega
            case rel=>exact ⟨(y231),(wrap64 (x6_1+1)),xs',H',⟨by have:=HK1.out;have:=HK2.out;omega⟩,⟨by (with_reducible repeat (first|apply ra'|apply rn'|apply rw'));exact Kd.R_mono HO233.out (fun _ hk=>trivial)⟩,⟨kk' BK189.out⟩,⟨yb' GE189.out⟩⟩
           ·
            rw[if_neg c49] at H;exact absurd H (by simp)
          ·
           rw[if_neg c46] at H;exact absurd H (by simp)
         ·
          rw[if_neg c44] at H;exact absurd H (by simp)
        ·
         rw[if_neg c43] at H;exact absurd H (by simp)
    ·
     replace c7:=Bool.eq_false_iff.mpr c7;subst c7;have H1:(spec_cuRows.l0 k1 a1 x5_1 (wrap64 (x6_1+1)) a0_0 a0_1)=some r:=by rw[if_neg (show ¬ (false=true) by decide)] at H;exact H
     clear H;have H:=H1;clear H1;have H':=am' H;clear H;have hcz56_0:wr.cell? ⟨gb189,0,none⟩=some (.int .i64 a0_0):=(bc' BK189.out 0).trans rfl;have hcz56_1:wr.cell? ⟨gb189,1,none⟩=some (.int .i64 a0_1):=(bc' BK189.out 1).trans rfl;have hfz56_0:=bf' BK189.out 0;have hfz56_1:=bf' BK189.out 1;go_wp2_with (first|((with_reducible refine gate_callee (f:=69) rfl ?_);refine goesL_ (some 11) rfl rfl Try.func69 xk' rfl #[.agg #[.int .i64 a0_0, .int .i64 a0_1]] rfl xl' ?_;(with_reducible refine (spec_cuSize.calls a0_0 a0_1 t190 _ A4.out).mono ?_);rintro e w57 ⟨rfl,hb⟩;refine ⟨_,rfl,?_⟩;have n0_:=am' (rb' (kr' HO_5.out) hb);have n1_:=am' (bb' (g:=gb189) (o := .cells #[.int .i64 a0_0, .int .i64 a0_1] 32 (0,0)) (kk' BK189.out) hb);have n2_:=am' (bt' (yb' GE189.out) hb);clear HO_5;clear BK189;clear HB;have HO_5:=n0_;have BK189:=n1_;have HB:=n2_;clear n0_ n1_ n2_;(try clear hb);(try clear hb2);(try clear hk);(try clear hi);have hcz58_0:w57.cell? ⟨gb189,0,none⟩=some (.int .i64 a0_0):=(bc' BK189.out 0).trans rfl;have hcz58_1:w57.cell? ⟨gb189,1,none⟩=some (.int .i64 a0_1):=(bc' BK189.out 1).trans rfl;have hfz58_0:=bf' BK189.out 0;have hfz58_1:=bf' BK189.out 1)|((with_reducible refine gate_callee (f:=70) rfl ?_);refine goesL_ (some 18) rfl rfl Try.func70 xk' rfl #[.agg #[.int .i64 a0_0, .int .i64 a0_1], .int .i64 a1, .int .i64 x6_1] rfl xl' ?_;(with_reducible refine (spec_cuCan.calls k1 a0_0 a0_1 a1 x6_1 false _ A6.out).mono ?_);rintro e w59 ⟨rfl,hb⟩;refine ⟨_,rfl,?_⟩;have n0_:=am' (rb' (kr' HO_5.out) hb);have n1_:=am' (bb' (g:=gb189) (o := .cells #[.int .i64 a0_0, .int .i64 a0_1] 32 (0,0)) (kk' BK189.out) hb);have n2_:=am' (bt' (yb' GE189.out) hb);clear HO_5;clear BK189;clear HB;have HO_5:=n0_;have BK189:=n1_;have HB:=n2_;clear n0_ n1_ n2_;(try clear hb);(try clear hb2);(try clear hk);(try clear hi)));go_roundg k1
     case measure=>have:=HK1.out;omega
     case rel=>exact ⟨(x5_1),(wrap64 (x6_1+1)),xs',H',⟨by have:=HK1.out;omega⟩,⟨kr' HO_5.out⟩,⟨kk' BK189.out⟩,⟨yb' GE189.out⟩⟩
   ·
    rw[if_neg c5] at H;have c5b0:decide (x6_1 < t190)=false:=df' c5;clear c5;obtain rfl:=os' H;have hcz60_0:wr.cell? ⟨gb189,0,none⟩=some (.int .i64 a0_0):=(bc' BK189.out 0).trans rfl;have hcz60_1:wr.cell? ⟨gb189,1,none⟩=some (.int .i64 a0_1):=(bc' BK189.out 1).trans rfl;have hfz60_0:=bf' BK189.out 0;have hfz60_1:=bf' BK189.out 1;go_wp2_with (first|((with_reducible refine gate_callee (f:=69) rfl ?_);refine goesL_ (some 11) rfl rfl Try.func69 xk' rfl #[.agg #[.int .i64 a0_0, .int .i64 a0_1]] rfl xl' ?_;(with_reducible refine (spec_cuSize.calls a0_0 a0_1 t190 _ A4.out).mono ?_);rintro e w61 ⟨rfl,hb⟩;refine ⟨_,rfl,?_⟩;have n0_:=am' (rb' (kr' HO_5.out) hb);have n1_:=am' (bb' (g:=gb189) (o := .cells #[.int .i64 a0_0, .int .i64 a0_1] 32 (0,0)) (kk' BK189.out) hb);have n2_:=am' (bt' (yb' GE189.out) hb);clear HO_5;clear BK189;clear HB;have HO_5:=n0_;have BK189:=n1_;have HB:=n2_;clear n0_ n1_ n2_;(try clear hb);(try clear hb2);(try clear hk);(try clear hi)));go_ret
    exact ⟨_,by first|rfl|(simp[errW_none,errW_some] <;> rfl)|(simp[*,errW_none,errW_some] <;> rfl),kr' HO_5.out,yb' GE189.out⟩
end Go.Proofs.Ytabhhkiipilghaa.C2
