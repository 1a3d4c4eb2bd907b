import Derived.Test.YtabhhkiipilghaaC2zx0
import Derived.Test.YtabhhkiipilghaaC2zAl
namespace Go.Proofs.Ytabhhkiipilghaa.C2
open Go.RowKit Go.Proofs.YtabhhkiipilghaaW.PrintWords Go.Proofs.YtabhhkiipilghaaW.PrintLast Go.Proofs.YtabhhkiipilghaaW.PrintMore Go.Proofs.Ytabhhkiipilghaa.H
attribute [local go_sem] max2_int min2_int max_two min_two max_three min_three max_four min_four
set_option linter.unusedVariables false
set_option linter.unusedSimpArgs false
mutual
def spec_cuCalm.l0:Nat→Int→Int→Int→Option (Bool)
 | 0,_,_,_=>none
 | k+1,x0,x1,x5=>if x5 < x0 then (if 0≤(wrap64 (2 * x5)) then (if (Int.tmod (shr .i64 x1 (wrap64 (2 * x5))) 4)=2 then (spec_cuCalm.l1 k x0 x1 x5 0) else (spec_cuCalm.l0 k x0 x1 (wrap64 (x5+1)))) else (none)) else (some true)
def spec_cuCalm.l1:Nat→Int→Int→Int→Int→Option (Bool)
 | 0,_,_,_,_=>none
 | k+1,x0,x1,x5,x6=>if x6 < x0 then (if 0≤(wrap64 (2 * x6)) then (if (Int.tmod (shr .i64 x1 (wrap64 (2 * x6))) 2)=1 then (some false) else (spec_cuCalm.l1 k x0 x1 x5 (wrap64 (x6+1)))) else (none)) else (spec_cuCalm.l0 k x0 x1 (wrap64 (x5+1)))
end
def spec_cuCalm.f (k:Nat) (a0:Int) (a1:Int):Option (Bool):=spec_cuCalm.l0 k a0 a1 0
theorem spec_cuCalm.mono_l:∀ k,(∀ y0 y1 y2,LeO (spec_cuCalm.l0 k y0 y1 y2) (spec_cuCalm.l0 (k+1) y0 y1 y2))∧(∀ y0 y1 y2 y3,LeO (spec_cuCalm.l1 k y0 y1 y2 y3) (spec_cuCalm.l1 (k+1) y0 y1 y2 y3))
 | 0=>⟨fun _ _ _ r h=>by simp[spec_cuCalm.l0] at h,fun _ _ _ _ r h=>by simp[spec_cuCalm.l1] at h⟩
 | k+1=>by
  obtain ⟨ih0,ih1⟩:=spec_cuCalm.mono_l k;refine ⟨?_,?_⟩
  ·
   intro y0 y1 y2;unfold spec_cuCalm.l0
   repeat' first
   | (with_reducible exact ih0 _ _ _)
   | (with_reducible exact ih1 _ _ _ _)
   | (with_reducible exact LeO.refl _)
   | (with_reducible exact LeO.none _)
   | (with_reducible refine LeO.ite ?_ ?_)
   | (with_reducible refine LeO.bind ?_ (fun _=>?_))
   | exact ih0 _ _ _
   | exact ih1 _ _ _ _
   | exact LeO.none _
   | refine LeO.ite ?_ ?_
   | refine LeO.bind ?_ (fun _=>?_)
  ·
   intro y0 y1 y2 y3;unfold spec_cuCalm.l1
   repeat' first
   | (with_reducible exact ih0 _ _ _)
   | (with_reducible exact ih1 _ _ _ _)
   | (with_reducible exact LeO.refl _)
   | (with_reducible exact LeO.none _)
   | (with_reducible refine LeO.ite ?_ ?_)
   | (with_reducible refine LeO.bind ?_ (fun _=>?_))
   | exact ih0 _ _ _
   | exact ih1 _ _ _ _
   | exact LeO.none _
   | refine LeO.ite ?_ ?_
   | refine LeO.bind ?_ (fun _=>?_)
theorem spec_cuCalm.mono:∀ a0 a1 k,LeO (spec_cuCalm.f k a0 a1) (spec_cuCalm.f (k+1) a0 a1):=by
 intro a0 a1 k;obtain ⟨ih0,ih1⟩:=spec_cuCalm.mono_l k
 unfold spec_cuCalm.f
 repeat' first
   | (with_reducible exact ih0 _ _ _)
   | (with_reducible exact ih1 _ _ _ _)
   | (with_reducible exact LeO.refl _)
   | (with_reducible exact LeO.none _)
   | (with_reducible refine LeO.ite ?_ ?_)
   | (with_reducible refine LeO.bind ?_ (fun _=>?_))
   | exact ih0 _ _ _
   | exact ih1 _ _ _ _
   | exact LeO.none _
   | refine LeO.ite ?_ ?_
   | refine LeO.bind ?_ (fun _=>?_)
set_option maxHeartbeats 8000000 in
set_option maxRecDepth 100000 in
theorem spec_cuCalm.calls (k:Nat) (a0:Int) (a1:Int) (r:Bool) (w:World) (h:spec_cuCalm.f k a0 a1=some r) :
  Calls Try.prog 59 #[.int .i64 a0, .int .i64 a1] w fun e w'=>e = .returned (.bool r)∧Drawn0 w w':=by
 have H:(spec_cuCalm.l0 k a0 a1 0)=some r:=h
 clear h;have H':=am' H
 clear H;go_enter Try.func59,Try.ntmps59
 go_wp2
 go_loopg [5] k (fun kq v5 w'=>∃ (x5_1:Int),v5 = .int .i64 x5_1∧Aside0 (spec_cuCalm.l0 kq a0 a1 x5_1=some r)∧Aside0 (kq≤k)∧Drawn0 w w')
 case atStart=>exact ⟨(0),xs',H',⟨Nat.le_refl _⟩,by repeat (first|exact Drawn0.refl _|apply Drawn0.step)⟩
 case round =>
  clear H';try clear p2
  obtain ⟨x5_1,rfl,HA,HK1,⟨m1,rfl⟩⟩:=hrel;cases gk with
  | zero=>exact absurd HA.out (by simp[spec_cuCalm.l0])
  | succ k1 =>
   have H:=HA.out;clear HA;simp only[spec_cuCalm.l0] at H;by_cases c3:x5_1 < a0
   ·
    rw[if_pos c3] at H;have c3b0:decide (x5_1 < a0)=true:=dt' c3;clear c3;obtain ⟨ji4,hji4⟩:∃ j_:Int,(wrap64 (2 * x5_1))=j_:=⟨_,rfl⟩
    replace H:(if 0≤(ji4) then (if (Int.tmod (shr .i64 a1 (ji4)) 4)=2 then (spec_cuCalm.l1 k1 a0 a1 x5_1 0) else (spec_cuCalm.l0 k1 a0 a1 (wrap64 (x5_1+1)))) else (none))=some r:=by first|(rw[hji4] at H;exact H)|(simp only[hji4] at H ⊢;exact H)
    have hji4w:(IntKind.i64.wrap (2 * x5_1))=ji4:=(i64_w _).trans hji4;by_cases c5:0≤(ji4)
    ·
     rw[if_pos c5] at H;have c5b0:=eq_true c5;have c5b1:decide (0≤(ji4))=true:=dt' c5;clear c5;obtain ⟨ji6,hji6⟩:∃ j_:Int,(shr .i64 a1 (ji4))=j_:=⟨_,rfl⟩
     replace H:(if (Int.tmod (ji6) 4)=2 then (spec_cuCalm.l1 k1 a0 a1 x5_1 0) else (spec_cuCalm.l0 k1 a0 a1 (wrap64 (x5_1+1))))=some r:=by first|(rw[hji6] at H;exact H)|(simp only[hji6] at H ⊢;exact H)
     have hji6_:(a1 / 2 ^ min (ji4).toNat 64)=ji6:=hji6;have hji6z:(ji4)≤64→(a1 / 2 ^ (ji4).toNat)=ji6:=shr_small hji6;by_cases c7:(Int.tmod (ji6) 4)=2
     ·
      rw[if_pos c7] at H;have c7b0:((Int.tmod (ji6) 4) == 2)=true:=beq_iff_eq.mpr c7;have c7b1:((Int.tmod (ji6) 4) != 2)=false:=bne_eq_false_iff_eq.mpr c7;clear c7;have H':=am' H;clear H;go_wp2;go_loopg [6] k1 (fun kq v6 w'=>∃ (x6_2:Int),v6 = .int .i64 x6_2∧Aside0 (spec_cuCalm.l1 kq a0 a1 x5_1 x6_2=some r)∧Aside0 (kq≤k1)∧Drawn0 w w')
      case atStart=>exact ⟨(0),xs',H',⟨Nat.le_refl _⟩,by repeat (first|exact Drawn0.refl _|apply Drawn0.step)⟩
      case round =>
       clear H';try clear p2
       try clear c3
       try clear c3b0
       try clear c5
       try clear c5b0
       try clear c5b1
       try clear p6
       try clear c7
       try clear c7b0
       try clear c7b1
       try clear p2
       obtain ⟨x6_2,rfl,HA,HK2,⟨m2,rfl⟩⟩:=hrel;cases gk with
       | zero=>exact absurd HA.out (by simp[spec_cuCalm.l1])
       | succ k2 =>
        have H:=HA.out;clear HA;simp only[spec_cuCalm.l1] at H;by_cases c8:x6_2 < a0
        ·
         rw[if_pos c8] at H;have c8b0:decide (x6_2 < a0)=true:=dt' c8;clear c8;obtain ⟨ji9,hji9⟩:∃ j_:Int,(wrap64 (2 * x6_2))=j_:=⟨_,rfl⟩
         replace H:(if 0≤(ji9) then (if (Int.tmod (shr .i64 a1 (ji9)) 2)=1 then (some false) else (spec_cuCalm.l1 k2 a0 a1 x5_1 (wrap64 (x6_2+1)))) else (none))=some r:=by first|(rw[hji9] at H;exact H)|(simp only[hji9] at H ⊢;exact H)
         have hji9w:(IntKind.i64.wrap (2 * x6_2))=ji9:=(i64_w _).trans hji9;by_cases c10:0≤(ji9)
         ·
          rw[if_pos c10] at H;have c10b0:=eq_true c10;have c10b1:decide (0≤(ji9))=true:=dt' c10;clear c10;obtain ⟨ji11,hji11⟩:∃ j_:Int,(shr .i64 a1 (ji9))=j_:=⟨_,rfl⟩
          replace H:(if (Int.tmod (ji11) 2)=1 then (some false) else (spec_cuCalm.l1 k2 a0 a1 x5_1 (wrap64 (x6_2+1))))=some r:=by first|(rw[hji11] at H;exact H)|(simp only[hji11] at H ⊢;exact H)
          have hji11_:(a1 / 2 ^ min (ji9).toNat 64)=ji11:=hji11;have hji11z:(ji9)≤64→(a1 / 2 ^ (ji9).toNat)=ji11:=shr_small hji11;by_cases c12:(Int.tmod (ji11) 2)=1
          ·
           rw[if_pos c12] at H;have c12b0:((Int.tmod (ji11) 2) == 1)=true:=beq_iff_eq.mpr c12;have c12b1:((Int.tmod (ji11) 2) != 1)=false:=bne_eq_false_iff_eq.mpr c12;clear c12;obtain rfl:=os' H;go_wp2;go_ret
           exact ⟨by first|rfl|(simp;done)|(simp only[← hji4,← hji6,← hji9,← hji11] <;> (first|rfl|simp))|(simp[*];done),by repeat (first|exact Drawn0.refl _|apply Drawn0.step)⟩
          ·
           rw[if_neg c12] at H;have c12b0:((Int.tmod (ji11) 2) == 1)=false:=beq_eq_false_iff_ne.mpr c12;have c12b1:((Int.tmod (ji11) 2) != 1)=true:=bne_iff_ne.mpr c12;have H':=am' H;clear H;go_wp2;go_roundg k2
           case measure=>have:=HK1.out;have:=HK2.out;omega
           case rel=>exact ⟨(wrap64 (x6_2+1)),xs',H',⟨by have:=HK1.out;have:=HK2.out;omega⟩,by repeat (first|exact Drawn0.refl _|apply Drawn0.step)⟩
         ·
          rw[if_neg c10] at H;exact absurd H (by simp)
        ·
         rw[if_neg c8] at H;have c8b0:decide (x6_2 < a0)=false:=df' c8;clear c8;have H':=am' H;clear H;go_wp2;go_roundg k2
         case measure=>have:=HK1.out;have:=HK2.out;omega
         case rel=>exact ⟨(wrap64 (x5_1+1)),xs',H',⟨by have:=HK1.out;have:=HK2.out;omega⟩,by repeat (first|exact Drawn0.refl _|apply Drawn0.step)⟩
     ·
      rw[if_neg c7] at H;have c7b0:((Int.tmod (ji6) 4) == 2)=false:=beq_eq_false_iff_ne.mpr c7;have c7b1:((Int.tmod (ji6) 4) != 2)=true:=bne_iff_ne.mpr c7;have H':=am' H;clear H;go_wp2;go_roundg k1
      case measure=>have:=HK1.out;omega
      case rel=>exact ⟨(wrap64 (x5_1+1)),xs',H',⟨by have:=HK1.out;omega⟩,by repeat (first|exact Drawn0.refl _|apply Drawn0.step)⟩
    ·
     rw[if_neg c5] at H;exact absurd H (by simp)
   ·
    rw[if_neg c3] at H;have c3b0:decide (x5_1 < a0)=false:=df' c3;clear c3;obtain rfl:=os' H;go_wp2;go_ret
    exact ⟨xs',by repeat (first|exact Drawn0.refl _|apply Drawn0.step)⟩
def spec_cuSize.f (a0_0:Int) (a0_1:Int):Option (Int):=if 0≤(wrap64 (2 * a0_0)) then (some (shl .i64 1 (wrap64 (2 * a0_0)))) else (none)
set_option maxHeartbeats 8000000 in
set_option maxRecDepth 100000 in
theorem spec_cuSize.calls (a0_0:Int) (a0_1:Int) (r:Int) (w:World) (h:spec_cuSize.f a0_0 a0_1=some r) :
  Calls Try.prog 69 #[.agg #[.int .i64 a0_0, .int .i64 a0_1]] w fun e w'=>e = .returned (.int .i64 r)∧Below w.heap.size w w':=by
 have hu32:=Try.underlying32
 have HB:=am' (Below.refl w.heap.size w)
 have H:(if 0≤(wrap64 (2 * a0_0)) then (some (shl .i64 1 (wrap64 (2 * a0_0)))) else (none))=some r:=h
 clear h;obtain ⟨ji2,hji2⟩:∃ j_:Int,(wrap64 (2 * a0_0))=j_:=⟨_,rfl⟩
 replace H:(if 0≤(ji2) then (some (shl .i64 1 (ji2))) else (none))=some r:=by first|(rw[hji2] at H;exact H)|(simp only[hji2] at H ⊢;exact H)
 have hji2w:(IntKind.i64.wrap (2 * a0_0))=ji2:=(i64_w _).trans hji2
 by_cases c3:0≤(ji2)
 ·
  rw[if_pos c3] at H;have c3b0:=eq_true c3;have c3b1:decide (0≤(ji2))=true:=dt' c3;clear c3;obtain ⟨ji4,hji4⟩:∃ j_:Int,(shl .i64 1 (ji2))=j_:=⟨_,rfl⟩
  replace H:(some ji4)=some r:=by first|(rw[hji4] at H;exact H)|(simp only[hji4] at H ⊢;exact H)
  have hji4_:(IntKind.i64.wrap (1 * 2 ^ min (ji2).toNat 64))=ji4:=hji4;have hji4z:(ji2)≤64→(IntKind.i64.wrap (1 * 2 ^ (ji2).toNat))=ji4:=shl_small hji4;have hji4u:(IntKind.i64.wrap (2 ^ min (ji2).toNat 64))=ji4:=by have h_:=hji4_;rw[Int.one_mul] at h_;exact h_
  have hji4v:(ji2)≤64→(IntKind.i64.wrap (2 ^ (ji2).toNat))=ji4:=fun hle_=>by have h_:=hji4z hle_;rw[Int.one_mul] at h_;exact h_
  have hji4y:(wrap64 (1 * 2 ^ min (ji2).toNat 64))=ji4:=(i64_w _).symm.trans hji4_;have hji4x:(ji2)≤64→(wrap64 (1 * 2 ^ (ji2).toNat))=ji4:=fun h_=>(i64_w _).symm.trans (hji4z h_)
  obtain rfl:=os' H;go_enter Try.func69,Try.ntmps69;go_wp2_with (first|((with_reducible refine gate_dst (N:=1) rfl ?_);refine box_event ?hg (N:=1) ?hd (cs:=#[.int .i64 a0_0, .int .i64 a0_1]) (t:=32) ?hr ?_;(case hd=>rfl);(case hg=>rfl);(case hr=>first|(go_simp;done)|(go_simp;rfl));intro gb162 hg w5 hbox hb;have n0_:=am' (bt' xb' hb);have n1_:=am' (hbox);have n2_:=am' ((by rw[hg];exact (bz' xb'):w.heap.size≤gb162));have n3_:=am' ((by rw[hg];exact (bz' xb'):w.heap.size≤gb162));clear HB;have HB:=n0_;have BK162:=n1_;have GW162:=n2_;have GE162:=n3_;clear n0_ n1_ n2_ n3_;clear hb hbox hg;have hcz6_0:w5.cell? ⟨gb162,0,none⟩=some (.int .i64 a0_0):=(bc' BK162.out 0).trans rfl;have hcz6_1:w5.cell? ⟨gb162,1,none⟩=some (.int .i64 a0_1):=(bc' BK162.out 1).trans rfl;have hfz6_0:=bf' BK162.out 0;have hfz6_1:=bf' BK162.out 1));go_ret
  exact ⟨by first|rfl|(simp[errW_none,errW_some] <;> rfl)|(simp only[← hji2,← hji4];first|rfl|(simp[errW_none,errW_some] <;> rfl))|(simp[*,errW_none,errW_some] <;> rfl),yb' GE162.out⟩
 ·
  rw[if_neg c3] at H;exact absurd H (by simp)
def spec_cuQuiet.f (k:Nat) (a0_0:Int) (a0_1:Int) (a1:Int):Option (Bool):=(spec_cuCalm.f k a0_0 (wrap64 (Int.tdiv a1 2))).bind fun t164=>(if t164=true then ((spec_cuSize.f a0_0 a0_1).bind fun t165=>((spec_cuCalm.f k a0_0 (wrap64 ((wrap64 (t165 - 1)) - (wrap64 (Int.tdiv a1 2))))).bind fun t166=>(some t166))) else (some false))
theorem spec_cuQuiet.mono:∀ a0 a1 a2 k,LeO (spec_cuQuiet.f k a0 a1 a2) (spec_cuQuiet.f (k+1) a0 a1 a2):=by
 intro a0 a1 a2 k;unfold spec_cuQuiet.f
 repeat' first
   | (with_reducible exact spec_cuCalm.mono _ _ _)
   | (with_reducible exact LeO.refl _)
   | (with_reducible exact LeO.none _)
   | (with_reducible refine LeO.ite ?_ ?_)
   | (with_reducible refine LeO.bind ?_ (fun _=>?_))
   | exact spec_cuCalm.mono _ _ _
   | exact LeO.none _
   | refine LeO.ite ?_ ?_
   | refine LeO.bind ?_ (fun _=>?_)
def spec_cuQuiet.T1:Bool × List (List Nat × List Nat):=(true,[([],[]),([0],[0]),([],[]),([2],[2]),([1,3],[1,3]),([4,4],[4]),([5],[5]),([6,5],[5,6]),([5],[5]),([8,5,5],[5,8]),([9,5],[5,9]),([5],[5]),([11,5],[5,11]),([10,12,5],[5,10,12]),([7,13,9,5],[5,7,13]),([5,14],[5,14]),([15,14,0,1,2,3,4,5,6,7,8,9,10,11,12,13,14,15],[15])])
def spec_cuQuiet.B1:List Nat:=[0,1,0,4,15,31,63,127,63,319,831,63,2111,7999,16383,32767,65535]
theorem spec_cuQuiet.tab1:rtab .any (opsOf Try.f43 1)=spec_cuQuiet.T1:=by kernel_rfl
theorem spec_cuQuiet.bits1:waitsOk spec_cuQuiet.T1.2 spec_cuQuiet.B1=true:=by kernel_rfl
set_option maxHeartbeats 8000000 in
set_option maxRecDepth 100000 in
theorem spec_cuQuiet.calls (k:Nat) (a0_0:Int) (a0_1:Int) (a1:Int) (r:Bool) (w:World) (h:spec_cuQuiet.f k a0_0 a0_1 a1=some r) :
  Calls Try.prog 43 #[.agg #[.int .i64 a0_0, .int .i64 a0_1], .int .i64 a1] w fun e w'=>e = .returned (.bool r)∧Below w.heap.size w w':=by
 have hu32:=Try.underlying32
 have HB:=am' (Below.refl w.heap.size w)
 have H:((spec_cuCalm.f k a0_0 (wrap64 (Int.tdiv a1 2))).bind fun t164=>(if t164=true then ((spec_cuSize.f a0_0 a0_1).bind fun t165=>((spec_cuCalm.f k a0_0 (wrap64 ((wrap64 (t165 - 1)) - (wrap64 (Int.tdiv a1 2))))).bind fun t166=>(some t166))) else (some false)))=some r:=h
 clear h;replace H:=Option.bind_eq_some_iff.mp H
 obtain ⟨t164,A30,H⟩:=H
 replace H:(if t164=true then ((spec_cuSize.f a0_0 a0_1).bind fun t165=>((spec_cuCalm.f k a0_0 (wrap64 ((wrap64 (t165 - 1)) - (wrap64 (Int.tdiv a1 2))))).bind fun t166=>(some t166))) else (some false))=some r:=H
 have A3:=am' A30
 clear A30;by_cases c4:t164=true
 ·
  subst c4;have H1:((spec_cuSize.f a0_0 a0_1).bind fun t165=>((spec_cuCalm.f k a0_0 (wrap64 ((wrap64 (t165 - 1)) - (wrap64 (Int.tdiv a1 2))))).bind fun t166=>(some t166)))=some r:=by rw[if_pos rfl] at H;exact H
  clear H;have H:=H1;clear H1;replace H:=Option.bind_eq_some_iff.mp H;obtain ⟨t165,A50,H⟩:=H;replace H:((spec_cuCalm.f k a0_0 (wrap64 ((wrap64 (t165 - 1)) - (wrap64 (Int.tdiv a1 2))))).bind fun t166=>(some t166))=some r:=H;have A5:=am' A50;clear A50;replace H:=Option.bind_eq_some_iff.mp H;obtain ⟨t166,A60,H⟩:=H;replace H:(some t166)=some r:=H;have A6:=am' A60;clear A60;obtain rfl:=os' H;go_enter Try.func43,Try.ntmps43
  try go_wp2_with (first|((with_reducible refine gate_dst (N:=2) rfl ?_);refine box_event ?hg (N:=2) ?hd (cs:=#[.int .i64 a0_0, .int .i64 a0_1]) (t:=32) ?hr ?_;(case hd=>rfl);(case hg=>rfl);(case hr=>first|(go_simp;done)|(go_simp;rfl));intro gb163 hg w7 hbox hb;have n0_:=am' (bt' xb' hb);have n1_:=am' (hbox);have n2_:=am' ((by rw[hg];exact (bz' xb'):w.heap.size≤gb163));have n3_:=am' ((by rw[hg];exact (bz' xb'):w.heap.size≤gb163));clear HB;have HB:=n0_;have BK163:=n1_;have GW163:=n2_;have GE163:=n3_;clear n0_ n1_ n2_ n3_;clear hb hbox hg))
  have n0_:=am' (kd' BK163.out);have n1_:=am' (be' HB.out);clear BK163;clear HB;have BK163:=n0_;have HB:=n1_;clear n0_ n1_;refine start_ (n:=17) (S:=fun w'=>w'.cell? ⟨gb163,0,none⟩=some (.int .i64 a0_0)∧w'.cell? ⟨gb163,1,none⟩=some (.int .i64 a0_1)) (ds:=[]) #[false,false,false,false,false,false,false,false,false,false,false,false,false,false,false,false,false] xk' rfl rfl ⟨(bc' BK163.out 0).trans rfl,(bc' BK163.out 1).trans rfl⟩ (fun hHeld=>?_);refine with_tabW spec_cuQuiet.tab1 spec_cuQuiet.bits1 (fun HT_ HW_=>?_);generalize w7.drew=w8 at BK163 HB hHeld ⊢
  refine pure_ (i:=0) (N:=some 5) (v:=?_) (a':=?_) #[true,false,false,false,false,false,false,false,false,false,false,false,false,false,false,false,false] rfl rfl (any_of HT_.out xk') (fun _ _ _ h=>h) (Or.inl ⟨by rfl,?_⟩) ?_ ?_
  rotate_left
  ·
   intro w';go_simp;with_reducible rfl
  rotate_left
  ·
   simp only[Act.put,sa',sb',sc',i64_w,i32_w];rfl
  refine pure_ (i:=2) (N:=some 7) (v:=?_) (a':=?_) #[true,false,true,false,false,false,false,false,false,false,false,false,false,false,false,false,false] rfl rfl (any_of HT_.out xk') (fun _ _ _ h=>h) (Or.inl ⟨by rfl,?_⟩) ?_ ?_
  rotate_left
  ·
   intro w';go_simp;with_reducible rfl
  rotate_left
  ·
   simp only[Act.put,sa',sb',sc',i64_w,i32_w];rfl
  refine pure_ (i:=3) (N:=some 8) (v:=?_) (a':=?_) #[true,false,true,true,false,false,false,false,false,false,false,false,false,false,false,false,false] rfl rfl (any_of HT_.out xk') (fun _ _ _ h=>h) (Or.inl ⟨by rfl,?_⟩) ?_ ?_
  rotate_left
  ·
   intro w';go_simp;with_reducible rfl
  rotate_left
  ·
   simp only[Act.put,sa',sb',sc',i64_w,i32_w];rfl
  refine take_ (i:=1) (N:=some 6) (v:=?_) (a':=?_) #[true,true,true,true,false,false,false,false,false,false,false,false,false,false,false,false,false] rfl rfl (take_ofW HT_.out HW_.out xk') (fun _ _ _ h=>h) (Or.inl ⟨by rfl,?_⟩) hHeld ?_ ?_
  rotate_left
  ·
   rintro w' ⟨s0,s1⟩
   go_simp;with_reducible rfl
  rotate_left
  ·
   simp only[Act.put,sa',sb',sc',i64_w,i32_w];rfl
  refine one_ (i:=4) (N:=some 9) #[true,true,true,true,true,false,false,false,false,false,false,false,false,false,false,false,false] rfl rfl (one_of HT_.out xk') (by decide) (fun K hK=>?_);refine goes_ Try.func59 xk' rfl #[.int .i64 a0_0, .int .i64 (wrap64 (Int.tdiv a1 2))] (by rfl) rfl rfl xl' ?_
  with_reducible refine (spec_cuCalm.calls k a0_0 (wrap64 (Int.tdiv a1 2)) true _ A3.out).mono ?_
  rintro e w' ⟨rfl,⟨nd,rfl⟩⟩
  refine ⟨_,rfl,?_⟩;refine hK.out _ _ ⟨(bc' BK163.out 0).trans rfl,(bc' BK163.out 1).trans rfl⟩ (fun hHeld=>?_);clear hK K;refine norm_ (a':=?_) ?_ ?_
  rotate_left
  ·
   show Act.put _ (some 9) _=_
   simp only[Act.put,sa',sb',sc',i64_w,i32_w];rfl
  refine pure_ (i:=5) (N:=some 10) (v:=?_) (a':=?_) #[true,true,true,true,true,true,false,false,false,false,false,false,false,false,false,false,false] rfl rfl (any_of HT_.out xk') (fun _ _ _ h=>h) (Or.inl ⟨by rfl,?_⟩) ?_ ?_
  rotate_left
  ·
   intro w';go_simp;with_reducible rfl
  rotate_left
  ·
   simp only[Act.put,sa',sb',sc',i64_w,i32_w];rfl
  refine pure_ (i:=6) (N:=some 11) (v:=?_) (a':=?_) #[true,true,true,true,true,true,true,false,false,false,false,false,false,false,false,false,false] rfl rfl (any_of HT_.out xk') (fun _ _ _ h=>h) (Or.inl ⟨by rfl,?_⟩) ?_ ?_
  rotate_left
  ·
   intro w';go_simp;with_reducible rfl
  rotate_left
  ·
   simp only[Act.put,sa',sb',sc',i64_w,i32_w];rfl
  refine pure_ (i:=11) (N:=some 16) (v:=?_) (a':=?_) #[true,true,true,true,true,true,true,false,false,false,false,true,false,false,false,false,false] rfl rfl (any_of HT_.out xk') (fun _ _ _ h=>h) (Or.inl ⟨by rfl,?_⟩) ?_ ?_
  rotate_left
  ·
   intro w';go_simp;with_reducible rfl
  rotate_left
  ·
   simp only[Act.put,sa',sb',sc',i64_w,i32_w];rfl
  refine pure_ (i:=12) (N:=some 17) (v:=?_) (a':=?_) #[true,true,true,true,true,true,true,false,false,false,false,true,true,false,false,false,false] rfl rfl (any_of HT_.out xk') (fun _ _ _ h=>h) (Or.inl ⟨by rfl,?_⟩) ?_ ?_
  rotate_left
  ·
   intro w';go_simp;with_reducible rfl
  rotate_left
  ·
   simp only[Act.put,sa',sb',sc',i64_w,i32_w];rfl
  refine take_ (i:=7) (N:=some 12) (v:=?_) (a':=?_) #[true,true,true,true,true,true,true,true,false,false,false,true,true,false,false,false,false] rfl rfl (take_ofW HT_.out HW_.out xk') (fun _ _ _ h=>h) (Or.inl ⟨by rfl,?_⟩) hHeld ?_ ?_
  rotate_left
  ·
   rintro w' ⟨s0,s1⟩
   go_simp;with_reducible rfl
  rotate_left
  ·
   simp only[Act.put,sa',sb',sc',i64_w,i32_w];rfl
  refine take_ (i:=8) (N:=some 13) (v:=?_) (a':=?_) #[true,true,true,true,true,true,true,true,true,false,false,true,true,false,false,false,false] rfl rfl (take_ofW HT_.out HW_.out xk') (fun _ _ _ h=>h) (Or.inl ⟨by rfl,?_⟩) hHeld ?_ ?_
  rotate_left
  ·
   rintro w' ⟨s0,s1⟩
   go_simp;with_reducible rfl
  rotate_left
  ·
   simp only[Act.put,sa',sb',sc',i64_w,i32_w];rfl
  refine one_ (i:=9) (N:=some 14) #[true,true,true,true,true,true,true,true,true,true,false,true,true,false,false,false,false] rfl rfl (one_of HT_.out xk') (by decide) (fun K hK=>?_);refine goes_ Try.func69 xk' rfl #[.agg #[.int .i64 a0_0, .int .i64 a0_1]] (by rfl) rfl rfl xl' ?_
  with_reducible refine (spec_cuSize.calls a0_0 a0_1 t165 _ A5.out).mono ?_
  rintro e w9 ⟨rfl,hb⟩
  refine ⟨_,rfl,?_⟩;have n0_:=am' (bb' (g:=gb163) (o := .cells #[.int .i64 a0_0, .int .i64 a0_1] 32 (0,0)) (kk' BK163.out) hb);have n1_:=am' (bt' (yb' GE163.out) hb);clear BK163;clear HB;have BK163:=n0_;have HB:=n1_;clear n0_ n1_;(try clear hb)
  (try clear hb2)
  (try clear hk)
  (try clear hi)
  refine hK.out _ _ ⟨(bc' BK163.out 0).trans rfl,(bc' BK163.out 1).trans rfl⟩ (fun hHeld=>?_);clear hK K;refine norm_ (a':=?_) ?_ ?_
  rotate_left
  ·
   show Act.put _ (some 14) _=_
   simp only[Act.put,sa',sb',sc',i64_w,i32_w];rfl
  refine pure_ (i:=10) (N:=some 15) (v:=?_) (a':=?_) #[true,true,true,true,true,true,true,true,true,true,true,true,true,false,false,false,false] rfl rfl (any_of HT_.out xk') (fun _ _ _ h=>h) (Or.inl ⟨by rfl,?_⟩) ?_ ?_
  rotate_left
  ·
   intro w';go_simp;with_reducible rfl
  rotate_left
  ·
   simp only[Act.put,sa',sb',sc',i64_w,i32_w];rfl
  refine pure_ (i:=13) (N:=some 18) (v:=?_) (a':=?_) #[true,true,true,true,true,true,true,true,true,true,true,true,true,true,false,false,false] rfl rfl (any_of HT_.out xk') (fun _ _ _ h=>h) (Or.inl ⟨by rfl,?_⟩) ?_ ?_
  rotate_left
  ·
   intro w';go_simp;with_reducible rfl
  rotate_left
  ·
   simp only[Act.put,sa',sb',sc',i64_w,i32_w];rfl
  refine one_ (i:=14) (N:=some 19) #[true,true,true,true,true,true,true,true,true,true,true,true,true,true,true,false,false] rfl rfl (one_of HT_.out xk') (by decide) (fun K hK=>?_);refine goes_ Try.func59 xk' rfl #[.int .i64 a0_0, .int .i64 (wrap64 ((wrap64 (t165 - 1)) - (wrap64 (Int.tdiv a1 2))))] (by rfl) rfl rfl xl' ?_
  with_reducible refine (spec_cuCalm.calls k a0_0 (wrap64 ((wrap64 (t165 - 1)) - (wrap64 (Int.tdiv a1 2)))) t166 _ A6.out).mono ?_
  rintro e w' ⟨rfl,⟨nd,rfl⟩⟩
  refine ⟨_,rfl,?_⟩;refine hK.out _ _ ⟨(bc' BK163.out 0).trans rfl,(bc' BK163.out 1).trans rfl⟩ (fun hHeld=>?_);clear hK K;refine norm_ (a':=?_) ?_ ?_
  rotate_left
  ·
   show Act.put _ (some 19) _=_
   simp only[Act.put,sa',sb',sc',i64_w,i32_w];rfl
  refine pure_ (i:=15) (N:=some 20) (v:=?_) (a':=?_) #[true,true,true,true,true,true,true,true,true,true,true,true,true,true,true,true,false] rfl rfl (any_of HT_.out xk') (fun _ _ _ h=>h) (Or.inl ⟨by rfl,?_⟩) ?_ ?_
  rotate_left
  ·
   intro w';go_simp;with_reducible rfl
  rotate_left
  ·
   simp only[Act.put,sa',sb',sc',i64_w,i32_w];rfl
  refine pure_ (i:=16) (N:=some 4) (v:=?_) (a':=?_) #[true,true,true,true,true,true,true,true,true,true,true,true,true,true,true,true,true] rfl rfl (any_of HT_.out xk') (fun _ _ _ h=>h) (Or.inl ⟨by rfl,?_⟩) ?_ ?_
  rotate_left
  ·
   intro w';go_simp;with_reducible rfl
  rotate_left
  ·
   simp only[Act.put,sa',sb',sc',i64_w,i32_w];rfl
  refine done_ (done_of HT_.out xk') ?_
  try go_wp2
  go_ret
  exact ⟨by first|rfl|(simp[errW_none,errW_some] <;> rfl)|(simp[*,errW_none,errW_some] <;> rfl),yb' GE163.out⟩
 ·
  replace c4:=Bool.eq_false_iff.mpr c4;subst c4;have H1:(some false)=some r:=by rw[if_neg (show ¬ (false=true) by decide)] at H;exact H
  clear H;have H:=H1;clear H1;obtain rfl:=os' H;go_enter Try.func43,Try.ntmps43
  try go_wp2_with (first|((with_reducible refine gate_dst (N:=2) rfl ?_);refine box_event ?hg (N:=2) ?hd (cs:=#[.int .i64 a0_0, .int .i64 a0_1]) (t:=32) ?hr ?_;(case hd=>rfl);(case hg=>rfl);(case hr=>first|(go_simp;done)|(go_simp;rfl));intro gb163 hg w10 hbox hb;have n0_:=am' (bt' xb' hb);have n1_:=am' (hbox);have n2_:=am' ((by rw[hg];exact (bz' xb'):w.heap.size≤gb163));have n3_:=am' ((by rw[hg];exact (bz' xb'):w.heap.size≤gb163));clear HB;have HB:=n0_;have BK163:=n1_;have GW163:=n2_;have GE163:=n3_;clear n0_ n1_ n2_ n3_;clear hb hbox hg))
  have n0_:=am' (kd' BK163.out);have n1_:=am' (be' HB.out);clear BK163;clear HB;have BK163:=n0_;have HB:=n1_;clear n0_ n1_;refine start_ (n:=17) (S:=fun w'=>w'.cell? ⟨gb163,0,none⟩=some (.int .i64 a0_0)∧w'.cell? ⟨gb163,1,none⟩=some (.int .i64 a0_1)) (ds:=[]) #[false,false,false,false,false,false,false,false,false,false,false,false,false,false,false,false,false] xk' rfl rfl ⟨(bc' BK163.out 0).trans rfl,(bc' BK163.out 1).trans rfl⟩ (fun hHeld=>?_);refine with_tabW spec_cuQuiet.tab1 spec_cuQuiet.bits1 (fun HT_ HW_=>?_);generalize w10.drew=w11 at BK163 HB hHeld ⊢
  refine pure_ (i:=0) (N:=some 5) (v:=?_) (a':=?_) #[true,false,false,false,false,false,false,false,false,false,false,false,false,false,false,false,false] rfl rfl (any_of HT_.out xk') (fun _ _ _ h=>h) (Or.inl ⟨by rfl,?_⟩) ?_ ?_
  rotate_left
  ·
   intro w';go_simp;with_reducible rfl
  rotate_left
  ·
   simp only[Act.put,sa',sb',sc',i64_w,i32_w];rfl
  refine pure_ (i:=2) (N:=some 7) (v:=?_) (a':=?_) #[true,false,true,false,false,false,false,false,false,false,false,false,false,false,false,false,false] rfl rfl (any_of HT_.out xk') (fun _ _ _ h=>h) (Or.inl ⟨by rfl,?_⟩) ?_ ?_
  rotate_left
  ·
   intro w';go_simp;with_reducible rfl
  rotate_left
  ·
   simp only[Act.put,sa',sb',sc',i64_w,i32_w];rfl
  refine pure_ (i:=3) (N:=some 8) (v:=?_) (a':=?_) #[true,false,true,true,false,false,false,false,false,false,false,false,false,false,false,false,false] rfl rfl (any_of HT_.out xk') (fun _ _ _ h=>h) (Or.inl ⟨by rfl,?_⟩) ?_ ?_
  rotate_left
  ·
   intro w';go_simp;with_reducible rfl
  rotate_left
  ·
   simp only[Act.put,sa',sb',sc',i64_w,i32_w];rfl
  refine take_ (i:=1) (N:=some 6) (v:=?_) (a':=?_) #[true,true,true,true,false,false,false,false,false,false,false,false,false,false,false,false,false] rfl rfl (take_ofW HT_.out HW_.out xk') (fun _ _ _ h=>h) (Or.inl ⟨by rfl,?_⟩) hHeld ?_ ?_
  rotate_left
  ·
   rintro w' ⟨s0,s1⟩
   go_simp;with_reducible rfl
  rotate_left
  ·
   simp only[Act.put,sa',sb',sc',i64_w,i32_w];rfl
  refine one_ (i:=4) (N:=some 9) #[true,true,true,true,true,false,false,false,false,false,false,false,false,false,false,false,false] rfl rfl (one_of HT_.out xk') (by decide) (fun K hK=>?_);refine goes_ Try.func59 xk' rfl #[.int .i64 a0_0, .int .i64 (wrap64 (Int.tdiv a1 2))] (by rfl) rfl rfl xl' ?_
  with_reducible refine (spec_cuCalm.calls k a0_0 (wrap64 (Int.tdiv a1 2)) false _ A3.out).mono ?_
  rintro e w' ⟨rfl,⟨nd,rfl⟩⟩
  refine ⟨_,rfl,?_⟩;refine hK.out _ _ ⟨(bc' BK163.out 0).trans rfl,(bc' BK163.out 1).trans rfl⟩ (fun hHeld=>?_);clear hK K;refine norm_ (a':=?_) ?_ ?_
  rotate_left
  ·
   show Act.put _ (some 9) _=_
   simp only[Act.put,sa',sb',sc',i64_w,i32_w];rfl
  refine pure_ (i:=5) (N:=some 10) (v:=?_) (a':=?_) #[true,true,true,true,true,true,false,false,false,false,false,false,false,false,false,false,false] rfl rfl (any_of HT_.out xk') (fun _ _ _ h=>h) (Or.inl ⟨by rfl,?_⟩) ?_ ?_
  rotate_left
  ·
   intro w';go_simp;with_reducible rfl
  rotate_left
  ·
   simp only[Act.put,sa',sb',sc',i64_w,i32_w];rfl
  refine pure_ (i:=6) (N:=some 11) (v:=undef) (a':=?_) #[true,true,true,true,true,true,true,false,false,false,false,false,false,false,false,false,false] rfl rfl (any_of HT_.out xk') (fun _ _ _ h=>h) (Or.inr ⟨by rfl,rfl⟩) ?_ ?_
  rotate_left
  ·
   simp only[Act.put,sa',sb',sc',i64_w,i32_w];rfl
  refine pure_ (i:=7) (N:=some 12) (v:=undef) (a':=?_) #[true,true,true,true,true,true,true,true,false,false,false,false,false,false,false,false,false] rfl rfl (any_of HT_.out xk') (fun _ _ _ h=>h) (Or.inr ⟨by rfl,rfl⟩) ?_ ?_
  rotate_left
  ·
   simp only[Act.put,sa',sb',sc',i64_w,i32_w];rfl
  refine pure_ (i:=8) (N:=some 13) (v:=undef) (a':=?_) #[true,true,true,true,true,true,true,true,true,false,false,false,false,false,false,false,false] rfl rfl (any_of HT_.out xk') (fun _ _ _ h=>h) (Or.inr ⟨by rfl,rfl⟩) ?_ ?_
  rotate_left
  ·
   simp only[Act.put,sa',sb',sc',i64_w,i32_w];rfl
  refine pure_ (i:=9) (N:=some 14) (v:=undef) (a':=?_) #[true,true,true,true,true,true,true,true,true,true,false,false,false,false,false,false,false] rfl rfl (any_of HT_.out xk') (fun _ _ _ h=>h) (Or.inr ⟨by rfl,rfl⟩) ?_ ?_
  rotate_left
  ·
   simp only[Act.put,sa',sb',sc',i64_w,i32_w];rfl
  refine pure_ (i:=10) (N:=some 15) (v:=undef) (a':=?_) #[true,true,true,true,true,true,true,true,true,true,true,false,false,false,false,false,false] rfl rfl (any_of HT_.out xk') (fun _ _ _ h=>h) (Or.inr ⟨by rfl,rfl⟩) ?_ ?_
  rotate_left
  ·
   simp only[Act.put,sa',sb',sc',i64_w,i32_w];rfl
  refine pure_ (i:=11) (N:=some 16) (v:=undef) (a':=?_) #[true,true,true,true,true,true,true,true,true,true,true,true,false,false,false,false,false] rfl rfl (any_of HT_.out xk') (fun _ _ _ h=>h) (Or.inr ⟨by rfl,rfl⟩) ?_ ?_
  rotate_left
  ·
   simp only[Act.put,sa',sb',sc',i64_w,i32_w];rfl
  refine pure_ (i:=12) (N:=some 17) (v:=undef) (a':=?_) #[true,true,true,true,true,true,true,true,true,true,true,true,true,false,false,false,false] rfl rfl (any_of HT_.out xk') (fun _ _ _ h=>h) (Or.inr ⟨by rfl,rfl⟩) ?_ ?_
  rotate_left
  ·
   simp only[Act.put,sa',sb',sc',i64_w,i32_w];rfl
  refine pure_ (i:=13) (N:=some 18) (v:=undef) (a':=?_) #[true,true,true,true,true,true,true,true,true,true,true,true,true,true,false,false,false] rfl rfl (any_of HT_.out xk') (fun _ _ _ h=>h) (Or.inr ⟨by rfl,rfl⟩) ?_ ?_
  rotate_left
  ·
   simp only[Act.put,sa',sb',sc',i64_w,i32_w];rfl
  refine pure_ (i:=14) (N:=some 19) (v:=undef) (a':=?_) #[true,true,true,true,true,true,true,true,true,true,true,true,true,true,true,false,false] rfl rfl (any_of HT_.out xk') (fun _ _ _ h=>h) (Or.inr ⟨by rfl,rfl⟩) ?_ ?_
  rotate_left
  ·
   simp only[Act.put,sa',sb',sc',i64_w,i32_w];rfl
  refine pure_ (i:=15) (N:=some 20) (v:=?_) (a':=?_) #[true,true,true,true,true,true,true,true,true,true,true,true,true,true,true,true,false] rfl rfl (any_of HT_.out xk') (fun _ _ _ h=>h) (Or.inl ⟨by rfl,?_⟩) ?_ ?_
  rotate_left
  ·
   intro w';go_simp;with_reducible rfl
  rotate_left
  ·
   simp only[Act.put,sa',sb',sc',i64_w,i32_w];rfl
  refine pure_ (i:=16) (N:=some 4) (v:=?_) (a':=?_) #[true,true,true,true,true,true,true,true,true,true,true,true,true,true,true,true,true] rfl rfl (any_of HT_.out xk') (fun _ _ _ h=>h) (Or.inl ⟨by rfl,?_⟩) ?_ ?_
  rotate_left
  ·
   intro w';go_simp;with_reducible rfl
  rotate_left
  ·
   simp only[Act.put,sa',sb',sc',i64_w,i32_w];rfl
  refine done_ (done_of HT_.out xk') ?_
  try go_wp2
  go_ret
  exact ⟨by first|rfl|(simp[errW_none,errW_some] <;> rfl)|(simp[*,errW_none,errW_some] <;> rfl),yb' GE163.out⟩
def spec_cuCode.l0:Nat→Int→List Bool→Int→Int→List Bool→Bool→Option (Int)
 | 0,_,_,_,_,_,_=>none
 | k+1,x3,x7,x8,x9,x168000,x168001=>if x9 < x8 then (if 0≤x9 then (if x9 < (x7.length:Int) then (if rdOf false x7 x9=true then (spec_cuCode.l0 k (Go.bits .or .i64 x3 (shl .i64 2 x9)) x7 x8 (wrap64 (x9+1)) x168000 x168001) else (spec_cuCode.l0 k x3 x7 x8 (wrap64 (x9+1)) x168000 x168001)) else (none)) else (none)) else (if x168001=true then (some (wrap64 (x3+1))) else (some x3))
def spec_cuCode.f (k:Nat) (l0_0:List Bool) (a0_1:Bool):Option (Int):=spec_cuCode.l0 k 0 l0_0 (l0_0.length:Int) 0 l0_0 a0_1
theorem spec_cuCode.mono_l:∀ k,(∀ y0 y1 y2 y3 y4 y5,LeO (spec_cuCode.l0 k y0 y1 y2 y3 y4 y5) (spec_cuCode.l0 (k+1) y0 y1 y2 y3 y4 y5))
 | 0=>fun _ _ _ _ _ _ r h=>by simp[spec_cuCode.l0] at h
 | k+1=>by
  have ih0:=spec_cuCode.mono_l k
  ·
   intro y0 y1 y2 y3 y4 y5;unfold spec_cuCode.l0
   repeat' first
   | (with_reducible exact ih0 _ _ _ _ _ _)
   | (with_reducible exact LeO.refl _)
   | (with_reducible exact LeO.none _)
   | (with_reducible refine LeO.ite ?_ ?_)
   | (with_reducible refine LeO.bind ?_ (fun _=>?_))
   | exact ih0 _ _ _ _ _ _
   | exact LeO.none _
   | refine LeO.ite ?_ ?_
   | refine LeO.bind ?_ (fun _=>?_)
theorem spec_cuCode.mono:∀ a0 a1 k,LeO (spec_cuCode.f k a0 a1) (spec_cuCode.f (k+1) a0 a1):=by
 intro a0 a1 k;have ih0:=spec_cuCode.mono_l k
 unfold spec_cuCode.f
 repeat' first
   | (with_reducible exact ih0 _ _ _ _ _ _)
   | (with_reducible exact LeO.refl _)
   | (with_reducible exact LeO.none _)
   | (with_reducible refine LeO.ite ?_ ?_)
   | (with_reducible refine LeO.bind ?_ (fun _=>?_))
   | exact ih0 _ _ _ _ _ _
   | exact LeO.none _
   | refine LeO.ite ?_ ?_
   | refine LeO.bind ?_ (fun _=>?_)
set_option maxHeartbeats 8000000 in
set_option maxRecDepth 100000 in
theorem spec_cuCode.calls (k:Nat) (A0_0:Option Addr) (c0_0:Nat) (l0_0:List Bool) (a0_1:Bool) (r:Int) (w:World) (hr0_0:Kd.C Kd.bool w A0_0 l0_0.length l0_0) (hc0_0:l0_0.length≤c0_0) (h:spec_cuCode.f k l0_0 a0_1=some r) :
  Calls Try.prog 44 #[.agg #[.slice A0_0 l0_0.length c0_0, .bool a0_1]] w fun e w'=>e = .returned (.int .i64 r)∧Below w.heap.size w w':=by
 have hu35:=Try.underlying35
 have HR0_0:=am' hr0_0
 have HC0_0:=am' hc0_0
 clear hr0_0 hc0_0;have HB:=am' (Below.refl w.heap.size w)
 have H:(spec_cuCode.l0 k 0 l0_0 (l0_0.length:Int) 0 l0_0 a0_1)=some r:=h
 clear h;have H':=am' H
 clear H;go_enter Try.func44,Try.ntmps44
 go_wp2_with (first|((with_reducible refine gate_dst (N:=1) rfl ?_);refine box_event ?hg (N:=1) ?hd (cs:=#[.slice A0_0 l0_0.length c0_0, .bool a0_1]) (t:=35) ?hr ?_;(case hd=>rfl);(case hg=>rfl);(case hr=>first|(go_simp;done)|(go_simp;rfl));intro gb167 hg w2 hbox hb;have n0_:=am' (bt' xb' hb);have n1_:=am' (hbox);have n2_:=am' ((by rw[hg];exact (bz' xb'):w.heap.size≤gb167));have n3_:=am' ((by rw[hg];exact (bz' xb'):w.heap.size≤gb167));clear HB;have HB:=n0_;have BK167:=n1_;have GW167:=n2_;have GE167:=n3_;clear n0_ n1_ n2_ n3_;clear hb hbox hg;have hcz3_0:w2.cell? ⟨gb167,0,none⟩=some (.slice A0_0 l0_0.length c0_0):=(bc' BK167.out 0).trans rfl;have hcz3_1:w2.cell? ⟨gb167,1,none⟩=some (.bool a0_1):=(bc' BK167.out 1).trans rfl;have hfz3_0:=bf' BK167.out 0;have hfz3_1:=bf' BK167.out 1))
 go_loopg [3,9] k (fun kq v3 v9 w'=>∃ (x3_1:Int) (x9_1:Int),v3 = .int .i64 x3_1∧v9 = .int .i64 x9_1∧Aside0 (spec_cuCode.l0 kq x3_1 l0_0 (l0_0.length:Int) x9_1 l0_0 a0_1=some r)∧Aside0 (kq≤k)∧Aside0 (w'.heap[gb167]? = some (.cells #[(.slice A0_0 l0_0.length c0_0), .bool a0_1] 35 (0,0)))∧Aside0 (Below w.heap.size w w'))
 case atStart=>exact ⟨(0),(0),xs',xs',H',⟨Nat.le_refl _⟩,⟨kk' BK167.out⟩,⟨yb' GE167.out⟩⟩
 case round =>
  clear H';try clear p2
  try clear hcz3_0
  try clear hcz3_1
  try clear hfz3_0
  try clear hfz3_1
  obtain ⟨x3_1,x9_1,rfl,rfl,HA,HK1,BK167,HB⟩:=hrel;cases gk with
  | zero=>exact absurd HA.out (by simp[spec_cuCode.l0])
  | succ k1 =>
   have H:=HA.out;clear HA;simp only[spec_cuCode.l0] at H;by_cases c4:x9_1 < (l0_0.length:Int)
   ·
    rw[if_pos c4] at H;have c4b0:decide (x9_1 < (l0_0.length:Int))=true:=dt' c4;clear c4;by_cases c5:0≤x9_1
    ·
     rw[if_pos c5] at H;have c5b0:decide (0≤x9_1)=true:=dt' c5;clear c5;by_cases c6:x9_1 < (l0_0.length:Int)
     ·
      rw[if_pos c6] at H;have c6b0:decide (x9_1 < (l0_0.length:Int))=true:=dt' c6;clear c6;obtain ⟨bq7,hbq7⟩:∃ b_:Bool,b_=(rdOf false l0_0 x9_1):=⟨_,rfl⟩
      replace H:(if bq7=true then (spec_cuCode.l0 k1 (Go.bits .or .i64 x3_1 (shl .i64 2 x9_1)) l0_0 (l0_0.length:Int) (wrap64 (x9_1+1)) l0_0 a0_1) else (spec_cuCode.l0 k1 x3_1 l0_0 (l0_0.length:Int) (wrap64 (x9_1+1)) l0_0 a0_1))=some r:=by rw[← hbq7] at H;exact H
      have Nbq7:=am' hbq7;clear hbq7;by_cases c8:bq7=true
      ·
       subst c8;have H1:(spec_cuCode.l0 k1 (Go.bits .or .i64 x3_1 (shl .i64 2 x9_1)) l0_0 (l0_0.length:Int) (wrap64 (x9_1+1)) l0_0 a0_1)=some r:=by rw[if_pos rfl] at H;exact H
       clear H;have H:=H1;clear H1;have c9b0:=eq_true (od' xa':0≤x9_1);obtain ⟨ji10,hji10⟩:∃ j_:Int,(shl .i64 2 x9_1)=j_:=⟨_,rfl⟩
       replace H:(spec_cuCode.l0 k1 (Go.bits .or .i64 x3_1 (ji10)) l0_0 (l0_0.length:Int) (wrap64 (x9_1+1)) l0_0 a0_1)=some r:=by first|(rw[hji10] at H;exact H)|(simp only[hji10] at H ⊢;exact H)
       have hji10_:(IntKind.i64.wrap (2 * 2 ^ min x9_1.toNat 64))=ji10:=hji10;have hji10z:x9_1≤64→(IntKind.i64.wrap (2 * 2 ^ x9_1.toNat))=ji10:=shl_small hji10;have hji10y:(wrap64 (2 * 2 ^ min x9_1.toNat 64))=ji10:=(i64_w _).symm.trans hji10_;have hji10x:x9_1≤64→(wrap64 (2 * 2 ^ x9_1.toNat))=ji10:=fun h_=>(i64_w _).symm.trans (hji10z h_)
       have H':=am' H;clear H;have p168:0≤(x9_1:Int):=od' xa';have q168:x9_1 < (l0_0.length:Int):=od' xa';obtain ⟨ad168,e168,hx168_0⟩:=Kd.at_bool HR0_0.out x9_1 p168 q168
       (try rw [← Nbq7.out] at hx168_0)
       cases e168
       replace hx168_0:=(HB.out.cell (bl' w _ hx168_0)).trans hx168_0;replace p168:=eq_true p168;replace q168:=eq_true q168;go_wp2;go_roundg k1
       case measure=>have:=HK1.out;omega
       case rel=>exact ⟨(Go.bits .or .i64 x3_1 (ji10)),(wrap64 (x9_1+1)),(by first|rfl|(simp;done)|(simp only[← hji10] <;> (first|rfl|simp))|(simp[*];done)),xs',H',⟨by have:=HK1.out;omega⟩,⟨kk' BK167.out⟩,⟨yb' GE167.out⟩⟩
      ·
       replace c8:=Bool.eq_false_iff.mpr c8;subst c8;have H1:(spec_cuCode.l0 k1 x3_1 l0_0 (l0_0.length:Int) (wrap64 (x9_1+1)) l0_0 a0_1)=some r:=by rw[if_neg (show ¬ (false=true) by decide)] at H;exact H
       clear H;have H:=H1;clear H1;have H':=am' H;clear H;have p168:0≤(x9_1:Int):=od' xa';have q168:x9_1 < (l0_0.length:Int):=od' xa';obtain ⟨ad168,e168,hx168_0⟩:=Kd.at_bool HR0_0.out x9_1 p168 q168
       (try rw [← Nbq7.out] at hx168_0)
       cases e168
       replace hx168_0:=(HB.out.cell (bl' w _ hx168_0)).trans hx168_0;replace p168:=eq_true p168;replace q168:=eq_true q168;go_wp2;go_roundg k1
       case measure=>have:=HK1.out;omega
       case rel=>exact ⟨(x3_1),(wrap64 (x9_1+1)),xs',xs',H',⟨by have:=HK1.out;omega⟩,⟨kk' BK167.out⟩,⟨yb' GE167.out⟩⟩
     ·
      rw[if_neg c6] at H;exact absurd H (by simp)
    ·
     rw[if_neg c5] at H;exact absurd H (by simp)
   ·
    rw[if_neg c4] at H;have c4b0:decide (x9_1 < (l0_0.length:Int))=false:=df' c4;clear c4;by_cases c11:a0_1=true
    ·
     subst c11;have H1:(some (wrap64 (x3_1+1)))=some r:=by rw[if_pos rfl] at H;exact H
     clear H;have H:=H1;clear H1;obtain rfl:=os' H;have hcz12_0:wr.cell? ⟨gb167,0,none⟩=some (.slice A0_0 l0_0.length c0_0):=(bc' BK167.out 0).trans rfl;have hcz12_1:wr.cell? ⟨gb167,1,none⟩=some (.bool true):=(bc' BK167.out 1).trans rfl;have hfz12_0:=bf' BK167.out 0;have hfz12_1:=bf' BK167.out 1;go_wp2;go_ret
     exact ⟨by first|rfl|(simp[errW_none,errW_some] <;> rfl)|(simp[*,errW_none,errW_some] <;> rfl),yb' GE167.out⟩
    ·
     replace c11:=Bool.eq_false_iff.mpr c11;subst c11;have H1:(some x3_1)=some r:=by rw[if_neg (show ¬ (false=true) by decide)] at H;exact H
     clear H;have H:=H1;clear H1;obtain rfl:=os' H;have hcz13_0:wr.cell? ⟨gb167,0,none⟩=some (.slice A0_0 l0_0.length c0_0):=(bc' BK167.out 0).trans rfl;have hcz13_1:wr.cell? ⟨gb167,1,none⟩=some (.bool false):=(bc' BK167.out 1).trans rfl;have hfz13_0:=bf' BK167.out 0;have hfz13_1:=bf' BK167.out 1;go_wp2;go_ret
     exact ⟨by first|rfl|(simp[errW_none,errW_some] <;> rfl)|(simp[*,errW_none,errW_some] <;> rfl),yb' GE167.out⟩
def spec_cuList.l0:Nat→Int→List Int→Int→Option (List Int)
 | 0,_,_,_=>none
 | k+1,x0,x3,x4=>if 0≤x4 then (if (shr .i64 x0 x4) > 0 then (if (Int.tmod (shr .i64 x0 x4) 2)=1 then (if x3.length < 17592186044416 then (spec_cuList.l0 k x0 (x3 ++ [x4]) (wrap64 (x4+1))) else (none)) else (spec_cuList.l0 k x0 x3 (wrap64 (x4+1)))) else (some x3)) else (none)
def spec_cuList.f (k:Nat) (a0:Int):Option (List Int):=spec_cuList.l0 k a0 ([]:List Int) 0
theorem spec_cuList.mono_l:∀ k,(∀ y0 y1 y2,LeO (spec_cuList.l0 k y0 y1 y2) (spec_cuList.l0 (k+1) y0 y1 y2))
 | 0=>fun _ _ _ r h=>by simp[spec_cuList.l0] at h
 | k+1=>by
  have ih0:=spec_cuList.mono_l k
  ·
   intro y0 y1 y2;unfold spec_cuList.l0
   repeat' first
   | (with_reducible exact ih0 _ _ _)
   | (with_reducible exact LeO.refl _)
   | (with_reducible exact LeO.none _)
   | (with_reducible refine LeO.ite ?_ ?_)
   | (with_reducible refine LeO.bind ?_ (fun _=>?_))
   | exact ih0 _ _ _
   | exact LeO.none _
   | refine LeO.ite ?_ ?_
   | refine LeO.bind ?_ (fun _=>?_)
theorem spec_cuList.mono:∀ a0 k,LeO (spec_cuList.f k a0) (spec_cuList.f (k+1) a0):=by
 intro a0 k;have ih0:=spec_cuList.mono_l k
 unfold spec_cuList.f
 repeat' first
   | (with_reducible exact ih0 _ _ _)
   | (with_reducible exact LeO.refl _)
   | (with_reducible exact LeO.none _)
   | (with_reducible refine LeO.ite ?_ ?_)
   | (with_reducible refine LeO.bind ?_ (fun _=>?_))
   | exact ih0 _ _ _
   | exact LeO.none _
   | refine LeO.ite ?_ ?_
   | refine LeO.bind ?_ (fun _=>?_)
set_option maxHeartbeats 8000000 in
set_option maxRecDepth 100000 in
theorem spec_cuList.calls (k:Nat) (a0:Int) (r:List Int) (w:World) (h:spec_cuList.f k a0=some r) :
  Calls Try.prog 46 #[.int .i64 a0] w fun e w'=>∃ v0_:Value,e = .returned (v0_)∧Kd.R (Kd.int .i64) 3 w' w.heap.size (fun _=>True) v0_ r∧Below w.heap.size w w':=by
 have HB:=am' (Below.refl w.heap.size w)
 have H:(spec_cuList.l0 k a0 ([]:List Int) 0)=some r:=h
 clear h;have H':=am' H
 clear H;go_enter Try.func46,Try.ntmps46
 go_wp2
 go_loopg [3,4] k (fun kq v3 v4 w'=>∃ (x3_1:List Int) (x4_1:Int),v4 = .int .i64 x4_1∧Aside0 (spec_cuList.l0 kq a0 x3_1 x4_1=some r)∧Aside0 (kq≤k)∧Aside0 (Kd.R (Kd.int .i64) 3 w' w.heap.size (fun _=>True) v3 x3_1)∧Aside0 (Below w.heap.size w w'))
 case atStart=>exact ⟨(([]:List Int)),(0),xs',H',⟨Nat.le_refl _⟩,⟨by first|exact Kd.R_nil _ _ _ _ _|exact Kd.N_nil _ _ _ _ _|exact Kd.V_nil _ _ _ _ _|exact Kd.Q_nil _ _ _ _ _|exact Kd.S_nil _ _ _ _ _⟩,⟨xb'⟩⟩
 case round =>
  clear H';obtain ⟨x3_1,x4_1,rfl,HA,HK1,HO_3,HB⟩:=hrel;cases gk with
  | zero=>exact absurd HA.out (by simp[spec_cuList.l0])
  | succ k1 =>
   have H:=HA.out;clear HA;simp only[spec_cuList.l0] at H;by_cases c2:0≤x4_1
   ·
    rw[if_pos c2] at H;have c2b0:=eq_true c2;have c2b1:decide (0≤x4_1)=true:=dt' c2;clear c2;obtain ⟨ji3,hji3⟩:∃ j_:Int,(shr .i64 a0 x4_1)=j_:=⟨_,rfl⟩
    replace H:(if (ji3) > 0 then (if (Int.tmod (ji3) 2)=1 then (if x3_1.length < 17592186044416 then (spec_cuList.l0 k1 a0 (x3_1 ++ [x4_1]) (wrap64 (x4_1+1))) else (none)) else (spec_cuList.l0 k1 a0 x3_1 (wrap64 (x4_1+1)))) else (some x3_1))=some r:=by first|(rw[hji3] at H;exact H)|(simp only[hji3] at H ⊢;exact H)
    have hji3_:(a0 / 2 ^ min x4_1.toNat 64)=ji3:=hji3;have hji3z:x4_1≤64→(a0 / 2 ^ x4_1.toNat)=ji3:=shr_small hji3;by_cases c4:(ji3) > 0
    ·
     rw[if_pos c4] at H;have c4b0:decide (0 < (ji3))=true:=dt' c4;clear c4;have c5b0:=eq_true (od' xa':0≤x4_1);by_cases c7:(Int.tmod (ji3) 2)=1
     ·
      rw[if_pos c7] at H;have c7b0:((Int.tmod (ji3) 2) == 1)=true:=beq_iff_eq.mpr c7;have c7b1:((Int.tmod (ji3) 2) != 1)=false:=bne_eq_false_iff_eq.mpr c7;clear c7;by_cases c8:x3_1.length < 17592186044416
      ·
       rw[if_pos c8] at H;have LMc8:=am' c8;clear c8;obtain ⟨y169,hy169⟩:∃ y_:List Int,y_=(x3_1 ++ [x4_1]):=⟨_,rfl⟩
       replace H:(spec_cuList.l0 k1 a0 y169 (wrap64 (x4_1+1)))=some r:=by first|(rw[hy169];with_reducible exact H)|(have H2_:=(Option.bind_some _ _).symm.trans H;rw[hy169];with_reducible exact H2_)|(have H2_:=(Option.bind_some _ _).symm.trans H;with_reducible exact H2_)|with_reducible exact H|(rw[hy169];exact H)|exact H
       have Ny169:=am' hy169;clear hy169;have H':=am' H;clear H;go_wp2_with (first|((with_reducible refine gate_builtin (b := .append) (xs:=#[.tmp 16, .tmp 18]) rfl ?_);at_builtin;refine Kd.R_append (Kd.int .i64) (w0:=w) w.heap.size rfl (.tmp 16) (.tmp 18) 28 3 (.int .i64 0) 8 rfl Try.underlying28 info3 rfl (by decide) (by omega) u3 x3_1 x4_1 [.int .i64 x4_1] (fun _=>True) (fun _=>False) rfl rfl ?aP (fun _ hk=>hk.elim) ?aF ?aO ?aB ?aS ?aL ?_;(case aP=>exact rfl);(case aB=>exact xb');(case aF=>exact (fun _ _=>trivial));(case aO=>exact (kr' HO_3.out));(case aS=>exact (bz' xb'));(case aL=>have:=LMc8.out;omega);intro v170 w9 ho hb hg hat;rw[← Ny169.out] at ho;have n0_:=am' (hb);have n1_:=am' (ho);clear HB;clear HO_3;have HB:=n0_;have HO171:=n1_;clear n0_ n1_;clear ho hb hg hat));go_roundg k1
       case measure=>have:=HK1.out;omega
       case rel=>exact ⟨(y169),(wrap64 (x4_1+1)),xs',H',⟨by have:=HK1.out;omega⟩,⟨kr' HO171.out⟩,⟨xb'⟩⟩
      ·
       rw[if_neg c8] at H;exact absurd H (by simp)
     ·
      rw[if_neg c7] at H;have c7b0:((Int.tmod (ji3) 2) == 1)=false:=beq_eq_false_iff_ne.mpr c7;have c7b1:((Int.tmod (ji3) 2) != 1)=true:=bne_iff_ne.mpr c7;have H':=am' H;clear H;go_wp2;go_roundg k1
      case measure=>have:=HK1.out;omega
      case rel=>exact ⟨(x3_1),(wrap64 (x4_1+1)),xs',H',⟨by have:=HK1.out;omega⟩,⟨kr' HO_3.out⟩,⟨xb'⟩⟩
    ·
     rw[if_neg c4] at H;have c4b0:decide (0 < (ji3))=false:=df' c4;clear c4;obtain rfl:=os' H;go_wp2;go_ret
     exact ⟨_,by first|rfl|(simp[errW_none,errW_some] <;> rfl)|(simp only[← hji3];first|rfl|(simp[errW_none,errW_some] <;> rfl))|(simp[*,errW_none,errW_some] <;> rfl),kr' HO_3.out,xb'⟩
   ·
    rw[if_neg c2] at H;exact absurd H (by simp)
end Go.Proofs.Ytabhhkiipilghaa.C2
