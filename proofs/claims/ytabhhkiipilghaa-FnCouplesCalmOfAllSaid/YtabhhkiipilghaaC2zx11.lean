import Derived.Test.YtabhhkiipilghaaC2zx0
import Derived.Test.YtabhhkiipilghaaC2zx3
import Derived.Test.YtabhhkiipilghaaC2zAl
namespace Go.Proofs.Ytabhhkiipilghaa.C2
open Go.RowKit Go.Proofs.YtabhhkiipilghaaW.PrintWords Go.Proofs.YtabhhkiipilghaaW.PrintLast Go.Proofs.YtabhhkiipilghaaW.PrintMore Go.Proofs.Ytabhhkiipilghaa.H
attribute [local go_sem] max2_int min2_int max_two min_two max_three min_three max_four min_four
set_option linter.unusedVariables false
set_option linter.unusedSimpArgs false
mutual
def laws_hBefore.l0:Nat→List Int→List Int→Int→Option (Bool)
 | 0,_,_,_=>none
 | k+1,x0,x1,x5=>if x5 < (x0.length:Int) then (laws_hBefore.j1 k x0 x1 x5 (decide (x5 < (x1.length:Int)))) else (laws_hBefore.j1 k x0 x1 x5 false)
def laws_hBefore.j1:Nat→List Int→List Int→Int→Bool→Option (Bool)
 | 0,_,_,_,_=>none
 | k+1,x0,x1,x5,x15=>if x15=true then (if 0≤x5 then (if x5 < (x0.length:Int) then (if x5 < (x1.length:Int) then (if (rd x0 x5)=(rd x1 x5) then (laws_hBefore.l0 k x0 x1 (wrap64 (x5+1))) else (some (decide ((rd x0 x5) < (rd x1 x5))))) else (none)) else (none)) else (none)) else (some (decide ((x0.length:Int) < (x1.length:Int))))
end
def laws_hBefore.f (k:Nat) (l0:List Int) (l1:List Int):Option (Bool):=laws_hBefore.l0 k l0 l1 0
theorem laws_hBefore.mono_l:∀ k,(∀ y0 y1 y2,LeO (laws_hBefore.l0 k y0 y1 y2) (laws_hBefore.l0 (k+1) y0 y1 y2))∧(∀ y0 y1 y2 y3,LeO (laws_hBefore.j1 k y0 y1 y2 y3) (laws_hBefore.j1 (k+1) y0 y1 y2 y3))
 | 0=>⟨fun _ _ _ r h=>by simp[laws_hBefore.l0] at h,fun _ _ _ _ r h=>by simp[laws_hBefore.j1] at h⟩
 | k+1=>by
  obtain ⟨ih0,ih1⟩:=laws_hBefore.mono_l k;refine ⟨?_,?_⟩
  ·
   intro y0 y1 y2;unfold laws_hBefore.l0
   repeat' first
   | (with_reducible exact ih0 _ _ _)
   | (with_reducible exact ih1 _ _ _ _)
   | (with_reducible exact LeO.refl _)
   | (with_reducible exact LeO.none _)
   | (with_reducible refine LeO.ite ?_ ?_)
   | (with_reducible refine LeO.bind ?_ (fun _=>?_))
   | exact ih0 _ _ _
   | exact ih1 _ _ _ _
   | exact LeO.none _
   | refine LeO.ite ?_ ?_
   | refine LeO.bind ?_ (fun _=>?_)
  ·
   intro y0 y1 y2 y3;unfold laws_hBefore.j1
   repeat' first
   | (with_reducible exact ih0 _ _ _)
   | (with_reducible exact ih1 _ _ _ _)
   | (with_reducible exact LeO.refl _)
   | (with_reducible exact LeO.none _)
   | (with_reducible refine LeO.ite ?_ ?_)
   | (with_reducible refine LeO.bind ?_ (fun _=>?_))
   | exact ih0 _ _ _
   | exact ih1 _ _ _ _
   | exact LeO.none _
   | refine LeO.ite ?_ ?_
   | refine LeO.bind ?_ (fun _=>?_)
theorem laws_hBefore.mono:∀ a0 a1 k,LeO (laws_hBefore.f k a0 a1) (laws_hBefore.f (k+1) a0 a1):=by
 intro a0 a1 k;obtain ⟨ih0,ih1⟩:=laws_hBefore.mono_l k
 unfold laws_hBefore.f
 repeat' first
   | (with_reducible exact ih0 _ _ _)
   | (with_reducible exact ih1 _ _ _ _)
   | (with_reducible exact LeO.refl _)
   | (with_reducible exact LeO.none _)
   | (with_reducible refine LeO.ite ?_ ?_)
   | (with_reducible refine LeO.bind ?_ (fun _=>?_))
   | exact ih0 _ _ _
   | exact ih1 _ _ _ _
   | exact LeO.none _
   | refine LeO.ite ?_ ?_
   | refine LeO.bind ?_ (fun _=>?_)
set_option maxHeartbeats 8000000 in
set_option maxRecDepth 100000 in
theorem laws_hBefore.calls (k:Nat) (A0:Option Addr) (c0:Nat) (l0:List Int) (A1:Option Addr) (c1:Nat) (l1:List Int) (r:Bool) (w:World) (hr0:Kd.C (Kd.int .i64) w A0 l0.length l0) (hc0:l0.length≤c0) (hr1:Kd.C (Kd.int .i64) w A1 l1.length l1) (hc1:l1.length≤c1) (h:laws_hBefore.f k l0 l1=some r) :
  Calls Try.prog 23 #[.slice A0 l0.length c0, .slice A1 l1.length c1] w fun e w'=>e = .returned (.bool r)∧Drawn0 w w':=by
 have HR0:=am' hr0
 have HC0:=am' hc0
 clear hr0 hc0;have HR1:=am' hr1
 have HC1:=am' hc1
 clear hr1 hc1;have H:(laws_hBefore.l0 k l0 l1 0)=some r:=h
 clear h;have H':=am' H
 clear H;go_enter Try.func23,Try.ntmps23
 go_wp2
 repeat (go_quiet (fail);try go_wp2)
 go_loopg [5] k (fun kq v5 w'=>∃ (x5_1:Int),v5 = .int .i64 x5_1∧Aside0 (laws_hBefore.l0 kq l0 l1 x5_1=some r)∧Aside0 (kq≤k)∧Drawn0 w w')
 case atStart=>exact ⟨(0),xs',H',⟨Nat.le_refl _⟩,by repeat (first|exact Drawn0.refl _|apply Drawn0.step)⟩
 case round =>
  clear H';try clear c1
  try clear c2
  try clear p2
  obtain ⟨x5_1,rfl,HA,HK1,⟨m1,rfl⟩⟩:=hrel;cases gk with
  | zero=>exact absurd HA.out (by simp[laws_hBefore.l0])
  | succ k1 =>
   have H:=HA.out;clear HA;simp only[laws_hBefore.l0] at H;have HC3:=am' H;clear H;go_upto_region 2 with (fail)
   repeat (go_quiet (fail);go_upto_region 2 with (fail))
   go_cut [15] (fun v15 wc=>∃ (kq:Nat) (x15_2:Bool),v15 = .bool x15_2∧Aside0 (laws_hBefore.j1 kq l0 l1 x5_1 x15_2=some r)∧Aside0 (kq≤k1)∧Drawn0 w wc)
   case first =>
    have H:=HC3.out;clear HC3;by_cases c4:x5_1 < (l0.length:Int)
    ·
     rw[if_pos c4] at H;have c4b0:decide (x5_1 < (l0.length:Int))=true:=dt' c4;clear c4;(first|rw[c4b0]|(simp only[i64_w,i32_w];rw[c4b0])|skip)
     have H':=am' H;clear H;go_wp2
     repeat (go_quiet (fail);try go_wp2)
     go_meet
     case rel=>exact ⟨_,(decide (x5_1 < (l1.length:Int))),xs',H',⟨by have:=HK1.out;first|omega|exact Nat.le_refl _⟩,by repeat (first|exact Drawn0.refl _|apply Drawn0.step)⟩
    ·
     rw[if_neg c4] at H;have c4b0:decide (x5_1 < (l0.length:Int))=false:=df' c4;clear c4;(first|rw[c4b0]|(simp only[i64_w,i32_w];rw[c4b0])|skip)
     have H':=am' H;clear H;go_wp2
     repeat (go_quiet (fail);try go_wp2)
     go_meet
     case rel=>exact ⟨_,(false),xs',H',⟨by have:=HK1.out;first|omega|exact Nat.le_refl _⟩,by repeat (first|exact Drawn0.refl _|apply Drawn0.step)⟩
   case rest =>
    clear HC3;try clear c1
    try clear c2
    try clear p2
    try clear c4
    try clear c4b0
    try clear p2
    obtain ⟨kq,x15_2,rfl,HA,HJ2,⟨mc2,rfl⟩⟩:=hcut;cases kq with
    | zero=>exact absurd HA.out (by simp[laws_hBefore.j1])
    | succ kj2 =>
     have H:=HA.out;clear HA;simp only[laws_hBefore.j1] at H;by_cases c5:x15_2=true
     ·
      subst c5;have H1:(if 0≤x5_1 then (if x5_1 < (l0.length:Int) then (if x5_1 < (l1.length:Int) then (if (rd l0 x5_1)=(rd l1 x5_1) then (laws_hBefore.l0 kj2 l0 l1 (wrap64 (x5_1+1))) else (some (decide ((rd l0 x5_1) < (rd l1 x5_1))))) else (none)) else (none)) else (none))=some r:=by rw[if_pos rfl] at H;exact H
      clear H;have H:=H1;clear H1;by_cases c6:0≤x5_1
      ·
       rw[if_pos c6] at H;have c6b0:decide (0≤x5_1)=true:=dt' c6;clear c6;by_cases c7:x5_1 < (l0.length:Int)
       ·
        rw[if_pos c7] at H;have c7b0:decide (x5_1 < (l0.length:Int))=true:=dt' c7;clear c7;by_cases c8:x5_1 < (l1.length:Int)
        ·
         rw[if_pos c8] at H;have c8b0:decide (x5_1 < (l1.length:Int))=true:=dt' c8;clear c8;by_cases c9:(rd l0 x5_1)=(rd l1 x5_1)
         ·
          rw[if_pos c9] at H;have c9b0:((rd l0 x5_1) == (rd l1 x5_1))=true:=beq_iff_eq.mpr c9;have c9b1:((rd l0 x5_1) != (rd l1 x5_1))=false:=bne_eq_false_iff_eq.mpr c9;clear c9;have H':=am' H;clear H;have p293:0≤(x5_1:Int):=od' xa';have q293:x5_1 < (l0.length:Int):=od' xa';obtain ⟨ad293,e293,hx293_0⟩:=Kd.at_int HR0.out x5_1 p293 q293;cases e293;replace p293:=eq_true p293;replace q293:=eq_true q293;have p294:0≤(x5_1:Int):=od' xa';have q294:x5_1 < (l1.length:Int):=od' xa';obtain ⟨ad294,e294,hx294_0⟩:=Kd.at_int HR1.out x5_1 p294 q294;cases e294;replace p294:=eq_true p294;replace q294:=eq_true q294;go_wp2
          repeat (go_quiet (fail);try go_wp2)
          go_roundg kj2
          case measure=>have:=HK1.out;have:=HJ2.out;omega
          case rel=>exact ⟨(wrap64 (x5_1+1)),xs',H',⟨by have:=HK1.out;have:=HJ2.out;omega⟩,by repeat (first|exact Drawn0.refl _|apply Drawn0.step)⟩
         ·
          rw[if_neg c9] at H;have c9b0:((rd l0 x5_1) == (rd l1 x5_1))=false:=beq_eq_false_iff_ne.mpr c9;have c9b1:((rd l0 x5_1) != (rd l1 x5_1))=true:=bne_iff_ne.mpr c9;obtain rfl:=os' H;have p293:0≤(x5_1:Int):=od' xa';have q293:x5_1 < (l0.length:Int):=od' xa';obtain ⟨ad293,e293,hx293_0⟩:=Kd.at_int HR0.out x5_1 p293 q293;cases e293;replace p293:=eq_true p293;replace q293:=eq_true q293;have p294:0≤(x5_1:Int):=od' xa';have q294:x5_1 < (l1.length:Int):=od' xa';obtain ⟨ad294,e294,hx294_0⟩:=Kd.at_int HR1.out x5_1 p294 q294;cases e294;replace p294:=eq_true p294;replace q294:=eq_true q294;have p295:0≤(x5_1:Int):=od' xa';have q295:x5_1 < (l0.length:Int):=od' xa';obtain ⟨ad295,e295,hx295_0⟩:=Kd.at_int HR0.out x5_1 p295 q295;obtain rfl:ad293=ad295:=(by injection e295)
          replace p295:=eq_true p295;replace q295:=eq_true q295;have p296:0≤(x5_1:Int):=od' xa';have q296:x5_1 < (l1.length:Int):=od' xa';obtain ⟨ad296,e296,hx296_0⟩:=Kd.at_int HR1.out x5_1 p296 q296;obtain rfl:ad294=ad296:=(by injection e296)
          replace p296:=eq_true p296;replace q296:=eq_true q296;go_wp2
          repeat (go_quiet (fail);try go_wp2)
          go_ret
          exact ⟨xs',by repeat (first|exact Drawn0.refl _|apply Drawn0.step)⟩
        ·
         rw[if_neg c8] at H;exact absurd H (by simp)
       ·
        rw[if_neg c7] at H;exact absurd H (by simp)
      ·
       rw[if_neg c6] at H;exact absurd H (by simp)
     ·
      replace c5:=Bool.eq_false_iff.mpr c5;subst c5;have H1:(some (decide ((l0.length:Int) < (l1.length:Int))))=some r:=by rw[if_neg (show ¬ (false=true) by decide)] at H;exact H
      clear H;have H:=H1;clear H1;obtain rfl:=os' H;go_wp2
      repeat (go_quiet (fail);try go_wp2)
      go_ret
      exact ⟨xs',by repeat (first|exact Drawn0.refl _|apply Drawn0.step)⟩
def spec_cuBits.l0:Nat→Int→List Int→Int→Int→Option (Int)
 | 0,_,_,_,_=>none
 | k+1,x3,x6,x7,x8=>if x8 < x7 then (if 0≤x8 then (if x8 < (x6.length:Int) then (if 0≤(rd x6 x8) then (spec_cuBits.l0 k (Go.bits .or .i64 x3 (shl .i64 1 (rd x6 x8))) x6 x7 (wrap64 (x8+1))) else (none)) else (none)) else (none)) else (some x3)
def spec_cuBits.f (k:Nat) (l0:List Int):Option (Int):=spec_cuBits.l0 k 0 l0 (l0.length:Int) 0
theorem spec_cuBits.mono_l:∀ k,(∀ y0 y1 y2 y3,LeO (spec_cuBits.l0 k y0 y1 y2 y3) (spec_cuBits.l0 (k+1) y0 y1 y2 y3))
 | 0=>fun _ _ _ _ r h=>by simp[spec_cuBits.l0] at h
 | k+1=>by
  have ih0:=spec_cuBits.mono_l k
  ·
   intro y0 y1 y2 y3;unfold spec_cuBits.l0
   repeat' first
   | (with_reducible exact ih0 _ _ _ _)
   | (with_reducible exact LeO.refl _)
   | (with_reducible exact LeO.none _)
   | (with_reducible refine LeO.ite ?_ ?_)
   | (with_reducible refine LeO.bind ?_ (fun _=>?_))
   | exact ih0 _ _ _ _
   | exact LeO.none _
   | refine LeO.ite ?_ ?_
   | refine LeO.bind ?_ (fun _=>?_)
theorem spec_cuBits.mono:∀ a0 k,LeO (spec_cuBits.f k a0) (spec_cuBits.f (k+1) a0):=by
 intro a0 k;have ih0:=spec_cuBits.mono_l k
 unfold spec_cuBits.f
 repeat' first
   | (with_reducible exact ih0 _ _ _ _)
   | (with_reducible exact LeO.refl _)
   | (with_reducible exact LeO.none _)
   | (with_reducible refine LeO.ite ?_ ?_)
   | (with_reducible refine LeO.bind ?_ (fun _=>?_))
   | exact ih0 _ _ _ _
   | exact LeO.none _
   | refine LeO.ite ?_ ?_
   | refine LeO.bind ?_ (fun _=>?_)
set_option maxHeartbeats 8000000 in
set_option maxRecDepth 100000 in
theorem spec_cuBits.calls (k:Nat) (A0:Option Addr) (c0:Nat) (l0:List Int) (r:Int) (w:World) (hr0:Kd.C (Kd.int .i64) w A0 l0.length l0) (hc0:l0.length≤c0) (h:spec_cuBits.f k l0=some r) :
  Calls Try.prog 57 #[.slice A0 l0.length c0] w fun e w'=>e = .returned (.int .i64 r)∧Drawn0 w w':=by
 have HR0:=am' hr0
 have HC0:=am' hc0
 clear hr0 hc0;have H:(spec_cuBits.l0 k 0 l0 (l0.length:Int) 0)=some r:=h
 clear h;have H':=am' H
 clear H;go_enter Try.func57,Try.ntmps57
 go_wp2
 go_loopg [3,8] k (fun kq v3 v8 w'=>∃ (x3_1:Int) (x8_1:Int),v3 = .int .i64 x3_1∧v8 = .int .i64 x8_1∧Aside0 (spec_cuBits.l0 kq x3_1 l0 (l0.length:Int) x8_1=some r)∧Aside0 (kq≤k)∧Drawn0 w w')
 case atStart=>exact ⟨(0),(0),xs',xs',H',⟨Nat.le_refl _⟩,by repeat (first|exact Drawn0.refl _|apply Drawn0.step)⟩
 case round =>
  clear H';obtain ⟨x3_1,x8_1,rfl,rfl,HA,HK1,⟨m1,rfl⟩⟩:=hrel;cases gk with
  | zero=>exact absurd HA.out (by simp[spec_cuBits.l0])
  | succ k1 =>
   have H:=HA.out;clear HA;simp only[spec_cuBits.l0] at H;by_cases c2:x8_1 < (l0.length:Int)
   ·
    rw[if_pos c2] at H;have c2b0:decide (x8_1 < (l0.length:Int))=true:=dt' c2;clear c2;by_cases c3:0≤x8_1
    ·
     rw[if_pos c3] at H;have c3b0:decide (0≤x8_1)=true:=dt' c3;clear c3;by_cases c4:x8_1 < (l0.length:Int)
     ·
      rw[if_pos c4] at H;have c4b0:decide (x8_1 < (l0.length:Int))=true:=dt' c4;clear c4;by_cases c5:0≤(rd l0 x8_1)
      ·
       rw[if_pos c5] at H;have c5b0:=eq_true c5;have c5b1:decide (0≤(rd l0 x8_1))=true:=dt' c5;clear c5;obtain ⟨ji6,hji6⟩:∃ j_:Int,(shl .i64 1 (rd l0 x8_1))=j_:=⟨_,rfl⟩
       replace H:(spec_cuBits.l0 k1 (Go.bits .or .i64 x3_1 (ji6)) l0 (l0.length:Int) (wrap64 (x8_1+1)))=some r:=by first|(rw[hji6] at H;exact H)|(simp only[hji6] at H ⊢;exact H)
       have hji6_:(IntKind.i64.wrap (1 * 2 ^ min (rd l0 x8_1).toNat 64))=ji6:=hji6;have hji6z:(rd l0 x8_1)≤64→(IntKind.i64.wrap (1 * 2 ^ (rd l0 x8_1).toNat))=ji6:=shl_small hji6;have hji6u:(IntKind.i64.wrap (2 ^ min (rd l0 x8_1).toNat 64))=ji6:=by have h_:=hji6_;rw[Int.one_mul] at h_;exact h_
       have hji6v:(rd l0 x8_1)≤64→(IntKind.i64.wrap (2 ^ (rd l0 x8_1).toNat))=ji6:=fun hle_=>by have h_:=hji6z hle_;rw[Int.one_mul] at h_;exact h_
       have hji6y:(wrap64 (1 * 2 ^ min (rd l0 x8_1).toNat 64))=ji6:=(i64_w _).symm.trans hji6_;have hji6x:(rd l0 x8_1)≤64→(wrap64 (1 * 2 ^ (rd l0 x8_1).toNat))=ji6:=fun h_=>(i64_w _).symm.trans (hji6z h_)
       have H':=am' H;clear H;have p297:0≤(x8_1:Int):=od' xa';have q297:x8_1 < (l0.length:Int):=od' xa';obtain ⟨ad297,e297,hx297_0⟩:=Kd.at_int HR0.out x8_1 p297 q297;cases e297;replace p297:=eq_true p297;replace q297:=eq_true q297;go_wp2;go_roundg k1
       case measure=>have:=HK1.out;omega
       case rel=>exact ⟨(Go.bits .or .i64 x3_1 (ji6)),(wrap64 (x8_1+1)),(by first|rfl|(simp;done)|(simp only[← hji6] <;> (first|rfl|simp))|(simp[*];done)),xs',H',⟨by have:=HK1.out;omega⟩,by repeat (first|exact Drawn0.refl _|apply Drawn0.step)⟩
      ·
       rw[if_neg c5] at H;exact absurd H (by simp)
     ·
      rw[if_neg c4] at H;exact absurd H (by simp)
    ·
     rw[if_neg c3] at H;exact absurd H (by simp)
   ·
    rw[if_neg c2] at H;have c2b0:decide (x8_1 < (l0.length:Int))=false:=df' c2;clear c2;obtain rfl:=os' H;go_wp2;go_ret
    exact ⟨xs',by repeat (first|exact Drawn0.refl _|apply Drawn0.step)⟩
def spec_l1Rising.l0:Nat→List Int→Int→Int→List Int→Int→Int→Option (Bool)
 | 0,_,_,_,_,_,_=>none
 | k+1,x0,x1,x2,x9,x10,x11=>if x11 < x10 then (if 0≤x11 then (if x11 < (x9.length:Int) then ((spec_l1In.f (rd x9 x11) x1 x2).bind fun t299=>(if t299=true then (if x11 > 0 then (if 0≤(wrap64 (x11 - 1)) then (if (wrap64 (x11 - 1)) < (x0.length:Int) then (if (rd x0 (wrap64 (x11 - 1))) ≥ (rd x9 x11) then (some false) else (spec_l1Rising.l0 k x0 x1 x2 x9 x10 (wrap64 (x11+1)))) else (none)) else (none)) else (spec_l1Rising.l0 k x0 x1 x2 x9 x10 (wrap64 (x11+1)))) else (some false))) else (none)) else (none)) else (some true)
def spec_l1Rising.f (k:Nat) (l0:List Int) (a1:Int) (a2:Int):Option (Bool):=spec_l1Rising.l0 k l0 a1 a2 l0 (l0.length:Int) 0
theorem spec_l1Rising.mono_l:∀ k,(∀ y0 y1 y2 y3 y4 y5,LeO (spec_l1Rising.l0 k y0 y1 y2 y3 y4 y5) (spec_l1Rising.l0 (k+1) y0 y1 y2 y3 y4 y5))
 | 0=>fun _ _ _ _ _ _ r h=>by simp[spec_l1Rising.l0] at h
 | k+1=>by
  have ih0:=spec_l1Rising.mono_l k
  ·
   intro y0 y1 y2 y3 y4 y5;unfold spec_l1Rising.l0
   repeat' first
   | (with_reducible exact ih0 _ _ _ _ _ _)
   | (with_reducible exact LeO.refl _)
   | (with_reducible exact LeO.none _)
   | (with_reducible refine LeO.ite ?_ ?_)
   | (with_reducible refine LeO.bind ?_ (fun _=>?_))
   | exact ih0 _ _ _ _ _ _
   | exact LeO.none _
   | refine LeO.ite ?_ ?_
   | refine LeO.bind ?_ (fun _=>?_)
theorem spec_l1Rising.mono:∀ a0 a1 a2 k,LeO (spec_l1Rising.f k a0 a1 a2) (spec_l1Rising.f (k+1) a0 a1 a2):=by
 intro a0 a1 a2 k;have ih0:=spec_l1Rising.mono_l k
 unfold spec_l1Rising.f
 repeat' first
   | (with_reducible exact ih0 _ _ _ _ _ _)
   | (with_reducible exact LeO.refl _)
   | (with_reducible exact LeO.none _)
   | (with_reducible refine LeO.ite ?_ ?_)
   | (with_reducible refine LeO.bind ?_ (fun _=>?_))
   | exact ih0 _ _ _ _ _ _
   | exact LeO.none _
   | refine LeO.ite ?_ ?_
   | refine LeO.bind ?_ (fun _=>?_)
set_option maxHeartbeats 8000000 in
set_option maxRecDepth 100000 in
theorem spec_l1Rising.calls (k:Nat) (A0:Option Addr) (c0:Nat) (l0:List Int) (a1:Int) (a2:Int) (r:Bool) (w:World) (hr0:Kd.C (Kd.int .i64) w A0 l0.length l0) (hc0:l0.length≤c0) (h:spec_l1Rising.f k l0 a1 a2=some r) :
  Calls Try.prog 58 #[.slice A0 l0.length c0, .int .i64 a1, .int .i64 a2] w fun e w'=>e = .returned (.bool r)∧Drawn0 w w':=by
 have HR0:=am' hr0
 have HC0:=am' hc0
 clear hr0 hc0;have H:(spec_l1Rising.l0 k l0 a1 a2 l0 (l0.length:Int) 0)=some r:=h
 clear h;have H':=am' H
 clear H;go_enter Try.func58,Try.ntmps58
 go_wp2
 go_loopg [11] k (fun kq v11 w'=>∃ (x11_1:Int),v11 = .int .i64 x11_1∧Aside0 (spec_l1Rising.l0 kq l0 a1 a2 l0 (l0.length:Int) x11_1=some r)∧Aside0 (kq≤k)∧Drawn0 w w')
 case atStart=>exact ⟨(0),xs',H',⟨Nat.le_refl _⟩,by repeat (first|exact Drawn0.refl _|apply Drawn0.step)⟩
 case round =>
  clear H';try clear p2
  obtain ⟨x11_1,rfl,HA,HK1,⟨m1,rfl⟩⟩:=hrel;cases gk with
  | zero=>exact absurd HA.out (by simp[spec_l1Rising.l0])
  | succ k1 =>
   have H:=HA.out;clear HA;simp only[spec_l1Rising.l0] at H;by_cases c4:x11_1 < (l0.length:Int)
   ·
    rw[if_pos c4] at H;have c4b0:decide (x11_1 < (l0.length:Int))=true:=dt' c4;clear c4;by_cases c5:0≤x11_1
    ·
     rw[if_pos c5] at H;have c5b0:decide (0≤x11_1)=true:=dt' c5;clear c5;by_cases c6:x11_1 < (l0.length:Int)
     ·
      rw[if_pos c6] at H;have c6b0:decide (x11_1 < (l0.length:Int))=true:=dt' c6;clear c6;replace H:=Option.bind_eq_some_iff.mp H;obtain ⟨t299,A70,H⟩:=H;replace H:(if t299=true then (if x11_1 > 0 then (if 0≤(wrap64 (x11_1 - 1)) then (if (wrap64 (x11_1 - 1)) < (l0.length:Int) then (if (rd l0 (wrap64 (x11_1 - 1))) ≥ (rd l0 x11_1) then (some false) else (spec_l1Rising.l0 k1 l0 a1 a2 l0 (l0.length:Int) (wrap64 (x11_1+1)))) else (none)) else (none)) else (spec_l1Rising.l0 k1 l0 a1 a2 l0 (l0.length:Int) (wrap64 (x11_1+1)))) else (some false))=some r:=H;have A7:=am' A70;clear A70;by_cases c8:t299=true
      ·
       subst c8;have H1:(if x11_1 > 0 then (if 0≤(wrap64 (x11_1 - 1)) then (if (wrap64 (x11_1 - 1)) < (l0.length:Int) then (if (rd l0 (wrap64 (x11_1 - 1))) ≥ (rd l0 x11_1) then (some false) else (spec_l1Rising.l0 k1 l0 a1 a2 l0 (l0.length:Int) (wrap64 (x11_1+1)))) else (none)) else (none)) else (spec_l1Rising.l0 k1 l0 a1 a2 l0 (l0.length:Int) (wrap64 (x11_1+1))))=some r:=by rw[if_pos rfl] at H;exact H
       clear H;have H:=H1;clear H1;by_cases c9:x11_1 > 0
       ·
        rw[if_pos c9] at H;have c9b0:decide (0 < x11_1)=true:=dt' c9;clear c9;obtain ⟨ji10,hji10⟩:∃ j_:Int,(wrap64 (x11_1 - 1))=j_:=⟨_,rfl⟩
        replace H:(if 0≤(ji10) then (if (ji10) < (l0.length:Int) then (if (rd l0 (ji10)) ≥ (rd l0 x11_1) then (some false) else (spec_l1Rising.l0 k1 l0 a1 a2 l0 (l0.length:Int) (wrap64 (x11_1+1)))) else (none)) else (none))=some r:=by first|(rw[hji10] at H;exact H)|(simp only[hji10] at H ⊢;exact H)
        (try rw [hji10] at A7)
        have hji10w:(IntKind.i64.wrap (x11_1 - 1))=ji10:=(i64_w _).trans hji10;by_cases c11:0≤(ji10)
        ·
         rw[if_pos c11] at H;have c11b0:decide (0≤(ji10))=true:=dt' c11;clear c11;by_cases c12:(ji10) < (l0.length:Int)
         ·
          rw[if_pos c12] at H;have c12b0:decide ((ji10) < (l0.length:Int))=true:=dt' c12;clear c12;by_cases c13:(rd l0 (ji10)) ≥ (rd l0 x11_1)
          ·
           rw[if_pos c13] at H;have c13b0:decide ((rd l0 x11_1)≤(rd l0 (ji10)))=true:=dt' c13;clear c13;obtain rfl:=os' H;have p298:0≤(x11_1:Int):=od' xa';have q298:x11_1 < (l0.length:Int):=od' xa';obtain ⟨ad298,e298,hx298_0⟩:=Kd.at_int HR0.out x11_1 p298 q298;cases e298;replace p298:=eq_true p298;replace q298:=eq_true q298;go_wp2_with (first|((with_reducible refine gate_callee (f:=33) rfl ?_);refine goesL_ (some 19) rfl rfl Try.func33 xk' rfl #[.int .i64 (rd l0 x11_1), .int .i64 a1, .int .i64 a2] rfl xl' ?_;(with_reducible refine (spec_l1In.calls (rd l0 x11_1) a1 a2 true _ A7.out).mono ?_);rintro e w' ⟨rfl,⟨nd,rfl⟩⟩;refine ⟨_,rfl,?_⟩;have p300:0≤((ji10):Int):=od' xa';have q300:(ji10) < (l0.length:Int):=od' xa';obtain ⟨ad300,e300,hx300_0⟩:=Kd.at_int HR0.out (ji10) p300 q300;obtain rfl:ad298=ad300:=(by injection e300);replace p300:=eq_true p300;replace q300:=eq_true q300));go_ret
           exact ⟨by first|rfl|(simp;done)|(simp only[← hji10] <;> (first|rfl|simp))|(simp[*];done),by repeat (first|exact Drawn0.refl _|apply Drawn0.step)⟩
          ·
           rw[if_neg c13] at H;have c13b0:decide ((rd l0 x11_1)≤(rd l0 (ji10)))=false:=df' c13;clear c13;have H':=am' H;clear H;have p298:0≤(x11_1:Int):=od' xa';have q298:x11_1 < (l0.length:Int):=od' xa';obtain ⟨ad298,e298,hx298_0⟩:=Kd.at_int HR0.out x11_1 p298 q298;cases e298;replace p298:=eq_true p298;replace q298:=eq_true q298;go_wp2_with (first|((with_reducible refine gate_callee (f:=33) rfl ?_);refine goesL_ (some 19) rfl rfl Try.func33 xk' rfl #[.int .i64 (rd l0 x11_1), .int .i64 a1, .int .i64 a2] rfl xl' ?_;(with_reducible refine (spec_l1In.calls (rd l0 x11_1) a1 a2 true _ A7.out).mono ?_);rintro e w' ⟨rfl,⟨nd,rfl⟩⟩;refine ⟨_,rfl,?_⟩;have p300:0≤((ji10):Int):=od' xa';have q300:(ji10) < (l0.length:Int):=od' xa';obtain ⟨ad300,e300,hx300_0⟩:=Kd.at_int HR0.out (ji10) p300 q300;obtain rfl:ad298=ad300:=(by injection e300);replace p300:=eq_true p300;replace q300:=eq_true q300));go_roundg k1
           case measure=>have:=HK1.out;omega
           case rel=>exact ⟨(wrap64 (x11_1+1)),xs',H',⟨by have:=HK1.out;omega⟩,by repeat (first|exact Drawn0.refl _|apply Drawn0.step)⟩
         ·
          rw[if_neg c12] at H;exact absurd H (by simp)
        ·
         rw[if_neg c11] at H;exact absurd H (by simp)
       ·
        rw[if_neg c9] at H;have c9b0:decide (0 < x11_1)=false:=df' c9;clear c9;have H':=am' H;clear H;have p298:0≤(x11_1:Int):=od' xa';have q298:x11_1 < (l0.length:Int):=od' xa';obtain ⟨ad298,e298,hx298_0⟩:=Kd.at_int HR0.out x11_1 p298 q298;cases e298;replace p298:=eq_true p298;replace q298:=eq_true q298;go_wp2_with (first|((with_reducible refine gate_callee (f:=33) rfl ?_);refine goesL_ (some 19) rfl rfl Try.func33 xk' rfl #[.int .i64 (rd l0 x11_1), .int .i64 a1, .int .i64 a2] rfl xl' ?_;(with_reducible refine (spec_l1In.calls (rd l0 x11_1) a1 a2 true _ A7.out).mono ?_);rintro e w' ⟨rfl,⟨nd,rfl⟩⟩;refine ⟨_,rfl,?_⟩));go_roundg k1
        case measure=>have:=HK1.out;omega
        case rel=>exact ⟨(wrap64 (x11_1+1)),xs',H',⟨by have:=HK1.out;omega⟩,by repeat (first|exact Drawn0.refl _|apply Drawn0.step)⟩
      ·
       replace c8:=Bool.eq_false_iff.mpr c8;subst c8;have H1:(some false)=some r:=by rw[if_neg (show ¬ (false=true) by decide)] at H;exact H
       clear H;have H:=H1;clear H1;obtain rfl:=os' H;have p298:0≤(x11_1:Int):=od' xa';have q298:x11_1 < (l0.length:Int):=od' xa';obtain ⟨ad298,e298,hx298_0⟩:=Kd.at_int HR0.out x11_1 p298 q298;cases e298;replace p298:=eq_true p298;replace q298:=eq_true q298;go_wp2_with (first|((with_reducible refine gate_callee (f:=33) rfl ?_);refine goesL_ (some 19) rfl rfl Try.func33 xk' rfl #[.int .i64 (rd l0 x11_1), .int .i64 a1, .int .i64 a2] rfl xl' ?_;(with_reducible refine (spec_l1In.calls (rd l0 x11_1) a1 a2 false _ A7.out).mono ?_);rintro e w' ⟨rfl,⟨nd,rfl⟩⟩;refine ⟨_,rfl,?_⟩));go_ret
       exact ⟨xs',by repeat (first|exact Drawn0.refl _|apply Drawn0.step)⟩
     ·
      rw[if_neg c6] at H;exact absurd H (by simp)
    ·
     rw[if_neg c5] at H;exact absurd H (by simp)
   ·
    rw[if_neg c4] at H;have c4b0:decide (x11_1 < (l0.length:Int))=false:=df' c4;clear c4;obtain rfl:=os' H;go_wp2;go_ret
    exact ⟨xs',by repeat (first|exact Drawn0.refl _|apply Drawn0.step)⟩
end Go.Proofs.Ytabhhkiipilghaa.C2
