import Derived.Test.YtabhhkiipilghaaC2zx0
import Derived.Test.YtabhhkiipilghaaC2zAl
namespace Go.Proofs.Ytabhhkiipilghaa.C2
open Go.RowKit Go.Proofs.YtabhhkiipilghaaW.PrintWords Go.Proofs.YtabhhkiipilghaaW.PrintLast Go.Proofs.YtabhhkiipilghaaW.PrintMore Go.Proofs.Ytabhhkiipilghaa.H
attribute [local go_sem] max2_int min2_int max_two min_two max_three min_three max_four min_four
set_option linter.unusedVariables false
set_option linter.unusedSimpArgs false
mutual
def spec_cuBefore.l0:Nat→List Int→List Int→Int→Option (Bool)
 | 0,_,_,_=>none
 | k+1,x0,x1,x5=>if x5 < (x0.length:Int) then (spec_cuBefore.j1 k x0 x1 x5 (decide (x5 < (x1.length:Int)))) else (spec_cuBefore.j1 k x0 x1 x5 false)
def spec_cuBefore.j1:Nat→List Int→List Int→Int→Bool→Option (Bool)
 | 0,_,_,_,_=>none
 | k+1,x0,x1,x5,x15=>if x15=true then (if 0≤x5 then (if x5 < (x0.length:Int) then (if x5 < (x1.length:Int) then (if (rd x0 x5)=(rd x1 x5) then (spec_cuBefore.l0 k x0 x1 (wrap64 (x5+1))) else (some (decide ((rd x0 x5) < (rd x1 x5))))) else (none)) else (none)) else (none)) else (some (decide ((x0.length:Int) < (x1.length:Int))))
end
def spec_cuBefore.f (k:Nat) (l0:List Int) (l1:List Int):Option (Bool):=spec_cuBefore.l0 k l0 l1 0
theorem spec_cuBefore.mono_l:∀ k,(∀ y0 y1 y2,LeO (spec_cuBefore.l0 k y0 y1 y2) (spec_cuBefore.l0 (k+1) y0 y1 y2))∧(∀ y0 y1 y2 y3,LeO (spec_cuBefore.j1 k y0 y1 y2 y3) (spec_cuBefore.j1 (k+1) y0 y1 y2 y3))
 | 0=>⟨fun _ _ _ r h=>by simp[spec_cuBefore.l0] at h,fun _ _ _ _ r h=>by simp[spec_cuBefore.j1] at h⟩
 | k+1=>by
  obtain ⟨ih0,ih1⟩:=spec_cuBefore.mono_l k;refine ⟨?_,?_⟩
  ·
   intro y0 y1 y2;unfold spec_cuBefore.l0
   repeat' first
   | (with_reducible exact ih0 _ _ _)
   | (with_reducible exact ih1 _ _ _ _)
   | (with_reducible exact LeO.refl _)
   | (with_reducible exact LeO.none _)
   | (with_reducible refine LeO.ite ?_ ?_)
   | (with_reducible refine LeO.bind ?_ (fun _=>?_))
   | exact ih0 _ _ _
   | exact ih1 _ _ _ _
   | exact LeO.none _
   | refine LeO.ite ?_ ?_
   | refine LeO.bind ?_ (fun _=>?_)
  ·
   intro y0 y1 y2 y3;unfold spec_cuBefore.j1
   repeat' first
   | (with_reducible exact ih0 _ _ _)
   | (with_reducible exact ih1 _ _ _ _)
   | (with_reducible exact LeO.refl _)
   | (with_reducible exact LeO.none _)
   | (with_reducible refine LeO.ite ?_ ?_)
   | (with_reducible refine LeO.bind ?_ (fun _=>?_))
   | exact ih0 _ _ _
   | exact ih1 _ _ _ _
   | exact LeO.none _
   | refine LeO.ite ?_ ?_
   | refine LeO.bind ?_ (fun _=>?_)
theorem spec_cuBefore.mono:∀ a0 a1 k,LeO (spec_cuBefore.f k a0 a1) (spec_cuBefore.f (k+1) a0 a1):=by
 intro a0 a1 k;obtain ⟨ih0,ih1⟩:=spec_cuBefore.mono_l k
 unfold spec_cuBefore.f
 repeat' first
   | (with_reducible exact ih0 _ _ _)
   | (with_reducible exact ih1 _ _ _ _)
   | (with_reducible exact LeO.refl _)
   | (with_reducible exact LeO.none _)
   | (with_reducible refine LeO.ite ?_ ?_)
   | (with_reducible refine LeO.bind ?_ (fun _=>?_))
   | exact ih0 _ _ _
   | exact ih1 _ _ _ _
   | exact LeO.none _
   | refine LeO.ite ?_ ?_
   | refine LeO.bind ?_ (fun _=>?_)
set_option maxHeartbeats 8000000 in
set_option maxRecDepth 100000 in
theorem spec_cuBefore.calls (k:Nat) (A0:Option Addr) (c0:Nat) (l0:List Int) (A1:Option Addr) (c1:Nat) (l1:List Int) (r:Bool) (w:World) (hr0:Kd.C (Kd.int .i64) w A0 l0.length l0) (hc0:l0.length≤c0) (hr1:Kd.C (Kd.int .i64) w A1 l1.length l1) (hc1:l1.length≤c1) (h:spec_cuBefore.f k l0 l1=some r) :
  Calls Try.prog 71 #[.slice A0 l0.length c0, .slice A1 l1.length c1] w fun e w'=>e = .returned (.bool r)∧Drawn0 w w':=by
 have HR0:=am' hr0
 have HC0:=am' hc0
 clear hr0 hc0;have HR1:=am' hr1
 have HC1:=am' hc1
 clear hr1 hc1;have H:(spec_cuBefore.l0 k l0 l1 0)=some r:=h
 clear h;have H':=am' H
 clear H;go_enter Try.func71,Try.ntmps71
 go_wp2
 repeat (go_quiet (fail);try go_wp2)
 go_loopg [5] k (fun kq v5 w'=>∃ (x5_1:Int),v5 = .int .i64 x5_1∧Aside0 (spec_cuBefore.l0 kq l0 l1 x5_1=some r)∧Aside0 (kq≤k)∧Drawn0 w w')
 case atStart=>exact ⟨(0),xs',H',⟨Nat.le_refl _⟩,by repeat (first|exact Drawn0.refl _|apply Drawn0.step)⟩
 case round =>
  clear H';try clear c1
  try clear p2
  obtain ⟨x5_1,rfl,HA,HK1,⟨m1,rfl⟩⟩:=hrel;cases gk with
  | zero=>exact absurd HA.out (by simp[spec_cuBefore.l0])
  | succ k1 =>
   have H:=HA.out;clear HA;simp only[spec_cuBefore.l0] at H;have HC3:=am' H;clear H;go_upto_region 2 with (fail)
   repeat (go_quiet (fail);go_upto_region 2 with (fail))
   go_cut [15] (fun v15 wc=>∃ (kq:Nat) (x15_2:Bool),v15 = .bool x15_2∧Aside0 (spec_cuBefore.j1 kq l0 l1 x5_1 x15_2=some r)∧Aside0 (kq≤k1)∧Drawn0 w wc)
   case first =>
    have H:=HC3.out;clear HC3;by_cases c4:x5_1 < (l0.length:Int)
    ·
     rw[if_pos c4] at H;have c4b0:decide (x5_1 < (l0.length:Int))=true:=dt' c4;clear c4;(first|rw[c4b0]|(simp only[i64_w,i32_w];rw[c4b0])|skip)
     have H':=am' H;clear H;go_wp2
     repeat (go_quiet (fail);try go_wp2)
     go_meet
     case rel=>exact ⟨_,(decide (x5_1 < (l1.length:Int))),xs',H',⟨by have:=HK1.out;first|omega|exact Nat.le_refl _⟩,by repeat (first|exact Drawn0.refl _|apply Drawn0.step)⟩
    ·
     rw[if_neg c4] at H;have c4b0:decide (x5_1 < (l0.length:Int))=false:=df' c4;clear c4;(first|rw[c4b0]|(simp only[i64_w,i32_w];rw[c4b0])|skip)
     have H':=am' H;clear H;go_wp2
     repeat (go_quiet (fail);try go_wp2)
     go_meet
     case rel=>exact ⟨_,(false),xs',H',⟨by have:=HK1.out;first|omega|exact Nat.le_refl _⟩,by repeat (first|exact Drawn0.refl _|apply Drawn0.step)⟩
   case rest =>
    clear HC3;try clear c1
    try clear p2
    try clear c4
    try clear c4b0
    try clear p2
    obtain ⟨kq,x15_2,rfl,HA,HJ2,⟨mc2,rfl⟩⟩:=hcut;cases kq with
    | zero=>exact absurd HA.out (by simp[spec_cuBefore.j1])
    | succ kj2 =>
     have H:=HA.out;clear HA;simp only[spec_cuBefore.j1] at H;by_cases c5:x15_2=true
     ·
      subst c5;have H1:(if 0≤x5_1 then (if x5_1 < (l0.length:Int) then (if x5_1 < (l1.length:Int) then (if (rd l0 x5_1)=(rd l1 x5_1) then (spec_cuBefore.l0 kj2 l0 l1 (wrap64 (x5_1+1))) else (some (decide ((rd l0 x5_1) < (rd l1 x5_1))))) else (none)) else (none)) else (none))=some r:=by rw[if_pos rfl] at H;exact H
      clear H;have H:=H1;clear H1;by_cases c6:0≤x5_1
      ·
       rw[if_pos c6] at H;have c6b0:decide (0≤x5_1)=true:=dt' c6;clear c6;by_cases c7:x5_1 < (l0.length:Int)
       ·
        rw[if_pos c7] at H;have c7b0:decide (x5_1 < (l0.length:Int))=true:=dt' c7;clear c7;by_cases c8:x5_1 < (l1.length:Int)
        ·
         rw[if_pos c8] at H;have c8b0:decide (x5_1 < (l1.length:Int))=true:=dt' c8;clear c8;by_cases c9:(rd l0 x5_1)=(rd l1 x5_1)
         ·
          rw[if_pos c9] at H;have c9b0:((rd l0 x5_1) == (rd l1 x5_1))=true:=beq_iff_eq.mpr c9;have c9b1:((rd l0 x5_1) != (rd l1 x5_1))=false:=bne_eq_false_iff_eq.mpr c9;clear c9;have H':=am' H;clear H;have p179:0≤(x5_1:Int):=od' xa';have q179:x5_1 < (l0.length:Int):=od' xa';obtain ⟨ad179,e179,hx179_0⟩:=Kd.at_int HR0.out x5_1 p179 q179;cases e179;replace p179:=eq_true p179;replace q179:=eq_true q179;have p180:0≤(x5_1:Int):=od' xa';have q180:x5_1 < (l1.length:Int):=od' xa';obtain ⟨ad180,e180,hx180_0⟩:=Kd.at_int HR1.out x5_1 p180 q180;cases e180;replace p180:=eq_true p180;replace q180:=eq_true q180;go_wp2
          repeat (go_quiet (fail);try go_wp2)
          go_roundg kj2
          case measure=>have:=HK1.out;have:=HJ2.out;omega
          case rel=>exact ⟨(wrap64 (x5_1+1)),xs',H',⟨by have:=HK1.out;have:=HJ2.out;omega⟩,by repeat (first|exact Drawn0.refl _|apply Drawn0.step)⟩
         ·
          rw[if_neg c9] at H;have c9b0:((rd l0 x5_1) == (rd l1 x5_1))=false:=beq_eq_false_iff_ne.mpr c9;have c9b1:((rd l0 x5_1) != (rd l1 x5_1))=true:=bne_iff_ne.mpr c9;obtain rfl:=os' H;have p179:0≤(x5_1:Int):=od' xa';have q179:x5_1 < (l0.length:Int):=od' xa';obtain ⟨ad179,e179,hx179_0⟩:=Kd.at_int HR0.out x5_1 p179 q179;cases e179;replace p179:=eq_true p179;replace q179:=eq_true q179;have p180:0≤(x5_1:Int):=od' xa';have q180:x5_1 < (l1.length:Int):=od' xa';obtain ⟨ad180,e180,hx180_0⟩:=Kd.at_int HR1.out x5_1 p180 q180;cases e180;replace p180:=eq_true p180;replace q180:=eq_true q180;have p181:0≤(x5_1:Int):=od' xa';have q181:x5_1 < (l0.length:Int):=od' xa';obtain ⟨ad181,e181,hx181_0⟩:=Kd.at_int HR0.out x5_1 p181 q181;obtain rfl:ad179=ad181:=(by injection e181)
          replace p181:=eq_true p181;replace q181:=eq_true q181;have p182:0≤(x5_1:Int):=od' xa';have q182:x5_1 < (l1.length:Int):=od' xa';obtain ⟨ad182,e182,hx182_0⟩:=Kd.at_int HR1.out x5_1 p182 q182;obtain rfl:ad180=ad182:=(by injection e182)
          replace p182:=eq_true p182;replace q182:=eq_true q182;go_wp2
          repeat (go_quiet (fail);try go_wp2)
          go_ret
          exact ⟨xs',by repeat (first|exact Drawn0.refl _|apply Drawn0.step)⟩
        ·
         rw[if_neg c8] at H;exact absurd H (by simp)
       ·
        rw[if_neg c7] at H;exact absurd H (by simp)
      ·
       rw[if_neg c6] at H;exact absurd H (by simp)
     ·
      replace c5:=Bool.eq_false_iff.mpr c5;subst c5;have H1:(some (decide ((l0.length:Int) < (l1.length:Int))))=some r:=by rw[if_neg (show ¬ (false=true) by decide)] at H;exact H
      clear H;have H:=H1;clear H1;obtain rfl:=os' H;go_wp2
      repeat (go_quiet (fail);try go_wp2)
      go_ret
      exact ⟨xs',by repeat (first|exact Drawn0.refl _|apply Drawn0.step)⟩
def spec_l1Own.f (l0:List Int):Option (List Int):=(some (([]:List Int):List Int)).bind fun y183=>(if y183.length+l0.length < 17592186044416 then (some (y183 ++ l0)) else (none))
set_option maxHeartbeats 8000000 in
set_option maxRecDepth 100000 in
theorem spec_l1Own.calls (A0:Option Addr) (c0:Nat) (l0:List Int) (r:List Int) (w:World) (hr0:Kd.C (Kd.int .i64) w A0 l0.length l0) (hc0:l0.length≤c0) (h:spec_l1Own.f l0=some r) :
  Calls Try.prog 72 #[.slice A0 l0.length c0] w fun e w'=>∃ v0_:Value,e = .returned (v0_)∧Kd.R (Kd.int .i64) 3 w' w.heap.size (fun _=>True) v0_ r∧Below w.heap.size w w':=by
 have HR0:=am' hr0
 have HC0:=am' hc0
 clear hr0 hc0;have HB:=am' (Below.refl w.heap.size w)
 have H:((some (([]:List Int):List Int)).bind fun y183=>(if y183.length+l0.length < 17592186044416 then (some (y183 ++ l0)) else (none)))=some r:=h
 clear h;obtain ⟨y183,hy183⟩:∃ y_:List Int,y_=(([]:List Int)):=⟨_,rfl⟩
 replace H:(if y183.length+l0.length < 17592186044416 then (some (y183 ++ l0)) else (none))=some r:=by first|(rw[hy183];with_reducible exact H)|(have H2_:=(Option.bind_some _ _).symm.trans H;rw[hy183];with_reducible exact H2_)|(have H2_:=(Option.bind_some _ _).symm.trans H;with_reducible exact H2_)|with_reducible exact H|(rw[hy183];exact H)|exact H
 have Ny183:=am' hy183
 clear hy183;by_cases c2:y183.length+l0.length < 17592186044416
 ·
  rw[if_pos c2] at H;have LMc2:=am' c2;clear c2;obtain ⟨y186,hy186⟩:∃ y_:List Int,y_=(y183 ++ l0):=⟨_,rfl⟩
  replace H:(some y186)=some r:=by first|(rw[hy186];with_reducible exact H)|(have H2_:=(Option.bind_some _ _).symm.trans H;rw[hy186];with_reducible exact H2_)|(have H2_:=(Option.bind_some _ _).symm.trans H;with_reducible exact H2_)|with_reducible exact H|(rw[hy186];exact H)|exact H
  have Ny186:=am' hy186;clear hy186;obtain rfl:=os' H;go_enter Try.func72,Try.ntmps72;go_wp2_with (first|((with_reducible refine gate_dst (N:=3) rfl ?_);refine Kd.R_lit (Kd.int .i64) _ 3 ?hg (N:=3) ?hd (xs:=([]:List Int)) (inner:=[]) (ok:=fun _=>True) (okp:=fun _=>True) ?hr ?hp (fun _ hk=>hk) trivial (Below.refl _ _) (Nat.le_refl _) (by simp) ?_;(case hd=>rfl);(case hg=>rfl);(case hr=>first|(go_simp;done)|(go_simp;rfl));(case hp=>exact (Reps.none _ _));intro v184 w3 ho4 hb hg_ hnew_;clear hg_ hnew_;(first|rw[← Ny183.out] at ho4|(simp only[Int.reduceToNat] at ho4;rw[← Ny183.out] at ho4));have n0_:=am' (Kd.R_lower ho4 (bz' xb'));have n1_:=am' (bt' xb' hb);clear HB;have HO185:=n0_;have HB:=n1_;clear n0_ n1_;clear hb ho4)|((with_reducible refine gate_builtin (b := .append) (xs:=#[.tmp 3, .tmp 4]) rfl ?_);at_builtin;refine Kd.R_append_rows (Kd.int .i64) (w0:=w) w.heap.size rfl (.tmp 3) (.tmp 4) 28 3 (.int .i64 0) 8 rfl Try.underlying28 info3 rfl (by decide) (by omega) v184 y183 l0 _ _ _ (fun _=>True) (fun _=>False) rfl rfl ?aO ?aR (fun _ _ h=>h) (fun _ h=>h.elim) ?aF ?aB ?aS ?aL ?_;(case aR=>exact kc' (cb' HR0.out HB.out));(case aB=>exact xb');(case aF=>exact (fun _ _=>trivial));(case aO=>exact (kr' HO185.out));(case aS=>exact (bz' xb'));(case aL=>have:=LMc2.out;omega);intro v187 w5 ho hb hg hat;rw[← Ny186.out] at ho;have n0_:=am' (hb);have n1_:=am' (ho);clear HB;clear HO185;have HB:=n0_;have HO188:=n1_;clear n0_ n1_;clear ho hb hg hat));go_ret
  exact ⟨_,by first|rfl|(simp[errW_none,errW_some] <;> rfl)|(simp[*,errW_none,errW_some] <;> rfl),kr' HO188.out,xb'⟩
 ·
  rw[if_neg c2] at H;exact absurd H (by simp)
end Go.Proofs.Ytabhhkiipilghaa.C2
