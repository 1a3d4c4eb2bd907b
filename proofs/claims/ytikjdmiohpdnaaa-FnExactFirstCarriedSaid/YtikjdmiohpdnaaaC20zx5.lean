import Derived.Test.YtikjdmiohpdnaaaC20zx0
import Derived.Test.YtikjdmiohpdnaaaC20zx2
import Derived.Test.YtikjdmiohpdnaaaC20zAl
namespace Go.Proofs.Ytikjdmiohpdnaaa.C20
open Go.RowKit Go.Proofs.YtikjdmiohpdnaaaW.PrintWords Go.Proofs.YtikjdmiohpdnaaaW.PrintLast Go.Proofs.YtikjdmiohpdnaaaW.PrintMore Go.Proofs.Ytikjdmiohpdnaaa.H
attribute [local go_sem] max2_int min2_int max_two min_two max_three min_three max_four min_four
set_option linter.unusedVariables false
set_option linter.unusedSimpArgs false
def spec_l1Rising.l0:Nat→List Int→Int→Int→List Int→Int→Int→Option (Bool)
 | 0,_,_,_,_,_,_=>none
 | k+1,x0,x1,x2,x9,x10,x11=>if x11 < x10 then (if 0≤x11 then (if x11 < (x9.length:Int) then ((spec_l1In.f (rd x9 x11) x1 x2).bind fun t188=>(if t188=true then (if x11 > 0 then (if 0≤(wrap64 (x11 - 1)) then (if (wrap64 (x11 - 1)) < (x0.length:Int) then (if (rd x0 (wrap64 (x11 - 1))) ≥ (rd x9 x11) then (some false) else (spec_l1Rising.l0 k x0 x1 x2 x9 x10 (wrap64 (x11+1)))) else (none)) else (none)) else (spec_l1Rising.l0 k x0 x1 x2 x9 x10 (wrap64 (x11+1)))) else (some false))) else (none)) else (none)) else (some true)
def spec_l1Rising.f (k:Nat) (l0:List Int) (a1:Int) (a2:Int):Option (Bool):=spec_l1Rising.l0 k l0 a1 a2 l0 (l0.length:Int) 0
set_option maxHeartbeats 8000000 in
set_option maxRecDepth 100000 in
theorem spec_l1Rising.calls (k:Nat) (A0:Option Addr) (c0:Nat) (l0:List Int) (a1:Int) (a2:Int) (r:Bool) (w:World) (hr0:Kd.C (Kd.int .i64) w A0 l0.length l0) (hc0:l0.length≤c0) (h:spec_l1Rising.f k l0 a1 a2=some r) :
  Calls Try.prog 51 #[.slice A0 l0.length c0, .int .i64 a1, .int .i64 a2] w fun e w'=>e = .returned (.bool r)∧Drawn0 w w':=by
 have HR0:=am' hr0
 have HC0:=am' hc0
 clear hr0 hc0;have H:(spec_l1Rising.l0 k l0 a1 a2 l0 (l0.length:Int) 0)=some r:=h
 clear h;have H':=am' H
 clear H;go_enter Try.func51,Try.ntmps51
 go_wp2
 go_loopg [11] k (fun kq v11 w'=>∃ (x11_1:Int),v11 = .int .i64 x11_1∧Aside0 (spec_l1Rising.l0 kq l0 a1 a2 l0 (l0.length:Int) x11_1=some r)∧Aside0 (kq≤k)∧Drawn0 w w')
 case atStart=>exact ⟨(0),xs',H',⟨Nat.le_refl _⟩,by repeat (first|exact Drawn0.refl _|apply Drawn0.step)⟩
 case round =>
  clear H';try clear p2
  obtain ⟨x11_1,rfl,HA,HK1,⟨m1,rfl⟩⟩:=hrel;cases gk with
  | zero=>exact absurd HA.out (by simp[spec_l1Rising.l0])
  | succ k1 =>
   have H:=HA.out;clear HA;simp only[spec_l1Rising.l0] at H;by_cases c4:x11_1 < (l0.length:Int)
   ·
    rw[if_pos c4] at H;have c4b0:decide (x11_1 < (l0.length:Int))=true:=dt' c4;clear c4;by_cases c5:0≤x11_1
    ·
     rw[if_pos c5] at H;have c5b0:decide (0≤x11_1)=true:=dt' c5;clear c5;by_cases c6:x11_1 < (l0.length:Int)
     ·
      rw[if_pos c6] at H;have c6b0:decide (x11_1 < (l0.length:Int))=true:=dt' c6;clear c6;replace H:=Option.bind_eq_some_iff.mp H;obtain ⟨t188,A70,H⟩:=H;replace H:(if t188=true then (if x11_1 > 0 then (if 0≤(wrap64 (x11_1 - 1)) then (if (wrap64 (x11_1 - 1)) < (l0.length:Int) then (if (rd l0 (wrap64 (x11_1 - 1))) ≥ (rd l0 x11_1) then (some false) else (spec_l1Rising.l0 k1 l0 a1 a2 l0 (l0.length:Int) (wrap64 (x11_1+1)))) else (none)) else (none)) else (spec_l1Rising.l0 k1 l0 a1 a2 l0 (l0.length:Int) (wrap64 (x11_1+1)))) else (some false))=some r:=H;have A7:=am' A70;clear A70;by_cases c8:t188=true
      ·
       subst c8;have H1:(if x11_1 > 0 then (if 0≤(wrap64 (x11_1 - 1)) then (if (wrap64 (x11_1 - 1)) < (l0.length:Int) then (if (rd l0 (wrap64 (x11_1 - 1))) ≥ (rd l0 x11_1) then (some false) else (spec_l1Rising.l0 k1 l0 a1 a2 l0 (l0.length:Int) (wrap64 (x11_1+1)))) else (none)) else (none)) else (spec_l1Rising.l0 k1 l0 a1 a2 l0 (l0.length:Int) (wrap64 (x11_1+1))))=some r:=by rw[if_pos rfl] at H;exact H
       clear H;have H:=H1;clear H1;by_cases c9:x11_1 > 0
       ·
        rw[if_pos c9] at H;have c9b0:decide (0 < x11_1)=true:=dt' c9;clear c9;obtain ⟨ji10,hji10⟩:∃ j_:Int,(wrap64 (x11_1 - 1))=j_:=⟨_,rfl⟩
        replace H:(if 0≤(ji10) then (if (ji10) < (l0.length:Int) then (if (rd l0 (ji10)) ≥ (rd l0 x11_1) then (some false) else (spec_l1Rising.l0 k1 l0 a1 a2 l0 (l0.length:Int) (wrap64 (x11_1+1)))) else (none)) else (none))=some r:=by first|(rw[hji10] at H;exact H)|(simp only[hji10] at H ⊢;exact H)
        (try rw [hji10] at A7)
        have hji10w:(IntKind.i64.wrap (x11_1 - 1))=ji10:=(i64_w _).trans hji10;by_cases c11:0≤(ji10)
        ·
         rw[if_pos c11] at H;have c11b0:decide (0≤(ji10))=true:=dt' c11;clear c11;by_cases c12:(ji10) < (l0.length:Int)
         ·
          rw[if_pos c12] at H;have c12b0:decide ((ji10) < (l0.length:Int))=true:=dt' c12;clear c12;by_cases c13:(rd l0 (ji10)) ≥ (rd l0 x11_1)
          ·
           rw[if_pos c13] at H;have c13b0:decide ((rd l0 x11_1)≤(rd l0 (ji10)))=true:=dt' c13;clear c13;obtain rfl:=os' H;have p187:0≤(x11_1:Int):=od' xa';have q187:x11_1 < (l0.length:Int):=od' xa';obtain ⟨ad187,e187,hx187_0⟩:=Kd.at_int HR0.out x11_1 p187 q187;cases e187;replace p187:=eq_true p187;replace q187:=eq_true q187;go_wp2_with (first|((with_reducible refine gate_callee (f:=87) rfl ?_);refine goesL_ (some 19) rfl rfl Try.func87 xk' rfl #[.int .i64 (rd l0 x11_1), .int .i64 a1, .int .i64 a2] rfl xl' ?_;(with_reducible refine (spec_l1In.calls (rd l0 x11_1) a1 a2 true _ A7.out).mono ?_);rintro e w' ⟨rfl,⟨nd,rfl⟩⟩;refine ⟨_,rfl,?_⟩;have p189:0≤((ji10):Int):=od' xa';have q189:(ji10) < (l0.length:Int):=od' xa';obtain ⟨ad189,e189,hx189_0⟩:=Kd.at_int HR0.out (ji10) p189 q189;obtain rfl:ad187=ad189:=(by injection e189);replace p189:=eq_true p189;replace q189:=eq_true q189));go_ret
           exact ⟨by first|rfl|(simp;done)|(simp only[← hji10] <;> (first|rfl|simp))|(simp[*];done),by repeat (first|exact Drawn0.refl _|apply Drawn0.step)⟩
          ·
           rw[if_neg c13] at H;have c13b0:decide ((rd l0 x11_1)≤(rd l0 (ji10)))=false:=df' c13;clear c13;have H':=am' H;clear H;have p187:0≤(x11_1:Int):=od' xa';have q187:x11_1 < (l0.length:Int):=od' xa';obtain ⟨ad187,e187,hx187_0⟩:=Kd.at_int HR0.out x11_1 p187 q187;cases e187;replace p187:=eq_true p187;replace q187:=eq_true q187;go_wp2_with (first|((with_reducible refine gate_callee (f:=87) rfl ?_);refine goesL_ (some 19) rfl rfl Try.func87 xk' rfl #[.int .i64 (rd l0 x11_1), .int .i64 a1, .int .i64 a2] rfl xl' ?_;(with_reducible refine (spec_l1In.calls (rd l0 x11_1) a1 a2 true _ A7.out).mono ?_);rintro e w' ⟨rfl,⟨nd,rfl⟩⟩;refine ⟨_,rfl,?_⟩;have p189:0≤((ji10):Int):=od' xa';have q189:(ji10) < (l0.length:Int):=od' xa';obtain ⟨ad189,e189,hx189_0⟩:=Kd.at_int HR0.out (ji10) p189 q189;obtain rfl:ad187=ad189:=(by injection e189);replace p189:=eq_true p189;replace q189:=eq_true q189));go_roundg k1
           case measure=>have:=HK1.out;omega
           case rel=>exact ⟨(wrap64 (x11_1+1)),xs',H',⟨by have:=HK1.out;omega⟩,by repeat (first|exact Drawn0.refl _|apply Drawn0.step)⟩
         ·
          rw[if_neg c12] at H;exact absurd H (by simp)
        ·
         rw[if_neg c11] at H;exact absurd H (by simp)
       ·
        rw[if_neg c9] at H;have c9b0:decide (0 < x11_1)=false:=df' c9;clear c9;have H':=am' H;clear H;have p187:0≤(x11_1:Int):=od' xa';have q187:x11_1 < (l0.length:Int):=od' xa';obtain ⟨ad187,e187,hx187_0⟩:=Kd.at_int HR0.out x11_1 p187 q187;cases e187;replace p187:=eq_true p187;replace q187:=eq_true q187;go_wp2_with (first|((with_reducible refine gate_callee (f:=87) rfl ?_);refine goesL_ (some 19) rfl rfl Try.func87 xk' rfl #[.int .i64 (rd l0 x11_1), .int .i64 a1, .int .i64 a2] rfl xl' ?_;(with_reducible refine (spec_l1In.calls (rd l0 x11_1) a1 a2 true _ A7.out).mono ?_);rintro e w' ⟨rfl,⟨nd,rfl⟩⟩;refine ⟨_,rfl,?_⟩));go_roundg k1
        case measure=>have:=HK1.out;omega
        case rel=>exact ⟨(wrap64 (x11_1+1)),xs',H',⟨by have:=HK1.out;omega⟩,by repeat (first|exact Drawn0.refl _|apply Drawn0.step)⟩
      ·
       replace c8:=Bool.eq_false_iff.mpr c8;subst c8;have H1:(some false)=some r:=by rw[if_neg (show ¬ (false=true) by decide)] at H;exact H
       clear H;have H:=H1;clear H1;obtain rfl:=os' H;have p187:0≤(x11_1:Int):=od' xa';have q187:x11_1 < (l0.length:Int):=od' xa';obtain ⟨ad187,e187,hx187_0⟩:=Kd.at_int HR0.out x11_1 p187 q187;cases e187;replace p187:=eq_true p187;replace q187:=eq_true q187;go_wp2_with (first|((with_reducible refine gate_callee (f:=87) rfl ?_);refine goesL_ (some 19) rfl rfl Try.func87 xk' rfl #[.int .i64 (rd l0 x11_1), .int .i64 a1, .int .i64 a2] rfl xl' ?_;(with_reducible refine (spec_l1In.calls (rd l0 x11_1) a1 a2 false _ A7.out).mono ?_);rintro e w' ⟨rfl,⟨nd,rfl⟩⟩;refine ⟨_,rfl,?_⟩));go_ret
       exact ⟨xs',by repeat (first|exact Drawn0.refl _|apply Drawn0.step)⟩
     ·
      rw[if_neg c6] at H;exact absurd H (by simp)
    ·
     rw[if_neg c5] at H;exact absurd H (by simp)
   ·
    rw[if_neg c4] at H;have c4b0:decide (x11_1 < (l0.length:Int))=false:=df' c4;clear c4;obtain rfl:=os' H;go_wp2;go_ret
    exact ⟨xs',by repeat (first|exact Drawn0.refl _|apply Drawn0.step)⟩
def spec_loLoad.l0:Nat→Int→List Int→Int→Int→List Int→List Bool→Int→Option (Int)
 | 0,_,_,_,_,_,_,_=>none
 | k+1,x5,x8,x9,x10,x191000,x191001,x191002=>if x10 < x9 then (if 0≤x10 then (if x10 < (x8.length:Int) then (if 0≤(rd x8 x10) then (if (rd x8 x10) < (x191000.length:Int) then (spec_loLoad.l0 k (wrap64 (x5+(rd x191000 (rd x8 x10)))) x8 x9 (wrap64 (x10+1)) x191000 x191001 x191002) else (none)) else (none)) else (none)) else (none)) else (some x5)
def spec_loLoad.f (k:Nat) (l0_0:List Int) (l0_1:List Bool) (a0_2:Int) (l1:List Int):Option (Int):=spec_loLoad.l0 k 0 l1 (l1.length:Int) 0 l0_0 l0_1 a0_2
set_option maxHeartbeats 8000000 in
set_option maxRecDepth 100000 in
theorem spec_loLoad.calls (k:Nat) (A0_0:Option Addr) (c0_0:Nat) (l0_0:List Int) (A0_1:Option Addr) (c0_1:Nat) (l0_1:List Bool) (a0_2:Int) (A1:Option Addr) (c1:Nat) (l1:List Int) (r:Int) (w:World) (hr0_0:Kd.C (Kd.int .i64) w A0_0 l0_0.length l0_0) (hc0_0:l0_0.length≤c0_0) (hr0_1:Kd.C Kd.bool w A0_1 l0_1.length l0_1) (hc0_1:l0_1.length≤c0_1) (hr1:Kd.C (Kd.int .i64) w A1 l1.length l1) (hc1:l1.length≤c1) (h:spec_loLoad.f k l0_0 l0_1 a0_2 l1=some r) :
  Calls Try.prog 52 #[.agg #[.slice A0_0 l0_0.length c0_0, .slice A0_1 l0_1.length c0_1, .int .i64 a0_2], .slice A1 l1.length c1] w fun e w'=>e = .returned (.int .i64 r)∧Below w.heap.size w w':=by
 have hu29:=Try.underlying29
 have HR0_0:=am' hr0_0
 have HC0_0:=am' hc0_0
 clear hr0_0 hc0_0;have HR0_1:=am' hr0_1
 have HC0_1:=am' hc0_1
 clear hr0_1 hc0_1;have HR1:=am' hr1
 have HC1:=am' hc1
 clear hr1 hc1;have HB:=am' (Below.refl w.heap.size w)
 have H:(spec_loLoad.l0 k 0 l1 (l1.length:Int) 0 l0_0 l0_1 a0_2)=some r:=h
 clear h;have H':=am' H
 clear H;go_enter Try.func52,Try.ntmps52
 go_wp2_with (first|((with_reducible refine gate_dst (N:=2) rfl ?_);refine box_event ?hg (N:=2) ?hd (cs:=#[.slice A0_0 l0_0.length c0_0, .slice A0_1 l0_1.length c0_1, .int .i64 a0_2]) (t:=29) ?hr ?_;(case hd=>rfl);(case hg=>rfl);(case hr=>first|(go_simp;done)|(go_simp;rfl));intro gb190 hg w3 hbox hb;have n0_:=am' (bt' xb' hb);have n1_:=am' (hbox);have n2_:=am' ((by rw[hg];exact (bz' xb'):w.heap.size≤gb190));have n3_:=am' ((by rw[hg];exact (bz' xb'):w.heap.size≤gb190));clear HB;have HB:=n0_;have BK190:=n1_;have GW190:=n2_;have GE190:=n3_;clear n0_ n1_ n2_ n3_;clear hb hbox hg))
 go_loopg [5,10] k (fun kq v5 v10 w'=>∃ (x5_1:Int) (x10_1:Int),v5 = .int .i64 x5_1∧v10 = .int .i64 x10_1∧Aside0 (spec_loLoad.l0 kq x5_1 l1 (l1.length:Int) x10_1 l0_0 l0_1 a0_2=some r)∧Aside0 (kq≤k)∧Aside0 (w'.heap[gb190]? = some (.cells #[(.slice A0_0 l0_0.length c0_0),(.slice A0_1 l0_1.length c0_1), .int .i64 a0_2] 29 (0,0)))∧Aside0 (Below w.heap.size w w'))
 case atStart=>exact ⟨(0),(0),xs',xs',H',⟨Nat.le_refl _⟩,⟨kk' BK190.out⟩,⟨yb' GE190.out⟩⟩
 case round =>
  clear H';try clear c1
  try clear p2
  obtain ⟨x5_1,x10_1,rfl,rfl,HA,HK1,BK190,HB⟩:=hrel;cases gk with
  | zero=>exact absurd HA.out (by simp[spec_loLoad.l0])
  | succ k1 =>
   have H:=HA.out;clear HA;simp only[spec_loLoad.l0] at H;by_cases c4:x10_1 < (l1.length:Int)
   ·
    rw[if_pos c4] at H;have c4b0:decide (x10_1 < (l1.length:Int))=true:=dt' c4;clear c4;by_cases c5:0≤x10_1
    ·
     rw[if_pos c5] at H;have c5b0:decide (0≤x10_1)=true:=dt' c5;clear c5;by_cases c6:x10_1 < (l1.length:Int)
     ·
      rw[if_pos c6] at H;have c6b0:decide (x10_1 < (l1.length:Int))=true:=dt' c6;clear c6;by_cases c7:0≤(rd l1 x10_1)
      ·
       rw[if_pos c7] at H;have c7b0:decide (0≤(rd l1 x10_1))=true:=dt' c7;clear c7;by_cases c8:(rd l1 x10_1) < (l0_0.length:Int)
       ·
        rw[if_pos c8] at H;have c8b0:decide ((rd l1 x10_1) < (l0_0.length:Int))=true:=dt' c8;clear c8;have H':=am' H;clear H;have p191:0≤(x10_1:Int):=od' xa';have q191:x10_1 < (l1.length:Int):=od' xa';obtain ⟨ad191,e191,hx191_0⟩:=Kd.at_int HR1.out x10_1 p191 q191;cases e191;replace hx191_0:=(HB.out.cell (bl' w _ hx191_0)).trans hx191_0;replace p191:=eq_true p191;replace q191:=eq_true q191;have hcz9_0:wr.cell? ⟨gb190,0,none⟩=some (.slice A0_0 l0_0.length c0_0):=(bc' BK190.out 0).trans rfl;have hcz9_1:wr.cell? ⟨gb190,1,none⟩=some (.slice A0_1 l0_1.length c0_1):=(bc' BK190.out 1).trans rfl;have hcz9_2:wr.cell? ⟨gb190,2,none⟩=some (.int .i64 a0_2):=(bc' BK190.out 2).trans rfl;have hfz9_0:=bf' BK190.out 0;have hfz9_1:=bf' BK190.out 1;have hfz9_2:=bf' BK190.out 2;have p192:0≤((rd l1 x10_1):Int):=od' xa';have q192:(rd l1 x10_1) < (l0_0.length:Int):=od' xa';obtain ⟨ad192,e192,hx192_0⟩:=Kd.at_int HR0_0.out (rd l1 x10_1) p192 q192;cases e192;replace hx192_0:=(HB.out.cell (bl' w _ hx192_0)).trans hx192_0;replace p192:=eq_true p192;replace q192:=eq_true q192;go_wp2;go_roundg k1
        case measure=>have:=HK1.out;omega
        case rel=>exact ⟨(wrap64 (x5_1+(rd l0_0 (rd l1 x10_1)))),(wrap64 (x10_1+1)),xs',xs',H',⟨by have:=HK1.out;omega⟩,⟨kk' BK190.out⟩,⟨yb' GE190.out⟩⟩
       ·
        rw[if_neg c8] at H;exact absurd H (by simp)
      ·
       rw[if_neg c7] at H;exact absurd H (by simp)
     ·
      rw[if_neg c6] at H;exact absurd H (by simp)
    ·
     rw[if_neg c5] at H;exact absurd H (by simp)
   ·
    rw[if_neg c4] at H;have c4b0:decide (x10_1 < (l1.length:Int))=false:=df' c4;clear c4;obtain rfl:=os' H;go_wp2;go_ret
    exact ⟨by first|rfl|(simp[errW_none,errW_some] <;> rfl)|(simp[*,errW_none,errW_some] <;> rfl),yb' GE190.out⟩
end Go.Proofs.Ytikjdmiohpdnaaa.C20
