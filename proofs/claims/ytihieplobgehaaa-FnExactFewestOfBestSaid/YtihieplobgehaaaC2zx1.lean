import Derived.Test.YtihieplobgehaaaC2zx0
import Derived.Test.YtihieplobgehaaaC2zAl
namespace Go.Proofs.Ytihieplobgehaaa.C2
open Go.RowKit Go.Proofs.YtihieplobgehaaaW.PrintWords Go.Proofs.YtihieplobgehaaaW.PrintLast Go.Proofs.YtihieplobgehaaaW.PrintMore Go.Proofs.Ytihieplobgehaaa.H
attribute [local go_sem] max2_int min2_int max_two min_two max_three min_three max_four min_four
set_option linter.unusedVariables false
set_option linter.unusedSimpArgs false
def laws_szIntS.f (l0:List Int) (a1:Int):Option (Int):=if (wrap64 (a1 - (l0.length:Int))) < 0 then (some (-1)) else (some (wrap64 (a1 - (l0.length:Int))))
set_option maxHeartbeats 8000000 in
set_option maxRecDepth 100000 in
theorem laws_szIntS.calls (A0:Option Addr) (c0:Nat) (l0:List Int) (a1:Int) (r:Int) (w:World) (hr0:Kd.C (Kd.int .i64) w A0 l0.length l0) (hc0:l0.length≤c0) (h:laws_szIntS.f l0 a1=some r) :
  Calls Try.prog 16 #[.slice A0 l0.length c0, .int .i64 a1] w fun e w'=>e = .returned (.int .i64 r)∧Drawn0 w w':=by
 have HR0:=am' hr0
 have HC0:=am' hc0
 clear hr0 hc0;have H:(if (wrap64 (a1 - (l0.length:Int))) < 0 then (some (-1)) else (some (wrap64 (a1 - (l0.length:Int)))))=some r:=h
 clear h;by_cases c3:(wrap64 (a1 - (l0.length:Int))) < 0
 ·
  rw[if_pos c3] at H;have c3b0:decide ((wrap64 (a1 - (l0.length:Int))) < 0)=true:=dt' c3;clear c3;obtain rfl:=os' H;go_enter Try.func16,Try.ntmps16;go_wp2;go_ret
  exact ⟨xs',by repeat (first|exact Drawn0.refl _|apply Drawn0.step)⟩
 ·
  rw[if_neg c3] at H;have c3b0:decide ((wrap64 (a1 - (l0.length:Int))) < 0)=false:=df' c3;clear c3;obtain rfl:=os' H;go_enter Try.func16,Try.ntmps16;go_wp2;go_ret
  exact ⟨xs',by repeat (first|exact Drawn0.refl _|apply Drawn0.step)⟩
def laws_szParty.f (l0_0:List Int) (a0_1:Int) (a1:Int):Option (Int):=(laws_szIntS.f l0_0 a1).bind fun t102=>(if t102 < 0 then (some (-1)) else (some t102))
set_option maxHeartbeats 8000000 in
set_option maxRecDepth 100000 in
theorem laws_szParty.calls (A0_0:Option Addr) (c0_0:Nat) (l0_0:List Int) (a0_1:Int) (a1:Int) (r:Int) (w:World) (hr0_0:Kd.C (Kd.int .i64) w A0_0 l0_0.length l0_0) (hc0_0:l0_0.length≤c0_0) (h:laws_szParty.f l0_0 a0_1 a1=some r) :
  Calls Try.prog 5 #[.agg #[.slice A0_0 l0_0.length c0_0, .int .i64 a0_1], .int .i64 a1] w fun e w'=>e = .returned (.int .i64 r)∧Below w.heap.size w w':=by
 have hu24:=Try.underlying24
 have HR0_0:=am' hr0_0
 have HC0_0:=am' hc0_0
 clear hr0_0 hc0_0;have HB:=am' (Below.refl w.heap.size w)
 have H:((laws_szIntS.f l0_0 a1).bind fun t102=>(if t102 < 0 then (some (-1)) else (some t102)))=some r:=h
 clear h;replace H:=Option.bind_eq_some_iff.mp H
 obtain ⟨t102,A30,H⟩:=H
 replace H:(if t102 < 0 then (some (-1)) else (some t102))=some r:=H
 have A3:=am' A30
 clear A30;by_cases c4:t102 < 0
 ·
  rw[if_pos c4] at H;have c4b0:decide (t102 < 0)=true:=dt' c4;clear c4;obtain rfl:=os' H;go_enter Try.func5,Try.ntmps5;go_wp2_with (first|((with_reducible refine gate_dst (N:=2) rfl ?_);refine box_event ?hg (N:=2) ?hd (cs:=#[.slice A0_0 l0_0.length c0_0, .int .i64 a0_1]) (t:=24) ?hr ?_;(case hd=>rfl);(case hg=>rfl);(case hr=>first|(go_simp;done)|(go_simp;rfl));intro gb101 hg w5 hbox hb;have n0_:=am' (bt' xb' hb);have n1_:=am' (hbox);have n2_:=am' ((by rw[hg];exact (bz' xb'):w.heap.size≤gb101));have n3_:=am' ((by rw[hg];exact (bz' xb'):w.heap.size≤gb101));clear HB;have HB:=n0_;have BK101:=n1_;have GW101:=n2_;have GE101:=n3_;clear n0_ n1_ n2_ n3_;clear hb hbox hg;have hcz6_0:w5.cell? ⟨gb101,0,none⟩=some (.slice A0_0 l0_0.length c0_0):=(bc' BK101.out 0).trans rfl;have hcz6_1:w5.cell? ⟨gb101,1,none⟩=some (.int .i64 a0_1):=(bc' BK101.out 1).trans rfl;have hfz6_0:=bf' BK101.out 0;have hfz6_1:=bf' BK101.out 1)|((with_reducible refine gate_callee (f:=16) rfl ?_);refine goesL_ (some 8) rfl rfl Try.func16 xk' rfl #[.slice A0_0 l0_0.length c0_0, .int .i64 a1] rfl xl' ?_;(with_reducible refine (laws_szIntS.calls _ _ l0_0 a1 t102 _ ?side1 ?side2 A3.out).mono ?_);(case side1=>exact kc' (cb' HR0_0.out HB.out));(case side2=>exact HC0_0.out);rintro e w' ⟨rfl,⟨nd,rfl⟩⟩;refine ⟨_,rfl,?_⟩));go_ret
  exact ⟨by first|rfl|(simp[errW_none,errW_some] <;> rfl)|(simp[*,errW_none,errW_some] <;> rfl),yb' GE101.out⟩
 ·
  rw[if_neg c4] at H;have c4b0:decide (t102 < 0)=false:=df' c4;clear c4;obtain rfl:=os' H;go_enter Try.func5,Try.ntmps5;go_wp2_with (first|((with_reducible refine gate_dst (N:=2) rfl ?_);refine box_event ?hg (N:=2) ?hd (cs:=#[.slice A0_0 l0_0.length c0_0, .int .i64 a0_1]) (t:=24) ?hr ?_;(case hd=>rfl);(case hg=>rfl);(case hr=>first|(go_simp;done)|(go_simp;rfl));intro gb101 hg w7 hbox hb;have n0_:=am' (bt' xb' hb);have n1_:=am' (hbox);have n2_:=am' ((by rw[hg];exact (bz' xb'):w.heap.size≤gb101));have n3_:=am' ((by rw[hg];exact (bz' xb'):w.heap.size≤gb101));clear HB;have HB:=n0_;have BK101:=n1_;have GW101:=n2_;have GE101:=n3_;clear n0_ n1_ n2_ n3_;clear hb hbox hg;have hcz8_0:w7.cell? ⟨gb101,0,none⟩=some (.slice A0_0 l0_0.length c0_0):=(bc' BK101.out 0).trans rfl;have hcz8_1:w7.cell? ⟨gb101,1,none⟩=some (.int .i64 a0_1):=(bc' BK101.out 1).trans rfl;have hfz8_0:=bf' BK101.out 0;have hfz8_1:=bf' BK101.out 1)|((with_reducible refine gate_callee (f:=16) rfl ?_);refine goesL_ (some 8) rfl rfl Try.func16 xk' rfl #[.slice A0_0 l0_0.length c0_0, .int .i64 a1] rfl xl' ?_;(with_reducible refine (laws_szIntS.calls _ _ l0_0 a1 t102 _ ?side1 ?side2 A3.out).mono ?_);(case side1=>exact kc' (cb' HR0_0.out HB.out));(case side2=>exact HC0_0.out);rintro e w' ⟨rfl,⟨nd,rfl⟩⟩;refine ⟨_,rfl,?_⟩));go_ret
  exact ⟨by first|rfl|(simp[errW_none,errW_some] <;> rfl)|(simp[*,errW_none,errW_some] <;> rfl),yb' GE101.out⟩
def spec_l1In.f (a0:Int) (a1:Int) (a2:Int):Option (Bool):=if a0 ≥ a1 then (some (decide (a0≤a2))) else (some false)
set_option maxHeartbeats 8000000 in
set_option maxRecDepth 100000 in
theorem spec_l1In.calls (a0:Int) (a1:Int) (a2:Int) (r:Bool) (w:World) (h:spec_l1In.f a0 a1 a2=some r) :
  Calls Try.prog 38 #[.int .i64 a0, .int .i64 a1, .int .i64 a2] w fun e w'=>e = .returned (.bool r)∧Drawn0 w w':=by
 have H:(if a0 ≥ a1 then (some (decide (a0≤a2))) else (some false))=some r:=h
 clear h;by_cases c4:a0 ≥ a1
 ·
  rw[if_pos c4] at H;have c4b0:decide (a1≤a0)=true:=dt' c4;clear c4;obtain rfl:=os' H;go_enter Try.func38,Try.ntmps38;go_wp2;go_ret
  exact ⟨xs',by repeat (first|exact Drawn0.refl _|apply Drawn0.step)⟩
 ·
  rw[if_neg c4] at H;have c4b0:decide (a1≤a0)=false:=df' c4;clear c4;obtain rfl:=os' H;go_enter Try.func38,Try.ntmps38;go_wp2;go_ret
  exact ⟨xs',by repeat (first|exact Drawn0.refl _|apply Drawn0.step)⟩
def spec_l1All.l0:Nat→Int→Int→List Int→Int→Int→Option (Bool)
 | 0,_,_,_,_,_=>none
 | k+1,x1,x2,x9,x10,x11=>if x11 < x10 then (if 0≤x11 then (if x11 < (x9.length:Int) then ((spec_l1In.f (rd x9 x11) x1 x2).bind fun t104=>(if t104=true then (spec_l1All.l0 k x1 x2 x9 x10 (wrap64 (x11+1))) else (some false))) else (none)) else (none)) else (some true)
def spec_l1All.f (k:Nat) (l0:List Int) (a1:Int) (a2:Int):Option (Bool):=spec_l1All.l0 k a1 a2 l0 (l0.length:Int) 0
set_option maxHeartbeats 8000000 in
set_option maxRecDepth 100000 in
theorem spec_l1All.calls (k:Nat) (A0:Option Addr) (c0:Nat) (l0:List Int) (a1:Int) (a2:Int) (r:Bool) (w:World) (hr0:Kd.C (Kd.int .i64) w A0 l0.length l0) (hc0:l0.length≤c0) (h:spec_l1All.f k l0 a1 a2=some r) :
  Calls Try.prog 39 #[.slice A0 l0.length c0, .int .i64 a1, .int .i64 a2] w fun e w'=>e = .returned (.bool r)∧Drawn0 w w':=by
 have HR0:=am' hr0
 have HC0:=am' hc0
 clear hr0 hc0;have H:(spec_l1All.l0 k a1 a2 l0 (l0.length:Int) 0)=some r:=h
 clear h;have H':=am' H
 clear H;go_enter Try.func39,Try.ntmps39
 go_wp2
 go_loopg [11] k (fun kq v11 w'=>∃ (x11_1:Int),v11 = .int .i64 x11_1∧Aside0 (spec_l1All.l0 kq a1 a2 l0 (l0.length:Int) x11_1=some r)∧Aside0 (kq≤k)∧Drawn0 w w')
 case atStart=>exact ⟨(0),xs',H',⟨Nat.le_refl _⟩,by repeat (first|exact Drawn0.refl _|apply Drawn0.step)⟩
 case round =>
  clear H';try clear p2
  try clear c3
  obtain ⟨x11_1,rfl,HA,HK1,⟨m1,rfl⟩⟩:=hrel;cases gk with
  | zero=>exact absurd HA.out (by simp[spec_l1All.l0])
  | succ k1 =>
   have H:=HA.out;clear HA;simp only[spec_l1All.l0] at H;by_cases c4:x11_1 < (l0.length:Int)
   ·
    rw[if_pos c4] at H;have c4b0:decide (x11_1 < (l0.length:Int))=true:=dt' c4;clear c4;by_cases c5:0≤x11_1
    ·
     rw[if_pos c5] at H;have c5b0:decide (0≤x11_1)=true:=dt' c5;clear c5;by_cases c6:x11_1 < (l0.length:Int)
     ·
      rw[if_pos c6] at H;have c6b0:decide (x11_1 < (l0.length:Int))=true:=dt' c6;clear c6;replace H:=Option.bind_eq_some_iff.mp H;obtain ⟨t104,A70,H⟩:=H;replace H:(if t104=true then (spec_l1All.l0 k1 a1 a2 l0 (l0.length:Int) (wrap64 (x11_1+1))) else (some false))=some r:=H;have A7:=am' A70;clear A70;by_cases c8:t104=true
      ·
       subst c8;have H1:(spec_l1All.l0 k1 a1 a2 l0 (l0.length:Int) (wrap64 (x11_1+1)))=some r:=by rw[if_pos rfl] at H;exact H
       clear H;have H:=H1;clear H1;have H':=am' H;clear H;have p103:0≤(x11_1:Int):=od' xa';have q103:x11_1 < (l0.length:Int):=od' xa';obtain ⟨ad103,e103,hx103_0⟩:=Kd.at_int HR0.out x11_1 p103 q103;cases e103;replace p103:=eq_true p103;replace q103:=eq_true q103;go_wp2_with (first|((with_reducible refine gate_callee (f:=38) rfl ?_);refine goesL_ (some 18) rfl rfl Try.func38 xk' rfl #[.int .i64 (rd l0 x11_1), .int .i64 a1, .int .i64 a2] rfl xl' ?_;(with_reducible refine (spec_l1In.calls (rd l0 x11_1) a1 a2 true _ A7.out).mono ?_);rintro e w' ⟨rfl,⟨nd,rfl⟩⟩;refine ⟨_,rfl,?_⟩));go_roundg k1
       case measure=>have:=HK1.out;omega
       case rel=>exact ⟨(wrap64 (x11_1+1)),xs',H',⟨by have:=HK1.out;omega⟩,by repeat (first|exact Drawn0.refl _|apply Drawn0.step)⟩
      ·
       replace c8:=Bool.eq_false_iff.mpr c8;subst c8;have H1:(some false)=some r:=by rw[if_neg (show ¬ (false=true) by decide)] at H;exact H
       clear H;have H:=H1;clear H1;obtain rfl:=os' H;have p103:0≤(x11_1:Int):=od' xa';have q103:x11_1 < (l0.length:Int):=od' xa';obtain ⟨ad103,e103,hx103_0⟩:=Kd.at_int HR0.out x11_1 p103 q103;cases e103;replace p103:=eq_true p103;replace q103:=eq_true q103;go_wp2_with (first|((with_reducible refine gate_callee (f:=38) rfl ?_);refine goesL_ (some 18) rfl rfl Try.func38 xk' rfl #[.int .i64 (rd l0 x11_1), .int .i64 a1, .int .i64 a2] rfl xl' ?_;(with_reducible refine (spec_l1In.calls (rd l0 x11_1) a1 a2 false _ A7.out).mono ?_);rintro e w' ⟨rfl,⟨nd,rfl⟩⟩;refine ⟨_,rfl,?_⟩));go_ret
       exact ⟨xs',by repeat (first|exact Drawn0.refl _|apply Drawn0.step)⟩
     ·
      rw[if_neg c6] at H;exact absurd H (by simp)
    ·
     rw[if_neg c5] at H;exact absurd H (by simp)
   ·
    rw[if_neg c4] at H;have c4b0:decide (x11_1 < (l0.length:Int))=false:=df' c4;clear c4;obtain rfl:=os' H;go_wp2;go_ret
    exact ⟨xs',by repeat (first|exact Drawn0.refl _|apply Drawn0.step)⟩
def spec_paGood.f (k:Nat) (l0_0:List Int) (a0_1:Int):Option (Bool):=(spec_l1In.f (l0_0.length:Int) 1 8).bind fun t106=>(if t106=true then ((spec_l1All.f k l0_0 1 1000).bind fun t107=>(if t107=true then ((spec_l1In.f a0_1 1 3).bind fun t108=>(some t108)) else (some false))) else (some false))
set_option maxHeartbeats 8000000 in
set_option maxRecDepth 100000 in
theorem spec_paGood.calls (k:Nat) (A0_0:Option Addr) (c0_0:Nat) (l0_0:List Int) (a0_1:Int) (r:Bool) (w:World) (hr0_0:Kd.C (Kd.int .i64) w A0_0 l0_0.length l0_0) (hc0_0:l0_0.length≤c0_0) (h:spec_paGood.f k l0_0 a0_1=some r) :
  Calls Try.prog 17 #[.agg #[.slice A0_0 l0_0.length c0_0, .int .i64 a0_1]] w fun e w'=>e = .returned (.bool r)∧Below w.heap.size w w':=by
 have hu28:=Try.underlying28
 have HR0_0:=am' hr0_0
 have HC0_0:=am' hc0_0
 clear hr0_0 hc0_0;have HB:=am' (Below.refl w.heap.size w)
 have H:((spec_l1In.f (l0_0.length:Int) 1 8).bind fun t106=>(if t106=true then ((spec_l1All.f k l0_0 1 1000).bind fun t107=>(if t107=true then ((spec_l1In.f a0_1 1 3).bind fun t108=>(some t108)) else (some false))) else (some false)))=some r:=h
 clear h;replace H:=Option.bind_eq_some_iff.mp H
 obtain ⟨t106,A20,H⟩:=H
 replace H:(if t106=true then ((spec_l1All.f k l0_0 1 1000).bind fun t107=>(if t107=true then ((spec_l1In.f a0_1 1 3).bind fun t108=>(some t108)) else (some false))) else (some false))=some r:=H
 have A2:=am' A20
 clear A20;by_cases c3:t106=true
 ·
  subst c3;have H1:((spec_l1All.f k l0_0 1 1000).bind fun t107=>(if t107=true then ((spec_l1In.f a0_1 1 3).bind fun t108=>(some t108)) else (some false)))=some r:=by rw[if_pos rfl] at H;exact H
  clear H;have H:=H1;clear H1;replace H:=Option.bind_eq_some_iff.mp H;obtain ⟨t107,A40,H⟩:=H;replace H:(if t107=true then ((spec_l1In.f a0_1 1 3).bind fun t108=>(some t108)) else (some false))=some r:=H;have A4:=am' A40;clear A40;by_cases c5:t107=true
  ·
   subst c5;have H1:((spec_l1In.f a0_1 1 3).bind fun t108=>(some t108))=some r:=by rw[if_pos rfl] at H;exact H
   clear H;have H:=H1;clear H1;replace H:=Option.bind_eq_some_iff.mp H;obtain ⟨t108,A60,H⟩:=H;replace H:(some t108)=some r:=H;have A6:=am' A60;clear A60;obtain rfl:=os' H;go_enter Try.func17,Try.ntmps17;go_wp2_with (first|((with_reducible refine gate_dst (N:=1) rfl ?_);refine box_event ?hg (N:=1) ?hd (cs:=#[.slice A0_0 l0_0.length c0_0, .int .i64 a0_1]) (t:=28) ?hr ?_;(case hd=>rfl);(case hg=>rfl);(case hr=>first|(go_simp;done)|(go_simp;rfl));intro gb105 hg w7 hbox hb;have n0_:=am' (bt' xb' hb);have n1_:=am' (hbox);have n2_:=am' ((by rw[hg];exact (bz' xb'):w.heap.size≤gb105));have n3_:=am' ((by rw[hg];exact (bz' xb'):w.heap.size≤gb105));clear HB;have HB:=n0_;have BK105:=n1_;have GW105:=n2_;have GE105:=n3_;clear n0_ n1_ n2_ n3_;clear hb hbox hg;have hcz8_0:w7.cell? ⟨gb105,0,none⟩=some (.slice A0_0 l0_0.length c0_0):=(bc' BK105.out 0).trans rfl;have hcz8_1:w7.cell? ⟨gb105,1,none⟩=some (.int .i64 a0_1):=(bc' BK105.out 1).trans rfl;have hfz8_0:=bf' BK105.out 0;have hfz8_1:=bf' BK105.out 1)|((with_reducible refine gate_callee (f:=38) rfl ?_);refine goesL_ (some 6) rfl rfl Try.func38 xk' rfl #[.int .i64 (l0_0.length:Int), .int .i64 1, .int .i64 8] rfl xl' ?_;(with_reducible refine (spec_l1In.calls (l0_0.length:Int) 1 8 true _ A2.out).mono ?_);rintro e w' ⟨rfl,⟨nd,rfl⟩⟩;refine ⟨_,rfl,?_⟩)|(go_at_call 39;(with_reducible refine (spec_l1All.calls k _ _ l0_0 1 1000 true _ ?side1 ?side2 A4.out).mono ?_);(case side1=>exact kc' (cb' HR0_0.out (yb' GE105.out)));(case side2=>exact HC0_0.out);rintro e w' ⟨rfl,⟨nd,rfl⟩⟩)|(go_at_call 38;(with_reducible refine (spec_l1In.calls a0_1 1 3 t108 _ A6.out).mono ?_);rintro e w' ⟨rfl,⟨nd,rfl⟩⟩));go_ret
   exact ⟨by first|rfl|(simp[errW_none,errW_some] <;> rfl)|(simp[*,errW_none,errW_some] <;> rfl),yb' GE105.out⟩
  ·
   replace c5:=Bool.eq_false_iff.mpr c5;subst c5;have H1:(some false)=some r:=by rw[if_neg (show ¬ (false=true) by decide)] at H;exact H
   clear H;have H:=H1;clear H1;obtain rfl:=os' H;go_enter Try.func17,Try.ntmps17;go_wp2_with (first|((with_reducible refine gate_dst (N:=1) rfl ?_);refine box_event ?hg (N:=1) ?hd (cs:=#[.slice A0_0 l0_0.length c0_0, .int .i64 a0_1]) (t:=28) ?hr ?_;(case hd=>rfl);(case hg=>rfl);(case hr=>first|(go_simp;done)|(go_simp;rfl));intro gb105 hg w9 hbox hb;have n0_:=am' (bt' xb' hb);have n1_:=am' (hbox);have n2_:=am' ((by rw[hg];exact (bz' xb'):w.heap.size≤gb105));have n3_:=am' ((by rw[hg];exact (bz' xb'):w.heap.size≤gb105));clear HB;have HB:=n0_;have BK105:=n1_;have GW105:=n2_;have GE105:=n3_;clear n0_ n1_ n2_ n3_;clear hb hbox hg;have hcz10_0:w9.cell? ⟨gb105,0,none⟩=some (.slice A0_0 l0_0.length c0_0):=(bc' BK105.out 0).trans rfl;have hcz10_1:w9.cell? ⟨gb105,1,none⟩=some (.int .i64 a0_1):=(bc' BK105.out 1).trans rfl;have hfz10_0:=bf' BK105.out 0;have hfz10_1:=bf' BK105.out 1)|((with_reducible refine gate_callee (f:=38) rfl ?_);refine goesL_ (some 6) rfl rfl Try.func38 xk' rfl #[.int .i64 (l0_0.length:Int), .int .i64 1, .int .i64 8] rfl xl' ?_;(with_reducible refine (spec_l1In.calls (l0_0.length:Int) 1 8 true _ A2.out).mono ?_);rintro e w' ⟨rfl,⟨nd,rfl⟩⟩;refine ⟨_,rfl,?_⟩)|(go_at_call 39;(with_reducible refine (spec_l1All.calls k _ _ l0_0 1 1000 false _ ?side1 ?side2 A4.out).mono ?_);(case side1=>exact kc' (cb' HR0_0.out (yb' GE105.out)));(case side2=>exact HC0_0.out);rintro e w' ⟨rfl,⟨nd,rfl⟩⟩));go_ret
   exact ⟨by first|rfl|(simp[errW_none,errW_some] <;> rfl)|(simp[*,errW_none,errW_some] <;> rfl),yb' GE105.out⟩
 ·
  replace c3:=Bool.eq_false_iff.mpr c3;subst c3;have H1:(some false)=some r:=by rw[if_neg (show ¬ (false=true) by decide)] at H;exact H
  clear H;have H:=H1;clear H1;obtain rfl:=os' H;go_enter Try.func17,Try.ntmps17;go_wp2_with (first|((with_reducible refine gate_dst (N:=1) rfl ?_);refine box_event ?hg (N:=1) ?hd (cs:=#[.slice A0_0 l0_0.length c0_0, .int .i64 a0_1]) (t:=28) ?hr ?_;(case hd=>rfl);(case hg=>rfl);(case hr=>first|(go_simp;done)|(go_simp;rfl));intro gb105 hg w11 hbox hb;have n0_:=am' (bt' xb' hb);have n1_:=am' (hbox);have n2_:=am' ((by rw[hg];exact (bz' xb'):w.heap.size≤gb105));have n3_:=am' ((by rw[hg];exact (bz' xb'):w.heap.size≤gb105));clear HB;have HB:=n0_;have BK105:=n1_;have GW105:=n2_;have GE105:=n3_;clear n0_ n1_ n2_ n3_;clear hb hbox hg;have hcz12_0:w11.cell? ⟨gb105,0,none⟩=some (.slice A0_0 l0_0.length c0_0):=(bc' BK105.out 0).trans rfl;have hcz12_1:w11.cell? ⟨gb105,1,none⟩=some (.int .i64 a0_1):=(bc' BK105.out 1).trans rfl;have hfz12_0:=bf' BK105.out 0;have hfz12_1:=bf' BK105.out 1)|((with_reducible refine gate_callee (f:=38) rfl ?_);refine goesL_ (some 6) rfl rfl Try.func38 xk' rfl #[.int .i64 (l0_0.length:Int), .int .i64 1, .int .i64 8] rfl xl' ?_;(with_reducible refine (spec_l1In.calls (l0_0.length:Int) 1 8 false _ A2.out).mono ?_);rintro e w' ⟨rfl,⟨nd,rfl⟩⟩;refine ⟨_,rfl,?_⟩));go_ret
  exact ⟨by first|rfl|(simp[errW_none,errW_some] <;> rfl)|(simp[*,errW_none,errW_some] <;> rfl),yb' GE105.out⟩
def spec_seState.l0:Nat→Int→Int→Int→Int→List Bool→Bool→Option (List Bool × Bool)
 | 0,_,_,_,_,_,_=>none
 | k+1,x0,x1,x16,x17,x114000,x114001=>if x17 < x16 then (if 0≤(wrap64 ((wrap64 (x1 - 1)) - x17)) then (if 0≤x17 then (if x17 < (x114000.length:Int) then (spec_seState.l0 k x0 x1 x16 (wrap64 (x17+1)) (x114000.set (x17:Int).toNat ((Go.bits .and .i64 (shr .i64 x0 (wrap64 ((wrap64 (x1 - 1)) - x17))) 1) == 1)) x114001) else (none)) else (none)) else (none)) else (some (x114000,x114001))
def spec_seState.f (k:Nat) (a0:Int) (a1:Int):Option (List Bool × Bool):=if 0≤a1 then (if (a1:Int).toNat≤281474976710656 then ((some (List.replicate (a1:Int).toNat false:List Bool)).bind fun y110=>(spec_seState.l0 k a0 a1 (y110.length:Int) 0 y110 ((shr .i64 a0 a1) == 1))) else (none)) else (none)
theorem spec_seState.mono_l:∀ k,(∀ y0 y1 y2 y3 y4 y5,LeO (spec_seState.l0 k y0 y1 y2 y3 y4 y5) (spec_seState.l0 (k+1) y0 y1 y2 y3 y4 y5))
 | 0=>fun _ _ _ _ _ _ r h=>by simp[spec_seState.l0] at h
 | k+1=>by
  have ih0:=spec_seState.mono_l k
  ·
   intro y0 y1 y2 y3 y4 y5;unfold spec_seState.l0
   repeat' first
   | (with_reducible exact ih0 _ _ _ _ _ _)
   | (with_reducible exact LeO.refl _)
   | (with_reducible exact LeO.none _)
   | (with_reducible refine LeO.ite ?_ ?_)
   | (with_reducible refine LeO.bind ?_ (fun _=>?_))
   | exact ih0 _ _ _ _ _ _
   | exact LeO.none _
   | refine LeO.ite ?_ ?_
   | refine LeO.bind ?_ (fun _=>?_)
theorem spec_seState.mono:∀ a0 a1 k,LeO (spec_seState.f k a0 a1) (spec_seState.f (k+1) a0 a1):=by
 intro a0 a1 k;have ih0:=spec_seState.mono_l k
 unfold spec_seState.f
 repeat' first
   | (with_reducible exact ih0 _ _ _ _ _ _)
   | (with_reducible exact LeO.refl _)
   | (with_reducible exact LeO.none _)
   | (with_reducible refine LeO.ite ?_ ?_)
   | (with_reducible refine LeO.bind ?_ (fun _=>?_))
   | exact ih0 _ _ _ _ _ _
   | exact LeO.none _
   | refine LeO.ite ?_ ?_
   | refine LeO.bind ?_ (fun _=>?_)
def spec_seState.T1:Bool × List (List Nat × List Nat):=(true,[([],[]),([0,0],[0]),([],[]),([],[]),([2,3],[2,3]),([4],[4]),([1,5],[1,5]),([],[]),([7,6,0,1,2,3,4,5,6,7],[6,7])])
def spec_seState.B1:List Nat:=[0,1,0,0,12,28,63,0,255]
theorem spec_seState.tab1:rtab .any (opsOf Try.f28 1)=spec_seState.T1:=by kernel_rfl
theorem spec_seState.bits1:waitsOk spec_seState.T1.2 spec_seState.B1=true:=by kernel_rfl
def spec_seState.T5:Bool × List (List Nat × List Nat):=(true,[([],[]),([0],[0]),([],[]),([],[]),([],[]),([4],[4]),([],[]),([5,6],[5,6]),([3,7],[3,7]),([8],[8]),([9],[9]),([1,2,0,1,2,3,4,5,6,7,8,9,10],[1,2]),([11,10,0,1,2,3,4,5,6,7,8,9,10],[10,11])])
def spec_seState.B5:List Nat:=[0,1,0,0,0,16,0,112,248,504,1016,2047,4095]
theorem spec_seState.tab5:rtab .any (opsOf Try.f28 5)=spec_seState.T5:=by kernel_rfl
theorem spec_seState.bits5:waitsOk spec_seState.T5.2 spec_seState.B5=true:=by kernel_rfl
set_option maxHeartbeats 8000000 in
set_option maxRecDepth 100000 in
theorem spec_seState.calls (k:Nat) (a0:Int) (a1:Int) (r1:List Bool) (r2:Bool) (w:World) (h:spec_seState.f k a0 a1=some (r1,r2)) :
  Calls Try.prog 28 #[.int .i64 a0, .int .i64 a1] w fun e w'=>∃ v0_:Value,e = .returned (.agg #[v0_, .bool r2])∧Kd.R Kd.bool 4 w' w.heap.size (fun _=>True) v0_ r1∧Below w.heap.size w w':=by
 have hu54:=Try.underlying54
 have HB:=am' (Below.refl w.heap.size w)
 have H:(if 0≤a1 then (if (a1:Int).toNat≤281474976710656 then ((some (List.replicate (a1:Int).toNat false:List Bool)).bind fun y110=>(spec_seState.l0 k a0 a1 (y110.length:Int) 0 y110 ((shr .i64 a0 a1) == 1))) else (none)) else (none))=some (r1,r2):=h
 clear h;by_cases c3:0≤a1
 ·
  rw[if_pos c3] at H;have c3b0:=eq_true c3;have c3b1:decide (0≤a1)=true:=dt' c3;clear c3;by_cases c4:(a1:Int).toNat≤281474976710656
  ·
   rw[if_pos c4] at H;have c4b0:=eq_true c4;have c4b1:decide ((a1:Int).toNat≤281474976710656)=true:=dt' c4;clear c4;obtain ⟨y110,hy110⟩:∃ y_:List Bool,y_=(List.replicate (a1:Int).toNat false):=⟨_,rfl⟩
   replace H:(spec_seState.l0 k a0 a1 (y110.length:Int) 0 y110 ((shr .i64 a0 a1) == 1))=some (r1,r2):=by first|(rw[hy110];with_reducible exact H)|(have H2_:=(Option.bind_some _ _).symm.trans H;rw[hy110];with_reducible exact H2_)|(have H2_:=(Option.bind_some _ _).symm.trans H;with_reducible exact H2_)|with_reducible exact H|(rw[hy110];exact H)|exact H
   have Ny110:=am' hy110;clear hy110;have c5b0:=eq_true (od' xa':0≤a1);obtain ⟨ji6,hji6⟩:∃ j_:Int,(shr .i64 a0 a1)=j_:=⟨_,rfl⟩
   replace H:(spec_seState.l0 k a0 a1 (y110.length:Int) 0 y110 ((ji6) == 1))=some (r1,r2):=by first|(rw[hji6] at H;exact H)|(simp only[hji6] at H ⊢;exact H)
   have hji6_:(a0 / 2 ^ min a1.toNat 64)=ji6:=hji6;have hji6z:a1≤64→(a0 / 2 ^ a1.toNat)=ji6:=shr_small hji6;have H':=am' H;clear H;go_enter Try.func28,Try.ntmps28
   try go_wp2_with (first|((with_reducible refine gate_dst (N:=4) rfl ?_);refine box_event ?hg (N:=4) ?hd (cs:=#[.slice none 0 0, .bool false]) (t:=54) ?hr ?_;(case hd=>rfl);(case hg=>rfl);(case hr=>first|(go_simp;done)|(go_simp;rfl));intro gb109 hg w7 hbox hb;have n0_:=am' (bt' xb' hb);have n1_:=am' (hbox);have n2_:=am' ((by rw[hg];exact (bz' xb'):w.heap.size≤gb109));have n3_:=am' ((by rw[hg];exact (bz' xb'):w.heap.size≤gb109));clear HB;have HB:=n0_;have BK109:=n1_;have GW109:=n2_;have GE109:=n3_;clear n0_ n1_ n2_ n3_;clear hb hbox hg))
   have n0_:=am' (kd' BK109.out);have n1_:=am' (be' HB.out);clear BK109;clear HB;have BK109:=n0_;have HB:=n1_;clear n0_ n1_;refine start_ (n:=9) (S:=fun w'=>True) (ds:=[]) #[false,false,false,false,false,false,false,false,false] xk' rfl rfl trivial (fun hHeld=>?_);refine with_tabW spec_seState.tab1 spec_seState.bits1 (fun HT_ HW_=>?_);generalize w7.drew=w8 at BK109 HB hHeld ⊢
   refine pure_ (i:=0) (N:=some 7) (v:=?_) (a':=?_) #[true,false,false,false,false,false,false,false,false] rfl rfl (any_of HT_.out xk') (fun _ _ _ h=>h) (Or.inl ⟨by rfl,?_⟩) ?_ ?_
   rotate_left
   ·
    intro w';go_simp;with_reducible rfl
   rotate_left
   ·
    simp only[Act.put,sa',sb',sc',i64_w,i32_w];rfl
   refine pure_ (i:=2) (N:=some 9) (v:=?_) (a':=?_) #[true,false,true,false,false,false,false,false,false] rfl rfl (any_of HT_.out xk') (fun _ _ _ h=>h) (Or.inl ⟨by rfl,?_⟩) ?_ ?_
   rotate_left
   ·
    intro w';go_simp;with_reducible rfl
   rotate_left
   ·
    simp only[Act.put,sa',sb',sc',i64_w,i32_w];rfl
   refine pure_ (i:=3) (N:=some 10) (v:=?_) (a':=?_) #[true,false,true,true,false,false,false,false,false] rfl rfl (any_of HT_.out xk') (fun _ _ _ h=>h) (Or.inl ⟨by rfl,?_⟩) ?_ ?_
   rotate_left
   ·
    intro w';go_simp;with_reducible rfl
   rotate_left
   ·
    simp only[Act.put,sa',sb',sc',i64_w,i32_w];rfl
   refine pure_ (i:=4) (N:=some 11) (v:=?_) (a':=?_) #[true,false,true,true,true,false,false,false,false] rfl rfl (any_of HT_.out xk') (fun _ _ _ h=>h) (Or.inl ⟨by rfl,?_⟩) ?_ ?_
   rotate_left
   ·
    intro w';go_simp;with_reducible rfl
   rotate_left
   ·
    simp only[Act.put,sa',sb',sc',i64_w,i32_w];rfl
   refine pure_ (i:=5) (N:=some 12) (v:=?_) (a':=?_) #[true,false,true,true,true,true,false,false,false] rfl rfl (any_of HT_.out xk') (fun _ _ _ h=>h) (Or.inl ⟨by rfl,?_⟩) ?_ ?_
   rotate_left
   ·
    intro w';go_simp;with_reducible rfl
   rotate_left
   ·
    simp only[Act.put,sa',sb',sc',i64_w,i32_w];rfl
   refine join_ (σ:=Value × Nat) 1 #[true,true,true,true,true,true,true,true,false] (fun s_=>[(8,s_.1),(5, .pointer (some ⟨s_.2,0,none⟩)),(13, .agg #[s_.1, .bool ((ji6) == 1)])]) (fun s_ w'=>(Kd.R Kd.bool 4 w' w.heap.size (fun _=>True) s_.1 y110)∧(w'.heap[gb109]? = some (.cells #[.slice none 0 0, .bool false] 54 (0,0)))∧(w'.heap[s_.2]? = some (.cells #[.slice none 0 0, .bool false] 54 (0,0)))∧(w.heap.size≤s_.2)∧(w.heap.size≤s_.2)∧(gb109≠s_.2)∧(s_.2≠gb109)∧(Below w.heap.size w w')) ?_ ?_
   rotate_left
   ·
    intro hCont;refine two_ (i:=1) (j:=7) (Ni:=some 8) (Nj:=some 5) #[true,true,true,true,true,true,false,false,false] #[true,false,true,true,true,true,false,true,false] rfl rfl rfl rfl (two_of HT_.out xk') (by decide) (by decide) (fun K hK=>?_) (fun K hK=>?_)
    ·
     skip
     refine Kd.R_make_step Kd.bool _ 4 (by rfl) (N:=8) rfl 52 _ _ rfl a1 rfl rfl Try.underlying52 (.bool false) 1 info4 rfl (by decide) (by omega) false (ok:=fun _=>True) (okp:=fun _=>True) rfl (fun _ hk=>hk) trivial (od' xa') (Nat.le_trans (Nat.mul_le_mul_right _ (od' xa':a1.toNat≤281474976710656)) (by omega)) (Below.refl _ _) (Nat.le_refl _) ?_
     intro v111 w9 ho10 hb hg_ hnew_;clear hg_ hnew_;(first|rw[← Ny110.out] at ho10|(simp only[Int.reduceToNat] at ho10;rw[← Ny110.out] at ho10))
     have n0_:=am' (Kd.R_lower ho10 (bz' (yb' GE109.out)));have n1_:=am' (bb' (g:=gb109) (o := .cells #[.slice none 0 0, .bool false] 54 (0,0)) (kk' BK109.out) hb);have n2_:=am' (bt' (yb' GE109.out) hb);clear BK109;clear HB;have HO112:=n0_;have BK109:=n1_;have HB:=n2_;clear n0_ n1_ n2_;clear hb ho10;obtain ⟨Ao11,co11,eo11⟩:=Kd.R_slice HO112.out
     (first|subst eo11|(injection eo11 with f1_ f2_ f3_;have f4_:=f1_.symm;have f5_:=f3_.symm;clear f1_ f2_ f3_;subst f4_;subst f5_))
     refine hK.out _ _ trivial (fun hHeld=>?_);clear hK K;refine norm_ (a':=?_) ?_ ?_
     rotate_left
     ·
      show Act.put _ (some 8) _=_
      simp only[Act.put,sa',sb',sc',i64_w,i32_w];rfl
     refine pure_ (i:=6) (N:=some 13) (v:=?_) (a':=?_) #[true,true,true,true,true,true,true,false,false] rfl rfl (any_of HT_.out xk') (fun _ _ _ h=>h) (Or.inl ⟨by rfl,?_⟩) ?_ ?_
     rotate_left
     ·
      intro w';go_simp;with_reducible rfl
     rotate_left
     ·
      simp only[Act.put,sa',sb',sc',i64_w,i32_w];rfl
     refine one_ (i:=7) (N:=some 5) #[true,true,true,true,true,true,true,true,false] rfl rfl (one_of HT_.out xk') (by decide) (fun K hK=>?_);refine box_step ?hg (N:=5) ?hd (cs:=#[.slice none 0 0, .bool false]) (t:=54) ?hr ?_;(case hd=>rfl);(case hg=>rfl);(case hr=>first|(go_simp;done)|(go_simp;rfl))
     intro gb113 hg w12 hbox hb;have n0_:=am' (rb' (kr' HO112.out) hb);have n1_:=am' (bb' (g:=gb109) (o := .cells #[.slice none 0 0, .bool false] 54 (0,0)) (kk' BK109.out) hb);have n2_:=am' (bt' (yb' GE109.out) hb);have n3_:=am' (hbox);have n4_:=am' ((by rw[hg];exact (bz' (yb' GE109.out)):w.heap.size≤gb113));have n5_:=am' ((by rw[hg];exact (bz' (yb' GE109.out)):w.heap.size≤gb113));have n6_:=am' ((by rw[hg];exact Nat.ne_of_lt (blk_lt (g:=gb109) (o := .cells #[.slice none 0 0, .bool false] 54 (0,0)) (kk' BK109.out)):gb109≠gb113));have n7_:=am' ((by rw[hg];exact Nat.ne_of_gt (blk_lt (g:=gb109) (o := .cells #[.slice none 0 0, .bool false] 54 (0,0)) (kk' BK109.out)):gb113≠gb109));clear HO112;clear BK109;clear HB;have HO112:=n0_;have BK109:=n1_;have HB:=n2_;have BK113:=n3_;have GW113:=n4_;have GE113:=n5_;have NB109_113:=n6_;have NB113_109:=n7_;clear n0_ n1_ n2_ n3_ n4_ n5_ n6_ n7_;clear hb hbox hg;refine hK.out _ _ trivial (fun hHeld=>?_);clear hK K;refine norm_ (a':=?_) ?_ ?_
     rotate_left
     ·
      show Act.put _ (some 5) _=_
      simp only[Act.put,sa',sb',sc',i64_w,i32_w];rfl
     exact norm_ (by simp only[putAll,Act.put,sa',sb',sc']) (hCont (.slice Ao11 y110.length co11,gb113) _ ⟨(kr' HO112.out),(kk' BK109.out),(kk' BK113.out),GW113.out,GE113.out,NB109_113.out,NB113_109.out,(y2' GE109.out GE113.out)⟩)
    ·
     skip
     refine box_step ?hg (N:=5) ?hd (cs:=#[.slice none 0 0, .bool false]) (t:=54) ?hr ?_;(case hd=>rfl);(case hg=>rfl);(case hr=>first|(go_simp;done)|(go_simp;rfl))
     intro gb113 hg w9 hbox hb;have n0_:=am' (bb' (g:=gb109) (o := .cells #[.slice none 0 0, .bool false] 54 (0,0)) (kk' BK109.out) hb);have n1_:=am' (bt' (yb' GE109.out) hb);have n2_:=am' (hbox);have n3_:=am' ((by rw[hg];exact (bz' (yb' GE109.out)):w.heap.size≤gb113));have n4_:=am' ((by rw[hg];exact (bz' (yb' GE109.out)):w.heap.size≤gb113));have n5_:=am' ((by rw[hg];exact Nat.ne_of_lt (blk_lt (g:=gb109) (o := .cells #[.slice none 0 0, .bool false] 54 (0,0)) (kk' BK109.out)):gb109≠gb113));have n6_:=am' ((by rw[hg];exact Nat.ne_of_gt (blk_lt (g:=gb109) (o := .cells #[.slice none 0 0, .bool false] 54 (0,0)) (kk' BK109.out)):gb113≠gb109));clear BK109;clear HB;have BK109:=n0_;have HB:=n1_;have BK113:=n2_;have GW113:=n3_;have GE113:=n4_;have NB109_113:=n5_;have NB113_109:=n6_;clear n0_ n1_ n2_ n3_ n4_ n5_ n6_;clear hb hbox hg;refine hK.out _ _ trivial (fun hHeld=>?_);clear hK K;refine norm_ (a':=?_) ?_ ?_
     rotate_left
     ·
      show Act.put _ (some 5) _=_
      simp only[Act.put,sa',sb',sc',i64_w,i32_w];rfl
     refine one_ (i:=1) (N:=some 8) #[true,true,true,true,true,true,false,true,false] rfl rfl (one_of HT_.out xk') (by decide) (fun K hK=>?_);refine Kd.R_make_step Kd.bool _ 4 (by rfl) (N:=8) rfl 52 _ _ rfl a1 rfl rfl Try.underlying52 (.bool false) 1 info4 rfl (by decide) (by omega) false (ok:=fun _=>True) (okp:=fun _=>True) rfl (fun _ hk=>hk) trivial (od' xa') (Nat.le_trans (Nat.mul_le_mul_right _ (od' xa':a1.toNat≤281474976710656)) (by omega)) (Below.refl _ _) (Nat.le_refl _) ?_
     intro v111 w10 ho11 hb hg_ hnew_;clear hg_ hnew_;(first|rw[← Ny110.out] at ho11|(simp only[Int.reduceToNat] at ho11;rw[← Ny110.out] at ho11))
     have n0_:=am' (Kd.R_lower ho11 (bz' (y2' GE109.out GE113.out)));have n1_:=am' (bb' (g:=gb109) (o := .cells #[.slice none 0 0, .bool false] 54 (0,0)) (kk' BK109.out) hb);have n2_:=am' (bb' (g:=gb113) (o := .cells #[.slice none 0 0, .bool false] 54 (0,0)) (kk' BK113.out) hb);have n3_:=am' (bt' (y2' GE109.out GE113.out) hb);clear BK109;clear BK113;clear HB;have HO112:=n0_;have BK109:=n1_;have BK113:=n2_;have HB:=n3_;clear n0_ n1_ n2_ n3_;clear hb ho11;obtain ⟨Ao12,co12,eo12⟩:=Kd.R_slice HO112.out
     (first|subst eo12|(injection eo12 with f1_ f2_ f3_;have f4_:=f1_.symm;have f5_:=f3_.symm;clear f1_ f2_ f3_;subst f4_;subst f5_))
     refine hK.out _ _ trivial (fun hHeld=>?_);clear hK K;refine norm_ (a':=?_) ?_ ?_
     rotate_left
     ·
      show Act.put _ (some 8) _=_
      simp only[Act.put,sa',sb',sc',i64_w,i32_w];rfl
     refine pure_ (i:=6) (N:=some 13) (v:=?_) (a':=?_) #[true,true,true,true,true,true,true,true,false] rfl rfl (any_of HT_.out xk') (fun _ _ _ h=>h) (Or.inl ⟨by rfl,?_⟩) ?_ ?_
     rotate_left
     ·
      intro w';go_simp;with_reducible rfl
     rotate_left
     ·
      simp only[Act.put,sa',sb',sc',i64_w,i32_w];rfl
     exact norm_ (by simp only[putAll,Act.put,sa',sb',sc']) (hCont (.slice Ao12 y110.length co12,gb113) _ ⟨(kr' HO112.out),(kk' BK109.out),(kk' BK113.out),GW113.out,GE113.out,NB109_113.out,NB113_109.out,(y2' GE109.out GE113.out)⟩)
   rintro ⟨v111,gb113⟩ w13 ⟨h0_,h1_,h2_,h3_,h4_,h5_,h6_,h7_⟩
   have n0_:Aside0 (Kd.R Kd.bool 4 w13 w.heap.size (fun _=>True) v111 y110):=⟨h0_⟩
   have n1_:Aside0 (w13.heap[gb109]? = some (.cells #[.slice none 0 0, .bool false] 54 (0,0))):=⟨h1_⟩
   have n2_:Aside0 (w13.heap[gb113]? = some (.cells #[.slice none 0 0, .bool false] 54 (0,0))):=⟨h2_⟩
   have n3_:Aside0 (w.heap.size≤gb113):=⟨h3_⟩
   have n4_:Aside0 (w.heap.size≤gb113):=⟨h4_⟩
   have n5_:Aside0 (gb109≠gb113):=⟨h5_⟩
   have n6_:Aside0 (gb113≠gb109):=⟨h6_⟩
   have n7_:Aside0 (Below w.heap.size w w13):=⟨h7_⟩
   clear BK109;clear HB;clear h0_ h1_ h2_ h3_ h4_ h5_ h6_ h7_;have HO112:=n0_;have BK109:=n1_;have BK113:=n2_;have GW113:=n3_;have GE113:=n4_;have NB109_113:=n5_;have NB113_109:=n6_;have HB:=n7_;clear n0_ n1_ n2_ n3_ n4_ n5_ n6_ n7_;have hHeld:=trivial;obtain ⟨Ao14,co14,eo14⟩:=Kd.R_slice HO112.out
   (first|subst eo14|(injection eo14 with f1_ f2_ f3_;have f4_:=f1_.symm;have f5_:=f3_.symm;clear f1_ f2_ f3_;subst f4_;subst f5_))
   refine norm_ (a':=?_) ?_ ?_
   rotate_left
   ·
    simp only[putAll,Act.put,sa',sb',sc'];rfl
   refine one_ (i:=8) (N:=none) #[true,true,true,true,true,true,true,true,true] rfl rfl (one_of HT_.out xk') (by decide) (fun K hK=>?_);have hs15:w13.cell? ⟨gb113,0,none⟩=some (.slice none 0 0):=(bc' BK113.out 0).trans rfl;have hfs15:=bf' BK113.out 0;have hns15_0:=NB109_113.out;have hms15_0:=NB113_109.out;have hs16:w13.cell? ⟨gb113,1,none⟩=some (.bool false):=(bc' BK113.out 1).trans rfl;have hfs16:=bf' BK113.out 1;have hns16_0:=NB109_113.out;have hms16_0:=NB113_109.out;refine skip_ (w1:=?_) (by rfl) rfl ?_ ?_
   rotate_left
   ·
    go_simp;rfl
   refine hK.out _ _ trivial (fun hHeld=>?_);clear hK K;refine done_ (done_of HT_.out xk') ?_
   have hnb17:=NB113_109.out;have hnc17:=NB109_113.out;have hcz18_0:w13.cell? ⟨gb113,0,none⟩=some (.slice none 0 0):=(bc' BK113.out 0).trans rfl;have hcz18_1:w13.cell? ⟨gb113,1,none⟩=some (.bool false):=(bc' BK113.out 1).trans rfl;have hfz18_0:=bf' BK113.out 0;have hfz18_1:=bf' BK113.out 1
   try go_wp2
   go_loopg [17] k (fun kq v17 w'=>∃ (x17_1:Int) (x114000_1:List Bool) (u114000:Value),v17 = .int .i64 x17_1∧Aside0 (spec_seState.l0 kq a0 a1 (y110.length:Int) x17_1 x114000_1 ((ji6) == 1)=some (r1,r2))∧Aside0 (kq≤k)∧Aside0 (Kd.R Kd.bool 4 w' w.heap.size (fun _=>True) u114000 x114000_1)∧Aside0 (w'.heap[gb109]? = some (.cells #[(.slice none 0 0), .bool false] 54 (0,0)))∧Aside0 (w'.heap[gb113]? = some (.cells #[u114000, .bool ((ji6) == 1)] 54 (0,0)))∧Aside0 (Below w.heap.size w w'))
   case atStart=>exact ⟨(0),(y110),(.slice Ao14 y110.length co14),xs',H',⟨Nat.le_refl _⟩,⟨by (with_reducible repeat (first|apply ra'|apply rn'|apply rw'));exact Kd.R_mono (Kd.R_far (p:=⟨gb113,1,none⟩) (Kd.R_far (p:=⟨gb113,0,none⟩) (Kd.R_types HO112.out BK113.out (by decide)) (fun _ hk=>hk.2) (.slice Ao14 y110.length co14)) (fun _ hk=>hk.2) (.bool ((ji6) == 1))) (fun _ hk=>trivial)⟩,⟨by (with_reducible repeat (first|refine kn' ?_ _|refine kd' ?_|refine ka' ?_ _));refine blk_far ?_ NB109_113.out _;(with_reducible repeat (first|refine kn' ?_ _|refine kd' ?_|refine ka' ?_ _));refine blk_far ?_ NB109_113.out _;(with_reducible repeat (first|refine kn' ?_ _|refine kd' ?_|refine ka' ?_ _));exact BK109.out⟩,⟨by (with_reducible repeat (first|refine kn' ?_ _|refine kd' ?_|refine ka' ?_ _));refine blk_put (cs:=#[.slice Ao14 y110.length co14, .bool false]) ?_ 1 _ rfl;(with_reducible repeat (first|refine kn' ?_ _|refine kd' ?_|refine ka' ?_ _));refine blk_put (cs:=#[.slice none 0 0, .bool false]) ?_ 0 _ rfl;(with_reducible repeat (first|refine kn' ?_ _|refine kd' ?_|refine ka' ?_ _));exact BK113.out⟩,⟨y2' GE109.out GE113.out⟩⟩
   case round =>
    clear H';try clear c1
    try clear c2
    try clear p2
    try clear c3
    try clear c3b0
    try clear c3b1
    try clear c4
    try clear c4b0
    try clear c4b1
    try clear c5
    try clear c5b0
    try clear c17
    try clear hcz18_0
    try clear hcz18_1
    try clear hfz18_0
    try clear hfz18_1
    obtain ⟨x17_1,x114000_1,u114000,rfl,HA,HK1,HO_114000,BK109,BK113,HB⟩:=hrel;cases gk with
    | zero=>exact absurd HA.out (by simp[spec_seState.l0])
    | succ k1 =>
     have H:=HA.out;clear HA;simp only[spec_seState.l0] at H;by_cases c19:x17_1 < (y110.length:Int)
     ·
      rw[if_pos c19] at H;have c19b0:decide (x17_1 < (y110.length:Int))=true:=dt' c19;clear c19;obtain ⟨ji20,hji20⟩:∃ j_:Int,(wrap64 ((wrap64 (a1 - 1)) - x17_1))=j_:=⟨_,rfl⟩
      replace H:(if 0≤(ji20) then (if 0≤x17_1 then (if x17_1 < (x114000_1.length:Int) then (spec_seState.l0 k1 a0 a1 (y110.length:Int) (wrap64 (x17_1+1)) (x114000_1.set (x17_1:Int).toNat ((Go.bits .and .i64 (shr .i64 a0 (ji20)) 1) == 1)) ((ji6) == 1)) else (none)) else (none)) else (none))=some (r1,r2):=by first|(rw[hji20] at H;exact H)|(simp only[hji20] at H ⊢;exact H)
      have hji20w:(IntKind.i64.wrap ((wrap64 (a1 - 1)) - x17_1))=ji20:=(i64_w _).trans hji20;by_cases c21:0≤(ji20)
      ·
       rw[if_pos c21] at H;have c21b0:=eq_true c21;have c21b1:decide (0≤(ji20))=true:=dt' c21;clear c21;obtain ⟨ji22,hji22⟩:∃ j_:Int,(shr .i64 a0 (ji20))=j_:=⟨_,rfl⟩
       replace H:(if 0≤x17_1 then (if x17_1 < (x114000_1.length:Int) then (spec_seState.l0 k1 a0 a1 (y110.length:Int) (wrap64 (x17_1+1)) (x114000_1.set (x17_1:Int).toNat ((Go.bits .and .i64 (ji22) 1) == 1)) ((ji6) == 1)) else (none)) else (none))=some (r1,r2):=by first|(rw[hji22] at H;exact H)|(simp only[hji22] at H ⊢;exact H)
       have hji22_:(a0 / 2 ^ min (ji20).toNat 64)=ji22:=hji22;have hji22z:(ji20)≤64→(a0 / 2 ^ (ji20).toNat)=ji22:=shr_small hji22;by_cases c23:0≤x17_1
       ·
        rw[if_pos c23] at H;have c23b0:decide (0≤x17_1)=true:=dt' c23;clear c23;by_cases c24:x17_1 < (x114000_1.length:Int)
        ·
         rw[if_pos c24] at H;have c24b0:decide (x17_1 < (x114000_1.length:Int))=true:=dt' c24;clear c24;obtain ⟨y114,hy114⟩:∃ y_:List Bool,y_=(x114000_1.set (x17_1:Int).toNat ((Go.bits .and .i64 (ji22) 1) == 1)):=⟨_,rfl⟩
         replace H:(spec_seState.l0 k1 a0 a1 (y110.length:Int) (wrap64 (x17_1+1)) y114 ((ji6) == 1))=some (r1,r2):=by first|(rw[hy114];with_reducible exact H)|(have H2_:=(Option.bind_some _ _).symm.trans H;rw[hy114];with_reducible exact H2_)|(have H2_:=(Option.bind_some _ _).symm.trans H;with_reducible exact H2_)|with_reducible exact H|(rw[hy114];exact H)|exact H
         have Ny114:=am' hy114;clear hy114;have H':=am' H;clear H;try go_wp2
         have n0_:=am' (rw' HO_114000.out);have n1_:=am' (kd' BK109.out);have n2_:=am' (kd' BK113.out);have n3_:=am' (be' HB.out);clear HO_114000;clear BK109;clear BK113;clear HB;have HO_114000:=n0_;have BK109:=n1_;have BK113:=n2_;have HB:=n3_;clear n0_ n1_ n2_ n3_;have p25:0≤(x17_1:Int):=od' xa';have q25:(x17_1:Int) < ((x114000_1.length:Int):Int):=od' xa';obtain ⟨go25,co25,eo25,gb25,gl25,cl25,HG25⟩:=Kd.R_form HO_114000.out (by omega)
         (first|cases eo25|(injection eo25 with ea_ en_ ec_;(first|subst ea_|(injection ea_ with ea_;subst ea_));subst ec_;clear en_))
         have GB25:=am' gb25;have GG25:=am' HG25;clear gb25 gl25 HG25;obtain ⟨hx25_0,hf25_0⟩:=Kd.R_celln false HO_114000.out (x17_1:Int) p25 q25;replace p25:=eq_true p25;replace q25:=eq_true q25;have HP27:=Kd.R_putn HO_114000.out (x17_1:Int) ((Go.bits .and .i64 (ji22) 1) == 1);rw[← Ny114.out] at HP27;have HQ27:=am' HP27;clear HP27;refine start_ (n:=13) (S:=fun w'=>w'.cell? ⟨gb113,0,none⟩=some (.slice (some ⟨go25,0,none⟩) x114000_1.length co25)∧w'.cell? ⟨gb113,1,none⟩=some (.bool ((ji6) == 1))) (ds:=[12]) #[false,false,false,false,false,false,false,false,false,false,false,false,false] xk' rfl rfl ⟨(bc' BK113.out 0).trans rfl,(bc' BK113.out 1).trans rfl⟩ (fun hHeld=>?_);refine with_tabW spec_seState.tab5 spec_seState.bits5 (fun HT_ HW_=>?_);generalize wr.drew=w26 at HO_114000 BK109 BK113 HB GG25 HQ27 hf25_0 hx25_0 hHeld ⊢
         refine pure_ (i:=0) (N:=some 20) (v:=?_) (a':=?_) #[true,false,false,false,false,false,false,false,false,false,false,false,false] rfl rfl (any_of HT_.out xk') (fun _ _ _ h=>h) (Or.inl ⟨by rfl,?_⟩) ?_ ?_
         rotate_left
         ·
          intro w';go_simp;with_reducible rfl
         rotate_left
         ·
          simp only[Act.put,sa',sb',sc',i64_w,i32_w];rfl
         refine pure_ (i:=2) (N:=some 22) (v:=?_) (a':=?_) #[true,false,true,false,false,false,false,false,false,false,false,false,false] rfl rfl (any_of HT_.out xk') (fun _ _ _ h=>h) (Or.inl ⟨by rfl,?_⟩) ?_ ?_
         rotate_left
         ·
          intro w';go_simp;with_reducible rfl
         rotate_left
         ·
          simp only[Act.put,sa',sb',sc',i64_w,i32_w];rfl
         refine pure_ (i:=3) (N:=some 23) (v:=?_) (a':=?_) #[true,false,true,true,false,false,false,false,false,false,false,false,false] rfl rfl (any_of HT_.out xk') (fun _ _ _ h=>h) (Or.inl ⟨by rfl,?_⟩) ?_ ?_
         rotate_left
         ·
          intro w';go_simp;with_reducible rfl
         rotate_left
         ·
          simp only[Act.put,sa',sb',sc',i64_w,i32_w];rfl
         refine pure_ (i:=4) (N:=some 24) (v:=?_) (a':=?_) #[true,false,true,true,true,false,false,false,false,false,false,false,false] rfl rfl (any_of HT_.out xk') (fun _ _ _ h=>h) (Or.inl ⟨by rfl,?_⟩) ?_ ?_
         rotate_left
         ·
          intro w';go_simp;with_reducible rfl
         rotate_left
         ·
          simp only[Act.put,sa',sb',sc',i64_w,i32_w];rfl
         refine pure_ (i:=5) (N:=some 25) (v:=?_) (a':=?_) #[true,false,true,true,true,true,false,false,false,false,false,false,false] rfl rfl (any_of HT_.out xk') (fun _ _ _ h=>h) (Or.inl ⟨by rfl,?_⟩) ?_ ?_
         rotate_left
         ·
          intro w';go_simp;with_reducible rfl
         rotate_left
         ·
          simp only[Act.put,sa',sb',sc',i64_w,i32_w];rfl
         refine pure_ (i:=6) (N:=some 26) (v:=?_) (a':=?_) #[true,false,true,true,true,true,true,false,false,false,false,false,false] rfl rfl (any_of HT_.out xk') (fun _ _ _ h=>h) (Or.inl ⟨by rfl,?_⟩) ?_ ?_
         rotate_left
         ·
          intro w';go_simp;with_reducible rfl
         rotate_left
         ·
          simp only[Act.put,sa',sb',sc',i64_w,i32_w];rfl
         refine pure_ (i:=7) (N:=some 27) (v:=?_) (a':=?_) #[true,false,true,true,true,true,true,true,false,false,false,false,false] rfl rfl (any_of HT_.out xk') (fun _ _ _ h=>h) (Or.inl ⟨by rfl,?_⟩) ?_ ?_
         rotate_left
         ·
          intro w';go_simp;with_reducible rfl
         rotate_left
         ·
          simp only[Act.put,sa',sb',sc',i64_w,i32_w];rfl
         refine pure_ (i:=8) (N:=some 28) (v:=?_) (a':=?_) #[true,false,true,true,true,true,true,true,true,false,false,false,false] rfl rfl (any_of HT_.out xk') (fun _ _ _ h=>h) (Or.inl ⟨by rfl,?_⟩) ?_ ?_
         rotate_left
         ·
          intro w';go_simp;with_reducible rfl
         rotate_left
         ·
          simp only[Act.put,sa',sb',sc',i64_w,i32_w];rfl
         refine pure_ (i:=9) (N:=some 29) (v:=?_) (a':=?_) #[true,false,true,true,true,true,true,true,true,true,false,false,false] rfl rfl (any_of HT_.out xk') (fun _ _ _ h=>h) (Or.inl ⟨by rfl,?_⟩) ?_ ?_
         rotate_left
         ·
          intro w';go_simp;with_reducible rfl
         rotate_left
         ·
          simp only[Act.put,sa',sb',sc',i64_w,i32_w];rfl
         refine pure_ (i:=10) (N:=some 30) (v:=?_) (a':=?_) #[true,false,true,true,true,true,true,true,true,true,true,false,false] rfl rfl (any_of HT_.out xk') (fun _ _ _ h=>h) (Or.inl ⟨by rfl,?_⟩) ?_ ?_
         rotate_left
         ·
          intro w';go_simp;with_reducible rfl
         rotate_left
         ·
          simp only[Act.put,sa',sb',sc',i64_w,i32_w];rfl
         refine take_ (i:=1) (N:=some 21) (v:=?_) (a':=?_) #[true,true,true,true,true,true,true,true,true,true,true,false,false] rfl rfl (take_ofW HT_.out HW_.out xk') (fun _ _ _ h=>h) (Or.inl ⟨by rfl,?_⟩) hHeld ?_ ?_
         rotate_left
         ·
          rintro w' ⟨s0,s1⟩
          go_simp;with_reducible rfl
         rotate_left
         ·
          simp only[Act.put,sa',sb',sc',i64_w,i32_w];rfl
         refine pure_ (i:=11) (N:=some 31) (v:=?_) (a':=?_) #[true,true,true,true,true,true,true,true,true,true,true,true,false] rfl rfl (any_of HT_.out xk') (fun _ _ _ h=>h) (Or.inl ⟨by rfl,?_⟩) ?_ ?_
         rotate_left
         ·
          intro w';go_simp;with_reducible rfl
         rotate_left
         ·
          simp only[Act.put,sa',sb',sc',i64_w,i32_w];rfl
         refine last_ (i:=12) (N:=none) #[true,true,true,true,true,true,true,true,true,true,true,true,true] rfl rfl (one_of HT_.out xk') (by decide) (fun K hK=>?_);refine skip_ (w1:=?_) (by rfl) rfl ?_ ?_
         rotate_left
         ·
          go_simp;rfl
         refine hK.out _ _ ?_
         clear hK K;refine done_ (done_of HT_.out xk') ?_
         try go_wp2
         go_roundg k1
         case measure=>have:=HK1.out;omega
         case rel=>exact ⟨(wrap64 (x17_1+1)),(y114),(.slice (some ⟨go25,0,none⟩) x114000_1.length co25),xs',H',⟨by have:=HK1.out;omega⟩,⟨kr' HQ27.out⟩,⟨by (with_reducible repeat (first|refine kn' ?_ _|refine kd' ?_|refine ka' ?_ _));refine blk_far ?_ (by have h_:=Kd.R_ne HO_114000.out BK109.out (by decide);intro e_;exact h_ (by rw[e_];rfl)) _;(with_reducible repeat (first|refine kn' ?_ _|refine kd' ?_|refine ka' ?_ _));exact BK109.out⟩,⟨by (with_reducible repeat (first|refine kn' ?_ _|refine kd' ?_|refine ka' ?_ _));refine blk_far ?_ (by have h_:=Kd.R_ne HO_114000.out BK113.out (by decide);intro e_;exact h_ (by rw[e_];rfl)) _;(with_reducible repeat (first|refine kn' ?_ _|refine kd' ?_|refine ka' ?_ _));exact BK113.out⟩,⟨y3' GB25.out GE109.out GE113.out⟩⟩
        ·
         rw[if_neg c24] at H;exact absurd H (by simp)
       ·
        rw[if_neg c23] at H;exact absurd H (by simp)
      ·
       rw[if_neg c21] at H;exact absurd H (by simp)
     ·
      rw[if_neg c19] at H;have c19b0:decide (x17_1 < (y110.length:Int))=false:=df' c19;clear c19;simp only[Option.some.injEq,Prod.mk.injEq] at H;obtain ⟨rfl,rfl⟩:=H;have hnb28:=NB113_109.out;have hnc28:=NB109_113.out;have hcz29_0:wr.cell? ⟨gb113,0,none⟩=some (u114000):=(bc' BK113.out 0).trans rfl;have hcz29_1:wr.cell? ⟨gb113,1,none⟩=some (.bool ((ji6) == 1)):=(bc' BK113.out 1).trans rfl;have hfz29_0:=bf' BK113.out 0;have hfz29_1:=bf' BK113.out 1;obtain ⟨Ao30,co30,eo30⟩:=Kd.R_slice HO_114000.out;subst eo30;have hcz31_0:wr.cell? ⟨gb109,0,none⟩=some (.slice none 0 0):=(bc' BK109.out 0).trans rfl;have hcz31_1:wr.cell? ⟨gb109,1,none⟩=some (.bool false):=(bc' BK109.out 1).trans rfl;have hfz31_0:=bf' BK109.out 0;have hfz31_1:=bf' BK109.out 1;go_wp2;refine bodyPost_ret (results_cell_row rfl _ _ gb109 54 #[.slice Ao30 x114000_1.length co30, .bool ((ji6) == 1)] (0,0) _ rfl (by (with_reducible repeat (first|refine kn' ?_ _|refine kd' ?_|refine ka' ?_ _));refine blk_put (cs:=#[.slice Ao30 x114000_1.length co30, .bool false]) ?_ 1 _ rfl;(with_reducible repeat (first|refine kn' ?_ _|refine kd' ?_|refine ka' ?_ _));refine blk_put (cs:=#[.slice none 0 0, .bool false]) ?_ 0 _ rfl;(with_reducible repeat (first|refine kn' ?_ _|refine kd' ?_|refine ka' ?_ _));exact BK109.out) Try.underlying54 rfl xk') rfl ?_
      exact ⟨_,by first|rfl|(simp[errW_none,errW_some] <;> rfl)|(simp only[← hji6];first|rfl|(simp[errW_none,errW_some] <;> rfl))|(simp[*,errW_none,errW_some] <;> rfl),by (with_reducible repeat (first|apply ra'|apply rn'|apply rw'));exact Kd.R_mono (Kd.R_far (p:=⟨gb109,1,none⟩) (Kd.R_far (p:=⟨gb109,0,none⟩) (Kd.R_types HO_114000.out BK109.out (by decide)) (fun _ hk=>hk.2) (.slice Ao30 x114000_1.length co30)) (fun _ hk=>hk.2) (.bool ((ji6) == 1))) (fun _ hk=>trivial),y2' GE109.out GE113.out⟩
  ·
   rw[if_neg c4] at H;exact absurd H (by simp)
 ·
  rw[if_neg c3] at H;exact absurd H (by simp)
end Go.Proofs.Ytihieplobgehaaa.C2
