import Derived.Test.YtdomojenlofieaaC2zx0
import Derived.Test.YtdomojenlofieaaC2zAl
namespace Go.Proofs.Ytdomojenlofieaa.C2
open Go.RowKit Go.Proofs.YtdomojenlofieaaW.PrintWords Go.Proofs.YtdomojenlofieaaW.PrintLast Go.Proofs.YtdomojenlofieaaW.PrintMore Go.Proofs.Ytdomojenlofieaa.H
attribute [local go_sem] max2_int min2_int max_two min_two max_three min_three max_four min_four
set_option linter.unusedVariables false
set_option linter.unusedSimpArgs false
def laws_szIntS.f (l0:List Int) (a1:Int):Option (Int):=if (wrap64 (a1 - (l0.length:Int))) < 0 then (some (-1)) else (some (wrap64 (a1 - (l0.length:Int))))
set_option maxHeartbeats 8000000 in
set_option maxRecDepth 100000 in
theorem laws_szIntS.calls (A0:Option Addr) (c0:Nat) (l0:List Int) (a1:Int) (r:Int) (w:World) (hr0:Kd.C (Kd.int .i64) w A0 l0.length l0) (hc0:l0.length≤c0) (h:laws_szIntS.f l0 a1=some r) :
  Calls Try.prog 31 #[.slice A0 l0.length c0, .int .i64 a1] w fun e w'=>e = .returned (.int .i64 r)∧Drawn0 w w':=by
 have HR0:=am' hr0
 have HC0:=am' hc0
 clear hr0 hc0;have H:(if (wrap64 (a1 - (l0.length:Int))) < 0 then (some (-1)) else (some (wrap64 (a1 - (l0.length:Int)))))=some r:=h
 clear h;by_cases c3:(wrap64 (a1 - (l0.length:Int))) < 0
 ·
  rw[if_pos c3] at H;have c3b0:decide ((wrap64 (a1 - (l0.length:Int))) < 0)=true:=dt' c3;clear c3;obtain rfl:=os' H;go_enter Try.func31,Try.ntmps31;go_wp2;go_ret
  exact ⟨xs',by repeat (first|exact Drawn0.refl _|apply Drawn0.step)⟩
 ·
  rw[if_neg c3] at H;have c3b0:decide ((wrap64 (a1 - (l0.length:Int))) < 0)=false:=df' c3;clear c3;obtain rfl:=os' H;go_enter Try.func31,Try.ntmps31;go_wp2;go_ret
  exact ⟨xs',by repeat (first|exact Drawn0.refl _|apply Drawn0.step)⟩
def laws_szNight.f (l0_0:List Int) (a0_1:Int) (a0_2:Int) (a1:Int):Option (Int):=(laws_szIntS.f l0_0 a1).bind fun t102=>(if t102 < 0 then (some (-1)) else (some t102))
set_option maxHeartbeats 8000000 in
set_option maxRecDepth 100000 in
theorem laws_szNight.calls (A0_0:Option Addr) (c0_0:Nat) (l0_0:List Int) (a0_1:Int) (a0_2:Int) (a1:Int) (r:Int) (w:World) (hr0_0:Kd.C (Kd.int .i64) w A0_0 l0_0.length l0_0) (hc0_0:l0_0.length≤c0_0) (h:laws_szNight.f l0_0 a0_1 a0_2 a1=some r) :
  Calls Try.prog 5 #[.agg #[.slice A0_0 l0_0.length c0_0, .int .i64 a0_1, .int .i64 a0_2], .int .i64 a1] w fun e w'=>e = .returned (.int .i64 r)∧Below w.heap.size w w':=by
 have hu24:=Try.underlying24
 have HR0_0:=am' hr0_0
 have HC0_0:=am' hc0_0
 clear hr0_0 hc0_0;have HB:=am' (Below.refl w.heap.size w)
 have H:((laws_szIntS.f l0_0 a1).bind fun t102=>(if t102 < 0 then (some (-1)) else (some t102)))=some r:=h
 clear h;replace H:=Option.bind_eq_some_iff.mp H
 obtain ⟨t102,A30,H⟩:=H
 replace H:(if t102 < 0 then (some (-1)) else (some t102))=some r:=H
 have A3:=am' A30
 clear A30;by_cases c4:t102 < 0
 ·
  rw[if_pos c4] at H;have c4b0:decide (t102 < 0)=true:=dt' c4;clear c4;obtain rfl:=os' H;go_enter Try.func5,Try.ntmps5;go_wp2_with (first|((with_reducible refine gate_dst (N:=2) rfl ?_);refine box_event ?hg (N:=2) ?hd (cs:=#[.slice A0_0 l0_0.length c0_0, .int .i64 a0_1, .int .i64 a0_2]) (t:=24) ?hr ?_;(case hd=>rfl);(case hg=>rfl);(case hr=>first|(go_simp;done)|(go_simp;rfl));intro gb101 hg w5 hbox hb;have n0_:=am' (bt' xb' hb);have n1_:=am' (hbox);have n2_:=am' ((by rw[hg];exact (bz' xb'):w.heap.size≤gb101));have n3_:=am' ((by rw[hg];exact (bz' xb'):w.heap.size≤gb101));clear HB;have HB:=n0_;have BK101:=n1_;have GW101:=n2_;have GE101:=n3_;clear n0_ n1_ n2_ n3_;clear hb hbox hg;have hcz6_0:w5.cell? ⟨gb101,0,none⟩=some (.slice A0_0 l0_0.length c0_0):=(bc' BK101.out 0).trans rfl;have hcz6_1:w5.cell? ⟨gb101,1,none⟩=some (.int .i64 a0_1):=(bc' BK101.out 1).trans rfl;have hcz6_2:w5.cell? ⟨gb101,2,none⟩=some (.int .i64 a0_2):=(bc' BK101.out 2).trans rfl;have hfz6_0:=bf' BK101.out 0;have hfz6_1:=bf' BK101.out 1;have hfz6_2:=bf' BK101.out 2)|((with_reducible refine gate_callee (f:=31) rfl ?_);refine goesL_ (some 8) rfl rfl Try.func31 xk' rfl #[.slice A0_0 l0_0.length c0_0, .int .i64 a1] rfl xl' ?_;(with_reducible refine (laws_szIntS.calls _ _ l0_0 a1 t102 _ ?side1 ?side2 A3.out).mono ?_);(case side1=>exact kc' (cb' HR0_0.out HB.out));(case side2=>exact HC0_0.out);rintro e w' ⟨rfl,⟨nd,rfl⟩⟩;refine ⟨_,rfl,?_⟩));go_ret
  exact ⟨by first|rfl|(simp[errW_none,errW_some] <;> rfl)|(simp[*,errW_none,errW_some] <;> rfl),yb' GE101.out⟩
 ·
  rw[if_neg c4] at H;have c4b0:decide (t102 < 0)=false:=df' c4;clear c4;obtain rfl:=os' H;go_enter Try.func5,Try.ntmps5;go_wp2_with (first|((with_reducible refine gate_dst (N:=2) rfl ?_);refine box_event ?hg (N:=2) ?hd (cs:=#[.slice A0_0 l0_0.length c0_0, .int .i64 a0_1, .int .i64 a0_2]) (t:=24) ?hr ?_;(case hd=>rfl);(case hg=>rfl);(case hr=>first|(go_simp;done)|(go_simp;rfl));intro gb101 hg w7 hbox hb;have n0_:=am' (bt' xb' hb);have n1_:=am' (hbox);have n2_:=am' ((by rw[hg];exact (bz' xb'):w.heap.size≤gb101));have n3_:=am' ((by rw[hg];exact (bz' xb'):w.heap.size≤gb101));clear HB;have HB:=n0_;have BK101:=n1_;have GW101:=n2_;have GE101:=n3_;clear n0_ n1_ n2_ n3_;clear hb hbox hg;have hcz8_0:w7.cell? ⟨gb101,0,none⟩=some (.slice A0_0 l0_0.length c0_0):=(bc' BK101.out 0).trans rfl;have hcz8_1:w7.cell? ⟨gb101,1,none⟩=some (.int .i64 a0_1):=(bc' BK101.out 1).trans rfl;have hcz8_2:w7.cell? ⟨gb101,2,none⟩=some (.int .i64 a0_2):=(bc' BK101.out 2).trans rfl;have hfz8_0:=bf' BK101.out 0;have hfz8_1:=bf' BK101.out 1;have hfz8_2:=bf' BK101.out 2)|((with_reducible refine gate_callee (f:=31) rfl ?_);refine goesL_ (some 8) rfl rfl Try.func31 xk' rfl #[.slice A0_0 l0_0.length c0_0, .int .i64 a1] rfl xl' ?_;(with_reducible refine (laws_szIntS.calls _ _ l0_0 a1 t102 _ ?side1 ?side2 A3.out).mono ?_);(case side1=>exact kc' (cb' HR0_0.out HB.out));(case side2=>exact HC0_0.out);rintro e w' ⟨rfl,⟨nd,rfl⟩⟩;refine ⟨_,rfl,?_⟩));go_ret
  exact ⟨by first|rfl|(simp[errW_none,errW_some] <;> rfl)|(simp[*,errW_none,errW_some] <;> rfl),yb' GE101.out⟩
def laws_szBoolS.f (l0:List Bool) (a1:Int):Option (Int):=if (wrap64 (a1 - (l0.length:Int))) < 0 then (some (-1)) else (some (wrap64 (a1 - (l0.length:Int))))
set_option maxHeartbeats 8000000 in
set_option maxRecDepth 100000 in
theorem laws_szBoolS.calls (A0:Option Addr) (c0:Nat) (l0:List Bool) (a1:Int) (r:Int) (w:World) (hr0:Kd.C Kd.bool w A0 l0.length l0) (hc0:l0.length≤c0) (h:laws_szBoolS.f l0 a1=some r) :
  Calls Try.prog 32 #[.slice A0 l0.length c0, .int .i64 a1] w fun e w'=>e = .returned (.int .i64 r)∧Drawn0 w w':=by
 have HR0:=am' hr0
 have HC0:=am' hc0
 clear hr0 hc0;have H:(if (wrap64 (a1 - (l0.length:Int))) < 0 then (some (-1)) else (some (wrap64 (a1 - (l0.length:Int)))))=some r:=h
 clear h;by_cases c3:(wrap64 (a1 - (l0.length:Int))) < 0
 ·
  rw[if_pos c3] at H;have c3b0:decide ((wrap64 (a1 - (l0.length:Int))) < 0)=true:=dt' c3;clear c3;obtain rfl:=os' H;go_enter Try.func32,Try.ntmps32;go_wp2;go_ret
  exact ⟨xs',by repeat (first|exact Drawn0.refl _|apply Drawn0.step)⟩
 ·
  rw[if_neg c3] at H;have c3b0:decide ((wrap64 (a1 - (l0.length:Int))) < 0)=false:=df' c3;clear c3;obtain rfl:=os' H;go_enter Try.func32,Try.ntmps32;go_wp2;go_ret
  exact ⟨xs',by repeat (first|exact Drawn0.refl _|apply Drawn0.step)⟩
def laws_szCamp.f (l0_0:List Bool) (a0_1:Int) (a1:Int):Option (Int):=(laws_szBoolS.f l0_0 a1).bind fun t104=>(if t104 < 0 then (some (-1)) else (some t104))
set_option maxHeartbeats 8000000 in
set_option maxRecDepth 100000 in
theorem laws_szCamp.calls (A0_0:Option Addr) (c0_0:Nat) (l0_0:List Bool) (a0_1:Int) (a1:Int) (r:Int) (w:World) (hr0_0:Kd.C Kd.bool w A0_0 l0_0.length l0_0) (hc0_0:l0_0.length≤c0_0) (h:laws_szCamp.f l0_0 a0_1 a1=some r) :
  Calls Try.prog 6 #[.agg #[.slice A0_0 l0_0.length c0_0, .int .i64 a0_1], .int .i64 a1] w fun e w'=>e = .returned (.int .i64 r)∧Below w.heap.size w w':=by
 have hu27:=Try.underlying27
 have HR0_0:=am' hr0_0
 have HC0_0:=am' hc0_0
 clear hr0_0 hc0_0;have HB:=am' (Below.refl w.heap.size w)
 have H:((laws_szBoolS.f l0_0 a1).bind fun t104=>(if t104 < 0 then (some (-1)) else (some t104)))=some r:=h
 clear h;replace H:=Option.bind_eq_some_iff.mp H
 obtain ⟨t104,A30,H⟩:=H
 replace H:(if t104 < 0 then (some (-1)) else (some t104))=some r:=H
 have A3:=am' A30
 clear A30;by_cases c4:t104 < 0
 ·
  rw[if_pos c4] at H;have c4b0:decide (t104 < 0)=true:=dt' c4;clear c4;obtain rfl:=os' H;go_enter Try.func6,Try.ntmps6;go_wp2_with (first|((with_reducible refine gate_dst (N:=2) rfl ?_);refine box_event ?hg (N:=2) ?hd (cs:=#[.slice A0_0 l0_0.length c0_0, .int .i64 a0_1]) (t:=27) ?hr ?_;(case hd=>rfl);(case hg=>rfl);(case hr=>first|(go_simp;done)|(go_simp;rfl));intro gb103 hg w5 hbox hb;have n0_:=am' (bt' xb' hb);have n1_:=am' (hbox);have n2_:=am' ((by rw[hg];exact (bz' xb'):w.heap.size≤gb103));have n3_:=am' ((by rw[hg];exact (bz' xb'):w.heap.size≤gb103));clear HB;have HB:=n0_;have BK103:=n1_;have GW103:=n2_;have GE103:=n3_;clear n0_ n1_ n2_ n3_;clear hb hbox hg;have hcz6_0:w5.cell? ⟨gb103,0,none⟩=some (.slice A0_0 l0_0.length c0_0):=(bc' BK103.out 0).trans rfl;have hcz6_1:w5.cell? ⟨gb103,1,none⟩=some (.int .i64 a0_1):=(bc' BK103.out 1).trans rfl;have hfz6_0:=bf' BK103.out 0;have hfz6_1:=bf' BK103.out 1)|((with_reducible refine gate_callee (f:=32) rfl ?_);refine goesL_ (some 8) rfl rfl Try.func32 xk' rfl #[.slice A0_0 l0_0.length c0_0, .int .i64 a1] rfl xl' ?_;(with_reducible refine (laws_szBoolS.calls _ _ l0_0 a1 t104 _ ?side1 ?side2 A3.out).mono ?_);(case side1=>exact kc' (cb' HR0_0.out HB.out));(case side2=>exact HC0_0.out);rintro e w' ⟨rfl,⟨nd,rfl⟩⟩;refine ⟨_,rfl,?_⟩));go_ret
  exact ⟨by first|rfl|(simp[errW_none,errW_some] <;> rfl)|(simp[*,errW_none,errW_some] <;> rfl),yb' GE103.out⟩
 ·
  rw[if_neg c4] at H;have c4b0:decide (t104 < 0)=false:=df' c4;clear c4;obtain rfl:=os' H;go_enter Try.func6,Try.ntmps6;go_wp2_with (first|((with_reducible refine gate_dst (N:=2) rfl ?_);refine box_event ?hg (N:=2) ?hd (cs:=#[.slice A0_0 l0_0.length c0_0, .int .i64 a0_1]) (t:=27) ?hr ?_;(case hd=>rfl);(case hg=>rfl);(case hr=>first|(go_simp;done)|(go_simp;rfl));intro gb103 hg w7 hbox hb;have n0_:=am' (bt' xb' hb);have n1_:=am' (hbox);have n2_:=am' ((by rw[hg];exact (bz' xb'):w.heap.size≤gb103));have n3_:=am' ((by rw[hg];exact (bz' xb'):w.heap.size≤gb103));clear HB;have HB:=n0_;have BK103:=n1_;have GW103:=n2_;have GE103:=n3_;clear n0_ n1_ n2_ n3_;clear hb hbox hg;have hcz8_0:w7.cell? ⟨gb103,0,none⟩=some (.slice A0_0 l0_0.length c0_0):=(bc' BK103.out 0).trans rfl;have hcz8_1:w7.cell? ⟨gb103,1,none⟩=some (.int .i64 a0_1):=(bc' BK103.out 1).trans rfl;have hfz8_0:=bf' BK103.out 0;have hfz8_1:=bf' BK103.out 1)|((with_reducible refine gate_callee (f:=32) rfl ?_);refine goesL_ (some 8) rfl rfl Try.func32 xk' rfl #[.slice A0_0 l0_0.length c0_0, .int .i64 a1] rfl xl' ?_;(with_reducible refine (laws_szBoolS.calls _ _ l0_0 a1 t104 _ ?side1 ?side2 A3.out).mono ?_);(case side1=>exact kc' (cb' HR0_0.out HB.out));(case side2=>exact HC0_0.out);rintro e w' ⟨rfl,⟨nd,rfl⟩⟩;refine ⟨_,rfl,?_⟩));go_ret
  exact ⟨by first|rfl|(simp[errW_none,errW_some] <;> rfl)|(simp[*,errW_none,errW_some] <;> rfl),yb' GE103.out⟩
def laws_szIntSS.l0:Nat→List (List Int)→Int→Int→Option (Int)
 | 0,_,_,_=>none
 | k+1,x0,x1,x5=>if x5 < (x0.length:Int) then (if 0≤x5 then ((laws_szIntS.f (rd_L2 x0 x5) x1).bind fun t106=>(if t106 < 0 then (some (-1)) else (laws_szIntSS.l0 k x0 t106 (wrap64 (x5+1))))) else (none)) else (some x1)
def laws_szIntSS.f (k:Nat) (l0:List (List Int)) (a1:Int):Option (Int):=if (wrap64 (a1 - (l0.length:Int))) < 0 then (some (-1)) else (laws_szIntSS.l0 k l0 (wrap64 (a1 - (l0.length:Int))) 0)
set_option maxHeartbeats 8000000 in
set_option maxRecDepth 100000 in
theorem laws_szIntSS.calls (k:Nat) (A0:Option Addr) (c0:Nat) (l0:List (List Int)) (a1:Int) (r:Int) (w:World) (hr0:Kd.C (Kd.slice 3 (Kd.int .i64)) w A0 l0.length l0) (hc0:l0.length≤c0) (h:laws_szIntSS.f k l0 a1=some r) :
  Calls Try.prog 21 #[.slice A0 l0.length c0, .int .i64 a1] w fun e w'=>e = .returned (.int .i64 r)∧Drawn0 w w':=by
 have HR0:=am' hr0
 have HC0:=am' hc0
 clear hr0 hc0;have H:(if (wrap64 (a1 - (l0.length:Int))) < 0 then (some (-1)) else (laws_szIntSS.l0 k l0 (wrap64 (a1 - (l0.length:Int))) 0))=some r:=h
 clear h;by_cases c3:(wrap64 (a1 - (l0.length:Int))) < 0
 ·
  rw[if_pos c3] at H;have c3b0:decide ((wrap64 (a1 - (l0.length:Int))) < 0)=true:=dt' c3;clear c3;obtain rfl:=os' H;go_enter Try.func21,Try.ntmps21;go_wp2;go_ret
  exact ⟨xs',by repeat (first|exact Drawn0.refl _|apply Drawn0.step)⟩
 ·
  rw[if_neg c3] at H;have c3b0:decide ((wrap64 (a1 - (l0.length:Int))) < 0)=false:=df' c3;clear c3;have H':=am' H;clear H;go_enter Try.func21,Try.ntmps21;go_wp2;go_loopg [1,5] k (fun kq v1 v5 w'=>∃ (x1_1:Int) (x5_1:Int),v1 = .int .i64 x1_1∧v5 = .int .i64 x5_1∧Aside0 (laws_szIntSS.l0 kq l0 x1_1 x5_1=some r)∧Aside0 (kq≤k)∧Drawn0 w w')
  case atStart=>exact ⟨(wrap64 (a1 - (l0.length:Int))),(0),xs',xs',H',⟨Nat.le_refl _⟩,by repeat (first|exact Drawn0.refl _|apply Drawn0.step)⟩
  case round =>
   clear H';try clear c2
   try clear p2
   try clear c3
   try clear c3b0
   obtain ⟨x1_1,x5_1,rfl,rfl,HA,HK1,⟨m1,rfl⟩⟩:=hrel;cases gk with
   | zero=>exact absurd HA.out (by simp[laws_szIntSS.l0])
   | succ k1 =>
    have H:=HA.out;clear HA;simp only[laws_szIntSS.l0] at H;by_cases c4:x5_1 < (l0.length:Int)
    ·
     rw[if_pos c4] at H;have c4b0:decide (x5_1 < (l0.length:Int))=true:=dt' c4;clear c4;by_cases c5:0≤x5_1
     ·
      rw[if_pos c5] at H;have c5b0:decide (0≤x5_1)=true:=dt' c5;clear c5;replace H:=Option.bind_eq_some_iff.mp H;obtain ⟨t106,A60,H⟩:=H;replace H:(if t106 < 0 then (some (-1)) else (laws_szIntSS.l0 k1 l0 t106 (wrap64 (x5_1+1))))=some r:=H;have A6:=am' A60;clear A60;by_cases c7:t106 < 0
      ·
       rw[if_pos c7] at H;have c7b0:decide (t106 < 0)=true:=dt' c7;clear c7;obtain rfl:=os' H;have p105:0≤(x5_1:Int):=od' xa';have q105:x5_1 < (l0.length:Int):=od' xa';obtain ⟨ad105,A105_0,c105_0,e105,hx105_0,hl105_0,hi105_0⟩:=at_L2 HR0.out x5_1 p105 q105;cases e105;have HR105_0:=am' hi105_0;have HC105_0:=am' hl105_0;clear hi105_0 hl105_0;replace p105:=eq_true p105;replace q105:=eq_true q105;go_wp2_with (first|((with_reducible refine gate_callee (f:=31) rfl ?_);refine goesL_ (some 23) rfl rfl Try.func31 xk' rfl #[.slice A105_0 (rd_L2 l0 x5_1).length c105_0, .int .i64 x1_1] rfl xl' ?_;(with_reducible refine (laws_szIntS.calls _ _ (rd_L2 l0 x5_1) x1_1 t106 _ ?side1 ?side2 A6.out).mono ?_);(case side1=>repeat (first|exact HR105_0.out|(with_reducible refine ca' ?_ _)|(with_reducible refine cn' ?_ _)|(with_reducible refine cd' ?_)));(case side2=>exact HC105_0.out);rintro e w' ⟨rfl,⟨nd,rfl⟩⟩;refine ⟨_,rfl,?_⟩));go_ret
       exact ⟨xs',by repeat (first|exact Drawn0.refl _|apply Drawn0.step)⟩
      ·
       rw[if_neg c7] at H;have c7b0:decide (t106 < 0)=false:=df' c7;clear c7;have H':=am' H;clear H;have p105:0≤(x5_1:Int):=od' xa';have q105:x5_1 < (l0.length:Int):=od' xa';obtain ⟨ad105,A105_0,c105_0,e105,hx105_0,hl105_0,hi105_0⟩:=at_L2 HR0.out x5_1 p105 q105;cases e105;have HR105_0:=am' hi105_0;have HC105_0:=am' hl105_0;clear hi105_0 hl105_0;replace p105:=eq_true p105;replace q105:=eq_true q105;go_wp2_with (first|((with_reducible refine gate_callee (f:=31) rfl ?_);refine goesL_ (some 23) rfl rfl Try.func31 xk' rfl #[.slice A105_0 (rd_L2 l0 x5_1).length c105_0, .int .i64 x1_1] rfl xl' ?_;(with_reducible refine (laws_szIntS.calls _ _ (rd_L2 l0 x5_1) x1_1 t106 _ ?side1 ?side2 A6.out).mono ?_);(case side1=>repeat (first|exact HR105_0.out|(with_reducible refine ca' ?_ _)|(with_reducible refine cn' ?_ _)|(with_reducible refine cd' ?_)));(case side2=>exact HC105_0.out);rintro e w' ⟨rfl,⟨nd,rfl⟩⟩;refine ⟨_,rfl,?_⟩));go_roundg k1
       case measure=>have:=HK1.out;omega
       case rel=>exact ⟨(t106),(wrap64 (x5_1+1)),xs',xs',H',⟨by have:=HK1.out;omega⟩,by repeat (first|exact Drawn0.refl _|apply Drawn0.step)⟩
     ·
      rw[if_neg c5] at H;exact absurd H (by simp)
    ·
     rw[if_neg c4] at H;have c4b0:decide (x5_1 < (l0.length:Int))=false:=df' c4;clear c4;obtain rfl:=os' H;go_wp2;go_ret
     exact ⟨xs',by repeat (first|exact Drawn0.refl _|apply Drawn0.step)⟩
def laws_szIntSSS.l0:Nat→List (List (List Int))→Int→Int→Option (Int)
 | 0,_,_,_=>none
 | k+1,x0,x1,x5=>if x5 < (x0.length:Int) then (if 0≤x5 then ((laws_szIntSS.f k (rd_L3 x0 x5) x1).bind fun t108=>(if t108 < 0 then (some (-1)) else (laws_szIntSSS.l0 k x0 t108 (wrap64 (x5+1))))) else (none)) else (some x1)
def laws_szIntSSS.f (k:Nat) (l0:List (List (List Int))) (a1:Int):Option (Int):=if (wrap64 (a1 - (l0.length:Int))) < 0 then (some (-1)) else (laws_szIntSSS.l0 k l0 (wrap64 (a1 - (l0.length:Int))) 0)
set_option maxHeartbeats 8000000 in
set_option maxRecDepth 100000 in
theorem laws_szIntSSS.calls (k:Nat) (A0:Option Addr) (c0:Nat) (l0:List (List (List Int))) (a1:Int) (r:Int) (w:World) (hr0:Kd.C (Kd.slice 22 (Kd.slice 3 (Kd.int .i64))) w A0 l0.length l0) (hc0:l0.length≤c0) (h:laws_szIntSSS.f k l0 a1=some r) :
  Calls Try.prog 7 #[.slice A0 l0.length c0, .int .i64 a1] w fun e w'=>e = .returned (.int .i64 r)∧Drawn0 w w':=by
 have HR0:=am' hr0
 have HC0:=am' hc0
 clear hr0 hc0;have H:(if (wrap64 (a1 - (l0.length:Int))) < 0 then (some (-1)) else (laws_szIntSSS.l0 k l0 (wrap64 (a1 - (l0.length:Int))) 0))=some r:=h
 clear h;by_cases c3:(wrap64 (a1 - (l0.length:Int))) < 0
 ·
  rw[if_pos c3] at H;have c3b0:decide ((wrap64 (a1 - (l0.length:Int))) < 0)=true:=dt' c3;clear c3;obtain rfl:=os' H;go_enter Try.func7,Try.ntmps7;go_wp2;go_ret
  exact ⟨xs',by repeat (first|exact Drawn0.refl _|apply Drawn0.step)⟩
 ·
  rw[if_neg c3] at H;have c3b0:decide ((wrap64 (a1 - (l0.length:Int))) < 0)=false:=df' c3;clear c3;have H':=am' H;clear H;go_enter Try.func7,Try.ntmps7;go_wp2;go_loopg [1,5] k (fun kq v1 v5 w'=>∃ (x1_1:Int) (x5_1:Int),v1 = .int .i64 x1_1∧v5 = .int .i64 x5_1∧Aside0 (laws_szIntSSS.l0 kq l0 x1_1 x5_1=some r)∧Aside0 (kq≤k)∧Drawn0 w w')
  case atStart=>exact ⟨(wrap64 (a1 - (l0.length:Int))),(0),xs',xs',H',⟨Nat.le_refl _⟩,by repeat (first|exact Drawn0.refl _|apply Drawn0.step)⟩
  case round =>
   clear H';try clear p2
   try clear c3
   try clear c3b0
   obtain ⟨x1_1,x5_1,rfl,rfl,HA,HK1,⟨m1,rfl⟩⟩:=hrel;cases gk with
   | zero=>exact absurd HA.out (by simp[laws_szIntSSS.l0])
   | succ k1 =>
    have H:=HA.out;clear HA;simp only[laws_szIntSSS.l0] at H;by_cases c4:x5_1 < (l0.length:Int)
    ·
     rw[if_pos c4] at H;have c4b0:decide (x5_1 < (l0.length:Int))=true:=dt' c4;clear c4;by_cases c5:0≤x5_1
     ·
      rw[if_pos c5] at H;have c5b0:decide (0≤x5_1)=true:=dt' c5;clear c5;replace H:=Option.bind_eq_some_iff.mp H;obtain ⟨t108,A60,H⟩:=H;replace H:(if t108 < 0 then (some (-1)) else (laws_szIntSSS.l0 k1 l0 t108 (wrap64 (x5_1+1))))=some r:=H;have A6:=am' A60;clear A60;by_cases c7:t108 < 0
      ·
       rw[if_pos c7] at H;have c7b0:decide (t108 < 0)=true:=dt' c7;clear c7;obtain rfl:=os' H;have p107:0≤(x5_1:Int):=od' xa';have q107:x5_1 < (l0.length:Int):=od' xa';obtain ⟨ad107,A107_0,c107_0,e107,hx107_0,hl107_0,hi107_0⟩:=at_L3 HR0.out x5_1 p107 q107;cases e107;have HR107_0:=am' hi107_0;have HC107_0:=am' hl107_0;clear hi107_0 hl107_0;replace p107:=eq_true p107;replace q107:=eq_true q107;go_wp2_with (first|((with_reducible refine gate_callee (f:=21) rfl ?_);refine goesL_ (some 23) rfl rfl Try.func21 xk' rfl #[.slice A107_0 (rd_L3 l0 x5_1).length c107_0, .int .i64 x1_1] rfl xl' ?_;(with_reducible refine (laws_szIntSS.calls k1 _ _ (rd_L3 l0 x5_1) x1_1 t108 _ ?side1 ?side2 A6.out).mono ?_);(case side1=>repeat (first|exact HR107_0.out|(with_reducible refine ca' ?_ _)|(with_reducible refine cn' ?_ _)|(with_reducible refine cd' ?_)));(case side2=>exact HC107_0.out);rintro e w' ⟨rfl,⟨nd,rfl⟩⟩;refine ⟨_,rfl,?_⟩));go_ret
       exact ⟨xs',by repeat (first|exact Drawn0.refl _|apply Drawn0.step)⟩
      ·
       rw[if_neg c7] at H;have c7b0:decide (t108 < 0)=false:=df' c7;clear c7;have H':=am' H;clear H;have p107:0≤(x5_1:Int):=od' xa';have q107:x5_1 < (l0.length:Int):=od' xa';obtain ⟨ad107,A107_0,c107_0,e107,hx107_0,hl107_0,hi107_0⟩:=at_L3 HR0.out x5_1 p107 q107;cases e107;have HR107_0:=am' hi107_0;have HC107_0:=am' hl107_0;clear hi107_0 hl107_0;replace p107:=eq_true p107;replace q107:=eq_true q107;go_wp2_with (first|((with_reducible refine gate_callee (f:=21) rfl ?_);refine goesL_ (some 23) rfl rfl Try.func21 xk' rfl #[.slice A107_0 (rd_L3 l0 x5_1).length c107_0, .int .i64 x1_1] rfl xl' ?_;(with_reducible refine (laws_szIntSS.calls k1 _ _ (rd_L3 l0 x5_1) x1_1 t108 _ ?side1 ?side2 A6.out).mono ?_);(case side1=>repeat (first|exact HR107_0.out|(with_reducible refine ca' ?_ _)|(with_reducible refine cn' ?_ _)|(with_reducible refine cd' ?_)));(case side2=>exact HC107_0.out);rintro e w' ⟨rfl,⟨nd,rfl⟩⟩;refine ⟨_,rfl,?_⟩));go_roundg k1
       case measure=>have:=HK1.out;omega
       case rel=>exact ⟨(t108),(wrap64 (x5_1+1)),xs',xs',H',⟨by have:=HK1.out;omega⟩,by repeat (first|exact Drawn0.refl _|apply Drawn0.step)⟩
     ·
      rw[if_neg c5] at H;exact absurd H (by simp)
    ·
     rw[if_neg c4] at H;have c4b0:decide (x5_1 < (l0.length:Int))=false:=df' c4;clear c4;obtain rfl:=os' H;go_wp2;go_ret
     exact ⟨xs',by repeat (first|exact Drawn0.refl _|apply Drawn0.step)⟩
def spec_l1In.f (a0:Int) (a1:Int) (a2:Int):Option (Bool):=if a0 ≥ a1 then (some (decide (a0≤a2))) else (some false)
set_option maxHeartbeats 8000000 in
set_option maxRecDepth 100000 in
theorem spec_l1In.calls (a0:Int) (a1:Int) (a2:Int) (r:Bool) (w:World) (h:spec_l1In.f a0 a1 a2=some r) :
  Calls Try.prog 53 #[.int .i64 a0, .int .i64 a1, .int .i64 a2] w fun e w'=>e = .returned (.bool r)∧Drawn0 w w':=by
 have H:(if a0 ≥ a1 then (some (decide (a0≤a2))) else (some false))=some r:=h
 clear h;by_cases c4:a0 ≥ a1
 ·
  rw[if_pos c4] at H;have c4b0:decide (a1≤a0)=true:=dt' c4;clear c4;obtain rfl:=os' H;go_enter Try.func53,Try.ntmps53;go_wp2;go_ret
  exact ⟨xs',by repeat (first|exact Drawn0.refl _|apply Drawn0.step)⟩
 ·
  rw[if_neg c4] at H;have c4b0:decide (a1≤a0)=false:=df' c4;clear c4;obtain rfl:=os' H;go_enter Try.func53,Try.ntmps53;go_wp2;go_ret
  exact ⟨xs',by repeat (first|exact Drawn0.refl _|apply Drawn0.step)⟩
def spec_l1All.l0:Nat→Int→Int→List Int→Int→Int→Option (Bool)
 | 0,_,_,_,_,_=>none
 | k+1,x1,x2,x9,x10,x11=>if x11 < x10 then (if 0≤x11 then (if x11 < (x9.length:Int) then ((spec_l1In.f (rd x9 x11) x1 x2).bind fun t110=>(if t110=true then (spec_l1All.l0 k x1 x2 x9 x10 (wrap64 (x11+1))) else (some false))) else (none)) else (none)) else (some true)
def spec_l1All.f (k:Nat) (l0:List Int) (a1:Int) (a2:Int):Option (Bool):=spec_l1All.l0 k a1 a2 l0 (l0.length:Int) 0
set_option maxHeartbeats 8000000 in
set_option maxRecDepth 100000 in
theorem spec_l1All.calls (k:Nat) (A0:Option Addr) (c0:Nat) (l0:List Int) (a1:Int) (a2:Int) (r:Bool) (w:World) (hr0:Kd.C (Kd.int .i64) w A0 l0.length l0) (hc0:l0.length≤c0) (h:spec_l1All.f k l0 a1 a2=some r) :
  Calls Try.prog 60 #[.slice A0 l0.length c0, .int .i64 a1, .int .i64 a2] w fun e w'=>e = .returned (.bool r)∧Drawn0 w w':=by
 have HR0:=am' hr0
 have HC0:=am' hc0
 clear hr0 hc0;have H:(spec_l1All.l0 k a1 a2 l0 (l0.length:Int) 0)=some r:=h
 clear h;have H':=am' H
 clear H;go_enter Try.func60,Try.ntmps60
 go_wp2
 go_loopg [11] k (fun kq v11 w'=>∃ (x11_1:Int),v11 = .int .i64 x11_1∧Aside0 (spec_l1All.l0 kq a1 a2 l0 (l0.length:Int) x11_1=some r)∧Aside0 (kq≤k)∧Drawn0 w w')
 case atStart=>exact ⟨(0),xs',H',⟨Nat.le_refl _⟩,by repeat (first|exact Drawn0.refl _|apply Drawn0.step)⟩
 case round =>
  clear H';try clear p2
  obtain ⟨x11_1,rfl,HA,HK1,⟨m1,rfl⟩⟩:=hrel;cases gk with
  | zero=>exact absurd HA.out (by simp[spec_l1All.l0])
  | succ k1 =>
   have H:=HA.out;clear HA;simp only[spec_l1All.l0] at H;by_cases c4:x11_1 < (l0.length:Int)
   ·
    rw[if_pos c4] at H;have c4b0:decide (x11_1 < (l0.length:Int))=true:=dt' c4;clear c4;by_cases c5:0≤x11_1
    ·
     rw[if_pos c5] at H;have c5b0:decide (0≤x11_1)=true:=dt' c5;clear c5;by_cases c6:x11_1 < (l0.length:Int)
     ·
      rw[if_pos c6] at H;have c6b0:decide (x11_1 < (l0.length:Int))=true:=dt' c6;clear c6;replace H:=Option.bind_eq_some_iff.mp H;obtain ⟨t110,A70,H⟩:=H;replace H:(if t110=true then (spec_l1All.l0 k1 a1 a2 l0 (l0.length:Int) (wrap64 (x11_1+1))) else (some false))=some r:=H;have A7:=am' A70;clear A70;by_cases c8:t110=true
      ·
       subst c8;have H1:(spec_l1All.l0 k1 a1 a2 l0 (l0.length:Int) (wrap64 (x11_1+1)))=some r:=by rw[if_pos rfl] at H;exact H
       clear H;have H:=H1;clear H1;have H':=am' H;clear H;have p109:0≤(x11_1:Int):=od' xa';have q109:x11_1 < (l0.length:Int):=od' xa';obtain ⟨ad109,e109,hx109_0⟩:=Kd.at_int HR0.out x11_1 p109 q109;cases e109;replace p109:=eq_true p109;replace q109:=eq_true q109;go_wp2_with (first|((with_reducible refine gate_callee (f:=53) rfl ?_);refine goesL_ (some 18) rfl rfl Try.func53 xk' rfl #[.int .i64 (rd l0 x11_1), .int .i64 a1, .int .i64 a2] rfl xl' ?_;(with_reducible refine (spec_l1In.calls (rd l0 x11_1) a1 a2 true _ A7.out).mono ?_);rintro e w' ⟨rfl,⟨nd,rfl⟩⟩;refine ⟨_,rfl,?_⟩));go_roundg k1
       case measure=>have:=HK1.out;omega
       case rel=>exact ⟨(wrap64 (x11_1+1)),xs',H',⟨by have:=HK1.out;omega⟩,by repeat (first|exact Drawn0.refl _|apply Drawn0.step)⟩
      ·
       replace c8:=Bool.eq_false_iff.mpr c8;subst c8;have H1:(some false)=some r:=by rw[if_neg (show ¬ (false=true) by decide)] at H;exact H
       clear H;have H:=H1;clear H1;obtain rfl:=os' H;have p109:0≤(x11_1:Int):=od' xa';have q109:x11_1 < (l0.length:Int):=od' xa';obtain ⟨ad109,e109,hx109_0⟩:=Kd.at_int HR0.out x11_1 p109 q109;cases e109;replace p109:=eq_true p109;replace q109:=eq_true q109;go_wp2_with (first|((with_reducible refine gate_callee (f:=53) rfl ?_);refine goesL_ (some 18) rfl rfl Try.func53 xk' rfl #[.int .i64 (rd l0 x11_1), .int .i64 a1, .int .i64 a2] rfl xl' ?_;(with_reducible refine (spec_l1In.calls (rd l0 x11_1) a1 a2 false _ A7.out).mono ?_);rintro e w' ⟨rfl,⟨nd,rfl⟩⟩;refine ⟨_,rfl,?_⟩));go_ret
       exact ⟨xs',by repeat (first|exact Drawn0.refl _|apply Drawn0.step)⟩
     ·
      rw[if_neg c6] at H;exact absurd H (by simp)
    ·
     rw[if_neg c5] at H;exact absurd H (by simp)
   ·
    rw[if_neg c4] at H;have c4b0:decide (x11_1 < (l0.length:Int))=false:=df' c4;clear c4;obtain rfl:=os' H;go_wp2;go_ret
    exact ⟨xs',by repeat (first|exact Drawn0.refl _|apply Drawn0.step)⟩
def spec_toGood.f (k:Nat) (l0_0:List Int) (a0_1:Int) (a0_2:Int):Option (Bool):=(spec_l1In.f (l0_0.length:Int) 1 6).bind fun t112=>(if t112=true then ((spec_l1All.f k l0_0 1 1000).bind fun t113=>(if t113=true then ((spec_l1In.f a0_1 1 3).bind fun t114=>(if t114=true then ((spec_l1In.f a0_2 1 2).bind fun t115=>(some t115)) else (some false))) else (some false))) else (some false))
set_option maxHeartbeats 8000000 in
set_option maxRecDepth 100000 in
theorem spec_toGood.calls (k:Nat) (A0_0:Option Addr) (c0_0:Nat) (l0_0:List Int) (a0_1:Int) (a0_2:Int) (r:Bool) (w:World) (hr0_0:Kd.C (Kd.int .i64) w A0_0 l0_0.length l0_0) (hc0_0:l0_0.length≤c0_0) (h:spec_toGood.f k l0_0 a0_1 a0_2=some r) :
  Calls Try.prog 52 #[.agg #[.slice A0_0 l0_0.length c0_0, .int .i64 a0_1, .int .i64 a0_2]] w fun e w'=>e = .returned (.bool r)∧Below w.heap.size w w':=by
 have hu35:=Try.underlying35
 have HR0_0:=am' hr0_0
 have HC0_0:=am' hc0_0
 clear hr0_0 hc0_0;have HB:=am' (Below.refl w.heap.size w)
 have H:((spec_l1In.f (l0_0.length:Int) 1 6).bind fun t112=>(if t112=true then ((spec_l1All.f k l0_0 1 1000).bind fun t113=>(if t113=true then ((spec_l1In.f a0_1 1 3).bind fun t114=>(if t114=true then ((spec_l1In.f a0_2 1 2).bind fun t115=>(some t115)) else (some false))) else (some false))) else (some false)))=some r:=h
 clear h;replace H:=Option.bind_eq_some_iff.mp H
 obtain ⟨t112,A20,H⟩:=H
 replace H:(if t112=true then ((spec_l1All.f k l0_0 1 1000).bind fun t113=>(if t113=true then ((spec_l1In.f a0_1 1 3).bind fun t114=>(if t114=true then ((spec_l1In.f a0_2 1 2).bind fun t115=>(some t115)) else (some false))) else (some false))) else (some false))=some r:=H
 have A2:=am' A20
 clear A20;by_cases c3:t112=true
 ·
  subst c3;have H1:((spec_l1All.f k l0_0 1 1000).bind fun t113=>(if t113=true then ((spec_l1In.f a0_1 1 3).bind fun t114=>(if t114=true then ((spec_l1In.f a0_2 1 2).bind fun t115=>(some t115)) else (some false))) else (some false)))=some r:=by rw[if_pos rfl] at H;exact H
  clear H;have H:=H1;clear H1;replace H:=Option.bind_eq_some_iff.mp H;obtain ⟨t113,A40,H⟩:=H;replace H:(if t113=true then ((spec_l1In.f a0_1 1 3).bind fun t114=>(if t114=true then ((spec_l1In.f a0_2 1 2).bind fun t115=>(some t115)) else (some false))) else (some false))=some r:=H;have A4:=am' A40;clear A40;by_cases c5:t113=true
  ·
   subst c5;have H1:((spec_l1In.f a0_1 1 3).bind fun t114=>(if t114=true then ((spec_l1In.f a0_2 1 2).bind fun t115=>(some t115)) else (some false)))=some r:=by rw[if_pos rfl] at H;exact H
   clear H;have H:=H1;clear H1;replace H:=Option.bind_eq_some_iff.mp H;obtain ⟨t114,A60,H⟩:=H;replace H:(if t114=true then ((spec_l1In.f a0_2 1 2).bind fun t115=>(some t115)) else (some false))=some r:=H;have A6:=am' A60;clear A60;by_cases c7:t114=true
   ·
    subst c7;have H1:((spec_l1In.f a0_2 1 2).bind fun t115=>(some t115))=some r:=by rw[if_pos rfl] at H;exact H
    clear H;have H:=H1;clear H1;replace H:=Option.bind_eq_some_iff.mp H;obtain ⟨t115,A80,H⟩:=H;replace H:(some t115)=some r:=H;have A8:=am' A80;clear A80;obtain rfl:=os' H;go_enter Try.func52,Try.ntmps52;go_wp2_with (first|((with_reducible refine gate_dst (N:=1) rfl ?_);refine box_event ?hg (N:=1) ?hd (cs:=#[.slice A0_0 l0_0.length c0_0, .int .i64 a0_1, .int .i64 a0_2]) (t:=35) ?hr ?_;(case hd=>rfl);(case hg=>rfl);(case hr=>first|(go_simp;done)|(go_simp;rfl));intro gb111 hg w9 hbox hb;have n0_:=am' (bt' xb' hb);have n1_:=am' (hbox);have n2_:=am' ((by rw[hg];exact (bz' xb'):w.heap.size≤gb111));have n3_:=am' ((by rw[hg];exact (bz' xb'):w.heap.size≤gb111));clear HB;have HB:=n0_;have BK111:=n1_;have GW111:=n2_;have GE111:=n3_;clear n0_ n1_ n2_ n3_;clear hb hbox hg;have hcz10_0:w9.cell? ⟨gb111,0,none⟩=some (.slice A0_0 l0_0.length c0_0):=(bc' BK111.out 0).trans rfl;have hcz10_1:w9.cell? ⟨gb111,1,none⟩=some (.int .i64 a0_1):=(bc' BK111.out 1).trans rfl;have hcz10_2:w9.cell? ⟨gb111,2,none⟩=some (.int .i64 a0_2):=(bc' BK111.out 2).trans rfl;have hfz10_0:=bf' BK111.out 0;have hfz10_1:=bf' BK111.out 1;have hfz10_2:=bf' BK111.out 2)|((with_reducible refine gate_callee (f:=53) rfl ?_);refine goesL_ (some 6) rfl rfl Try.func53 xk' rfl #[.int .i64 (l0_0.length:Int), .int .i64 1, .int .i64 6] rfl xl' ?_;(with_reducible refine (spec_l1In.calls (l0_0.length:Int) 1 6 true _ A2.out).mono ?_);rintro e w' ⟨rfl,⟨nd,rfl⟩⟩;refine ⟨_,rfl,?_⟩)|(go_at_call 60;(with_reducible refine (spec_l1All.calls k _ _ l0_0 1 1000 true _ ?side1 ?side2 A4.out).mono ?_);(case side1=>exact kc' (cb' HR0_0.out (yb' GE111.out)));(case side2=>exact HC0_0.out);rintro e w' ⟨rfl,⟨nd,rfl⟩⟩)|(go_at_call 53;(with_reducible refine (spec_l1In.calls a0_1 1 3 true _ A6.out).mono ?_);rintro e w' ⟨rfl,⟨nd,rfl⟩⟩)|(go_at_call 53;(with_reducible refine (spec_l1In.calls a0_2 1 2 t115 _ A8.out).mono ?_);rintro e w' ⟨rfl,⟨nd,rfl⟩⟩));go_ret
    exact ⟨by first|rfl|(simp[errW_none,errW_some] <;> rfl)|(simp[*,errW_none,errW_some] <;> rfl),yb' GE111.out⟩
   ·
    replace c7:=Bool.eq_false_iff.mpr c7;subst c7;have H1:(some false)=some r:=by rw[if_neg (show ¬ (false=true) by decide)] at H;exact H
    clear H;have H:=H1;clear H1;obtain rfl:=os' H;go_enter Try.func52,Try.ntmps52;go_wp2_with (first|((with_reducible refine gate_dst (N:=1) rfl ?_);refine box_event ?hg (N:=1) ?hd (cs:=#[.slice A0_0 l0_0.length c0_0, .int .i64 a0_1, .int .i64 a0_2]) (t:=35) ?hr ?_;(case hd=>rfl);(case hg=>rfl);(case hr=>first|(go_simp;done)|(go_simp;rfl));intro gb111 hg w11 hbox hb;have n0_:=am' (bt' xb' hb);have n1_:=am' (hbox);have n2_:=am' ((by rw[hg];exact (bz' xb'):w.heap.size≤gb111));have n3_:=am' ((by rw[hg];exact (bz' xb'):w.heap.size≤gb111));clear HB;have HB:=n0_;have BK111:=n1_;have GW111:=n2_;have GE111:=n3_;clear n0_ n1_ n2_ n3_;clear hb hbox hg;have hcz12_0:w11.cell? ⟨gb111,0,none⟩=some (.slice A0_0 l0_0.length c0_0):=(bc' BK111.out 0).trans rfl;have hcz12_1:w11.cell? ⟨gb111,1,none⟩=some (.int .i64 a0_1):=(bc' BK111.out 1).trans rfl;have hcz12_2:w11.cell? ⟨gb111,2,none⟩=some (.int .i64 a0_2):=(bc' BK111.out 2).trans rfl;have hfz12_0:=bf' BK111.out 0;have hfz12_1:=bf' BK111.out 1;have hfz12_2:=bf' BK111.out 2)|((with_reducible refine gate_callee (f:=53) rfl ?_);refine goesL_ (some 6) rfl rfl Try.func53 xk' rfl #[.int .i64 (l0_0.length:Int), .int .i64 1, .int .i64 6] rfl xl' ?_;(with_reducible refine (spec_l1In.calls (l0_0.length:Int) 1 6 true _ A2.out).mono ?_);rintro e w' ⟨rfl,⟨nd,rfl⟩⟩;refine ⟨_,rfl,?_⟩)|(go_at_call 60;(with_reducible refine (spec_l1All.calls k _ _ l0_0 1 1000 true _ ?side1 ?side2 A4.out).mono ?_);(case side1=>exact kc' (cb' HR0_0.out (yb' GE111.out)));(case side2=>exact HC0_0.out);rintro e w' ⟨rfl,⟨nd,rfl⟩⟩)|(go_at_call 53;(with_reducible refine (spec_l1In.calls a0_1 1 3 false _ A6.out).mono ?_);rintro e w' ⟨rfl,⟨nd,rfl⟩⟩));go_ret
    exact ⟨by first|rfl|(simp[errW_none,errW_some] <;> rfl)|(simp[*,errW_none,errW_some] <;> rfl),yb' GE111.out⟩
  ·
   replace c5:=Bool.eq_false_iff.mpr c5;subst c5;have H1:(some false)=some r:=by rw[if_neg (show ¬ (false=true) by decide)] at H;exact H
   clear H;have H:=H1;clear H1;obtain rfl:=os' H;go_enter Try.func52,Try.ntmps52;go_wp2_with (first|((with_reducible refine gate_dst (N:=1) rfl ?_);refine box_event ?hg (N:=1) ?hd (cs:=#[.slice A0_0 l0_0.length c0_0, .int .i64 a0_1, .int .i64 a0_2]) (t:=35) ?hr ?_;(case hd=>rfl);(case hg=>rfl);(case hr=>first|(go_simp;done)|(go_simp;rfl));intro gb111 hg w13 hbox hb;have n0_:=am' (bt' xb' hb);have n1_:=am' (hbox);have n2_:=am' ((by rw[hg];exact (bz' xb'):w.heap.size≤gb111));have n3_:=am' ((by rw[hg];exact (bz' xb'):w.heap.size≤gb111));clear HB;have HB:=n0_;have BK111:=n1_;have GW111:=n2_;have GE111:=n3_;clear n0_ n1_ n2_ n3_;clear hb hbox hg;have hcz14_0:w13.cell? ⟨gb111,0,none⟩=some (.slice A0_0 l0_0.length c0_0):=(bc' BK111.out 0).trans rfl;have hcz14_1:w13.cell? ⟨gb111,1,none⟩=some (.int .i64 a0_1):=(bc' BK111.out 1).trans rfl;have hcz14_2:w13.cell? ⟨gb111,2,none⟩=some (.int .i64 a0_2):=(bc' BK111.out 2).trans rfl;have hfz14_0:=bf' BK111.out 0;have hfz14_1:=bf' BK111.out 1;have hfz14_2:=bf' BK111.out 2)|((with_reducible refine gate_callee (f:=53) rfl ?_);refine goesL_ (some 6) rfl rfl Try.func53 xk' rfl #[.int .i64 (l0_0.length:Int), .int .i64 1, .int .i64 6] rfl xl' ?_;(with_reducible refine (spec_l1In.calls (l0_0.length:Int) 1 6 true _ A2.out).mono ?_);rintro e w' ⟨rfl,⟨nd,rfl⟩⟩;refine ⟨_,rfl,?_⟩)|(go_at_call 60;(with_reducible refine (spec_l1All.calls k _ _ l0_0 1 1000 false _ ?side1 ?side2 A4.out).mono ?_);(case side1=>exact kc' (cb' HR0_0.out (yb' GE111.out)));(case side2=>exact HC0_0.out);rintro e w' ⟨rfl,⟨nd,rfl⟩⟩));go_ret
   exact ⟨by first|rfl|(simp[errW_none,errW_some] <;> rfl)|(simp[*,errW_none,errW_some] <;> rfl),yb' GE111.out⟩
 ·
  replace c3:=Bool.eq_false_iff.mpr c3;subst c3;have H1:(some false)=some r:=by rw[if_neg (show ¬ (false=true) by decide)] at H;exact H
  clear H;have H:=H1;clear H1;obtain rfl:=os' H;go_enter Try.func52,Try.ntmps52;go_wp2_with (first|((with_reducible refine gate_dst (N:=1) rfl ?_);refine box_event ?hg (N:=1) ?hd (cs:=#[.slice A0_0 l0_0.length c0_0, .int .i64 a0_1, .int .i64 a0_2]) (t:=35) ?hr ?_;(case hd=>rfl);(case hg=>rfl);(case hr=>first|(go_simp;done)|(go_simp;rfl));intro gb111 hg w15 hbox hb;have n0_:=am' (bt' xb' hb);have n1_:=am' (hbox);have n2_:=am' ((by rw[hg];exact (bz' xb'):w.heap.size≤gb111));have n3_:=am' ((by rw[hg];exact (bz' xb'):w.heap.size≤gb111));clear HB;have HB:=n0_;have BK111:=n1_;have GW111:=n2_;have GE111:=n3_;clear n0_ n1_ n2_ n3_;clear hb hbox hg;have hcz16_0:w15.cell? ⟨gb111,0,none⟩=some (.slice A0_0 l0_0.length c0_0):=(bc' BK111.out 0).trans rfl;have hcz16_1:w15.cell? ⟨gb111,1,none⟩=some (.int .i64 a0_1):=(bc' BK111.out 1).trans rfl;have hcz16_2:w15.cell? ⟨gb111,2,none⟩=some (.int .i64 a0_2):=(bc' BK111.out 2).trans rfl;have hfz16_0:=bf' BK111.out 0;have hfz16_1:=bf' BK111.out 1;have hfz16_2:=bf' BK111.out 2)|((with_reducible refine gate_callee (f:=53) rfl ?_);refine goesL_ (some 6) rfl rfl Try.func53 xk' rfl #[.int .i64 (l0_0.length:Int), .int .i64 1, .int .i64 6] rfl xl' ?_;(with_reducible refine (spec_l1In.calls (l0_0.length:Int) 1 6 false _ A2.out).mono ?_);rintro e w' ⟨rfl,⟨nd,rfl⟩⟩;refine ⟨_,rfl,?_⟩));go_ret
  exact ⟨by first|rfl|(simp[errW_none,errW_some] <;> rfl)|(simp[*,errW_none,errW_some] <;> rfl),yb' GE111.out⟩
def spec_toCamp.f (k:Nat) (l0_0:List Int) (a0_1:Int) (a0_2:Int) (l1_0:List Bool) (a1_1:Int):Option (Bool):=(spec_toGood.f k l0_0 a0_1 a0_2).bind fun t118=>(if t118=true then (if (l1_0.length:Int)=(l0_0.length:Int) then ((spec_l1In.f a1_1 0 a0_2).bind fun t119=>(some t119)) else (some false)) else (some false))
set_option maxHeartbeats 8000000 in
set_option maxRecDepth 100000 in
theorem spec_toCamp.calls (k:Nat) (A0_0:Option Addr) (c0_0:Nat) (l0_0:List Int) (a0_1:Int) (a0_2:Int) (A1_0:Option Addr) (c1_0:Nat) (l1_0:List Bool) (a1_1:Int) (r:Bool) (w:World) (hr0_0:Kd.C (Kd.int .i64) w A0_0 l0_0.length l0_0) (hc0_0:l0_0.length≤c0_0) (hr1_0:Kd.C Kd.bool w A1_0 l1_0.length l1_0) (hc1_0:l1_0.length≤c1_0) (h:spec_toCamp.f k l0_0 a0_1 a0_2 l1_0 a1_1=some r) :
  Calls Try.prog 33 #[.agg #[.slice A0_0 l0_0.length c0_0, .int .i64 a0_1, .int .i64 a0_2], .agg #[.slice A1_0 l1_0.length c1_0, .int .i64 a1_1]] w fun e w'=>e = .returned (.bool r)∧Below w.heap.size w w':=by
 have hu35:=Try.underlying35
 have hu32:=Try.underlying32
 have HR0_0:=am' hr0_0
 have HC0_0:=am' hc0_0
 clear hr0_0 hc0_0;have HR1_0:=am' hr1_0
 have HC1_0:=am' hc1_0
 clear hr1_0 hc1_0;have HB:=am' (Below.refl w.heap.size w)
 have H:((spec_toGood.f k l0_0 a0_1 a0_2).bind fun t118=>(if t118=true then (if (l1_0.length:Int)=(l0_0.length:Int) then ((spec_l1In.f a1_1 0 a0_2).bind fun t119=>(some t119)) else (some false)) else (some false)))=some r:=h
 clear h;replace H:=Option.bind_eq_some_iff.mp H
 obtain ⟨t118,A30,H⟩:=H
 replace H:(if t118=true then (if (l1_0.length:Int)=(l0_0.length:Int) then ((spec_l1In.f a1_1 0 a0_2).bind fun t119=>(some t119)) else (some false)) else (some false))=some r:=H
 have A3:=am' A30
 clear A30;by_cases c4:t118=true
 ·
  subst c4;have H1:(if (l1_0.length:Int)=(l0_0.length:Int) then ((spec_l1In.f a1_1 0 a0_2).bind fun t119=>(some t119)) else (some false))=some r:=by rw[if_pos rfl] at H;exact H
  clear H;have H:=H1;clear H1;by_cases c5:(l1_0.length:Int)=(l0_0.length:Int)
  ·
   rw[if_pos c5] at H;have c5b0:((l1_0.length:Int) == (l0_0.length:Int))=true:=beq_iff_eq.mpr c5;have c5b1:((l1_0.length:Int) != (l0_0.length:Int))=false:=bne_eq_false_iff_eq.mpr c5;have c5b2:(l1_0.length == l0_0.length)=true:=by first|simpa using c5|(simp at c5 ⊢;omega)
   clear c5;replace H:=Option.bind_eq_some_iff.mp H;obtain ⟨t119,A60,H⟩:=H;replace H:(some t119)=some r:=H;have A6:=am' A60;clear A60;obtain rfl:=os' H;go_enter Try.func33,Try.ntmps33;go_wp2_with (first|((with_reducible refine gate_dst (N:=2) rfl ?_);(try (refine gate_guard (by rfl) ?_;dsimp only));refine box_event ?hg (N:=2) ?hd (cs:=#[.slice A0_0 l0_0.length c0_0, .int .i64 a0_1, .int .i64 a0_2]) (t:=35) ?hr ?_;(case hd=>rfl);(case hg=>rfl);(case hr=>first|(go_simp;done)|(go_simp;rfl));intro gb116 hg w7 hbox hb;have n0_:=am' (bt' xb' hb);have n1_:=am' (hbox);have n2_:=am' ((by rw[hg];exact (bz' xb'):w.heap.size≤gb116));have n3_:=am' ((by rw[hg];exact (bz' xb'):w.heap.size≤gb116));clear HB;have HB:=n0_;have BK116:=n1_;have GW116:=n2_;have GE116:=n3_;clear n0_ n1_ n2_ n3_;clear hb hbox hg)|((with_reducible refine gate_dst (N:=3) rfl ?_);(try (refine gate_guard (by rfl) ?_;dsimp only));refine box_event ?hg (N:=3) ?hd (cs:=#[.slice A1_0 l1_0.length c1_0, .int .i64 a1_1]) (t:=32) ?hr ?_;(case hd=>rfl);(case hg=>rfl);(case hr=>first|(go_simp;done)|(go_simp;rfl));intro gb117 hg w8 hbox hb;have n0_:=am' (bb' (g:=gb116) (o := .cells #[.slice A0_0 l0_0.length c0_0, .int .i64 a0_1, .int .i64 a0_2] 35 (0,0)) (kk' BK116.out) hb);have n1_:=am' (bt' (yb' GE116.out) hb);have n2_:=am' (hbox);have n3_:=am' ((by rw[hg];exact (bz' (yb' GE116.out)):w.heap.size≤gb117));have n4_:=am' ((by rw[hg];exact (bz' (yb' GE116.out)):w.heap.size≤gb117));have n5_:=am' ((by rw[hg];exact Nat.ne_of_lt (blk_lt (g:=gb116) (o := .cells #[.slice A0_0 l0_0.length c0_0, .int .i64 a0_1, .int .i64 a0_2] 35 (0,0)) (kk' BK116.out)):gb116≠gb117));have n6_:=am' ((by rw[hg];exact Nat.ne_of_gt (blk_lt (g:=gb116) (o := .cells #[.slice A0_0 l0_0.length c0_0, .int .i64 a0_1, .int .i64 a0_2] 35 (0,0)) (kk' BK116.out)):gb117≠gb116));clear BK116;clear HB;have BK116:=n0_;have HB:=n1_;have BK117:=n2_;have GW117:=n3_;have GE117:=n4_;have NB116_117:=n5_;have NB117_116:=n6_;clear n0_ n1_ n2_ n3_ n4_ n5_ n6_;clear hb hbox hg;have hnb9:=NB116_117.out;have hnc9:=NB117_116.out;have hcz10_0:w8.cell? ⟨gb116,0,none⟩=some (.slice A0_0 l0_0.length c0_0):=(bc' BK116.out 0).trans rfl;have hcz10_1:w8.cell? ⟨gb116,1,none⟩=some (.int .i64 a0_1):=(bc' BK116.out 1).trans rfl;have hcz10_2:w8.cell? ⟨gb116,2,none⟩=some (.int .i64 a0_2):=(bc' BK116.out 2).trans rfl;have hfz10_0:=bf' BK116.out 0;have hfz10_1:=bf' BK116.out 1;have hfz10_2:=bf' BK116.out 2)|((with_reducible refine gate_callee (f:=52) rfl ?_);refine goesL_ (some 6) rfl rfl Try.func52 xk' rfl #[.agg #[.slice A0_0 l0_0.length c0_0, .int .i64 a0_1, .int .i64 a0_2]] rfl xl' ?_;(with_reducible refine (spec_toGood.calls k _ _ l0_0 a0_1 a0_2 true _ ?side1 ?side2 A3.out).mono ?_);(case side1=>exact kc' (cb' HR0_0.out HB.out));(case side2=>exact HC0_0.out);rintro e w11 ⟨rfl,hb⟩;refine ⟨_,rfl,?_⟩;have n0_:=am' (bb' (g:=gb116) (o := .cells #[.slice A0_0 l0_0.length c0_0, .int .i64 a0_1, .int .i64 a0_2] 35 (0,0)) (kk' BK116.out) hb);have n1_:=am' (bb' (g:=gb117) (o := .cells #[.slice A1_0 l1_0.length c1_0, .int .i64 a1_1] 32 (0,0)) (kk' BK117.out) hb);have n2_:=am' (bt' (y2' GE116.out GE117.out) hb);clear BK116;clear BK117;clear HB;have BK116:=n0_;have BK117:=n1_;have HB:=n2_;clear n0_ n1_ n2_;(try clear hb);(try clear hb2);(try clear hk);(try clear hi);have hcz12_0:w11.cell? ⟨gb117,0,none⟩=some (.slice A1_0 l1_0.length c1_0):=(bc' BK117.out 0).trans rfl;have hcz12_1:w11.cell? ⟨gb117,1,none⟩=some (.int .i64 a1_1):=(bc' BK117.out 1).trans rfl;have hfz12_0:=bf' BK117.out 0;have hfz12_1:=bf' BK117.out 1;have hcz13_0:w11.cell? ⟨gb116,0,none⟩=some (.slice A0_0 l0_0.length c0_0):=(bc' BK116.out 0).trans rfl;have hcz13_1:w11.cell? ⟨gb116,1,none⟩=some (.int .i64 a0_1):=(bc' BK116.out 1).trans rfl;have hcz13_2:w11.cell? ⟨gb116,2,none⟩=some (.int .i64 a0_2):=(bc' BK116.out 2).trans rfl;have hfz13_0:=bf' BK116.out 0;have hfz13_1:=bf' BK116.out 1;have hfz13_2:=bf' BK116.out 2)|(go_at_call 53;(with_reducible refine (spec_l1In.calls a1_1 0 a0_2 t119 _ A6.out).mono ?_);rintro e w' ⟨rfl,⟨nd,rfl⟩⟩))
   go_ret
   exact ⟨by first|rfl|(simp[errW_none,errW_some] <;> rfl)|(simp[*,errW_none,errW_some] <;> rfl),y2' GE116.out GE117.out⟩
  ·
   rw[if_neg c5] at H;have c5b0:((l1_0.length:Int) == (l0_0.length:Int))=false:=beq_eq_false_iff_ne.mpr c5;have c5b1:((l1_0.length:Int) != (l0_0.length:Int))=true:=bne_iff_ne.mpr c5;have c5b2:(l1_0.length == l0_0.length)=false:=by first|simpa using c5|(simp at c5 ⊢;omega)
   obtain rfl:=os' H;go_enter Try.func33,Try.ntmps33;go_wp2_with (first|((with_reducible refine gate_dst (N:=2) rfl ?_);(try (refine gate_guard (by rfl) ?_;dsimp only));refine box_event ?hg (N:=2) ?hd (cs:=#[.slice A0_0 l0_0.length c0_0, .int .i64 a0_1, .int .i64 a0_2]) (t:=35) ?hr ?_;(case hd=>rfl);(case hg=>rfl);(case hr=>first|(go_simp;done)|(go_simp;rfl));intro gb116 hg w14 hbox hb;have n0_:=am' (bt' xb' hb);have n1_:=am' (hbox);have n2_:=am' ((by rw[hg];exact (bz' xb'):w.heap.size≤gb116));have n3_:=am' ((by rw[hg];exact (bz' xb'):w.heap.size≤gb116));clear HB;have HB:=n0_;have BK116:=n1_;have GW116:=n2_;have GE116:=n3_;clear n0_ n1_ n2_ n3_;clear hb hbox hg)|((with_reducible refine gate_dst (N:=3) rfl ?_);(try (refine gate_guard (by rfl) ?_;dsimp only));refine box_event ?hg (N:=3) ?hd (cs:=#[.slice A1_0 l1_0.length c1_0, .int .i64 a1_1]) (t:=32) ?hr ?_;(case hd=>rfl);(case hg=>rfl);(case hr=>first|(go_simp;done)|(go_simp;rfl));intro gb117 hg w15 hbox hb;have n0_:=am' (bb' (g:=gb116) (o := .cells #[.slice A0_0 l0_0.length c0_0, .int .i64 a0_1, .int .i64 a0_2] 35 (0,0)) (kk' BK116.out) hb);have n1_:=am' (bt' (yb' GE116.out) hb);have n2_:=am' (hbox);have n3_:=am' ((by rw[hg];exact (bz' (yb' GE116.out)):w.heap.size≤gb117));have n4_:=am' ((by rw[hg];exact (bz' (yb' GE116.out)):w.heap.size≤gb117));have n5_:=am' ((by rw[hg];exact Nat.ne_of_lt (blk_lt (g:=gb116) (o := .cells #[.slice A0_0 l0_0.length c0_0, .int .i64 a0_1, .int .i64 a0_2] 35 (0,0)) (kk' BK116.out)):gb116≠gb117));have n6_:=am' ((by rw[hg];exact Nat.ne_of_gt (blk_lt (g:=gb116) (o := .cells #[.slice A0_0 l0_0.length c0_0, .int .i64 a0_1, .int .i64 a0_2] 35 (0,0)) (kk' BK116.out)):gb117≠gb116));clear BK116;clear HB;have BK116:=n0_;have HB:=n1_;have BK117:=n2_;have GW117:=n3_;have GE117:=n4_;have NB116_117:=n5_;have NB117_116:=n6_;clear n0_ n1_ n2_ n3_ n4_ n5_ n6_;clear hb hbox hg;have hnb16:=NB116_117.out;have hnc16:=NB117_116.out;have hcz17_0:w15.cell? ⟨gb116,0,none⟩=some (.slice A0_0 l0_0.length c0_0):=(bc' BK116.out 0).trans rfl;have hcz17_1:w15.cell? ⟨gb116,1,none⟩=some (.int .i64 a0_1):=(bc' BK116.out 1).trans rfl;have hcz17_2:w15.cell? ⟨gb116,2,none⟩=some (.int .i64 a0_2):=(bc' BK116.out 2).trans rfl;have hfz17_0:=bf' BK116.out 0;have hfz17_1:=bf' BK116.out 1;have hfz17_2:=bf' BK116.out 2)|((with_reducible refine gate_callee (f:=52) rfl ?_);refine goesL_ (some 6) rfl rfl Try.func52 xk' rfl #[.agg #[.slice A0_0 l0_0.length c0_0, .int .i64 a0_1, .int .i64 a0_2]] rfl xl' ?_;(with_reducible refine (spec_toGood.calls k _ _ l0_0 a0_1 a0_2 true _ ?side1 ?side2 A3.out).mono ?_);(case side1=>exact kc' (cb' HR0_0.out HB.out));(case side2=>exact HC0_0.out);rintro e w18 ⟨rfl,hb⟩;refine ⟨_,rfl,?_⟩;have n0_:=am' (bb' (g:=gb116) (o := .cells #[.slice A0_0 l0_0.length c0_0, .int .i64 a0_1, .int .i64 a0_2] 35 (0,0)) (kk' BK116.out) hb);have n1_:=am' (bb' (g:=gb117) (o := .cells #[.slice A1_0 l1_0.length c1_0, .int .i64 a1_1] 32 (0,0)) (kk' BK117.out) hb);have n2_:=am' (bt' (y2' GE116.out GE117.out) hb);clear BK116;clear BK117;clear HB;have BK116:=n0_;have BK117:=n1_;have HB:=n2_;clear n0_ n1_ n2_;(try clear hb);(try clear hb2);(try clear hk);(try clear hi);have hcz19_0:w18.cell? ⟨gb117,0,none⟩=some (.slice A1_0 l1_0.length c1_0):=(bc' BK117.out 0).trans rfl;have hcz19_1:w18.cell? ⟨gb117,1,none⟩=some (.int .i64 a1_1):=(bc' BK117.out 1).trans rfl;have hfz19_0:=bf' BK117.out 0;have hfz19_1:=bf' BK117.out 1;have hcz20_0:w18.cell? ⟨gb116,0,none⟩=some (.slice A0_0 l0_0.length c0_0):=(bc' BK116.out 0).trans rfl;have hcz20_1:w18.cell? ⟨gb116,1,none⟩=some (.int .i64 a0_1):=(bc' BK116.out 1).trans rfl;have hcz20_2:w18.cell? ⟨gb116,2,none⟩=some (.int .i64 a0_2):=(bc' BK116.out 2).trans rfl;have hfz20_0:=bf' BK116.out 0;have hfz20_1:=bf' BK116.out 1;have hfz20_2:=bf' BK116.out 2))
   go_ret
   exact ⟨by first|rfl|(simp[errW_none,errW_some] <;> rfl)|(simp[*,errW_none,errW_some] <;> rfl),y2' GE116.out GE117.out⟩
 ·
  replace c4:=Bool.eq_false_iff.mpr c4;subst c4;have H1:(some false)=some r:=by rw[if_neg (show ¬ (false=true) by decide)] at H;exact H
  clear H;have H:=H1;clear H1;obtain rfl:=os' H;go_enter Try.func33,Try.ntmps33;go_wp2_with (first|((with_reducible refine gate_dst (N:=2) rfl ?_);(try (refine gate_guard (by rfl) ?_;dsimp only));refine box_event ?hg (N:=2) ?hd (cs:=#[.slice A0_0 l0_0.length c0_0, .int .i64 a0_1, .int .i64 a0_2]) (t:=35) ?hr ?_;(case hd=>rfl);(case hg=>rfl);(case hr=>first|(go_simp;done)|(go_simp;rfl));intro gb116 hg w21 hbox hb;have n0_:=am' (bt' xb' hb);have n1_:=am' (hbox);have n2_:=am' ((by rw[hg];exact (bz' xb'):w.heap.size≤gb116));have n3_:=am' ((by rw[hg];exact (bz' xb'):w.heap.size≤gb116));clear HB;have HB:=n0_;have BK116:=n1_;have GW116:=n2_;have GE116:=n3_;clear n0_ n1_ n2_ n3_;clear hb hbox hg)|((with_reducible refine gate_dst (N:=3) rfl ?_);(try (refine gate_guard (by rfl) ?_;dsimp only));refine box_event ?hg (N:=3) ?hd (cs:=#[.slice A1_0 l1_0.length c1_0, .int .i64 a1_1]) (t:=32) ?hr ?_;(case hd=>rfl);(case hg=>rfl);(case hr=>first|(go_simp;done)|(go_simp;rfl));intro gb117 hg w22 hbox hb;have n0_:=am' (bb' (g:=gb116) (o := .cells #[.slice A0_0 l0_0.length c0_0, .int .i64 a0_1, .int .i64 a0_2] 35 (0,0)) (kk' BK116.out) hb);have n1_:=am' (bt' (yb' GE116.out) hb);have n2_:=am' (hbox);have n3_:=am' ((by rw[hg];exact (bz' (yb' GE116.out)):w.heap.size≤gb117));have n4_:=am' ((by rw[hg];exact (bz' (yb' GE116.out)):w.heap.size≤gb117));have n5_:=am' ((by rw[hg];exact Nat.ne_of_lt (blk_lt (g:=gb116) (o := .cells #[.slice A0_0 l0_0.length c0_0, .int .i64 a0_1, .int .i64 a0_2] 35 (0,0)) (kk' BK116.out)):gb116≠gb117));have n6_:=am' ((by rw[hg];exact Nat.ne_of_gt (blk_lt (g:=gb116) (o := .cells #[.slice A0_0 l0_0.length c0_0, .int .i64 a0_1, .int .i64 a0_2] 35 (0,0)) (kk' BK116.out)):gb117≠gb116));clear BK116;clear HB;have BK116:=n0_;have HB:=n1_;have BK117:=n2_;have GW117:=n3_;have GE117:=n4_;have NB116_117:=n5_;have NB117_116:=n6_;clear n0_ n1_ n2_ n3_ n4_ n5_ n6_;clear hb hbox hg;have hnb23:=NB116_117.out;have hnc23:=NB117_116.out;have hcz24_0:w22.cell? ⟨gb116,0,none⟩=some (.slice A0_0 l0_0.length c0_0):=(bc' BK116.out 0).trans rfl;have hcz24_1:w22.cell? ⟨gb116,1,none⟩=some (.int .i64 a0_1):=(bc' BK116.out 1).trans rfl;have hcz24_2:w22.cell? ⟨gb116,2,none⟩=some (.int .i64 a0_2):=(bc' BK116.out 2).trans rfl;have hfz24_0:=bf' BK116.out 0;have hfz24_1:=bf' BK116.out 1;have hfz24_2:=bf' BK116.out 2)|((with_reducible refine gate_callee (f:=52) rfl ?_);refine goesL_ (some 6) rfl rfl Try.func52 xk' rfl #[.agg #[.slice A0_0 l0_0.length c0_0, .int .i64 a0_1, .int .i64 a0_2]] rfl xl' ?_;(with_reducible refine (spec_toGood.calls k _ _ l0_0 a0_1 a0_2 false _ ?side1 ?side2 A3.out).mono ?_);(case side1=>exact kc' (cb' HR0_0.out HB.out));(case side2=>exact HC0_0.out);rintro e w25 ⟨rfl,hb⟩;refine ⟨_,rfl,?_⟩;have n0_:=am' (bb' (g:=gb116) (o := .cells #[.slice A0_0 l0_0.length c0_0, .int .i64 a0_1, .int .i64 a0_2] 35 (0,0)) (kk' BK116.out) hb);have n1_:=am' (bb' (g:=gb117) (o := .cells #[.slice A1_0 l1_0.length c1_0, .int .i64 a1_1] 32 (0,0)) (kk' BK117.out) hb);have n2_:=am' (bt' (y2' GE116.out GE117.out) hb);clear BK116;clear BK117;clear HB;have BK116:=n0_;have BK117:=n1_;have HB:=n2_;clear n0_ n1_ n2_;(try clear hb);(try clear hb2);(try clear hk);(try clear hi)))
  go_ret
  exact ⟨by first|rfl|(simp[errW_none,errW_some] <;> rfl)|(simp[*,errW_none,errW_some] <;> rfl),y2' GE116.out GE117.out⟩
def spec_l1Rising.l0:Nat→List Int→Int→Int→List Int→Int→Int→Option (Bool)
 | 0,_,_,_,_,_,_=>none
 | k+1,x0,x1,x2,x9,x10,x11=>if x11 < x10 then (if 0≤x11 then (if x11 < (x9.length:Int) then ((spec_l1In.f (rd x9 x11) x1 x2).bind fun t121=>(if t121=true then (if x11 > 0 then (if 0≤(wrap64 (x11 - 1)) then (if (wrap64 (x11 - 1)) < (x0.length:Int) then (if (rd x0 (wrap64 (x11 - 1))) ≥ (rd x9 x11) then (some false) else (spec_l1Rising.l0 k x0 x1 x2 x9 x10 (wrap64 (x11+1)))) else (none)) else (none)) else (spec_l1Rising.l0 k x0 x1 x2 x9 x10 (wrap64 (x11+1)))) else (some false))) else (none)) else (none)) else (some true)
def spec_l1Rising.f (k:Nat) (l0:List Int) (a1:Int) (a2:Int):Option (Bool):=spec_l1Rising.l0 k l0 a1 a2 l0 (l0.length:Int) 0
set_option maxHeartbeats 8000000 in
set_option maxRecDepth 100000 in
theorem spec_l1Rising.calls (k:Nat) (A0:Option Addr) (c0:Nat) (l0:List Int) (a1:Int) (a2:Int) (r:Bool) (w:World) (hr0:Kd.C (Kd.int .i64) w A0 l0.length l0) (hc0:l0.length≤c0) (h:spec_l1Rising.f k l0 a1 a2=some r) :
  Calls Try.prog 88 #[.slice A0 l0.length c0, .int .i64 a1, .int .i64 a2] w fun e w'=>e = .returned (.bool r)∧Drawn0 w w':=by
 have HR0:=am' hr0
 have HC0:=am' hc0
 clear hr0 hc0;have H:(spec_l1Rising.l0 k l0 a1 a2 l0 (l0.length:Int) 0)=some r:=h
 clear h;have H':=am' H
 clear H;go_enter Try.func88,Try.ntmps88
 go_wp2
 go_loopg [11] k (fun kq v11 w'=>∃ (x11_1:Int),v11 = .int .i64 x11_1∧Aside0 (spec_l1Rising.l0 kq l0 a1 a2 l0 (l0.length:Int) x11_1=some r)∧Aside0 (kq≤k)∧Drawn0 w w')
 case atStart=>exact ⟨(0),xs',H',⟨Nat.le_refl _⟩,by repeat (first|exact Drawn0.refl _|apply Drawn0.step)⟩
 case round =>
  clear H';try clear p2
  obtain ⟨x11_1,rfl,HA,HK1,⟨m1,rfl⟩⟩:=hrel;cases gk with
  | zero=>exact absurd HA.out (by simp[spec_l1Rising.l0])
  | succ k1 =>
   have H:=HA.out;clear HA;simp only[spec_l1Rising.l0] at H;by_cases c4:x11_1 < (l0.length:Int)
   ·
    rw[if_pos c4] at H;have c4b0:decide (x11_1 < (l0.length:Int))=true:=dt' c4;clear c4;by_cases c5:0≤x11_1
    ·
     rw[if_pos c5] at H;have c5b0:decide (0≤x11_1)=true:=dt' c5;clear c5;by_cases c6:x11_1 < (l0.length:Int)
     ·
      rw[if_pos c6] at H;have c6b0:decide (x11_1 < (l0.length:Int))=true:=dt' c6;clear c6;replace H:=Option.bind_eq_some_iff.mp H;obtain ⟨t121,A70,H⟩:=H;replace H:(if t121=true then (if x11_1 > 0 then (if 0≤(wrap64 (x11_1 - 1)) then (if (wrap64 (x11_1 - 1)) < (l0.length:Int) then (if (rd l0 (wrap64 (x11_1 - 1))) ≥ (rd l0 x11_1) then (some false) else (spec_l1Rising.l0 k1 l0 a1 a2 l0 (l0.length:Int) (wrap64 (x11_1+1)))) else (none)) else (none)) else (spec_l1Rising.l0 k1 l0 a1 a2 l0 (l0.length:Int) (wrap64 (x11_1+1)))) else (some false))=some r:=H;have A7:=am' A70;clear A70;by_cases c8:t121=true
      ·
       subst c8;have H1:(if x11_1 > 0 then (if 0≤(wrap64 (x11_1 - 1)) then (if (wrap64 (x11_1 - 1)) < (l0.length:Int) then (if (rd l0 (wrap64 (x11_1 - 1))) ≥ (rd l0 x11_1) then (some false) else (spec_l1Rising.l0 k1 l0 a1 a2 l0 (l0.length:Int) (wrap64 (x11_1+1)))) else (none)) else (none)) else (spec_l1Rising.l0 k1 l0 a1 a2 l0 (l0.length:Int) (wrap64 (x11_1+1))))=some r:=by rw[if_pos rfl] at H;exact H
       clear H;have H:=H1;clear H1;by_cases c9:x11_1 > 0
       ·
        rw[if_pos c9] at H;have c9b0:decide (0 < x11_1)=true:=dt' c9;clear c9;obtain ⟨ji10,hji10⟩:∃ j_:Int,(wrap64 (x11_1 - 1))=j_:=⟨_,rfl⟩
        replace H:(if 0≤(ji10) then (if (ji10) < (l0.length:Int) then (if (rd l0 (ji10)) ≥ (rd l0 x11_1) then (some false) else (spec_l1Rising.l0 k1 l0 a1 a2 l0 (l0.length:Int) (wrap64 (x11_1+1)))) else (none)) else (none))=some r:=by first|(rw[hji10] at H;exact H)|(simp only[hji10] at H ⊢;exact H)
        (try rw [hji10] at A7)
        have hji10w:(IntKind.i64.wrap (x11_1 - 1))=ji10:=(i64_w _).trans hji10;by_cases c11:0≤(ji10)
        ·
         rw[if_pos c11] at H;have c11b0:decide (0≤(ji10))=true:=dt' c11;clear c11;by_cases c12:(ji10) < (l0.length:Int)
         ·
          rw[if_pos c12] at H;have c12b0:decide ((ji10) < (l0.length:Int))=true:=dt' c12;clear c12;by_cases c13:(rd l0 (ji10)) ≥ (rd l0 x11_1)
          ·
           rw[if_pos c13] at H;have c13b0:decide ((rd l0 x11_1)≤(rd l0 (ji10)))=true:=dt' c13;clear c13;obtain rfl:=os' H;have p120:0≤(x11_1:Int):=od' xa';have q120:x11_1 < (l0.length:Int):=od' xa';obtain ⟨ad120,e120,hx120_0⟩:=Kd.at_int HR0.out x11_1 p120 q120;cases e120;replace p120:=eq_true p120;replace q120:=eq_true q120;go_wp2_with (first|((with_reducible refine gate_callee (f:=53) rfl ?_);refine goesL_ (some 19) rfl rfl Try.func53 xk' rfl #[.int .i64 (rd l0 x11_1), .int .i64 a1, .int .i64 a2] rfl xl' ?_;(with_reducible refine (spec_l1In.calls (rd l0 x11_1) a1 a2 true _ A7.out).mono ?_);rintro e w' ⟨rfl,⟨nd,rfl⟩⟩;refine ⟨_,rfl,?_⟩;have p122:0≤((ji10):Int):=od' xa';have q122:(ji10) < (l0.length:Int):=od' xa';obtain ⟨ad122,e122,hx122_0⟩:=Kd.at_int HR0.out (ji10) p122 q122;obtain rfl:ad120=ad122:=(by injection e122);replace p122:=eq_true p122;replace q122:=eq_true q122));go_ret
           exact ⟨by first|rfl|(simp;done)|(simp only[← hji10] <;> (first|rfl|simp))|(simp[*];done),by repeat (first|exact Drawn0.refl _|apply Drawn0.step)⟩
          ·
           rw[if_neg c13] at H;have c13b0:decide ((rd l0 x11_1)≤(rd l0 (ji10)))=false:=df' c13;clear c13;have H':=am' H;clear H;have p120:0≤(x11_1:Int):=od' xa';have q120:x11_1 < (l0.length:Int):=od' xa';obtain ⟨ad120,e120,hx120_0⟩:=Kd.at_int HR0.out x11_1 p120 q120;cases e120;replace p120:=eq_true p120;replace q120:=eq_true q120;go_wp2_with (first|((with_reducible refine gate_callee (f:=53) rfl ?_);refine goesL_ (some 19) rfl rfl Try.func53 xk' rfl #[.int .i64 (rd l0 x11_1), .int .i64 a1, .int .i64 a2] rfl xl' ?_;(with_reducible refine (spec_l1In.calls (rd l0 x11_1) a1 a2 true _ A7.out).mono ?_);rintro e w' ⟨rfl,⟨nd,rfl⟩⟩;refine ⟨_,rfl,?_⟩;have p122:0≤((ji10):Int):=od' xa';have q122:(ji10) < (l0.length:Int):=od' xa';obtain ⟨ad122,e122,hx122_0⟩:=Kd.at_int HR0.out (ji10) p122 q122;obtain rfl:ad120=ad122:=(by injection e122);replace p122:=eq_true p122;replace q122:=eq_true q122));go_roundg k1
           case measure=>have:=HK1.out;omega
           case rel=>exact ⟨(wrap64 (x11_1+1)),xs',H',⟨by have:=HK1.out;omega⟩,by repeat (first|exact Drawn0.refl _|apply Drawn0.step)⟩
         ·
          rw[if_neg c12] at H;exact absurd H (by simp)
        ·
         rw[if_neg c11] at H;exact absurd H (by simp)
       ·
        rw[if_neg c9] at H;have c9b0:decide (0 < x11_1)=false:=df' c9;clear c9;have H':=am' H;clear H;have p120:0≤(x11_1:Int):=od' xa';have q120:x11_1 < (l0.length:Int):=od' xa';obtain ⟨ad120,e120,hx120_0⟩:=Kd.at_int HR0.out x11_1 p120 q120;cases e120;replace p120:=eq_true p120;replace q120:=eq_true q120;go_wp2_with (first|((with_reducible refine gate_callee (f:=53) rfl ?_);refine goesL_ (some 19) rfl rfl Try.func53 xk' rfl #[.int .i64 (rd l0 x11_1), .int .i64 a1, .int .i64 a2] rfl xl' ?_;(with_reducible refine (spec_l1In.calls (rd l0 x11_1) a1 a2 true _ A7.out).mono ?_);rintro e w' ⟨rfl,⟨nd,rfl⟩⟩;refine ⟨_,rfl,?_⟩));go_roundg k1
        case measure=>have:=HK1.out;omega
        case rel=>exact ⟨(wrap64 (x11_1+1)),xs',H',⟨by have:=HK1.out;omega⟩,by repeat (first|exact Drawn0.refl _|apply Drawn0.step)⟩
      ·
       replace c8:=Bool.eq_false_iff.mpr c8;subst c8;have H1:(some false)=some r:=by rw[if_neg (show ¬ (false=true) by decide)] at H;exact H
       clear H;have H:=H1;clear H1;obtain rfl:=os' H;have p120:0≤(x11_1:Int):=od' xa';have q120:x11_1 < (l0.length:Int):=od' xa';obtain ⟨ad120,e120,hx120_0⟩:=Kd.at_int HR0.out x11_1 p120 q120;cases e120;replace p120:=eq_true p120;replace q120:=eq_true q120;go_wp2_with (first|((with_reducible refine gate_callee (f:=53) rfl ?_);refine goesL_ (some 19) rfl rfl Try.func53 xk' rfl #[.int .i64 (rd l0 x11_1), .int .i64 a1, .int .i64 a2] rfl xl' ?_;(with_reducible refine (spec_l1In.calls (rd l0 x11_1) a1 a2 false _ A7.out).mono ?_);rintro e w' ⟨rfl,⟨nd,rfl⟩⟩;refine ⟨_,rfl,?_⟩));go_ret
       exact ⟨xs',by repeat (first|exact Drawn0.refl _|apply Drawn0.step)⟩
     ·
      rw[if_neg c6] at H;exact absurd H (by simp)
    ·
     rw[if_neg c5] at H;exact absurd H (by simp)
   ·
    rw[if_neg c4] at H;have c4b0:decide (x11_1 < (l0.length:Int))=false:=df' c4;clear c4;obtain rfl:=os' H;go_wp2;go_ret
    exact ⟨xs',by repeat (first|exact Drawn0.refl _|apply Drawn0.step)⟩
end Go.Proofs.Ytdomojenlofieaa.C2
