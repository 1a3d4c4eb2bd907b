import Derived.Test.YtdomojenlofieaaC2zx0
import Derived.Test.YtdomojenlofieaaC2zx6
import Derived.Test.YtdomojenlofieaaC2zAl
namespace Go.Proofs.Ytdomojenlofieaa.C2
open Go.RowKit Go.Proofs.YtdomojenlofieaaW.PrintWords Go.Proofs.YtdomojenlofieaaW.PrintLast Go.Proofs.YtdomojenlofieaaW.PrintMore Go.Proofs.Ytdomojenlofieaa.H
attribute [local go_sem] max2_int min2_int max_two min_two max_three min_three max_four min_four
set_option linter.unusedVariables false
set_option linter.unusedSimpArgs false
def impl_rises.l0:Nat→List Int→Int→Option (Bool)
 | 0,_,_=>none
 | k+1,x0,x3=>if x3 < (x0.length:Int) then (if 0≤x3 then (if 0≤(wrap64 (x3 - 1)) then (if (wrap64 (x3 - 1)) < (x0.length:Int) then (if (rd x0 x3)≤(rd x0 (wrap64 (x3 - 1))) then (some false) else (impl_rises.l0 k x0 (wrap64 (x3+1)))) else (none)) else (none)) else (none)) else (some true)
def impl_rises.f (k:Nat) (l0:List Int):Option (Bool):=impl_rises.l0 k l0 1
set_option maxHeartbeats 8000000 in
set_option maxRecDepth 100000 in
theorem impl_rises.calls (k:Nat) (A0:Option Addr) (c0:Nat) (l0:List Int) (r:Bool) (w:World) (hr0:Kd.C (Kd.int .i64) w A0 l0.length l0) (hc0:l0.length≤c0) (h:impl_rises.f k l0=some r) :
  Calls Try.prog 90 #[.slice A0 l0.length c0] w fun e w'=>e = .returned (.bool r)∧Drawn0 w w':=by
 have HR0:=am' hr0
 have HC0:=am' hc0
 clear hr0 hc0;have H:(impl_rises.l0 k l0 1)=some r:=h
 clear h;have H':=am' H
 clear H;go_enter Try.func90,Try.ntmps90
 go_wp2
 repeat (go_quiet (fail);try go_wp2)
 go_loopg [3] k (fun kq v3 w'=>∃ (x3_1:Int),v3 = .int .i64 x3_1∧Aside0 (impl_rises.l0 kq l0 x3_1=some r)∧Aside0 (kq≤k)∧Drawn0 w w')
 case atStart=>exact ⟨(1),xs',H',⟨Nat.le_refl _⟩,by repeat (first|exact Drawn0.refl _|apply Drawn0.step)⟩
 case round =>
  clear H';obtain ⟨x3_1,rfl,HA,HK1,⟨m1,rfl⟩⟩:=hrel;cases gk with
  | zero=>exact absurd HA.out (by simp[impl_rises.l0])
  | succ k1 =>
   have H:=HA.out;clear HA;simp only[impl_rises.l0] at H;by_cases c2:x3_1 < (l0.length:Int)
   ·
    rw[if_pos c2] at H;have c2b0:decide (x3_1 < (l0.length:Int))=true:=dt' c2;clear c2;by_cases c3:0≤x3_1
    ·
     rw[if_pos c3] at H;have c3b0:decide (0≤x3_1)=true:=dt' c3;clear c3;obtain ⟨ji4,hji4⟩:∃ j_:Int,(wrap64 (x3_1 - 1))=j_:=⟨_,rfl⟩
     replace H:(if 0≤(ji4) then (if (ji4) < (l0.length:Int) then (if (rd l0 x3_1)≤(rd l0 (ji4)) then (some false) else (impl_rises.l0 k1 l0 (wrap64 (x3_1+1)))) else (none)) else (none))=some r:=by first|(rw[hji4] at H;exact H)|(simp only[hji4] at H ⊢;exact H)
     have hji4w:(IntKind.i64.wrap (x3_1 - 1))=ji4:=(i64_w _).trans hji4;by_cases c5:0≤(ji4)
     ·
      rw[if_pos c5] at H;have c5b0:decide (0≤(ji4))=true:=dt' c5;clear c5;by_cases c6:(ji4) < (l0.length:Int)
      ·
       rw[if_pos c6] at H;have c6b0:decide ((ji4) < (l0.length:Int))=true:=dt' c6;clear c6;by_cases c7:(rd l0 x3_1)≤(rd l0 (ji4))
       ·
        rw[if_pos c7] at H;have c7b0:decide ((rd l0 x3_1)≤(rd l0 (ji4)))=true:=dt' c7;clear c7;obtain rfl:=os' H;have p241:0≤(x3_1:Int):=od' xa';have q241:x3_1 < (l0.length:Int):=od' xa';obtain ⟨ad241,e241,hx241_0⟩:=Kd.at_int HR0.out x3_1 p241 q241;cases e241;replace p241:=eq_true p241;replace q241:=eq_true q241;have p242:0≤((ji4):Int):=od' xa';have q242:(ji4) < (l0.length:Int):=od' xa';obtain ⟨ad242,e242,hx242_0⟩:=Kd.at_int HR0.out (ji4) p242 q242;obtain rfl:ad241=ad242:=(by injection e242)
        replace p242:=eq_true p242;replace q242:=eq_true q242;go_wp2
        repeat (go_quiet (fail);try go_wp2)
        go_ret
        exact ⟨by first|rfl|(simp;done)|(simp only[← hji4] <;> (first|rfl|simp))|(simp[*];done),by repeat (first|exact Drawn0.refl _|apply Drawn0.step)⟩
       ·
        rw[if_neg c7] at H;have c7b0:decide ((rd l0 x3_1)≤(rd l0 (ji4)))=false:=df' c7;clear c7;have H':=am' H;clear H;have p241:0≤(x3_1:Int):=od' xa';have q241:x3_1 < (l0.length:Int):=od' xa';obtain ⟨ad241,e241,hx241_0⟩:=Kd.at_int HR0.out x3_1 p241 q241;cases e241;replace p241:=eq_true p241;replace q241:=eq_true q241;have p242:0≤((ji4):Int):=od' xa';have q242:(ji4) < (l0.length:Int):=od' xa';obtain ⟨ad242,e242,hx242_0⟩:=Kd.at_int HR0.out (ji4) p242 q242;obtain rfl:ad241=ad242:=(by injection e242)
        replace p242:=eq_true p242;replace q242:=eq_true q242;go_wp2
        repeat (go_quiet (fail);try go_wp2)
        go_roundg k1
        case measure=>have:=HK1.out;omega
        case rel=>exact ⟨(wrap64 (x3_1+1)),xs',H',⟨by have:=HK1.out;omega⟩,by repeat (first|exact Drawn0.refl _|apply Drawn0.step)⟩
      ·
       rw[if_neg c6] at H;exact absurd H (by simp)
     ·
      rw[if_neg c5] at H;exact absurd H (by simp)
    ·
     rw[if_neg c3] at H;exact absurd H (by simp)
   ·
    rw[if_neg c2] at H;have c2b0:decide (x3_1 < (l0.length:Int))=false:=df' c2;clear c2;obtain rfl:=os' H;go_wp2
    repeat (go_quiet (fail);try go_wp2)
    go_ret
    exact ⟨xs',by repeat (first|exact Drawn0.refl _|apply Drawn0.step)⟩
def impl_Night_isGroup.f (k:Nat) (l0_0:List Int) (a0_1:Int) (a0_2:Int) (l1:List Int):Option (Bool):=(impl_areIn.f l1 0 (wrap64 ((l0_0.length:Int) - 1)) 1 a0_1).bind fun t244=>(if t244=true then ((impl_rises.f k l1).bind fun t245=>(some t245)) else (some false))
set_option maxHeartbeats 8000000 in
set_option maxRecDepth 100000 in
theorem impl_Night_isGroup.calls (k:Nat) (A0_0:Option Addr) (c0_0:Nat) (l0_0:List Int) (a0_1:Int) (a0_2:Int) (A1:Option Addr) (c1:Nat) (l1:List Int) (r:Bool) (w:World) (hr0_0:Kd.C (Kd.int .i64) w A0_0 l0_0.length l0_0) (hc0_0:l0_0.length≤c0_0) (hr1:Kd.C (Kd.int .i64) w A1 l1.length l1) (hc1:l1.length≤c1) (h:impl_Night_isGroup.f k l0_0 a0_1 a0_2 l1=some r) :
  Calls Try.prog 75 #[.agg #[.slice A0_0 l0_0.length c0_0, .int .i64 a0_1, .int .i64 a0_2], .slice A1 l1.length c1] w fun e w'=>e = .returned (.bool r)∧Below w.heap.size w w':=by
 have hu35:=Try.underlying35
 have HR0_0:=am' hr0_0
 have HC0_0:=am' hc0_0
 clear hr0_0 hc0_0;have HR1:=am' hr1
 have HC1:=am' hc1
 clear hr1 hc1;have HB:=am' (Below.refl w.heap.size w)
 have H:((impl_areIn.f l1 0 (wrap64 ((l0_0.length:Int) - 1)) 1 a0_1).bind fun t244=>(if t244=true then ((impl_rises.f k l1).bind fun t245=>(some t245)) else (some false)))=some r:=h
 clear h;replace H:=Option.bind_eq_some_iff.mp H
 obtain ⟨t244,A30,H⟩:=H
 replace H:(if t244=true then ((impl_rises.f k l1).bind fun t245=>(some t245)) else (some false))=some r:=H
 have A3:=am' A30
 clear A30;by_cases c4:t244=true
 ·
  subst c4;have H1:((impl_rises.f k l1).bind fun t245=>(some t245))=some r:=by rw[if_pos rfl] at H;exact H
  clear H;have H:=H1;clear H1;replace H:=Option.bind_eq_some_iff.mp H;obtain ⟨t245,A50,H⟩:=H;replace H:(some t245)=some r:=H;have A5:=am' A50;clear A50;obtain rfl:=os' H;go_enter Try.func75,Try.ntmps75;go_wp2_with (first|((with_reducible refine gate_dst (N:=2) rfl ?_);refine box_event ?hg (N:=2) ?hd (cs:=#[.slice A0_0 l0_0.length c0_0, .int .i64 a0_1, .int .i64 a0_2]) (t:=35) ?hr ?_;(case hd=>rfl);(case hg=>rfl);(case hr=>first|(go_simp;done)|(go_simp;rfl));intro gb243 hg w6 hbox hb;have n0_:=am' (bt' xb' hb);have n1_:=am' (hbox);have n2_:=am' ((by rw[hg];exact (bz' xb'):w.heap.size≤gb243));have n3_:=am' ((by rw[hg];exact (bz' xb'):w.heap.size≤gb243));clear HB;have HB:=n0_;have BK243:=n1_;have GW243:=n2_;have GE243:=n3_;clear n0_ n1_ n2_ n3_;clear hb hbox hg;have hcz7_0:w6.cell? ⟨gb243,0,none⟩=some (.slice A0_0 l0_0.length c0_0):=(bc' BK243.out 0).trans rfl;have hcz7_1:w6.cell? ⟨gb243,1,none⟩=some (.int .i64 a0_1):=(bc' BK243.out 1).trans rfl;have hcz7_2:w6.cell? ⟨gb243,2,none⟩=some (.int .i64 a0_2):=(bc' BK243.out 2).trans rfl;have hfz7_0:=bf' BK243.out 0;have hfz7_1:=bf' BK243.out 1;have hfz7_2:=bf' BK243.out 2)|((with_reducible refine gate_callee (f:=65) rfl ?_);refine goesL_ (some 12) rfl rfl Try.func65 xk' rfl #[.slice A1 l1.length c1, .int .i64 0, .int .i64 (wrap64 ((l0_0.length:Int) - 1)), .int .i64 1, .int .i64 a0_1] rfl xl' ?_;(with_reducible refine (impl_areIn.calls _ _ l1 0 (wrap64 ((l0_0.length:Int) - 1)) 1 a0_1 true _ ?side1 ?side2 A3.out).mono ?_);(case side1=>exact kc' (cb' HR1.out HB.out));(case side2=>exact HC1.out);rintro e w8 ⟨rfl,hb⟩;refine ⟨_,rfl,?_⟩;have n0_:=am' (bb' (g:=gb243) (o := .cells #[.slice A0_0 l0_0.length c0_0, .int .i64 a0_1, .int .i64 a0_2] 35 (0,0)) (kk' BK243.out) hb);have n1_:=am' (bt' (yb' GE243.out) hb);clear BK243;clear HB;have BK243:=n0_;have HB:=n1_;clear n0_ n1_;(try clear hb);(try clear hb2);(try clear hk);(try clear hi))|(go_at_call 90;(with_reducible refine (impl_rises.calls k _ _ l1 t245 _ ?side1 ?side2 A5.out).mono ?_);(case side1=>exact kc' (cb' HR1.out HB.out));(case side2=>exact HC1.out);rintro e w' ⟨rfl,⟨nd,rfl⟩⟩))
  go_ret
  exact ⟨by first|rfl|(simp[errW_none,errW_some] <;> rfl)|(simp[*,errW_none,errW_some] <;> rfl),yb' GE243.out⟩
 ·
  replace c4:=Bool.eq_false_iff.mpr c4;subst c4;have H1:(some false)=some r:=by rw[if_neg (show ¬ (false=true) by decide)] at H;exact H
  clear H;have H:=H1;clear H1;obtain rfl:=os' H;go_enter Try.func75,Try.ntmps75;go_wp2_with (first|((with_reducible refine gate_dst (N:=2) rfl ?_);refine box_event ?hg (N:=2) ?hd (cs:=#[.slice A0_0 l0_0.length c0_0, .int .i64 a0_1, .int .i64 a0_2]) (t:=35) ?hr ?_;(case hd=>rfl);(case hg=>rfl);(case hr=>first|(go_simp;done)|(go_simp;rfl));intro gb243 hg w9 hbox hb;have n0_:=am' (bt' xb' hb);have n1_:=am' (hbox);have n2_:=am' ((by rw[hg];exact (bz' xb'):w.heap.size≤gb243));have n3_:=am' ((by rw[hg];exact (bz' xb'):w.heap.size≤gb243));clear HB;have HB:=n0_;have BK243:=n1_;have GW243:=n2_;have GE243:=n3_;clear n0_ n1_ n2_ n3_;clear hb hbox hg;have hcz10_0:w9.cell? ⟨gb243,0,none⟩=some (.slice A0_0 l0_0.length c0_0):=(bc' BK243.out 0).trans rfl;have hcz10_1:w9.cell? ⟨gb243,1,none⟩=some (.int .i64 a0_1):=(bc' BK243.out 1).trans rfl;have hcz10_2:w9.cell? ⟨gb243,2,none⟩=some (.int .i64 a0_2):=(bc' BK243.out 2).trans rfl;have hfz10_0:=bf' BK243.out 0;have hfz10_1:=bf' BK243.out 1;have hfz10_2:=bf' BK243.out 2)|((with_reducible refine gate_callee (f:=65) rfl ?_);refine goesL_ (some 12) rfl rfl Try.func65 xk' rfl #[.slice A1 l1.length c1, .int .i64 0, .int .i64 (wrap64 ((l0_0.length:Int) - 1)), .int .i64 1, .int .i64 a0_1] rfl xl' ?_;(with_reducible refine (impl_areIn.calls _ _ l1 0 (wrap64 ((l0_0.length:Int) - 1)) 1 a0_1 false _ ?side1 ?side2 A3.out).mono ?_);(case side1=>exact kc' (cb' HR1.out HB.out));(case side2=>exact HC1.out);rintro e w11 ⟨rfl,hb⟩;refine ⟨_,rfl,?_⟩;have n0_:=am' (bb' (g:=gb243) (o := .cells #[.slice A0_0 l0_0.length c0_0, .int .i64 a0_1, .int .i64 a0_2] 35 (0,0)) (kk' BK243.out) hb);have n1_:=am' (bt' (yb' GE243.out) hb);clear BK243;clear HB;have BK243:=n0_;have HB:=n1_;clear n0_ n1_;(try clear hb);(try clear hb2);(try clear hk);(try clear hi)));go_ret
  exact ⟨by first|rfl|(simp[errW_none,errW_some] <;> rfl)|(simp[*,errW_none,errW_some] <;> rfl),yb' GE243.out⟩
def impl_Night_torches.f (l0_0:List Int) (a0_1:Int) (a0_2:Int) (l1_0:List Bool) (a1_1:Int) (a2:Bool):Option (Int):=if a2=true then (some a1_1) else (some (wrap64 (a0_2 - a1_1)))
set_option maxHeartbeats 8000000 in
set_option maxRecDepth 100000 in
theorem impl_Night_torches.calls (A0_0:Option Addr) (c0_0:Nat) (l0_0:List Int) (a0_1:Int) (a0_2:Int) (A1_0:Option Addr) (c1_0:Nat) (l1_0:List Bool) (a1_1:Int) (a2:Bool) (r:Int) (w:World) (hr0_0:Kd.C (Kd.int .i64) w A0_0 l0_0.length l0_0) (hc0_0:l0_0.length≤c0_0) (hr1_0:Kd.C Kd.bool w A1_0 l1_0.length l1_0) (hc1_0:l1_0.length≤c1_0) (h:impl_Night_torches.f l0_0 a0_1 a0_2 l1_0 a1_1 a2=some r) :
  Calls Try.prog 76 #[.agg #[.slice A0_0 l0_0.length c0_0, .int .i64 a0_1, .int .i64 a0_2], .agg #[.slice A1_0 l1_0.length c1_0, .int .i64 a1_1], .bool a2] w fun e w'=>e = .returned (.int .i64 r)∧Below w.heap.size w w':=by
 have hu35:=Try.underlying35
 have hu32:=Try.underlying32
 have HR0_0:=am' hr0_0
 have HC0_0:=am' hc0_0
 clear hr0_0 hc0_0;have HR1_0:=am' hr1_0
 have HC1_0:=am' hc1_0
 clear hr1_0 hc1_0;have HB:=am' (Below.refl w.heap.size w)
 have H:(if a2=true then (some a1_1) else (some (wrap64 (a0_2 - a1_1))))=some r:=h
 clear h;by_cases c4:a2=true
 ·
  subst c4;have H1:(some a1_1)=some r:=by rw[if_pos rfl] at H;exact H
  clear H;have H:=H1;clear H1;obtain rfl:=os' H;go_enter Try.func76,Try.ntmps76;go_wp2_with (first|((with_reducible refine gate_dst (N:=3) rfl ?_);refine box_event ?hg (N:=3) ?hd (cs:=#[.slice A0_0 l0_0.length c0_0, .int .i64 a0_1, .int .i64 a0_2]) (t:=35) ?hr ?_;(case hd=>rfl);(case hg=>rfl);(case hr=>first|(go_simp;done)|(go_simp;rfl));intro gb246 hg w5 hbox hb;have n0_:=am' (bt' xb' hb);have n1_:=am' (hbox);have n2_:=am' ((by rw[hg];exact (bz' xb'):w.heap.size≤gb246));have n3_:=am' ((by rw[hg];exact (bz' xb'):w.heap.size≤gb246));clear HB;have HB:=n0_;have BK246:=n1_;have GW246:=n2_;have GE246:=n3_;clear n0_ n1_ n2_ n3_;clear hb hbox hg)|((with_reducible refine gate_dst (N:=4) rfl ?_);refine box_event ?hg (N:=4) ?hd (cs:=#[.slice A1_0 l1_0.length c1_0, .int .i64 a1_1]) (t:=32) ?hr ?_;(case hd=>rfl);(case hg=>rfl);(case hr=>first|(go_simp;done)|(go_simp;rfl));intro gb247 hg w6 hbox hb;have n0_:=am' (bb' (g:=gb246) (o := .cells #[.slice A0_0 l0_0.length c0_0, .int .i64 a0_1, .int .i64 a0_2] 35 (0,0)) (kk' BK246.out) hb);have n1_:=am' (bt' (yb' GE246.out) hb);have n2_:=am' (hbox);have n3_:=am' ((by rw[hg];exact (bz' (yb' GE246.out)):w.heap.size≤gb247));have n4_:=am' ((by rw[hg];exact (bz' (yb' GE246.out)):w.heap.size≤gb247));have n5_:=am' ((by rw[hg];exact Nat.ne_of_lt (blk_lt (g:=gb246) (o := .cells #[.slice A0_0 l0_0.length c0_0, .int .i64 a0_1, .int .i64 a0_2] 35 (0,0)) (kk' BK246.out)):gb246≠gb247));have n6_:=am' ((by rw[hg];exact Nat.ne_of_gt (blk_lt (g:=gb246) (o := .cells #[.slice A0_0 l0_0.length c0_0, .int .i64 a0_1, .int .i64 a0_2] 35 (0,0)) (kk' BK246.out)):gb247≠gb246));clear BK246;clear HB;have BK246:=n0_;have HB:=n1_;have BK247:=n2_;have GW247:=n3_;have GE247:=n4_;have NB246_247:=n5_;have NB247_246:=n6_;clear n0_ n1_ n2_ n3_ n4_ n5_ n6_;clear hb hbox hg;have hnb7:=NB247_246.out;have hnc7:=NB246_247.out;have hcz8_0:w6.cell? ⟨gb247,0,none⟩=some (.slice A1_0 l1_0.length c1_0):=(bc' BK247.out 0).trans rfl;have hcz8_1:w6.cell? ⟨gb247,1,none⟩=some (.int .i64 a1_1):=(bc' BK247.out 1).trans rfl;have hfz8_0:=bf' BK247.out 0;have hfz8_1:=bf' BK247.out 1))
  go_ret
  exact ⟨by first|rfl|(simp[errW_none,errW_some] <;> rfl)|(simp[*,errW_none,errW_some] <;> rfl),y2' GE246.out GE247.out⟩
 ·
  replace c4:=Bool.eq_false_iff.mpr c4;subst c4;have H1:(some (wrap64 (a0_2 - a1_1)))=some r:=by rw[if_neg (show ¬ (false=true) by decide)] at H;exact H
  clear H;have H:=H1;clear H1;obtain rfl:=os' H;go_enter Try.func76,Try.ntmps76;go_wp2_with (first|((with_reducible refine gate_dst (N:=3) rfl ?_);refine box_event ?hg (N:=3) ?hd (cs:=#[.slice A0_0 l0_0.length c0_0, .int .i64 a0_1, .int .i64 a0_2]) (t:=35) ?hr ?_;(case hd=>rfl);(case hg=>rfl);(case hr=>first|(go_simp;done)|(go_simp;rfl));intro gb246 hg w9 hbox hb;have n0_:=am' (bt' xb' hb);have n1_:=am' (hbox);have n2_:=am' ((by rw[hg];exact (bz' xb'):w.heap.size≤gb246));have n3_:=am' ((by rw[hg];exact (bz' xb'):w.heap.size≤gb246));clear HB;have HB:=n0_;have BK246:=n1_;have GW246:=n2_;have GE246:=n3_;clear n0_ n1_ n2_ n3_;clear hb hbox hg)|((with_reducible refine gate_dst (N:=4) rfl ?_);refine box_event ?hg (N:=4) ?hd (cs:=#[.slice A1_0 l1_0.length c1_0, .int .i64 a1_1]) (t:=32) ?hr ?_;(case hd=>rfl);(case hg=>rfl);(case hr=>first|(go_simp;done)|(go_simp;rfl));intro gb247 hg w10 hbox hb;have n0_:=am' (bb' (g:=gb246) (o := .cells #[.slice A0_0 l0_0.length c0_0, .int .i64 a0_1, .int .i64 a0_2] 35 (0,0)) (kk' BK246.out) hb);have n1_:=am' (bt' (yb' GE246.out) hb);have n2_:=am' (hbox);have n3_:=am' ((by rw[hg];exact (bz' (yb' GE246.out)):w.heap.size≤gb247));have n4_:=am' ((by rw[hg];exact (bz' (yb' GE246.out)):w.heap.size≤gb247));have n5_:=am' ((by rw[hg];exact Nat.ne_of_lt (blk_lt (g:=gb246) (o := .cells #[.slice A0_0 l0_0.length c0_0, .int .i64 a0_1, .int .i64 a0_2] 35 (0,0)) (kk' BK246.out)):gb246≠gb247));have n6_:=am' ((by rw[hg];exact Nat.ne_of_gt (blk_lt (g:=gb246) (o := .cells #[.slice A0_0 l0_0.length c0_0, .int .i64 a0_1, .int .i64 a0_2] 35 (0,0)) (kk' BK246.out)):gb247≠gb246));clear BK246;clear HB;have BK246:=n0_;have HB:=n1_;have BK247:=n2_;have GW247:=n3_;have GE247:=n4_;have NB246_247:=n5_;have NB247_246:=n6_;clear n0_ n1_ n2_ n3_ n4_ n5_ n6_;clear hb hbox hg;have hnb11:=NB246_247.out;have hnc11:=NB247_246.out;have hcz12_0:w10.cell? ⟨gb246,0,none⟩=some (.slice A0_0 l0_0.length c0_0):=(bc' BK246.out 0).trans rfl;have hcz12_1:w10.cell? ⟨gb246,1,none⟩=some (.int .i64 a0_1):=(bc' BK246.out 1).trans rfl;have hcz12_2:w10.cell? ⟨gb246,2,none⟩=some (.int .i64 a0_2):=(bc' BK246.out 2).trans rfl;have hfz12_0:=bf' BK246.out 0;have hfz12_1:=bf' BK246.out 1;have hfz12_2:=bf' BK246.out 2;have hcz13_0:w10.cell? ⟨gb247,0,none⟩=some (.slice A1_0 l1_0.length c1_0):=(bc' BK247.out 0).trans rfl;have hcz13_1:w10.cell? ⟨gb247,1,none⟩=some (.int .i64 a1_1):=(bc' BK247.out 1).trans rfl;have hfz13_0:=bf' BK247.out 0;have hfz13_1:=bf' BK247.out 1))
  go_ret
  exact ⟨by first|rfl|(simp[errW_none,errW_some] <;> rfl)|(simp[*,errW_none,errW_some] <;> rfl),y2' GE246.out GE247.out⟩
set_option maxHeartbeats 2000000 in
set_option maxRecDepth 100000 in
theorem are1_calls (x:Int) (b1 b2:Nat) (A:Option Addr) (c:Nat) (l0:List Bool) (t over:Bool) (w:World) (h1:w.heap[b1]? = some (.cells #[.slice A l0.length c, .bool t] 80 (0,0))) (h2:w.cell? ⟨b2,0,none⟩=some (.bool over)) (hr:Kd.C Kd.bool w A l0.length l0) (hx0:0≤x) (hx1:x < (l0.length:Int)) :
  Calls Try.prog 91 #[.int .i64 x, .pointer (some ⟨b1,0,none⟩), .pointer (some ⟨b2,0,none⟩)] w fun e w'=>e = .returned (.bool (rdOf false l0 x != over))∧Below w.heap.size w w':=by
 obtain ⟨ad,e0,hx⟩:=Kd.at_bool hr x hx0 hx1
 cases e0
 have hs:w.cell? ⟨b1,0,none⟩=some (.slice (some ad) l0.length c):=(bc' h1 0).trans rfl
 have hbig:=hr.2.1
 have p0:=eq_true hx0
 have p1:=eq_true hx1
 clear hr h1 hx0 hx1;go_enter Try.func91,Try.ntmps91
 go_wp2
 go_quiet (fail)
 go_wp2
 go_ret
 exact ⟨rfl,bd' (Below.refl _ _) _⟩
theorem are_pred (b1 b2:Nat) (A:Option Addr) (c:Nat) (l0:List Bool) (t over:Bool) (xs:List Int) (w:World) (h1:w.heap[b1]? = some (.cells #[.slice A l0.length c, .bool t] 80 (0,0))) (h2:w.cell? ⟨b2,0,none⟩=some (.bool over)) (hr:Kd.C Kd.bool w A l0.length l0) (hx:∀ x ∈ xs,0≤x∧x < (l0.length:Int)) :
  PredOn 91 #[.pointer (some ⟨b1,0,none⟩), .pointer (some ⟨b2,0,none⟩)] (fun x=>rdOf false l0 x != over) xs w:=fun x hm W hb =>
 are1_calls x b1 b2 A c l0 t over W ((hb.block _ (blk_lt h1)).trans h1) ((hb.cell (bl' w _ h2)).trans h2) (cb' hr hb) (hx x hm).1 (hx x hm).2
def impl_State_are.f (l0_0:List Bool) (a0_1:Bool) (l1:List Int) (a2:Bool):Option Bool:=if l1.all (fun x=>decide (0≤x) && decide (x < (l0_0.length:Int))) then some (l1.all fun x=>rdOf false l0_0 x == a2) else none
set_option maxHeartbeats 2000000 in
set_option maxRecDepth 100000 in
theorem impl_State_are.calls (A0_0:Option Addr) (c0_0:Nat) (l0_0:List Bool) (a0_1:Bool) (A1:Option Addr) (c1:Nat) (l1:List Int) (a2:Bool) (r:Bool) (w:World) (hr0_0:Kd.C Kd.bool w A0_0 l0_0.length l0_0) (hc0_0:l0_0.length≤c0_0) (hr1:Kd.C (Kd.int .i64) w A1 l1.length l1) (hc1:l1.length≤c1) (h:impl_State_are.f l0_0 a0_1 l1 a2=some r) :
  Calls Try.prog 77 #[.agg #[.slice A0_0 l0_0.length c0_0, .bool a0_1], .slice A1 l1.length c1, .bool a2] w fun e w'=>e = .returned (.bool r)∧Below w.heap.size w w':=by
 obtain ⟨hin,rfl⟩:(∀ x ∈ l1,0≤x∧x < (l0_0.length:Int))∧(l1.all fun x=>rdOf false l0_0 x == a2)=r:=by
  unfold impl_State_are.f at h
  by_cases hc:l1.all (fun x=>decide (0≤x) && decide (x < (l0_0.length:Int)))=true
  ·
   rw[if_pos hc] at h;refine ⟨fun x hx=>?_,os' h⟩;have:=List.all_eq_true.1 hc x hx;simpa using this
  ·
   rw[if_neg hc] at h;cases h
 have HC:=am' (fun (w1:World) (h1:Below w.heap.size w w1) (b1 b2:Nat) (e1:w1.heap[b1]? = some (.cells #[.slice A0_0 l0_0.length c0_0, .bool a0_1] 80 (0,0))) (e2:w1.cell? ⟨b2,0,none⟩=some (.bool a2)) =>
  ContainsFunc_any 91 #[.pointer (some ⟨b1,0,none⟩), .pointer (some ⟨b2,0,none⟩)] (fun x=>rdOf false l0_0 x != a2) (enters_of Try.func91 xk' rfl) A1 c1 l1 w1 (cb' hr1 h1) hc1 hr1.2.1 (are_pred b1 b2 A0_0 c0_0 l0_0 a0_1 a2 l1 w1 e1 e2 (cb' hr0_0 h1) hin))
 clear hr0_0 hr1 h hin;have hu:=Try.underlying80
 go_enter Try.func77,Try.ntmps77
 go_wp2_with (fail)
 have hb1:Below w.heap.size w (w.alloc (.cells #[.slice A0_0 l0_0.length c0_0, .bool a0_1] 80)):=(Below.refl _ _).alloc (Nat.le_refl _) _
 refine (HC.out _ ?_ _ _ ?_ ?_).mono ?_
 ·
  exact ((Below.refl _ _).alloc (Nat.le_refl _) _).alloc (by rw[World.size_alloc];omega) _
 ·
  exact ((ba' (Below.refl _ _) _).block _ (by rw[World.size_alloc];omega)).trans (heap_alloc_new w _)
 ·
  exact cell_two _ _ _ _
 rintro e w2 ⟨rfl,hb2⟩
 have h2:=after_alloc hb2
 have HB2:=am' (after_alloc h2.1).1
 clear hb2 h2 hb1;go_wp2
 go_ret
 refine ⟨?_,HB2.out⟩
 have e:(fun x=>rdOf false l0_0 x != a2)=fun x => !(rdOf false l0_0 x == a2):=by funext x;rfl
 rw[e,← any_not_all]
 rfl
def cmp_isNaN_int.f (a0:Int):Option (Bool):=some (a0 != a0)
set_option maxHeartbeats 8000000 in
set_option maxRecDepth 100000 in
theorem cmp_isNaN_int.calls (a0:Int) (r:Bool) (w:World) (h:cmp_isNaN_int.f a0=some r) :
  Calls Try.prog 98 #[.int .i64 a0] w fun e w'=>e = .returned (.bool r)∧Drawn0 w w':=by
 have H:(some (a0 != a0))=some r:=h
 clear h;obtain rfl:=os' H
 go_enter Try.func98,Try.ntmps98
 go_wp2
 go_ret
 exact ⟨xs',by repeat (first|exact Drawn0.refl _|apply Drawn0.step)⟩
def cmp_Compare_int.f (a0:Int) (a1:Int):Option (Int):=(cmp_isNaN_int.f a0).bind fun t248=>((cmp_isNaN_int.f a1).bind fun t249=>(if t248=true then (if t249=true then (some 0) else (some (-1))) else (if t249=true then (some 1) else (if a0 < a1 then (some (-1)) else (if a0 > a1 then (some 1) else (some 0))))))
set_option maxHeartbeats 8000000 in
set_option maxRecDepth 100000 in
theorem cmp_Compare_int.calls (a0:Int) (a1:Int) (r:Int) (w:World) (h:cmp_Compare_int.f a0 a1=some r) :
  Calls Try.prog 92 #[.int .i64 a0, .int .i64 a1] w fun e w'=>e = .returned (.int .i64 r)∧Drawn0 w w':=by
 have H:((cmp_isNaN_int.f a0).bind fun t248=>((cmp_isNaN_int.f a1).bind fun t249=>(if t248=true then (if t249=true then (some 0) else (some (-1))) else (if t249=true then (some 1) else (if a0 < a1 then (some (-1)) else (if a0 > a1 then (some 1) else (some 0)))))))=some r:=h
 clear h;replace H:=Option.bind_eq_some_iff.mp H
 obtain ⟨t248,A30,H⟩:=H
 replace H:((cmp_isNaN_int.f a1).bind fun t249=>(if t248=true then (if t249=true then (some 0) else (some (-1))) else (if t249=true then (some 1) else (if a0 < a1 then (some (-1)) else (if a0 > a1 then (some 1) else (some 0))))))=some r:=H
 have A3:=am' A30
 clear A30;replace H:=Option.bind_eq_some_iff.mp H
 obtain ⟨t249,A40,H⟩:=H
 replace H:(if t248=true then (if t249=true then (some 0) else (some (-1))) else (if t249=true then (some 1) else (if a0 < a1 then (some (-1)) else (if a0 > a1 then (some 1) else (some 0)))))=some r:=H
 have A4:=am' A40
 clear A40;by_cases c5:t248=true
 ·
  subst c5;have H1:(if t249=true then (some 0) else (some (-1)))=some r:=by rw[if_pos rfl] at H;exact H
  clear H;have H:=H1;clear H1;by_cases c6:t249=true
  ·
   subst c6;have H1:(some 0)=some r:=by rw[if_pos rfl] at H;exact H
   clear H;have H:=H1;clear H1;obtain rfl:=os' H;go_enter Try.func92,Try.ntmps92;go_wp2_with (first|((with_reducible refine gate_callee (f:=98) rfl ?_);refine goesL_ (some 8) rfl rfl Try.func98 xk' rfl #[.int .i64 a0] rfl xl' ?_;(with_reducible refine (cmp_isNaN_int.calls a0 true _ A3.out).mono ?_);rintro e w' ⟨rfl,⟨nd,rfl⟩⟩;refine ⟨_,rfl,?_⟩)|((with_reducible refine gate_callee (f:=98) rfl ?_);refine goesL_ (some 10) rfl rfl Try.func98 xk' rfl #[.int .i64 a1] rfl xl' ?_;(with_reducible refine (cmp_isNaN_int.calls a1 true _ A4.out).mono ?_);rintro e w' ⟨rfl,⟨nd,rfl⟩⟩;refine ⟨_,rfl,?_⟩));go_ret
   exact ⟨xs',by repeat (first|exact Drawn0.refl _|apply Drawn0.step)⟩
  ·
   replace c6:=Bool.eq_false_iff.mpr c6;subst c6;have H1:(some (-1))=some r:=by rw[if_neg (show ¬ (false=true) by decide)] at H;exact H
   clear H;have H:=H1;clear H1;obtain rfl:=os' H;go_enter Try.func92,Try.ntmps92;go_wp2_with (first|((with_reducible refine gate_callee (f:=98) rfl ?_);refine goesL_ (some 8) rfl rfl Try.func98 xk' rfl #[.int .i64 a0] rfl xl' ?_;(with_reducible refine (cmp_isNaN_int.calls a0 true _ A3.out).mono ?_);rintro e w' ⟨rfl,⟨nd,rfl⟩⟩;refine ⟨_,rfl,?_⟩)|((with_reducible refine gate_callee (f:=98) rfl ?_);refine goesL_ (some 10) rfl rfl Try.func98 xk' rfl #[.int .i64 a1] rfl xl' ?_;(with_reducible refine (cmp_isNaN_int.calls a1 false _ A4.out).mono ?_);rintro e w' ⟨rfl,⟨nd,rfl⟩⟩;refine ⟨_,rfl,?_⟩));go_ret
   exact ⟨xs',by repeat (first|exact Drawn0.refl _|apply Drawn0.step)⟩
 ·
  replace c5:=Bool.eq_false_iff.mpr c5;subst c5;have H1:(if t249=true then (some 1) else (if a0 < a1 then (some (-1)) else (if a0 > a1 then (some 1) else (some 0))))=some r:=by rw[if_neg (show ¬ (false=true) by decide)] at H;exact H
  clear H;have H:=H1;clear H1;by_cases c7:t249=true
  ·
   subst c7;have H1:(some 1)=some r:=by rw[if_pos rfl] at H;exact H
   clear H;have H:=H1;clear H1;obtain rfl:=os' H;go_enter Try.func92,Try.ntmps92;go_wp2_with (first|((with_reducible refine gate_callee (f:=98) rfl ?_);refine goesL_ (some 8) rfl rfl Try.func98 xk' rfl #[.int .i64 a0] rfl xl' ?_;(with_reducible refine (cmp_isNaN_int.calls a0 false _ A3.out).mono ?_);rintro e w' ⟨rfl,⟨nd,rfl⟩⟩;refine ⟨_,rfl,?_⟩)|((with_reducible refine gate_callee (f:=98) rfl ?_);refine goesL_ (some 10) rfl rfl Try.func98 xk' rfl #[.int .i64 a1] rfl xl' ?_;(with_reducible refine (cmp_isNaN_int.calls a1 true _ A4.out).mono ?_);rintro e w' ⟨rfl,⟨nd,rfl⟩⟩;refine ⟨_,rfl,?_⟩));go_ret
   exact ⟨xs',by repeat (first|exact Drawn0.refl _|apply Drawn0.step)⟩
  ·
   replace c7:=Bool.eq_false_iff.mpr c7;subst c7;have H1:(if a0 < a1 then (some (-1)) else (if a0 > a1 then (some 1) else (some 0)))=some r:=by rw[if_neg (show ¬ (false=true) by decide)] at H;exact H
   clear H;have H:=H1;clear H1;by_cases c8:a0 < a1
   ·
    rw[if_pos c8] at H;have c8b0:decide (a0 < a1)=true:=dt' c8;clear c8;obtain rfl:=os' H;go_enter Try.func92,Try.ntmps92;go_wp2_with (first|((with_reducible refine gate_callee (f:=98) rfl ?_);refine goesL_ (some 8) rfl rfl Try.func98 xk' rfl #[.int .i64 a0] rfl xl' ?_;(with_reducible refine (cmp_isNaN_int.calls a0 false _ A3.out).mono ?_);rintro e w' ⟨rfl,⟨nd,rfl⟩⟩;refine ⟨_,rfl,?_⟩)|((with_reducible refine gate_callee (f:=98) rfl ?_);refine goesL_ (some 10) rfl rfl Try.func98 xk' rfl #[.int .i64 a1] rfl xl' ?_;(with_reducible refine (cmp_isNaN_int.calls a1 false _ A4.out).mono ?_);rintro e w' ⟨rfl,⟨nd,rfl⟩⟩;refine ⟨_,rfl,?_⟩));go_ret
    exact ⟨xs',by repeat (first|exact Drawn0.refl _|apply Drawn0.step)⟩
   ·
    rw[if_neg c8] at H;have c8b0:decide (a0 < a1)=false:=df' c8;clear c8;by_cases c9:a0 > a1
    ·
     rw[if_pos c9] at H;have c9b0:decide (a1 < a0)=true:=dt' c9;clear c9;obtain rfl:=os' H;go_enter Try.func92,Try.ntmps92;go_wp2_with (first|((with_reducible refine gate_callee (f:=98) rfl ?_);refine goesL_ (some 8) rfl rfl Try.func98 xk' rfl #[.int .i64 a0] rfl xl' ?_;(with_reducible refine (cmp_isNaN_int.calls a0 false _ A3.out).mono ?_);rintro e w' ⟨rfl,⟨nd,rfl⟩⟩;refine ⟨_,rfl,?_⟩)|((with_reducible refine gate_callee (f:=98) rfl ?_);refine goesL_ (some 10) rfl rfl Try.func98 xk' rfl #[.int .i64 a1] rfl xl' ?_;(with_reducible refine (cmp_isNaN_int.calls a1 false _ A4.out).mono ?_);rintro e w' ⟨rfl,⟨nd,rfl⟩⟩;refine ⟨_,rfl,?_⟩));go_ret
     exact ⟨xs',by repeat (first|exact Drawn0.refl _|apply Drawn0.step)⟩
    ·
     rw[if_neg c9] at H;have c9b0:decide (a1 < a0)=false:=df' c9;clear c9;obtain rfl:=os' H;go_enter Try.func92,Try.ntmps92;go_wp2_with (first|((with_reducible refine gate_callee (f:=98) rfl ?_);refine goesL_ (some 8) rfl rfl Try.func98 xk' rfl #[.int .i64 a0] rfl xl' ?_;(with_reducible refine (cmp_isNaN_int.calls a0 false _ A3.out).mono ?_);rintro e w' ⟨rfl,⟨nd,rfl⟩⟩;refine ⟨_,rfl,?_⟩)|((with_reducible refine gate_callee (f:=98) rfl ?_);refine goesL_ (some 10) rfl rfl Try.func98 xk' rfl #[.int .i64 a1] rfl xl' ?_;(with_reducible refine (cmp_isNaN_int.calls a1 false _ A4.out).mono ?_);rintro e w' ⟨rfl,⟨nd,rfl⟩⟩;refine ⟨_,rfl,?_⟩));go_ret
     exact ⟨xs',by repeat (first|exact Drawn0.refl _|apply Drawn0.step)⟩
def slices_Compare_int_int.l0:Nat→List Int→List Int→List Int→Int→Int→Option (Int)
 | 0,_,_,_,_,_=>none
 | k+1,x0,x1,x9,x10,x11=>if x11 < x10 then (if 0≤x11 then (if x11 < (x9.length:Int) then (if x11 ≥ (x1.length:Int) then (some 1) else (if x11 < (x1.length:Int) then ((cmp_Compare_int.f (rd x9 x11) (rd x1 x11)).bind fun t252=>(if t252=0 then (slices_Compare_int_int.l0 k x0 x1 x9 x10 (wrap64 (x11+1))) else (some t252))) else (none))) else (none)) else (none)) else (if (x0.length:Int) < (x1.length:Int) then (some (-1)) else (some 0))
def slices_Compare_int_int.f (k:Nat) (l0:List Int) (l1:List Int):Option (Int):=slices_Compare_int_int.l0 k l0 l1 l0 (l0.length:Int) 0
set_option maxHeartbeats 8000000 in
set_option maxRecDepth 100000 in
theorem slices_Compare_int_int.calls (k:Nat) (A0:Option Addr) (c0:Nat) (l0:List Int) (A1:Option Addr) (c1:Nat) (l1:List Int) (r:Int) (w:World) (hr0:Kd.C (Kd.int .i64) w A0 l0.length l0) (hc0:l0.length≤c0) (hr1:Kd.C (Kd.int .i64) w A1 l1.length l1) (hc1:l1.length≤c1) (h:slices_Compare_int_int.f k l0 l1=some r) :
  Calls Try.prog 78 #[.slice A0 l0.length c0, .slice A1 l1.length c1] w fun e w'=>e = .returned (.int .i64 r)∧Drawn0 w w':=by
 have HR0:=am' hr0
 have HC0:=am' hc0
 clear hr0 hc0;have HR1:=am' hr1
 have HC1:=am' hc1
 clear hr1 hc1;have H:(slices_Compare_int_int.l0 k l0 l1 l0 (l0.length:Int) 0)=some r:=h
 clear h;have H':=am' H
 clear H;go_enter Try.func78,Try.ntmps78
 go_wp2
 go_loopg [11] k (fun kq v11 w'=>∃ (x11_1:Int),v11 = .int .i64 x11_1∧Aside0 (slices_Compare_int_int.l0 kq l0 l1 l0 (l0.length:Int) x11_1=some r)∧Aside0 (kq≤k)∧Drawn0 w w')
 case atStart=>exact ⟨(0),xs',H',⟨Nat.le_refl _⟩,by repeat (first|exact Drawn0.refl _|apply Drawn0.step)⟩
 case round =>
  clear H';try clear c1
  try clear p2
  obtain ⟨x11_1,rfl,HA,HK1,⟨m1,rfl⟩⟩:=hrel;cases gk with
  | zero=>exact absurd HA.out (by simp[slices_Compare_int_int.l0])
  | succ k1 =>
   have H:=HA.out;clear HA;simp only[slices_Compare_int_int.l0] at H;by_cases c3:x11_1 < (l0.length:Int)
   ·
    rw[if_pos c3] at H;have c3b0:decide (x11_1 < (l0.length:Int))=true:=dt' c3;clear c3;by_cases c4:0≤x11_1
    ·
     rw[if_pos c4] at H;have c4b0:decide (0≤x11_1)=true:=dt' c4;clear c4;by_cases c5:x11_1 < (l0.length:Int)
     ·
      rw[if_pos c5] at H;have c5b0:decide (x11_1 < (l0.length:Int))=true:=dt' c5;clear c5;by_cases c6:x11_1 ≥ (l1.length:Int)
      ·
       rw[if_pos c6] at H;have c6b0:decide ((l1.length:Int)≤x11_1)=true:=dt' c6;clear c6;obtain rfl:=os' H;have p250:0≤(x11_1:Int):=od' xa';have q250:x11_1 < (l0.length:Int):=od' xa';obtain ⟨ad250,e250,hx250_0⟩:=Kd.at_int HR0.out x11_1 p250 q250;cases e250;replace p250:=eq_true p250;replace q250:=eq_true q250;go_wp2;go_ret
       exact ⟨xs',by repeat (first|exact Drawn0.refl _|apply Drawn0.step)⟩
      ·
       rw[if_neg c6] at H;have c6b0:decide ((l1.length:Int)≤x11_1)=false:=df' c6;clear c6;by_cases c7:x11_1 < (l1.length:Int)
       ·
        rw[if_pos c7] at H;have c7b0:decide (x11_1 < (l1.length:Int))=true:=dt' c7;clear c7;replace H:=Option.bind_eq_some_iff.mp H;obtain ⟨t252,A80,H⟩:=H;replace H:(if t252=0 then (slices_Compare_int_int.l0 k1 l0 l1 l0 (l0.length:Int) (wrap64 (x11_1+1))) else (some t252))=some r:=H;have A8:=am' A80;clear A80;by_cases c9:t252=0
        ·
         rw[if_pos c9] at H;have c9b0:(t252 == 0)=true:=beq_iff_eq.mpr c9;have c9b1:(t252 != 0)=false:=bne_eq_false_iff_eq.mpr c9;clear c9;have H':=am' H;clear H;have p250:0≤(x11_1:Int):=od' xa';have q250:x11_1 < (l0.length:Int):=od' xa';obtain ⟨ad250,e250,hx250_0⟩:=Kd.at_int HR0.out x11_1 p250 q250;cases e250;replace p250:=eq_true p250;replace q250:=eq_true q250;have p251:0≤(x11_1:Int):=od' xa';have q251:x11_1 < (l1.length:Int):=od' xa';obtain ⟨ad251,e251,hx251_0⟩:=Kd.at_int HR1.out x11_1 p251 q251;cases e251;replace p251:=eq_true p251;replace q251:=eq_true q251;go_wp2_with (first|((with_reducible refine gate_callee (f:=92) rfl ?_);refine goesL_ (some 26) rfl rfl Try.func92 xk' rfl #[.int .i64 (rd l0 x11_1), .int .i64 (rd l1 x11_1)] rfl xl' ?_;(with_reducible refine (cmp_Compare_int.calls (rd l0 x11_1) (rd l1 x11_1) t252 _ A8.out).mono ?_);rintro e w' ⟨rfl,⟨nd,rfl⟩⟩;refine ⟨_,rfl,?_⟩));go_roundg k1
         case measure=>have:=HK1.out;omega
         case rel=>exact ⟨(wrap64 (x11_1+1)),xs',H',⟨by have:=HK1.out;omega⟩,by repeat (first|exact Drawn0.refl _|apply Drawn0.step)⟩
        ·
         rw[if_neg c9] at H;have c9b0:(t252 == 0)=false:=beq_eq_false_iff_ne.mpr c9;have c9b1:(t252 != 0)=true:=bne_iff_ne.mpr c9;obtain rfl:=os' H;have p250:0≤(x11_1:Int):=od' xa';have q250:x11_1 < (l0.length:Int):=od' xa';obtain ⟨ad250,e250,hx250_0⟩:=Kd.at_int HR0.out x11_1 p250 q250;cases e250;replace p250:=eq_true p250;replace q250:=eq_true q250;have p251:0≤(x11_1:Int):=od' xa';have q251:x11_1 < (l1.length:Int):=od' xa';obtain ⟨ad251,e251,hx251_0⟩:=Kd.at_int HR1.out x11_1 p251 q251;cases e251;replace p251:=eq_true p251;replace q251:=eq_true q251;go_wp2_with (first|((with_reducible refine gate_callee (f:=92) rfl ?_);refine goesL_ (some 26) rfl rfl Try.func92 xk' rfl #[.int .i64 (rd l0 x11_1), .int .i64 (rd l1 x11_1)] rfl xl' ?_;(with_reducible refine (cmp_Compare_int.calls (rd l0 x11_1) (rd l1 x11_1) t252 _ A8.out).mono ?_);rintro e w' ⟨rfl,⟨nd,rfl⟩⟩;refine ⟨_,rfl,?_⟩));go_ret
         exact ⟨xs',by repeat (first|exact Drawn0.refl _|apply Drawn0.step)⟩
       ·
        rw[if_neg c7] at H;exact absurd H (by simp)
     ·
      rw[if_neg c5] at H;exact absurd H (by simp)
    ·
     rw[if_neg c4] at H;exact absurd H (by simp)
   ·
    rw[if_neg c3] at H;have c3b0:decide (x11_1 < (l0.length:Int))=false:=df' c3;clear c3;by_cases c10:(l0.length:Int) < (l1.length:Int)
    ·
     rw[if_pos c10] at H;have c10b0:decide ((l0.length:Int) < (l1.length:Int))=true:=dt' c10;have c10b1:decide (l0.length < l1.length)=true:=dt' (Int.ofNat_lt.mp c10);clear c10;obtain rfl:=os' H;go_wp2;go_ret
     exact ⟨xs',by repeat (first|exact Drawn0.refl _|apply Drawn0.step)⟩
    ·
     rw[if_neg c10] at H;have c10b0:decide ((l0.length:Int) < (l1.length:Int))=false:=df' c10;have c10b1:decide (l0.length < l1.length)=false:=df' (fun h=>c10 (Int.ofNat_lt.mpr h));clear c10;obtain rfl:=os' H;go_wp2;go_ret
     exact ⟨xs',by repeat (first|exact Drawn0.refl _|apply Drawn0.step)⟩
def slices_Index_int_int.f (l0:List Int) (a1:Int):Option Int:=some (idxF (fun x=>a1 == x) l0)
set_option maxHeartbeats 2000000 in
set_option maxRecDepth 100000 in
theorem slices_Index_int_int.calls (A0:Option Addr) (c0:Nat) (l0:List Int) (a1:Int) (r:Int) (w:World) (hr0:Kd.C (Kd.int .i64) w A0 l0.length l0) (hc0:l0.length≤c0) (h:slices_Index_int_int.f l0 a1=some r) :
  Calls Try.prog 103 #[.slice A0 l0.length c0, .int .i64 a1] w fun e w'=>e = .returned (.int .i64 r)∧Below w.heap.size w w':=by
 obtain rfl:idxF (fun x=>a1 == x) l0=r:=os' h
 have hbig:=hr0.2.1
 have HR:=am' hr0
 clear hr0 h hc0;go_enter Try.func103,Try.ntmps103
 go_wp2
 go_loopg [5,8] l0.length (fun gg _ s8 wr=>∃ kk:Nat,kk≤l0.length∧l0.length - kk≤gg∧s8 = .int .i64 kk∧Aside0 (Below w.heap.size w wr)∧Aside0 (∀ j,j < kk→(a1 == rd l0 (j:Nat))=false))
 case atStart=>exact ⟨0,Nat.zero_le _,by omega,rfl,⟨Below.refl _ w⟩,⟨fun j hj=>absurd hj (Nat.not_lt_zero _)⟩⟩
 case round =>
  obtain ⟨kk,hkk,hg,rfl,BW,AA⟩:=hrel;by_cases hlt:kk < l0.length
  ·
   have hltz:(kk:Int) < (l0.length:Int):=by omega
   obtain ⟨ad,e0,hx0⟩:=Kd.at_int HR.out (kk:Int) (by omega) hltz;cases e0;have hx:=(BW.out.cell (bl' w _ hx0)).trans hx0;clear hx0;rw[Int.toNat_natCast] at hx;generalize hy:rd l0 kk=y at hx
   have B:Aside0 (rd l0 kk=y):=⟨hy⟩
   clear hy;cases hq:(a1 == y) with
   | true =>
    go_wp2;go_ret
    refine ⟨?_,BW.out⟩;rw[idxF_hit _ l0 kk hlt (by rw[B.out];exact hq) AA.out];rfl
   | false =>
    go_wp2;go_roundg (l0.length - (kk+1))
    case measure=>omega
    case rel =>
     refine ⟨kk+1,by omega,by omega,by go_num,BW,⟨fun j hj=>?_⟩⟩;by_cases e:j=kk
     ·
      subst e;rw[B.out];exact hq
     ·
      exact AA.out j (by omega)
  ·
   have hltz:¬ (kk:Int) < (l0.length:Int):=by omega
   have:kk=l0.length:=by omega
   subst this;go_wp2;go_ret
   refine ⟨?_,BW.out⟩;rw[idxF_miss _ l0 AA.out];rfl
def slices_Contains_int_int.f (l0:List Int) (a1:Int):Option Bool:=some (l0.any fun x=>a1 == x)
set_option maxHeartbeats 2000000 in
set_option maxRecDepth 100000 in
theorem slices_Contains_int_int.calls (A0:Option Addr) (c0:Nat) (l0:List Int) (a1:Int) (r:Bool) (w:World) (hr0:Kd.C (Kd.int .i64) w A0 l0.length l0) (hc0:l0.length≤c0) (h:slices_Contains_int_int.f l0 a1=some r) :
  Calls Try.prog 100 #[.slice A0 l0.length c0, .int .i64 a1] w fun e w'=>e = .returned (.bool r)∧Below w.heap.size w w':=by
 obtain rfl:(l0.any fun x=>a1 == x)=r:=os' h
 have HH:=am' (slices_Index_int_int.calls A0 c0 l0 a1 _ w hr0 hc0 rfl)
 clear hr0 h;go_enter Try.func100,Try.ntmps100
 go_wp2_with (go_at_call 103;refine HH.out.mono ?_;rintro e w' ⟨rfl,hb⟩)
 go_ret
 refine ⟨?_,hb⟩
 rw[← idxF_any]
 rfl
theorem share1_calls (x:Int) (b1:Nat) (A:Option Addr) (c:Nat) (l1:List Int) (w:World) (h1:w.cell? ⟨b1,0,none⟩=some (.slice A l1.length c)) (hr:Kd.C (Kd.int .i64) w A l1.length l1) (hc:l1.length≤c) :
  Calls Try.prog 99 #[.int .i64 x, .pointer (some ⟨b1,0,none⟩)] w fun e w'=>e = .returned (.bool (l1.any fun y=>x == y))∧Below w.heap.size w w':=by
 have HH:=am' (slices_Contains_int_int.calls A c l1 x _ w hr hc rfl)
 clear hr hc;go_enter Try.func99,Try.ntmps99
 go_wp2_with (go_at_call 100;refine HH.out.mono ?_;rintro e w' ⟨rfl,hb⟩)
 go_ret
 exact ⟨rfl,hb⟩
def impl_share.f (l0 l1:List Int):Option Bool:=some (l0.any fun x=>l1.any fun y=>x == y)
set_option maxHeartbeats 2000000 in
set_option maxRecDepth 100000 in
theorem impl_share.calls (A0:Option Addr) (c0:Nat) (l0:List Int) (A1:Option Addr) (c1:Nat) (l1:List Int) (r:Bool) (w:World) (hr0:Kd.C (Kd.int .i64) w A0 l0.length l0) (hc0:l0.length≤c0) (hr1:Kd.C (Kd.int .i64) w A1 l1.length l1) (hc1:l1.length≤c1) (h:impl_share.f l0 l1=some r) :
  Calls Try.prog 93 #[.slice A0 l0.length c0, .slice A1 l1.length c1] w fun e w'=>e = .returned (.bool r)∧Below w.heap.size w w':=by
 obtain rfl:(l0.any fun x=>l1.any fun y=>x == y)=r:=os' h
 have HC:=am' (fun (w1:World) (h1:Below w.heap.size w w1) (b1:Nat) (e1:w1.cell? ⟨b1,0,none⟩=some (.slice A1 l1.length c1)) =>
  ContainsFunc_any 99 #[.pointer (some ⟨b1,0,none⟩)] (fun x=>l1.any fun y=>x == y) (enters_of Try.func99 xk' rfl) A0 c0 l0 w1 (cb' hr0 h1) hc0 hr0.2.1 (fun x _ W hb=>share1_calls x b1 A1 c1 l1 W ((hb.cell (bl' w1 _ e1)).trans e1) (cb' (cb' hr1 h1) hb) hc1))
 clear hr0 hr1 h;go_enter Try.func93,Try.ntmps93
 go_wp2_with (fail)
 refine (HC.out _ (ba' (Below.refl _ _) _) _ ((bc' (heap_alloc_new _ _) 0).trans rfl)).mono ?_
 rintro e w2 ⟨rfl,hb2⟩
 have HB2:=am' (after_alloc hb2).1
 clear hb2;go_wp2
 go_ret
 exact ⟨rfl,HB2.out⟩
end Go.Proofs.Ytdomojenlofieaa.C2
