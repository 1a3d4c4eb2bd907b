import Derived.Test.YtdomojenlofieaaC1zx0
import Derived.Test.YtdomojenlofieaaC1zx5
import Derived.Test.YtdomojenlofieaaC1zAl
namespace Go.Proofs.Ytdomojenlofieaa.C1
open Go.RowKit Go.Proofs.YtdomojenlofieaaW.PrintWords Go.Proofs.YtdomojenlofieaaW.PrintLast Go.Proofs.YtdomojenlofieaaW.PrintMore Go.Proofs.Ytdomojenlofieaa.H
attribute [local go_sem] max2_int min2_int max_two min_two max_three min_three max_four min_four
set_option linter.unusedVariables false
set_option linter.unusedSimpArgs false
def impl_rises.l0:Nat→List Int→Int→Option (Bool)
 | 0,_,_=>none
 | k+1,x0,x3=>if x3 < (x0.length:Int) then (if 0≤x3 then (if 0≤(wrap64 (x3 - 1)) then (if (wrap64 (x3 - 1)) < (x0.length:Int) then (if (rd x0 x3)≤(rd x0 (wrap64 (x3 - 1))) then (some false) else (impl_rises.l0 k x0 (wrap64 (x3+1)))) else (none)) else (none)) else (none)) else (some true)
def impl_rises.f (k:Nat) (l0:List Int):Option (Bool):=impl_rises.l0 k l0 1
set_option maxHeartbeats 8000000 in
set_option maxRecDepth 100000 in
theorem impl_rises.calls (k:Nat) (A0:Option Addr) (c0:Nat) (l0:List Int) (r:Bool) (w:World) (hr0:Kd.C (Kd.int .i64) w A0 l0.length l0) (hc0:l0.length≤c0) (h:impl_rises.f k l0=some r) :
  Calls Try.prog 90 #[.slice A0 l0.length c0] w fun e w'=>e = .returned (.bool r)∧Drawn0 w w':=by
 have HR0:=am' hr0
 have HC0:=am' hc0
 clear hr0 hc0;have H:(impl_rises.l0 k l0 1)=some r:=h
 clear h;have H':=am' H
 clear H;go_enter Try.func90,Try.ntmps90
 go_wp2
 repeat (go_quiet (fail);try go_wp2)
 go_loopg [3] k (fun kq v3 w'=>∃ (x3_1:Int),v3 = .int .i64 x3_1∧Aside0 (impl_rises.l0 kq l0 x3_1=some r)∧Aside0 (kq≤k)∧Drawn0 w w')
 case atStart=>exact ⟨(1),(by first|rfl|(simp;done)|(simp[*];done)),H',⟨Nat.le_refl _⟩,by repeat (first|exact Drawn0.refl _|apply Drawn0.step)⟩
 case round =>
  clear H';obtain ⟨x3_1,rfl,HA,HK1,⟨m1,rfl⟩⟩:=hrel;cases gk with
  | zero=>exact absurd HA.out (by simp[impl_rises.l0])
  | succ k1 =>
   have H:=HA.out;clear HA;simp only[impl_rises.l0] at H;by_cases c2:x3_1 < (l0.length:Int)
   ·
    rw[if_pos c2] at H;have c2b0:decide (x3_1 < (l0.length:Int))=true:=decide_eq_true c2;clear c2;by_cases c3:0≤x3_1
    ·
     rw[if_pos c3] at H;have c3b0:decide (0≤x3_1)=true:=decide_eq_true c3;clear c3;obtain ⟨ji4,hji4⟩:∃ j_:Int,(wrap64 (x3_1 - 1))=j_:=⟨_,rfl⟩
     replace H:(if 0≤(ji4) then (if (ji4) < (l0.length:Int) then (if (rd l0 x3_1)≤(rd l0 (ji4)) then (some false) else (impl_rises.l0 k1 l0 (wrap64 (x3_1+1)))) else (none)) else (none))=some r:=by first|(rw[hji4] at H;exact H)|(simp only[hji4] at H ⊢;exact H)
     have hji4w:(IntKind.i64.wrap (x3_1 - 1))=ji4:=(i64_w _).trans hji4;by_cases c5:0≤(ji4)
     ·
      rw[if_pos c5] at H;have c5b0:decide (0≤(ji4))=true:=decide_eq_true c5;clear c5;by_cases c6:(ji4) < (l0.length:Int)
      ·
       rw[if_pos c6] at H;have c6b0:decide ((ji4) < (l0.length:Int))=true:=decide_eq_true c6;clear c6;by_cases c7:(rd l0 x3_1)≤(rd l0 (ji4))
       ·
        rw[if_pos c7] at H;have c7b0:decide ((rd l0 x3_1)≤(rd l0 (ji4)))=true:=decide_eq_true c7;clear c7;obtain rfl:=Option.some.inj H;have p212:0≤(x3_1:Int):=of_decide_eq_true (by first|(with_reducible assumption)|assumption);have q212:x3_1 < (l0.length:Int):=of_decide_eq_true (by first|(with_reducible assumption)|assumption);obtain ⟨ad212,e212,hx212_0⟩:=Kd.at_int HR0.out x3_1 p212 q212;cases e212;replace p212:=eq_true p212;replace q212:=eq_true q212;have p213:0≤((ji4):Int):=of_decide_eq_true (by first|(with_reducible assumption)|assumption);have q213:(ji4) < (l0.length:Int):=of_decide_eq_true (by first|(with_reducible assumption)|assumption);obtain ⟨ad213,e213,hx213_0⟩:=Kd.at_int HR0.out (ji4) p213 q213;obtain rfl:ad212=ad213:=(by injection e213)
        replace p213:=eq_true p213;replace q213:=eq_true q213;go_wp2
        repeat (go_quiet (fail);try go_wp2)
        go_ret
        exact ⟨by first|rfl|(simp;done)|(simp only[← hji4] <;> (first|rfl|simp))|(simp[*];done),by repeat (first|exact Drawn0.refl _|apply Drawn0.step)⟩
       ·
        rw[if_neg c7] at H;have c7b0:decide ((rd l0 x3_1)≤(rd l0 (ji4)))=false:=decide_eq_false c7;clear c7;have H':=am' H;clear H;have p212:0≤(x3_1:Int):=of_decide_eq_true (by first|(with_reducible assumption)|assumption);have q212:x3_1 < (l0.length:Int):=of_decide_eq_true (by first|(with_reducible assumption)|assumption);obtain ⟨ad212,e212,hx212_0⟩:=Kd.at_int HR0.out x3_1 p212 q212;cases e212;replace p212:=eq_true p212;replace q212:=eq_true q212;have p213:0≤((ji4):Int):=of_decide_eq_true (by first|(with_reducible assumption)|assumption);have q213:(ji4) < (l0.length:Int):=of_decide_eq_true (by first|(with_reducible assumption)|assumption);obtain ⟨ad213,e213,hx213_0⟩:=Kd.at_int HR0.out (ji4) p213 q213;obtain rfl:ad212=ad213:=(by injection e213)
        replace p213:=eq_true p213;replace q213:=eq_true q213;go_wp2
        repeat (go_quiet (fail);try go_wp2)
        go_roundg k1
        case measure=>have:=HK1.out;omega
        case rel=>exact ⟨(wrap64 (x3_1+1)),(by first|rfl|(simp;done)|(simp[*];done)),H',⟨by have:=HK1.out;omega⟩,by repeat (first|exact Drawn0.refl _|apply Drawn0.step)⟩
      ·
       rw[if_neg c6] at H;exact absurd H (by simp)
     ·
      rw[if_neg c5] at H;exact absurd H (by simp)
    ·
     rw[if_neg c3] at H;exact absurd H (by simp)
   ·
    rw[if_neg c2] at H;have c2b0:decide (x3_1 < (l0.length:Int))=false:=decide_eq_false c2;clear c2;obtain rfl:=Option.some.inj H;go_wp2
    repeat (go_quiet (fail);try go_wp2)
    go_ret
    exact ⟨by first|rfl|(simp;done)|(simp[*];done),by repeat (first|exact Drawn0.refl _|apply Drawn0.step)⟩
def impl_Party_isTrip.f (k:Nat) (l0_0:List Int) (a0_1:Int) (l1:List Int):Option (Bool):=(impl_areIn.f l1 0 (wrap64 ((l0_0.length:Int) - 1)) 1 a0_1).bind fun t215=>(if t215=true then ((impl_rises.f k l1).bind fun t216=>(some t216)) else (some false))
set_option maxHeartbeats 8000000 in
set_option maxRecDepth 100000 in
theorem impl_Party_isTrip.calls (k:Nat) (A0_0:Option Addr) (c0_0:Nat) (l0_0:List Int) (a0_1:Int) (A1:Option Addr) (c1:Nat) (l1:List Int) (r:Bool) (w:World) (hr0_0:Kd.C (Kd.int .i64) w A0_0 l0_0.length l0_0) (hc0_0:l0_0.length≤c0_0) (hr1:Kd.C (Kd.int .i64) w A1 l1.length l1) (hc1:l1.length≤c1) (h:impl_Party_isTrip.f k l0_0 a0_1 l1=some r) :
  Calls Try.prog 96 #[.agg #[.slice A0_0 l0_0.length c0_0, .int .i64 a0_1], .slice A1 l1.length c1] w fun e w'=>e = .returned (.bool r)∧Below w.heap.size w w':=by
 have hu52:=Try.underlying52
 have HR0_0:=am' hr0_0
 have HC0_0:=am' hc0_0
 clear hr0_0 hc0_0;have HR1:=am' hr1
 have HC1:=am' hc1
 clear hr1 hc1;have HB:=am' (Below.refl w.heap.size w)
 have H:((impl_areIn.f l1 0 (wrap64 ((l0_0.length:Int) - 1)) 1 a0_1).bind fun t215=>(if t215=true then ((impl_rises.f k l1).bind fun t216=>(some t216)) else (some false)))=some r:=h
 clear h;replace H:=Option.bind_eq_some_iff.mp H
 obtain ⟨t215,A30,H⟩:=H
 replace H:(if t215=true then ((impl_rises.f k l1).bind fun t216=>(some t216)) else (some false))=some r:=H
 have A3:=am' A30
 clear A30;by_cases c4:t215=true
 ·
  subst c4;have H1:((impl_rises.f k l1).bind fun t216=>(some t216))=some r:=by rw[if_pos rfl] at H;exact H
  clear H;have H:=H1;clear H1;replace H:=Option.bind_eq_some_iff.mp H;obtain ⟨t216,A50,H⟩:=H;replace H:(some t216)=some r:=H;have A5:=am' A50;clear A50;obtain rfl:=Option.some.inj H;go_enter Try.func96,Try.ntmps96;go_wp2_with (first|((with_reducible refine gate_dst (N:=2) rfl ?_);refine box_event ?hg (N:=2) ?hd (cs:=#[.slice A0_0 l0_0.length c0_0, .int .i64 a0_1]) (t:=52) ?hr ?_;(case hd=>rfl);(case hg=>rfl);(case hr=>first|(go_simp;done)|(go_simp;rfl));intro gb214 hg w6 hbox hb;have n0_:=am' (below_step (by repeat (first|(with_reducible first|exact HB.out|apply ba'|apply bd'|apply be')|exact HB.out)) hb);have n1_:=am' (hbox);have n2_:=am' ((by rw[hg];exact (below_size (by repeat (first|(with_reducible first|exact HB.out|apply ba'|apply bd'|apply be')|exact HB.out))):w.heap.size≤gb214));have n3_:=am' ((by rw[hg];exact (below_size (by repeat (first|(with_reducible first|exact HB.out|apply ba'|apply bd'|apply be')|exact HB.out))):w.heap.size≤gb214));clear HB;have HB:=n0_;have BK214:=n1_;have GW214:=n2_;have GE214:=n3_;clear n0_ n1_ n2_ n3_;clear hb hbox hg;have hcz7_0:w6.cell? ⟨gb214,0,none⟩=some (.slice A0_0 l0_0.length c0_0):=(blk_cell BK214.out 0).trans rfl;have hcz7_1:w6.cell? ⟨gb214,1,none⟩=some (.int .i64 a0_1):=(blk_cell BK214.out 1).trans rfl;have hfz7_0:=blk_frozen BK214.out 0;have hfz7_1:=blk_frozen BK214.out 1)|((with_reducible refine gate_callee (f:=65) rfl ?_);refine goesL_ (some 12) rfl rfl Try.func65 (by kernel_rfl) rfl #[.slice A1 l1.length c1, .int .i64 0, .int .i64 (wrap64 ((l0_0.length:Int) - 1)), .int .i64 1, .int .i64 a0_1] rfl (by (try simp only[List.map_toArray,List.map_cons,List.map_nil]);first|done|rfl|(simp only[List.length_drop,List.length_take];rfl)) ?_;(with_reducible refine (impl_areIn.calls _ _ l1 0 (wrap64 ((l0_0.length:Int) - 1)) 1 a0_1 true _ ?side1 ?side2 A3.out).mono ?_);(case side1=>repeat (first|exact (Kd.C_below HR1.out HB.out)|(with_reducible refine ca' ?_ _)|(with_reducible refine cn' ?_ _)|(with_reducible refine cd' ?_)));(case side2=>exact HC1.out);rintro e w8 ⟨rfl,hb⟩;refine ⟨_,rfl,?_⟩;have n0_:=am' (blk_below (g:=gb214) (o := .cells #[.slice A0_0 l0_0.length c0_0, .int .i64 a0_1] 52 (0,0)) (by (with_reducible repeat (first|refine kn' ?_ _|refine kd' ?_|refine ka' ?_ _));exact BK214.out) hb);have n1_:=am' (below_step (by repeat (first|(with_reducible first|exact HB.out|apply ba'|apply bd'|apply be'|refine bs' ?_ GE214.out)|exact HB.out)) hb);clear BK214;clear HB;have BK214:=n0_;have HB:=n1_;clear n0_ n1_;(try clear hb);(try clear hb2);(try clear hk);(try clear hi))|(go_at_call 90;(with_reducible refine (impl_rises.calls k _ _ l1 t216 _ ?side1 ?side2 A5.out).mono ?_);(case side1=>repeat (first|exact (Kd.C_below HR1.out HB.out)|(with_reducible refine ca' ?_ _)|(with_reducible refine cn' ?_ _)|(with_reducible refine cd' ?_)));(case side2=>exact HC1.out);rintro e w' ⟨rfl,⟨nd,rfl⟩⟩))
  go_ret
  exact ⟨by first|rfl|(simp[errW_none,errW_some] <;> rfl)|(simp[*,errW_none,errW_some] <;> rfl),by repeat (first|(with_reducible first|exact HB.out|apply ba'|apply bd'|apply be'|refine bs' ?_ GE214.out)|exact HB.out)⟩
 ·
  replace c4:=Bool.eq_false_iff.mpr c4;subst c4;have H1:(some false)=some r:=by rw[if_neg (show ¬ (false=true) by decide)] at H;exact H
  clear H;have H:=H1;clear H1;obtain rfl:=Option.some.inj H;go_enter Try.func96,Try.ntmps96;go_wp2_with (first|((with_reducible refine gate_dst (N:=2) rfl ?_);refine box_event ?hg (N:=2) ?hd (cs:=#[.slice A0_0 l0_0.length c0_0, .int .i64 a0_1]) (t:=52) ?hr ?_;(case hd=>rfl);(case hg=>rfl);(case hr=>first|(go_simp;done)|(go_simp;rfl));intro gb214 hg w9 hbox hb;have n0_:=am' (below_step (by repeat (first|(with_reducible first|exact HB.out|apply ba'|apply bd'|apply be')|exact HB.out)) hb);have n1_:=am' (hbox);have n2_:=am' ((by rw[hg];exact (below_size (by repeat (first|(with_reducible first|exact HB.out|apply ba'|apply bd'|apply be')|exact HB.out))):w.heap.size≤gb214));have n3_:=am' ((by rw[hg];exact (below_size (by repeat (first|(with_reducible first|exact HB.out|apply ba'|apply bd'|apply be')|exact HB.out))):w.heap.size≤gb214));clear HB;have HB:=n0_;have BK214:=n1_;have GW214:=n2_;have GE214:=n3_;clear n0_ n1_ n2_ n3_;clear hb hbox hg;have hcz10_0:w9.cell? ⟨gb214,0,none⟩=some (.slice A0_0 l0_0.length c0_0):=(blk_cell BK214.out 0).trans rfl;have hcz10_1:w9.cell? ⟨gb214,1,none⟩=some (.int .i64 a0_1):=(blk_cell BK214.out 1).trans rfl;have hfz10_0:=blk_frozen BK214.out 0;have hfz10_1:=blk_frozen BK214.out 1)|((with_reducible refine gate_callee (f:=65) rfl ?_);refine goesL_ (some 12) rfl rfl Try.func65 (by kernel_rfl) rfl #[.slice A1 l1.length c1, .int .i64 0, .int .i64 (wrap64 ((l0_0.length:Int) - 1)), .int .i64 1, .int .i64 a0_1] rfl (by (try simp only[List.map_toArray,List.map_cons,List.map_nil]);first|done|rfl|(simp only[List.length_drop,List.length_take];rfl)) ?_;(with_reducible refine (impl_areIn.calls _ _ l1 0 (wrap64 ((l0_0.length:Int) - 1)) 1 a0_1 false _ ?side1 ?side2 A3.out).mono ?_);(case side1=>repeat (first|exact (Kd.C_below HR1.out HB.out)|(with_reducible refine ca' ?_ _)|(with_reducible refine cn' ?_ _)|(with_reducible refine cd' ?_)));(case side2=>exact HC1.out);rintro e w11 ⟨rfl,hb⟩;refine ⟨_,rfl,?_⟩;have n0_:=am' (blk_below (g:=gb214) (o := .cells #[.slice A0_0 l0_0.length c0_0, .int .i64 a0_1] 52 (0,0)) (by (with_reducible repeat (first|refine kn' ?_ _|refine kd' ?_|refine ka' ?_ _));exact BK214.out) hb);have n1_:=am' (below_step (by repeat (first|(with_reducible first|exact HB.out|apply ba'|apply bd'|apply be'|refine bs' ?_ GE214.out)|exact HB.out)) hb);clear BK214;clear HB;have BK214:=n0_;have HB:=n1_;clear n0_ n1_;(try clear hb);(try clear hb2);(try clear hk);(try clear hi)));go_ret
  exact ⟨by first|rfl|(simp[errW_none,errW_some] <;> rfl)|(simp[*,errW_none,errW_some] <;> rfl),by repeat (first|(with_reducible first|exact HB.out|apply ba'|apply bd'|apply be'|refine bs' ?_ GE214.out)|exact HB.out)⟩
def impl_Party_canCross.f (k:Nat) (l0_0:List Int) (a0_1:Int) (l1_0:List Bool) (a1_1:Bool) (l2:List Int):Option (Bool):=(impl_Party_isTrip.f k l0_0 a0_1 l2).bind fun t219=>(if t219=true then ((impl_State_are.f l1_0 a1_1 l2 a1_1).bind fun t220=>(some t220)) else (some false))
set_option maxHeartbeats 8000000 in
set_option maxRecDepth 100000 in
theorem impl_Party_canCross.calls (k:Nat) (A0_0:Option Addr) (c0_0:Nat) (l0_0:List Int) (a0_1:Int) (A1_0:Option Addr) (c1_0:Nat) (l1_0:List Bool) (a1_1:Bool) (A2:Option Addr) (c2:Nat) (l2:List Int) (r:Bool) (w:World) (hr0_0:Kd.C (Kd.int .i64) w A0_0 l0_0.length l0_0) (hc0_0:l0_0.length≤c0_0) (hr1_0:Kd.C Kd.bool w A1_0 l1_0.length l1_0) (hc1_0:l1_0.length≤c1_0) (hr2:Kd.C (Kd.int .i64) w A2 l2.length l2) (hc2:l2.length≤c2) (h:impl_Party_canCross.f k l0_0 a0_1 l1_0 a1_1 l2=some r) :
  Calls Try.prog 84 #[.agg #[.slice A0_0 l0_0.length c0_0, .int .i64 a0_1], .agg #[.slice A1_0 l1_0.length c1_0, .bool a1_1], .slice A2 l2.length c2] w fun e w'=>e = .returned (.bool r)∧Below w.heap.size w w':=by
 have hu52:=Try.underlying52
 have hu80:=Try.underlying80
 have HR0_0:=am' hr0_0
 have HC0_0:=am' hc0_0
 clear hr0_0 hc0_0;have HR1_0:=am' hr1_0
 have HC1_0:=am' hc1_0
 clear hr1_0 hc1_0;have HR2:=am' hr2
 have HC2:=am' hc2
 clear hr2 hc2;have HB:=am' (Below.refl w.heap.size w)
 have H:((impl_Party_isTrip.f k l0_0 a0_1 l2).bind fun t219=>(if t219=true then ((impl_State_are.f l1_0 a1_1 l2 a1_1).bind fun t220=>(some t220)) else (some false)))=some r:=h
 clear h;replace H:=Option.bind_eq_some_iff.mp H
 obtain ⟨t219,A40,H⟩:=H
 replace H:(if t219=true then ((impl_State_are.f l1_0 a1_1 l2 a1_1).bind fun t220=>(some t220)) else (some false))=some r:=H
 have A4:=am' A40
 clear A40;by_cases c5:t219=true
 ·
  subst c5;have H1:((impl_State_are.f l1_0 a1_1 l2 a1_1).bind fun t220=>(some t220))=some r:=by rw[if_pos rfl] at H;exact H
  clear H;have H:=H1;clear H1;replace H:=Option.bind_eq_some_iff.mp H;obtain ⟨t220,A60,H⟩:=H;replace H:(some t220)=some r:=H;have A6:=am' A60;clear A60;obtain rfl:=Option.some.inj H;go_enter Try.func84,Try.ntmps84;go_wp2_with (first|((with_reducible refine gate_dst (N:=3) rfl ?_);refine box_event ?hg (N:=3) ?hd (cs:=#[.slice A0_0 l0_0.length c0_0, .int .i64 a0_1]) (t:=52) ?hr ?_;(case hd=>rfl);(case hg=>rfl);(case hr=>first|(go_simp;done)|(go_simp;rfl));intro gb217 hg w7 hbox hb;have n0_:=am' (below_step (by repeat (first|(with_reducible first|exact HB.out|apply ba'|apply bd'|apply be')|exact HB.out)) hb);have n1_:=am' (hbox);have n2_:=am' ((by rw[hg];exact (below_size (by repeat (first|(with_reducible first|exact HB.out|apply ba'|apply bd'|apply be')|exact HB.out))):w.heap.size≤gb217));have n3_:=am' ((by rw[hg];exact (below_size (by repeat (first|(with_reducible first|exact HB.out|apply ba'|apply bd'|apply be')|exact HB.out))):w.heap.size≤gb217));clear HB;have HB:=n0_;have BK217:=n1_;have GW217:=n2_;have GE217:=n3_;clear n0_ n1_ n2_ n3_;clear hb hbox hg)|((with_reducible refine gate_dst (N:=4) rfl ?_);refine box_event ?hg (N:=4) ?hd (cs:=#[.slice A1_0 l1_0.length c1_0, .bool a1_1]) (t:=80) ?hr ?_;(case hd=>rfl);(case hg=>rfl);(case hr=>first|(go_simp;done)|(go_simp;rfl));intro gb218 hg w8 hbox hb;have n0_:=am' (blk_below (g:=gb217) (o := .cells #[.slice A0_0 l0_0.length c0_0, .int .i64 a0_1] 52 (0,0)) (by (with_reducible repeat (first|refine kn' ?_ _|refine kd' ?_|refine ka' ?_ _));exact BK217.out) hb);have n1_:=am' (below_step (by repeat (first|(with_reducible first|exact HB.out|apply ba'|apply bd'|apply be'|refine bs' ?_ GE217.out)|exact HB.out)) hb);have n2_:=am' (hbox);have n3_:=am' ((by rw[hg];exact (below_size (by repeat (first|(with_reducible first|exact HB.out|apply ba'|apply bd'|apply be'|refine bs' ?_ GE217.out)|exact HB.out))):w.heap.size≤gb218));have n4_:=am' ((by rw[hg];exact (below_size (by repeat (first|(with_reducible first|exact HB.out|apply ba'|apply bd'|apply be'|refine bs' ?_ GE217.out)|exact HB.out))):w.heap.size≤gb218));have n5_:=am' ((by rw[hg];exact Nat.ne_of_lt (blk_lt (g:=gb217) (o := .cells #[.slice A0_0 l0_0.length c0_0, .int .i64 a0_1] 52 (0,0)) (by (with_reducible repeat (first|refine kn' ?_ _|refine kd' ?_|refine ka' ?_ _));exact BK217.out)):gb217≠gb218));have n6_:=am' ((by rw[hg];exact Nat.ne_of_gt (blk_lt (g:=gb217) (o := .cells #[.slice A0_0 l0_0.length c0_0, .int .i64 a0_1] 52 (0,0)) (by (with_reducible repeat (first|refine kn' ?_ _|refine kd' ?_|refine ka' ?_ _));exact BK217.out)):gb218≠gb217));clear BK217;clear HB;have BK217:=n0_;have HB:=n1_;have BK218:=n2_;have GW218:=n3_;have GE218:=n4_;have NB217_218:=n5_;have NB218_217:=n6_;clear n0_ n1_ n2_ n3_ n4_ n5_ n6_;clear hb hbox hg;have hnb9:=NB217_218.out;have hnc9:=NB218_217.out;have hcz10_0:w8.cell? ⟨gb217,0,none⟩=some (.slice A0_0 l0_0.length c0_0):=(blk_cell BK217.out 0).trans rfl;have hcz10_1:w8.cell? ⟨gb217,1,none⟩=some (.int .i64 a0_1):=(blk_cell BK217.out 1).trans rfl;have hfz10_0:=blk_frozen BK217.out 0;have hfz10_1:=blk_frozen BK217.out 1)|((with_reducible refine gate_callee (f:=96) rfl ?_);refine goesL_ (some 9) rfl rfl Try.func96 (by kernel_rfl) rfl #[.agg #[.slice A0_0 l0_0.length c0_0, .int .i64 a0_1], .slice A2 l2.length c2] rfl (by (try simp only[List.map_toArray,List.map_cons,List.map_nil]);first|done|rfl|(simp only[List.length_drop,List.length_take];rfl)) ?_;(with_reducible refine (impl_Party_isTrip.calls k _ _ l0_0 a0_1 _ _ l2 true _ ?side1 ?side2 ?side3 ?side4 A4.out).mono ?_);(case side1=>repeat (first|exact (Kd.C_below HR0_0.out HB.out)|(with_reducible refine ca' ?_ _)|(with_reducible refine cn' ?_ _)|(with_reducible refine cd' ?_)));(case side2=>exact HC0_0.out);(case side3=>repeat (first|exact (Kd.C_below HR2.out HB.out)|(with_reducible refine ca' ?_ _)|(with_reducible refine cn' ?_ _)|(with_reducible refine cd' ?_)));(case side4=>exact HC2.out);rintro e w11 ⟨rfl,hb⟩;refine ⟨_,rfl,?_⟩;have n0_:=am' (blk_below (g:=gb217) (o := .cells #[.slice A0_0 l0_0.length c0_0, .int .i64 a0_1] 52 (0,0)) (by (with_reducible repeat (first|refine kn' ?_ _|refine kd' ?_|refine ka' ?_ _));exact BK217.out) hb);have n1_:=am' (blk_below (g:=gb218) (o := .cells #[.slice A1_0 l1_0.length c1_0, .bool a1_1] 80 (0,0)) (by (with_reducible repeat (first|refine kn' ?_ _|refine kd' ?_|refine ka' ?_ _));exact BK218.out) hb);have n2_:=am' (below_step (by repeat (first|(with_reducible first|exact HB.out|apply ba'|apply bd'|apply be'|refine bs' ?_ GE217.out|refine bs' ?_ GE218.out)|exact HB.out)) hb);clear BK217;clear BK218;clear HB;have BK217:=n0_;have BK218:=n1_;have HB:=n2_;clear n0_ n1_ n2_;(try clear hb);(try clear hb2);(try clear hk);(try clear hi);have hcz12_0:w11.cell? ⟨gb218,0,none⟩=some (.slice A1_0 l1_0.length c1_0):=(blk_cell BK218.out 0).trans rfl;have hcz12_1:w11.cell? ⟨gb218,1,none⟩=some (.bool a1_1):=(blk_cell BK218.out 1).trans rfl;have hfz12_0:=blk_frozen BK218.out 0;have hfz12_1:=blk_frozen BK218.out 1)|(go_at_call 77;(with_reducible refine (impl_State_are.calls _ _ l1_0 a1_1 _ _ l2 a1_1 t220 _ ?side1 ?side2 ?side3 ?side4 A6.out).mono ?_);(case side1=>repeat (first|exact (Kd.C_below HR1_0.out HB.out)|(with_reducible refine ca' ?_ _)|(with_reducible refine cn' ?_ _)|(with_reducible refine cd' ?_)));(case side2=>exact HC1_0.out);(case side3=>repeat (first|exact (Kd.C_below HR2.out HB.out)|(with_reducible refine ca' ?_ _)|(with_reducible refine cn' ?_ _)|(with_reducible refine cd' ?_)));(case side4=>exact HC2.out);rintro e w13 ⟨rfl,hb⟩;have n0_:=am' (blk_below (g:=gb217) (o := .cells #[.slice A0_0 l0_0.length c0_0, .int .i64 a0_1] 52 (0,0)) (by (with_reducible repeat (first|refine kn' ?_ _|refine kd' ?_|refine ka' ?_ _));exact BK217.out) hb);have n1_:=am' (blk_below (g:=gb218) (o := .cells #[.slice A1_0 l1_0.length c1_0, .bool a1_1] 80 (0,0)) (by (with_reducible repeat (first|refine kn' ?_ _|refine kd' ?_|refine ka' ?_ _));exact BK218.out) hb);have n2_:=am' (below_step (by repeat (first|(with_reducible first|exact HB.out|apply ba'|apply bd'|apply be'|refine bs' ?_ GE217.out|refine bs' ?_ GE218.out)|exact HB.out)) hb);clear BK217;clear BK218;clear HB;have BK217:=n0_;have BK218:=n1_;have HB:=n2_;clear n0_ n1_ n2_;(try clear hb);(try clear hb2);(try clear hk);(try clear hi)))
  go_ret
  exact ⟨by first|rfl|(simp[errW_none,errW_some] <;> rfl)|(simp[*,errW_none,errW_some] <;> rfl),by repeat (first|(with_reducible first|exact HB.out|apply ba'|apply bd'|apply be'|refine bs' ?_ GE217.out|refine bs' ?_ GE218.out)|exact HB.out)⟩
 ·
  replace c5:=Bool.eq_false_iff.mpr c5;subst c5;have H1:(some false)=some r:=by rw[if_neg (show ¬ (false=true) by decide)] at H;exact H
  clear H;have H:=H1;clear H1;obtain rfl:=Option.some.inj H;go_enter Try.func84,Try.ntmps84;go_wp2_with (first|((with_reducible refine gate_dst (N:=3) rfl ?_);refine box_event ?hg (N:=3) ?hd (cs:=#[.slice A0_0 l0_0.length c0_0, .int .i64 a0_1]) (t:=52) ?hr ?_;(case hd=>rfl);(case hg=>rfl);(case hr=>first|(go_simp;done)|(go_simp;rfl));intro gb217 hg w14 hbox hb;have n0_:=am' (below_step (by repeat (first|(with_reducible first|exact HB.out|apply ba'|apply bd'|apply be')|exact HB.out)) hb);have n1_:=am' (hbox);have n2_:=am' ((by rw[hg];exact (below_size (by repeat (first|(with_reducible first|exact HB.out|apply ba'|apply bd'|apply be')|exact HB.out))):w.heap.size≤gb217));have n3_:=am' ((by rw[hg];exact (below_size (by repeat (first|(with_reducible first|exact HB.out|apply ba'|apply bd'|apply be')|exact HB.out))):w.heap.size≤gb217));clear HB;have HB:=n0_;have BK217:=n1_;have GW217:=n2_;have GE217:=n3_;clear n0_ n1_ n2_ n3_;clear hb hbox hg)|((with_reducible refine gate_dst (N:=4) rfl ?_);refine box_event ?hg (N:=4) ?hd (cs:=#[.slice A1_0 l1_0.length c1_0, .bool a1_1]) (t:=80) ?hr ?_;(case hd=>rfl);(case hg=>rfl);(case hr=>first|(go_simp;done)|(go_simp;rfl));intro gb218 hg w15 hbox hb;have n0_:=am' (blk_below (g:=gb217) (o := .cells #[.slice A0_0 l0_0.length c0_0, .int .i64 a0_1] 52 (0,0)) (by (with_reducible repeat (first|refine kn' ?_ _|refine kd' ?_|refine ka' ?_ _));exact BK217.out) hb);have n1_:=am' (below_step (by repeat (first|(with_reducible first|exact HB.out|apply ba'|apply bd'|apply be'|refine bs' ?_ GE217.out)|exact HB.out)) hb);have n2_:=am' (hbox);have n3_:=am' ((by rw[hg];exact (below_size (by repeat (first|(with_reducible first|exact HB.out|apply ba'|apply bd'|apply be'|refine bs' ?_ GE217.out)|exact HB.out))):w.heap.size≤gb218));have n4_:=am' ((by rw[hg];exact (below_size (by repeat (first|(with_reducible first|exact HB.out|apply ba'|apply bd'|apply be'|refine bs' ?_ GE217.out)|exact HB.out))):w.heap.size≤gb218));have n5_:=am' ((by rw[hg];exact Nat.ne_of_lt (blk_lt (g:=gb217) (o := .cells #[.slice A0_0 l0_0.length c0_0, .int .i64 a0_1] 52 (0,0)) (by (with_reducible repeat (first|refine kn' ?_ _|refine kd' ?_|refine ka' ?_ _));exact BK217.out)):gb217≠gb218));have n6_:=am' ((by rw[hg];exact Nat.ne_of_gt (blk_lt (g:=gb217) (o := .cells #[.slice A0_0 l0_0.length c0_0, .int .i64 a0_1] 52 (0,0)) (by (with_reducible repeat (first|refine kn' ?_ _|refine kd' ?_|refine ka' ?_ _));exact BK217.out)):gb218≠gb217));clear BK217;clear HB;have BK217:=n0_;have HB:=n1_;have BK218:=n2_;have GW218:=n3_;have GE218:=n4_;have NB217_218:=n5_;have NB218_217:=n6_;clear n0_ n1_ n2_ n3_ n4_ n5_ n6_;clear hb hbox hg;have hnb16:=NB217_218.out;have hnc16:=NB218_217.out;have hcz17_0:w15.cell? ⟨gb217,0,none⟩=some (.slice A0_0 l0_0.length c0_0):=(blk_cell BK217.out 0).trans rfl;have hcz17_1:w15.cell? ⟨gb217,1,none⟩=some (.int .i64 a0_1):=(blk_cell BK217.out 1).trans rfl;have hfz17_0:=blk_frozen BK217.out 0;have hfz17_1:=blk_frozen BK217.out 1)|((with_reducible refine gate_callee (f:=96) rfl ?_);refine goesL_ (some 9) rfl rfl Try.func96 (by kernel_rfl) rfl #[.agg #[.slice A0_0 l0_0.length c0_0, .int .i64 a0_1], .slice A2 l2.length c2] rfl (by (try simp only[List.map_toArray,List.map_cons,List.map_nil]);first|done|rfl|(simp only[List.length_drop,List.length_take];rfl)) ?_;(with_reducible refine (impl_Party_isTrip.calls k _ _ l0_0 a0_1 _ _ l2 false _ ?side1 ?side2 ?side3 ?side4 A4.out).mono ?_);(case side1=>repeat (first|exact (Kd.C_below HR0_0.out HB.out)|(with_reducible refine ca' ?_ _)|(with_reducible refine cn' ?_ _)|(with_reducible refine cd' ?_)));(case side2=>exact HC0_0.out);(case side3=>repeat (first|exact (Kd.C_below HR2.out HB.out)|(with_reducible refine ca' ?_ _)|(with_reducible refine cn' ?_ _)|(with_reducible refine cd' ?_)));(case side4=>exact HC2.out);rintro e w18 ⟨rfl,hb⟩;refine ⟨_,rfl,?_⟩;have n0_:=am' (blk_below (g:=gb217) (o := .cells #[.slice A0_0 l0_0.length c0_0, .int .i64 a0_1] 52 (0,0)) (by (with_reducible repeat (first|refine kn' ?_ _|refine kd' ?_|refine ka' ?_ _));exact BK217.out) hb);have n1_:=am' (blk_below (g:=gb218) (o := .cells #[.slice A1_0 l1_0.length c1_0, .bool a1_1] 80 (0,0)) (by (with_reducible repeat (first|refine kn' ?_ _|refine kd' ?_|refine ka' ?_ _));exact BK218.out) hb);have n2_:=am' (below_step (by repeat (first|(with_reducible first|exact HB.out|apply ba'|apply bd'|apply be'|refine bs' ?_ GE217.out|refine bs' ?_ GE218.out)|exact HB.out)) hb);clear BK217;clear BK218;clear HB;have BK217:=n0_;have BK218:=n1_;have HB:=n2_;clear n0_ n1_ n2_;(try clear hb);(try clear hb2);(try clear hk);(try clear hi)))
  go_ret
  exact ⟨by first|rfl|(simp[errW_none,errW_some] <;> rfl)|(simp[*,errW_none,errW_some] <;> rfl),by repeat (first|(with_reducible first|exact HB.out|apply ba'|apply bd'|apply be'|refine bs' ?_ GE217.out|refine bs' ?_ GE218.out)|exact HB.out)⟩
def slices_Clone_bool_bool.f (l0:List Bool):Option (List Bool):=if l0.length < 140737488355328 then some l0 else none
set_option maxHeartbeats 2000000 in
set_option maxRecDepth 100000 in
theorem slices_Clone_bool_bool.calls (A0:Option Addr) (c0:Nat) (l0:List Bool) (r:List Bool) (w:World) (hr0:Kd.C Kd.bool w A0 l0.length l0) (hc0:l0.length≤c0) (h:slices_Clone_bool_bool.f l0=some r) :
  Calls Try.prog 73 #[.slice A0 l0.length c0] w fun e w'=>∃ v0_:Value,e = .returned (v0_)∧Kd.R Kd.bool 4 w' w.heap.size (fun _=>True) v0_ r∧Below w.heap.size w w':=by
 have hinfo:(Try.prog.info? 4).map (fun i=>(i.zero,i.size,i.bytes))=some (some (.bool false),1,1):=by kernel_rfl
 obtain ⟨hlim,rfl⟩:l0.length < 140737488355328∧l0=r:=by
  unfold slices_Clone_bool_bool.f at h
  by_cases hl:l0.length < 140737488355328
  ·
   rw[if_pos hl] at h;exact ⟨hl,Option.some.inj h⟩
  ·
   rw[if_neg hl] at h;cases h
 clear h;cases A0 with
 | none =>
  obtain rfl:l0=[]:=by
   cases l0 with
   | nil=>rfl
   | cons x l=>obtain ⟨_,e,_⟩:=hr0.2.2 (by simp);cases e
  clear hr0 hc0 hlim hinfo;have heq:=fun (w:World) (n c:Nat)=>Lib.run_eql_slice_nil (P:=Try.prog) w 25 4 none n c 0 0 Try.underlying25
  go_enter Try.func73,Try.ntmps73;go_wp2;go_ret
  exact ⟨_,rfl,Kd.R_nil _ _ _ _ _,Below.refl _ _⟩
 | some a =>
  have HR0:=am' hr0;have HL:=am' hlim;have hie:=am' hinfo;clear hr0 hc0 hlim hinfo;have HB:=am' (Below.refl w.heap.size w);have heq:=fun (w:World) (n c:Nat)=>Lib.run_eql_slice_nil (P:=Try.prog) w 25 4 (some a) n c 0 0 Try.underlying25
  go_enter Try.func73,Try.ntmps73;go_wp2_with (first|((with_reducible refine gate_dst (N:=5) rfl ?_);refine Kd.R_lit Kd.bool _ 4 ?hg (N:=5) ?hd (xs:=([]:List Bool)) (inner:=[]) (ok:=fun _=>True) (okp:=fun _=>True) ?hr ?hp (fun _ hk=>hk) trivial (Below.refl _ _) (Nat.le_refl _) (by simp) ?_;(case hd=>rfl);(case hg=>rfl);(case hr=>first|(go_simp;done)|(go_simp;rfl));(case hp=>exact (Reps.none _ _));intro v210 w3 ho4 hb hg_ hnew_;clear hg_ hnew_;have n0_:=am' (Kd.R_lower ho4 (below_size HB.out));have n1_:=am' (below_step HB.out hb);clear HB;have HO211:=n0_;have HB:=n1_;clear n0_ n1_;clear hb ho4)|((with_reducible refine gate_builtin (b := .append) (xs:=#[.tmp 5, .tmp 6]) rfl ?_);at_builtin;refine Kd.R_append_rows Kd.bool (w0:=w) w.heap.size rfl (.tmp 5) (.tmp 6) 25 4 (.bool false) 1 rfl Try.underlying25 hie.out rfl (by decide) (by omega) v210 [] l0 _ _ _ (fun _=>True) (fun _=>False) rfl rfl ?aO ?aR (fun _ _ h=>h) (fun _ h=>h.elim) ?aF ?aB ?aS ?aL ?_;(case aR=>exact (Kd.C_below HR0.out HB.out));(case aB=>exact HB.out);(case aF=>exact (fun _ _=>trivial));(case aO=>exact HO211.out);(case aS=>exact (below_size HB.out));(case aL=>have:=HL.out;simp;omega);intro v213 w5 ho hb hg hat;have n0_:=am' (hb);have n1_:=am' (ho);clear HB;clear HO211;have HB:=n0_;have HO214:=n1_;clear n0_ n1_;clear ho hb hg hat));go_ret
  exact ⟨_,rfl,by simpa using HO214.out,HB.out⟩
def impl_State_moved.l0:Nat→List Int→Int→Int→List Bool→Bool→Option (List Bool × Bool)
 | 0,_,_,_,_,_=>none
 | k+1,x15,x16,x17,x227000,x227001=>if x17 < x16 then (if 0≤x17 then (if x17 < (x15.length:Int) then (if 0≤(rd x15 x17) then (if (rd x15 x17) < (x227000.length:Int) then (impl_State_moved.l0 k x15 x16 (wrap64 (x17+1)) (x227000.set ((rd x15 x17):Int).toNat x227001) x227001) else (none)) else (none)) else (none)) else (none)) else (some (x227000,x227001))
def impl_State_moved.f (k:Nat) (l0_0:List Bool) (a0_1:Bool) (l1:List Int):Option (List Bool × Bool):=(slices_Clone_bool_bool.f l0_0).bind fun t223=>(impl_State_moved.l0 k l1 (l1.length:Int) 0 t223 (!a0_1))
def impl_State_moved.T1:Bool × List (List Nat × List Nat):=(true,[([],[]),([0],[0]),([1],[1]),([],[]),([3],[3]),([4],[4]),([2,5],[2,5]),([],[]),([7,6,2,0,1,2,3,4,5,6,7],[6,7])])
def impl_State_moved.B1:List Nat:=[0,1,3,0,8,24,63,0,255]
theorem impl_State_moved.tab1:rtab .any (opsOf Try.f85 1)=impl_State_moved.T1:=by kernel_rfl
theorem impl_State_moved.bits1:waitsOk impl_State_moved.T1.2 impl_State_moved.B1=true:=by kernel_rfl
set_option maxHeartbeats 8000000 in
set_option maxRecDepth 100000 in
theorem impl_State_moved.calls (k:Nat) (A0_0:Option Addr) (c0_0:Nat) (l0_0:List Bool) (a0_1:Bool) (A1:Option Addr) (c1:Nat) (l1:List Int) (r1:List Bool) (r2:Bool) (w:World) (hr0_0:Kd.C Kd.bool w A0_0 l0_0.length l0_0) (hc0_0:l0_0.length≤c0_0) (hr1:Kd.C (Kd.int .i64) w A1 l1.length l1) (hc1:l1.length≤c1) (h:impl_State_moved.f k l0_0 a0_1 l1=some (r1,r2)) :
  Calls Try.prog 85 #[.agg #[.slice A0_0 l0_0.length c0_0, .bool a0_1], .slice A1 l1.length c1] w fun e w'=>∃ v0_:Value,e = .returned (.agg #[v0_, .bool r2])∧Kd.R Kd.bool 4 w' w.heap.size (fun _=>True) v0_ r1∧Below w.heap.size w w':=by
 have hu80:=Try.underlying80
 have HR0_0:=am' hr0_0
 have HC0_0:=am' hc0_0
 clear hr0_0 hc0_0;have HR1:=am' hr1
 have HC1:=am' hc1
 clear hr1 hc1;have HB:=am' (Below.refl w.heap.size w)
 have H:((slices_Clone_bool_bool.f l0_0).bind fun t223=>(impl_State_moved.l0 k l1 (l1.length:Int) 0 t223 (!a0_1)))=some (r1,r2):=h
 clear h;replace H:=Option.bind_eq_some_iff.mp H
 obtain ⟨t223,A30,H⟩:=H
 replace H:(impl_State_moved.l0 k l1 (l1.length:Int) 0 t223 (!a0_1))=some (r1,r2):=H
 have A3:=am' A30
 clear A30;have H':=am' H
 clear H;go_enter Try.func85,Try.ntmps85
 try go_wp2_with (first|((with_reducible refine gate_dst (N:=2) rfl ?_);refine box_event ?hg (N:=2) ?hd (cs:=#[.slice A0_0 l0_0.length c0_0, .bool a0_1]) (t:=80) ?hr ?_;(case hd=>rfl);(case hg=>rfl);(case hr=>first|(go_simp;done)|(go_simp;rfl));intro gb221 hg w4 hbox hb;have n0_:=am' (below_step (by repeat (first|(with_reducible first|exact HB.out|apply ba'|apply bd'|apply be')|exact HB.out)) hb);have n1_:=am' (hbox);have n2_:=am' ((by rw[hg];exact (below_size (by repeat (first|(with_reducible first|exact HB.out|apply ba'|apply bd'|apply be')|exact HB.out))):w.heap.size≤gb221));have n3_:=am' ((by rw[hg];exact (below_size (by repeat (first|(with_reducible first|exact HB.out|apply ba'|apply bd'|apply be')|exact HB.out))):w.heap.size≤gb221));clear HB;have HB:=n0_;have BK221:=n1_;have GW221:=n2_;have GE221:=n3_;clear n0_ n1_ n2_ n3_;clear hb hbox hg)|((with_reducible refine gate_dst (N:=4) rfl ?_);refine box_event ?hg (N:=4) ?hd (cs:=#[.slice none 0 0, .bool false]) (t:=80) ?hr ?_;(case hd=>rfl);(case hg=>rfl);(case hr=>first|(go_simp;done)|(go_simp;rfl));intro gb222 hg w5 hbox hb;have n0_:=am' (blk_below (g:=gb221) (o := .cells #[.slice A0_0 l0_0.length c0_0, .bool a0_1] 80 (0,0)) (by (with_reducible repeat (first|refine kn' ?_ _|refine kd' ?_|refine ka' ?_ _));exact BK221.out) hb);have n1_:=am' (below_step (by repeat (first|(with_reducible first|exact HB.out|apply ba'|apply bd'|apply be'|refine bs' ?_ GE221.out)|exact HB.out)) hb);have n2_:=am' (hbox);have n3_:=am' ((by rw[hg];exact (below_size (by repeat (first|(with_reducible first|exact HB.out|apply ba'|apply bd'|apply be'|refine bs' ?_ GE221.out)|exact HB.out))):w.heap.size≤gb222));have n4_:=am' ((by rw[hg];exact (below_size (by repeat (first|(with_reducible first|exact HB.out|apply ba'|apply bd'|apply be'|refine bs' ?_ GE221.out)|exact HB.out))):w.heap.size≤gb222));have n5_:=am' ((by rw[hg];exact Nat.ne_of_lt (blk_lt (g:=gb221) (o := .cells #[.slice A0_0 l0_0.length c0_0, .bool a0_1] 80 (0,0)) (by (with_reducible repeat (first|refine kn' ?_ _|refine kd' ?_|refine ka' ?_ _));exact BK221.out)):gb221≠gb222));have n6_:=am' ((by rw[hg];exact Nat.ne_of_gt (blk_lt (g:=gb221) (o := .cells #[.slice A0_0 l0_0.length c0_0, .bool a0_1] 80 (0,0)) (by (with_reducible repeat (first|refine kn' ?_ _|refine kd' ?_|refine ka' ?_ _));exact BK221.out)):gb222≠gb221));clear BK221;clear HB;have BK221:=n0_;have HB:=n1_;have BK222:=n2_;have GW222:=n3_;have GE222:=n4_;have NB221_222:=n5_;have NB222_221:=n6_;clear n0_ n1_ n2_ n3_ n4_ n5_ n6_;clear hb hbox hg))
 have n0_:=am' (kd' BK221.out)
 have n1_:=am' (kd' BK222.out)
 have n2_:=am' (be' HB.out)
 clear BK221;clear BK222;clear HB;have BK221:=n0_;have BK222:=n1_;have HB:=n2_;clear n0_ n1_ n2_;refine start_ (n:=9) (S:=fun w'=>w'.cell? ⟨gb221,0,none⟩=some (.slice A0_0 l0_0.length c0_0)∧w'.cell? ⟨gb221,1,none⟩=some (.bool a0_1)) (ds:=[]) #[false,false,false,false,false,false,false,false,false] (by kernel_rfl) rfl rfl ⟨(blk_cell BK221.out 0).trans rfl,(blk_cell BK221.out 1).trans rfl⟩ (fun hHeld=>?_);refine with_tabW impl_State_moved.tab1 impl_State_moved.bits1 (fun HT_ HW_=>?_)
 generalize w5.drew=w6 at BK221 BK222 HB hHeld ⊢
 refine pure_ (i:=0) (N:=some 8) (v:=?_) (a':=?_) #[true,false,false,false,false,false,false,false,false] rfl rfl (any_of HT_.out (by kernel_rfl)) (fun _ _ _ h=>h) (Or.inl ⟨by rfl,?_⟩) ?_ ?_
 rotate_left
 ·
  intro w';go_simp;with_reducible rfl
 rotate_left
 ·
  simp only[Act.put,sa',sb',sc',i64_w,i32_w];rfl
 refine pure_ (i:=3) (N:=some 11) (v:=?_) (a':=?_) #[true,false,false,true,false,false,false,false,false] rfl rfl (any_of HT_.out (by kernel_rfl)) (fun _ _ _ h=>h) (Or.inl ⟨by rfl,?_⟩) ?_ ?_
 rotate_left
 ·
  intro w';go_simp;with_reducible rfl
 rotate_left
 ·
  simp only[Act.put,sa',sb',sc',i64_w,i32_w];rfl
 refine take_ (i:=1) (N:=some 9) (v:=?_) (a':=?_) #[true,true,false,true,false,false,false,false,false] rfl rfl (take_ofW HT_.out HW_.out (by kernel_rfl)) (fun _ _ _ h=>h) (Or.inl ⟨by rfl,?_⟩) hHeld ?_ ?_
 rotate_left
 ·
  rintro w' ⟨s0,s1⟩
  go_simp;with_reducible rfl
 rotate_left
 ·
  simp only[Act.put,sa',sb',sc',i64_w,i32_w];rfl
 refine take_ (i:=4) (N:=some 12) (v:=?_) (a':=?_) #[true,true,false,true,true,false,false,false,false] rfl rfl (take_ofW HT_.out HW_.out (by kernel_rfl)) (fun _ _ _ h=>h) (Or.inl ⟨by rfl,?_⟩) hHeld ?_ ?_
 rotate_left
 ·
  rintro w' ⟨s0,s1⟩
  go_simp;with_reducible rfl
 rotate_left
 ·
  simp only[Act.put,sa',sb',sc',i64_w,i32_w];rfl
 refine pure_ (i:=5) (N:=some 13) (v:=?_) (a':=?_) #[true,true,false,true,true,true,false,false,false] rfl rfl (any_of HT_.out (by kernel_rfl)) (fun _ _ _ h=>h) (Or.inl ⟨by rfl,?_⟩) ?_ ?_
 rotate_left
 ·
  intro w';go_simp;with_reducible rfl
 rotate_left
 ·
  simp only[Act.put,sa',sb',sc',i64_w,i32_w];rfl
 refine join_ (σ:=Value × Nat) 1 #[true,true,true,true,true,true,true,true,false] (fun s_=>[(10,s_.1),(5, .pointer (some ⟨s_.2,0,none⟩)),(14, .agg #[s_.1, .bool (!a0_1)])]) (fun s_ w'=>(w'.cell? ⟨gb221,0,none⟩=some (.slice A0_0 l0_0.length c0_0)∧w'.cell? ⟨gb221,1,none⟩=some (.bool a0_1))∧(Kd.R Kd.bool 4 w' w.heap.size (fun _=>True) s_.1 t223)∧(w'.heap[gb221]? = some (.cells #[.slice A0_0 l0_0.length c0_0, .bool a0_1] 80 (0,0)))∧(w'.heap[gb222]? = some (.cells #[.slice none 0 0, .bool false] 80 (0,0)))∧(w'.heap[s_.2]? = some (.cells #[.slice none 0 0, .bool false] 80 (0,0)))∧(w.heap.size≤s_.2)∧(w.heap.size≤s_.2)∧(gb221≠s_.2)∧(s_.2≠gb221)∧(gb222≠s_.2)∧(s_.2≠gb222)∧(Below w.heap.size w w')) ?_ ?_
 rotate_left
 ·
  intro hCont;refine two_ (i:=2) (j:=7) (Ni:=some 10) (Nj:=some 5) #[true,true,true,true,true,true,false,false,false] #[true,true,false,true,true,true,false,true,false] rfl rfl rfl rfl (two_of HT_.out (by kernel_rfl)) (by decide) (by decide) (fun K hK=>?_) (fun K hK=>?_)
  ·
   skip
   refine goes_ Try.func73 (by kernel_rfl) rfl #[.slice A0_0 l0_0.length c0_0] (by rfl) rfl rfl (by (try simp only[List.map_toArray,List.map_cons,List.map_nil]);first|done|rfl|(simp only[List.length_drop,List.length_take];rfl)) ?_
   with_reducible refine (slices_Clone_bool_bool.calls _ _ l0_0 t223 _ ?side1 ?side2 A3.out).mono ?_
   (case side1=>repeat (first|exact (Kd.C_below HR0_0.out HB.out)|(with_reducible refine ca' ?_ _)|(with_reducible refine cn' ?_ _)|(with_reducible refine cd' ?_)))
   (case side2=>exact HC0_0.out)
   rintro e w7 ⟨v224,rfl,ho0,hb⟩
   refine ⟨_,rfl,?_⟩;have n0_:=am' (Kd.R_lower ho0 (below_size (by repeat (first|(with_reducible first|exact HB.out|apply ba'|apply bd'|apply be'|refine bs' ?_ GE221.out|refine bs' ?_ GE222.out)|exact HB.out))));have n1_:=am' (blk_below (g:=gb221) (o := .cells #[.slice A0_0 l0_0.length c0_0, .bool a0_1] 80 (0,0)) (by (with_reducible repeat (first|refine kn' ?_ _|refine kd' ?_|refine ka' ?_ _));exact BK221.out) hb);have n2_:=am' (blk_below (g:=gb222) (o := .cells #[.slice none 0 0, .bool false] 80 (0,0)) (by (with_reducible repeat (first|refine kn' ?_ _|refine kd' ?_|refine ka' ?_ _));exact BK222.out) hb);have n3_:=am' (below_step (by repeat (first|(with_reducible first|exact HB.out|apply ba'|apply bd'|apply be'|refine bs' ?_ GE221.out|refine bs' ?_ GE222.out)|exact HB.out)) hb);clear BK221;clear BK222;clear HB;have HO225:=n0_;have BK221:=n1_;have BK222:=n2_;have HB:=n3_;clear n0_ n1_ n2_ n3_;(try clear hb)
   (try clear hb2)
   (try clear hk)
   (try clear hi)
   (try clear ho0)
   obtain ⟨Ao8,co8,eo8⟩:=Kd.R_slice HO225.out
   (first|subst eo8|(injection eo8 with f1_ f2_ f3_;have f4_:=f1_.symm;have f5_:=f3_.symm;clear f1_ f2_ f3_;subst f4_;subst f5_))
   refine hK.out _ _ ⟨(blk_cell BK221.out 0).trans rfl,(blk_cell BK221.out 1).trans rfl⟩ (fun hHeld=>?_);clear hK K;refine norm_ (a':=?_) ?_ ?_
   rotate_left
   ·
    show Act.put _ (some 10) _=_
    simp only[Act.put,sa',sb',sc',i64_w,i32_w];rfl
   refine pure_ (i:=6) (N:=some 14) (v:=?_) (a':=?_) #[true,true,true,true,true,true,true,false,false] rfl rfl (any_of HT_.out (by kernel_rfl)) (fun _ _ _ h=>h) (Or.inl ⟨by rfl,?_⟩) ?_ ?_
   rotate_left
   ·
    intro w';go_simp;with_reducible rfl
   rotate_left
   ·
    simp only[Act.put,sa',sb',sc',i64_w,i32_w];rfl
   refine one_ (i:=7) (N:=some 5) #[true,true,true,true,true,true,true,true,false] rfl rfl (one_of HT_.out (by kernel_rfl)) (by decide) (fun K hK=>?_);refine box_step ?hg (N:=5) ?hd (cs:=#[.slice none 0 0, .bool false]) (t:=80) ?hr ?_;(case hd=>rfl);(case hg=>rfl);(case hr=>first|(go_simp;done)|(go_simp;rfl))
   intro gb226 hg w9 hbox hb;have n0_:=am' (Kd.R_below (by (with_reducible repeat (first|apply ra'|apply rn'|apply rw'));exact HO225.out) hb);have n1_:=am' (blk_below (g:=gb221) (o := .cells #[.slice A0_0 l0_0.length c0_0, .bool a0_1] 80 (0,0)) (by (with_reducible repeat (first|refine kn' ?_ _|refine kd' ?_|refine ka' ?_ _));exact BK221.out) hb);have n2_:=am' (blk_below (g:=gb222) (o := .cells #[.slice none 0 0, .bool false] 80 (0,0)) (by (with_reducible repeat (first|refine kn' ?_ _|refine kd' ?_|refine ka' ?_ _));exact BK222.out) hb);have n3_:=am' (below_step (by repeat (first|(with_reducible first|exact HB.out|apply ba'|apply bd'|apply be'|refine bs' ?_ GE221.out|refine bs' ?_ GE222.out)|exact HB.out)) hb);have n4_:=am' (hbox);have n5_:=am' ((by rw[hg];exact (below_size (by repeat (first|(with_reducible first|exact HB.out|apply ba'|apply bd'|apply be'|refine bs' ?_ GE221.out|refine bs' ?_ GE222.out)|exact HB.out))):w.heap.size≤gb226));have n6_:=am' ((by rw[hg];exact (below_size (by repeat (first|(with_reducible first|exact HB.out|apply ba'|apply bd'|apply be'|refine bs' ?_ GE221.out|refine bs' ?_ GE222.out)|exact HB.out))):w.heap.size≤gb226));have n7_:=am' ((by rw[hg];exact Nat.ne_of_lt (blk_lt (g:=gb221) (o := .cells #[.slice A0_0 l0_0.length c0_0, .bool a0_1] 80 (0,0)) (by (with_reducible repeat (first|refine kn' ?_ _|refine kd' ?_|refine ka' ?_ _));exact BK221.out)):gb221≠gb226));have n8_:=am' ((by rw[hg];exact Nat.ne_of_gt (blk_lt (g:=gb221) (o := .cells #[.slice A0_0 l0_0.length c0_0, .bool a0_1] 80 (0,0)) (by (with_reducible repeat (first|refine kn' ?_ _|refine kd' ?_|refine ka' ?_ _));exact BK221.out)):gb226≠gb221));have n9_:=am' ((by rw[hg];exact Nat.ne_of_lt (blk_lt (g:=gb222) (o := .cells #[.slice none 0 0, .bool false] 80 (0,0)) (by (with_reducible repeat (first|refine kn' ?_ _|refine kd' ?_|refine ka' ?_ _));exact BK222.out)):gb222≠gb226));have n10_:=am' ((by rw[hg];exact Nat.ne_of_gt (blk_lt (g:=gb222) (o := .cells #[.slice none 0 0, .bool false] 80 (0,0)) (by (with_reducible repeat (first|refine kn' ?_ _|refine kd' ?_|refine ka' ?_ _));exact BK222.out)):gb226≠gb222));clear HO225;clear BK221;clear BK222;clear HB;have HO225:=n0_;have BK221:=n1_;have BK222:=n2_;have HB:=n3_;have BK226:=n4_;have GW226:=n5_;have GE226:=n6_;have NB221_226:=n7_;have NB226_221:=n8_;have NB222_226:=n9_;have NB226_222:=n10_;clear n0_ n1_ n2_ n3_ n4_ n5_ n6_ n7_ n8_ n9_ n10_;clear hb hbox hg;refine hK.out _ _ ⟨(blk_cell BK221.out 0).trans rfl,(blk_cell BK221.out 1).trans rfl⟩ (fun hHeld=>?_);clear hK K;refine norm_ (a':=?_) ?_ ?_
   rotate_left
   ·
    show Act.put _ (some 5) _=_
    simp only[Act.put,sa',sb',sc',i64_w,i32_w];rfl
   exact norm_ (by simp only[putAll,Act.put,sa',sb',sc']) (hCont (.slice Ao8 t223.length co8,gb226) _ ⟨hHeld,(by (with_reducible repeat (first|apply ra'|apply rn'|apply rw'));exact HO225.out),(by (with_reducible repeat (first|refine kn' ?_ _|refine kd' ?_|refine ka' ?_ _));exact BK221.out),(by (with_reducible repeat (first|refine kn' ?_ _|refine kd' ?_|refine ka' ?_ _));exact BK222.out),(by (with_reducible repeat (first|refine kn' ?_ _|refine kd' ?_|refine ka' ?_ _));exact BK226.out),GW226.out,GE226.out,NB221_226.out,NB226_221.out,NB222_226.out,NB226_222.out,(by repeat (first|(with_reducible first|exact HB.out|apply ba'|apply bd'|apply be'|refine bs' ?_ GE221.out|refine bs' ?_ GE222.out|refine bs' ?_ GE226.out)|exact HB.out))⟩)
  ·
   skip
   refine box_step ?hg (N:=5) ?hd (cs:=#[.slice none 0 0, .bool false]) (t:=80) ?hr ?_;(case hd=>rfl);(case hg=>rfl);(case hr=>first|(go_simp;done)|(go_simp;rfl))
   intro gb226 hg w7 hbox hb;have n0_:=am' (blk_below (g:=gb221) (o := .cells #[.slice A0_0 l0_0.length c0_0, .bool a0_1] 80 (0,0)) (by (with_reducible repeat (first|refine kn' ?_ _|refine kd' ?_|refine ka' ?_ _));exact BK221.out) hb);have n1_:=am' (blk_below (g:=gb222) (o := .cells #[.slice none 0 0, .bool false] 80 (0,0)) (by (with_reducible repeat (first|refine kn' ?_ _|refine kd' ?_|refine ka' ?_ _));exact BK222.out) hb);have n2_:=am' (below_step (by repeat (first|(with_reducible first|exact HB.out|apply ba'|apply bd'|apply be'|refine bs' ?_ GE221.out|refine bs' ?_ GE222.out)|exact HB.out)) hb);have n3_:=am' (hbox);have n4_:=am' ((by rw[hg];exact (below_size (by repeat (first|(with_reducible first|exact HB.out|apply ba'|apply bd'|apply be'|refine bs' ?_ GE221.out|refine bs' ?_ GE222.out)|exact HB.out))):w.heap.size≤gb226));have n5_:=am' ((by rw[hg];exact (below_size (by repeat (first|(with_reducible first|exact HB.out|apply ba'|apply bd'|apply be'|refine bs' ?_ GE221.out|refine bs' ?_ GE222.out)|exact HB.out))):w.heap.size≤gb226));have n6_:=am' ((by rw[hg];exact Nat.ne_of_lt (blk_lt (g:=gb221) (o := .cells #[.slice A0_0 l0_0.length c0_0, .bool a0_1] 80 (0,0)) (by (with_reducible repeat (first|refine kn' ?_ _|refine kd' ?_|refine ka' ?_ _));exact BK221.out)):gb221≠gb226));have n7_:=am' ((by rw[hg];exact Nat.ne_of_gt (blk_lt (g:=gb221) (o := .cells #[.slice A0_0 l0_0.length c0_0, .bool a0_1] 80 (0,0)) (by (with_reducible repeat (first|refine kn' ?_ _|refine kd' ?_|refine ka' ?_ _));exact BK221.out)):gb226≠gb221));have n8_:=am' ((by rw[hg];exact Nat.ne_of_lt (blk_lt (g:=gb222) (o := .cells #[.slice none 0 0, .bool false] 80 (0,0)) (by (with_reducible repeat (first|refine kn' ?_ _|refine kd' ?_|refine ka' ?_ _));exact BK222.out)):gb222≠gb226));have n9_:=am' ((by rw[hg];exact Nat.ne_of_gt (blk_lt (g:=gb222) (o := .cells #[.slice none 0 0, .bool false] 80 (0,0)) (by (with_reducible repeat (first|refine kn' ?_ _|refine kd' ?_|refine ka' ?_ _));exact BK222.out)):gb226≠gb222));clear BK221;clear BK222;clear HB;have BK221:=n0_;have BK222:=n1_;have HB:=n2_;have BK226:=n3_;have GW226:=n4_;have GE226:=n5_;have NB221_226:=n6_;have NB226_221:=n7_;have NB222_226:=n8_;have NB226_222:=n9_;clear n0_ n1_ n2_ n3_ n4_ n5_ n6_ n7_ n8_ n9_;clear hb hbox hg;refine hK.out _ _ ⟨(blk_cell BK221.out 0).trans rfl,(blk_cell BK221.out 1).trans rfl⟩ (fun hHeld=>?_);clear hK K;refine norm_ (a':=?_) ?_ ?_
   rotate_left
   ·
    show Act.put _ (some 5) _=_
    simp only[Act.put,sa',sb',sc',i64_w,i32_w];rfl
   refine one_ (i:=2) (N:=some 10) #[true,true,true,true,true,true,false,true,false] rfl rfl (one_of HT_.out (by kernel_rfl)) (by decide) (fun K hK=>?_);refine goes_ Try.func73 (by kernel_rfl) rfl #[.slice A0_0 l0_0.length c0_0] (by rfl) rfl rfl (by (try simp only[List.map_toArray,List.map_cons,List.map_nil]);first|done|rfl|(simp only[List.length_drop,List.length_take];rfl)) ?_
   with_reducible refine (slices_Clone_bool_bool.calls _ _ l0_0 t223 _ ?side1 ?side2 A3.out).mono ?_
   (case side1=>repeat (first|exact (Kd.C_below HR0_0.out HB.out)|(with_reducible refine ca' ?_ _)|(with_reducible refine cn' ?_ _)|(with_reducible refine cd' ?_)))
   (case side2=>exact HC0_0.out)
   rintro e w8 ⟨v224,rfl,ho0,hb⟩
   refine ⟨_,rfl,?_⟩;have n0_:=am' (Kd.R_lower ho0 (below_size (by repeat (first|(with_reducible first|exact HB.out|apply ba'|apply bd'|apply be'|refine bs' ?_ GE221.out|refine bs' ?_ GE222.out|refine bs' ?_ GE226.out)|exact HB.out))));have n1_:=am' (blk_below (g:=gb221) (o := .cells #[.slice A0_0 l0_0.length c0_0, .bool a0_1] 80 (0,0)) (by (with_reducible repeat (first|refine kn' ?_ _|refine kd' ?_|refine ka' ?_ _));exact BK221.out) hb);have n2_:=am' (blk_below (g:=gb222) (o := .cells #[.slice none 0 0, .bool false] 80 (0,0)) (by (with_reducible repeat (first|refine kn' ?_ _|refine kd' ?_|refine ka' ?_ _));exact BK222.out) hb);have n3_:=am' (blk_below (g:=gb226) (o := .cells #[.slice none 0 0, .bool false] 80 (0,0)) (by (with_reducible repeat (first|refine kn' ?_ _|refine kd' ?_|refine ka' ?_ _));exact BK226.out) hb);have n4_:=am' (below_step (by repeat (first|(with_reducible first|exact HB.out|apply ba'|apply bd'|apply be'|refine bs' ?_ GE221.out|refine bs' ?_ GE222.out|refine bs' ?_ GE226.out)|exact HB.out)) hb);clear BK221;clear BK222;clear BK226;clear HB;have HO225:=n0_;have BK221:=n1_;have BK222:=n2_;have BK226:=n3_;have HB:=n4_;clear n0_ n1_ n2_ n3_ n4_;(try clear hb)
   (try clear hb2)
   (try clear hk)
   (try clear hi)
   (try clear ho0)
   obtain ⟨Ao9,co9,eo9⟩:=Kd.R_slice HO225.out
   (first|subst eo9|(injection eo9 with f1_ f2_ f3_;have f4_:=f1_.symm;have f5_:=f3_.symm;clear f1_ f2_ f3_;subst f4_;subst f5_))
   refine hK.out _ _ ⟨(blk_cell BK221.out 0).trans rfl,(blk_cell BK221.out 1).trans rfl⟩ (fun hHeld=>?_);clear hK K;refine norm_ (a':=?_) ?_ ?_
   rotate_left
   ·
    show Act.put _ (some 10) _=_
    simp only[Act.put,sa',sb',sc',i64_w,i32_w];rfl
   refine pure_ (i:=6) (N:=some 14) (v:=?_) (a':=?_) #[true,true,true,true,true,true,true,true,false] rfl rfl (any_of HT_.out (by kernel_rfl)) (fun _ _ _ h=>h) (Or.inl ⟨by rfl,?_⟩) ?_ ?_
   rotate_left
   ·
    intro w';go_simp;with_reducible rfl
   rotate_left
   ·
    simp only[Act.put,sa',sb',sc',i64_w,i32_w];rfl
   exact norm_ (by simp only[putAll,Act.put,sa',sb',sc']) (hCont (.slice Ao9 t223.length co9,gb226) _ ⟨hHeld,(by (with_reducible repeat (first|apply ra'|apply rn'|apply rw'));exact HO225.out),(by (with_reducible repeat (first|refine kn' ?_ _|refine kd' ?_|refine ka' ?_ _));exact BK221.out),(by (with_reducible repeat (first|refine kn' ?_ _|refine kd' ?_|refine ka' ?_ _));exact BK222.out),(by (with_reducible repeat (first|refine kn' ?_ _|refine kd' ?_|refine ka' ?_ _));exact BK226.out),GW226.out,GE226.out,NB221_226.out,NB226_221.out,NB222_226.out,NB226_222.out,(by repeat (first|(with_reducible first|exact HB.out|apply ba'|apply bd'|apply be'|refine bs' ?_ GE221.out|refine bs' ?_ GE222.out|refine bs' ?_ GE226.out)|exact HB.out))⟩)
 rintro ⟨v224,gb226⟩ w10 ⟨hS_,h0_,h1_,h2_,h3_,h4_,h5_,h6_,h7_,h8_,h9_,h10_⟩
 have n0_:Aside0 (Kd.R Kd.bool 4 w10 w.heap.size (fun _=>True) v224 t223):=⟨h0_⟩
 have n1_:Aside0 (w10.heap[gb221]? = some (.cells #[.slice A0_0 l0_0.length c0_0, .bool a0_1] 80 (0,0))):=⟨h1_⟩
 have n2_:Aside0 (w10.heap[gb222]? = some (.cells #[.slice none 0 0, .bool false] 80 (0,0))):=⟨h2_⟩
 have n3_:Aside0 (w10.heap[gb226]? = some (.cells #[.slice none 0 0, .bool false] 80 (0,0))):=⟨h3_⟩
 have n4_:Aside0 (w.heap.size≤gb226):=⟨h4_⟩
 have n5_:Aside0 (w.heap.size≤gb226):=⟨h5_⟩
 have n6_:Aside0 (gb221≠gb226):=⟨h6_⟩
 have n7_:Aside0 (gb226≠gb221):=⟨h7_⟩
 have n8_:Aside0 (gb222≠gb226):=⟨h8_⟩
 have n9_:Aside0 (gb226≠gb222):=⟨h9_⟩
 have n10_:Aside0 (Below w.heap.size w w10):=⟨h10_⟩
 clear BK221;clear BK222;clear HB;clear h0_ h1_ h2_ h3_ h4_ h5_ h6_ h7_ h8_ h9_ h10_;have HO225:=n0_;have BK221:=n1_;have BK222:=n2_;have BK226:=n3_;have GW226:=n4_;have GE226:=n5_;have NB221_226:=n6_;have NB226_221:=n7_;have NB222_226:=n8_;have NB226_222:=n9_;have HB:=n10_;clear n0_ n1_ n2_ n3_ n4_ n5_ n6_ n7_ n8_ n9_ n10_;have hHeld:w10.cell? ⟨gb221,0,none⟩=some (.slice A0_0 l0_0.length c0_0)∧w10.cell? ⟨gb221,1,none⟩=some (.bool a0_1):=hS_
 obtain ⟨Ao11,co11,eo11⟩:=Kd.R_slice HO225.out
 (first|subst eo11|(injection eo11 with f1_ f2_ f3_;have f4_:=f1_.symm;have f5_:=f3_.symm;clear f1_ f2_ f3_;subst f4_;subst f5_))
 refine norm_ (a':=?_) ?_ ?_
 rotate_left
 ·
  simp only[putAll,Act.put,sa',sb',sc'];rfl
 refine one_ (i:=8) (N:=none) #[true,true,true,true,true,true,true,true,true] rfl rfl (one_of HT_.out (by kernel_rfl)) (by decide) (fun K hK=>?_)
 have hs12:w10.cell? ⟨gb226,0,none⟩=some (.slice none 0 0):=(blk_cell BK226.out 0).trans rfl
 have hfs12:=blk_frozen BK226.out 0
 have hns12_0:=NB221_226.out
 have hns12_1:=NB222_226.out
 have hms12_0:=NB226_221.out
 have hms12_1:=NB226_222.out
 have hs13:w10.cell? ⟨gb226,1,none⟩=some (.bool false):=(blk_cell BK226.out 1).trans rfl
 have hfs13:=blk_frozen BK226.out 1
 have hns13_0:=NB221_226.out
 have hns13_1:=NB222_226.out
 have hms13_0:=NB226_221.out
 have hms13_1:=NB226_222.out
 refine skip_ (w1:=?_) (by rfl) rfl ?_ ?_
 rotate_left
 ·
  go_simp;rfl
 refine hK.out _ _ ⟨((cell_far (p:=⟨gb226,_,none⟩) NB221_226.out _).trans (((cell_far (p:=⟨gb226,_,none⟩) NB221_226.out _).trans (hHeld.1)))),((cell_far (p:=⟨gb226,_,none⟩) NB221_226.out _).trans (((cell_far (p:=⟨gb226,_,none⟩) NB221_226.out _).trans (hHeld.2))))⟩ (fun hHeld=>?_)
 clear hK K;refine done_ (done_of HT_.out (by kernel_rfl)) ?_
 try go_wp2
 go_loopg [17] k (fun kq v17 w'=>∃ (x17_1:Int) (x227000_1:List Bool) (u227000:Value),v17 = .int .i64 x17_1∧Aside0 (impl_State_moved.l0 kq l1 (l1.length:Int) x17_1 x227000_1 (!a0_1)=some (r1,r2))∧Aside0 (kq≤k)∧Aside0 (Kd.R Kd.bool 4 w' w.heap.size (fun _=>True) u227000 x227000_1)∧Aside0 (w'.heap[gb221]? = some (.cells #[(.slice A0_0 l0_0.length c0_0), .bool a0_1] 80 (0,0)))∧Aside0 (w'.heap[gb222]? = some (.cells #[(.slice none 0 0), .bool false] 80 (0,0)))∧Aside0 (w'.heap[gb226]? = some (.cells #[u227000, .bool (!a0_1)] 80 (0,0)))∧Aside0 (Below w.heap.size w w'))
 case atStart=>exact ⟨(0),(t223),(.slice Ao11 t223.length co11),(by first|rfl|(simp;done)|(simp[*];done)),H',⟨Nat.le_refl _⟩,⟨by (with_reducible repeat (first|apply ra'|apply rn'|apply rw'));exact Kd.R_mono (Kd.R_far (p:=⟨gb226,1,none⟩) (Kd.R_far (p:=⟨gb226,0,none⟩) (Kd.R_types HO225.out BK226.out (by decide)) (fun _ hk=>hk.2) (.slice Ao11 t223.length co11)) (fun _ hk=>hk.2) (.bool (!a0_1))) (fun _ hk=>trivial)⟩,⟨by (with_reducible repeat (first|refine kn' ?_ _|refine kd' ?_|refine ka' ?_ _));refine blk_far ?_ NB221_226.out _;(with_reducible repeat (first|refine kn' ?_ _|refine kd' ?_|refine ka' ?_ _));refine blk_far ?_ NB221_226.out _;(with_reducible repeat (first|refine kn' ?_ _|refine kd' ?_|refine ka' ?_ _));exact BK221.out⟩,⟨by (with_reducible repeat (first|refine kn' ?_ _|refine kd' ?_|refine ka' ?_ _));refine blk_far ?_ NB222_226.out _;(with_reducible repeat (first|refine kn' ?_ _|refine kd' ?_|refine ka' ?_ _));refine blk_far ?_ NB222_226.out _;(with_reducible repeat (first|refine kn' ?_ _|refine kd' ?_|refine ka' ?_ _));exact BK222.out⟩,⟨by (with_reducible repeat (first|refine kn' ?_ _|refine kd' ?_|refine ka' ?_ _));refine blk_put (cs:=#[.slice Ao11 t223.length co11, .bool false]) ?_ 1 _ rfl;(with_reducible repeat (first|refine kn' ?_ _|refine kd' ?_|refine ka' ?_ _));refine blk_put (cs:=#[.slice none 0 0, .bool false]) ?_ 0 _ rfl;(with_reducible repeat (first|refine kn' ?_ _|refine kd' ?_|refine ka' ?_ _));exact BK226.out⟩,⟨by repeat (first|(with_reducible first|exact HB.out|apply ba'|apply bd'|apply be'|refine bs' ?_ GE221.out|refine bs' ?_ GE222.out|refine bs' ?_ GE226.out)|exact HB.out)⟩⟩
 case round =>
  clear H';try clear c1
  try clear p2
  try clear c7
  try clear c8
  obtain ⟨x17_1,x227000_1,u227000,rfl,HA,HK1,HO_227000,BK221,BK222,BK226,HB⟩:=hrel;cases gk with
  | zero=>exact absurd HA.out (by simp[impl_State_moved.l0])
  | succ k1 =>
   have H:=HA.out;clear HA;simp only[impl_State_moved.l0] at H;by_cases c14:x17_1 < (l1.length:Int)
   ·
    rw[if_pos c14] at H;have c14b0:decide (x17_1 < (l1.length:Int))=true:=decide_eq_true c14;clear c14;by_cases c15:0≤x17_1
    ·
     rw[if_pos c15] at H;have c15b0:decide (0≤x17_1)=true:=decide_eq_true c15;clear c15;by_cases c16:x17_1 < (l1.length:Int)
     ·
      rw[if_pos c16] at H;have c16b0:decide (x17_1 < (l1.length:Int))=true:=decide_eq_true c16;clear c16;by_cases c17:0≤(rd l1 x17_1)
      ·
       rw[if_pos c17] at H;have c17b0:decide (0≤(rd l1 x17_1))=true:=decide_eq_true c17;clear c17;by_cases c18:(rd l1 x17_1) < (x227000_1.length:Int)
       ·
        rw[if_pos c18] at H;have c18b0:decide ((rd l1 x17_1) < (x227000_1.length:Int))=true:=decide_eq_true c18;clear c18;obtain ⟨y228,hy228⟩:∃ y_:List Bool,y_=(x227000_1.set ((rd l1 x17_1):Int).toNat (!a0_1)):=⟨_,rfl⟩
        replace H:(impl_State_moved.l0 k1 l1 (l1.length:Int) (wrap64 (x17_1+1)) y228 (!a0_1))=some (r1,r2):=by first|(rw[hy228];with_reducible exact H)|(have H2_:=(Option.bind_some _ _).symm.trans H;rw[hy228];with_reducible exact H2_)|(have H2_:=(Option.bind_some _ _).symm.trans H;with_reducible exact H2_)|with_reducible exact H|(rw[hy228];exact H)|exact H
        have Ny228:=am' hy228;clear hy228;have H':=am' H;clear H;have p227:0≤(x17_1:Int):=of_decide_eq_true (by first|(with_reducible assumption)|assumption);have q227:x17_1 < (l1.length:Int):=of_decide_eq_true (by first|(with_reducible assumption)|assumption);obtain ⟨ad227,e227,hx227_0⟩:=Kd.at_int HR1.out x17_1 p227 q227;cases e227;replace hx227_0:=(HB.out.cell (bl' w _ hx227_0)).trans hx227_0;replace p227:=eq_true p227;replace q227:=eq_true q227;have hnb20:=NB226_221.out;have hnc20:=NB221_226.out;have hnb21:=NB226_222.out;have hnc21:=NB222_226.out;have hcz22_0:wr.cell? ⟨gb226,0,none⟩=some (u227000):=(blk_cell BK226.out 0).trans rfl;have hcz22_1:wr.cell? ⟨gb226,1,none⟩=some (.bool (!a0_1)):=(blk_cell BK226.out 1).trans rfl;have hfz22_0:=blk_frozen BK226.out 0;have hfz22_1:=blk_frozen BK226.out 1;have p19:0≤((rd l1 x17_1):Int):=of_decide_eq_true (by first|(with_reducible assumption)|assumption);have q19:((rd l1 x17_1):Int) < ((x227000_1.length:Int):Int):=of_decide_eq_true (by first|(with_reducible assumption)|assumption);obtain ⟨go19,co19,eo19,gb19,gl19,cl19,HG19⟩:=Kd.R_form HO_227000.out (by omega)
        (first|cases eo19|(injection eo19 with ea_ en_ ec_;(first|subst ea_|(injection ea_ with ea_;subst ea_));subst ec_;clear en_))
        have GB19:=am' gb19;have GG19:=am' HG19;clear gb19 gl19 HG19;obtain ⟨hx19_0,hf19_0⟩:=Kd.R_celln false HO_227000.out ((rd l1 x17_1):Int) p19 q19;replace p19:=eq_true p19;replace q19:=eq_true q19;have HP23:=Kd.R_putg HO_227000.out ((rd l1 x17_1):Int) (!a0_1);go_wp2_with (first|((with_reducible refine gate_store (t:=4) (p:=26) rfl ?_);refine store_event (t:=4) (p:=26) (v:=?vo_w24) (w1:=(wr.setCell ⟨go19,((rd l1 x17_1):Int).toNat,none⟩ (.bool (!a0_1)))) ?hg ?ho ?hn ?hr ?_;(case ho=>rfl);(case hg=>rfl);(case hn=>rfl);(case hr=>first|(go_simp;done)|(go_simp;rfl));intro w24 hw;have hg:wr.grownBy w24 (some go19):=(by rw[hw];exact HP23.2);have hp_:Kd.R Kd.bool 4 w24 w.heap.size (fun _=>True) (.slice (some ⟨go19,0,none⟩) x227000_1.length co19) y228:=(by rw[hw,Ny228.out];exact HP23.1);clear HP23;have n0_:=am' (hp_);have n1_:=am' (blk_grown (g:=gb221) (o := .cells #[.slice A0_0 l0_0.length c0_0, .bool a0_1] 80 (0,0)) (by (with_reducible repeat (first|refine kn' ?_ _|refine kd' ?_|refine ka' ?_ _));exact BK221.out) hg (Kd.R_ne HO_227000.out BK221.out (by decide)));have n2_:=am' (blk_grown (g:=gb222) (o := .cells #[.slice none 0 0, .bool false] 80 (0,0)) (by (with_reducible repeat (first|refine kn' ?_ _|refine kd' ?_|refine ka' ?_ _));exact BK222.out) hg (Kd.R_ne HO_227000.out BK222.out (by decide)));have n3_:=am' (blk_grown (g:=gb226) (o := .cells #[.slice (some ⟨go19,0,none⟩) x227000_1.length co19, .bool (!a0_1)] 80 (0,0)) (by (with_reducible repeat (first|refine kn' ?_ _|refine kd' ?_|refine ka' ?_ _));exact BK226.out) hg (Kd.R_ne HO_227000.out BK226.out (by decide)));have n4_:=am' ((by rw[hw];exact bs' (HB.out) GB19.out:Below w.heap.size w w24));clear HO_227000;clear BK221;clear BK222;clear BK226;clear HB;have HO_227000:=n0_;have BK221:=n1_;have BK222:=n2_;have BK226:=n3_;have HB:=n4_;clear n0_ n1_ n2_ n3_ n4_;clear hg hw hp_));go_roundg k1
        case measure=>have:=HK1.out;omega
        case rel=>exact ⟨(wrap64 (x17_1+1)),(y228),(.slice (some ⟨go19,0,none⟩) x227000_1.length co19),(by first|rfl|(simp;done)|(simp[*];done)),H',⟨by have:=HK1.out;omega⟩,⟨by (with_reducible repeat (first|apply ra'|apply rn'|apply rw'));exact HO_227000.out⟩,⟨by (with_reducible repeat (first|refine kn' ?_ _|refine kd' ?_|refine ka' ?_ _));exact BK221.out⟩,⟨by (with_reducible repeat (first|refine kn' ?_ _|refine kd' ?_|refine ka' ?_ _));exact BK222.out⟩,⟨by (with_reducible repeat (first|refine kn' ?_ _|refine kd' ?_|refine ka' ?_ _));exact BK226.out⟩,⟨by repeat (first|(with_reducible first|exact HB.out|apply ba'|apply bd'|apply be'|refine bs' ?_ GE221.out|refine bs' ?_ GE222.out|refine bs' ?_ GE226.out)|exact HB.out)⟩⟩
       ·
        rw[if_neg c18] at H;exact absurd H (by simp)
      ·
       rw[if_neg c17] at H;exact absurd H (by simp)
     ·
      rw[if_neg c16] at H;exact absurd H (by simp)
    ·
     rw[if_neg c15] at H;exact absurd H (by simp)
   ·
    rw[if_neg c14] at H;have c14b0:decide (x17_1 < (l1.length:Int))=false:=decide_eq_false c14;clear c14;simp only[Option.some.injEq,Prod.mk.injEq] at H;obtain ⟨rfl,rfl⟩:=H;have hnb25:=NB226_221.out;have hnc25:=NB221_226.out;have hnb26:=NB226_222.out;have hnc26:=NB222_226.out;have hcz27_0:wr.cell? ⟨gb226,0,none⟩=some (u227000):=(blk_cell BK226.out 0).trans rfl;have hcz27_1:wr.cell? ⟨gb226,1,none⟩=some (.bool (!a0_1)):=(blk_cell BK226.out 1).trans rfl;have hfz27_0:=blk_frozen BK226.out 0;have hfz27_1:=blk_frozen BK226.out 1;obtain ⟨Ao28,co28,eo28⟩:=Kd.R_slice HO_227000.out;subst eo28;have hnb29:=NB222_221.out;have hnc29:=NB221_222.out;have hcz30_0:wr.cell? ⟨gb222,0,none⟩=some (.slice none 0 0):=(blk_cell BK222.out 0).trans rfl;have hcz30_1:wr.cell? ⟨gb222,1,none⟩=some (.bool false):=(blk_cell BK222.out 1).trans rfl;have hfz30_0:=blk_frozen BK222.out 0;have hfz30_1:=blk_frozen BK222.out 1;go_wp2;refine bodyPost_ret (results_cell_row rfl _ _ gb222 80 #[.slice Ao28 x227000_1.length co28, .bool (!a0_1)] (0,0) _ rfl (by (with_reducible repeat (first|refine kn' ?_ _|refine kd' ?_|refine ka' ?_ _));refine blk_put (cs:=#[.slice Ao28 x227000_1.length co28, .bool false]) ?_ 1 _ rfl;(with_reducible repeat (first|refine kn' ?_ _|refine kd' ?_|refine ka' ?_ _));refine blk_put (cs:=#[.slice none 0 0, .bool false]) ?_ 0 _ rfl;(with_reducible repeat (first|refine kn' ?_ _|refine kd' ?_|refine ka' ?_ _));exact BK222.out) Try.underlying80 rfl (by kernel_rfl)) rfl ?_
    exact ⟨_,by first|rfl|(simp[errW_none,errW_some] <;> rfl)|(simp[*,errW_none,errW_some] <;> rfl),by (with_reducible repeat (first|apply ra'|apply rn'|apply rw'));exact Kd.R_mono (Kd.R_far (p:=⟨gb222,1,none⟩) (Kd.R_far (p:=⟨gb222,0,none⟩) (Kd.R_types HO_227000.out BK222.out (by decide)) (fun _ hk=>hk.2) (.slice Ao28 x227000_1.length co28)) (fun _ hk=>hk.2) (.bool (!a0_1))) (fun _ hk=>trivial),by repeat (first|(with_reducible first|exact HB.out|apply ba'|apply bd'|apply be'|refine bs' ?_ GE221.out|refine bs' ?_ GE222.out|refine bs' ?_ GE226.out)|exact HB.out)⟩
end Go.Proofs.Ytdomojenlofieaa.C1
