import Derived.Test.YtamljjfhkolflaaC11zx0
import Derived.Test.YtamljjfhkolflaaC11zx2
import Derived.Test.YtamljjfhkolflaaC11zx6
import Derived.Test.YtamljjfhkolflaaC11zx7
import Derived.Test.YtamljjfhkolflaaC11zAl
namespace Go.Proofs.Ytamljjfhkolflaa.C11
open Go.RowKit Go.Proofs.YtamljjfhkolflaaW.PrintWords Go.Proofs.YtamljjfhkolflaaW.PrintLast Go.Proofs.YtamljjfhkolflaaW.PrintMore Go.Proofs.Ytamljjfhkolflaa.H
attribute [local go_sem] max2_int min2_int max_two min_two max_three min_three max_four min_four
set_option linter.unusedVariables false
set_option linter.unusedSimpArgs false
def spec_l1In.f (a0:Int) (a1:Int) (a2:Int):Option (Bool):=if a0 ≥ a1 then (some (decide (a0≤a2))) else (some false)
set_option maxHeartbeats 8000000 in
set_option maxRecDepth 100000 in
theorem spec_l1In.calls (a0:Int) (a1:Int) (a2:Int) (r:Bool) (w:World) (h:spec_l1In.f a0 a1 a2=some r) :
  Calls Try.prog 60 #[.int .i64 a0, .int .i64 a1, .int .i64 a2] w fun e w'=>e = .returned (.bool r)∧Drawn0 w w':=by
 have H:(if a0 ≥ a1 then (some (decide (a0≤a2))) else (some false))=some r:=h
 clear h;by_cases c4:a0 ≥ a1
 ·
  rw[if_pos c4] at H;have c4b0:decide (a1≤a0)=true:=decide_eq_true c4;clear c4;obtain rfl:=Option.some.inj H;go_enter Try.func60,Try.ntmps60;go_wp2;go_ret
  exact ⟨by first|rfl|(simp;done)|(simp[*];done),by repeat (first|exact Drawn0.refl _|apply Drawn0.step)⟩
 ·
  rw[if_neg c4] at H;have c4b0:decide (a1≤a0)=false:=decide_eq_false c4;clear c4;obtain rfl:=Option.some.inj H;go_enter Try.func60,Try.ntmps60;go_wp2;go_ret
  exact ⟨by first|rfl|(simp;done)|(simp[*];done),by repeat (first|exact Drawn0.refl _|apply Drawn0.step)⟩
def spec_l1All.l0:Nat→Int→Int→List Int→Int→Int→Option (Bool)
 | 0,_,_,_,_,_=>none
 | k+1,x1,x2,x9,x10,x11=>if x11 < x10 then (if 0≤x11 then (if x11 < (x9.length:Int) then ((spec_l1In.f (rd x9 x11) x1 x2).bind fun t270=>(if t270=true then (spec_l1All.l0 k x1 x2 x9 x10 (wrap64 (x11+1))) else (some false))) else (none)) else (none)) else (some true)
def spec_l1All.f (k:Nat) (l0:List Int) (a1:Int) (a2:Int):Option (Bool):=spec_l1All.l0 k a1 a2 l0 (l0.length:Int) 0
set_option maxHeartbeats 8000000 in
set_option maxRecDepth 100000 in
theorem spec_l1All.calls (k:Nat) (A0:Option Addr) (c0:Nat) (l0:List Int) (a1:Int) (a2:Int) (r:Bool) (w:World) (hr0:Kd.C (Kd.int .i64) w A0 l0.length l0) (hc0:l0.length≤c0) (h:spec_l1All.f k l0 a1 a2=some r) :
  Calls Try.prog 99 #[.slice A0 l0.length c0, .int .i64 a1, .int .i64 a2] w fun e w'=>e = .returned (.bool r)∧Drawn0 w w':=by
 have HR0:=am' hr0
 have HC0:=am' hc0
 clear hr0 hc0;have H:(spec_l1All.l0 k a1 a2 l0 (l0.length:Int) 0)=some r:=h
 clear h;have H':=am' H
 clear H;go_enter Try.func99,Try.ntmps99
 go_wp2
 go_loopg [11] k (fun kq v11 w'=>∃ (x11_1:Int),v11 = .int .i64 x11_1∧Aside0 (spec_l1All.l0 kq a1 a2 l0 (l0.length:Int) x11_1=some r)∧Aside0 (kq≤k)∧Drawn0 w w')
 case atStart=>exact ⟨(0),(by first|rfl|(simp;done)|(simp[*];done)),H',⟨Nat.le_refl _⟩,by repeat (first|exact Drawn0.refl _|apply Drawn0.step)⟩
 case round =>
  clear H';try clear p2
  obtain ⟨x11_1,rfl,HA,HK1,⟨m1,rfl⟩⟩:=hrel;cases gk with
  | zero=>exact absurd HA.out (by simp[spec_l1All.l0])
  | succ k1 =>
   have H:=HA.out;clear HA;simp only[spec_l1All.l0] at H;by_cases c4:x11_1 < (l0.length:Int)
   ·
    rw[if_pos c4] at H;have c4b0:decide (x11_1 < (l0.length:Int))=true:=decide_eq_true c4;clear c4;by_cases c5:0≤x11_1
    ·
     rw[if_pos c5] at H;have c5b0:decide (0≤x11_1)=true:=decide_eq_true c5;clear c5;by_cases c6:x11_1 < (l0.length:Int)
     ·
      rw[if_pos c6] at H;have c6b0:decide (x11_1 < (l0.length:Int))=true:=decide_eq_true c6;clear c6;replace H:=Option.bind_eq_some_iff.mp H;obtain ⟨t270,A70,H⟩:=H;replace H:(if t270=true then (spec_l1All.l0 k1 a1 a2 l0 (l0.length:Int) (wrap64 (x11_1+1))) else (some false))=some r:=H;have A7:=am' A70;clear A70;by_cases c8:t270=true
      ·
       subst c8;have H1:(spec_l1All.l0 k1 a1 a2 l0 (l0.length:Int) (wrap64 (x11_1+1)))=some r:=by rw[if_pos rfl] at H;exact H
       clear H;have H:=H1;clear H1;have H':=am' H;clear H;have p269:0≤(x11_1:Int):=of_decide_eq_true (by first|(with_reducible assumption)|assumption);have q269:x11_1 < (l0.length:Int):=of_decide_eq_true (by first|(with_reducible assumption)|assumption);obtain ⟨ad269,e269,hx269_0⟩:=Kd.at_int HR0.out x11_1 p269 q269;cases e269;replace p269:=eq_true p269;replace q269:=eq_true q269;go_wp2_with (first|((with_reducible refine gate_callee (f:=60) rfl ?_);refine goesL_ (some 18) rfl rfl Try.func60 (by kernel_rfl) rfl #[.int .i64 (rd l0 x11_1), .int .i64 a1, .int .i64 a2] rfl (by (try simp only[List.map_toArray,List.map_cons,List.map_nil]);first|done|rfl|(simp only[List.length_drop,List.length_take];rfl)) ?_;(with_reducible refine (spec_l1In.calls (rd l0 x11_1) a1 a2 true _ A7.out).mono ?_);rintro e w' ⟨rfl,⟨nd,rfl⟩⟩;refine ⟨_,rfl,?_⟩));go_roundg k1
       case measure=>have:=HK1.out;omega
       case rel=>exact ⟨(wrap64 (x11_1+1)),(by first|rfl|(simp;done)|(simp[*];done)),H',⟨by have:=HK1.out;omega⟩,by repeat (first|exact Drawn0.refl _|apply Drawn0.step)⟩
      ·
       replace c8:=Bool.eq_false_iff.mpr c8;subst c8;have H1:(some false)=some r:=by rw[if_neg (show ¬ (false=true) by decide)] at H;exact H
       clear H;have H:=H1;clear H1;obtain rfl:=Option.some.inj H;have p269:0≤(x11_1:Int):=of_decide_eq_true (by first|(with_reducible assumption)|assumption);have q269:x11_1 < (l0.length:Int):=of_decide_eq_true (by first|(with_reducible assumption)|assumption);obtain ⟨ad269,e269,hx269_0⟩:=Kd.at_int HR0.out x11_1 p269 q269;cases e269;replace p269:=eq_true p269;replace q269:=eq_true q269;go_wp2_with (first|((with_reducible refine gate_callee (f:=60) rfl ?_);refine goesL_ (some 18) rfl rfl Try.func60 (by kernel_rfl) rfl #[.int .i64 (rd l0 x11_1), .int .i64 a1, .int .i64 a2] rfl (by (try simp only[List.map_toArray,List.map_cons,List.map_nil]);first|done|rfl|(simp only[List.length_drop,List.length_take];rfl)) ?_;(with_reducible refine (spec_l1In.calls (rd l0 x11_1) a1 a2 false _ A7.out).mono ?_);rintro e w' ⟨rfl,⟨nd,rfl⟩⟩;refine ⟨_,rfl,?_⟩));go_ret
       exact ⟨by first|rfl|(simp;done)|(simp[*];done),by repeat (first|exact Drawn0.refl _|apply Drawn0.step)⟩
     ·
      rw[if_neg c6] at H;exact absurd H (by simp)
    ·
     rw[if_neg c5] at H;exact absurd H (by simp)
   ·
    rw[if_neg c4] at H;have c4b0:decide (x11_1 < (l0.length:Int))=false:=decide_eq_false c4;clear c4;obtain rfl:=Option.some.inj H;go_wp2;go_ret
    exact ⟨by first|rfl|(simp;done)|(simp[*];done),by repeat (first|exact Drawn0.refl _|apply Drawn0.step)⟩
def spec_paGood.f (k:Nat) (l0_0:List Int) (a0_1:Int):Option (Bool):=(spec_l1In.f (l0_0.length:Int) 1 8).bind fun t272=>(if t272=true then ((spec_l1All.f k l0_0 1 1000).bind fun t273=>(if t273=true then ((spec_l1In.f a0_1 1 3).bind fun t274=>(some t274)) else (some false))) else (some false))
set_option maxHeartbeats 8000000 in
set_option maxRecDepth 100000 in
theorem spec_paGood.calls (k:Nat) (A0_0:Option Addr) (c0_0:Nat) (l0_0:List Int) (a0_1:Int) (r:Bool) (w:World) (hr0_0:Kd.C (Kd.int .i64) w A0_0 l0_0.length l0_0) (hc0_0:l0_0.length≤c0_0) (h:spec_paGood.f k l0_0 a0_1=some r) :
  Calls Try.prog 59 #[.agg #[.slice A0_0 l0_0.length c0_0, .int .i64 a0_1]] w fun e w'=>e = .returned (.bool r)∧Below w.heap.size w w':=by
 have hu28:=Try.underlying28
 have HR0_0:=am' hr0_0
 have HC0_0:=am' hc0_0
 clear hr0_0 hc0_0;have HB:=am' (Below.refl w.heap.size w)
 have H:((spec_l1In.f (l0_0.length:Int) 1 8).bind fun t272=>(if t272=true then ((spec_l1All.f k l0_0 1 1000).bind fun t273=>(if t273=true then ((spec_l1In.f a0_1 1 3).bind fun t274=>(some t274)) else (some false))) else (some false)))=some r:=h
 clear h;replace H:=Option.bind_eq_some_iff.mp H
 obtain ⟨t272,A20,H⟩:=H
 replace H:(if t272=true then ((spec_l1All.f k l0_0 1 1000).bind fun t273=>(if t273=true then ((spec_l1In.f a0_1 1 3).bind fun t274=>(some t274)) else (some false))) else (some false))=some r:=H
 have A2:=am' A20
 clear A20;by_cases c3:t272=true
 ·
  subst c3;have H1:((spec_l1All.f k l0_0 1 1000).bind fun t273=>(if t273=true then ((spec_l1In.f a0_1 1 3).bind fun t274=>(some t274)) else (some false)))=some r:=by rw[if_pos rfl] at H;exact H
  clear H;have H:=H1;clear H1;replace H:=Option.bind_eq_some_iff.mp H;obtain ⟨t273,A40,H⟩:=H;replace H:(if t273=true then ((spec_l1In.f a0_1 1 3).bind fun t274=>(some t274)) else (some false))=some r:=H;have A4:=am' A40;clear A40;by_cases c5:t273=true
  ·
   subst c5;have H1:((spec_l1In.f a0_1 1 3).bind fun t274=>(some t274))=some r:=by rw[if_pos rfl] at H;exact H
   clear H;have H:=H1;clear H1;replace H:=Option.bind_eq_some_iff.mp H;obtain ⟨t274,A60,H⟩:=H;replace H:(some t274)=some r:=H;have A6:=am' A60;clear A60;obtain rfl:=Option.some.inj H;go_enter Try.func59,Try.ntmps59;go_wp2_with (first|((with_reducible refine gate_dst (N:=1) rfl ?_);refine box_event ?hg (N:=1) ?hd (cs:=#[.slice A0_0 l0_0.length c0_0, .int .i64 a0_1]) (t:=28) ?hr ?_;(case hd=>rfl);(case hg=>rfl);(case hr=>first|(go_simp;done)|(go_simp;rfl));intro gb271 hg w7 hbox hb;have n0_:=am' (below_step (by repeat (first|(with_reducible first|exact HB.out|apply ba'|apply bd'|apply be')|exact HB.out)) hb);have n1_:=am' (hbox);have n2_:=am' ((by rw[hg];exact (below_size (by repeat (first|(with_reducible first|exact HB.out|apply ba'|apply bd'|apply be')|exact HB.out))):w.heap.size≤gb271));have n3_:=am' ((by rw[hg];exact (below_size (by repeat (first|(with_reducible first|exact HB.out|apply ba'|apply bd'|apply be')|exact HB.out))):w.heap.size≤gb271));clear HB;have HB:=n0_;have BK271:=n1_;have GW271:=n2_;have GE271:=n3_;clear n0_ n1_ n2_ n3_;clear hb hbox hg;have hcz8_0:w7.cell? ⟨gb271,0,none⟩=some (.slice A0_0 l0_0.length c0_0):=(blk_cell BK271.out 0).trans rfl;have hcz8_1:w7.cell? ⟨gb271,1,none⟩=some (.int .i64 a0_1):=(blk_cell BK271.out 1).trans rfl;have hfz8_0:=blk_frozen BK271.out 0;have hfz8_1:=blk_frozen BK271.out 1)|((with_reducible refine gate_callee (f:=60) rfl ?_);refine goesL_ (some 6) rfl rfl Try.func60 (by kernel_rfl) rfl #[.int .i64 (l0_0.length:Int), .int .i64 1, .int .i64 8] rfl (by (try simp only[List.map_toArray,List.map_cons,List.map_nil]);first|done|rfl|(simp only[List.length_drop,List.length_take];rfl)) ?_;(with_reducible refine (spec_l1In.calls (l0_0.length:Int) 1 8 true _ A2.out).mono ?_);rintro e w' ⟨rfl,⟨nd,rfl⟩⟩;refine ⟨_,rfl,?_⟩)|(go_at_call 99;(with_reducible refine (spec_l1All.calls k _ _ l0_0 1 1000 true _ ?side1 ?side2 A4.out).mono ?_);(case side1=>repeat (first|exact (Kd.C_below HR0_0.out (by repeat (first|(with_reducible first|exact HB.out|apply ba'|apply bd'|apply be'|refine bs' ?_ GE271.out)|exact HB.out)))|(with_reducible refine ca' ?_ _)|(with_reducible refine cn' ?_ _)|(with_reducible refine cd' ?_)));(case side2=>exact HC0_0.out);rintro e w' ⟨rfl,⟨nd,rfl⟩⟩)|(go_at_call 60;(with_reducible refine (spec_l1In.calls a0_1 1 3 t274 _ A6.out).mono ?_);rintro e w' ⟨rfl,⟨nd,rfl⟩⟩));go_ret
   exact ⟨by first|rfl|(simp[errW_none,errW_some] <;> rfl)|(simp[*,errW_none,errW_some] <;> rfl),by repeat (first|(with_reducible first|exact HB.out|apply ba'|apply bd'|apply be'|refine bs' ?_ GE271.out)|exact HB.out)⟩
  ·
   replace c5:=Bool.eq_false_iff.mpr c5;subst c5;have H1:(some false)=some r:=by rw[if_neg (show ¬ (false=true) by decide)] at H;exact H
   clear H;have H:=H1;clear H1;obtain rfl:=Option.some.inj H;go_enter Try.func59,Try.ntmps59;go_wp2_with (first|((with_reducible refine gate_dst (N:=1) rfl ?_);refine box_event ?hg (N:=1) ?hd (cs:=#[.slice A0_0 l0_0.length c0_0, .int .i64 a0_1]) (t:=28) ?hr ?_;(case hd=>rfl);(case hg=>rfl);(case hr=>first|(go_simp;done)|(go_simp;rfl));intro gb271 hg w9 hbox hb;have n0_:=am' (below_step (by repeat (first|(with_reducible first|exact HB.out|apply ba'|apply bd'|apply be')|exact HB.out)) hb);have n1_:=am' (hbox);have n2_:=am' ((by rw[hg];exact (below_size (by repeat (first|(with_reducible first|exact HB.out|apply ba'|apply bd'|apply be')|exact HB.out))):w.heap.size≤gb271));have n3_:=am' ((by rw[hg];exact (below_size (by repeat (first|(with_reducible first|exact HB.out|apply ba'|apply bd'|apply be')|exact HB.out))):w.heap.size≤gb271));clear HB;have HB:=n0_;have BK271:=n1_;have GW271:=n2_;have GE271:=n3_;clear n0_ n1_ n2_ n3_;clear hb hbox hg;have hcz10_0:w9.cell? ⟨gb271,0,none⟩=some (.slice A0_0 l0_0.length c0_0):=(blk_cell BK271.out 0).trans rfl;have hcz10_1:w9.cell? ⟨gb271,1,none⟩=some (.int .i64 a0_1):=(blk_cell BK271.out 1).trans rfl;have hfz10_0:=blk_frozen BK271.out 0;have hfz10_1:=blk_frozen BK271.out 1)|((with_reducible refine gate_callee (f:=60) rfl ?_);refine goesL_ (some 6) rfl rfl Try.func60 (by kernel_rfl) rfl #[.int .i64 (l0_0.length:Int), .int .i64 1, .int .i64 8] rfl (by (try simp only[List.map_toArray,List.map_cons,List.map_nil]);first|done|rfl|(simp only[List.length_drop,List.length_take];rfl)) ?_;(with_reducible refine (spec_l1In.calls (l0_0.length:Int) 1 8 true _ A2.out).mono ?_);rintro e w' ⟨rfl,⟨nd,rfl⟩⟩;refine ⟨_,rfl,?_⟩)|(go_at_call 99;(with_reducible refine (spec_l1All.calls k _ _ l0_0 1 1000 false _ ?side1 ?side2 A4.out).mono ?_);(case side1=>repeat (first|exact (Kd.C_below HR0_0.out (by repeat (first|(with_reducible first|exact HB.out|apply ba'|apply bd'|apply be'|refine bs' ?_ GE271.out)|exact HB.out)))|(with_reducible refine ca' ?_ _)|(with_reducible refine cn' ?_ _)|(with_reducible refine cd' ?_)));(case side2=>exact HC0_0.out);rintro e w' ⟨rfl,⟨nd,rfl⟩⟩));go_ret
   exact ⟨by first|rfl|(simp[errW_none,errW_some] <;> rfl)|(simp[*,errW_none,errW_some] <;> rfl),by repeat (first|(with_reducible first|exact HB.out|apply ba'|apply bd'|apply be'|refine bs' ?_ GE271.out)|exact HB.out)⟩
 ·
  replace c3:=Bool.eq_false_iff.mpr c3;subst c3;have H1:(some false)=some r:=by rw[if_neg (show ¬ (false=true) by decide)] at H;exact H
  clear H;have H:=H1;clear H1;obtain rfl:=Option.some.inj H;go_enter Try.func59,Try.ntmps59;go_wp2_with (first|((with_reducible refine gate_dst (N:=1) rfl ?_);refine box_event ?hg (N:=1) ?hd (cs:=#[.slice A0_0 l0_0.length c0_0, .int .i64 a0_1]) (t:=28) ?hr ?_;(case hd=>rfl);(case hg=>rfl);(case hr=>first|(go_simp;done)|(go_simp;rfl));intro gb271 hg w11 hbox hb;have n0_:=am' (below_step (by repeat (first|(with_reducible first|exact HB.out|apply ba'|apply bd'|apply be')|exact HB.out)) hb);have n1_:=am' (hbox);have n2_:=am' ((by rw[hg];exact (below_size (by repeat (first|(with_reducible first|exact HB.out|apply ba'|apply bd'|apply be')|exact HB.out))):w.heap.size≤gb271));have n3_:=am' ((by rw[hg];exact (below_size (by repeat (first|(with_reducible first|exact HB.out|apply ba'|apply bd'|apply be')|exact HB.out))):w.heap.size≤gb271));clear HB;have HB:=n0_;have BK271:=n1_;have GW271:=n2_;have GE271:=n3_;clear n0_ n1_ n2_ n3_;clear hb hbox hg;have hcz12_0:w11.cell? ⟨gb271,0,none⟩=some (.slice A0_0 l0_0.length c0_0):=(blk_cell BK271.out 0).trans rfl;have hcz12_1:w11.cell? ⟨gb271,1,none⟩=some (.int .i64 a0_1):=(blk_cell BK271.out 1).trans rfl;have hfz12_0:=blk_frozen BK271.out 0;have hfz12_1:=blk_frozen BK271.out 1)|((with_reducible refine gate_callee (f:=60) rfl ?_);refine goesL_ (some 6) rfl rfl Try.func60 (by kernel_rfl) rfl #[.int .i64 (l0_0.length:Int), .int .i64 1, .int .i64 8] rfl (by (try simp only[List.map_toArray,List.map_cons,List.map_nil]);first|done|rfl|(simp only[List.length_drop,List.length_take];rfl)) ?_;(with_reducible refine (spec_l1In.calls (l0_0.length:Int) 1 8 false _ A2.out).mono ?_);rintro e w' ⟨rfl,⟨nd,rfl⟩⟩;refine ⟨_,rfl,?_⟩));go_ret
  exact ⟨by first|rfl|(simp[errW_none,errW_some] <;> rfl)|(simp[*,errW_none,errW_some] <;> rfl),by repeat (first|(with_reducible first|exact HB.out|apply ba'|apply bd'|apply be'|refine bs' ?_ GE271.out)|exact HB.out)⟩
def spec_paState.l0:Nat→List Bool→Int→Int→List Bool→Bool→Option (Bool)
 | 0,_,_,_,_,_=>none
 | k+1,x15,x16,x17,x277000,x277001=>if x17 < x16 then (if 0≤x17 then (if x17 < (x15.length:Int) then (if ((rdOf false x15 x17) == x277001)=true then (some true) else (spec_paState.l0 k x15 x16 (wrap64 (x17+1)) x277000 x277001)) else (none)) else (none)) else (some false)
def spec_paState.f (k:Nat) (l0_0:List Int) (a0_1:Int) (l1_0:List Bool) (a1_1:Bool):Option (Bool):=if (l1_0.length:Int)=(l0_0.length:Int) then (spec_paState.l0 k l1_0 (l1_0.length:Int) 0 l1_0 a1_1) else (some false)
set_option maxHeartbeats 8000000 in
set_option maxRecDepth 100000 in
theorem spec_paState.calls (k:Nat) (A0_0:Option Addr) (c0_0:Nat) (l0_0:List Int) (a0_1:Int) (A1_0:Option Addr) (c1_0:Nat) (l1_0:List Bool) (a1_1:Bool) (r:Bool) (w:World) (hr0_0:Kd.C (Kd.int .i64) w A0_0 l0_0.length l0_0) (hc0_0:l0_0.length≤c0_0) (hr1_0:Kd.C Kd.bool w A1_0 l1_0.length l1_0) (hc1_0:l1_0.length≤c1_0) (h:spec_paState.f k l0_0 a0_1 l1_0 a1_1=some r) :
  Calls Try.prog 93 #[.agg #[.slice A0_0 l0_0.length c0_0, .int .i64 a0_1], .agg #[.slice A1_0 l1_0.length c1_0, .bool a1_1]] w fun e w'=>e = .returned (.bool r)∧Below w.heap.size w w':=by
 have hu28:=Try.underlying28
 have hu44:=Try.underlying44
 have HR0_0:=am' hr0_0
 have HC0_0:=am' hc0_0
 clear hr0_0 hc0_0;have HR1_0:=am' hr1_0
 have HC1_0:=am' hc1_0
 clear hr1_0 hc1_0;have HB:=am' (Below.refl w.heap.size w)
 have H:(if (l1_0.length:Int)=(l0_0.length:Int) then (spec_paState.l0 k l1_0 (l1_0.length:Int) 0 l1_0 a1_1) else (some false))=some r:=h
 clear h;by_cases c3:(l1_0.length:Int)=(l0_0.length:Int)
 ·
  rw[if_pos c3] at H;have c3b0:((l1_0.length:Int) == (l0_0.length:Int))=true:=beq_iff_eq.mpr c3;have c3b1:((l1_0.length:Int) != (l0_0.length:Int))=false:=bne_eq_false_iff_eq.mpr c3;have c3b2:(l1_0.length == l0_0.length)=true:=by first|simpa using c3|(simp at c3 ⊢;omega)
  clear c3;have H':=am' H;clear H;go_enter Try.func93,Try.ntmps93;go_wp2_with (first|((with_reducible refine gate_dst (N:=2) rfl ?_);refine box_event ?hg (N:=2) ?hd (cs:=#[.slice A0_0 l0_0.length c0_0, .int .i64 a0_1]) (t:=28) ?hr ?_;(case hd=>rfl);(case hg=>rfl);(case hr=>first|(go_simp;done)|(go_simp;rfl));intro gb275 hg w4 hbox hb;have n0_:=am' (below_step (by repeat (first|(with_reducible first|exact HB.out|apply ba'|apply bd'|apply be')|exact HB.out)) hb);have n1_:=am' (hbox);have n2_:=am' ((by rw[hg];exact (below_size (by repeat (first|(with_reducible first|exact HB.out|apply ba'|apply bd'|apply be')|exact HB.out))):w.heap.size≤gb275));have n3_:=am' ((by rw[hg];exact (below_size (by repeat (first|(with_reducible first|exact HB.out|apply ba'|apply bd'|apply be')|exact HB.out))):w.heap.size≤gb275));clear HB;have HB:=n0_;have BK275:=n1_;have GW275:=n2_;have GE275:=n3_;clear n0_ n1_ n2_ n3_;clear hb hbox hg)|((with_reducible refine gate_dst (N:=3) rfl ?_);refine box_event ?hg (N:=3) ?hd (cs:=#[.slice A1_0 l1_0.length c1_0, .bool a1_1]) (t:=44) ?hr ?_;(case hd=>rfl);(case hg=>rfl);(case hr=>first|(go_simp;done)|(go_simp;rfl));intro gb276 hg w5 hbox hb;have n0_:=am' (blk_below (g:=gb275) (o := .cells #[.slice A0_0 l0_0.length c0_0, .int .i64 a0_1] 28 (0,0)) (by (with_reducible repeat (first|refine kn' ?_ _|refine kd' ?_|refine ka' ?_ _));exact BK275.out) hb);have n1_:=am' (below_step (by repeat (first|(with_reducible first|exact HB.out|apply ba'|apply bd'|apply be'|refine bs' ?_ GE275.out)|exact HB.out)) hb);have n2_:=am' (hbox);have n3_:=am' ((by rw[hg];exact (below_size (by repeat (first|(with_reducible first|exact HB.out|apply ba'|apply bd'|apply be'|refine bs' ?_ GE275.out)|exact HB.out))):w.heap.size≤gb276));have n4_:=am' ((by rw[hg];exact (below_size (by repeat (first|(with_reducible first|exact HB.out|apply ba'|apply bd'|apply be'|refine bs' ?_ GE275.out)|exact HB.out))):w.heap.size≤gb276));have n5_:=am' ((by rw[hg];exact Nat.ne_of_lt (blk_lt (g:=gb275) (o := .cells #[.slice A0_0 l0_0.length c0_0, .int .i64 a0_1] 28 (0,0)) (by (with_reducible repeat (first|refine kn' ?_ _|refine kd' ?_|refine ka' ?_ _));exact BK275.out)):gb275≠gb276));have n6_:=am' ((by rw[hg];exact Nat.ne_of_gt (blk_lt (g:=gb275) (o := .cells #[.slice A0_0 l0_0.length c0_0, .int .i64 a0_1] 28 (0,0)) (by (with_reducible repeat (first|refine kn' ?_ _|refine kd' ?_|refine ka' ?_ _));exact BK275.out)):gb276≠gb275));clear BK275;clear HB;have BK275:=n0_;have HB:=n1_;have BK276:=n2_;have GW276:=n3_;have GE276:=n4_;have NB275_276:=n5_;have NB276_275:=n6_;clear n0_ n1_ n2_ n3_ n4_ n5_ n6_;clear hb hbox hg;have hnb6:=NB276_275.out;have hnc6:=NB275_276.out;have hcz7_0:w5.cell? ⟨gb276,0,none⟩=some (.slice A1_0 l1_0.length c1_0):=(blk_cell BK276.out 0).trans rfl;have hcz7_1:w5.cell? ⟨gb276,1,none⟩=some (.bool a1_1):=(blk_cell BK276.out 1).trans rfl;have hfz7_0:=blk_frozen BK276.out 0;have hfz7_1:=blk_frozen BK276.out 1;have hcz8_0:w5.cell? ⟨gb275,0,none⟩=some (.slice A0_0 l0_0.length c0_0):=(blk_cell BK275.out 0).trans rfl;have hcz8_1:w5.cell? ⟨gb275,1,none⟩=some (.int .i64 a0_1):=(blk_cell BK275.out 1).trans rfl;have hfz8_0:=blk_frozen BK275.out 0;have hfz8_1:=blk_frozen BK275.out 1))
  go_loopg [17] k (fun kq v17 w'=>∃ (x17_1:Int),v17 = .int .i64 x17_1∧Aside0 (spec_paState.l0 kq l1_0 (l1_0.length:Int) x17_1 l1_0 a1_1=some r)∧Aside0 (kq≤k)∧Aside0 (w'.heap[gb275]? = some (.cells #[(.slice A0_0 l0_0.length c0_0), .int .i64 a0_1] 28 (0,0)))∧Aside0 (w'.heap[gb276]? = some (.cells #[(.slice A1_0 l1_0.length c1_0), .bool a1_1] 44 (0,0)))∧Aside0 (Below w.heap.size w w'))
  case atStart=>exact ⟨(0),(by first|rfl|(simp;done)|(simp[*];done)),H',⟨Nat.le_refl _⟩,⟨by (with_reducible repeat (first|refine kn' ?_ _|refine kd' ?_|refine ka' ?_ _));exact BK275.out⟩,⟨by (with_reducible repeat (first|refine kn' ?_ _|refine kd' ?_|refine ka' ?_ _));exact BK276.out⟩,⟨by repeat (first|(with_reducible first|exact HB.out|apply ba'|apply bd'|apply be'|refine bs' ?_ GE275.out|refine bs' ?_ GE276.out)|exact HB.out)⟩⟩
  case round =>
   clear H';try clear c1
   try clear p2
   try clear c3
   try clear c3b0
   try clear c3b1
   try clear c3b2
   try clear c6
   try clear hcz7_0
   try clear hcz7_1
   try clear hcz8_0
   try clear hcz8_1
   try clear hfz7_0
   try clear hfz7_1
   try clear hfz8_0
   try clear hfz8_1
   obtain ⟨x17_1,rfl,HA,HK1,BK275,BK276,HB⟩:=hrel;cases gk with
   | zero=>exact absurd HA.out (by simp[spec_paState.l0])
   | succ k1 =>
    have H:=HA.out;clear HA;simp only[spec_paState.l0] at H;by_cases c9:x17_1 < (l1_0.length:Int)
    ·
     rw[if_pos c9] at H;have c9b0:decide (x17_1 < (l1_0.length:Int))=true:=decide_eq_true c9;clear c9;by_cases c10:0≤x17_1
     ·
      rw[if_pos c10] at H;have c10b0:decide (0≤x17_1)=true:=decide_eq_true c10;clear c10;by_cases c11:x17_1 < (l1_0.length:Int)
      ·
       rw[if_pos c11] at H;have c11b0:decide (x17_1 < (l1_0.length:Int))=true:=decide_eq_true c11;clear c11;by_cases c12:((rdOf false l1_0 x17_1) == a1_1)=true
       ·
        rw[if_pos c12] at H;have c12b0:((rdOf false l1_0 x17_1) == a1_1)=true:=c12
        (try (have c12b1:decide ((rdOf false l1_0 x17_1)=a1_1)=true:=by simpa using c12))
        (try (have c12b2:((rdOf false l1_0 x17_1) == a1_1)=true:=by simpa using c12))
        clear c12;obtain rfl:=Option.some.inj H;have p277:0≤(x17_1:Int):=of_decide_eq_true (by first|(with_reducible assumption)|assumption);have q277:x17_1 < (l1_0.length:Int):=of_decide_eq_true (by first|(with_reducible assumption)|assumption);obtain ⟨ad277,e277,hx277_0⟩:=Kd.at_bool HR1_0.out x17_1 p277 q277;cases e277;replace hx277_0:=(HB.out.cell (bl' w _ hx277_0)).trans hx277_0;replace p277:=eq_true p277;replace q277:=eq_true q277;have hnb13:=NB276_275.out;have hnc13:=NB275_276.out;have hcz14_0:wr.cell? ⟨gb276,0,none⟩=some (.slice (some ad277) l1_0.length c1_0):=(blk_cell BK276.out 0).trans rfl;have hcz14_1:wr.cell? ⟨gb276,1,none⟩=some (.bool a1_1):=(blk_cell BK276.out 1).trans rfl;have hfz14_0:=blk_frozen BK276.out 0;have hfz14_1:=blk_frozen BK276.out 1;go_wp2;go_ret
        exact ⟨by first|rfl|(simp[errW_none,errW_some] <;> rfl)|(simp[*,errW_none,errW_some] <;> rfl),by repeat (first|(with_reducible first|exact HB.out|apply ba'|apply bd'|apply be'|refine bs' ?_ GE275.out|refine bs' ?_ GE276.out)|exact HB.out)⟩
       ·
        rw[if_neg c12] at H;have c12b0:((rdOf false l1_0 x17_1) == a1_1)=false:=by simpa using c12
        (try (have c12b1:decide ((rdOf false l1_0 x17_1)=a1_1)=false:=by simpa using c12))
        (try (have c12b2:((rdOf false l1_0 x17_1) == a1_1)=false:=by simpa using c12))
        (try (have c12b3:¬ ((rdOf false l1_0 x17_1)=a1_1):=by simpa using c12))
        clear c12;have H':=am' H;clear H;have p277:0≤(x17_1:Int):=of_decide_eq_true (by first|(with_reducible assumption)|assumption);have q277:x17_1 < (l1_0.length:Int):=of_decide_eq_true (by first|(with_reducible assumption)|assumption);obtain ⟨ad277,e277,hx277_0⟩:=Kd.at_bool HR1_0.out x17_1 p277 q277;cases e277;replace hx277_0:=(HB.out.cell (bl' w _ hx277_0)).trans hx277_0;replace p277:=eq_true p277;replace q277:=eq_true q277;have hnb15:=NB276_275.out;have hnc15:=NB275_276.out;have hcz16_0:wr.cell? ⟨gb276,0,none⟩=some (.slice (some ad277) l1_0.length c1_0):=(blk_cell BK276.out 0).trans rfl;have hcz16_1:wr.cell? ⟨gb276,1,none⟩=some (.bool a1_1):=(blk_cell BK276.out 1).trans rfl;have hfz16_0:=blk_frozen BK276.out 0;have hfz16_1:=blk_frozen BK276.out 1;go_wp2;go_roundg k1
        case measure=>have:=HK1.out;omega
        case rel=>exact ⟨(wrap64 (x17_1+1)),(by first|rfl|(simp;done)|(simp[*];done)),H',⟨by have:=HK1.out;omega⟩,⟨by (with_reducible repeat (first|refine kn' ?_ _|refine kd' ?_|refine ka' ?_ _));exact BK275.out⟩,⟨by (with_reducible repeat (first|refine kn' ?_ _|refine kd' ?_|refine ka' ?_ _));exact BK276.out⟩,⟨by repeat (first|(with_reducible first|exact HB.out|apply ba'|apply bd'|apply be'|refine bs' ?_ GE275.out|refine bs' ?_ GE276.out)|exact HB.out)⟩⟩
      ·
       rw[if_neg c11] at H;exact absurd H (by simp)
     ·
      rw[if_neg c10] at H;exact absurd H (by simp)
    ·
     rw[if_neg c9] at H;have c9b0:decide (x17_1 < (l1_0.length:Int))=false:=decide_eq_false c9;clear c9;obtain rfl:=Option.some.inj H;go_wp2;go_ret
     exact ⟨by first|rfl|(simp[errW_none,errW_some] <;> rfl)|(simp[*,errW_none,errW_some] <;> rfl),by repeat (first|(with_reducible first|exact HB.out|apply ba'|apply bd'|apply be'|refine bs' ?_ GE275.out|refine bs' ?_ GE276.out)|exact HB.out)⟩
 ·
  rw[if_neg c3] at H;have c3b0:((l1_0.length:Int) == (l0_0.length:Int))=false:=beq_eq_false_iff_ne.mpr c3;have c3b1:((l1_0.length:Int) != (l0_0.length:Int))=true:=bne_iff_ne.mpr c3;have c3b2:(l1_0.length == l0_0.length)=false:=by first|simpa using c3|(simp at c3 ⊢;omega)
  obtain rfl:=Option.some.inj H;go_enter Try.func93,Try.ntmps93;go_wp2_with (first|((with_reducible refine gate_dst (N:=2) rfl ?_);refine box_event ?hg (N:=2) ?hd (cs:=#[.slice A0_0 l0_0.length c0_0, .int .i64 a0_1]) (t:=28) ?hr ?_;(case hd=>rfl);(case hg=>rfl);(case hr=>first|(go_simp;done)|(go_simp;rfl));intro gb275 hg w17 hbox hb;have n0_:=am' (below_step (by repeat (first|(with_reducible first|exact HB.out|apply ba'|apply bd'|apply be')|exact HB.out)) hb);have n1_:=am' (hbox);have n2_:=am' ((by rw[hg];exact (below_size (by repeat (first|(with_reducible first|exact HB.out|apply ba'|apply bd'|apply be')|exact HB.out))):w.heap.size≤gb275));have n3_:=am' ((by rw[hg];exact (below_size (by repeat (first|(with_reducible first|exact HB.out|apply ba'|apply bd'|apply be')|exact HB.out))):w.heap.size≤gb275));clear HB;have HB:=n0_;have BK275:=n1_;have GW275:=n2_;have GE275:=n3_;clear n0_ n1_ n2_ n3_;clear hb hbox hg)|((with_reducible refine gate_dst (N:=3) rfl ?_);refine box_event ?hg (N:=3) ?hd (cs:=#[.slice A1_0 l1_0.length c1_0, .bool a1_1]) (t:=44) ?hr ?_;(case hd=>rfl);(case hg=>rfl);(case hr=>first|(go_simp;done)|(go_simp;rfl));intro gb276 hg w18 hbox hb;have n0_:=am' (blk_below (g:=gb275) (o := .cells #[.slice A0_0 l0_0.length c0_0, .int .i64 a0_1] 28 (0,0)) (by (with_reducible repeat (first|refine kn' ?_ _|refine kd' ?_|refine ka' ?_ _));exact BK275.out) hb);have n1_:=am' (below_step (by repeat (first|(with_reducible first|exact HB.out|apply ba'|apply bd'|apply be'|refine bs' ?_ GE275.out)|exact HB.out)) hb);have n2_:=am' (hbox);have n3_:=am' ((by rw[hg];exact (below_size (by repeat (first|(with_reducible first|exact HB.out|apply ba'|apply bd'|apply be'|refine bs' ?_ GE275.out)|exact HB.out))):w.heap.size≤gb276));have n4_:=am' ((by rw[hg];exact (below_size (by repeat (first|(with_reducible first|exact HB.out|apply ba'|apply bd'|apply be'|refine bs' ?_ GE275.out)|exact HB.out))):w.heap.size≤gb276));have n5_:=am' ((by rw[hg];exact Nat.ne_of_lt (blk_lt (g:=gb275) (o := .cells #[.slice A0_0 l0_0.length c0_0, .int .i64 a0_1] 28 (0,0)) (by (with_reducible repeat (first|refine kn' ?_ _|refine kd' ?_|refine ka' ?_ _));exact BK275.out)):gb275≠gb276));have n6_:=am' ((by rw[hg];exact Nat.ne_of_gt (blk_lt (g:=gb275) (o := .cells #[.slice A0_0 l0_0.length c0_0, .int .i64 a0_1] 28 (0,0)) (by (with_reducible repeat (first|refine kn' ?_ _|refine kd' ?_|refine ka' ?_ _));exact BK275.out)):gb276≠gb275));clear BK275;clear HB;have BK275:=n0_;have HB:=n1_;have BK276:=n2_;have GW276:=n3_;have GE276:=n4_;have NB275_276:=n5_;have NB276_275:=n6_;clear n0_ n1_ n2_ n3_ n4_ n5_ n6_;clear hb hbox hg;have hnb19:=NB276_275.out;have hnc19:=NB275_276.out;have hcz20_0:w18.cell? ⟨gb276,0,none⟩=some (.slice A1_0 l1_0.length c1_0):=(blk_cell BK276.out 0).trans rfl;have hcz20_1:w18.cell? ⟨gb276,1,none⟩=some (.bool a1_1):=(blk_cell BK276.out 1).trans rfl;have hfz20_0:=blk_frozen BK276.out 0;have hfz20_1:=blk_frozen BK276.out 1;have hcz21_0:w18.cell? ⟨gb275,0,none⟩=some (.slice A0_0 l0_0.length c0_0):=(blk_cell BK275.out 0).trans rfl;have hcz21_1:w18.cell? ⟨gb275,1,none⟩=some (.int .i64 a0_1):=(blk_cell BK275.out 1).trans rfl;have hfz21_0:=blk_frozen BK275.out 0;have hfz21_1:=blk_frozen BK275.out 1))
  go_ret
  exact ⟨by first|rfl|(simp[errW_none,errW_some] <;> rfl)|(simp[*,errW_none,errW_some] <;> rfl),by repeat (first|(with_reducible first|exact HB.out|apply ba'|apply bd'|apply be'|refine bs' ?_ GE275.out|refine bs' ?_ GE276.out)|exact HB.out)⟩
def spec_paAsked.f (k:Nat) (l0_0:List Int) (a0_1:Int) (l1_0:List Bool) (a1_1:Bool):Option (Bool):=(spec_paGood.f k l0_0 a0_1).bind fun t280=>(if t280=true then ((spec_paState.f k l0_0 a0_1 l1_0 a1_1).bind fun t281=>(some t281)) else (some false))
set_option maxHeartbeats 8000000 in
set_option maxRecDepth 100000 in
theorem spec_paAsked.calls (k:Nat) (A0_0:Option Addr) (c0_0:Nat) (l0_0:List Int) (a0_1:Int) (A1_0:Option Addr) (c1_0:Nat) (l1_0:List Bool) (a1_1:Bool) (r:Bool) (w:World) (hr0_0:Kd.C (Kd.int .i64) w A0_0 l0_0.length l0_0) (hc0_0:l0_0.length≤c0_0) (hr1_0:Kd.C Kd.bool w A1_0 l1_0.length l1_0) (hc1_0:l1_0.length≤c1_0) (h:spec_paAsked.f k l0_0 a0_1 l1_0 a1_1=some r) :
  Calls Try.prog 77 #[.agg #[.slice A0_0 l0_0.length c0_0, .int .i64 a0_1], .agg #[.slice A1_0 l1_0.length c1_0, .bool a1_1]] w fun e w'=>e = .returned (.bool r)∧Below w.heap.size w w':=by
 have hu28:=Try.underlying28
 have hu44:=Try.underlying44
 have HR0_0:=am' hr0_0
 have HC0_0:=am' hc0_0
 clear hr0_0 hc0_0;have HR1_0:=am' hr1_0
 have HC1_0:=am' hc1_0
 clear hr1_0 hc1_0;have HB:=am' (Below.refl w.heap.size w)
 have H:((spec_paGood.f k l0_0 a0_1).bind fun t280=>(if t280=true then ((spec_paState.f k l0_0 a0_1 l1_0 a1_1).bind fun t281=>(some t281)) else (some false)))=some r:=h
 clear h;replace H:=Option.bind_eq_some_iff.mp H
 obtain ⟨t280,A30,H⟩:=H
 replace H:(if t280=true then ((spec_paState.f k l0_0 a0_1 l1_0 a1_1).bind fun t281=>(some t281)) else (some false))=some r:=H
 have A3:=am' A30
 clear A30;by_cases c4:t280=true
 ·
  subst c4;have H1:((spec_paState.f k l0_0 a0_1 l1_0 a1_1).bind fun t281=>(some t281))=some r:=by rw[if_pos rfl] at H;exact H
  clear H;have H:=H1;clear H1;replace H:=Option.bind_eq_some_iff.mp H;obtain ⟨t281,A50,H⟩:=H;replace H:(some t281)=some r:=H;have A5:=am' A50;clear A50;obtain rfl:=Option.some.inj H;go_enter Try.func77,Try.ntmps77;go_wp2_with (first|((with_reducible refine gate_dst (N:=2) rfl ?_);refine box_event ?hg (N:=2) ?hd (cs:=#[.slice A0_0 l0_0.length c0_0, .int .i64 a0_1]) (t:=28) ?hr ?_;(case hd=>rfl);(case hg=>rfl);(case hr=>first|(go_simp;done)|(go_simp;rfl));intro gb278 hg w6 hbox hb;have n0_:=am' (below_step (by repeat (first|(with_reducible first|exact HB.out|apply ba'|apply bd'|apply be')|exact HB.out)) hb);have n1_:=am' (hbox);have n2_:=am' ((by rw[hg];exact (below_size (by repeat (first|(with_reducible first|exact HB.out|apply ba'|apply bd'|apply be')|exact HB.out))):w.heap.size≤gb278));have n3_:=am' ((by rw[hg];exact (below_size (by repeat (first|(with_reducible first|exact HB.out|apply ba'|apply bd'|apply be')|exact HB.out))):w.heap.size≤gb278));clear HB;have HB:=n0_;have BK278:=n1_;have GW278:=n2_;have GE278:=n3_;clear n0_ n1_ n2_ n3_;clear hb hbox hg)|((with_reducible refine gate_dst (N:=3) rfl ?_);refine box_event ?hg (N:=3) ?hd (cs:=#[.slice A1_0 l1_0.length c1_0, .bool a1_1]) (t:=44) ?hr ?_;(case hd=>rfl);(case hg=>rfl);(case hr=>first|(go_simp;done)|(go_simp;rfl));intro gb279 hg w7 hbox hb;have n0_:=am' (blk_below (g:=gb278) (o := .cells #[.slice A0_0 l0_0.length c0_0, .int .i64 a0_1] 28 (0,0)) (by (with_reducible repeat (first|refine kn' ?_ _|refine kd' ?_|refine ka' ?_ _));exact BK278.out) hb);have n1_:=am' (below_step (by repeat (first|(with_reducible first|exact HB.out|apply ba'|apply bd'|apply be'|refine bs' ?_ GE278.out)|exact HB.out)) hb);have n2_:=am' (hbox);have n3_:=am' ((by rw[hg];exact (below_size (by repeat (first|(with_reducible first|exact HB.out|apply ba'|apply bd'|apply be'|refine bs' ?_ GE278.out)|exact HB.out))):w.heap.size≤gb279));have n4_:=am' ((by rw[hg];exact (below_size (by repeat (first|(with_reducible first|exact HB.out|apply ba'|apply bd'|apply be'|refine bs' ?_ GE278.out)|exact HB.out))):w.heap.size≤gb279));have n5_:=am' ((by rw[hg];exact Nat.ne_of_lt (blk_lt (g:=gb278) (o := .cells #[.slice A0_0 l0_0.length c0_0, .int .i64 a0_1] 28 (0,0)) (by (with_reducible repeat (first|refine kn' ?_ _|refine kd' ?_|refine ka' ?_ _));exact BK278.out)):gb278≠gb279));have n6_:=am' ((by rw[hg];exact Nat.ne_of_gt (blk_lt (g:=gb278) (o := .cells #[.slice A0_0 l0_0.length c0_0, .int .i64 a0_1] 28 (0,0)) (by (with_reducible repeat (first|refine kn' ?_ _|refine kd' ?_|refine ka' ?_ _));exact BK278.out)):gb279≠gb278));clear BK278;clear HB;have BK278:=n0_;have HB:=n1_;have BK279:=n2_;have GW279:=n3_;have GE279:=n4_;have NB278_279:=n5_;have NB279_278:=n6_;clear n0_ n1_ n2_ n3_ n4_ n5_ n6_;clear hb hbox hg;have hnb8:=NB278_279.out;have hnc8:=NB279_278.out;have hcz9_0:w7.cell? ⟨gb278,0,none⟩=some (.slice A0_0 l0_0.length c0_0):=(blk_cell BK278.out 0).trans rfl;have hcz9_1:w7.cell? ⟨gb278,1,none⟩=some (.int .i64 a0_1):=(blk_cell BK278.out 1).trans rfl;have hfz9_0:=blk_frozen BK278.out 0;have hfz9_1:=blk_frozen BK278.out 1)|((with_reducible refine gate_callee (f:=59) rfl ?_);refine goesL_ (some 6) rfl rfl Try.func59 (by kernel_rfl) rfl #[.agg #[.slice A0_0 l0_0.length c0_0, .int .i64 a0_1]] rfl (by (try simp only[List.map_toArray,List.map_cons,List.map_nil]);first|done|rfl|(simp only[List.length_drop,List.length_take];rfl)) ?_;(with_reducible refine (spec_paGood.calls k _ _ l0_0 a0_1 true _ ?side1 ?side2 A3.out).mono ?_);(case side1=>repeat (first|exact (Kd.C_below HR0_0.out HB.out)|(with_reducible refine ca' ?_ _)|(with_reducible refine cn' ?_ _)|(with_reducible refine cd' ?_)));(case side2=>exact HC0_0.out);rintro e w10 ⟨rfl,hb⟩;refine ⟨_,rfl,?_⟩;have n0_:=am' (blk_below (g:=gb278) (o := .cells #[.slice A0_0 l0_0.length c0_0, .int .i64 a0_1] 28 (0,0)) (by (with_reducible repeat (first|refine kn' ?_ _|refine kd' ?_|refine ka' ?_ _));exact BK278.out) hb);have n1_:=am' (blk_below (g:=gb279) (o := .cells #[.slice A1_0 l1_0.length c1_0, .bool a1_1] 44 (0,0)) (by (with_reducible repeat (first|refine kn' ?_ _|refine kd' ?_|refine ka' ?_ _));exact BK279.out) hb);have n2_:=am' (below_step (by repeat (first|(with_reducible first|exact HB.out|apply ba'|apply bd'|apply be'|refine bs' ?_ GE278.out|refine bs' ?_ GE279.out)|exact HB.out)) hb);clear BK278;clear BK279;clear HB;have BK278:=n0_;have BK279:=n1_;have HB:=n2_;clear n0_ n1_ n2_;(try clear hb);(try clear hb2);(try clear hk);(try clear hi);have hcz11_0:w10.cell? ⟨gb278,0,none⟩=some (.slice A0_0 l0_0.length c0_0):=(blk_cell BK278.out 0).trans rfl;have hcz11_1:w10.cell? ⟨gb278,1,none⟩=some (.int .i64 a0_1):=(blk_cell BK278.out 1).trans rfl;have hfz11_0:=blk_frozen BK278.out 0;have hfz11_1:=blk_frozen BK278.out 1;have hcz12_0:w10.cell? ⟨gb279,0,none⟩=some (.slice A1_0 l1_0.length c1_0):=(blk_cell BK279.out 0).trans rfl;have hcz12_1:w10.cell? ⟨gb279,1,none⟩=some (.bool a1_1):=(blk_cell BK279.out 1).trans rfl;have hfz12_0:=blk_frozen BK279.out 0;have hfz12_1:=blk_frozen BK279.out 1)|(go_at_call 93;(with_reducible refine (spec_paState.calls k _ _ l0_0 a0_1 _ _ l1_0 a1_1 t281 _ ?side1 ?side2 ?side3 ?side4 A5.out).mono ?_);(case side1=>repeat (first|exact (Kd.C_below HR0_0.out HB.out)|(with_reducible refine ca' ?_ _)|(with_reducible refine cn' ?_ _)|(with_reducible refine cd' ?_)));(case side2=>exact HC0_0.out);(case side3=>repeat (first|exact (Kd.C_below HR1_0.out HB.out)|(with_reducible refine ca' ?_ _)|(with_reducible refine cn' ?_ _)|(with_reducible refine cd' ?_)));(case side4=>exact HC1_0.out);rintro e w13 ⟨rfl,hb⟩;have n0_:=am' (blk_below (g:=gb278) (o := .cells #[.slice A0_0 l0_0.length c0_0, .int .i64 a0_1] 28 (0,0)) (by (with_reducible repeat (first|refine kn' ?_ _|refine kd' ?_|refine ka' ?_ _));exact BK278.out) hb);have n1_:=am' (blk_below (g:=gb279) (o := .cells #[.slice A1_0 l1_0.length c1_0, .bool a1_1] 44 (0,0)) (by (with_reducible repeat (first|refine kn' ?_ _|refine kd' ?_|refine ka' ?_ _));exact BK279.out) hb);have n2_:=am' (below_step (by repeat (first|(with_reducible first|exact HB.out|apply ba'|apply bd'|apply be'|refine bs' ?_ GE278.out|refine bs' ?_ GE279.out)|exact HB.out)) hb);clear BK278;clear BK279;clear HB;have BK278:=n0_;have BK279:=n1_;have HB:=n2_;clear n0_ n1_ n2_;(try clear hb);(try clear hb2);(try clear hk);(try clear hi)))
  go_ret
  exact ⟨by first|rfl|(simp[errW_none,errW_some] <;> rfl)|(simp[*,errW_none,errW_some] <;> rfl),by repeat (first|(with_reducible first|exact HB.out|apply ba'|apply bd'|apply be'|refine bs' ?_ GE278.out|refine bs' ?_ GE279.out)|exact HB.out)⟩
 ·
  replace c4:=Bool.eq_false_iff.mpr c4;subst c4;have H1:(some false)=some r:=by rw[if_neg (show ¬ (false=true) by decide)] at H;exact H
  clear H;have H:=H1;clear H1;obtain rfl:=Option.some.inj H;go_enter Try.func77,Try.ntmps77;go_wp2_with (first|((with_reducible refine gate_dst (N:=2) rfl ?_);refine box_event ?hg (N:=2) ?hd (cs:=#[.slice A0_0 l0_0.length c0_0, .int .i64 a0_1]) (t:=28) ?hr ?_;(case hd=>rfl);(case hg=>rfl);(case hr=>first|(go_simp;done)|(go_simp;rfl));intro gb278 hg w14 hbox hb;have n0_:=am' (below_step (by repeat (first|(with_reducible first|exact HB.out|apply ba'|apply bd'|apply be')|exact HB.out)) hb);have n1_:=am' (hbox);have n2_:=am' ((by rw[hg];exact (below_size (by repeat (first|(with_reducible first|exact HB.out|apply ba'|apply bd'|apply be')|exact HB.out))):w.heap.size≤gb278));have n3_:=am' ((by rw[hg];exact (below_size (by repeat (first|(with_reducible first|exact HB.out|apply ba'|apply bd'|apply be')|exact HB.out))):w.heap.size≤gb278));clear HB;have HB:=n0_;have BK278:=n1_;have GW278:=n2_;have GE278:=n3_;clear n0_ n1_ n2_ n3_;clear hb hbox hg)|((with_reducible refine gate_dst (N:=3) rfl ?_);refine box_event ?hg (N:=3) ?hd (cs:=#[.slice A1_0 l1_0.length c1_0, .bool a1_1]) (t:=44) ?hr ?_;(case hd=>rfl);(case hg=>rfl);(case hr=>first|(go_simp;done)|(go_simp;rfl));intro gb279 hg w15 hbox hb;have n0_:=am' (blk_below (g:=gb278) (o := .cells #[.slice A0_0 l0_0.length c0_0, .int .i64 a0_1] 28 (0,0)) (by (with_reducible repeat (first|refine kn' ?_ _|refine kd' ?_|refine ka' ?_ _));exact BK278.out) hb);have n1_:=am' (below_step (by repeat (first|(with_reducible first|exact HB.out|apply ba'|apply bd'|apply be'|refine bs' ?_ GE278.out)|exact HB.out)) hb);have n2_:=am' (hbox);have n3_:=am' ((by rw[hg];exact (below_size (by repeat (first|(with_reducible first|exact HB.out|apply ba'|apply bd'|apply be'|refine bs' ?_ GE278.out)|exact HB.out))):w.heap.size≤gb279));have n4_:=am' ((by rw[hg];exact (below_size (by repeat (first|(with_reducible first|exact HB.out|apply ba'|apply bd'|apply be'|refine bs' ?_ GE278.out)|exact HB.out))):w.heap.size≤gb279));have n5_:=am' ((by rw[hg];exact Nat.ne_of_lt (blk_lt (g:=gb278) (o := .cells #[.slice A0_0 l0_0.length c0_0, .int .i64 a0_1] 28 (0,0)) (by (with_reducible repeat (first|refine kn' ?_ _|refine kd' ?_|refine ka' ?_ _));exact BK278.out)):gb278≠gb279));have n6_:=am' ((by rw[hg];exact Nat.ne_of_gt (blk_lt (g:=gb278) (o := .cells #[.slice A0_0 l0_0.length c0_0, .int .i64 a0_1] 28 (0,0)) (by (with_reducible repeat (first|refine kn' ?_ _|refine kd' ?_|refine ka' ?_ _));exact BK278.out)):gb279≠gb278));clear BK278;clear HB;have BK278:=n0_;have HB:=n1_;have BK279:=n2_;have GW279:=n3_;have GE279:=n4_;have NB278_279:=n5_;have NB279_278:=n6_;clear n0_ n1_ n2_ n3_ n4_ n5_ n6_;clear hb hbox hg;have hnb16:=NB278_279.out;have hnc16:=NB279_278.out;have hcz17_0:w15.cell? ⟨gb278,0,none⟩=some (.slice A0_0 l0_0.length c0_0):=(blk_cell BK278.out 0).trans rfl;have hcz17_1:w15.cell? ⟨gb278,1,none⟩=some (.int .i64 a0_1):=(blk_cell BK278.out 1).trans rfl;have hfz17_0:=blk_frozen BK278.out 0;have hfz17_1:=blk_frozen BK278.out 1)|((with_reducible refine gate_callee (f:=59) rfl ?_);refine goesL_ (some 6) rfl rfl Try.func59 (by kernel_rfl) rfl #[.agg #[.slice A0_0 l0_0.length c0_0, .int .i64 a0_1]] rfl (by (try simp only[List.map_toArray,List.map_cons,List.map_nil]);first|done|rfl|(simp only[List.length_drop,List.length_take];rfl)) ?_;(with_reducible refine (spec_paGood.calls k _ _ l0_0 a0_1 false _ ?side1 ?side2 A3.out).mono ?_);(case side1=>repeat (first|exact (Kd.C_below HR0_0.out HB.out)|(with_reducible refine ca' ?_ _)|(with_reducible refine cn' ?_ _)|(with_reducible refine cd' ?_)));(case side2=>exact HC0_0.out);rintro e w18 ⟨rfl,hb⟩;refine ⟨_,rfl,?_⟩;have n0_:=am' (blk_below (g:=gb278) (o := .cells #[.slice A0_0 l0_0.length c0_0, .int .i64 a0_1] 28 (0,0)) (by (with_reducible repeat (first|refine kn' ?_ _|refine kd' ?_|refine ka' ?_ _));exact BK278.out) hb);have n1_:=am' (blk_below (g:=gb279) (o := .cells #[.slice A1_0 l1_0.length c1_0, .bool a1_1] 44 (0,0)) (by (with_reducible repeat (first|refine kn' ?_ _|refine kd' ?_|refine ka' ?_ _));exact BK279.out) hb);have n2_:=am' (below_step (by repeat (first|(with_reducible first|exact HB.out|apply ba'|apply bd'|apply be'|refine bs' ?_ GE278.out|refine bs' ?_ GE279.out)|exact HB.out)) hb);clear BK278;clear BK279;clear HB;have BK278:=n0_;have BK279:=n1_;have HB:=n2_;clear n0_ n1_ n2_;(try clear hb);(try clear hb2);(try clear hk);(try clear hi)))
  go_ret
  exact ⟨by first|rfl|(simp[errW_none,errW_some] <;> rfl)|(simp[*,errW_none,errW_some] <;> rfl),by repeat (first|(with_reducible first|exact HB.out|apply ba'|apply bd'|apply be'|refine bs' ?_ GE278.out|refine bs' ?_ GE279.out)|exact HB.out)⟩
def spec_l1Has.l0:Nat→Int→List Int→Int→Int→Option (Bool)
 | 0,_,_,_,_=>none
 | k+1,x1,x7,x8,x9=>if x9 < x8 then (if 0≤x9 then (if x9 < (x7.length:Int) then (if (rd x7 x9)=x1 then (some true) else (spec_l1Has.l0 k x1 x7 x8 (wrap64 (x9+1)))) else (none)) else (none)) else (some false)
def spec_l1Has.f (k:Nat) (l0:List Int) (a1:Int):Option (Bool):=spec_l1Has.l0 k a1 l0 (l0.length:Int) 0
set_option maxHeartbeats 8000000 in
set_option maxRecDepth 100000 in
theorem spec_l1Has.calls (k:Nat) (A0:Option Addr) (c0:Nat) (l0:List Int) (a1:Int) (r:Bool) (w:World) (hr0:Kd.C (Kd.int .i64) w A0 l0.length l0) (hc0:l0.length≤c0) (h:spec_l1Has.f k l0 a1=some r) :
  Calls Try.prog 91 #[.slice A0 l0.length c0, .int .i64 a1] w fun e w'=>e = .returned (.bool r)∧Drawn0 w w':=by
 have HR0:=am' hr0
 have HC0:=am' hc0
 clear hr0 hc0;have H:(spec_l1Has.l0 k a1 l0 (l0.length:Int) 0)=some r:=h
 clear h;have H':=am' H
 clear H;go_enter Try.func91,Try.ntmps91
 go_wp2
 go_loopg [9] k (fun kq v9 w'=>∃ (x9_1:Int),v9 = .int .i64 x9_1∧Aside0 (spec_l1Has.l0 kq a1 l0 (l0.length:Int) x9_1=some r)∧Aside0 (kq≤k)∧Drawn0 w w')
 case atStart=>exact ⟨(0),(by first|rfl|(simp;done)|(simp[*];done)),H',⟨Nat.le_refl _⟩,by repeat (first|exact Drawn0.refl _|apply Drawn0.step)⟩
 case round =>
  clear H';try clear p2
  obtain ⟨x9_1,rfl,HA,HK1,⟨m1,rfl⟩⟩:=hrel;cases gk with
  | zero=>exact absurd HA.out (by simp[spec_l1Has.l0])
  | succ k1 =>
   have H:=HA.out;clear HA;simp only[spec_l1Has.l0] at H;by_cases c3:x9_1 < (l0.length:Int)
   ·
    rw[if_pos c3] at H;have c3b0:decide (x9_1 < (l0.length:Int))=true:=decide_eq_true c3;clear c3;by_cases c4:0≤x9_1
    ·
     rw[if_pos c4] at H;have c4b0:decide (0≤x9_1)=true:=decide_eq_true c4;clear c4;by_cases c5:x9_1 < (l0.length:Int)
     ·
      rw[if_pos c5] at H;have c5b0:decide (x9_1 < (l0.length:Int))=true:=decide_eq_true c5;clear c5;by_cases c6:(rd l0 x9_1)=a1
      ·
       rw[if_pos c6] at H;have c6b0:((rd l0 x9_1) == a1)=true:=beq_iff_eq.mpr c6;have c6b1:((rd l0 x9_1) != a1)=false:=bne_eq_false_iff_eq.mpr c6;clear c6;obtain rfl:=Option.some.inj H;have p282:0≤(x9_1:Int):=of_decide_eq_true (by first|(with_reducible assumption)|assumption);have q282:x9_1 < (l0.length:Int):=of_decide_eq_true (by first|(with_reducible assumption)|assumption);obtain ⟨ad282,e282,hx282_0⟩:=Kd.at_int HR0.out x9_1 p282 q282;cases e282;replace p282:=eq_true p282;replace q282:=eq_true q282;go_wp2;go_ret
       exact ⟨by first|rfl|(simp;done)|(simp[*];done),by repeat (first|exact Drawn0.refl _|apply Drawn0.step)⟩
      ·
       rw[if_neg c6] at H;have c6b0:((rd l0 x9_1) == a1)=false:=beq_eq_false_iff_ne.mpr c6;have c6b1:((rd l0 x9_1) != a1)=true:=bne_iff_ne.mpr c6;have H':=am' H;clear H;have p282:0≤(x9_1:Int):=of_decide_eq_true (by first|(with_reducible assumption)|assumption);have q282:x9_1 < (l0.length:Int):=of_decide_eq_true (by first|(with_reducible assumption)|assumption);obtain ⟨ad282,e282,hx282_0⟩:=Kd.at_int HR0.out x9_1 p282 q282;cases e282;replace p282:=eq_true p282;replace q282:=eq_true q282;go_wp2;go_roundg k1
       case measure=>have:=HK1.out;omega
       case rel=>exact ⟨(wrap64 (x9_1+1)),(by first|rfl|(simp;done)|(simp[*];done)),H',⟨by have:=HK1.out;omega⟩,by repeat (first|exact Drawn0.refl _|apply Drawn0.step)⟩
     ·
      rw[if_neg c5] at H;exact absurd H (by simp)
    ·
     rw[if_neg c4] at H;exact absurd H (by simp)
   ·
    rw[if_neg c3] at H;have c3b0:decide (x9_1 < (l0.length:Int))=false:=decide_eq_false c3;clear c3;obtain rfl:=Option.some.inj H;go_wp2;go_ret
    exact ⟨by first|rfl|(simp;done)|(simp[*];done),by repeat (first|exact Drawn0.refl _|apply Drawn0.step)⟩
def spec_IsOnBest.j0:Nat→Bool→List Int→Int→List Bool→Bool→Option (Bool × Bool)
 | 0,_,_,_,_,_=>none
 | k+1,x14,x284000,x284001,x285000,x285001=>if x14=true then (some (false,false)) else ((spec_seOn.f k x284000 x284001).bind fun t287=>((spec_seIndex.f k x285000 x285001).bind fun t290=>((spec_l1Has.f k t287 t290).bind fun t291=>(some (t291,true)))))
def spec_IsOnBest.f (k:Nat) (l0_0:List Int) (a0_1:Int) (l1_0:List Bool) (a1_1:Bool):Option (Bool × Bool):=(spec_paAsked.f k l0_0 a0_1 l1_0 a1_1).bind fun t285=>(if t285=true then ((spec_seLeast.f k l0_0 a0_1).bind fun t286=>(spec_IsOnBest.j0 k (decide (t286 < 0)) l0_0 a0_1 l1_0 a1_1)) else (spec_IsOnBest.j0 k true l0_0 a0_1 l1_0 a1_1))
set_option maxHeartbeats 8000000 in
set_option maxRecDepth 100000 in
theorem spec_IsOnBest.calls (k:Nat) (A0_0:Option Addr) (c0_0:Nat) (l0_0:List Int) (a0_1:Int) (A1_0:Option Addr) (c1_0:Nat) (l1_0:List Bool) (a1_1:Bool) (r1:Bool) (r2:Bool) (w:World) (hr0_0:Kd.C (Kd.int .i64) w A0_0 l0_0.length l0_0) (hc0_0:l0_0.length≤c0_0) (hr1_0:Kd.C Kd.bool w A1_0 l1_0.length l1_0) (hc1_0:l1_0.length≤c1_0) (h:spec_IsOnBest.f k l0_0 a0_1 l1_0 a1_1=some (r1,r2)) :
  Calls Try.prog 51 #[.agg #[.slice A0_0 l0_0.length c0_0, .int .i64 a0_1], .agg #[.slice A1_0 l1_0.length c1_0, .bool a1_1]] w fun e w'=>e = .returned (.tuple #[.bool r1, .bool r2])∧Below w.heap.size w w':=by
 have hu28:=Try.underlying28
 have hu44:=Try.underlying44
 have HR0_0:=am' hr0_0
 have HC0_0:=am' hc0_0
 clear hr0_0 hc0_0;have HR1_0:=am' hr1_0
 have HC1_0:=am' hc1_0
 clear hr1_0 hc1_0;have HB:=am' (Below.refl w.heap.size w)
 have H:((spec_paAsked.f k l0_0 a0_1 l1_0 a1_1).bind fun t285=>(if t285=true then ((spec_seLeast.f k l0_0 a0_1).bind fun t286=>(spec_IsOnBest.j0 k (decide (t286 < 0)) l0_0 a0_1 l1_0 a1_1)) else (spec_IsOnBest.j0 k true l0_0 a0_1 l1_0 a1_1)))=some (r1,r2):=h
 clear h;have HC3:=am' H
 clear H;go_enter Try.func51,Try.ntmps51
 go_upto_region 1 with (first|((with_reducible refine gate_dst (N:=2) rfl ?_);refine box_event ?hg (N:=2) ?hd (cs:=#[.slice A0_0 l0_0.length c0_0, .int .i64 a0_1]) (t:=28) ?hr ?_;(case hd=>rfl);(case hg=>rfl);(case hr=>first|(go_simp;done)|(go_simp;rfl));intro gb283 hg w4 hbox hb;have n0_:=am' (below_step (by repeat (first|(with_reducible first|exact HB.out|apply ba'|apply bd'|apply be')|exact HB.out)) hb);have n1_:=am' (hbox);have n2_:=am' ((by rw[hg];exact (below_size (by repeat (first|(with_reducible first|exact HB.out|apply ba'|apply bd'|apply be')|exact HB.out))):w.heap.size≤gb283));have n3_:=am' ((by rw[hg];exact (below_size (by repeat (first|(with_reducible first|exact HB.out|apply ba'|apply bd'|apply be')|exact HB.out))):w.heap.size≤gb283));clear HB;have HB:=n0_;have BK283:=n1_;have GW283:=n2_;have GE283:=n3_;clear n0_ n1_ n2_ n3_;clear hb hbox hg)|((with_reducible refine gate_dst (N:=3) rfl ?_);refine box_event ?hg (N:=3) ?hd (cs:=#[.slice A1_0 l1_0.length c1_0, .bool a1_1]) (t:=44) ?hr ?_;(case hd=>rfl);(case hg=>rfl);(case hr=>first|(go_simp;done)|(go_simp;rfl));intro gb284 hg w5 hbox hb;have n0_:=am' (blk_below (g:=gb283) (o := .cells #[.slice A0_0 l0_0.length c0_0, .int .i64 a0_1] 28 (0,0)) (by (with_reducible repeat (first|refine kn' ?_ _|refine kd' ?_|refine ka' ?_ _));exact BK283.out) hb);have n1_:=am' (below_step (by repeat (first|(with_reducible first|exact HB.out|apply ba'|apply bd'|apply be'|refine bs' ?_ GE283.out)|exact HB.out)) hb);have n2_:=am' (hbox);have n3_:=am' ((by rw[hg];exact (below_size (by repeat (first|(with_reducible first|exact HB.out|apply ba'|apply bd'|apply be'|refine bs' ?_ GE283.out)|exact HB.out))):w.heap.size≤gb284));have n4_:=am' ((by rw[hg];exact (below_size (by repeat (first|(with_reducible first|exact HB.out|apply ba'|apply bd'|apply be'|refine bs' ?_ GE283.out)|exact HB.out))):w.heap.size≤gb284));have n5_:=am' ((by rw[hg];exact Nat.ne_of_lt (blk_lt (g:=gb283) (o := .cells #[.slice A0_0 l0_0.length c0_0, .int .i64 a0_1] 28 (0,0)) (by (with_reducible repeat (first|refine kn' ?_ _|refine kd' ?_|refine ka' ?_ _));exact BK283.out)):gb283≠gb284));have n6_:=am' ((by rw[hg];exact Nat.ne_of_gt (blk_lt (g:=gb283) (o := .cells #[.slice A0_0 l0_0.length c0_0, .int .i64 a0_1] 28 (0,0)) (by (with_reducible repeat (first|refine kn' ?_ _|refine kd' ?_|refine ka' ?_ _));exact BK283.out)):gb284≠gb283));clear BK283;clear HB;have BK283:=n0_;have HB:=n1_;have BK284:=n2_;have GW284:=n3_;have GE284:=n4_;have NB283_284:=n5_;have NB284_283:=n6_;clear n0_ n1_ n2_ n3_ n4_ n5_ n6_;clear hb hbox hg))
 (try simp only[Act.put,sa',sb',sc'])
 go_cut [14] (fun v14 wc=>∃ (kq:Nat) (x14_2:Bool),v14 = .bool x14_2∧Aside0 (spec_IsOnBest.j0 kq x14_2 l0_0 a0_1 l1_0 a1_1=some (r1,r2))∧Aside0 (kq≤k)∧Aside0 (wc.heap[gb283]? = some (.cells #[(.slice A0_0 l0_0.length c0_0), .int .i64 a0_1] 28 (0,0)))∧Aside0 (wc.heap[gb284]? = some (.cells #[(.slice A1_0 l1_0.length c1_0), .bool a1_1] 44 (0,0)))∧Aside0 (Below w.heap.size w wc))
 case first =>
  have H:=HC3.out;clear HC3;replace H:=Option.bind_eq_some_iff.mp H;obtain ⟨t285,A60,H⟩:=H;replace H:(if t285=true then ((spec_seLeast.f k l0_0 a0_1).bind fun t286=>(spec_IsOnBest.j0 k (decide (t286 < 0)) l0_0 a0_1 l1_0 a1_1)) else (spec_IsOnBest.j0 k true l0_0 a0_1 l1_0 a1_1))=some (r1,r2):=H;have A6:=am' A60;clear A60;by_cases c7:t285=true
  ·
   subst c7;have H1:((spec_seLeast.f k l0_0 a0_1).bind fun t286=>(spec_IsOnBest.j0 k (decide (t286 < 0)) l0_0 a0_1 l1_0 a1_1))=some (r1,r2):=by rw[if_pos rfl] at H;exact H
   clear H;have H:=H1;clear H1;replace H:=Option.bind_eq_some_iff.mp H;obtain ⟨t286,A80,H⟩:=H;replace H:(spec_IsOnBest.j0 k (decide (t286 < 0)) l0_0 a0_1 l1_0 a1_1)=some (r1,r2):=H;have A8:=am' A80;clear A80;have H':=am' H;clear H;have hnb9:=NB283_284.out;have hnc9:=NB284_283.out;have hcz10_0:w5.cell? ⟨gb283,0,none⟩=some (.slice A0_0 l0_0.length c0_0):=(blk_cell BK283.out 0).trans rfl;have hcz10_1:w5.cell? ⟨gb283,1,none⟩=some (.int .i64 a0_1):=(blk_cell BK283.out 1).trans rfl;have hfz10_0:=blk_frozen BK283.out 0;have hfz10_1:=blk_frozen BK283.out 1;have hcz11_0:w5.cell? ⟨gb284,0,none⟩=some (.slice A1_0 l1_0.length c1_0):=(blk_cell BK284.out 0).trans rfl;have hcz11_1:w5.cell? ⟨gb284,1,none⟩=some (.bool a1_1):=(blk_cell BK284.out 1).trans rfl;have hfz11_0:=blk_frozen BK284.out 0;have hfz11_1:=blk_frozen BK284.out 1;go_wp2_with (first|((with_reducible refine gate_callee (f:=77) rfl ?_);refine goesL_ (some 8) rfl rfl Try.func77 (by kernel_rfl) rfl #[.agg #[.slice A0_0 l0_0.length c0_0, .int .i64 a0_1], .agg #[.slice A1_0 l1_0.length c1_0, .bool a1_1]] rfl (by (try simp only[List.map_toArray,List.map_cons,List.map_nil]);first|done|rfl|(simp only[List.length_drop,List.length_take];rfl)) ?_;(with_reducible refine (spec_paAsked.calls k _ _ l0_0 a0_1 _ _ l1_0 a1_1 true _ ?side1 ?side2 ?side3 ?side4 A6.out).mono ?_);(case side1=>repeat (first|exact (Kd.C_below HR0_0.out HB.out)|(with_reducible refine ca' ?_ _)|(with_reducible refine cn' ?_ _)|(with_reducible refine cd' ?_)));(case side2=>exact HC0_0.out);(case side3=>repeat (first|exact (Kd.C_below HR1_0.out HB.out)|(with_reducible refine ca' ?_ _)|(with_reducible refine cn' ?_ _)|(with_reducible refine cd' ?_)));(case side4=>exact HC1_0.out);rintro e w12 ⟨rfl,hb⟩;refine ⟨_,rfl,?_⟩;have n0_:=am' (blk_below (g:=gb283) (o := .cells #[.slice A0_0 l0_0.length c0_0, .int .i64 a0_1] 28 (0,0)) (by (with_reducible repeat (first|refine kn' ?_ _|refine kd' ?_|refine ka' ?_ _));exact BK283.out) hb);have n1_:=am' (blk_below (g:=gb284) (o := .cells #[.slice A1_0 l1_0.length c1_0, .bool a1_1] 44 (0,0)) (by (with_reducible repeat (first|refine kn' ?_ _|refine kd' ?_|refine ka' ?_ _));exact BK284.out) hb);have n2_:=am' (below_step (by repeat (first|(with_reducible first|exact HB.out|apply ba'|apply bd'|apply be'|refine bs' ?_ GE283.out|refine bs' ?_ GE284.out)|exact HB.out)) hb);clear BK283;clear BK284;clear HB;have BK283:=n0_;have BK284:=n1_;have HB:=n2_;clear n0_ n1_ n2_;(try clear hb);(try clear hb2);(try clear hk);(try clear hi);have hcz13_0:w12.cell? ⟨gb283,0,none⟩=some (.slice A0_0 l0_0.length c0_0):=(blk_cell BK283.out 0).trans rfl;have hcz13_1:w12.cell? ⟨gb283,1,none⟩=some (.int .i64 a0_1):=(blk_cell BK283.out 1).trans rfl;have hfz13_0:=blk_frozen BK283.out 0;have hfz13_1:=blk_frozen BK283.out 1)|(go_at_call 69;(with_reducible refine (spec_seLeast.calls k _ _ l0_0 a0_1 t286 _ ?side1 ?side2 A8.out).mono ?_);(case side1=>repeat (first|exact (Kd.C_below HR0_0.out HB.out)|(with_reducible refine ca' ?_ _)|(with_reducible refine cn' ?_ _)|(with_reducible refine cd' ?_)));(case side2=>exact HC0_0.out);rintro e w14 ⟨rfl,hb⟩;have n0_:=am' (blk_below (g:=gb283) (o := .cells #[.slice A0_0 l0_0.length c0_0, .int .i64 a0_1] 28 (0,0)) (by (with_reducible repeat (first|refine kn' ?_ _|refine kd' ?_|refine ka' ?_ _));exact BK283.out) hb);have n1_:=am' (blk_below (g:=gb284) (o := .cells #[.slice A1_0 l1_0.length c1_0, .bool a1_1] 44 (0,0)) (by (with_reducible repeat (first|refine kn' ?_ _|refine kd' ?_|refine ka' ?_ _));exact BK284.out) hb);have n2_:=am' (below_step (by repeat (first|(with_reducible first|exact HB.out|apply ba'|apply bd'|apply be'|refine bs' ?_ GE283.out|refine bs' ?_ GE284.out)|exact HB.out)) hb);clear BK283;clear BK284;clear HB;have BK283:=n0_;have BK284:=n1_;have HB:=n2_;clear n0_ n1_ n2_;(try clear hb);(try clear hb2);(try clear hk);(try clear hi)))
   go_meet
   case rel=>exact ⟨_,(decide (t286 < 0)),(by first|rfl|(simp;done)|(simp[*];done)),H',⟨by first|omega|exact Nat.le_refl _⟩,⟨by (with_reducible repeat (first|refine kn' ?_ _|refine kd' ?_|refine ka' ?_ _));exact BK283.out⟩,⟨by (with_reducible repeat (first|refine kn' ?_ _|refine kd' ?_|refine ka' ?_ _));exact BK284.out⟩,⟨by repeat (first|(with_reducible first|exact HB.out|apply ba'|apply bd'|apply be'|refine bs' ?_ GE283.out|refine bs' ?_ GE284.out)|exact HB.out)⟩⟩
  ·
   replace c7:=Bool.eq_false_iff.mpr c7;subst c7;have H1:(spec_IsOnBest.j0 k true l0_0 a0_1 l1_0 a1_1)=some (r1,r2):=by rw[if_neg (show ¬ (false=true) by decide)] at H;exact H
   clear H;have H:=H1;clear H1;have H':=am' H;clear H;have hnb15:=NB283_284.out;have hnc15:=NB284_283.out;have hcz16_0:w5.cell? ⟨gb283,0,none⟩=some (.slice A0_0 l0_0.length c0_0):=(blk_cell BK283.out 0).trans rfl;have hcz16_1:w5.cell? ⟨gb283,1,none⟩=some (.int .i64 a0_1):=(blk_cell BK283.out 1).trans rfl;have hfz16_0:=blk_frozen BK283.out 0;have hfz16_1:=blk_frozen BK283.out 1;have hcz17_0:w5.cell? ⟨gb284,0,none⟩=some (.slice A1_0 l1_0.length c1_0):=(blk_cell BK284.out 0).trans rfl;have hcz17_1:w5.cell? ⟨gb284,1,none⟩=some (.bool a1_1):=(blk_cell BK284.out 1).trans rfl;have hfz17_0:=blk_frozen BK284.out 0;have hfz17_1:=blk_frozen BK284.out 1;go_wp2_with (first|((with_reducible refine gate_callee (f:=77) rfl ?_);refine goesL_ (some 8) rfl rfl Try.func77 (by kernel_rfl) rfl #[.agg #[.slice A0_0 l0_0.length c0_0, .int .i64 a0_1], .agg #[.slice A1_0 l1_0.length c1_0, .bool a1_1]] rfl (by (try simp only[List.map_toArray,List.map_cons,List.map_nil]);first|done|rfl|(simp only[List.length_drop,List.length_take];rfl)) ?_;(with_reducible refine (spec_paAsked.calls k _ _ l0_0 a0_1 _ _ l1_0 a1_1 false _ ?side1 ?side2 ?side3 ?side4 A6.out).mono ?_);(case side1=>repeat (first|exact (Kd.C_below HR0_0.out HB.out)|(with_reducible refine ca' ?_ _)|(with_reducible refine cn' ?_ _)|(with_reducible refine cd' ?_)));(case side2=>exact HC0_0.out);(case side3=>repeat (first|exact (Kd.C_below HR1_0.out HB.out)|(with_reducible refine ca' ?_ _)|(with_reducible refine cn' ?_ _)|(with_reducible refine cd' ?_)));(case side4=>exact HC1_0.out);rintro e w18 ⟨rfl,hb⟩;refine ⟨_,rfl,?_⟩;have n0_:=am' (blk_below (g:=gb283) (o := .cells #[.slice A0_0 l0_0.length c0_0, .int .i64 a0_1] 28 (0,0)) (by (with_reducible repeat (first|refine kn' ?_ _|refine kd' ?_|refine ka' ?_ _));exact BK283.out) hb);have n1_:=am' (blk_below (g:=gb284) (o := .cells #[.slice A1_0 l1_0.length c1_0, .bool a1_1] 44 (0,0)) (by (with_reducible repeat (first|refine kn' ?_ _|refine kd' ?_|refine ka' ?_ _));exact BK284.out) hb);have n2_:=am' (below_step (by repeat (first|(with_reducible first|exact HB.out|apply ba'|apply bd'|apply be'|refine bs' ?_ GE283.out|refine bs' ?_ GE284.out)|exact HB.out)) hb);clear BK283;clear BK284;clear HB;have BK283:=n0_;have BK284:=n1_;have HB:=n2_;clear n0_ n1_ n2_;(try clear hb);(try clear hb2);(try clear hk);(try clear hi)));go_meet
   case rel=>exact ⟨_,(true),(by first|rfl|(simp;done)|(simp[*];done)),H',⟨by first|omega|exact Nat.le_refl _⟩,⟨by (with_reducible repeat (first|refine kn' ?_ _|refine kd' ?_|refine ka' ?_ _));exact BK283.out⟩,⟨by (with_reducible repeat (first|refine kn' ?_ _|refine kd' ?_|refine ka' ?_ _));exact BK284.out⟩,⟨by repeat (first|(with_reducible first|exact HB.out|apply ba'|apply bd'|apply be'|refine bs' ?_ GE283.out|refine bs' ?_ GE284.out)|exact HB.out)⟩⟩
 case rest =>
  clear HC3;try clear c1
  try clear p2
  try clear c5
  try clear c7
  try clear c9
  try clear c15
  try clear hcz10_0
  try clear hcz10_1
  try clear hcz11_0
  try clear hcz11_1
  try clear hcz13_0
  try clear hcz13_1
  try clear hcz16_0
  try clear hcz16_1
  try clear hcz17_0
  try clear hcz17_1
  try clear hfz10_0
  try clear hfz10_1
  try clear hfz11_0
  try clear hfz11_1
  try clear hfz13_0
  try clear hfz13_1
  try clear hfz16_0
  try clear hfz16_1
  try clear hfz17_0
  try clear hfz17_1
  obtain ⟨kq,x14_2,rfl,HA,HJ2,BK283,BK284,HB⟩:=hcut;cases kq with
  | zero=>exact absurd HA.out (by simp[spec_IsOnBest.j0])
  | succ kj2 =>
   have H:=HA.out;clear HA;simp only[spec_IsOnBest.j0] at H;by_cases c19:x14_2=true
   ·
    subst c19;have H1:(some (false,false))=some (r1,r2):=by rw[if_pos rfl] at H;exact H
    clear H;have H:=H1;clear H1;simp only[Option.some.injEq,Prod.mk.injEq] at H;obtain ⟨rfl,rfl⟩:=H;go_wp2;go_ret2
    exact ⟨by first|rfl|(simp[errW_none,errW_some] <;> rfl)|(simp[*,errW_none,errW_some] <;> rfl),by repeat (first|(with_reducible first|exact HB.out|apply ba'|apply bd'|apply be'|refine bs' ?_ GE283.out|refine bs' ?_ GE284.out)|exact HB.out)⟩
   ·
    replace c19:=Bool.eq_false_iff.mpr c19;subst c19;have H1:((spec_seOn.f kj2 l0_0 a0_1).bind fun t287=>((spec_seIndex.f kj2 l1_0 a1_1).bind fun t290=>((spec_l1Has.f kj2 t287 t290).bind fun t291=>(some (t291,true)))))=some (r1,r2):=by rw[if_neg (show ¬ (false=true) by decide)] at H;exact H
    clear H;have H:=H1;clear H1;replace H:=Option.bind_eq_some_iff.mp H;obtain ⟨t287,A200,H⟩:=H;replace H:((spec_seIndex.f kj2 l1_0 a1_1).bind fun t290=>((spec_l1Has.f kj2 t287 t290).bind fun t291=>(some (t291,true))))=some (r1,r2):=H;have A20:=am' A200;clear A200;replace H:=Option.bind_eq_some_iff.mp H;obtain ⟨t290,A210,H⟩:=H;replace H:((spec_l1Has.f kj2 t287 t290).bind fun t291=>(some (t291,true)))=some (r1,r2):=H;have A21:=am' A210;clear A210;replace H:=Option.bind_eq_some_iff.mp H;obtain ⟨t291,A220,H⟩:=H;replace H:(some (t291,true))=some (r1,r2):=H;have A22:=am' A220;clear A220;simp only[Option.some.injEq,Prod.mk.injEq] at H;obtain ⟨rfl,rfl⟩:=H
    try go_wp2
    have n0_:=am' (kd' BK283.out);have n1_:=am' (kd' BK284.out);have n2_:=am' (be' HB.out);clear BK283;clear BK284;clear HB;have BK283:=n0_;have BK284:=n1_;have HB:=n2_;clear n0_ n1_ n2_;refine start_ (n:=7) (S:=fun w'=>w'.cell? ⟨gb283,0,none⟩=some (.slice A0_0 l0_0.length c0_0)∧w'.cell? ⟨gb283,1,none⟩=some (.int .i64 a0_1)∧w'.cell? ⟨gb284,0,none⟩=some (.slice A1_0 l1_0.length c1_0)∧w'.cell? ⟨gb284,1,none⟩=some (.bool a1_1)) (ds:=[]) #[false,false,false,false,false,false,false] (by kernel_rfl) rfl rfl ⟨(blk_cell BK283.out 0).trans rfl,(blk_cell BK283.out 1).trans rfl,(blk_cell BK284.out 0).trans rfl,(blk_cell BK284.out 1).trans rfl⟩ (fun hHeld=>?_);generalize wc.drew=w23 at BK283 BK284 HB hHeld ⊢
    refine take_ (i:=0) (N:=some 15) (v:=?_) (a':=?_) #[true,false,false,false,false,false,false] rfl rfl (by kernel_rfl) (fun _ _ _ h=>h) (Or.inl ⟨by rfl,?_⟩) hHeld ?_ ?_
    rotate_left
    ·
     rintro w' ⟨s0,s1,s2,s3⟩
     go_simp;with_reducible rfl
    rotate_left
    ·
     simp only[Act.put,sa',sb',sc',i64_w,i32_w];rfl
    refine take_ (i:=2) (N:=some 17) (v:=?_) (a':=?_) #[true,false,true,false,false,false,false] rfl rfl (by kernel_rfl) (fun _ _ _ h=>h) (Or.inl ⟨by rfl,?_⟩) hHeld ?_ ?_
    rotate_left
    ·
     rintro w' ⟨s0,s1,s2,s3⟩
     go_simp;with_reducible rfl
    rotate_left
    ·
     simp only[Act.put,sa',sb',sc',i64_w,i32_w];rfl
    refine one_ (i:=1) (N:=some 16) #[true,true,true,false,false,false,false] rfl rfl (by kernel_rfl) (by decide) (fun K hK=>?_);refine goes_ Try.func72 (by kernel_rfl) rfl #[.agg #[.slice A0_0 l0_0.length c0_0, .int .i64 a0_1]] (by rfl) rfl rfl (by (try simp only[List.map_toArray,List.map_cons,List.map_nil]);first|done|rfl|(simp only[List.length_drop,List.length_take];rfl)) ?_
    with_reducible refine (spec_seOn.calls kj2 _ _ l0_0 a0_1 t287 _ ?side1 ?side2 A20.out).mono ?_
    (case side1=>repeat (first|exact (Kd.C_below HR0_0.out HB.out)|(with_reducible refine ca' ?_ _)|(with_reducible refine cn' ?_ _)|(with_reducible refine cd' ?_)))
    (case side2=>exact HC0_0.out)
    rintro e w24 ⟨v288,rfl,ho0,hb⟩
    refine ⟨_,rfl,?_⟩;have n0_:=am' (Kd.R_lower ho0 (below_size (by repeat (first|(with_reducible first|exact HB.out|apply ba'|apply bd'|apply be'|refine bs' ?_ GE283.out|refine bs' ?_ GE284.out)|exact HB.out))));have n1_:=am' (blk_below (g:=gb283) (o := .cells #[.slice A0_0 l0_0.length c0_0, .int .i64 a0_1] 28 (0,0)) (by (with_reducible repeat (first|refine kn' ?_ _|refine kd' ?_|refine ka' ?_ _));exact BK283.out) hb);have n2_:=am' (blk_below (g:=gb284) (o := .cells #[.slice A1_0 l1_0.length c1_0, .bool a1_1] 44 (0,0)) (by (with_reducible repeat (first|refine kn' ?_ _|refine kd' ?_|refine ka' ?_ _));exact BK284.out) hb);have n3_:=am' (below_step (by repeat (first|(with_reducible first|exact HB.out|apply ba'|apply bd'|apply be'|refine bs' ?_ GE283.out|refine bs' ?_ GE284.out)|exact HB.out)) hb);clear BK283;clear BK284;clear HB;have HO289:=n0_;have BK283:=n1_;have BK284:=n2_;have HB:=n3_;clear n0_ n1_ n2_ n3_;(try clear hb)
    (try clear hb2)
    (try clear hk)
    (try clear hi)
    (try clear ho0)
    refine hK.out _ _ ⟨(blk_cell BK283.out 0).trans rfl,(blk_cell BK283.out 1).trans rfl,(blk_cell BK284.out 0).trans rfl,(blk_cell BK284.out 1).trans rfl⟩ (fun hHeld=>?_);clear hK K;refine norm_ (a':=?_) ?_ ?_
    rotate_left
    ·
     show Act.put _ (some 16) _=_
     simp only[Act.put,sa',sb',sc',i64_w,i32_w];rfl
    refine one_ (i:=3) (N:=some 18) #[true,true,true,true,false,false,false] rfl rfl (by kernel_rfl) (by decide) (fun K hK=>?_);refine goes_ Try.func78 (by kernel_rfl) rfl #[.agg #[.slice A1_0 l1_0.length c1_0, .bool a1_1]] (by rfl) rfl rfl (by (try simp only[List.map_toArray,List.map_cons,List.map_nil]);first|done|rfl|(simp only[List.length_drop,List.length_take];rfl)) ?_
    with_reducible refine (spec_seIndex.calls kj2 _ _ l1_0 a1_1 t290 _ ?side1 ?side2 A21.out).mono ?_
    (case side1=>repeat (first|exact (Kd.C_below HR1_0.out HB.out)|(with_reducible refine ca' ?_ _)|(with_reducible refine cn' ?_ _)|(with_reducible refine cd' ?_)))
    (case side2=>exact HC1_0.out)
    rintro e w25 ⟨rfl,hb⟩
    refine ⟨_,rfl,?_⟩;have n0_:=am' (Kd.R_below (by (with_reducible repeat (first|apply ra'|apply rn'|apply rw'));exact HO289.out) hb);have n1_:=am' (blk_below (g:=gb283) (o := .cells #[.slice A0_0 l0_0.length c0_0, .int .i64 a0_1] 28 (0,0)) (by (with_reducible repeat (first|refine kn' ?_ _|refine kd' ?_|refine ka' ?_ _));exact BK283.out) hb);have n2_:=am' (blk_below (g:=gb284) (o := .cells #[.slice A1_0 l1_0.length c1_0, .bool a1_1] 44 (0,0)) (by (with_reducible repeat (first|refine kn' ?_ _|refine kd' ?_|refine ka' ?_ _));exact BK284.out) hb);have n3_:=am' (below_step (by repeat (first|(with_reducible first|exact HB.out|apply ba'|apply bd'|apply be'|refine bs' ?_ GE283.out|refine bs' ?_ GE284.out)|exact HB.out)) hb);clear HO289;clear BK283;clear BK284;clear HB;have HO289:=n0_;have BK283:=n1_;have BK284:=n2_;have HB:=n3_;clear n0_ n1_ n2_ n3_;(try clear hb)
    (try clear hb2)
    (try clear hk)
    (try clear hi)
    obtain ⟨Ao26,co26,eo26⟩:=Kd.R_slice HO289.out
    (first|subst eo26|(injection eo26 with f1_ f2_ f3_;have f4_:=f1_.symm;have f5_:=f3_.symm;clear f1_ f2_ f3_;subst f4_;subst f5_))
    refine hK.out _ _ ⟨(blk_cell BK283.out 0).trans rfl,(blk_cell BK283.out 1).trans rfl,(blk_cell BK284.out 0).trans rfl,(blk_cell BK284.out 1).trans rfl⟩ (fun hHeld=>?_);clear hK K;refine norm_ (a':=?_) ?_ ?_
    rotate_left
    ·
     show Act.put _ (some 18) _=_
     simp only[Act.put,sa',sb',sc',i64_w,i32_w];rfl
    refine one_ (i:=4) (N:=some 19) #[true,true,true,true,true,false,false] rfl rfl (by kernel_rfl) (by decide) (fun K hK=>?_);refine goes_ Try.func91 (by kernel_rfl) rfl #[.slice Ao26 t287.length co26, .int .i64 t290] (by rfl) rfl rfl (by (try simp only[List.map_toArray,List.map_cons,List.map_nil]);first|done|rfl|(simp only[List.length_drop,List.length_take];rfl)) ?_
    with_reducible refine (spec_l1Has.calls kj2 _ _ t287 t290 t291 _ ?side1 ?side2 A22.out).mono ?_
    (case side1=>repeat (first|exact (Kd.R_reads' HO289.out).2.2|(with_reducible refine ca' ?_ _)|(with_reducible refine cn' ?_ _)|(with_reducible refine cd' ?_)))
    (case side2=>exact (Kd.R_reads' HO289.out).2.1)
    rintro e w' ⟨rfl,⟨nd,rfl⟩⟩
    refine ⟨_,rfl,?_⟩;refine hK.out _ _ ⟨(blk_cell BK283.out 0).trans rfl,(blk_cell BK283.out 1).trans rfl,(blk_cell BK284.out 0).trans rfl,(blk_cell BK284.out 1).trans rfl⟩ (fun hHeld=>?_);clear hK K;refine norm_ (a':=?_) ?_ ?_
    rotate_left
    ·
     show Act.put _ (some 19) _=_
     simp only[Act.put,sa',sb',sc',i64_w,i32_w];rfl
    refine pure_ (i:=5) (N:=some 4) (v:=?_) (a':=?_) #[true,true,true,true,true,true,false] rfl rfl (by kernel_rfl) (fun _ _ _ h=>h) (Or.inl ⟨by rfl,?_⟩) ?_ ?_
    rotate_left
    ·
     intro w';go_simp;with_reducible rfl
    rotate_left
    ·
     simp only[Act.put,sa',sb',sc',i64_w,i32_w];rfl
    refine pure_ (i:=6) (N:=some 5) (v:=?_) (a':=?_) #[true,true,true,true,true,true,true] rfl rfl (by kernel_rfl) (fun _ _ _ h=>h) (Or.inl ⟨by rfl,?_⟩) ?_ ?_
    rotate_left
    ·
     intro w';go_simp;with_reducible rfl
    rotate_left
    ·
     simp only[Act.put,sa',sb',sc',i64_w,i32_w];rfl
    refine done_ (by kernel_rfl) ?_
    try go_wp2
    go_ret2
    exact ⟨by first|rfl|(simp[errW_none,errW_some] <;> rfl)|(simp[*,errW_none,errW_some] <;> rfl),by repeat (first|(with_reducible first|exact HB.out|apply ba'|apply bd'|apply be'|refine bs' ?_ GE283.out|refine bs' ?_ GE284.out)|exact HB.out)⟩
end Go.Proofs.Ytamljjfhkolflaa.C11
