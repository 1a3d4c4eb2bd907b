import Derived.Test.YtibdeohiimjocaaC11zx0
import Derived.Test.YtibdeohiimjocaaC11zx7
import Derived.Test.YtibdeohiimjocaaC11zAl
namespace Go.Proofs.Ytibdeohiimjocaa.C11
open Go.RowKit Go.Proofs.YtibdeohiimjocaaW.PrintWords Go.Proofs.YtibdeohiimjocaaW.PrintLast Go.Proofs.YtibdeohiimjocaaW.PrintMore Go.Proofs.Ytibdeohiimjocaa.H
attribute [local go_sem] max2_int min2_int max_two min_two max_three min_three max_four min_four
set_option linter.unusedVariables false
set_option linter.unusedSimpArgs false
def slices_Index_bool_bool.l0:Nat→List Bool→Bool→Int→Int→Option (Int)
 | 0,_,_,_,_=>none
 | k+1,x0,x1,x7,x8=>if x8 < x7 then (if 0≤x8 then (if x8 < (x0.length:Int) then (if (x1 == (rdOf false x0 x8))=true then (some x8) else (slices_Index_bool_bool.l0 k x0 x1 x7 (wrap64 (x8+1)))) else (none)) else (none)) else (some (-1))
def slices_Index_bool_bool.f (k:Nat) (l0:List Bool) (a1:Bool):Option (Int):=slices_Index_bool_bool.l0 k l0 a1 (l0.length:Int) 0
theorem slices_Index_bool_bool.mono_l:∀ k,(∀ y0 y1 y2 y3,LeO (slices_Index_bool_bool.l0 k y0 y1 y2 y3) (slices_Index_bool_bool.l0 (k+1) y0 y1 y2 y3))
 | 0=>fun _ _ _ _ r h=>by simp[slices_Index_bool_bool.l0] at h
 | k+1=>by
  have ih0:=slices_Index_bool_bool.mono_l k
  ·
   intro y0 y1 y2 y3;unfold slices_Index_bool_bool.l0
   repeat' first
   | (with_reducible exact ih0 _ _ _ _)
   | (with_reducible exact LeO.refl _)
   | (with_reducible exact LeO.none _)
   | (with_reducible refine LeO.ite ?_ ?_)
   | (with_reducible refine LeO.bind ?_ (fun _=>?_))
   | exact ih0 _ _ _ _
   | exact LeO.none _
   | refine LeO.ite ?_ ?_
   | refine LeO.bind ?_ (fun _=>?_)
theorem slices_Index_bool_bool.mono:∀ a0 a1 k,LeO (slices_Index_bool_bool.f k a0 a1) (slices_Index_bool_bool.f (k+1) a0 a1):=by
 intro a0 a1 k;have ih0:=slices_Index_bool_bool.mono_l k
 unfold slices_Index_bool_bool.f
 repeat' first
   | (with_reducible exact ih0 _ _ _ _)
   | (with_reducible exact LeO.refl _)
   | (with_reducible exact LeO.none _)
   | (with_reducible refine LeO.ite ?_ ?_)
   | (with_reducible refine LeO.bind ?_ (fun _=>?_))
   | exact ih0 _ _ _ _
   | exact LeO.none _
   | refine LeO.ite ?_ ?_
   | refine LeO.bind ?_ (fun _=>?_)
set_option maxHeartbeats 8000000 in
set_option maxRecDepth 100000 in
theorem slices_Index_bool_bool.calls (k:Nat) (A0:Option Addr) (c0:Nat) (l0:List Bool) (a1:Bool) (r:Int) (w:World) (hr0:Kd.C Kd.bool w A0 l0.length l0) (hc0:l0.length≤c0) (h:slices_Index_bool_bool.f k l0 a1=some r) :
  Calls Try.prog 142 #[.slice A0 l0.length c0, .bool a1] w fun e w'=>e = .returned (.int .i64 r)∧Drawn0 w w':=by
 have HR0:=am' hr0
 have HC0:=am' hc0
 clear hr0 hc0;have H:(slices_Index_bool_bool.l0 k l0 a1 (l0.length:Int) 0)=some r:=h
 clear h;have H':=am' H
 clear H;go_enter Try.func142,Try.ntmps142
 go_wp2
 go_loopg [8] k (fun kq v8 w'=>∃ (x8_1:Int),v8 = .int .i64 x8_1∧Aside0 (slices_Index_bool_bool.l0 kq l0 a1 (l0.length:Int) x8_1=some r)∧Aside0 (kq≤k)∧Drawn0 w w')
 case atStart=>exact ⟨(0),(by first|rfl|(simp;done)|(simp[*];done)),H',⟨Nat.le_refl _⟩,by repeat (first|exact Drawn0.refl _|apply Drawn0.step)⟩
 case round =>
  clear H';try clear c1
  try clear p2
  obtain ⟨x8_1,rfl,HA,HK1,⟨m1,rfl⟩⟩:=hrel;cases gk with
  | zero=>exact absurd HA.out (by simp[slices_Index_bool_bool.l0])
  | succ k1 =>
   have H:=HA.out;clear HA;simp only[slices_Index_bool_bool.l0] at H;by_cases c3:x8_1 < (l0.length:Int)
   ·
    rw[if_pos c3] at H;have c3b0:decide (x8_1 < (l0.length:Int))=true:=decide_eq_true c3;clear c3;by_cases c4:0≤x8_1
    ·
     rw[if_pos c4] at H;have c4b0:decide (0≤x8_1)=true:=decide_eq_true c4;clear c4;by_cases c5:x8_1 < (l0.length:Int)
     ·
      rw[if_pos c5] at H;have c5b0:decide (x8_1 < (l0.length:Int))=true:=decide_eq_true c5;clear c5;by_cases c6:(a1 == (rdOf false l0 x8_1))=true
      ·
       rw[if_pos c6] at H;have c6b0:(a1 == (rdOf false l0 x8_1))=true:=c6
       (try (have c6b1:decide (a1=(rdOf false l0 x8_1))=true:=by simpa using c6))
       (try (have c6b2:(a1 == (rdOf false l0 x8_1))=true:=by simpa using c6))
       clear c6;obtain rfl:=Option.some.inj H;have p230:0≤(x8_1:Int):=of_decide_eq_true (by first|(with_reducible assumption)|assumption);have q230:x8_1 < (l0.length:Int):=of_decide_eq_true (by first|(with_reducible assumption)|assumption);obtain ⟨ad230,e230,hx230_0⟩:=Kd.at_bool HR0.out x8_1 p230 q230;cases e230;replace p230:=eq_true p230;replace q230:=eq_true q230;go_wp2;go_ret
       exact ⟨by first|rfl|(simp;done)|(simp[*];done),by repeat (first|exact Drawn0.refl _|apply Drawn0.step)⟩
      ·
       rw[if_neg c6] at H;have c6b0:(a1 == (rdOf false l0 x8_1))=false:=by simpa using c6
       (try (have c6b1:decide (a1=(rdOf false l0 x8_1))=false:=by simpa using c6))
       (try (have c6b2:(a1 == (rdOf false l0 x8_1))=false:=by simpa using c6))
       (try (have c6b3:¬ (a1=(rdOf false l0 x8_1)):=by simpa using c6))
       clear c6;have H':=am' H;clear H;have p230:0≤(x8_1:Int):=of_decide_eq_true (by first|(with_reducible assumption)|assumption);have q230:x8_1 < (l0.length:Int):=of_decide_eq_true (by first|(with_reducible assumption)|assumption);obtain ⟨ad230,e230,hx230_0⟩:=Kd.at_bool HR0.out x8_1 p230 q230;cases e230;replace p230:=eq_true p230;replace q230:=eq_true q230;go_wp2;go_roundg k1
       case measure=>have:=HK1.out;omega
       case rel=>exact ⟨(wrap64 (x8_1+1)),(by first|rfl|(simp;done)|(simp[*];done)),H',⟨by have:=HK1.out;omega⟩,by repeat (first|exact Drawn0.refl _|apply Drawn0.step)⟩
     ·
      rw[if_neg c5] at H;exact absurd H (by simp)
    ·
     rw[if_neg c4] at H;exact absurd H (by simp)
   ·
    rw[if_neg c3] at H;have c3b0:decide (x8_1 < (l0.length:Int))=false:=decide_eq_false c3;clear c3;obtain rfl:=Option.some.inj H;go_wp2;go_ret
    exact ⟨by first|rfl|(simp;done)|(simp[*];done),by repeat (first|exact Drawn0.refl _|apply Drawn0.step)⟩
def slices_Contains_bool_bool.f (k:Nat) (l0:List Bool) (a1:Bool):Option (Bool):=(slices_Index_bool_bool.f k l0 a1).bind fun t231=>(some (decide (t231 ≥ 0)))
theorem slices_Contains_bool_bool.mono:∀ a0 a1 k,LeO (slices_Contains_bool_bool.f k a0 a1) (slices_Contains_bool_bool.f (k+1) a0 a1):=by
 intro a0 a1 k;unfold slices_Contains_bool_bool.f
 repeat' first
   | (with_reducible exact slices_Index_bool_bool.mono _ _ _)
   | (with_reducible exact LeO.refl _)
   | (with_reducible exact LeO.none _)
   | (with_reducible refine LeO.ite ?_ ?_)
   | (with_reducible refine LeO.bind ?_ (fun _=>?_))
   | exact slices_Index_bool_bool.mono _ _ _
   | exact LeO.none _
   | refine LeO.ite ?_ ?_
   | refine LeO.bind ?_ (fun _=>?_)
set_option maxHeartbeats 8000000 in
set_option maxRecDepth 100000 in
theorem slices_Contains_bool_bool.calls (k:Nat) (A0:Option Addr) (c0:Nat) (l0:List Bool) (a1:Bool) (r:Bool) (w:World) (hr0:Kd.C Kd.bool w A0 l0.length l0) (hc0:l0.length≤c0) (h:slices_Contains_bool_bool.f k l0 a1=some r) :
  Calls Try.prog 134 #[.slice A0 l0.length c0, .bool a1] w fun e w'=>e = .returned (.bool r)∧Drawn0 w w':=by
 have HR0:=am' hr0
 have HC0:=am' hc0
 clear hr0 hc0;have H:((slices_Index_bool_bool.f k l0 a1).bind fun t231=>(some (decide (t231 ≥ 0))))=some r:=h
 clear h;replace H:=Option.bind_eq_some_iff.mp H
 obtain ⟨t231,A30,H⟩:=H
 replace H:(some (decide (t231 ≥ 0)))=some r:=H
 have A3:=am' A30
 clear A30;obtain rfl:=Option.some.inj H
 go_enter Try.func134,Try.ntmps134
 go_wp2_with (first|((with_reducible refine gate_callee (f:=142) rfl ?_);refine goesL_ (some 7) rfl rfl Try.func142 (by kernel_rfl) rfl #[.slice A0 l0.length c0, .bool a1] rfl (by (try simp only[List.map_toArray,List.map_cons,List.map_nil]);first|done|rfl|(simp only[List.length_drop,List.length_take];rfl)) ?_;(with_reducible refine (slices_Index_bool_bool.calls k _ _ l0 a1 t231 _ ?side1 ?side2 A3.out).mono ?_);(case side1=>repeat (first|exact HR0.out|(with_reducible refine ca' ?_ _)|(with_reducible refine cn' ?_ _)|(with_reducible refine cd' ?_)));(case side2=>exact HC0.out);rintro e w' ⟨rfl,⟨nd,rfl⟩⟩;refine ⟨_,rfl,?_⟩))
 go_ret
 exact ⟨by first|rfl|(simp;done)|(simp[*];done),by repeat (first|exact Drawn0.refl _|apply Drawn0.step)⟩
def impl_isStateOf.f (k:Nat) (a0:Int) (l1_0:List Bool) (a1_1:Bool):Option (Bool):=if (l1_0.length:Int)=a0 then ((slices_Contains_bool_bool.f k l1_0 a1_1).bind fun t233=>(some t233)) else (some false)
theorem impl_isStateOf.mono:∀ a0 a1 a2 k,LeO (impl_isStateOf.f k a0 a1 a2) (impl_isStateOf.f (k+1) a0 a1 a2):=by
 intro a0 a1 a2 k;unfold impl_isStateOf.f
 repeat' first
   | (with_reducible exact slices_Contains_bool_bool.mono _ _ _)
   | (with_reducible exact LeO.refl _)
   | (with_reducible exact LeO.none _)
   | (with_reducible refine LeO.ite ?_ ?_)
   | (with_reducible refine LeO.bind ?_ (fun _=>?_))
   | exact slices_Contains_bool_bool.mono _ _ _
   | exact LeO.none _
   | refine LeO.ite ?_ ?_
   | refine LeO.bind ?_ (fun _=>?_)
set_option maxHeartbeats 8000000 in
set_option maxRecDepth 100000 in
theorem impl_isStateOf.calls (k:Nat) (a0:Int) (A1_0:Option Addr) (c1_0:Nat) (l1_0:List Bool) (a1_1:Bool) (r:Bool) (w:World) (hr1_0:Kd.C Kd.bool w A1_0 l1_0.length l1_0) (hc1_0:l1_0.length≤c1_0) (h:impl_isStateOf.f k a0 l1_0 a1_1=some r) :
  Calls Try.prog 119 #[.int .i64 a0, .agg #[.slice A1_0 l1_0.length c1_0, .bool a1_1]] w fun e w'=>e = .returned (.bool r)∧Below w.heap.size w w':=by
 have hu51:=Try.underlying51
 have HR1_0:=am' hr1_0
 have HC1_0:=am' hc1_0
 clear hr1_0 hc1_0;have HB:=am' (Below.refl w.heap.size w)
 have H:(if (l1_0.length:Int)=a0 then ((slices_Contains_bool_bool.f k l1_0 a1_1).bind fun t233=>(some t233)) else (some false))=some r:=h
 clear h;by_cases c3:(l1_0.length:Int)=a0
 ·
  rw[if_pos c3] at H;have c3b0:((l1_0.length:Int) == a0)=true:=beq_iff_eq.mpr c3;have c3b1:((l1_0.length:Int) != a0)=false:=bne_eq_false_iff_eq.mpr c3;clear c3;replace H:=Option.bind_eq_some_iff.mp H;obtain ⟨t233,A40,H⟩:=H;replace H:(some t233)=some r:=H;have A4:=am' A40;clear A40;obtain rfl:=Option.some.inj H;go_enter Try.func119,Try.ntmps119;go_wp2_with (first|((with_reducible refine gate_dst (N:=3) rfl ?_);refine box_event ?hg (N:=3) ?hd (cs:=#[.slice A1_0 l1_0.length c1_0, .bool a1_1]) (t:=51) ?hr ?_;(case hd=>rfl);(case hg=>rfl);(case hr=>first|(go_simp;done)|(go_simp;rfl));intro gb232 hg w5 hbox hb;have n0_:=am' (below_step (by repeat (first|(with_reducible first|exact HB.out|apply ba'|apply bd'|apply be')|exact HB.out)) hb);have n1_:=am' (hbox);have n2_:=am' ((by rw[hg];exact (below_size (by repeat (first|(with_reducible first|exact HB.out|apply ba'|apply bd'|apply be')|exact HB.out))):w.heap.size≤gb232));have n3_:=am' ((by rw[hg];exact (below_size (by repeat (first|(with_reducible first|exact HB.out|apply ba'|apply bd'|apply be')|exact HB.out))):w.heap.size≤gb232));clear HB;have HB:=n0_;have BK232:=n1_;have GW232:=n2_;have GE232:=n3_;clear n0_ n1_ n2_ n3_;clear hb hbox hg;have hcz6_0:w5.cell? ⟨gb232,0,none⟩=some (.slice A1_0 l1_0.length c1_0):=(blk_cell BK232.out 0).trans rfl;have hcz6_1:w5.cell? ⟨gb232,1,none⟩=some (.bool a1_1):=(blk_cell BK232.out 1).trans rfl;have hfz6_0:=blk_frozen BK232.out 0;have hfz6_1:=blk_frozen BK232.out 1)|(go_at_call 134;(with_reducible refine (slices_Contains_bool_bool.calls k _ _ l1_0 a1_1 t233 _ ?side1 ?side2 A4.out).mono ?_);(case side1=>repeat (first|exact (Kd.C_below HR1_0.out HB.out)|(with_reducible refine ca' ?_ _)|(with_reducible refine cn' ?_ _)|(with_reducible refine cd' ?_)));(case side2=>exact HC1_0.out);rintro e w' ⟨rfl,⟨nd,rfl⟩⟩));go_ret
  exact ⟨by first|rfl|(simp[errW_none,errW_some] <;> rfl)|(simp[*,errW_none,errW_some] <;> rfl),by repeat (first|(with_reducible first|exact HB.out|apply ba'|apply bd'|apply be'|refine bs' ?_ GE232.out)|exact HB.out)⟩
 ·
  rw[if_neg c3] at H;have c3b0:((l1_0.length:Int) == a0)=false:=beq_eq_false_iff_ne.mpr c3;have c3b1:((l1_0.length:Int) != a0)=true:=bne_iff_ne.mpr c3;obtain rfl:=Option.some.inj H;go_enter Try.func119,Try.ntmps119;go_wp2_with (first|((with_reducible refine gate_dst (N:=3) rfl ?_);refine box_event ?hg (N:=3) ?hd (cs:=#[.slice A1_0 l1_0.length c1_0, .bool a1_1]) (t:=51) ?hr ?_;(case hd=>rfl);(case hg=>rfl);(case hr=>first|(go_simp;done)|(go_simp;rfl));intro gb232 hg w7 hbox hb;have n0_:=am' (below_step (by repeat (first|(with_reducible first|exact HB.out|apply ba'|apply bd'|apply be')|exact HB.out)) hb);have n1_:=am' (hbox);have n2_:=am' ((by rw[hg];exact (below_size (by repeat (first|(with_reducible first|exact HB.out|apply ba'|apply bd'|apply be')|exact HB.out))):w.heap.size≤gb232));have n3_:=am' ((by rw[hg];exact (below_size (by repeat (first|(with_reducible first|exact HB.out|apply ba'|apply bd'|apply be')|exact HB.out))):w.heap.size≤gb232));clear HB;have HB:=n0_;have BK232:=n1_;have GW232:=n2_;have GE232:=n3_;clear n0_ n1_ n2_ n3_;clear hb hbox hg;have hcz8_0:w7.cell? ⟨gb232,0,none⟩=some (.slice A1_0 l1_0.length c1_0):=(blk_cell BK232.out 0).trans rfl;have hcz8_1:w7.cell? ⟨gb232,1,none⟩=some (.bool a1_1):=(blk_cell BK232.out 1).trans rfl;have hfz8_0:=blk_frozen BK232.out 0;have hfz8_1:=blk_frozen BK232.out 1));go_ret
  exact ⟨by first|rfl|(simp[errW_none,errW_some] <;> rfl)|(simp[*,errW_none,errW_some] <;> rfl),by repeat (first|(with_reducible first|exact HB.out|apply ba'|apply bd'|apply be'|refine bs' ?_ GE232.out)|exact HB.out)⟩
def impl_Company_hasState.f (k:Nat) (a0_0:Int) (a0_1:Int) (l1_0:List Bool) (a1_1:Bool):Option (Bool):=(impl_IsCompany.f a0_0 a0_1).bind fun t236=>(if t236=true then ((impl_isStateOf.f k (wrap64 (2 * a0_0)) l1_0 a1_1).bind fun t237=>(some t237)) else (some false))
theorem impl_Company_hasState.mono:∀ a0 a1 a2 a3 k,LeO (impl_Company_hasState.f k a0 a1 a2 a3) (impl_Company_hasState.f (k+1) a0 a1 a2 a3):=by
 intro a0 a1 a2 a3 k;unfold impl_Company_hasState.f
 repeat' first
   | (with_reducible exact impl_isStateOf.mono _ _ _ _)
   | (with_reducible exact LeO.refl _)
   | (with_reducible exact LeO.none _)
   | (with_reducible refine LeO.ite ?_ ?_)
   | (with_reducible refine LeO.bind ?_ (fun _=>?_))
   | exact impl_isStateOf.mono _ _ _ _
   | exact LeO.none _
   | refine LeO.ite ?_ ?_
   | refine LeO.bind ?_ (fun _=>?_)
set_option maxHeartbeats 8000000 in
set_option maxRecDepth 100000 in
theorem impl_Company_hasState.calls (k:Nat) (a0_0:Int) (a0_1:Int) (A1_0:Option Addr) (c1_0:Nat) (l1_0:List Bool) (a1_1:Bool) (r:Bool) (w:World) (hr1_0:Kd.C Kd.bool w A1_0 l1_0.length l1_0) (hc1_0:l1_0.length≤c1_0) (h:impl_Company_hasState.f k a0_0 a0_1 l1_0 a1_1=some r) :
  Calls Try.prog 89 #[.agg #[.int .i64 a0_0, .int .i64 a0_1], .agg #[.slice A1_0 l1_0.length c1_0, .bool a1_1]] w fun e w'=>e = .returned (.bool r)∧Below w.heap.size w w':=by
 have hu40:=Try.underlying40
 have hu51:=Try.underlying51
 have HR1_0:=am' hr1_0
 have HC1_0:=am' hc1_0
 clear hr1_0 hc1_0;have HB:=am' (Below.refl w.heap.size w)
 have H:((impl_IsCompany.f a0_0 a0_1).bind fun t236=>(if t236=true then ((impl_isStateOf.f k (wrap64 (2 * a0_0)) l1_0 a1_1).bind fun t237=>(some t237)) else (some false)))=some r:=h
 clear h;replace H:=Option.bind_eq_some_iff.mp H
 obtain ⟨t236,A30,H⟩:=H
 replace H:(if t236=true then ((impl_isStateOf.f k (wrap64 (2 * a0_0)) l1_0 a1_1).bind fun t237=>(some t237)) else (some false))=some r:=H
 have A3:=am' A30
 clear A30;by_cases c4:t236=true
 ·
  subst c4;have H1:((impl_isStateOf.f k (wrap64 (2 * a0_0)) l1_0 a1_1).bind fun t237=>(some t237))=some r:=by rw[if_pos rfl] at H;exact H
  clear H;have H:=H1;clear H1;replace H:=Option.bind_eq_some_iff.mp H;obtain ⟨t237,A50,H⟩:=H;replace H:(some t237)=some r:=H;have A5:=am' A50;clear A50;obtain rfl:=Option.some.inj H;go_enter Try.func89,Try.ntmps89;go_wp2_with (first|((with_reducible refine gate_dst (N:=2) rfl ?_);refine box_event ?hg (N:=2) ?hd (cs:=#[.int .i64 a0_0, .int .i64 a0_1]) (t:=40) ?hr ?_;(case hd=>rfl);(case hg=>rfl);(case hr=>first|(go_simp;done)|(go_simp;rfl));intro gb234 hg w6 hbox hb;have n0_:=am' (below_step (by repeat (first|(with_reducible first|exact HB.out|apply ba'|apply bd'|apply be')|exact HB.out)) hb);have n1_:=am' (hbox);have n2_:=am' ((by rw[hg];exact (below_size (by repeat (first|(with_reducible first|exact HB.out|apply ba'|apply bd'|apply be')|exact HB.out))):w.heap.size≤gb234));have n3_:=am' ((by rw[hg];exact (below_size (by repeat (first|(with_reducible first|exact HB.out|apply ba'|apply bd'|apply be')|exact HB.out))):w.heap.size≤gb234));clear HB;have HB:=n0_;have BK234:=n1_;have GW234:=n2_;have GE234:=n3_;clear n0_ n1_ n2_ n3_;clear hb hbox hg)|((with_reducible refine gate_dst (N:=3) rfl ?_);refine box_event ?hg (N:=3) ?hd (cs:=#[.slice A1_0 l1_0.length c1_0, .bool a1_1]) (t:=51) ?hr ?_;(case hd=>rfl);(case hg=>rfl);(case hr=>first|(go_simp;done)|(go_simp;rfl));intro gb235 hg w7 hbox hb;have n0_:=am' (blk_below (g:=gb234) (o := .cells #[.int .i64 a0_0, .int .i64 a0_1] 40 (0,0)) (by (with_reducible repeat (first|refine kn' ?_ _|refine kd' ?_|refine ka' ?_ _));exact BK234.out) hb);have n1_:=am' (below_step (by repeat (first|(with_reducible first|exact HB.out|apply ba'|apply bd'|apply be'|refine bs' ?_ GE234.out)|exact HB.out)) hb);have n2_:=am' (hbox);have n3_:=am' ((by rw[hg];exact (below_size (by repeat (first|(with_reducible first|exact HB.out|apply ba'|apply bd'|apply be'|refine bs' ?_ GE234.out)|exact HB.out))):w.heap.size≤gb235));have n4_:=am' ((by rw[hg];exact (below_size (by repeat (first|(with_reducible first|exact HB.out|apply ba'|apply bd'|apply be'|refine bs' ?_ GE234.out)|exact HB.out))):w.heap.size≤gb235));have n5_:=am' ((by rw[hg];exact Nat.ne_of_lt (blk_lt (g:=gb234) (o := .cells #[.int .i64 a0_0, .int .i64 a0_1] 40 (0,0)) (by (with_reducible repeat (first|refine kn' ?_ _|refine kd' ?_|refine ka' ?_ _));exact BK234.out)):gb234≠gb235));have n6_:=am' ((by rw[hg];exact Nat.ne_of_gt (blk_lt (g:=gb234) (o := .cells #[.int .i64 a0_0, .int .i64 a0_1] 40 (0,0)) (by (with_reducible repeat (first|refine kn' ?_ _|refine kd' ?_|refine ka' ?_ _));exact BK234.out)):gb235≠gb234));clear BK234;clear HB;have BK234:=n0_;have HB:=n1_;have BK235:=n2_;have GW235:=n3_;have GE235:=n4_;have NB234_235:=n5_;have NB235_234:=n6_;clear n0_ n1_ n2_ n3_ n4_ n5_ n6_;clear hb hbox hg;have hnb8:=NB234_235.out;have hnc8:=NB235_234.out;have hcz9_0:w7.cell? ⟨gb234,0,none⟩=some (.int .i64 a0_0):=(blk_cell BK234.out 0).trans rfl;have hcz9_1:w7.cell? ⟨gb234,1,none⟩=some (.int .i64 a0_1):=(blk_cell BK234.out 1).trans rfl;have hfz9_0:=blk_frozen BK234.out 0;have hfz9_1:=blk_frozen BK234.out 1)|((with_reducible refine gate_callee (f:=45) rfl ?_);refine goesL_ (some 6) rfl rfl Try.func45 (by kernel_rfl) rfl #[.agg #[.int .i64 a0_0, .int .i64 a0_1]] rfl (by (try simp only[List.map_toArray,List.map_cons,List.map_nil]);first|done|rfl|(simp only[List.length_drop,List.length_take];rfl)) ?_;(with_reducible refine (impl_IsCompany.calls a0_0 a0_1 true _ A3.out).mono ?_);rintro e w10 ⟨rfl,hb⟩;refine ⟨_,rfl,?_⟩;have n0_:=am' (blk_below (g:=gb234) (o := .cells #[.int .i64 a0_0, .int .i64 a0_1] 40 (0,0)) (by (with_reducible repeat (first|refine kn' ?_ _|refine kd' ?_|refine ka' ?_ _));exact BK234.out) hb);have n1_:=am' (blk_below (g:=gb235) (o := .cells #[.slice A1_0 l1_0.length c1_0, .bool a1_1] 51 (0,0)) (by (with_reducible repeat (first|refine kn' ?_ _|refine kd' ?_|refine ka' ?_ _));exact BK235.out) hb);have n2_:=am' (below_step (by repeat (first|(with_reducible first|exact HB.out|apply ba'|apply bd'|apply be'|refine bs' ?_ GE234.out|refine bs' ?_ GE235.out)|exact HB.out)) hb);clear BK234;clear BK235;clear HB;have BK234:=n0_;have BK235:=n1_;have HB:=n2_;clear n0_ n1_ n2_;(try clear hb);(try clear hb2);(try clear hk);(try clear hi);have hcz11_0:w10.cell? ⟨gb234,0,none⟩=some (.int .i64 a0_0):=(blk_cell BK234.out 0).trans rfl;have hcz11_1:w10.cell? ⟨gb234,1,none⟩=some (.int .i64 a0_1):=(blk_cell BK234.out 1).trans rfl;have hfz11_0:=blk_frozen BK234.out 0;have hfz11_1:=blk_frozen BK234.out 1;have hcz12_0:w10.cell? ⟨gb235,0,none⟩=some (.slice A1_0 l1_0.length c1_0):=(blk_cell BK235.out 0).trans rfl;have hcz12_1:w10.cell? ⟨gb235,1,none⟩=some (.bool a1_1):=(blk_cell BK235.out 1).trans rfl;have hfz12_0:=blk_frozen BK235.out 0;have hfz12_1:=blk_frozen BK235.out 1)|(go_at_call 119;(with_reducible refine (impl_isStateOf.calls k (wrap64 (2 * a0_0)) _ _ l1_0 a1_1 t237 _ ?side1 ?side2 A5.out).mono ?_);(case side1=>repeat (first|exact (Kd.C_below HR1_0.out HB.out)|(with_reducible refine ca' ?_ _)|(with_reducible refine cn' ?_ _)|(with_reducible refine cd' ?_)));(case side2=>exact HC1_0.out);rintro e w13 ⟨rfl,hb⟩;have n0_:=am' (blk_below (g:=gb234) (o := .cells #[.int .i64 a0_0, .int .i64 a0_1] 40 (0,0)) (by (with_reducible repeat (first|refine kn' ?_ _|refine kd' ?_|refine ka' ?_ _));exact BK234.out) hb);have n1_:=am' (blk_below (g:=gb235) (o := .cells #[.slice A1_0 l1_0.length c1_0, .bool a1_1] 51 (0,0)) (by (with_reducible repeat (first|refine kn' ?_ _|refine kd' ?_|refine ka' ?_ _));exact BK235.out) hb);have n2_:=am' (below_step (by repeat (first|(with_reducible first|exact HB.out|apply ba'|apply bd'|apply be'|refine bs' ?_ GE234.out|refine bs' ?_ GE235.out)|exact HB.out)) hb);clear BK234;clear BK235;clear HB;have BK234:=n0_;have BK235:=n1_;have HB:=n2_;clear n0_ n1_ n2_;(try clear hb);(try clear hb2);(try clear hk);(try clear hi)))
  go_ret
  exact ⟨by first|rfl|(simp[errW_none,errW_some] <;> rfl)|(simp[*,errW_none,errW_some] <;> rfl),by repeat (first|(with_reducible first|exact HB.out|apply ba'|apply bd'|apply be'|refine bs' ?_ GE234.out|refine bs' ?_ GE235.out)|exact HB.out)⟩
 ·
  replace c4:=Bool.eq_false_iff.mpr c4;subst c4;have H1:(some false)=some r:=by rw[if_neg (show ¬ (false=true) by decide)] at H;exact H
  clear H;have H:=H1;clear H1;obtain rfl:=Option.some.inj H;go_enter Try.func89,Try.ntmps89;go_wp2_with (first|((with_reducible refine gate_dst (N:=2) rfl ?_);refine box_event ?hg (N:=2) ?hd (cs:=#[.int .i64 a0_0, .int .i64 a0_1]) (t:=40) ?hr ?_;(case hd=>rfl);(case hg=>rfl);(case hr=>first|(go_simp;done)|(go_simp;rfl));intro gb234 hg w14 hbox hb;have n0_:=am' (below_step (by repeat (first|(with_reducible first|exact HB.out|apply ba'|apply bd'|apply be')|exact HB.out)) hb);have n1_:=am' (hbox);have n2_:=am' ((by rw[hg];exact (below_size (by repeat (first|(with_reducible first|exact HB.out|apply ba'|apply bd'|apply be')|exact HB.out))):w.heap.size≤gb234));have n3_:=am' ((by rw[hg];exact (below_size (by repeat (first|(with_reducible first|exact HB.out|apply ba'|apply bd'|apply be')|exact HB.out))):w.heap.size≤gb234));clear HB;have HB:=n0_;have BK234:=n1_;have GW234:=n2_;have GE234:=n3_;clear n0_ n1_ n2_ n3_;clear hb hbox hg)|((with_reducible refine gate_dst (N:=3) rfl ?_);refine box_event ?hg (N:=3) ?hd (cs:=#[.slice A1_0 l1_0.length c1_0, .bool a1_1]) (t:=51) ?hr ?_;(case hd=>rfl);(case hg=>rfl);(case hr=>first|(go_simp;done)|(go_simp;rfl));intro gb235 hg w15 hbox hb;have n0_:=am' (blk_below (g:=gb234) (o := .cells #[.int .i64 a0_0, .int .i64 a0_1] 40 (0,0)) (by (with_reducible repeat (first|refine kn' ?_ _|refine kd' ?_|refine ka' ?_ _));exact BK234.out) hb);have n1_:=am' (below_step (by repeat (first|(with_reducible first|exact HB.out|apply ba'|apply bd'|apply be'|refine bs' ?_ GE234.out)|exact HB.out)) hb);have n2_:=am' (hbox);have n3_:=am' ((by rw[hg];exact (below_size (by repeat (first|(with_reducible first|exact HB.out|apply ba'|apply bd'|apply be'|refine bs' ?_ GE234.out)|exact HB.out))):w.heap.size≤gb235));have n4_:=am' ((by rw[hg];exact (below_size (by repeat (first|(with_reducible first|exact HB.out|apply ba'|apply bd'|apply be'|refine bs' ?_ GE234.out)|exact HB.out))):w.heap.size≤gb235));have n5_:=am' ((by rw[hg];exact Nat.ne_of_lt (blk_lt (g:=gb234) (o := .cells #[.int .i64 a0_0, .int .i64 a0_1] 40 (0,0)) (by (with_reducible repeat (first|refine kn' ?_ _|refine kd' ?_|refine ka' ?_ _));exact BK234.out)):gb234≠gb235));have n6_:=am' ((by rw[hg];exact Nat.ne_of_gt (blk_lt (g:=gb234) (o := .cells #[.int .i64 a0_0, .int .i64 a0_1] 40 (0,0)) (by (with_reducible repeat (first|refine kn' ?_ _|refine kd' ?_|refine ka' ?_ _));exact BK234.out)):gb235≠gb234));clear BK234;clear HB;have BK234:=n0_;have HB:=n1_;have BK235:=n2_;have GW235:=n3_;have GE235:=n4_;have NB234_235:=n5_;have NB235_234:=n6_;clear n0_ n1_ n2_ n3_ n4_ n5_ n6_;clear hb hbox hg;have hnb16:=NB234_235.out;have hnc16:=NB235_234.out;have hcz17_0:w15.cell? ⟨gb234,0,none⟩=some (.int .i64 a0_0):=(blk_cell BK234.out 0).trans rfl;have hcz17_1:w15.cell? ⟨gb234,1,none⟩=some (.int .i64 a0_1):=(blk_cell BK234.out 1).trans rfl;have hfz17_0:=blk_frozen BK234.out 0;have hfz17_1:=blk_frozen BK234.out 1)|((with_reducible refine gate_callee (f:=45) rfl ?_);refine goesL_ (some 6) rfl rfl Try.func45 (by kernel_rfl) rfl #[.agg #[.int .i64 a0_0, .int .i64 a0_1]] rfl (by (try simp only[List.map_toArray,List.map_cons,List.map_nil]);first|done|rfl|(simp only[List.length_drop,List.length_take];rfl)) ?_;(with_reducible refine (impl_IsCompany.calls a0_0 a0_1 false _ A3.out).mono ?_);rintro e w18 ⟨rfl,hb⟩;refine ⟨_,rfl,?_⟩;have n0_:=am' (blk_below (g:=gb234) (o := .cells #[.int .i64 a0_0, .int .i64 a0_1] 40 (0,0)) (by (with_reducible repeat (first|refine kn' ?_ _|refine kd' ?_|refine ka' ?_ _));exact BK234.out) hb);have n1_:=am' (blk_below (g:=gb235) (o := .cells #[.slice A1_0 l1_0.length c1_0, .bool a1_1] 51 (0,0)) (by (with_reducible repeat (first|refine kn' ?_ _|refine kd' ?_|refine ka' ?_ _));exact BK235.out) hb);have n2_:=am' (below_step (by repeat (first|(with_reducible first|exact HB.out|apply ba'|apply bd'|apply be'|refine bs' ?_ GE234.out|refine bs' ?_ GE235.out)|exact HB.out)) hb);clear BK234;clear BK235;clear HB;have BK234:=n0_;have BK235:=n1_;have HB:=n2_;clear n0_ n1_ n2_;(try clear hb);(try clear hb2);(try clear hk);(try clear hi)))
  go_ret
  exact ⟨by first|rfl|(simp[errW_none,errW_some] <;> rfl)|(simp[*,errW_none,errW_some] <;> rfl),by repeat (first|(with_reducible first|exact HB.out|apply ba'|apply bd'|apply be'|refine bs' ?_ GE234.out|refine bs' ?_ GE235.out)|exact HB.out)⟩
def PredOn (g:Nat) (lb:Array Value) (p:Int→Bool) (xs:List Int) (w:World):Prop :=
 ∀ x,x ∈ xs→∀ W:World,Below w.heap.size w W→Calls Try.prog g (#[.int .i64 x] ++ lb) W fun e w'=>e = .returned (.bool (p x))∧Below W.heap.size W w'
set_option maxHeartbeats 2000000 in
set_option maxRecDepth 100000 in
theorem IndexFunc_any (g:Nat) (lb:Array Value) (p:Int→Bool) (eg:∀ args w,(callFunc g args).run Try.prog w = .ok (.enter g args) w) (A0:Option Addr) (c0:Nat) (xs:List Int) (w:World) (hr:Kd.C (Kd.int .i64) w A0 xs.length xs) (hl:xs.length≤c0) (hbig:xs.length≤9223372036854775807)
  (hp:PredOn g lb p xs w) :
  Calls Try.prog 138 #[.slice A0 xs.length c0, .func (.func g) #[] lb] w fun e w'=>e = .returned (.int .i64 (idxF p xs))∧Below w.heap.size w w':=by
 have HP:=am' hp
 have HR:=am' hr
 clear hp hr;go_enter Try.func138,Try.ntmps138
 go_wp2
 go_loopg [5,8] xs.length (fun gg _ s8 wr=>∃ kk:Nat,kk≤xs.length∧xs.length - kk≤gg∧s8 = .int .i64 kk∧Aside0 (Below w.heap.size w wr)∧Aside0 (∀ j,j < kk→p (rd xs (j:Nat))=false))
 case atStart=>exact ⟨0,Nat.zero_le _,by omega,rfl,⟨Below.refl _ w⟩,⟨fun j hj=>absurd hj (Nat.not_lt_zero _)⟩⟩
 case round =>
  obtain ⟨kk,hkk,hg,rfl,BW,AA⟩:=hrel;by_cases hlt:kk < xs.length
  ·
   have hltz:(kk:Int) < (xs.length:Int):=by omega
   obtain ⟨ad,e0,hx0⟩:=Kd.at_int HR.out (kk:Int) (by omega) hltz;cases e0;have hx:=(BW.out.cell (bl' w _ hx0)).trans hx0;clear hx0;rw[Int.toNat_natCast] at hx;have hcall:=HP.out (rd xs kk) (rd_mem xs kk hlt) wr BW.out;generalize hy:rd xs kk=y at hx hcall
   have B:Aside0 (rd xs kk=y):=⟨hy⟩
   clear hy;cases hq:p y with
   | true =>
    rw[hq] at hcall;go_wp2_with fail;refine hcall.mono ?_
    rintro e w' ⟨rfl,hb'⟩
    clear hcall hx;go_wp2;go_ret
    refine ⟨?_,below_step BW.out hb'⟩;rw[idxF_hit p xs kk hlt (by rw[B.out];exact hq) AA.out];rfl
   | false =>
    rw[hq] at hcall;go_wp2_with fail;refine hcall.mono ?_
    rintro e w' ⟨rfl,hb'⟩
    clear hcall hx;go_wp2;go_roundg (xs.length - (kk+1))
    case measure=>omega
    case rel =>
     refine ⟨kk+1,by omega,by omega,by go_num,⟨below_step BW.out hb'⟩,⟨fun j hj=>?_⟩⟩;by_cases e:j=kk
     ·
      subst e;rw[B.out];exact hq
     ·
      exact AA.out j (by omega)
  ·
   have hltz:¬ (kk:Int) < (xs.length:Int):=by omega
   have:kk=xs.length:=by omega
   subst this;go_wp2;go_ret
   refine ⟨?_,BW.out⟩;rw[idxF_miss p xs AA.out];rfl
set_option maxHeartbeats 2000000 in
set_option maxRecDepth 100000 in
theorem ContainsFunc_any (g:Nat) (lb:Array Value) (p:Int→Bool) (eg:∀ args w,(callFunc g args).run Try.prog w = .ok (.enter g args) w) (A0:Option Addr) (c0:Nat) (xs:List Int) (w:World) (hr:Kd.C (Kd.int .i64) w A0 xs.length xs) (hl:xs.length≤c0) (hbig:xs.length≤9223372036854775807)
  (hp:PredOn g lb p xs w) :
  Calls Try.prog 125 #[.slice A0 xs.length c0, .func (.func g) #[] lb] w fun e w'=>e = .returned (.bool (xs.any p))∧Below w.heap.size w w':=by
 have HH:=am' (IndexFunc_any g lb p eg A0 c0 xs w hr hl hbig hp)
 clear hr hl hp;go_enter Try.func125,Try.ntmps125
 go_wp2_with (go_at_call 138;refine HH.out.mono ?_;rintro e w' ⟨rfl,hb⟩)
 go_ret
 refine ⟨?_,hb⟩
 rw[← idxF_any]
 rfl
def slices_Index_int_int.f (l0:List Int) (a1:Int):Option Int:=some (idxF (fun x=>a1 == x) l0)
set_option maxHeartbeats 2000000 in
set_option maxRecDepth 100000 in
theorem slices_Index_int_int.calls (A0:Option Addr) (c0:Nat) (l0:List Int) (a1:Int) (r:Int) (w:World) (hr0:Kd.C (Kd.int .i64) w A0 l0.length l0) (hc0:l0.length≤c0) (h:slices_Index_int_int.f l0 a1=some r) :
  Calls Try.prog 139 #[.slice A0 l0.length c0, .int .i64 a1] w fun e w'=>e = .returned (.int .i64 r)∧Below w.heap.size w w':=by
 obtain rfl:idxF (fun x=>a1 == x) l0=r:=Option.some.inj h
 have hbig:=hr0.2.1
 have HR:=am' hr0
 clear hr0 h hc0;go_enter Try.func139,Try.ntmps139
 go_wp2
 go_loopg [5,8] l0.length (fun gg _ s8 wr=>∃ kk:Nat,kk≤l0.length∧l0.length - kk≤gg∧s8 = .int .i64 kk∧Aside0 (Below w.heap.size w wr)∧Aside0 (∀ j,j < kk→(a1 == rd l0 (j:Nat))=false))
 case atStart=>exact ⟨0,Nat.zero_le _,by omega,rfl,⟨Below.refl _ w⟩,⟨fun j hj=>absurd hj (Nat.not_lt_zero _)⟩⟩
 case round =>
  obtain ⟨kk,hkk,hg,rfl,BW,AA⟩:=hrel;by_cases hlt:kk < l0.length
  ·
   have hltz:(kk:Int) < (l0.length:Int):=by omega
   obtain ⟨ad,e0,hx0⟩:=Kd.at_int HR.out (kk:Int) (by omega) hltz;cases e0;have hx:=(BW.out.cell (bl' w _ hx0)).trans hx0;clear hx0;rw[Int.toNat_natCast] at hx;generalize hy:rd l0 kk=y at hx
   have B:Aside0 (rd l0 kk=y):=⟨hy⟩
   clear hy;cases hq:(a1 == y) with
   | true =>
    go_wp2;go_ret
    refine ⟨?_,BW.out⟩;rw[idxF_hit _ l0 kk hlt (by rw[B.out];exact hq) AA.out];rfl
   | false =>
    go_wp2;go_roundg (l0.length - (kk+1))
    case measure=>omega
    case rel =>
     refine ⟨kk+1,by omega,by omega,by go_num,BW,⟨fun j hj=>?_⟩⟩;by_cases e:j=kk
     ·
      subst e;rw[B.out];exact hq
     ·
      exact AA.out j (by omega)
  ·
   have hltz:¬ (kk:Int) < (l0.length:Int):=by omega
   have:kk=l0.length:=by omega
   subst this;go_wp2;go_ret
   refine ⟨?_,BW.out⟩;rw[idxF_miss _ l0 AA.out];rfl
def slices_Contains_int_int.f (l0:List Int) (a1:Int):Option Bool:=some (l0.any fun x=>a1 == x)
set_option maxHeartbeats 2000000 in
set_option maxRecDepth 100000 in
theorem slices_Contains_int_int.calls (A0:Option Addr) (c0:Nat) (l0:List Int) (a1:Int) (r:Bool) (w:World) (hr0:Kd.C (Kd.int .i64) w A0 l0.length l0) (hc0:l0.length≤c0) (h:slices_Contains_int_int.f l0 a1=some r) :
  Calls Try.prog 127 #[.slice A0 l0.length c0, .int .i64 a1] w fun e w'=>e = .returned (.bool r)∧Below w.heap.size w w':=by
 obtain rfl:(l0.any fun x=>a1 == x)=r:=Option.some.inj h
 have HH:=am' (slices_Index_int_int.calls A0 c0 l0 a1 _ w hr0 hc0 rfl)
 clear hr0 h;go_enter Try.func127,Try.ntmps127
 go_wp2_with (go_at_call 139;refine HH.out.mono ?_;rintro e w' ⟨rfl,hb⟩)
 go_ret
 refine ⟨?_,hb⟩
 rw[← idxF_any]
 rfl
def evB (y:Int):Bool:=Int.tmod y 2 == 0
def calmL (k:Nat) (g:List Int):List Int→Option Bool
 | []=>some true
 | x :: r=>if evB x=true then calmL k g r else (slices_Contains_int_int.f g (wrap64 (x - 1))).bind fun t=>if t=true then calmL k g r else if g.any evB=true then some false else calmL k g r
theorem calmL_up (k:Nat) (g:List Int):∀ l,LeO (calmL k g l) (calmL (k+1) g l):=by
 intro l;induction l with
 | nil=>exact LeO.refl _
 | cons x r ih =>
  simp only[calmL];exact LeO.ite ih (LeO.bind (LeO.refl _) (fun _=>LeO.ite ih (LeO.ite (LeO.refl _) ih)))
def impl_calm.f (k:Nat) (l0:List Int):Option Bool:=calmL k l0 l0
theorem impl_calm.mono:∀ a0 k,LeO (impl_calm.f k a0) (impl_calm.f (k+1) a0):=fun a0 k=>calmL_up k a0 a0
theorem drop_rd (l:List Int) (i:Nat) (h:i < l.length):l.drop i=rd l (i:Nat) :: l.drop (i+1):=by
 rw[List.drop_eq_getElem_cons h]
 simp[rd,List.getD_eq_getElem?_getD,List.getElem?_eq_getElem h]
set_option maxHeartbeats 2000000 in
set_option maxRecDepth 100000 in
theorem calm1_calls (x:Int) (w:World):Calls Try.prog 128 #[.int .i64 x] w fun e w'=>e = .returned (.bool (evB x))∧Below w.heap.size w w':=by
 go_enter Try.func128,Try.ntmps128
 go_wp2
 go_ret
 exact ⟨rfl,Below.refl _ _⟩
set_option maxHeartbeats 2000000 in
set_option maxRecDepth 100000 in
theorem impl_calm.calls (k:Nat) (A0:Option Addr) (c0:Nat) (l0:List Int) (r:Bool) (w:World) (hr0:Kd.C (Kd.int .i64) w A0 l0.length l0) (hc0:l0.length≤c0) (h:impl_calm.f k l0=some r) :
  Calls Try.prog 98 #[.slice A0 l0.length c0] w fun e w'=>e = .returned (.bool r)∧Below w.heap.size w w':=by
 have HR:=am' hr0
 have HC:=am' hc0
 have HH:=am' (show calmL k l0 (l0.drop 0)=some r from h)
 have HCO:=am' (fun (W:World) (hb:Below w.heap.size w W) (x:Int) (t:Bool) (ht:slices_Contains_int_int.f l0 x=some t)=>slices_Contains_int_int.calls A0 c0 l0 x t W (Kd.C_below hr0 hb) hc0 ht)
 have HCF:=am' (fun (W:World) (hb:Below w.heap.size w W)=>ContainsFunc_any 128 #[] evB (enters_of Try.func128 (by kernel_rfl) rfl) A0 c0 l0 W (Kd.C_below hr0 hb) hc0 hr0.2.1 (fun x _ W1 _=>calm1_calls x W1))
 clear hr0 hc0 h;go_enter Try.func98,Try.ntmps98
 go_wp2
 go_loopg [4,7] l0.length (fun gg _ v7 wr=>∃ i:Nat,v7 = .int .i64 (i:Int)∧i≤l0.length∧l0.length - i≤gg∧Aside0 (calmL k l0 (l0.drop i)=some r)∧Aside0 (Below w.heap.size w wr))
 case atStart=>exact ⟨0,rfl,Nat.zero_le _,Nat.le_refl _,HH,⟨Below.refl _ _⟩⟩
 case round =>
  obtain ⟨i,rfl,hi1,hg1,HI,HW⟩:=hrel;clear HH;have hbig:=HR.out.2.1;have HBIG:=am' hbig;by_cases hi:i < l0.length
  ·
   have hiz:(i:Int) < (l0.length:Int):=by omega
   obtain ⟨ad,e0,hx0⟩:=Kd.at_int HR.out (i:Int) (by omega) hiz;cases e0;have hx:=(HW.out.cell (bl' w _ hx0)).trans hx0;rw[Int.toNat_natCast] at hx;clear hx0;have hq:=HI.out;rw[drop_rd l0 i hi] at hq;simp only[calmL] at hq;generalize rd l0 (i:Nat)=xv at hx hq
   have hev:(Int.tmod xv 2 == 0)=evB xv:=rfl;cases hb:evB xv with
   | true =>
    rw[hb] at hev;simp only[hb,if_true] at hq;have HQ:=am' hq;clear hq HI hb;go_wp2;go_roundg (l0.length - (i+1))
    case measure=>omega
    case rel=>exact ⟨i+1,by have hb_:=HBIG.out;first|rfl|exact nxt (by omega)|exact nxt2 (by omega),by omega,Nat.le_refl _,HQ,HW⟩
   | false =>
    rw[hb] at hev;simp only[hb,Bool.false_eq_true,if_false] at hq;obtain ⟨t,ht,hq⟩:=Option.bind_eq_some_iff.mp hq;have HT:=am' ht;cases t with
    | true =>
     simp only[if_true] at hq;have HQ:=am' hq;clear hq HI hb ht;go_wp2_with fail;refine (HCO.out _ HW.out _ _ HT.out).mono ?_
     rintro e w2 ⟨rfl,hb2⟩
     have HW2:=am' (below_step HW.out (by first|exact hb2|exact Drawn0.below hb2));clear hb2;go_wp2;go_roundg (l0.length - (i+1))
     case measure=>omega
     case rel=>exact ⟨i+1,by have hb_:=HBIG.out;first|rfl|exact nxt (by omega)|exact nxt2 (by omega),by omega,Nat.le_refl _,HQ,HW2⟩
    | false =>
     simp only[Bool.false_eq_true,if_false] at hq;clear HI hb ht;cases hany:l0.any evB with
     | true =>
      rw[hany,if_pos rfl] at hq;obtain rfl:=Option.some.inj hq;have HCF2:=am' (show ∀ (W:World),Below w.heap.size w W→Calls Try.prog _ _ W _ from HCF.out);rw[hany] at HCF2;clear hq;go_wp2_with fail;refine (HCO.out _ HW.out _ _ HT.out).mono ?_
      rintro e w2 ⟨rfl,hb2⟩
      have HW2:=am' (below_step HW.out (by first|exact hb2|exact Drawn0.below hb2));clear hb2;go_wp2_with fail;refine (HCF2.out _ HW2.out).mono ?_
      rintro e w3 ⟨rfl,hb3⟩
      have HW3:=am' (below_step HW2.out hb3);clear hb3;go_wp2;go_ret
      exact ⟨rfl,HW3.out⟩
     | false =>
      rw[hany,if_neg (by decide)] at hq;have HQ:=am' hq;have HCF2:=am' (show ∀ (W:World),Below w.heap.size w W→Calls Try.prog _ _ W _ from HCF.out);rw[hany] at HCF2;clear hq;go_wp2_with fail;refine (HCO.out _ HW.out _ _ HT.out).mono ?_
      rintro e w2 ⟨rfl,hb2⟩
      have HW2:=am' (below_step HW.out (by first|exact hb2|exact Drawn0.below hb2));clear hb2;go_wp2_with fail;refine (HCF2.out _ HW2.out).mono ?_
      rintro e w3 ⟨rfl,hb3⟩
      have HW3:=am' (below_step HW2.out hb3);clear hb3;go_wp2;go_roundg (l0.length - (i+1))
      case measure=>omega
      case rel=>exact ⟨i+1,by have hb_:=HBIG.out;first|rfl|exact nxt (by omega)|exact nxt2 (by omega),by omega,Nat.le_refl _,HQ,HW3⟩
  ·
   have hiz:¬ (i:Int) < (l0.length:Int):=by omega
   have hq:=HI.out;rw[List.drop_eq_nil_of_le (by omega),calmL] at hq;obtain rfl:=Option.some.inj hq;clear hq HI;go_wp2;go_ret
   exact ⟨rfl,HW.out⟩
def impl_State_side.l0:Nat→Bool→List Int→List Bool→Int→Int→Option (List Int)
 | 0,_,_,_,_,_=>none
 | k+1,x1,x5,x10,x11,x12=>if x12 < x11 then (if 0≤x12 then (if x12 < (x10.length:Int) then (if ((rdOf false x10 x12) == x1)=true then (if x5.length < 17592186044416 then (impl_State_side.l0 k x1 (x5 ++ [x12]) x10 x11 (wrap64 (x12+1))) else (none)) else (impl_State_side.l0 k x1 x5 x10 x11 (wrap64 (x12+1)))) else (none)) else (none)) else (some x5)
def impl_State_side.f (k:Nat) (l0_0:List Bool) (a0_1:Bool) (a1:Bool):Option (List Int):=impl_State_side.l0 k a1 (([]:List Int)) l0_0 (l0_0.length:Int) 0
theorem impl_State_side.mono_l:∀ k,(∀ y0 y1 y2 y3 y4,LeO (impl_State_side.l0 k y0 y1 y2 y3 y4) (impl_State_side.l0 (k+1) y0 y1 y2 y3 y4))
 | 0=>fun _ _ _ _ _ r h=>by simp[impl_State_side.l0] at h
 | k+1=>by
  have ih0:=impl_State_side.mono_l k
  ·
   intro y0 y1 y2 y3 y4;unfold impl_State_side.l0
   repeat' first
   | (with_reducible exact ih0 _ _ _ _ _)
   | (with_reducible exact LeO.refl _)
   | (with_reducible exact LeO.none _)
   | (with_reducible refine LeO.ite ?_ ?_)
   | (with_reducible refine LeO.bind ?_ (fun _=>?_))
   | exact ih0 _ _ _ _ _
   | exact LeO.none _
   | refine LeO.ite ?_ ?_
   | refine LeO.bind ?_ (fun _=>?_)
theorem impl_State_side.mono:∀ a0 a1 a2 k,LeO (impl_State_side.f k a0 a1 a2) (impl_State_side.f (k+1) a0 a1 a2):=by
 intro a0 a1 a2 k;have ih0:=impl_State_side.mono_l k
 unfold impl_State_side.f
 repeat' first
   | (with_reducible exact ih0 _ _ _ _ _)
   | (with_reducible exact LeO.refl _)
   | (with_reducible exact LeO.none _)
   | (with_reducible refine LeO.ite ?_ ?_)
   | (with_reducible refine LeO.bind ?_ (fun _=>?_))
   | exact ih0 _ _ _ _ _
   | exact LeO.none _
   | refine LeO.ite ?_ ?_
   | refine LeO.bind ?_ (fun _=>?_)
set_option maxHeartbeats 8000000 in
set_option maxRecDepth 100000 in
theorem impl_State_side.calls (k:Nat) (A0_0:Option Addr) (c0_0:Nat) (l0_0:List Bool) (a0_1:Bool) (a1:Bool) (r:List Int) (w:World) (hr0_0:Kd.C Kd.bool w A0_0 l0_0.length l0_0) (hc0_0:l0_0.length≤c0_0) (h:impl_State_side.f k l0_0 a0_1 a1=some r) :
  Calls Try.prog 120 #[.agg #[.slice A0_0 l0_0.length c0_0, .bool a0_1], .bool a1] w fun e w'=>∃ v0_:Value,e = .returned (v0_)∧Kd.R (Kd.int .i64) 3 w' w.heap.size (fun _=>True) v0_ r∧Below w.heap.size w w':=by
 have hu51:=Try.underlying51
 have HR0_0:=am' hr0_0
 have HC0_0:=am' hc0_0
 clear hr0_0 hc0_0;have HB:=am' (Below.refl w.heap.size w)
 have H:(impl_State_side.l0 k a1 (([]:List Int)) l0_0 (l0_0.length:Int) 0)=some r:=h
 clear h;obtain ⟨y239,hy239⟩:∃ y_:List Int,y_=(([]:List Int)):=⟨_,rfl⟩
 replace H:(impl_State_side.l0 k a1 y239 l0_0 (l0_0.length:Int) 0)=some r:=by first|(rw[hy239];with_reducible exact H)|(have H2_:=(Option.bind_some _ _).symm.trans H;rw[hy239];with_reducible exact H2_)|(have H2_:=(Option.bind_some _ _).symm.trans H;with_reducible exact H2_)|with_reducible exact H|(rw[hy239];exact H)|exact H
 have Ny239:=am' hy239
 clear hy239;have H':=am' H
 clear H;go_enter Try.func120,Try.ntmps120
 go_wp2_with (first|((with_reducible refine gate_dst (N:=2) rfl ?_);refine box_event ?hg (N:=2) ?hd (cs:=#[.slice A0_0 l0_0.length c0_0, .bool a0_1]) (t:=51) ?hr ?_;(case hd=>rfl);(case hg=>rfl);(case hr=>first|(go_simp;done)|(go_simp;rfl));intro gb238 hg w3 hbox hb;have n0_:=am' (below_step (by repeat (first|(with_reducible first|exact HB.out|apply ba'|apply bd'|apply be')|exact HB.out)) hb);have n1_:=am' (hbox);have n2_:=am' ((by rw[hg];exact (below_size (by repeat (first|(with_reducible first|exact HB.out|apply ba'|apply bd'|apply be')|exact HB.out))):w.heap.size≤gb238));have n3_:=am' ((by rw[hg];exact (below_size (by repeat (first|(with_reducible first|exact HB.out|apply ba'|apply bd'|apply be')|exact HB.out))):w.heap.size≤gb238));clear HB;have HB:=n0_;have BK238:=n1_;have GW238:=n2_;have GE238:=n3_;clear n0_ n1_ n2_ n3_;clear hb hbox hg)|((with_reducible refine gate_dst (N:=8) rfl ?_);refine Kd.R_lit (Kd.int .i64) _ 3 ?hg (N:=8) ?hd (xs:=([]:List Int)) (inner:=[]) (ok:=fun _=>True) (okp:=fun _=>True) ?hr ?hp (fun _ hk=>hk) trivial (Below.refl _ _) (Nat.le_refl _) (by simp) ?_;(case hd=>rfl);(case hg=>rfl);(case hr=>first|(go_simp;done)|(go_simp;rfl));(case hp=>exact (Reps.none _ _));intro v240 w4 ho5 hb hg_ hnew_;clear hg_ hnew_;(first|rw[← Ny239.out] at ho5|(simp only[Int.reduceToNat] at ho5;rw[← Ny239.out] at ho5));have n0_:=am' (Kd.R_lower ho5 (below_size (by repeat (first|(with_reducible first|exact HB.out|apply ba'|apply bd'|apply be'|refine bs' ?_ GE238.out)|exact HB.out))));have n1_:=am' (blk_below (g:=gb238) (o := .cells #[.slice A0_0 l0_0.length c0_0, .bool a0_1] 51 (0,0)) (by (with_reducible repeat (first|refine kn' ?_ _|refine kd' ?_|refine ka' ?_ _));exact BK238.out) hb);have n2_:=am' (below_step (by repeat (first|(with_reducible first|exact HB.out|apply ba'|apply bd'|apply be'|refine bs' ?_ GE238.out)|exact HB.out)) hb);clear BK238;clear HB;have HO241:=n0_;have BK238:=n1_;have HB:=n2_;clear n0_ n1_ n2_;clear hb ho5;have hcz6_0:w4.cell? ⟨gb238,0,none⟩=some (.slice A0_0 l0_0.length c0_0):=(blk_cell BK238.out 0).trans rfl;have hcz6_1:w4.cell? ⟨gb238,1,none⟩=some (.bool a0_1):=(blk_cell BK238.out 1).trans rfl;have hfz6_0:=blk_frozen BK238.out 0;have hfz6_1:=blk_frozen BK238.out 1))
 go_loopg [5,12] k (fun kq v5 v12 w'=>∃ (x5_1:List Int) (x12_1:Int),v12 = .int .i64 x12_1∧Aside0 (impl_State_side.l0 kq a1 x5_1 l0_0 (l0_0.length:Int) x12_1=some r)∧Aside0 (kq≤k)∧Aside0 (Kd.R (Kd.int .i64) 3 w' w.heap.size (fun _=>True) v5 x5_1)∧Aside0 (w'.heap[gb238]? = some (.cells #[(.slice A0_0 l0_0.length c0_0), .bool a0_1] 51 (0,0)))∧Aside0 (Below w.heap.size w w'))
 case atStart=>exact ⟨(y239),(0),(by first|rfl|(simp;done)|(simp[*];done)),H',⟨Nat.le_refl _⟩,⟨by (with_reducible repeat (first|apply ra'|apply rn'|apply rw'));exact HO241.out⟩,⟨by (with_reducible repeat (first|refine kn' ?_ _|refine kd' ?_|refine ka' ?_ _));exact BK238.out⟩,⟨by repeat (first|(with_reducible first|exact HB.out|apply ba'|apply bd'|apply be'|refine bs' ?_ GE238.out)|exact HB.out)⟩⟩
 case round =>
  clear H';try clear c1
  try clear p2
  try clear hcz6_0
  try clear hcz6_1
  try clear hfz6_0
  try clear hfz6_1
  obtain ⟨x5_1,x12_1,rfl,HA,HK1,HO_5,BK238,HB⟩:=hrel;cases gk with
  | zero=>exact absurd HA.out (by simp[impl_State_side.l0])
  | succ k1 =>
   have H:=HA.out;clear HA;simp only[impl_State_side.l0] at H;by_cases c7:x12_1 < (l0_0.length:Int)
   ·
    rw[if_pos c7] at H;have c7b0:decide (x12_1 < (l0_0.length:Int))=true:=decide_eq_true c7;clear c7;by_cases c8:0≤x12_1
    ·
     rw[if_pos c8] at H;have c8b0:decide (0≤x12_1)=true:=decide_eq_true c8;clear c8;by_cases c9:x12_1 < (l0_0.length:Int)
     ·
      rw[if_pos c9] at H;have c9b0:decide (x12_1 < (l0_0.length:Int))=true:=decide_eq_true c9;clear c9;by_cases c10:((rdOf false l0_0 x12_1) == a1)=true
      ·
       rw[if_pos c10] at H;have c10b0:((rdOf false l0_0 x12_1) == a1)=true:=c10
       (try (have c10b1:decide ((rdOf false l0_0 x12_1)=a1)=true:=by simpa using c10))
       (try (have c10b2:((rdOf false l0_0 x12_1) == a1)=true:=by simpa using c10))
       clear c10;by_cases c11:x5_1.length < 17592186044416
       ·
        rw[if_pos c11] at H;have LMc11:=am' c11;clear c11;obtain ⟨y243,hy243⟩:∃ y_:List Int,y_=(x5_1 ++ [x12_1]):=⟨_,rfl⟩
        replace H:(impl_State_side.l0 k1 a1 y243 l0_0 (l0_0.length:Int) (wrap64 (x12_1+1)))=some r:=by first|(rw[hy243];with_reducible exact H)|(have H2_:=(Option.bind_some _ _).symm.trans H;rw[hy243];with_reducible exact H2_)|(have H2_:=(Option.bind_some _ _).symm.trans H;with_reducible exact H2_)|with_reducible exact H|(rw[hy243];exact H)|exact H
        have Ny243:=am' hy243;clear hy243;have H':=am' H;clear H;have p242:0≤(x12_1:Int):=of_decide_eq_true (by first|(with_reducible assumption)|assumption);have q242:x12_1 < (l0_0.length:Int):=of_decide_eq_true (by first|(with_reducible assumption)|assumption);obtain ⟨ad242,e242,hx242_0⟩:=Kd.at_bool HR0_0.out x12_1 p242 q242;cases e242;replace hx242_0:=(HB.out.cell (bl' w _ hx242_0)).trans hx242_0;replace p242:=eq_true p242;replace q242:=eq_true q242;go_wp2_with (first|((with_reducible refine gate_builtin (b := .append) (xs:=#[.tmp 20, .tmp 22]) rfl ?_);at_builtin;refine Kd.R_append (Kd.int .i64) (w0:=w) w.heap.size rfl (.tmp 20) (.tmp 22) 32 3 (.int .i64 0) 8 rfl Try.underlying32 info3 rfl (by decide) (by omega) u5 x5_1 x12_1 [.int .i64 x12_1] (fun _=>True) (fun _=>False) rfl rfl ?aP (fun _ hk=>hk.elim) ?aF ?aO ?aB ?aS ?aL ?_;(case aP=>exact rfl);(case aB=>exact (by repeat (first|(with_reducible first|exact HB.out|apply ba'|apply bd'|apply be'|refine bs' ?_ GE238.out)|exact HB.out)));(case aF=>exact (fun _ _=>trivial));(case aO=>exact (by (with_reducible repeat (first|apply ra'|apply rn'|apply rw'));exact HO_5.out));(case aS=>exact (below_size (by repeat (first|(with_reducible first|exact HB.out|apply ba'|apply bd'|apply be'|refine bs' ?_ GE238.out)|exact HB.out))));(case aL=>have:=LMc11.out;omega);intro v244 w12 ho hb hg hat;rw[← Ny243.out] at ho;have n0_:=am' (blk_grown (g:=gb238) (o := .cells #[.slice (some ad242) l0_0.length c0_0, .bool a0_1] 51 (0,0)) (by (with_reducible repeat (first|refine kn' ?_ _|refine kd' ?_|refine ka' ?_ _));exact BK238.out) hg (Kd.R_ne HO_5.out BK238.out (by decide)));have n1_:=am' (hb);have n2_:=am' (ho);clear BK238;clear HB;clear HO_5;have BK238:=n0_;have HB:=n1_;have HO245:=n2_;clear n0_ n1_ n2_;clear ho hb hg hat));go_roundg k1
        case measure=>have:=HK1.out;omega
        case rel=>exact ⟨(y243),(wrap64 (x12_1+1)),(by first|rfl|(simp;done)|(simp[*];done)),H',⟨by have:=HK1.out;omega⟩,⟨by (with_reducible repeat (first|apply ra'|apply rn'|apply rw'));exact HO245.out⟩,⟨by (with_reducible repeat (first|refine kn' ?_ _|refine kd' ?_|refine ka' ?_ _));exact BK238.out⟩,⟨by repeat (first|(with_reducible first|exact HB.out|apply ba'|apply bd'|apply be'|refine bs' ?_ GE238.out)|exact HB.out)⟩⟩
       ·
        rw[if_neg c11] at H;exact absurd H (by simp)
      ·
       rw[if_neg c10] at H;have c10b0:((rdOf false l0_0 x12_1) == a1)=false:=by simpa using c10
       (try (have c10b1:decide ((rdOf false l0_0 x12_1)=a1)=false:=by simpa using c10))
       (try (have c10b2:((rdOf false l0_0 x12_1) == a1)=false:=by simpa using c10))
       (try (have c10b3:¬ ((rdOf false l0_0 x12_1)=a1):=by simpa using c10))
       clear c10;have H':=am' H;clear H;have p242:0≤(x12_1:Int):=of_decide_eq_true (by first|(with_reducible assumption)|assumption);have q242:x12_1 < (l0_0.length:Int):=of_decide_eq_true (by first|(with_reducible assumption)|assumption);obtain ⟨ad242,e242,hx242_0⟩:=Kd.at_bool HR0_0.out x12_1 p242 q242;cases e242;replace hx242_0:=(HB.out.cell (bl' w _ hx242_0)).trans hx242_0;replace p242:=eq_true p242;replace q242:=eq_true q242;go_wp2;go_roundg k1
       case measure=>have:=HK1.out;omega
       case rel=>exact ⟨(x5_1),(wrap64 (x12_1+1)),(by first|rfl|(simp;done)|(simp[*];done)),H',⟨by have:=HK1.out;omega⟩,⟨by (with_reducible repeat (first|apply ra'|apply rn'|apply rw'));exact HO_5.out⟩,⟨by (with_reducible repeat (first|refine kn' ?_ _|refine kd' ?_|refine ka' ?_ _));exact BK238.out⟩,⟨by repeat (first|(with_reducible first|exact HB.out|apply ba'|apply bd'|apply be'|refine bs' ?_ GE238.out)|exact HB.out)⟩⟩
     ·
      rw[if_neg c9] at H;exact absurd H (by simp)
    ·
     rw[if_neg c8] at H;exact absurd H (by simp)
   ·
    rw[if_neg c7] at H;have c7b0:decide (x12_1 < (l0_0.length:Int))=false:=decide_eq_false c7;clear c7;obtain rfl:=Option.some.inj H;go_wp2;go_ret
    exact ⟨_,by first|rfl|(simp[errW_none,errW_some] <;> rfl)|(simp[*,errW_none,errW_some] <;> rfl),by (with_reducible repeat (first|apply ra'|apply rn'|apply rw'));exact HO_5.out,by repeat (first|(with_reducible first|exact HB.out|apply ba'|apply bd'|apply be'|refine bs' ?_ GE238.out)|exact HB.out)⟩
def impl_State_isCalm.f (k:Nat) (l0_0:List Bool) (a0_1:Bool):Option (Bool):=(impl_State_side.f k l0_0 a0_1 true).bind fun t247=>((impl_calm.f k t247).bind fun t250=>(if t250=true then ((impl_State_side.f k l0_0 a0_1 false).bind fun t251=>((impl_calm.f k t251).bind fun t254=>(some t254))) else (some false)))
theorem impl_State_isCalm.mono:∀ a0 a1 k,LeO (impl_State_isCalm.f k a0 a1) (impl_State_isCalm.f (k+1) a0 a1):=by
 intro a0 a1 k;unfold impl_State_isCalm.f
 repeat' first
   | (with_reducible exact impl_State_side.mono _ _ _ _)
   | (with_reducible exact impl_calm.mono _ _)
   | (with_reducible exact LeO.refl _)
   | (with_reducible exact LeO.none _)
   | (with_reducible refine LeO.ite ?_ ?_)
   | (with_reducible refine LeO.bind ?_ (fun _=>?_))
   | exact impl_State_side.mono _ _ _ _
   | exact impl_calm.mono _ _
   | exact LeO.none _
   | refine LeO.ite ?_ ?_
   | refine LeO.bind ?_ (fun _=>?_)
set_option maxHeartbeats 8000000 in
set_option maxRecDepth 100000 in
theorem impl_State_isCalm.calls (k:Nat) (A0_0:Option Addr) (c0_0:Nat) (l0_0:List Bool) (a0_1:Bool) (r:Bool) (w:World) (hr0_0:Kd.C Kd.bool w A0_0 l0_0.length l0_0) (hc0_0:l0_0.length≤c0_0) (h:impl_State_isCalm.f k l0_0 a0_1=some r) :
  Calls Try.prog 90 #[.agg #[.slice A0_0 l0_0.length c0_0, .bool a0_1]] w fun e w'=>e = .returned (.bool r)∧Below w.heap.size w w':=by
 have hu51:=Try.underlying51
 have HR0_0:=am' hr0_0
 have HC0_0:=am' hc0_0
 clear hr0_0 hc0_0;have HB:=am' (Below.refl w.heap.size w)
 have H:((impl_State_side.f k l0_0 a0_1 true).bind fun t247=>((impl_calm.f k t247).bind fun t250=>(if t250=true then ((impl_State_side.f k l0_0 a0_1 false).bind fun t251=>((impl_calm.f k t251).bind fun t254=>(some t254))) else (some false))))=some r:=h
 clear h;replace H:=Option.bind_eq_some_iff.mp H
 obtain ⟨t247,A20,H⟩:=H
 replace H:((impl_calm.f k t247).bind fun t250=>(if t250=true then ((impl_State_side.f k l0_0 a0_1 false).bind fun t251=>((impl_calm.f k t251).bind fun t254=>(some t254))) else (some false)))=some r:=H
 have A2:=am' A20
 clear A20;replace H:=Option.bind_eq_some_iff.mp H
 obtain ⟨t250,A30,H⟩:=H
 replace H:(if t250=true then ((impl_State_side.f k l0_0 a0_1 false).bind fun t251=>((impl_calm.f k t251).bind fun t254=>(some t254))) else (some false))=some r:=H
 have A3:=am' A30
 clear A30;by_cases c4:t250=true
 ·
  subst c4;have H1:((impl_State_side.f k l0_0 a0_1 false).bind fun t251=>((impl_calm.f k t251).bind fun t254=>(some t254)))=some r:=by rw[if_pos rfl] at H;exact H
  clear H;have H:=H1;clear H1;replace H:=Option.bind_eq_some_iff.mp H;obtain ⟨t251,A50,H⟩:=H;replace H:((impl_calm.f k t251).bind fun t254=>(some t254))=some r:=H;have A5:=am' A50;clear A50;replace H:=Option.bind_eq_some_iff.mp H;obtain ⟨t254,A60,H⟩:=H;replace H:(some t254)=some r:=H;have A6:=am' A60;clear A60;obtain rfl:=Option.some.inj H;go_enter Try.func90,Try.ntmps90;go_wp2_with (first|((with_reducible refine gate_dst (N:=1) rfl ?_);refine box_event ?hg (N:=1) ?hd (cs:=#[.slice A0_0 l0_0.length c0_0, .bool a0_1]) (t:=51) ?hr ?_;(case hd=>rfl);(case hg=>rfl);(case hr=>first|(go_simp;done)|(go_simp;rfl));intro gb246 hg w7 hbox hb;have n0_:=am' (below_step (by repeat (first|(with_reducible first|exact HB.out|apply ba'|apply bd'|apply be')|exact HB.out)) hb);have n1_:=am' (hbox);have n2_:=am' ((by rw[hg];exact (below_size (by repeat (first|(with_reducible first|exact HB.out|apply ba'|apply bd'|apply be')|exact HB.out))):w.heap.size≤gb246));have n3_:=am' ((by rw[hg];exact (below_size (by repeat (first|(with_reducible first|exact HB.out|apply ba'|apply bd'|apply be')|exact HB.out))):w.heap.size≤gb246));clear HB;have HB:=n0_;have BK246:=n1_;have GW246:=n2_;have GE246:=n3_;clear n0_ n1_ n2_ n3_;clear hb hbox hg;have hcz8_0:w7.cell? ⟨gb246,0,none⟩=some (.slice A0_0 l0_0.length c0_0):=(blk_cell BK246.out 0).trans rfl;have hcz8_1:w7.cell? ⟨gb246,1,none⟩=some (.bool a0_1):=(blk_cell BK246.out 1).trans rfl;have hfz8_0:=blk_frozen BK246.out 0;have hfz8_1:=blk_frozen BK246.out 1)|((with_reducible refine gate_callee (f:=120) rfl ?_);refine goesL_ (some 4) rfl rfl Try.func120 (by kernel_rfl) rfl #[.agg #[.slice A0_0 l0_0.length c0_0, .bool a0_1], .bool true] rfl (by (try simp only[List.map_toArray,List.map_cons,List.map_nil]);first|done|rfl|(simp only[List.length_drop,List.length_take];rfl)) ?_;(with_reducible refine (impl_State_side.calls k _ _ l0_0 a0_1 true t247 _ ?side1 ?side2 A2.out).mono ?_);(case side1=>repeat (first|exact (Kd.C_below HR0_0.out HB.out)|(with_reducible refine ca' ?_ _)|(with_reducible refine cn' ?_ _)|(with_reducible refine cd' ?_)));(case side2=>exact HC0_0.out);rintro e w9 ⟨v248,rfl,ho0,hb⟩;refine ⟨_,rfl,?_⟩;have n0_:=am' (Kd.R_lower ho0 (below_size (by repeat (first|(with_reducible first|exact HB.out|apply ba'|apply bd'|apply be'|refine bs' ?_ GE246.out)|exact HB.out))));have n1_:=am' (blk_below (g:=gb246) (o := .cells #[.slice A0_0 l0_0.length c0_0, .bool a0_1] 51 (0,0)) (by (with_reducible repeat (first|refine kn' ?_ _|refine kd' ?_|refine ka' ?_ _));exact BK246.out) hb);have n2_:=am' (below_step (by repeat (first|(with_reducible first|exact HB.out|apply ba'|apply bd'|apply be'|refine bs' ?_ GE246.out)|exact HB.out)) hb);clear BK246;clear HB;have HO249:=n0_;have BK246:=n1_;have HB:=n2_;clear n0_ n1_ n2_;(try clear hb);(try clear hb2);(try clear hk);(try clear hi);(try clear ho0);obtain ⟨Ao10,co10,eo10⟩:=Kd.R_slice HO249.out;subst eo10)|((with_reducible refine gate_callee (f:=98) rfl ?_);refine goesL_ (some 5) rfl rfl Try.func98 (by kernel_rfl) rfl #[.slice Ao10 t247.length co10] rfl (by (try simp only[List.map_toArray,List.map_cons,List.map_nil]);first|done|rfl|(simp only[List.length_drop,List.length_take];rfl)) ?_;(with_reducible refine (impl_calm.calls k _ _ t247 true _ ?side1 ?side2 A3.out).mono ?_);(case side1=>repeat (first|exact (Kd.R_reads' HO249.out).2.2|(with_reducible refine ca' ?_ _)|(with_reducible refine cn' ?_ _)|(with_reducible refine cd' ?_)));(case side2=>exact (Kd.R_reads' HO249.out).2.1);rintro e w11 ⟨rfl,hb⟩;refine ⟨_,rfl,?_⟩;have n0_:=am' (Kd.R_below (by (with_reducible repeat (first|apply ra'|apply rn'|apply rw'));exact HO249.out) hb);have n1_:=am' (blk_below (g:=gb246) (o := .cells #[.slice A0_0 l0_0.length c0_0, .bool a0_1] 51 (0,0)) (by (with_reducible repeat (first|refine kn' ?_ _|refine kd' ?_|refine ka' ?_ _));exact BK246.out) hb);have n2_:=am' (below_step (by repeat (first|(with_reducible first|exact HB.out|apply ba'|apply bd'|apply be'|refine bs' ?_ GE246.out)|exact HB.out)) hb);clear HO249;clear BK246;clear HB;have HO249:=n0_;have BK246:=n1_;have HB:=n2_;clear n0_ n1_ n2_;(try clear hb);(try clear hb2);(try clear hk);(try clear hi);have hcz12_0:w11.cell? ⟨gb246,0,none⟩=some (.slice A0_0 l0_0.length c0_0):=(blk_cell BK246.out 0).trans rfl;have hcz12_1:w11.cell? ⟨gb246,1,none⟩=some (.bool a0_1):=(blk_cell BK246.out 1).trans rfl;have hfz12_0:=blk_frozen BK246.out 0;have hfz12_1:=blk_frozen BK246.out 1)|(go_at_call 120;(with_reducible refine (impl_State_side.calls k _ _ l0_0 a0_1 false t251 _ ?side1 ?side2 A5.out).mono ?_);(case side1=>repeat (first|exact (Kd.C_below HR0_0.out HB.out)|(with_reducible refine ca' ?_ _)|(with_reducible refine cn' ?_ _)|(with_reducible refine cd' ?_)));(case side2=>exact HC0_0.out);rintro e w13 ⟨v252,rfl,ho0,hb⟩;have n0_:=am' (Kd.R_elder' (by (with_reducible repeat (first|apply ra'|apply rn'|apply rw'));exact HO249.out) (Kd.R_base ho0) hb);have n1_:=am' (Kd.R_lower (Kd.R_new' ho0 (Kd.R_lt (by (with_reducible repeat (first|apply ra'|apply rn'|apply rw'));exact HO249.out))) (below_size (by repeat (first|(with_reducible first|exact HB.out|apply ba'|apply bd'|apply be'|refine bs' ?_ GE246.out)|exact HB.out))));have n2_:=am' (blk_below (g:=gb246) (o := .cells #[.slice A0_0 l0_0.length c0_0, .bool a0_1] 51 (0,0)) (by (with_reducible repeat (first|refine kn' ?_ _|refine kd' ?_|refine ka' ?_ _));exact BK246.out) hb);have n3_:=am' (below_step (by repeat (first|(with_reducible first|exact HB.out|apply ba'|apply bd'|apply be'|refine bs' ?_ GE246.out)|exact HB.out)) hb);clear HO249;clear BK246;clear HB;have HO249:=n0_;have HO253:=n1_;have BK246:=n2_;have HB:=n3_;clear n0_ n1_ n2_ n3_;(try clear hb);(try clear hb2);(try clear hk);(try clear hi);(try clear ho0);obtain ⟨Ao14,co14,eo14⟩:=Kd.R_slice HO253.out;subst eo14)|(go_at_call 98;(with_reducible refine (impl_calm.calls k _ _ t251 t254 _ ?side1 ?side2 A6.out).mono ?_);(case side1=>repeat (first|exact (Kd.R_reads' HO253.out).2.2|(with_reducible refine ca' ?_ _)|(with_reducible refine cn' ?_ _)|(with_reducible refine cd' ?_)));(case side2=>exact (Kd.R_reads' HO253.out).2.1);rintro e w15 ⟨rfl,hb⟩;have n0_:=am' (Kd.R_below (by (with_reducible repeat (first|apply ra'|apply rn'|apply rw'));exact HO249.out) hb);have n1_:=am' (Kd.R_below (by (with_reducible repeat (first|apply ra'|apply rn'|apply rw'));exact HO253.out) hb);have n2_:=am' (blk_below (g:=gb246) (o := .cells #[.slice A0_0 l0_0.length c0_0, .bool a0_1] 51 (0,0)) (by (with_reducible repeat (first|refine kn' ?_ _|refine kd' ?_|refine ka' ?_ _));exact BK246.out) hb);have n3_:=am' (below_step (by repeat (first|(with_reducible first|exact HB.out|apply ba'|apply bd'|apply be'|refine bs' ?_ GE246.out)|exact HB.out)) hb);clear HO249;clear HO253;clear BK246;clear HB;have HO249:=n0_;have HO253:=n1_;have BK246:=n2_;have HB:=n3_;clear n0_ n1_ n2_ n3_;(try clear hb);(try clear hb2);(try clear hk);(try clear hi)))
  go_ret
  exact ⟨by first|rfl|(simp[errW_none,errW_some] <;> rfl)|(simp[*,errW_none,errW_some] <;> rfl),by repeat (first|(with_reducible first|exact HB.out|apply ba'|apply bd'|apply be'|refine bs' ?_ GE246.out)|exact HB.out)⟩
 ·
  replace c4:=Bool.eq_false_iff.mpr c4;subst c4;have H1:(some false)=some r:=by rw[if_neg (show ¬ (false=true) by decide)] at H;exact H
  clear H;have H:=H1;clear H1;obtain rfl:=Option.some.inj H;go_enter Try.func90,Try.ntmps90;go_wp2_with (first|((with_reducible refine gate_dst (N:=1) rfl ?_);refine box_event ?hg (N:=1) ?hd (cs:=#[.slice A0_0 l0_0.length c0_0, .bool a0_1]) (t:=51) ?hr ?_;(case hd=>rfl);(case hg=>rfl);(case hr=>first|(go_simp;done)|(go_simp;rfl));intro gb246 hg w16 hbox hb;have n0_:=am' (below_step (by repeat (first|(with_reducible first|exact HB.out|apply ba'|apply bd'|apply be')|exact HB.out)) hb);have n1_:=am' (hbox);have n2_:=am' ((by rw[hg];exact (below_size (by repeat (first|(with_reducible first|exact HB.out|apply ba'|apply bd'|apply be')|exact HB.out))):w.heap.size≤gb246));have n3_:=am' ((by rw[hg];exact (below_size (by repeat (first|(with_reducible first|exact HB.out|apply ba'|apply bd'|apply be')|exact HB.out))):w.heap.size≤gb246));clear HB;have HB:=n0_;have BK246:=n1_;have GW246:=n2_;have GE246:=n3_;clear n0_ n1_ n2_ n3_;clear hb hbox hg;have hcz17_0:w16.cell? ⟨gb246,0,none⟩=some (.slice A0_0 l0_0.length c0_0):=(blk_cell BK246.out 0).trans rfl;have hcz17_1:w16.cell? ⟨gb246,1,none⟩=some (.bool a0_1):=(blk_cell BK246.out 1).trans rfl;have hfz17_0:=blk_frozen BK246.out 0;have hfz17_1:=blk_frozen BK246.out 1)|((with_reducible refine gate_callee (f:=120) rfl ?_);refine goesL_ (some 4) rfl rfl Try.func120 (by kernel_rfl) rfl #[.agg #[.slice A0_0 l0_0.length c0_0, .bool a0_1], .bool true] rfl (by (try simp only[List.map_toArray,List.map_cons,List.map_nil]);first|done|rfl|(simp only[List.length_drop,List.length_take];rfl)) ?_;(with_reducible refine (impl_State_side.calls k _ _ l0_0 a0_1 true t247 _ ?side1 ?side2 A2.out).mono ?_);(case side1=>repeat (first|exact (Kd.C_below HR0_0.out HB.out)|(with_reducible refine ca' ?_ _)|(with_reducible refine cn' ?_ _)|(with_reducible refine cd' ?_)));(case side2=>exact HC0_0.out);rintro e w18 ⟨v248,rfl,ho0,hb⟩;refine ⟨_,rfl,?_⟩;have n0_:=am' (Kd.R_lower ho0 (below_size (by repeat (first|(with_reducible first|exact HB.out|apply ba'|apply bd'|apply be'|refine bs' ?_ GE246.out)|exact HB.out))));have n1_:=am' (blk_below (g:=gb246) (o := .cells #[.slice A0_0 l0_0.length c0_0, .bool a0_1] 51 (0,0)) (by (with_reducible repeat (first|refine kn' ?_ _|refine kd' ?_|refine ka' ?_ _));exact BK246.out) hb);have n2_:=am' (below_step (by repeat (first|(with_reducible first|exact HB.out|apply ba'|apply bd'|apply be'|refine bs' ?_ GE246.out)|exact HB.out)) hb);clear BK246;clear HB;have HO249:=n0_;have BK246:=n1_;have HB:=n2_;clear n0_ n1_ n2_;(try clear hb);(try clear hb2);(try clear hk);(try clear hi);(try clear ho0);obtain ⟨Ao19,co19,eo19⟩:=Kd.R_slice HO249.out;subst eo19)|((with_reducible refine gate_callee (f:=98) rfl ?_);refine goesL_ (some 5) rfl rfl Try.func98 (by kernel_rfl) rfl #[.slice Ao19 t247.length co19] rfl (by (try simp only[List.map_toArray,List.map_cons,List.map_nil]);first|done|rfl|(simp only[List.length_drop,List.length_take];rfl)) ?_;(with_reducible refine (impl_calm.calls k _ _ t247 false _ ?side1 ?side2 A3.out).mono ?_);(case side1=>repeat (first|exact (Kd.R_reads' HO249.out).2.2|(with_reducible refine ca' ?_ _)|(with_reducible refine cn' ?_ _)|(with_reducible refine cd' ?_)));(case side2=>exact (Kd.R_reads' HO249.out).2.1);rintro e w20 ⟨rfl,hb⟩;refine ⟨_,rfl,?_⟩;have n0_:=am' (Kd.R_below (by (with_reducible repeat (first|apply ra'|apply rn'|apply rw'));exact HO249.out) hb);have n1_:=am' (blk_below (g:=gb246) (o := .cells #[.slice A0_0 l0_0.length c0_0, .bool a0_1] 51 (0,0)) (by (with_reducible repeat (first|refine kn' ?_ _|refine kd' ?_|refine ka' ?_ _));exact BK246.out) hb);have n2_:=am' (below_step (by repeat (first|(with_reducible first|exact HB.out|apply ba'|apply bd'|apply be'|refine bs' ?_ GE246.out)|exact HB.out)) hb);clear HO249;clear BK246;clear HB;have HO249:=n0_;have BK246:=n1_;have HB:=n2_;clear n0_ n1_ n2_;(try clear hb);(try clear hb2);(try clear hk);(try clear hi)))
  go_ret
  exact ⟨by first|rfl|(simp[errW_none,errW_some] <;> rfl)|(simp[*,errW_none,errW_some] <;> rfl),by repeat (first|(with_reducible first|exact HB.out|apply ba'|apply bd'|apply be'|refine bs' ?_ GE246.out)|exact HB.out)⟩
def slices_Clone_int_int.f (l0:List Int):Option (List Int):=if l0.length < 17592186044416 then some l0 else none
set_option maxHeartbeats 2000000 in
set_option maxRecDepth 100000 in
theorem slices_Clone_int_int.calls (A0:Option Addr) (c0:Nat) (l0:List Int) (r:List Int) (w:World) (hr0:Kd.C (Kd.int .i64) w A0 l0.length l0) (hc0:l0.length≤c0) (h:slices_Clone_int_int.f l0=some r) :
  Calls Try.prog 136 #[.slice A0 l0.length c0] w fun e w'=>∃ v0_:Value,e = .returned (v0_)∧Kd.R (Kd.int .i64) 3 w' w.heap.size (fun _=>True) v0_ r∧Below w.heap.size w w':=by
 have hinfo:(Try.prog.info? 3).map (fun i=>(i.zero,i.size,i.bytes))=some (some (.int .i64 0),1,8):=by kernel_rfl
 obtain ⟨hlim,rfl⟩:l0.length < 17592186044416∧l0=r:=by
  unfold slices_Clone_int_int.f at h
  by_cases hl:l0.length < 17592186044416
  ·
   rw[if_pos hl] at h;exact ⟨hl,Option.some.inj h⟩
  ·
   rw[if_neg hl] at h;cases h
 clear h;cases A0 with
 | none =>
  obtain rfl:l0=[]:=by
   cases l0 with
   | nil=>rfl
   | cons x l=>obtain ⟨_,e,_⟩:=hr0.2.2 (by simp);cases e
  clear hr0 hc0 hlim hinfo;have heq:=fun (w:World) (n c:Nat)=>Lib.run_eql_slice_nil (P:=Try.prog) w 32 3 none n c 0 0 Try.underlying32
  go_enter Try.func136,Try.ntmps136;go_wp2;go_ret
  exact ⟨_,rfl,Kd.R_nil _ _ _ _ _,Below.refl _ _⟩
 | some a =>
  have HR0:=am' hr0;have HL:=am' hlim;have hie:=am' hinfo;clear hr0 hc0 hlim hinfo;have HB:=am' (Below.refl w.heap.size w);have heq:=fun (w:World) (n c:Nat)=>Lib.run_eql_slice_nil (P:=Try.prog) w 32 3 (some a) n c 0 0 Try.underlying32
  go_enter Try.func136,Try.ntmps136;go_wp2_with (first|((with_reducible refine gate_dst (N:=5) rfl ?_);refine Kd.R_lit (Kd.int .i64) _ 3 ?hg (N:=5) ?hd (xs:=([]:List Int)) (inner:=[]) (ok:=fun _=>True) (okp:=fun _=>True) ?hr ?hp (fun _ hk=>hk) trivial (Below.refl _ _) (Nat.le_refl _) (by simp) ?_;(case hd=>rfl);(case hg=>rfl);(case hr=>first|(go_simp;done)|(go_simp;rfl));(case hp=>exact (Reps.none _ _));intro v210 w3 ho4 hb hg_ hnew_;clear hg_ hnew_;have n0_:=am' (Kd.R_lower ho4 (below_size HB.out));have n1_:=am' (below_step HB.out hb);clear HB;have HO211:=n0_;have HB:=n1_;clear n0_ n1_;clear hb ho4)|((with_reducible refine gate_builtin (b := .append) (xs:=#[.tmp 5, .tmp 6]) rfl ?_);at_builtin;refine Kd.R_append_rows (Kd.int .i64) (w0:=w) w.heap.size rfl (.tmp 5) (.tmp 6) 32 3 (.int .i64 0) 8 rfl Try.underlying32 hie.out rfl (by decide) (by omega) v210 [] l0 _ _ _ (fun _=>True) (fun _=>False) rfl rfl ?aO ?aR (fun _ _ h=>h) (fun _ h=>h.elim) ?aF ?aB ?aS ?aL ?_;(case aR=>exact (Kd.C_below HR0.out HB.out));(case aB=>exact HB.out);(case aF=>exact (fun _ _=>trivial));(case aO=>exact HO211.out);(case aS=>exact (below_size HB.out));(case aL=>have:=HL.out;simp;omega);intro v213 w5 ho hb hg hat;have n0_:=am' (hb);have n1_:=am' (ho);clear HB;clear HO211;have HB:=n0_;have HO214:=n1_;clear n0_ n1_;clear ho hb hg hat));go_ret
  exact ⟨_,rfl,by simpa using HO214.out,HB.out⟩
end Go.Proofs.Ytibdeohiimjocaa.C11
