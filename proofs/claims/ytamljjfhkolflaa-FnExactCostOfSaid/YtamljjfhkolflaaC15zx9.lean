import Derived.Test.YtamljjfhkolflaaC15zx0
import Derived.Test.YtamljjfhkolflaaC15zAl
namespace Go.Proofs.Ytamljjfhkolflaa.C15
open Go.RowKit Go.Proofs.YtamljjfhkolflaaW.PrintWords Go.Proofs.YtamljjfhkolflaaW.PrintLast Go.Proofs.YtamljjfhkolflaaW.PrintMore Go.Proofs.Ytamljjfhkolflaa.H
attribute [local go_sem] max2_int min2_int max_two min_two max_three min_three max_four min_four
set_option linter.unusedVariables false
set_option linter.unusedSimpArgs false
def impl_State_side.l0:Nat→Bool→List Int→List Bool→Int→Int→Option (List Int)
 | 0,_,_,_,_,_=>none
 | k+1,x1,x5,x10,x11,x12=>if x12 < x11 then (if 0≤x12 then (if x12 < (x10.length:Int) then (if ((rdOf false x10 x12) == x1)=true then (if x5.length < 17592186044416 then (impl_State_side.l0 k x1 (x5 ++ [x12]) x10 x11 (wrap64 (x12+1))) else (none)) else (impl_State_side.l0 k x1 x5 x10 x11 (wrap64 (x12+1)))) else (none)) else (none)) else (some x5)
def impl_State_side.f (k:Nat) (l0_0:List Bool) (a0_1:Bool) (a1:Bool):Option (List Int):=impl_State_side.l0 k a1 (([]:List Int)) l0_0 (l0_0.length:Int) 0
set_option maxHeartbeats 8000000 in
set_option maxRecDepth 100000 in
theorem impl_State_side.calls (k:Nat) (A0_0:Option Addr) (c0_0:Nat) (l0_0:List Bool) (a0_1:Bool) (a1:Bool) (r:List Int) (w:World) (hr0_0:Kd.C Kd.bool w A0_0 l0_0.length l0_0) (hc0_0:l0_0.length≤c0_0) (h:impl_State_side.f k l0_0 a0_1 a1=some r) :
  Calls Try.prog 107 #[.agg #[.slice A0_0 l0_0.length c0_0, .bool a0_1], .bool a1] w fun e w'=>∃ v0_:Value,e = .returned (v0_)∧Kd.R (Kd.int .i64) 3 w' w.heap.size (fun _=>True) v0_ r∧Below w.heap.size w w':=by
 have hu44:=Try.underlying44
 have HR0_0:=am' hr0_0
 have HC0_0:=am' hc0_0
 clear hr0_0 hc0_0;have HB:=am' (Below.refl w.heap.size w)
 have H:(impl_State_side.l0 k a1 (([]:List Int)) l0_0 (l0_0.length:Int) 0)=some r:=h
 clear h;obtain ⟨y268,hy268⟩:∃ y_:List Int,y_=(([]:List Int)):=⟨_,rfl⟩
 replace H:(impl_State_side.l0 k a1 y268 l0_0 (l0_0.length:Int) 0)=some r:=by first|(rw[hy268];with_reducible exact H)|(have H2_:=(Option.bind_some _ _).symm.trans H;rw[hy268];with_reducible exact H2_)|(have H2_:=(Option.bind_some _ _).symm.trans H;with_reducible exact H2_)|with_reducible exact H|(rw[hy268];exact H)|exact H
 have Ny268:=am' hy268
 clear hy268;have H':=am' H
 clear H;go_enter Try.func107,Try.ntmps107
 go_wp2_with (first|((with_reducible refine gate_dst (N:=2) rfl ?_);refine box_event ?hg (N:=2) ?hd (cs:=#[.slice A0_0 l0_0.length c0_0, .bool a0_1]) (t:=44) ?hr ?_;(case hd=>rfl);(case hg=>rfl);(case hr=>first|(go_simp;done)|(go_simp;rfl));intro gb267 hg w3 hbox hb;have n0_:=am' (below_step (by repeat (first|(with_reducible first|exact HB.out|apply ba'|apply bd'|apply be')|exact HB.out)) hb);have n1_:=am' (hbox);have n2_:=am' ((by rw[hg];exact (below_size (by repeat (first|(with_reducible first|exact HB.out|apply ba'|apply bd'|apply be')|exact HB.out))):w.heap.size≤gb267));have n3_:=am' ((by rw[hg];exact (below_size (by repeat (first|(with_reducible first|exact HB.out|apply ba'|apply bd'|apply be')|exact HB.out))):w.heap.size≤gb267));clear HB;have HB:=n0_;have BK267:=n1_;have GW267:=n2_;have GE267:=n3_;clear n0_ n1_ n2_ n3_;clear hb hbox hg)|((with_reducible refine gate_dst (N:=8) rfl ?_);refine Kd.R_lit (Kd.int .i64) _ 3 ?hg (N:=8) ?hd (xs:=([]:List Int)) (inner:=[]) (ok:=fun _=>True) (okp:=fun _=>True) ?hr ?hp (fun _ hk=>hk) trivial (Below.refl _ _) (Nat.le_refl _) (by simp) ?_;(case hd=>rfl);(case hg=>rfl);(case hr=>first|(go_simp;done)|(go_simp;rfl));(case hp=>exact (Reps.none _ _));intro v269 w4 ho5 hb hg_ hnew_;clear hg_ hnew_;(first|rw[← Ny268.out] at ho5|(simp only[Int.reduceToNat] at ho5;rw[← Ny268.out] at ho5));have n0_:=am' (Kd.R_lower ho5 (below_size (by repeat (first|(with_reducible first|exact HB.out|apply ba'|apply bd'|apply be'|refine bs' ?_ GE267.out)|exact HB.out))));have n1_:=am' (blk_below (g:=gb267) (o := .cells #[.slice A0_0 l0_0.length c0_0, .bool a0_1] 44 (0,0)) (by (with_reducible repeat (first|refine kn' ?_ _|refine kd' ?_|refine ka' ?_ _));exact BK267.out) hb);have n2_:=am' (below_step (by repeat (first|(with_reducible first|exact HB.out|apply ba'|apply bd'|apply be'|refine bs' ?_ GE267.out)|exact HB.out)) hb);clear BK267;clear HB;have HO270:=n0_;have BK267:=n1_;have HB:=n2_;clear n0_ n1_ n2_;clear hb ho5;have hcz6_0:w4.cell? ⟨gb267,0,none⟩=some (.slice A0_0 l0_0.length c0_0):=(blk_cell BK267.out 0).trans rfl;have hcz6_1:w4.cell? ⟨gb267,1,none⟩=some (.bool a0_1):=(blk_cell BK267.out 1).trans rfl;have hfz6_0:=blk_frozen BK267.out 0;have hfz6_1:=blk_frozen BK267.out 1))
 go_loopg [5,12] k (fun kq v5 v12 w'=>∃ (x5_1:List Int) (x12_1:Int),v12 = .int .i64 x12_1∧Aside0 (impl_State_side.l0 kq a1 x5_1 l0_0 (l0_0.length:Int) x12_1=some r)∧Aside0 (kq≤k)∧Aside0 (Kd.R (Kd.int .i64) 3 w' w.heap.size (fun _=>True) v5 x5_1)∧Aside0 (w'.heap[gb267]? = some (.cells #[(.slice A0_0 l0_0.length c0_0), .bool a0_1] 44 (0,0)))∧Aside0 (Below w.heap.size w w'))
 case atStart=>exact ⟨(y268),(0),(by first|rfl|(simp;done)|(simp[*];done)),H',⟨Nat.le_refl _⟩,⟨by (with_reducible repeat (first|apply ra'|apply rn'|apply rw'));exact HO270.out⟩,⟨by (with_reducible repeat (first|refine kn' ?_ _|refine kd' ?_|refine ka' ?_ _));exact BK267.out⟩,⟨by repeat (first|(with_reducible first|exact HB.out|apply ba'|apply bd'|apply be'|refine bs' ?_ GE267.out)|exact HB.out)⟩⟩
 case round =>
  clear H';try clear c1
  try clear p2
  try clear hcz6_0
  try clear hcz6_1
  try clear hfz6_0
  try clear hfz6_1
  obtain ⟨x5_1,x12_1,rfl,HA,HK1,HO_5,BK267,HB⟩:=hrel;cases gk with
  | zero=>exact absurd HA.out (by simp[impl_State_side.l0])
  | succ k1 =>
   have H:=HA.out;clear HA;simp only[impl_State_side.l0] at H;by_cases c7:x12_1 < (l0_0.length:Int)
   ·
    rw[if_pos c7] at H;have c7b0:decide (x12_1 < (l0_0.length:Int))=true:=decide_eq_true c7;clear c7;by_cases c8:0≤x12_1
    ·
     rw[if_pos c8] at H;have c8b0:decide (0≤x12_1)=true:=decide_eq_true c8;clear c8;by_cases c9:x12_1 < (l0_0.length:Int)
     ·
      rw[if_pos c9] at H;have c9b0:decide (x12_1 < (l0_0.length:Int))=true:=decide_eq_true c9;clear c9;by_cases c10:((rdOf false l0_0 x12_1) == a1)=true
      ·
       rw[if_pos c10] at H;have c10b0:((rdOf false l0_0 x12_1) == a1)=true:=c10
       (try (have c10b1:decide ((rdOf false l0_0 x12_1)=a1)=true:=by simpa using c10))
       (try (have c10b2:((rdOf false l0_0 x12_1) == a1)=true:=by simpa using c10))
       clear c10;by_cases c11:x5_1.length < 17592186044416
       ·
        rw[if_pos c11] at H;have LMc11:=am' c11;clear c11;obtain ⟨y272,hy272⟩:∃ y_:List Int,y_=(x5_1 ++ [x12_1]):=⟨_,rfl⟩
        replace H:(impl_State_side.l0 k1 a1 y272 l0_0 (l0_0.length:Int) (wrap64 (x12_1+1)))=some r:=by first|(rw[hy272];with_reducible exact H)|(have H2_:=(Option.bind_some _ _).symm.trans H;rw[hy272];with_reducible exact H2_)|(have H2_:=(Option.bind_some _ _).symm.trans H;with_reducible exact H2_)|with_reducible exact H|(rw[hy272];exact H)|exact H
        have Ny272:=am' hy272;clear hy272;have H':=am' H;clear H;have p271:0≤(x12_1:Int):=of_decide_eq_true (by first|(with_reducible assumption)|assumption);have q271:x12_1 < (l0_0.length:Int):=of_decide_eq_true (by first|(with_reducible assumption)|assumption);obtain ⟨ad271,e271,hx271_0⟩:=Kd.at_bool HR0_0.out x12_1 p271 q271;cases e271;replace hx271_0:=(HB.out.cell (bl' w _ hx271_0)).trans hx271_0;replace p271:=eq_true p271;replace q271:=eq_true q271;go_wp2_with (first|((with_reducible refine gate_builtin (b := .append) (xs:=#[.tmp 20, .tmp 22]) rfl ?_);at_builtin;refine Kd.R_append (Kd.int .i64) (w0:=w) w.heap.size rfl (.tmp 20) (.tmp 22) 22 3 (.int .i64 0) 8 rfl Try.underlying22 info3 rfl (by decide) (by omega) u5 x5_1 x12_1 [.int .i64 x12_1] (fun _=>True) (fun _=>False) rfl rfl ?aP (fun _ hk=>hk.elim) ?aF ?aO ?aB ?aS ?aL ?_;(case aP=>exact rfl);(case aB=>exact (by repeat (first|(with_reducible first|exact HB.out|apply ba'|apply bd'|apply be'|refine bs' ?_ GE267.out)|exact HB.out)));(case aF=>exact (fun _ _=>trivial));(case aO=>exact (by (with_reducible repeat (first|apply ra'|apply rn'|apply rw'));exact HO_5.out));(case aS=>exact (below_size (by repeat (first|(with_reducible first|exact HB.out|apply ba'|apply bd'|apply be'|refine bs' ?_ GE267.out)|exact HB.out))));(case aL=>have:=LMc11.out;omega);intro v273 w12 ho hb hg hat;rw[← Ny272.out] at ho;have n0_:=am' (blk_grown (g:=gb267) (o := .cells #[.slice (some ad271) l0_0.length c0_0, .bool a0_1] 44 (0,0)) (by (with_reducible repeat (first|refine kn' ?_ _|refine kd' ?_|refine ka' ?_ _));exact BK267.out) hg (Kd.R_ne HO_5.out BK267.out (by decide)));have n1_:=am' (hb);have n2_:=am' (ho);clear BK267;clear HB;clear HO_5;have BK267:=n0_;have HB:=n1_;have HO274:=n2_;clear n0_ n1_ n2_;clear ho hb hg hat));go_roundg k1
        case measure=>have:=HK1.out;omega
        case rel=>exact ⟨(y272),(wrap64 (x12_1+1)),(by first|rfl|(simp;done)|(simp[*];done)),H',⟨by have:=HK1.out;omega⟩,⟨by (with_reducible repeat (first|apply ra'|apply rn'|apply rw'));exact HO274.out⟩,⟨by (with_reducible repeat (first|refine kn' ?_ _|refine kd' ?_|refine ka' ?_ _));exact BK267.out⟩,⟨by repeat (first|(with_reducible first|exact HB.out|apply ba'|apply bd'|apply be'|refine bs' ?_ GE267.out)|exact HB.out)⟩⟩
       ·
        rw[if_neg c11] at H;exact absurd H (by simp)
      ·
       rw[if_neg c10] at H;have c10b0:((rdOf false l0_0 x12_1) == a1)=false:=by simpa using c10
       (try (have c10b1:decide ((rdOf false l0_0 x12_1)=a1)=false:=by simpa using c10))
       (try (have c10b2:((rdOf false l0_0 x12_1) == a1)=false:=by simpa using c10))
       (try (have c10b3:¬ ((rdOf false l0_0 x12_1)=a1):=by simpa using c10))
       clear c10;have H':=am' H;clear H;have p271:0≤(x12_1:Int):=of_decide_eq_true (by first|(with_reducible assumption)|assumption);have q271:x12_1 < (l0_0.length:Int):=of_decide_eq_true (by first|(with_reducible assumption)|assumption);obtain ⟨ad271,e271,hx271_0⟩:=Kd.at_bool HR0_0.out x12_1 p271 q271;cases e271;replace hx271_0:=(HB.out.cell (bl' w _ hx271_0)).trans hx271_0;replace p271:=eq_true p271;replace q271:=eq_true q271;go_wp2;go_roundg k1
       case measure=>have:=HK1.out;omega
       case rel=>exact ⟨(x5_1),(wrap64 (x12_1+1)),(by first|rfl|(simp;done)|(simp[*];done)),H',⟨by have:=HK1.out;omega⟩,⟨by (with_reducible repeat (first|apply ra'|apply rn'|apply rw'));exact HO_5.out⟩,⟨by (with_reducible repeat (first|refine kn' ?_ _|refine kd' ?_|refine ka' ?_ _));exact BK267.out⟩,⟨by repeat (first|(with_reducible first|exact HB.out|apply ba'|apply bd'|apply be'|refine bs' ?_ GE267.out)|exact HB.out)⟩⟩
     ·
      rw[if_neg c9] at H;exact absurd H (by simp)
    ·
     rw[if_neg c8] at H;exact absurd H (by simp)
   ·
    rw[if_neg c7] at H;have c7b0:decide (x12_1 < (l0_0.length:Int))=false:=decide_eq_false c7;clear c7;obtain rfl:=Option.some.inj H;go_wp2;go_ret
    exact ⟨_,by first|rfl|(simp[errW_none,errW_some] <;> rfl)|(simp[*,errW_none,errW_some] <;> rfl),by (with_reducible repeat (first|apply ra'|apply rn'|apply rw'));exact HO_5.out,by repeat (first|(with_reducible first|exact HB.out|apply ba'|apply bd'|apply be'|refine bs' ?_ GE267.out)|exact HB.out)⟩
def impl_bit.f (a0:Bool):Option (Int):=if a0=true then (some 1) else (some 0)
set_option maxHeartbeats 8000000 in
set_option maxRecDepth 100000 in
theorem impl_bit.calls (a0:Bool) (r:Int) (w:World) (h:impl_bit.f a0=some r) :
  Calls Try.prog 68 #[.bool a0] w fun e w'=>e = .returned (.int .i64 r)∧Drawn0 w w':=by
 have H:(if a0=true then (some 1) else (some 0))=some r:=h
 clear h;by_cases c2:a0=true
 ·
  subst c2;have H1:(some 1)=some r:=by rw[if_pos rfl] at H;exact H
  clear H;have H:=H1;clear H1;obtain rfl:=Option.some.inj H;go_enter Try.func68,Try.ntmps68;go_wp2;go_ret
  exact ⟨by first|rfl|(simp;done)|(simp[*];done),by repeat (first|exact Drawn0.refl _|apply Drawn0.step)⟩
 ·
  replace c2:=Bool.eq_false_iff.mpr c2;subst c2;have H1:(some 0)=some r:=by rw[if_neg (show ¬ (false=true) by decide)] at H;exact H
  clear H;have H:=H1;clear H1;obtain rfl:=Option.some.inj H;go_enter Try.func68,Try.ntmps68;go_wp2;go_ret
  exact ⟨by first|rfl|(simp;done)|(simp[*];done),by repeat (first|exact Drawn0.refl _|apply Drawn0.step)⟩
def impl_State_code.l0:Nat→Int→List Bool→Int→Int→Option (Int)
 | 0,_,_,_,_=>none
 | k+1,x3,x14,x15,x16=>if x16 < x15 then (if 0≤x16 then (if x16 < (x14.length:Int) then ((impl_bit.f (rdOf false x14 x16)).bind fun t278=>(impl_State_code.l0 k (Go.bits .or .i64 x3 (shl .i64 t278 x16)) x14 x15 (wrap64 (x16+1)))) else (none)) else (none)) else (some x3)
def impl_State_code.f (k:Nat) (l0_0:List Bool) (a0_1:Bool):Option (Int):=(impl_bit.f a0_1).bind fun t276=>(impl_State_code.l0 k (shl .i64 t276 (l0_0.length:Int)) l0_0 (l0_0.length:Int) 0)
theorem impl_State_code.mono_l:∀ k,(∀ y0 y1 y2 y3,LeO (impl_State_code.l0 k y0 y1 y2 y3) (impl_State_code.l0 (k+1) y0 y1 y2 y3))
 | 0=>fun _ _ _ _ r h=>by simp[impl_State_code.l0] at h
 | k+1=>by
  have ih0:=impl_State_code.mono_l k
  ·
   intro y0 y1 y2 y3;unfold impl_State_code.l0
   repeat' first
   | (with_reducible exact ih0 _ _ _ _)
   | (with_reducible exact LeO.refl _)
   | (with_reducible exact LeO.none _)
   | (with_reducible refine LeO.ite ?_ ?_)
   | (with_reducible refine LeO.bind ?_ (fun _=>?_))
   | exact ih0 _ _ _ _
   | exact LeO.none _
   | refine LeO.ite ?_ ?_
   | refine LeO.bind ?_ (fun _=>?_)
theorem impl_State_code.mono:∀ a0 a1 k,LeO (impl_State_code.f k a0 a1) (impl_State_code.f (k+1) a0 a1):=by
 intro a0 a1 k;have ih0:=impl_State_code.mono_l k
 unfold impl_State_code.f
 repeat' first
   | (with_reducible exact ih0 _ _ _ _)
   | (with_reducible exact LeO.refl _)
   | (with_reducible exact LeO.none _)
   | (with_reducible refine LeO.ite ?_ ?_)
   | (with_reducible refine LeO.bind ?_ (fun _=>?_))
   | exact ih0 _ _ _ _
   | exact LeO.none _
   | refine LeO.ite ?_ ?_
   | refine LeO.bind ?_ (fun _=>?_)
set_option maxHeartbeats 8000000 in
set_option maxRecDepth 100000 in
theorem impl_State_code.calls (k:Nat) (A0_0:Option Addr) (c0_0:Nat) (l0_0:List Bool) (a0_1:Bool) (r:Int) (w:World) (hr0_0:Kd.C Kd.bool w A0_0 l0_0.length l0_0) (hc0_0:l0_0.length≤c0_0) (h:impl_State_code.f k l0_0 a0_1=some r) :
  Calls Try.prog 92 #[.agg #[.slice A0_0 l0_0.length c0_0, .bool a0_1]] w fun e w'=>e = .returned (.int .i64 r)∧Below w.heap.size w w':=by
 have hu44:=Try.underlying44
 have HR0_0:=am' hr0_0
 have HC0_0:=am' hc0_0
 clear hr0_0 hc0_0;have HB:=am' (Below.refl w.heap.size w)
 have H:((impl_bit.f a0_1).bind fun t276=>(impl_State_code.l0 k (shl .i64 t276 (l0_0.length:Int)) l0_0 (l0_0.length:Int) 0))=some r:=h
 clear h;replace H:=Option.bind_eq_some_iff.mp H
 obtain ⟨t276,A20,H⟩:=H
 replace H:(impl_State_code.l0 k (shl .i64 t276 (l0_0.length:Int)) l0_0 (l0_0.length:Int) 0)=some r:=H
 have A2:=am' A20
 clear A20;obtain ⟨ji3,hji3⟩:∃ j_:Int,(shl .i64 t276 (l0_0.length:Int))=j_:=⟨_,rfl⟩
 replace H:(impl_State_code.l0 k ji3 l0_0 (l0_0.length:Int) 0)=some r:=by first|(rw[hji3] at H;exact H)|(simp only[hji3] at H ⊢;exact H)
 (try rw [hji3] at A2)
 have hji3_:(IntKind.i64.wrap (t276 * 2 ^ min (l0_0.length:Int).toNat 64))=ji3:=hji3
 have hji3z:(l0_0.length:Int)≤64→(IntKind.i64.wrap (t276 * 2 ^ (l0_0.length:Int).toNat))=ji3:=shl_small hji3
 have hji3p:(IntKind.i64.wrap (t276 * 2 ^ min l0_0.length 64))=ji3:=hji3_
 have hji3q:(l0_0.length:Int)≤64→(IntKind.i64.wrap (t276 * 2 ^ l0_0.length))=ji3:=hji3z
 have hji3y:(wrap64 (t276 * 2 ^ min (l0_0.length:Int).toNat 64))=ji3:=(i64_w _).symm.trans hji3_
 have hji3x:(l0_0.length:Int)≤64→(wrap64 (t276 * 2 ^ (l0_0.length:Int).toNat))=ji3:=fun h_=>(i64_w _).symm.trans (hji3z h_)
 have H':=am' H
 clear H;go_enter Try.func92,Try.ntmps92
 go_wp2_with (first|((with_reducible refine gate_dst (N:=1) rfl ?_);refine box_event ?hg (N:=1) ?hd (cs:=#[.slice A0_0 l0_0.length c0_0, .bool a0_1]) (t:=44) ?hr ?_;(case hd=>rfl);(case hg=>rfl);(case hr=>first|(go_simp;done)|(go_simp;rfl));intro gb275 hg w4 hbox hb;have n0_:=am' (below_step (by repeat (first|(with_reducible first|exact HB.out|apply ba'|apply bd'|apply be')|exact HB.out)) hb);have n1_:=am' (hbox);have n2_:=am' ((by rw[hg];exact (below_size (by repeat (first|(with_reducible first|exact HB.out|apply ba'|apply bd'|apply be')|exact HB.out))):w.heap.size≤gb275));have n3_:=am' ((by rw[hg];exact (below_size (by repeat (first|(with_reducible first|exact HB.out|apply ba'|apply bd'|apply be')|exact HB.out))):w.heap.size≤gb275));clear HB;have HB:=n0_;have BK275:=n1_;have GW275:=n2_;have GE275:=n3_;clear n0_ n1_ n2_ n3_;clear hb hbox hg;have hcz5_0:w4.cell? ⟨gb275,0,none⟩=some (.slice A0_0 l0_0.length c0_0):=(blk_cell BK275.out 0).trans rfl;have hcz5_1:w4.cell? ⟨gb275,1,none⟩=some (.bool a0_1):=(blk_cell BK275.out 1).trans rfl;have hfz5_0:=blk_frozen BK275.out 0;have hfz5_1:=blk_frozen BK275.out 1)|(go_at_call 68;(with_reducible refine (impl_bit.calls a0_1 t276 _ A2.out).mono ?_);rintro e w' ⟨rfl,⟨nd,rfl⟩⟩;(try first|exact ⟨rfl,_,World.drewN_drewN _ _ _⟩|exact ⟨rfl,_,Eq.trans (World.drewN_drewN _ _ _) (congrArg (World.drewN _) (Nat.add_assoc _ _ _))⟩)))
 repeat (go_quiet (first|((with_reducible refine gate_dst (N:=1) rfl ?_);refine box_event ?hg (N:=1) ?hd (cs:=#[.slice A0_0 l0_0.length c0_0, .bool a0_1]) (t:=44) ?hr ?_;(case hd=>rfl);(case hg=>rfl);(case hr=>first|(go_simp;done)|(go_simp;rfl));intro gb275 hg w4 hbox hb;have n0_:=am' (below_step (by repeat (first|(with_reducible first|exact HB.out|apply ba'|apply bd'|apply be')|exact HB.out)) hb);have n1_:=am' (hbox);have n2_:=am' ((by rw[hg];exact (below_size (by repeat (first|(with_reducible first|exact HB.out|apply ba'|apply bd'|apply be')|exact HB.out))):w.heap.size≤gb275));have n3_:=am' ((by rw[hg];exact (below_size (by repeat (first|(with_reducible first|exact HB.out|apply ba'|apply bd'|apply be')|exact HB.out))):w.heap.size≤gb275));clear HB;have HB:=n0_;have BK275:=n1_;have GW275:=n2_;have GE275:=n3_;clear n0_ n1_ n2_ n3_;clear hb hbox hg;have hcz5_0:w4.cell? ⟨gb275,0,none⟩=some (.slice A0_0 l0_0.length c0_0):=(blk_cell BK275.out 0).trans rfl;have hcz5_1:w4.cell? ⟨gb275,1,none⟩=some (.bool a0_1):=(blk_cell BK275.out 1).trans rfl;have hfz5_0:=blk_frozen BK275.out 0;have hfz5_1:=blk_frozen BK275.out 1)|(go_at_call 68;(with_reducible refine (impl_bit.calls a0_1 t276 _ A2.out).mono ?_);rintro e w' ⟨rfl,⟨nd,rfl⟩⟩;(try first|exact ⟨rfl,_,World.drewN_drewN _ _ _⟩|exact ⟨rfl,_,Eq.trans (World.drewN_drewN _ _ _) (congrArg (World.drewN _) (Nat.add_assoc _ _ _))⟩)));try go_wp2_with (first|((with_reducible refine gate_dst (N:=1) rfl ?_);refine box_event ?hg (N:=1) ?hd (cs:=#[.slice A0_0 l0_0.length c0_0, .bool a0_1]) (t:=44) ?hr ?_;(case hd=>rfl);(case hg=>rfl);(case hr=>first|(go_simp;done)|(go_simp;rfl));intro gb275 hg w4 hbox hb;have n0_:=am' (below_step (by repeat (first|(with_reducible first|exact HB.out|apply ba'|apply bd'|apply be')|exact HB.out)) hb);have n1_:=am' (hbox);have n2_:=am' ((by rw[hg];exact (below_size (by repeat (first|(with_reducible first|exact HB.out|apply ba'|apply bd'|apply be')|exact HB.out))):w.heap.size≤gb275));have n3_:=am' ((by rw[hg];exact (below_size (by repeat (first|(with_reducible first|exact HB.out|apply ba'|apply bd'|apply be')|exact HB.out))):w.heap.size≤gb275));clear HB;have HB:=n0_;have BK275:=n1_;have GW275:=n2_;have GE275:=n3_;clear n0_ n1_ n2_ n3_;clear hb hbox hg;have hcz5_0:w4.cell? ⟨gb275,0,none⟩=some (.slice A0_0 l0_0.length c0_0):=(blk_cell BK275.out 0).trans rfl;have hcz5_1:w4.cell? ⟨gb275,1,none⟩=some (.bool a0_1):=(blk_cell BK275.out 1).trans rfl;have hfz5_0:=blk_frozen BK275.out 0;have hfz5_1:=blk_frozen BK275.out 1)|(go_at_call 68;(with_reducible refine (impl_bit.calls a0_1 t276 _ A2.out).mono ?_);rintro e w' ⟨rfl,⟨nd,rfl⟩⟩;(try first|exact ⟨rfl,_,World.drewN_drewN _ _ _⟩|exact ⟨rfl,_,Eq.trans (World.drewN_drewN _ _ _) (congrArg (World.drewN _) (Nat.add_assoc _ _ _))⟩))))
 go_loopg [3,16] k (fun kq v3 v16 w'=>∃ (x3_1:Int) (x16_1:Int),v3 = .int .i64 x3_1∧v16 = .int .i64 x16_1∧Aside0 (impl_State_code.l0 kq x3_1 l0_0 (l0_0.length:Int) x16_1=some r)∧Aside0 (kq≤k)∧Aside0 (w'.heap[gb275]? = some (.cells #[(.slice A0_0 l0_0.length c0_0), .bool a0_1] 44 (0,0)))∧Aside0 (Below w.heap.size w w'))
 case atStart=>exact ⟨(ji3),(0),(by first|rfl|(simp;done)|(simp only[← hji3] <;> (first|rfl|simp))|(simp[*];done)),(by first|rfl|(simp;done)|(simp[*];done)),H',⟨Nat.le_refl _⟩,⟨by (with_reducible repeat (first|refine kn' ?_ _|refine kd' ?_|refine ka' ?_ _));exact BK275.out⟩,⟨by repeat (first|(with_reducible first|exact HB.out|apply ba'|apply bd'|apply be'|refine bs' ?_ GE275.out)|exact HB.out)⟩⟩
 case round =>
  clear H';try clear p2
  try clear hcz5_0
  try clear hcz5_1
  try clear hfz5_0
  try clear hfz5_1
  obtain ⟨x3_1,x16_1,rfl,rfl,HA,HK1,BK275,HB⟩:=hrel;cases gk with
  | zero=>exact absurd HA.out (by simp[impl_State_code.l0])
  | succ k1 =>
   have H:=HA.out;clear HA;simp only[impl_State_code.l0] at H;by_cases c6:x16_1 < (l0_0.length:Int)
   ·
    rw[if_pos c6] at H;have c6b0:decide (x16_1 < (l0_0.length:Int))=true:=decide_eq_true c6;clear c6;by_cases c7:0≤x16_1
    ·
     rw[if_pos c7] at H;have c7b0:decide (0≤x16_1)=true:=decide_eq_true c7;clear c7;by_cases c8:x16_1 < (l0_0.length:Int)
     ·
      rw[if_pos c8] at H;have c8b0:decide (x16_1 < (l0_0.length:Int))=true:=decide_eq_true c8;clear c8;replace H:=Option.bind_eq_some_iff.mp H;obtain ⟨t278,A90,H⟩:=H;replace H:(impl_State_code.l0 k1 (Go.bits .or .i64 x3_1 (shl .i64 t278 x16_1)) l0_0 (l0_0.length:Int) (wrap64 (x16_1+1)))=some r:=H;have A9:=am' A90;clear A90;have c10b0:=eq_true (of_decide_eq_true (by first|(with_reducible assumption)|assumption):0≤x16_1);obtain ⟨ji11,hji11⟩:∃ j_:Int,(shl .i64 t278 x16_1)=j_:=⟨_,rfl⟩
      replace H:(impl_State_code.l0 k1 (Go.bits .or .i64 x3_1 (ji11)) l0_0 (l0_0.length:Int) (wrap64 (x16_1+1)))=some r:=by first|(rw[hji11] at H;exact H)|(simp only[hji11] at H ⊢;exact H)
      (try rw [hji11] at A9)
      have hji11_:(IntKind.i64.wrap (t278 * 2 ^ min x16_1.toNat 64))=ji11:=hji11;have hji11z:x16_1≤64→(IntKind.i64.wrap (t278 * 2 ^ x16_1.toNat))=ji11:=shl_small hji11;have hji11y:(wrap64 (t278 * 2 ^ min x16_1.toNat 64))=ji11:=(i64_w _).symm.trans hji11_;have hji11x:x16_1≤64→(wrap64 (t278 * 2 ^ x16_1.toNat))=ji11:=fun h_=>(i64_w _).symm.trans (hji11z h_)
      have H':=am' H;clear H;have p277:0≤(x16_1:Int):=of_decide_eq_true (by first|(with_reducible assumption)|assumption);have q277:x16_1 < (l0_0.length:Int):=of_decide_eq_true (by first|(with_reducible assumption)|assumption);obtain ⟨ad277,e277,hx277_0⟩:=Kd.at_bool HR0_0.out x16_1 p277 q277;cases e277;replace hx277_0:=(HB.out.cell (bl' w _ hx277_0)).trans hx277_0;replace p277:=eq_true p277;replace q277:=eq_true q277;go_wp2_with (first|(go_at_call 68;(with_reducible refine (impl_bit.calls (rdOf false l0_0 x16_1) t278 _ A9.out).mono ?_);rintro e w' ⟨rfl,⟨nd,rfl⟩⟩;(try first|exact ⟨rfl,_,World.drewN_drewN _ _ _⟩|exact ⟨rfl,_,Eq.trans (World.drewN_drewN _ _ _) (congrArg (World.drewN _) (Nat.add_assoc _ _ _))⟩)))
      repeat (go_quiet (first|(go_at_call 68;(with_reducible refine (impl_bit.calls (rdOf false l0_0 x16_1) t278 _ A9.out).mono ?_);rintro e w' ⟨rfl,⟨nd,rfl⟩⟩;(try first|exact ⟨rfl,_,World.drewN_drewN _ _ _⟩|exact ⟨rfl,_,Eq.trans (World.drewN_drewN _ _ _) (congrArg (World.drewN _) (Nat.add_assoc _ _ _))⟩)));try go_wp2_with (first|(go_at_call 68;(with_reducible refine (impl_bit.calls (rdOf false l0_0 x16_1) t278 _ A9.out).mono ?_);rintro e w' ⟨rfl,⟨nd,rfl⟩⟩;(try first|exact ⟨rfl,_,World.drewN_drewN _ _ _⟩|exact ⟨rfl,_,Eq.trans (World.drewN_drewN _ _ _) (congrArg (World.drewN _) (Nat.add_assoc _ _ _))⟩))))
      go_roundg k1
      case measure=>have:=HK1.out;omega
      case rel=>exact ⟨(Go.bits .or .i64 x3_1 (ji11)),(wrap64 (x16_1+1)),(by first|rfl|(simp;done)|(simp only[← hji11] <;> (first|rfl|simp))|(simp[*];done)),(by first|rfl|(simp;done)|(simp[*];done)),H',⟨by have:=HK1.out;omega⟩,⟨by (with_reducible repeat (first|refine kn' ?_ _|refine kd' ?_|refine ka' ?_ _));exact BK275.out⟩,⟨by repeat (first|(with_reducible first|exact HB.out|apply ba'|apply bd'|apply be'|refine bs' ?_ GE275.out)|exact HB.out)⟩⟩
     ·
      rw[if_neg c8] at H;exact absurd H (by simp)
    ·
     rw[if_neg c7] at H;exact absurd H (by simp)
   ·
    rw[if_neg c6] at H;have c6b0:decide (x16_1 < (l0_0.length:Int))=false:=decide_eq_false c6;clear c6;obtain rfl:=Option.some.inj H;go_wp2
    repeat (go_quiet (fail);try go_wp2)
    go_ret
    exact ⟨by first|rfl|(simp[errW_none,errW_some] <;> rfl)|(simp only[← hji3];first|rfl|(simp[errW_none,errW_some] <;> rfl))|(simp[*,errW_none,errW_some] <;> rfl),by repeat (first|(with_reducible first|exact HB.out|apply ba'|apply bd'|apply be'|refine bs' ?_ GE275.out)|exact HB.out)⟩
def impl_slowest.l0:Nat→List Int→Int→List Int→Int→Int→Option (Int)
 | 0,_,_,_,_,_=>none
 | k+1,x0,x5,x8,x9,x10=>if x10 < x9 then (if 0≤x10 then (if x10 < (x8.length:Int) then (if 0≤(rd x8 x10) then (if (rd x8 x10) < (x0.length:Int) then (impl_slowest.l0 k x0 (mx x5 (rd x0 (rd x8 x10))) x8 x9 (wrap64 (x10+1))) else (none)) else (none)) else (none)) else (none)) else (some x5)
def impl_slowest.f (k:Nat) (l0:List Int) (l1:List Int):Option (Int):=impl_slowest.l0 k l0 0 l1 (l1.length:Int) 0
set_option maxHeartbeats 8000000 in
set_option maxRecDepth 100000 in
theorem impl_slowest.calls (k:Nat) (A0:Option Addr) (c0:Nat) (l0:List Int) (A1:Option Addr) (c1:Nat) (l1:List Int) (r:Int) (w:World) (hr0:Kd.C (Kd.int .i64) w A0 l0.length l0) (hc0:l0.length≤c0) (hr1:Kd.C (Kd.int .i64) w A1 l1.length l1) (hc1:l1.length≤c1) (h:impl_slowest.f k l0 l1=some r) :
  Calls Try.prog 109 #[.slice A0 l0.length c0, .slice A1 l1.length c1] w fun e w'=>e = .returned (.int .i64 r)∧Below w.heap.size w w':=by
 have HR0:=am' hr0
 have HC0:=am' hc0
 clear hr0 hc0;have HR1:=am' hr1
 have HC1:=am' hc1
 clear hr1 hc1;have HB:=am' (Below.refl w.heap.size w)
 have H:(impl_slowest.l0 k l0 0 l1 (l1.length:Int) 0)=some r:=h
 clear h;have H':=am' H
 clear H;go_enter Try.func109,Try.ntmps109
 go_wp2
 go_loopg [5,10] k (fun kq v5 v10 w'=>∃ (x5_1:Int) (x10_1:Int),v5 = .int .i64 x5_1∧v10 = .int .i64 x10_1∧Aside0 (impl_slowest.l0 kq l0 x5_1 l1 (l1.length:Int) x10_1=some r)∧Aside0 (kq≤k)∧Aside0 (Below w.heap.size w w'))
 case atStart=>exact ⟨(0),(0),(by first|rfl|(simp;done)|(simp[*];done)),(by first|rfl|(simp;done)|(simp[*];done)),H',⟨Nat.le_refl _⟩,⟨by repeat (first|(with_reducible first|exact HB.out|apply ba'|apply bd'|apply be')|exact HB.out)⟩⟩
 case round =>
  clear H';try clear c1
  try clear p2
  obtain ⟨x5_1,x10_1,rfl,rfl,HA,HK1,HB⟩:=hrel;cases gk with
  | zero=>exact absurd HA.out (by simp[impl_slowest.l0])
  | succ k1 =>
   have H:=HA.out;clear HA;simp only[impl_slowest.l0] at H;by_cases c3:x10_1 < (l1.length:Int)
   ·
    rw[if_pos c3] at H;have c3b0:decide (x10_1 < (l1.length:Int))=true:=decide_eq_true c3;clear c3;by_cases c4:0≤x10_1
    ·
     rw[if_pos c4] at H;have c4b0:decide (0≤x10_1)=true:=decide_eq_true c4;clear c4;by_cases c5:x10_1 < (l1.length:Int)
     ·
      rw[if_pos c5] at H;have c5b0:decide (x10_1 < (l1.length:Int))=true:=decide_eq_true c5;clear c5;by_cases c6:0≤(rd l1 x10_1)
      ·
       rw[if_pos c6] at H;have c6b0:decide (0≤(rd l1 x10_1))=true:=decide_eq_true c6;clear c6;by_cases c7:(rd l1 x10_1) < (l0.length:Int)
       ·
        rw[if_pos c7] at H;have c7b0:decide ((rd l1 x10_1) < (l0.length:Int))=true:=decide_eq_true c7;clear c7;obtain ⟨ji8,hji8⟩:∃ j_:Int,(mx x5_1 (rd l0 (rd l1 x10_1)))=j_:=⟨_,rfl⟩
        replace H:(impl_slowest.l0 k1 l0 ji8 l1 (l1.length:Int) (wrap64 (x10_1+1)))=some r:=by first|(rw[hji8] at H;exact H)|(simp only[hji8] at H ⊢;exact H)
        have hji8_:(if x5_1 < (rd l0 (rd l1 x10_1)) then (rd l0 (rd l1 x10_1)) else x5_1)=ji8:=hji8;have H':=am' H;clear H;have p279:0≤(x10_1:Int):=of_decide_eq_true (by first|(with_reducible assumption)|assumption);have q279:x10_1 < (l1.length:Int):=of_decide_eq_true (by first|(with_reducible assumption)|assumption);obtain ⟨ad279,e279,hx279_0⟩:=Kd.at_int HR1.out x10_1 p279 q279;cases e279;replace hx279_0:=(HB.out.cell (bl' w _ hx279_0)).trans hx279_0;replace p279:=eq_true p279;replace q279:=eq_true q279;have p280:0≤((rd l1 x10_1):Int):=of_decide_eq_true (by first|(with_reducible assumption)|assumption);have q280:(rd l1 x10_1) < (l0.length:Int):=of_decide_eq_true (by first|(with_reducible assumption)|assumption);obtain ⟨ad280,e280,hx280_0⟩:=Kd.at_int HR0.out (rd l1 x10_1) p280 q280;cases e280;replace hx280_0:=(HB.out.cell (bl' w _ hx280_0)).trans hx280_0;replace p280:=eq_true p280;replace q280:=eq_true q280;go_wp2;go_roundg k1
        case measure=>have:=HK1.out;omega
        case rel=>exact ⟨(ji8),(wrap64 (x10_1+1)),(by first|rfl|(simp;done)|(simp only[← hji8] <;> (first|rfl|simp))|(simp[*];done)),(by first|rfl|(simp;done)|(simp[*];done)),H',⟨by have:=HK1.out;omega⟩,⟨by repeat (first|(with_reducible first|exact HB.out|apply ba'|apply bd'|apply be')|exact HB.out)⟩⟩
       ·
        rw[if_neg c7] at H;exact absurd H (by simp)
      ·
       rw[if_neg c6] at H;exact absurd H (by simp)
     ·
      rw[if_neg c5] at H;exact absurd H (by simp)
    ·
     rw[if_neg c4] at H;exact absurd H (by simp)
   ·
    rw[if_neg c3] at H;have c3b0:decide (x10_1 < (l1.length:Int))=false:=decide_eq_false c3;clear c3;obtain rfl:=Option.some.inj H;go_wp2;go_ret
    exact ⟨by first|rfl|(simp[errW_none,errW_some] <;> rfl)|(simp[*,errW_none,errW_some] <;> rfl),by repeat (first|(with_reducible first|exact HB.out|apply ba'|apply bd'|apply be')|exact HB.out)⟩
def slices_Clone_bool_bool.f (l0:List Bool):Option (List Bool):=if l0.length < 140737488355328 then some l0 else none
set_option maxHeartbeats 2000000 in
set_option maxRecDepth 100000 in
theorem slices_Clone_bool_bool.calls (A0:Option Addr) (c0:Nat) (l0:List Bool) (r:List Bool) (w:World) (hr0:Kd.C Kd.bool w A0 l0.length l0) (hc0:l0.length≤c0) (h:slices_Clone_bool_bool.f l0=some r) :
  Calls Try.prog 125 #[.slice A0 l0.length c0] w fun e w'=>∃ v0_:Value,e = .returned (v0_)∧Kd.R Kd.bool 4 w' w.heap.size (fun _=>True) v0_ r∧Below w.heap.size w w':=by
 have hinfo:(Try.prog.info? 4).map (fun i=>(i.zero,i.size,i.bytes))=some (some (.bool false),1,1):=by kernel_rfl
 obtain ⟨hlim,rfl⟩:l0.length < 140737488355328∧l0=r:=by
  unfold slices_Clone_bool_bool.f at h
  by_cases hl:l0.length < 140737488355328
  ·
   rw[if_pos hl] at h;exact ⟨hl,Option.some.inj h⟩
  ·
   rw[if_neg hl] at h;cases h
 clear h;cases A0 with
 | none =>
  obtain rfl:l0=[]:=by
   cases l0 with
   | nil=>rfl
   | cons x l=>obtain ⟨_,e,_⟩:=hr0.2.2 (by simp);cases e
  clear hr0 hc0 hlim hinfo;have heq:=fun (w:World) (n c:Nat)=>Lib.run_eql_slice_nil (P:=Try.prog) w 39 4 none n c 0 0 Try.underlying39
  go_enter Try.func125,Try.ntmps125;go_wp2;go_ret
  exact ⟨_,rfl,Kd.R_nil _ _ _ _ _,Below.refl _ _⟩
 | some a =>
  have HR0:=am' hr0;have HL:=am' hlim;have hie:=am' hinfo;clear hr0 hc0 hlim hinfo;have HB:=am' (Below.refl w.heap.size w);have heq:=fun (w:World) (n c:Nat)=>Lib.run_eql_slice_nil (P:=Try.prog) w 39 4 (some a) n c 0 0 Try.underlying39
  go_enter Try.func125,Try.ntmps125;go_wp2_with (first|((with_reducible refine gate_dst (N:=5) rfl ?_);refine Kd.R_lit Kd.bool _ 4 ?hg (N:=5) ?hd (xs:=([]:List Bool)) (inner:=[]) (ok:=fun _=>True) (okp:=fun _=>True) ?hr ?hp (fun _ hk=>hk) trivial (Below.refl _ _) (Nat.le_refl _) (by simp) ?_;(case hd=>rfl);(case hg=>rfl);(case hr=>first|(go_simp;done)|(go_simp;rfl));(case hp=>exact (Reps.none _ _));intro v210 w3 ho4 hb hg_ hnew_;clear hg_ hnew_;have n0_:=am' (Kd.R_lower ho4 (below_size HB.out));have n1_:=am' (below_step HB.out hb);clear HB;have HO211:=n0_;have HB:=n1_;clear n0_ n1_;clear hb ho4)|((with_reducible refine gate_builtin (b := .append) (xs:=#[.tmp 5, .tmp 6]) rfl ?_);at_builtin;refine Kd.R_append_rows Kd.bool (w0:=w) w.heap.size rfl (.tmp 5) (.tmp 6) 39 4 (.bool false) 1 rfl Try.underlying39 hie.out rfl (by decide) (by omega) v210 [] l0 _ _ _ (fun _=>True) (fun _=>False) rfl rfl ?aO ?aR (fun _ _ h=>h) (fun _ h=>h.elim) ?aF ?aB ?aS ?aL ?_;(case aR=>exact (Kd.C_below HR0.out HB.out));(case aB=>exact HB.out);(case aF=>exact (fun _ _=>trivial));(case aO=>exact HO211.out);(case aS=>exact (below_size HB.out));(case aL=>have:=HL.out;simp;omega);intro v213 w5 ho hb hg hat;have n0_:=am' (hb);have n1_:=am' (ho);clear HB;clear HO211;have HB:=n0_;have HO214:=n1_;clear n0_ n1_;clear ho hb hg hat));go_ret
  exact ⟨_,rfl,by simpa using HO214.out,HB.out⟩
def impl_State_moved.l0:Nat→List Int→Int→Int→List Bool→Bool→Option (List Bool × Bool)
 | 0,_,_,_,_,_=>none
 | k+1,x15,x16,x17,x287000,x287001=>if x17 < x16 then (if 0≤x17 then (if x17 < (x15.length:Int) then (if 0≤(rd x15 x17) then (if (rd x15 x17) < (x287000.length:Int) then (impl_State_moved.l0 k x15 x16 (wrap64 (x17+1)) (x287000.set ((rd x15 x17):Int).toNat x287001) x287001) else (none)) else (none)) else (none)) else (none)) else (some (x287000,x287001))
def impl_State_moved.f (k:Nat) (l0_0:List Bool) (a0_1:Bool) (l1:List Int):Option (List Bool × Bool):=(slices_Clone_bool_bool.f l0_0).bind fun t283=>(impl_State_moved.l0 k l1 (l1.length:Int) 0 t283 (!a0_1))
def impl_State_moved.T1:Bool × List (List Nat × List Nat):=(true,[([],[]),([0],[0]),([1],[1]),([],[]),([3],[3]),([4],[4]),([2,5],[2,5]),([],[]),([7,6,2,0,1,2,3,4,5,6,7],[6,7])])
def impl_State_moved.B1:List Nat:=[0,1,3,0,8,24,63,0,255]
theorem impl_State_moved.tab1:rtab .any (opsOf Try.f110 1)=impl_State_moved.T1:=by kernel_rfl
theorem impl_State_moved.bits1:waitsOk impl_State_moved.T1.2 impl_State_moved.B1=true:=by kernel_rfl
set_option maxHeartbeats 8000000 in
set_option maxRecDepth 100000 in
theorem impl_State_moved.calls (k:Nat) (A0_0:Option Addr) (c0_0:Nat) (l0_0:List Bool) (a0_1:Bool) (A1:Option Addr) (c1:Nat) (l1:List Int) (r1:List Bool) (r2:Bool) (w:World) (hr0_0:Kd.C Kd.bool w A0_0 l0_0.length l0_0) (hc0_0:l0_0.length≤c0_0) (hr1:Kd.C (Kd.int .i64) w A1 l1.length l1) (hc1:l1.length≤c1) (h:impl_State_moved.f k l0_0 a0_1 l1=some (r1,r2)) :
  Calls Try.prog 110 #[.agg #[.slice A0_0 l0_0.length c0_0, .bool a0_1], .slice A1 l1.length c1] w fun e w'=>∃ v0_:Value,e = .returned (.agg #[v0_, .bool r2])∧Kd.R Kd.bool 4 w' w.heap.size (fun _=>True) v0_ r1∧Below w.heap.size w w':=by
 have hu44:=Try.underlying44
 have HR0_0:=am' hr0_0
 have HC0_0:=am' hc0_0
 clear hr0_0 hc0_0;have HR1:=am' hr1
 have HC1:=am' hc1
 clear hr1 hc1;have HB:=am' (Below.refl w.heap.size w)
 have H:((slices_Clone_bool_bool.f l0_0).bind fun t283=>(impl_State_moved.l0 k l1 (l1.length:Int) 0 t283 (!a0_1)))=some (r1,r2):=h
 clear h;replace H:=Option.bind_eq_some_iff.mp H
 obtain ⟨t283,A30,H⟩:=H
 replace H:(impl_State_moved.l0 k l1 (l1.length:Int) 0 t283 (!a0_1))=some (r1,r2):=H
 have A3:=am' A30
 clear A30;have H':=am' H
 clear H;go_enter Try.func110,Try.ntmps110
 try go_wp2_with (first|((with_reducible refine gate_dst (N:=2) rfl ?_);refine box_event ?hg (N:=2) ?hd (cs:=#[.slice A0_0 l0_0.length c0_0, .bool a0_1]) (t:=44) ?hr ?_;(case hd=>rfl);(case hg=>rfl);(case hr=>first|(go_simp;done)|(go_simp;rfl));intro gb281 hg w4 hbox hb;have n0_:=am' (below_step (by repeat (first|(with_reducible first|exact HB.out|apply ba'|apply bd'|apply be')|exact HB.out)) hb);have n1_:=am' (hbox);have n2_:=am' ((by rw[hg];exact (below_size (by repeat (first|(with_reducible first|exact HB.out|apply ba'|apply bd'|apply be')|exact HB.out))):w.heap.size≤gb281));have n3_:=am' ((by rw[hg];exact (below_size (by repeat (first|(with_reducible first|exact HB.out|apply ba'|apply bd'|apply be')|exact HB.out))):w.heap.size≤gb281));clear HB;have HB:=n0_;have BK281:=n1_;have GW281:=n2_;have GE281:=n3_;clear n0_ n1_ n2_ n3_;clear hb hbox hg)|((with_reducible refine gate_dst (N:=4) rfl ?_);refine box_event ?hg (N:=4) ?hd (cs:=#[.slice none 0 0, .bool false]) (t:=44) ?hr ?_;(case hd=>rfl);(case hg=>rfl);(case hr=>first|(go_simp;done)|(go_simp;rfl));intro gb282 hg w5 hbox hb;have n0_:=am' (blk_below (g:=gb281) (o := .cells #[.slice A0_0 l0_0.length c0_0, .bool a0_1] 44 (0,0)) (by (with_reducible repeat (first|refine kn' ?_ _|refine kd' ?_|refine ka' ?_ _));exact BK281.out) hb);have n1_:=am' (below_step (by repeat (first|(with_reducible first|exact HB.out|apply ba'|apply bd'|apply be'|refine bs' ?_ GE281.out)|exact HB.out)) hb);have n2_:=am' (hbox);have n3_:=am' ((by rw[hg];exact (below_size (by repeat (first|(with_reducible first|exact HB.out|apply ba'|apply bd'|apply be'|refine bs' ?_ GE281.out)|exact HB.out))):w.heap.size≤gb282));have n4_:=am' ((by rw[hg];exact (below_size (by repeat (first|(with_reducible first|exact HB.out|apply ba'|apply bd'|apply be'|refine bs' ?_ GE281.out)|exact HB.out))):w.heap.size≤gb282));have n5_:=am' ((by rw[hg];exact Nat.ne_of_lt (blk_lt (g:=gb281) (o := .cells #[.slice A0_0 l0_0.length c0_0, .bool a0_1] 44 (0,0)) (by (with_reducible repeat (first|refine kn' ?_ _|refine kd' ?_|refine ka' ?_ _));exact BK281.out)):gb281≠gb282));have n6_:=am' ((by rw[hg];exact Nat.ne_of_gt (blk_lt (g:=gb281) (o := .cells #[.slice A0_0 l0_0.length c0_0, .bool a0_1] 44 (0,0)) (by (with_reducible repeat (first|refine kn' ?_ _|refine kd' ?_|refine ka' ?_ _));exact BK281.out)):gb282≠gb281));clear BK281;clear HB;have BK281:=n0_;have HB:=n1_;have BK282:=n2_;have GW282:=n3_;have GE282:=n4_;have NB281_282:=n5_;have NB282_281:=n6_;clear n0_ n1_ n2_ n3_ n4_ n5_ n6_;clear hb hbox hg))
 have n0_:=am' (kd' BK281.out)
 have n1_:=am' (kd' BK282.out)
 have n2_:=am' (be' HB.out)
 clear BK281;clear BK282;clear HB;have BK281:=n0_;have BK282:=n1_;have HB:=n2_;clear n0_ n1_ n2_;refine start_ (n:=9) (S:=fun w'=>w'.cell? ⟨gb281,0,none⟩=some (.slice A0_0 l0_0.length c0_0)∧w'.cell? ⟨gb281,1,none⟩=some (.bool a0_1)) (ds:=[]) #[false,false,false,false,false,false,false,false,false] (by kernel_rfl) rfl rfl ⟨(blk_cell BK281.out 0).trans rfl,(blk_cell BK281.out 1).trans rfl⟩ (fun hHeld=>?_);refine with_tabW impl_State_moved.tab1 impl_State_moved.bits1 (fun HT_ HW_=>?_)
 generalize w5.drew=w6 at BK281 BK282 HB hHeld ⊢
 refine pure_ (i:=0) (N:=some 8) (v:=?_) (a':=?_) #[true,false,false,false,false,false,false,false,false] rfl rfl (any_of HT_.out (by kernel_rfl)) (fun _ _ _ h=>h) (Or.inl ⟨by rfl,?_⟩) ?_ ?_
 rotate_left
 ·
  intro w';go_simp;with_reducible rfl
 rotate_left
 ·
  simp only[Act.put,sa',sb',sc',i64_w,i32_w];rfl
 refine pure_ (i:=3) (N:=some 11) (v:=?_) (a':=?_) #[true,false,false,true,false,false,false,false,false] rfl rfl (any_of HT_.out (by kernel_rfl)) (fun _ _ _ h=>h) (Or.inl ⟨by rfl,?_⟩) ?_ ?_
 rotate_left
 ·
  intro w';go_simp;with_reducible rfl
 rotate_left
 ·
  simp only[Act.put,sa',sb',sc',i64_w,i32_w];rfl
 refine take_ (i:=1) (N:=some 9) (v:=?_) (a':=?_) #[true,true,false,true,false,false,false,false,false] rfl rfl (take_ofW HT_.out HW_.out (by kernel_rfl)) (fun _ _ _ h=>h) (Or.inl ⟨by rfl,?_⟩) hHeld ?_ ?_
 rotate_left
 ·
  rintro w' ⟨s0,s1⟩
  go_simp;with_reducible rfl
 rotate_left
 ·
  simp only[Act.put,sa',sb',sc',i64_w,i32_w];rfl
 refine take_ (i:=4) (N:=some 12) (v:=?_) (a':=?_) #[true,true,false,true,true,false,false,false,false] rfl rfl (take_ofW HT_.out HW_.out (by kernel_rfl)) (fun _ _ _ h=>h) (Or.inl ⟨by rfl,?_⟩) hHeld ?_ ?_
 rotate_left
 ·
  rintro w' ⟨s0,s1⟩
  go_simp;with_reducible rfl
 rotate_left
 ·
  simp only[Act.put,sa',sb',sc',i64_w,i32_w];rfl
 refine pure_ (i:=5) (N:=some 13) (v:=?_) (a':=?_) #[true,true,false,true,true,true,false,false,false] rfl rfl (any_of HT_.out (by kernel_rfl)) (fun _ _ _ h=>h) (Or.inl ⟨by rfl,?_⟩) ?_ ?_
 rotate_left
 ·
  intro w';go_simp;with_reducible rfl
 rotate_left
 ·
  simp only[Act.put,sa',sb',sc',i64_w,i32_w];rfl
 refine join_ (σ:=Value × Nat) 1 #[true,true,true,true,true,true,true,true,false] (fun s_=>[(10,s_.1),(5, .pointer (some ⟨s_.2,0,none⟩)),(14, .agg #[s_.1, .bool (!a0_1)])]) (fun s_ w'=>(w'.cell? ⟨gb281,0,none⟩=some (.slice A0_0 l0_0.length c0_0)∧w'.cell? ⟨gb281,1,none⟩=some (.bool a0_1))∧(Kd.R Kd.bool 4 w' w.heap.size (fun _=>True) s_.1 t283)∧(w'.heap[gb281]? = some (.cells #[.slice A0_0 l0_0.length c0_0, .bool a0_1] 44 (0,0)))∧(w'.heap[gb282]? = some (.cells #[.slice none 0 0, .bool false] 44 (0,0)))∧(w'.heap[s_.2]? = some (.cells #[.slice none 0 0, .bool false] 44 (0,0)))∧(w.heap.size≤s_.2)∧(w.heap.size≤s_.2)∧(gb281≠s_.2)∧(s_.2≠gb281)∧(gb282≠s_.2)∧(s_.2≠gb282)∧(Below w.heap.size w w')) ?_ ?_
 rotate_left
 ·
  intro hCont;refine two_ (i:=2) (j:=7) (Ni:=some 10) (Nj:=some 5) #[true,true,true,true,true,true,false,false,false] #[true,true,false,true,true,true,false,true,false] rfl rfl rfl rfl (two_of HT_.out (by kernel_rfl)) (by decide) (by decide) (fun K hK=>?_) (fun K hK=>?_)
  ·
   skip
   refine goes_ Try.func125 (by kernel_rfl) rfl #[.slice A0_0 l0_0.length c0_0] (by rfl) rfl rfl (by (try simp only[List.map_toArray,List.map_cons,List.map_nil]);first|done|rfl|(simp only[List.length_drop,List.length_take];rfl)) ?_
   with_reducible refine (slices_Clone_bool_bool.calls _ _ l0_0 t283 _ ?side1 ?side2 A3.out).mono ?_
   (case side1=>repeat (first|exact (Kd.C_below HR0_0.out HB.out)|(with_reducible refine ca' ?_ _)|(with_reducible refine cn' ?_ _)|(with_reducible refine cd' ?_)))
   (case side2=>exact HC0_0.out)
   rintro e w7 ⟨v284,rfl,ho0,hb⟩
   refine ⟨_,rfl,?_⟩;have n0_:=am' (Kd.R_lower ho0 (below_size (by repeat (first|(with_reducible first|exact HB.out|apply ba'|apply bd'|apply be'|refine bs' ?_ GE281.out|refine bs' ?_ GE282.out)|exact HB.out))));have n1_:=am' (blk_below (g:=gb281) (o := .cells #[.slice A0_0 l0_0.length c0_0, .bool a0_1] 44 (0,0)) (by (with_reducible repeat (first|refine kn' ?_ _|refine kd' ?_|refine ka' ?_ _));exact BK281.out) hb);have n2_:=am' (blk_below (g:=gb282) (o := .cells #[.slice none 0 0, .bool false] 44 (0,0)) (by (with_reducible repeat (first|refine kn' ?_ _|refine kd' ?_|refine ka' ?_ _));exact BK282.out) hb);have n3_:=am' (below_step (by repeat (first|(with_reducible first|exact HB.out|apply ba'|apply bd'|apply be'|refine bs' ?_ GE281.out|refine bs' ?_ GE282.out)|exact HB.out)) hb);clear BK281;clear BK282;clear HB;have HO285:=n0_;have BK281:=n1_;have BK282:=n2_;have HB:=n3_;clear n0_ n1_ n2_ n3_;(try clear hb)
   (try clear hb2)
   (try clear hk)
   (try clear hi)
   (try clear ho0)
   obtain ⟨Ao8,co8,eo8⟩:=Kd.R_slice HO285.out
   (first|subst eo8|(injection eo8 with f1_ f2_ f3_;have f4_:=f1_.symm;have f5_:=f3_.symm;clear f1_ f2_ f3_;subst f4_;subst f5_))
   refine hK.out _ _ ⟨(blk_cell BK281.out 0).trans rfl,(blk_cell BK281.out 1).trans rfl⟩ (fun hHeld=>?_);clear hK K;refine norm_ (a':=?_) ?_ ?_
   rotate_left
   ·
    show Act.put _ (some 10) _=_
    simp only[Act.put,sa',sb',sc',i64_w,i32_w];rfl
   refine pure_ (i:=6) (N:=some 14) (v:=?_) (a':=?_) #[true,true,true,true,true,true,true,false,false] rfl rfl (any_of HT_.out (by kernel_rfl)) (fun _ _ _ h=>h) (Or.inl ⟨by rfl,?_⟩) ?_ ?_
   rotate_left
   ·
    intro w';go_simp;with_reducible rfl
   rotate_left
   ·
    simp only[Act.put,sa',sb',sc',i64_w,i32_w];rfl
   refine one_ (i:=7) (N:=some 5) #[true,true,true,true,true,true,true,true,false] rfl rfl (one_of HT_.out (by kernel_rfl)) (by decide) (fun K hK=>?_);refine box_step ?hg (N:=5) ?hd (cs:=#[.slice none 0 0, .bool false]) (t:=44) ?hr ?_;(case hd=>rfl);(case hg=>rfl);(case hr=>first|(go_simp;done)|(go_simp;rfl))
   intro gb286 hg w9 hbox hb;have n0_:=am' (Kd.R_below (by (with_reducible repeat (first|apply ra'|apply rn'|apply rw'));exact HO285.out) hb);have n1_:=am' (blk_below (g:=gb281) (o := .cells #[.slice A0_0 l0_0.length c0_0, .bool a0_1] 44 (0,0)) (by (with_reducible repeat (first|refine kn' ?_ _|refine kd' ?_|refine ka' ?_ _));exact BK281.out) hb);have n2_:=am' (blk_below (g:=gb282) (o := .cells #[.slice none 0 0, .bool false] 44 (0,0)) (by (with_reducible repeat (first|refine kn' ?_ _|refine kd' ?_|refine ka' ?_ _));exact BK282.out) hb);have n3_:=am' (below_step (by repeat (first|(with_reducible first|exact HB.out|apply ba'|apply bd'|apply be'|refine bs' ?_ GE281.out|refine bs' ?_ GE282.out)|exact HB.out)) hb);have n4_:=am' (hbox);have n5_:=am' ((by rw[hg];exact (below_size (by repeat (first|(with_reducible first|exact HB.out|apply ba'|apply bd'|apply be'|refine bs' ?_ GE281.out|refine bs' ?_ GE282.out)|exact HB.out))):w.heap.size≤gb286));have n6_:=am' ((by rw[hg];exact (below_size (by repeat (first|(with_reducible first|exact HB.out|apply ba'|apply bd'|apply be'|refine bs' ?_ GE281.out|refine bs' ?_ GE282.out)|exact HB.out))):w.heap.size≤gb286));have n7_:=am' ((by rw[hg];exact Nat.ne_of_lt (blk_lt (g:=gb281) (o := .cells #[.slice A0_0 l0_0.length c0_0, .bool a0_1] 44 (0,0)) (by (with_reducible repeat (first|refine kn' ?_ _|refine kd' ?_|refine ka' ?_ _));exact BK281.out)):gb281≠gb286));have n8_:=am' ((by rw[hg];exact Nat.ne_of_gt (blk_lt (g:=gb281) (o := .cells #[.slice A0_0 l0_0.length c0_0, .bool a0_1] 44 (0,0)) (by (with_reducible repeat (first|refine kn' ?_ _|refine kd' ?_|refine ka' ?_ _));exact BK281.out)):gb286≠gb281));have n9_:=am' ((by rw[hg];exact Nat.ne_of_lt (blk_lt (g:=gb282) (o := .cells #[.slice none 0 0, .bool false] 44 (0,0)) (by (with_reducible repeat (first|refine kn' ?_ _|refine kd' ?_|refine ka' ?_ _));exact BK282.out)):gb282≠gb286));have n10_:=am' ((by rw[hg];exact Nat.ne_of_gt (blk_lt (g:=gb282) (o := .cells #[.slice none 0 0, .bool false] 44 (0,0)) (by (with_reducible repeat (first|refine kn' ?_ _|refine kd' ?_|refine ka' ?_ _));exact BK282.out)):gb286≠gb282));clear HO285;clear BK281;clear BK282;clear HB;have HO285:=n0_;have BK281:=n1_;have BK282:=n2_;have HB:=n3_;have BK286:=n4_;have GW286:=n5_;have GE286:=n6_;have NB281_286:=n7_;have NB286_281:=n8_;have NB282_286:=n9_;have NB286_282:=n10_;clear n0_ n1_ n2_ n3_ n4_ n5_ n6_ n7_ n8_ n9_ n10_;clear hb hbox hg;refine hK.out _ _ ⟨(blk_cell BK281.out 0).trans rfl,(blk_cell BK281.out 1).trans rfl⟩ (fun hHeld=>?_);clear hK K;refine norm_ (a':=?_) ?_ ?_
   rotate_left
   ·
    show Act.put _ (some 5) _=_
    simp only[Act.put,sa',sb',sc',i64_w,i32_w];rfl
   exact norm_ (by simp only[putAll,Act.put,sa',sb',sc']) (hCont (.slice Ao8 t283.length co8,gb286) _ ⟨hHeld,(by (with_reducible repeat (first|apply ra'|apply rn'|apply rw'));exact HO285.out),(by (with_reducible repeat (first|refine kn' ?_ _|refine kd' ?_|refine ka' ?_ _));exact BK281.out),(by (with_reducible repeat (first|refine kn' ?_ _|refine kd' ?_|refine ka' ?_ _));exact BK282.out),(by (with_reducible repeat (first|refine kn' ?_ _|refine kd' ?_|refine ka' ?_ _));exact BK286.out),GW286.out,GE286.out,NB281_286.out,NB286_281.out,NB282_286.out,NB286_282.out,(by repeat (first|(with_reducible first|exact HB.out|apply ba'|apply bd'|apply be'|refine bs' ?_ GE281.out|refine bs' ?_ GE282.out|refine bs' ?_ GE286.out)|exact HB.out))⟩)
  ·
   skip
   refine box_step ?hg (N:=5) ?hd (cs:=#[.slice none 0 0, .bool false]) (t:=44) ?hr ?_;(case hd=>rfl);(case hg=>rfl);(case hr=>first|(go_simp;done)|(go_simp;rfl))
   intro gb286 hg w7 hbox hb;have n0_:=am' (blk_below (g:=gb281) (o := .cells #[.slice A0_0 l0_0.length c0_0, .bool a0_1] 44 (0,0)) (by (with_reducible repeat (first|refine kn' ?_ _|refine kd' ?_|refine ka' ?_ _));exact BK281.out) hb);have n1_:=am' (blk_below (g:=gb282) (o := .cells #[.slice none 0 0, .bool false] 44 (0,0)) (by (with_reducible repeat (first|refine kn' ?_ _|refine kd' ?_|refine ka' ?_ _));exact BK282.out) hb);have n2_:=am' (below_step (by repeat (first|(with_reducible first|exact HB.out|apply ba'|apply bd'|apply be'|refine bs' ?_ GE281.out|refine bs' ?_ GE282.out)|exact HB.out)) hb);have n3_:=am' (hbox);have n4_:=am' ((by rw[hg];exact (below_size (by repeat (first|(with_reducible first|exact HB.out|apply ba'|apply bd'|apply be'|refine bs' ?_ GE281.out|refine bs' ?_ GE282.out)|exact HB.out))):w.heap.size≤gb286));have n5_:=am' ((by rw[hg];exact (below_size (by repeat (first|(with_reducible first|exact HB.out|apply ba'|apply bd'|apply be'|refine bs' ?_ GE281.out|refine bs' ?_ GE282.out)|exact HB.out))):w.heap.size≤gb286));have n6_:=am' ((by rw[hg];exact Nat.ne_of_lt (blk_lt (g:=gb281) (o := .cells #[.slice A0_0 l0_0.length c0_0, .bool a0_1] 44 (0,0)) (by (with_reducible repeat (first|refine kn' ?_ _|refine kd' ?_|refine ka' ?_ _));exact BK281.out)):gb281≠gb286));have n7_:=am' ((by rw[hg];exact Nat.ne_of_gt (blk_lt (g:=gb281) (o := .cells #[.slice A0_0 l0_0.length c0_0, .bool a0_1] 44 (0,0)) (by (with_reducible repeat (first|refine kn' ?_ _|refine kd' ?_|refine ka' ?_ _));exact BK281.out)):gb286≠gb281));have n8_:=am' ((by rw[hg];exact Nat.ne_of_lt (blk_lt (g:=gb282) (o := .cells #[.slice none 0 0, .bool false] 44 (0,0)) (by (with_reducible repeat (first|refine kn' ?_ _|refine kd' ?_|refine ka' ?_ _));exact BK282.out)):gb282≠gb286));have n9_:=am' ((by rw[hg];exact Nat.ne_of_gt (blk_lt (g:=gb282) (o := .cells #[.slice none 0 0, .bool false] 44 (0,0)) (by (with_reducible repeat (first|refine kn' ?_ _|refine kd' ?_|refine ka' ?_ _));exact BK282.out)):gb286≠gb282));clear BK281;clear BK282;clear HB;have BK281:=n0_;have BK282:=n1_;have HB:=n2_;have BK286:=n3_;have GW286:=n4_;have GE286:=n5_;have NB281_286:=n6_;have NB286_281:=n7_;have NB282_286:=n8_;have NB286_282:=n9_;clear n0_ n1_ n2_ n3_ n4_ n5_ n6_ n7_ n8_ n9_;clear hb hbox hg;refine hK.out _ _ ⟨(blk_cell BK281.out 0).trans rfl,(blk_cell BK281.out 1).trans rfl⟩ (fun hHeld=>?_);clear hK K;refine norm_ (a':=?_) ?_ ?_
   rotate_left
   ·
    show Act.put _ (some 5) _=_
    simp only[Act.put,sa',sb',sc',i64_w,i32_w];rfl
   refine one_ (i:=2) (N:=some 10) #[true,true,true,true,true,true,false,true,false] rfl rfl (one_of HT_.out (by kernel_rfl)) (by decide) (fun K hK=>?_);refine goes_ Try.func125 (by kernel_rfl) rfl #[.slice A0_0 l0_0.length c0_0] (by rfl) rfl rfl (by (try simp only[List.map_toArray,List.map_cons,List.map_nil]);first|done|rfl|(simp only[List.length_drop,List.length_take];rfl)) ?_
   with_reducible refine (slices_Clone_bool_bool.calls _ _ l0_0 t283 _ ?side1 ?side2 A3.out).mono ?_
   (case side1=>repeat (first|exact (Kd.C_below HR0_0.out HB.out)|(with_reducible refine ca' ?_ _)|(with_reducible refine cn' ?_ _)|(with_reducible refine cd' ?_)))
   (case side2=>exact HC0_0.out)
   rintro e w8 ⟨v284,rfl,ho0,hb⟩
   refine ⟨_,rfl,?_⟩;have n0_:=am' (Kd.R_lower ho0 (below_size (by repeat (first|(with_reducible first|exact HB.out|apply ba'|apply bd'|apply be'|refine bs' ?_ GE281.out|refine bs' ?_ GE282.out|refine bs' ?_ GE286.out)|exact HB.out))));have n1_:=am' (blk_below (g:=gb281) (o := .cells #[.slice A0_0 l0_0.length c0_0, .bool a0_1] 44 (0,0)) (by (with_reducible repeat (first|refine kn' ?_ _|refine kd' ?_|refine ka' ?_ _));exact BK281.out) hb);have n2_:=am' (blk_below (g:=gb282) (o := .cells #[.slice none 0 0, .bool false] 44 (0,0)) (by (with_reducible repeat (first|refine kn' ?_ _|refine kd' ?_|refine ka' ?_ _));exact BK282.out) hb);have n3_:=am' (blk_below (g:=gb286) (o := .cells #[.slice none 0 0, .bool false] 44 (0,0)) (by (with_reducible repeat (first|refine kn' ?_ _|refine kd' ?_|refine ka' ?_ _));exact BK286.out) hb);have n4_:=am' (below_step (by repeat (first|(with_reducible first|exact HB.out|apply ba'|apply bd'|apply be'|refine bs' ?_ GE281.out|refine bs' ?_ GE282.out|refine bs' ?_ GE286.out)|exact HB.out)) hb);clear BK281;clear BK282;clear BK286;clear HB;have HO285:=n0_;have BK281:=n1_;have BK282:=n2_;have BK286:=n3_;have HB:=n4_;clear n0_ n1_ n2_ n3_ n4_;(try clear hb)
   (try clear hb2)
   (try clear hk)
   (try clear hi)
   (try clear ho0)
   obtain ⟨Ao9,co9,eo9⟩:=Kd.R_slice HO285.out
   (first|subst eo9|(injection eo9 with f1_ f2_ f3_;have f4_:=f1_.symm;have f5_:=f3_.symm;clear f1_ f2_ f3_;subst f4_;subst f5_))
   refine hK.out _ _ ⟨(blk_cell BK281.out 0).trans rfl,(blk_cell BK281.out 1).trans rfl⟩ (fun hHeld=>?_);clear hK K;refine norm_ (a':=?_) ?_ ?_
   rotate_left
   ·
    show Act.put _ (some 10) _=_
    simp only[Act.put,sa',sb',sc',i64_w,i32_w];rfl
   refine pure_ (i:=6) (N:=some 14) (v:=?_) (a':=?_) #[true,true,true,true,true,true,true,true,false] rfl rfl (any_of HT_.out (by kernel_rfl)) (fun _ _ _ h=>h) (Or.inl ⟨by rfl,?_⟩) ?_ ?_
   rotate_left
   ·
    intro w';go_simp;with_reducible rfl
   rotate_left
   ·
    simp only[Act.put,sa',sb',sc',i64_w,i32_w];rfl
   exact norm_ (by simp only[putAll,Act.put,sa',sb',sc']) (hCont (.slice Ao9 t283.length co9,gb286) _ ⟨hHeld,(by (with_reducible repeat (first|apply ra'|apply rn'|apply rw'));exact HO285.out),(by (with_reducible repeat (first|refine kn' ?_ _|refine kd' ?_|refine ka' ?_ _));exact BK281.out),(by (with_reducible repeat (first|refine kn' ?_ _|refine kd' ?_|refine ka' ?_ _));exact BK282.out),(by (with_reducible repeat (first|refine kn' ?_ _|refine kd' ?_|refine ka' ?_ _));exact BK286.out),GW286.out,GE286.out,NB281_286.out,NB286_281.out,NB282_286.out,NB286_282.out,(by repeat (first|(with_reducible first|exact HB.out|apply ba'|apply bd'|apply be'|refine bs' ?_ GE281.out|refine bs' ?_ GE282.out|refine bs' ?_ GE286.out)|exact HB.out))⟩)
 rintro ⟨v284,gb286⟩ w10 ⟨hS_,h0_,h1_,h2_,h3_,h4_,h5_,h6_,h7_,h8_,h9_,h10_⟩
 have n0_:Aside0 (Kd.R Kd.bool 4 w10 w.heap.size (fun _=>True) v284 t283):=⟨h0_⟩
 have n1_:Aside0 (w10.heap[gb281]? = some (.cells #[.slice A0_0 l0_0.length c0_0, .bool a0_1] 44 (0,0))):=⟨h1_⟩
 have n2_:Aside0 (w10.heap[gb282]? = some (.cells #[.slice none 0 0, .bool false] 44 (0,0))):=⟨h2_⟩
 have n3_:Aside0 (w10.heap[gb286]? = some (.cells #[.slice none 0 0, .bool false] 44 (0,0))):=⟨h3_⟩
 have n4_:Aside0 (w.heap.size≤gb286):=⟨h4_⟩
 have n5_:Aside0 (w.heap.size≤gb286):=⟨h5_⟩
 have n6_:Aside0 (gb281≠gb286):=⟨h6_⟩
 have n7_:Aside0 (gb286≠gb281):=⟨h7_⟩
 have n8_:Aside0 (gb282≠gb286):=⟨h8_⟩
 have n9_:Aside0 (gb286≠gb282):=⟨h9_⟩
 have n10_:Aside0 (Below w.heap.size w w10):=⟨h10_⟩
 clear BK281;clear BK282;clear HB;clear h0_ h1_ h2_ h3_ h4_ h5_ h6_ h7_ h8_ h9_ h10_;have HO285:=n0_;have BK281:=n1_;have BK282:=n2_;have BK286:=n3_;have GW286:=n4_;have GE286:=n5_;have NB281_286:=n6_;have NB286_281:=n7_;have NB282_286:=n8_;have NB286_282:=n9_;have HB:=n10_;clear n0_ n1_ n2_ n3_ n4_ n5_ n6_ n7_ n8_ n9_ n10_;have hHeld:w10.cell? ⟨gb281,0,none⟩=some (.slice A0_0 l0_0.length c0_0)∧w10.cell? ⟨gb281,1,none⟩=some (.bool a0_1):=hS_
 obtain ⟨Ao11,co11,eo11⟩:=Kd.R_slice HO285.out
 (first|subst eo11|(injection eo11 with f1_ f2_ f3_;have f4_:=f1_.symm;have f5_:=f3_.symm;clear f1_ f2_ f3_;subst f4_;subst f5_))
 refine norm_ (a':=?_) ?_ ?_
 rotate_left
 ·
  simp only[putAll,Act.put,sa',sb',sc'];rfl
 refine one_ (i:=8) (N:=none) #[true,true,true,true,true,true,true,true,true] rfl rfl (one_of HT_.out (by kernel_rfl)) (by decide) (fun K hK=>?_)
 have hs12:w10.cell? ⟨gb286,0,none⟩=some (.slice none 0 0):=(blk_cell BK286.out 0).trans rfl
 have hfs12:=blk_frozen BK286.out 0
 have hns12_0:=NB281_286.out
 have hns12_1:=NB282_286.out
 have hms12_0:=NB286_281.out
 have hms12_1:=NB286_282.out
 have hs13:w10.cell? ⟨gb286,1,none⟩=some (.bool false):=(blk_cell BK286.out 1).trans rfl
 have hfs13:=blk_frozen BK286.out 1
 have hns13_0:=NB281_286.out
 have hns13_1:=NB282_286.out
 have hms13_0:=NB286_281.out
 have hms13_1:=NB286_282.out
 refine skip_ (w1:=?_) (by rfl) rfl ?_ ?_
 rotate_left
 ·
  go_simp;rfl
 refine hK.out _ _ ⟨((cell_far (p:=⟨gb286,_,none⟩) NB281_286.out _).trans (((cell_far (p:=⟨gb286,_,none⟩) NB281_286.out _).trans (hHeld.1)))),((cell_far (p:=⟨gb286,_,none⟩) NB281_286.out _).trans (((cell_far (p:=⟨gb286,_,none⟩) NB281_286.out _).trans (hHeld.2))))⟩ (fun hHeld=>?_)
 clear hK K;refine done_ (done_of HT_.out (by kernel_rfl)) ?_
 try go_wp2
 go_loopg [17] k (fun kq v17 w'=>∃ (x17_1:Int) (x287000_1:List Bool) (u287000:Value),v17 = .int .i64 x17_1∧Aside0 (impl_State_moved.l0 kq l1 (l1.length:Int) x17_1 x287000_1 (!a0_1)=some (r1,r2))∧Aside0 (kq≤k)∧Aside0 (Kd.R Kd.bool 4 w' w.heap.size (fun _=>True) u287000 x287000_1)∧Aside0 (w'.heap[gb281]? = some (.cells #[(.slice A0_0 l0_0.length c0_0), .bool a0_1] 44 (0,0)))∧Aside0 (w'.heap[gb282]? = some (.cells #[(.slice none 0 0), .bool false] 44 (0,0)))∧Aside0 (w'.heap[gb286]? = some (.cells #[u287000, .bool (!a0_1)] 44 (0,0)))∧Aside0 (Below w.heap.size w w'))
 case atStart=>exact ⟨(0),(t283),(.slice Ao11 t283.length co11),(by first|rfl|(simp;done)|(simp[*];done)),H',⟨Nat.le_refl _⟩,⟨by (with_reducible repeat (first|apply ra'|apply rn'|apply rw'));exact Kd.R_mono (Kd.R_far (p:=⟨gb286,1,none⟩) (Kd.R_far (p:=⟨gb286,0,none⟩) (Kd.R_types HO285.out BK286.out (by decide)) (fun _ hk=>hk.2) (.slice Ao11 t283.length co11)) (fun _ hk=>hk.2) (.bool (!a0_1))) (fun _ hk=>trivial)⟩,⟨by (with_reducible repeat (first|refine kn' ?_ _|refine kd' ?_|refine ka' ?_ _));refine blk_far ?_ NB281_286.out _;(with_reducible repeat (first|refine kn' ?_ _|refine kd' ?_|refine ka' ?_ _));refine blk_far ?_ NB281_286.out _;(with_reducible repeat (first|refine kn' ?_ _|refine kd' ?_|refine ka' ?_ _));exact BK281.out⟩,⟨by (with_reducible repeat (first|refine kn' ?_ _|refine kd' ?_|refine ka' ?_ _));refine blk_far ?_ NB282_286.out _;(with_reducible repeat (first|refine kn' ?_ _|refine kd' ?_|refine ka' ?_ _));refine blk_far ?_ NB282_286.out _;(with_reducible repeat (first|refine kn' ?_ _|refine kd' ?_|refine ka' ?_ _));exact BK282.out⟩,⟨by (with_reducible repeat (first|refine kn' ?_ _|refine kd' ?_|refine ka' ?_ _));refine blk_put (cs:=#[.slice Ao11 t283.length co11, .bool false]) ?_ 1 _ rfl;(with_reducible repeat (first|refine kn' ?_ _|refine kd' ?_|refine ka' ?_ _));refine blk_put (cs:=#[.slice none 0 0, .bool false]) ?_ 0 _ rfl;(with_reducible repeat (first|refine kn' ?_ _|refine kd' ?_|refine ka' ?_ _));exact BK286.out⟩,⟨by repeat (first|(with_reducible first|exact HB.out|apply ba'|apply bd'|apply be'|refine bs' ?_ GE281.out|refine bs' ?_ GE282.out|refine bs' ?_ GE286.out)|exact HB.out)⟩⟩
 case round =>
  clear H';try clear c1
  try clear p2
  try clear c11
  try clear c12
  obtain ⟨x17_1,x287000_1,u287000,rfl,HA,HK1,HO_287000,BK281,BK282,BK286,HB⟩:=hrel;cases gk with
  | zero=>exact absurd HA.out (by simp[impl_State_moved.l0])
  | succ k1 =>
   have H:=HA.out;clear HA;simp only[impl_State_moved.l0] at H;by_cases c14:x17_1 < (l1.length:Int)
   ·
    rw[if_pos c14] at H;have c14b0:decide (x17_1 < (l1.length:Int))=true:=decide_eq_true c14;clear c14;by_cases c15:0≤x17_1
    ·
     rw[if_pos c15] at H;have c15b0:decide (0≤x17_1)=true:=decide_eq_true c15;clear c15;by_cases c16:x17_1 < (l1.length:Int)
     ·
      rw[if_pos c16] at H;have c16b0:decide (x17_1 < (l1.length:Int))=true:=decide_eq_true c16;clear c16;by_cases c17:0≤(rd l1 x17_1)
      ·
       rw[if_pos c17] at H;have c17b0:decide (0≤(rd l1 x17_1))=true:=decide_eq_true c17;clear c17;by_cases c18:(rd l1 x17_1) < (x287000_1.length:Int)
       ·
        rw[if_pos c18] at H;have c18b0:decide ((rd l1 x17_1) < (x287000_1.length:Int))=true:=decide_eq_true c18;clear c18;obtain ⟨y288,hy288⟩:∃ y_:List Bool,y_=(x287000_1.set ((rd l1 x17_1):Int).toNat (!a0_1)):=⟨_,rfl⟩
        replace H:(impl_State_moved.l0 k1 l1 (l1.length:Int) (wrap64 (x17_1+1)) y288 (!a0_1))=some (r1,r2):=by first|(rw[hy288];with_reducible exact H)|(have H2_:=(Option.bind_some _ _).symm.trans H;rw[hy288];with_reducible exact H2_)|(have H2_:=(Option.bind_some _ _).symm.trans H;with_reducible exact H2_)|with_reducible exact H|(rw[hy288];exact H)|exact H
        have Ny288:=am' hy288;clear hy288;have H':=am' H;clear H;have p287:0≤(x17_1:Int):=of_decide_eq_true (by first|(with_reducible assumption)|assumption);have q287:x17_1 < (l1.length:Int):=of_decide_eq_true (by first|(with_reducible assumption)|assumption);obtain ⟨ad287,e287,hx287_0⟩:=Kd.at_int HR1.out x17_1 p287 q287;cases e287;replace hx287_0:=(HB.out.cell (bl' w _ hx287_0)).trans hx287_0;replace p287:=eq_true p287;replace q287:=eq_true q287;have hnb20:=NB286_281.out;have hnc20:=NB281_286.out;have hnb21:=NB286_282.out;have hnc21:=NB282_286.out;have hcz22_0:wr.cell? ⟨gb286,0,none⟩=some (u287000):=(blk_cell BK286.out 0).trans rfl;have hcz22_1:wr.cell? ⟨gb286,1,none⟩=some (.bool (!a0_1)):=(blk_cell BK286.out 1).trans rfl;have hfz22_0:=blk_frozen BK286.out 0;have hfz22_1:=blk_frozen BK286.out 1;have p19:0≤((rd l1 x17_1):Int):=of_decide_eq_true (by first|(with_reducible assumption)|assumption);have q19:((rd l1 x17_1):Int) < ((x287000_1.length:Int):Int):=of_decide_eq_true (by first|(with_reducible assumption)|assumption);obtain ⟨go19,co19,eo19,gb19,gl19,cl19,HG19⟩:=Kd.R_form HO_287000.out (by omega)
        (first|cases eo19|(injection eo19 with ea_ en_ ec_;(first|subst ea_|(injection ea_ with ea_;subst ea_));subst ec_;clear en_))
        have GB19:=am' gb19;have GG19:=am' HG19;clear gb19 gl19 HG19;obtain ⟨hx19_0,hf19_0⟩:=Kd.R_celln false HO_287000.out ((rd l1 x17_1):Int) p19 q19;replace p19:=eq_true p19;replace q19:=eq_true q19;have HP23:=Kd.R_putg HO_287000.out ((rd l1 x17_1):Int) (!a0_1);go_wp2_with (first|((with_reducible refine gate_store (t:=4) (p:=26) rfl ?_);refine store_event (t:=4) (p:=26) (v:=?vo_w24) (w1:=(wr.setCell ⟨go19,((rd l1 x17_1):Int).toNat,none⟩ (.bool (!a0_1)))) ?hg ?ho ?hn ?hr ?_;(case ho=>rfl);(case hg=>rfl);(case hn=>rfl);(case hr=>first|(go_simp;done)|(go_simp;rfl));intro w24 hw;have hg:wr.grownBy w24 (some go19):=(by rw[hw];exact HP23.2);have hp_:Kd.R Kd.bool 4 w24 w.heap.size (fun _=>True) (.slice (some ⟨go19,0,none⟩) x287000_1.length co19) y288:=(by rw[hw,Ny288.out];exact HP23.1);clear HP23;have n0_:=am' (hp_);have n1_:=am' (blk_grown (g:=gb281) (o := .cells #[.slice A0_0 l0_0.length c0_0, .bool a0_1] 44 (0,0)) (by (with_reducible repeat (first|refine kn' ?_ _|refine kd' ?_|refine ka' ?_ _));exact BK281.out) hg (Kd.R_ne HO_287000.out BK281.out (by decide)));have n2_:=am' (blk_grown (g:=gb282) (o := .cells #[.slice none 0 0, .bool false] 44 (0,0)) (by (with_reducible repeat (first|refine kn' ?_ _|refine kd' ?_|refine ka' ?_ _));exact BK282.out) hg (Kd.R_ne HO_287000.out BK282.out (by decide)));have n3_:=am' (blk_grown (g:=gb286) (o := .cells #[.slice (some ⟨go19,0,none⟩) x287000_1.length co19, .bool (!a0_1)] 44 (0,0)) (by (with_reducible repeat (first|refine kn' ?_ _|refine kd' ?_|refine ka' ?_ _));exact BK286.out) hg (Kd.R_ne HO_287000.out BK286.out (by decide)));have n4_:=am' ((by rw[hw];exact bs' (HB.out) GB19.out:Below w.heap.size w w24));clear HO_287000;clear BK281;clear BK282;clear BK286;clear HB;have HO_287000:=n0_;have BK281:=n1_;have BK282:=n2_;have BK286:=n3_;have HB:=n4_;clear n0_ n1_ n2_ n3_ n4_;clear hg hw hp_));go_roundg k1
        case measure=>have:=HK1.out;omega
        case rel=>exact ⟨(wrap64 (x17_1+1)),(y288),(.slice (some ⟨go19,0,none⟩) x287000_1.length co19),(by first|rfl|(simp;done)|(simp[*];done)),H',⟨by have:=HK1.out;omega⟩,⟨by (with_reducible repeat (first|apply ra'|apply rn'|apply rw'));exact HO_287000.out⟩,⟨by (with_reducible repeat (first|refine kn' ?_ _|refine kd' ?_|refine ka' ?_ _));exact BK281.out⟩,⟨by (with_reducible repeat (first|refine kn' ?_ _|refine kd' ?_|refine ka' ?_ _));exact BK282.out⟩,⟨by (with_reducible repeat (first|refine kn' ?_ _|refine kd' ?_|refine ka' ?_ _));exact BK286.out⟩,⟨by repeat (first|(with_reducible first|exact HB.out|apply ba'|apply bd'|apply be'|refine bs' ?_ GE281.out|refine bs' ?_ GE282.out|refine bs' ?_ GE286.out)|exact HB.out)⟩⟩
       ·
        rw[if_neg c18] at H;exact absurd H (by simp)
      ·
       rw[if_neg c17] at H;exact absurd H (by simp)
     ·
      rw[if_neg c16] at H;exact absurd H (by simp)
    ·
     rw[if_neg c15] at H;exact absurd H (by simp)
   ·
    rw[if_neg c14] at H;have c14b0:decide (x17_1 < (l1.length:Int))=false:=decide_eq_false c14;clear c14;simp only[Option.some.injEq,Prod.mk.injEq] at H;obtain ⟨rfl,rfl⟩:=H;have hnb25:=NB286_281.out;have hnc25:=NB281_286.out;have hnb26:=NB286_282.out;have hnc26:=NB282_286.out;have hcz27_0:wr.cell? ⟨gb286,0,none⟩=some (u287000):=(blk_cell BK286.out 0).trans rfl;have hcz27_1:wr.cell? ⟨gb286,1,none⟩=some (.bool (!a0_1)):=(blk_cell BK286.out 1).trans rfl;have hfz27_0:=blk_frozen BK286.out 0;have hfz27_1:=blk_frozen BK286.out 1;obtain ⟨Ao28,co28,eo28⟩:=Kd.R_slice HO_287000.out;subst eo28;have hnb29:=NB282_281.out;have hnc29:=NB281_282.out;have hcz30_0:wr.cell? ⟨gb282,0,none⟩=some (.slice none 0 0):=(blk_cell BK282.out 0).trans rfl;have hcz30_1:wr.cell? ⟨gb282,1,none⟩=some (.bool false):=(blk_cell BK282.out 1).trans rfl;have hfz30_0:=blk_frozen BK282.out 0;have hfz30_1:=blk_frozen BK282.out 1;go_wp2;refine bodyPost_ret (results_cell_row rfl _ _ gb282 44 #[.slice Ao28 x287000_1.length co28, .bool (!a0_1)] (0,0) _ rfl (by (with_reducible repeat (first|refine kn' ?_ _|refine kd' ?_|refine ka' ?_ _));refine blk_put (cs:=#[.slice Ao28 x287000_1.length co28, .bool false]) ?_ 1 _ rfl;(with_reducible repeat (first|refine kn' ?_ _|refine kd' ?_|refine ka' ?_ _));refine blk_put (cs:=#[.slice none 0 0, .bool false]) ?_ 0 _ rfl;(with_reducible repeat (first|refine kn' ?_ _|refine kd' ?_|refine ka' ?_ _));exact BK282.out) Try.underlying44 rfl (by kernel_rfl)) rfl ?_
    exact ⟨_,by first|rfl|(simp[errW_none,errW_some] <;> rfl)|(simp[*,errW_none,errW_some] <;> rfl),by (with_reducible repeat (first|apply ra'|apply rn'|apply rw'));exact Kd.R_mono (Kd.R_far (p:=⟨gb282,1,none⟩) (Kd.R_far (p:=⟨gb282,0,none⟩) (Kd.R_types HO_287000.out BK282.out (by decide)) (fun _ hk=>hk.2) (.slice Ao28 x287000_1.length co28)) (fun _ hk=>hk.2) (.bool (!a0_1))) (fun _ hk=>trivial),by repeat (first|(with_reducible first|exact HB.out|apply ba'|apply bd'|apply be'|refine bs' ?_ GE281.out|refine bs' ?_ GE282.out|refine bs' ?_ GE286.out)|exact HB.out)⟩
end Go.Proofs.Ytamljjfhkolflaa.C15
