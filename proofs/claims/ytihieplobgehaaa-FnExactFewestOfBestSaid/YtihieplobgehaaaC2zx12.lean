import Derived.Test.YtihieplobgehaaaC2zx0
import Derived.Test.YtihieplobgehaaaC2zAl
namespace Go.Proofs.Ytihieplobgehaaa.C2
open Go.RowKit Go.Proofs.YtihieplobgehaaaW.PrintWords Go.Proofs.YtihieplobgehaaaW.PrintLast Go.Proofs.YtihieplobgehaaaW.PrintMore Go.Proofs.Ytihieplobgehaaa.H
attribute [local go_sem] max2_int min2_int max_two min_two max_three min_three max_four min_four
set_option linter.unusedVariables false
set_option linter.unusedSimpArgs false
def impl_State_side.l0:Nat→Bool→List Int→List Bool→Int→Int→Option (List Int)
 | 0,_,_,_,_,_=>none
 | k+1,x1,x5,x10,x11,x12=>if x12 < x11 then (if 0≤x12 then (if x12 < (x10.length:Int) then (if ((rdOf false x10 x12) == x1)=true then (if x5.length < 17592186044416 then (impl_State_side.l0 k x1 (x5 ++ [x12]) x10 x11 (wrap64 (x12+1))) else (none)) else (impl_State_side.l0 k x1 x5 x10 x11 (wrap64 (x12+1)))) else (none)) else (none)) else (some x5)
def impl_State_side.f (k:Nat) (l0_0:List Bool) (a0_1:Bool) (a1:Bool):Option (List Int):=impl_State_side.l0 k a1 (([]:List Int)) l0_0 (l0_0.length:Int) 0
set_option maxHeartbeats 8000000 in
set_option maxRecDepth 100000 in
theorem impl_State_side.calls (k:Nat) (A0_0:Option Addr) (c0_0:Nat) (l0_0:List Bool) (a0_1:Bool) (a1:Bool) (r:List Int) (w:World) (hr0_0:Kd.C Kd.bool w A0_0 l0_0.length l0_0) (hc0_0:l0_0.length≤c0_0) (h:impl_State_side.f k l0_0 a0_1 a1=some r) :
  Calls Try.prog 55 #[.agg #[.slice A0_0 l0_0.length c0_0, .bool a0_1], .bool a1] w fun e w'=>∃ v0_:Value,e = .returned (v0_)∧Kd.R (Kd.int .i64) 3 w' w.heap.size (fun _=>True) v0_ r∧Below w.heap.size w w':=by
 have hu54:=Try.underlying54
 have HR0_0:=am' hr0_0
 have HC0_0:=am' hc0_0
 clear hr0_0 hc0_0;have HB:=am' (Below.refl w.heap.size w)
 have H:(impl_State_side.l0 k a1 (([]:List Int)) l0_0 (l0_0.length:Int) 0)=some r:=h
 clear h;obtain ⟨y351,hy351⟩:∃ y_:List Int,y_=(([]:List Int)):=⟨_,rfl⟩
 replace H:(impl_State_side.l0 k a1 y351 l0_0 (l0_0.length:Int) 0)=some r:=by first|(rw[hy351];with_reducible exact H)|(have H2_:=(Option.bind_some _ _).symm.trans H;rw[hy351];with_reducible exact H2_)|(have H2_:=(Option.bind_some _ _).symm.trans H;with_reducible exact H2_)|with_reducible exact H|(rw[hy351];exact H)|exact H
 have Ny351:=am' hy351
 clear hy351;have H':=am' H
 clear H;go_enter Try.func55,Try.ntmps55
 go_wp2_with (first|((with_reducible refine gate_dst (N:=2) rfl ?_);refine box_event ?hg (N:=2) ?hd (cs:=#[.slice A0_0 l0_0.length c0_0, .bool a0_1]) (t:=54) ?hr ?_;(case hd=>rfl);(case hg=>rfl);(case hr=>first|(go_simp;done)|(go_simp;rfl));intro gb350 hg w3 hbox hb;have n0_:=am' (bt' xb' hb);have n1_:=am' (hbox);have n2_:=am' ((by rw[hg];exact (bz' xb'):w.heap.size≤gb350));have n3_:=am' ((by rw[hg];exact (bz' xb'):w.heap.size≤gb350));clear HB;have HB:=n0_;have BK350:=n1_;have GW350:=n2_;have GE350:=n3_;clear n0_ n1_ n2_ n3_;clear hb hbox hg)|((with_reducible refine gate_dst (N:=8) rfl ?_);refine Kd.R_lit (Kd.int .i64) _ 3 ?hg (N:=8) ?hd (xs:=([]:List Int)) (inner:=[]) (ok:=fun _=>True) (okp:=fun _=>True) ?hr ?hp (fun _ hk=>hk) trivial (Below.refl _ _) (Nat.le_refl _) (by simp) ?_;(case hd=>rfl);(case hg=>rfl);(case hr=>first|(go_simp;done)|(go_simp;rfl));(case hp=>exact (Reps.none _ _));intro v352 w4 ho5 hb hg_ hnew_;clear hg_ hnew_;(first|rw[← Ny351.out] at ho5|(simp only[Int.reduceToNat] at ho5;rw[← Ny351.out] at ho5));have n0_:=am' (Kd.R_lower ho5 (bz' (yb' GE350.out)));have n1_:=am' (bb' (g:=gb350) (o := .cells #[.slice A0_0 l0_0.length c0_0, .bool a0_1] 54 (0,0)) (kk' BK350.out) hb);have n2_:=am' (bt' (yb' GE350.out) hb);clear BK350;clear HB;have HO353:=n0_;have BK350:=n1_;have HB:=n2_;clear n0_ n1_ n2_;clear hb ho5;have hcz6_0:w4.cell? ⟨gb350,0,none⟩=some (.slice A0_0 l0_0.length c0_0):=(bc' BK350.out 0).trans rfl;have hcz6_1:w4.cell? ⟨gb350,1,none⟩=some (.bool a0_1):=(bc' BK350.out 1).trans rfl;have hfz6_0:=bf' BK350.out 0;have hfz6_1:=bf' BK350.out 1))
 go_loopg [5,12] k (fun kq v5 v12 w'=>∃ (x5_1:List Int) (x12_1:Int),v12 = .int .i64 x12_1∧Aside0 (impl_State_side.l0 kq a1 x5_1 l0_0 (l0_0.length:Int) x12_1=some r)∧Aside0 (kq≤k)∧Aside0 (Kd.R (Kd.int .i64) 3 w' w.heap.size (fun _=>True) v5 x5_1)∧Aside0 (w'.heap[gb350]? = some (.cells #[(.slice A0_0 l0_0.length c0_0), .bool a0_1] 54 (0,0)))∧Aside0 (Below w.heap.size w w'))
 case atStart=>exact ⟨(y351),(0),xs',H',⟨Nat.le_refl _⟩,⟨kr' HO353.out⟩,⟨kk' BK350.out⟩,⟨yb' GE350.out⟩⟩
 case round =>
  clear H';try clear p2
  try clear c5
  try clear hcz6_0
  try clear hcz6_1
  try clear hfz6_0
  try clear hfz6_1
  obtain ⟨x5_1,x12_1,rfl,HA,HK1,HO_5,BK350,HB⟩:=hrel;cases gk with
  | zero=>exact absurd HA.out (by simp[impl_State_side.l0])
  | succ k1 =>
   have H:=HA.out;clear HA;simp only[impl_State_side.l0] at H;by_cases c7:x12_1 < (l0_0.length:Int)
   ·
    rw[if_pos c7] at H;have c7b0:decide (x12_1 < (l0_0.length:Int))=true:=dt' c7;clear c7;by_cases c8:0≤x12_1
    ·
     rw[if_pos c8] at H;have c8b0:decide (0≤x12_1)=true:=dt' c8;clear c8;by_cases c9:x12_1 < (l0_0.length:Int)
     ·
      rw[if_pos c9] at H;have c9b0:decide (x12_1 < (l0_0.length:Int))=true:=dt' c9;clear c9;by_cases c10:((rdOf false l0_0 x12_1) == a1)=true
      ·
       rw[if_pos c10] at H;have c10b0:((rdOf false l0_0 x12_1) == a1)=true:=c10
       (try (have c10b1:decide ((rdOf false l0_0 x12_1)=a1)=true:=by simpa using c10))
       (try (have c10b2:((rdOf false l0_0 x12_1) == a1)=true:=by simpa using c10))
       clear c10;by_cases c11:x5_1.length < 17592186044416
       ·
        rw[if_pos c11] at H;have LMc11:=am' c11;clear c11;obtain ⟨y355,hy355⟩:∃ y_:List Int,y_=(x5_1 ++ [x12_1]):=⟨_,rfl⟩
        replace H:(impl_State_side.l0 k1 a1 y355 l0_0 (l0_0.length:Int) (wrap64 (x12_1+1)))=some r:=by first|(rw[hy355];with_reducible exact H)|(have H2_:=(Option.bind_some _ _).symm.trans H;rw[hy355];with_reducible exact H2_)|(have H2_:=(Option.bind_some _ _).symm.trans H;with_reducible exact H2_)|with_reducible exact H|(rw[hy355];exact H)|exact H
        have Ny355:=am' hy355;clear hy355;have H':=am' H;clear H;have p354:0≤(x12_1:Int):=od' xa';have q354:x12_1 < (l0_0.length:Int):=od' xa';obtain ⟨ad354,e354,hx354_0⟩:=Kd.at_bool HR0_0.out x12_1 p354 q354;cases e354;replace hx354_0:=(HB.out.cell (bl' w _ hx354_0)).trans hx354_0;replace p354:=eq_true p354;replace q354:=eq_true q354;go_wp2_with (first|((with_reducible refine gate_builtin (b := .append) (xs:=#[.tmp 20, .tmp 22]) rfl ?_);at_builtin;refine Kd.R_append (Kd.int .i64) (w0:=w) w.heap.size rfl (.tmp 20) (.tmp 22) 22 3 (.int .i64 0) 8 rfl Try.underlying22 info3 rfl (by decide) (by omega) u5 x5_1 x12_1 [.int .i64 x12_1] (fun _=>True) (fun _=>False) rfl rfl ?aP (fun _ hk=>hk.elim) ?aF ?aO ?aB ?aS ?aL ?_;(case aP=>exact rfl);(case aB=>exact (yb' GE350.out));(case aF=>exact (fun _ _=>trivial));(case aO=>exact (kr' HO_5.out));(case aS=>exact (bz' (yb' GE350.out)));(case aL=>have:=LMc11.out;omega);intro v356 w12 ho hb hg hat;rw[← Ny355.out] at ho;have n0_:=am' (blk_grown (g:=gb350) (o := .cells #[.slice (some ad354) l0_0.length c0_0, .bool a0_1] 54 (0,0)) (kk' BK350.out) hg (Kd.R_ne HO_5.out BK350.out (by decide)));have n1_:=am' (hb);have n2_:=am' (ho);clear BK350;clear HB;clear HO_5;have BK350:=n0_;have HB:=n1_;have HO357:=n2_;clear n0_ n1_ n2_;clear ho hb hg hat));go_roundg k1
        case measure=>have:=HK1.out;omega
        case rel=>exact ⟨(y355),(wrap64 (x12_1+1)),xs',H',⟨by have:=HK1.out;omega⟩,⟨kr' HO357.out⟩,⟨kk' BK350.out⟩,⟨yb' GE350.out⟩⟩
       ·
        rw[if_neg c11] at H;exact absurd H (by simp)
      ·
       rw[if_neg c10] at H;have c10b0:((rdOf false l0_0 x12_1) == a1)=false:=by simpa using c10
       (try (have c10b1:decide ((rdOf false l0_0 x12_1)=a1)=false:=by simpa using c10))
       (try (have c10b2:((rdOf false l0_0 x12_1) == a1)=false:=by simpa using c10))
       (try (have c10b3:¬ ((rdOf false l0_0 x12_1)=a1):=by simpa using c10))
       clear c10;have H':=am' H;clear H;have p354:0≤(x12_1:Int):=od' xa';have q354:x12_1 < (l0_0.length:Int):=od' xa';obtain ⟨ad354,e354,hx354_0⟩:=Kd.at_bool HR0_0.out x12_1 p354 q354;cases e354;replace hx354_0:=(HB.out.cell (bl' w _ hx354_0)).trans hx354_0;replace p354:=eq_true p354;replace q354:=eq_true q354;go_wp2;go_roundg k1
       case measure=>have:=HK1.out;omega
       case rel=>exact ⟨(x5_1),(wrap64 (x12_1+1)),xs',H',⟨by have:=HK1.out;omega⟩,⟨kr' HO_5.out⟩,⟨kk' BK350.out⟩,⟨yb' GE350.out⟩⟩
     ·
      rw[if_neg c9] at H;exact absurd H (by simp)
    ·
     rw[if_neg c8] at H;exact absurd H (by simp)
   ·
    rw[if_neg c7] at H;have c7b0:decide (x12_1 < (l0_0.length:Int))=false:=df' c7;clear c7;obtain rfl:=os' H;go_wp2;go_ret
    exact ⟨_,by first|rfl|(simp[errW_none,errW_some] <;> rfl)|(simp[*,errW_none,errW_some] <;> rfl),kr' HO_5.out,yb' GE350.out⟩
def impl_bit.f (a0:Bool):Option (Int):=if a0=true then (some 1) else (some 0)
set_option maxHeartbeats 8000000 in
set_option maxRecDepth 100000 in
theorem impl_bit.calls (a0:Bool) (r:Int) (w:World) (h:impl_bit.f a0=some r) :
  Calls Try.prog 61 #[.bool a0] w fun e w'=>e = .returned (.int .i64 r)∧Drawn0 w w':=by
 have H:(if a0=true then (some 1) else (some 0))=some r:=h
 clear h;by_cases c2:a0=true
 ·
  subst c2;have H1:(some 1)=some r:=by rw[if_pos rfl] at H;exact H
  clear H;have H:=H1;clear H1;obtain rfl:=os' H;go_enter Try.func61,Try.ntmps61;go_wp2;go_ret
  exact ⟨xs',by repeat (first|exact Drawn0.refl _|apply Drawn0.step)⟩
 ·
  replace c2:=Bool.eq_false_iff.mpr c2;subst c2;have H1:(some 0)=some r:=by rw[if_neg (show ¬ (false=true) by decide)] at H;exact H
  clear H;have H:=H1;clear H1;obtain rfl:=os' H;go_enter Try.func61,Try.ntmps61;go_wp2;go_ret
  exact ⟨xs',by repeat (first|exact Drawn0.refl _|apply Drawn0.step)⟩
def impl_State_code.l0:Nat→Int→List Bool→Int→Int→Option (Int)
 | 0,_,_,_,_=>none
 | k+1,x3,x14,x15,x16=>if x16 < x15 then (if 0≤x16 then (if x16 < (x14.length:Int) then ((impl_bit.f (rdOf false x14 x16)).bind fun t361=>(impl_State_code.l0 k (Go.bits .or .i64 x3 (shl .i64 t361 x16)) x14 x15 (wrap64 (x16+1)))) else (none)) else (none)) else (some x3)
def impl_State_code.f (k:Nat) (l0_0:List Bool) (a0_1:Bool):Option (Int):=(impl_bit.f a0_1).bind fun t359=>(impl_State_code.l0 k (shl .i64 t359 (l0_0.length:Int)) l0_0 (l0_0.length:Int) 0)
theorem impl_State_code.mono_l:∀ k,(∀ y0 y1 y2 y3,LeO (impl_State_code.l0 k y0 y1 y2 y3) (impl_State_code.l0 (k+1) y0 y1 y2 y3))
 | 0=>fun _ _ _ _ r h=>by simp[impl_State_code.l0] at h
 | k+1=>by
  have ih0:=impl_State_code.mono_l k
  ·
   intro y0 y1 y2 y3;unfold impl_State_code.l0
   repeat' first
   | (with_reducible exact ih0 _ _ _ _)
   | (with_reducible exact LeO.refl _)
   | (with_reducible exact LeO.none _)
   | (with_reducible refine LeO.ite ?_ ?_)
   | (with_reducible refine LeO.bind ?_ (fun _=>?_))
   | exact ih0 _ _ _ _
   | exact LeO.none _
   | refine LeO.ite ?_ ?_
   | refine LeO.bind ?_ (fun _=>?_)
theorem impl_State_code.mono:∀ a0 a1 k,LeO (impl_State_code.f k a0 a1) (impl_State_code.f (k+1) a0 a1):=by
 intro a0 a1 k;have ih0:=impl_State_code.mono_l k
 unfold impl_State_code.f
 repeat' first
   | (with_reducible exact ih0 _ _ _ _)
   | (with_reducible exact LeO.refl _)
   | (with_reducible exact LeO.none _)
   | (with_reducible refine LeO.ite ?_ ?_)
   | (with_reducible refine LeO.bind ?_ (fun _=>?_))
   | exact ih0 _ _ _ _
   | exact LeO.none _
   | refine LeO.ite ?_ ?_
   | refine LeO.bind ?_ (fun _=>?_)
set_option maxHeartbeats 8000000 in
set_option maxRecDepth 100000 in
theorem impl_State_code.calls (k:Nat) (A0_0:Option Addr) (c0_0:Nat) (l0_0:List Bool) (a0_1:Bool) (r:Int) (w:World) (hr0_0:Kd.C Kd.bool w A0_0 l0_0.length l0_0) (hc0_0:l0_0.length≤c0_0) (h:impl_State_code.f k l0_0 a0_1=some r) :
  Calls Try.prog 33 #[.agg #[.slice A0_0 l0_0.length c0_0, .bool a0_1]] w fun e w'=>e = .returned (.int .i64 r)∧Below w.heap.size w w':=by
 have hu54:=Try.underlying54
 have HR0_0:=am' hr0_0
 have HC0_0:=am' hc0_0
 clear hr0_0 hc0_0;have HB:=am' (Below.refl w.heap.size w)
 have H:((impl_bit.f a0_1).bind fun t359=>(impl_State_code.l0 k (shl .i64 t359 (l0_0.length:Int)) l0_0 (l0_0.length:Int) 0))=some r:=h
 clear h;replace H:=Option.bind_eq_some_iff.mp H
 obtain ⟨t359,A20,H⟩:=H
 replace H:(impl_State_code.l0 k (shl .i64 t359 (l0_0.length:Int)) l0_0 (l0_0.length:Int) 0)=some r:=H
 have A2:=am' A20
 clear A20;obtain ⟨ji3,hji3⟩:∃ j_:Int,(shl .i64 t359 (l0_0.length:Int))=j_:=⟨_,rfl⟩
 replace H:(impl_State_code.l0 k ji3 l0_0 (l0_0.length:Int) 0)=some r:=by first|(rw[hji3] at H;exact H)|(simp only[hji3] at H ⊢;exact H)
 (try rw [hji3] at A2)
 have hji3_:(IntKind.i64.wrap (t359 * 2 ^ min (l0_0.length:Int).toNat 64))=ji3:=hji3
 have hji3z:(l0_0.length:Int)≤64→(IntKind.i64.wrap (t359 * 2 ^ (l0_0.length:Int).toNat))=ji3:=shl_small hji3
 have hji3p:(IntKind.i64.wrap (t359 * 2 ^ min l0_0.length 64))=ji3:=hji3_
 have hji3q:(l0_0.length:Int)≤64→(IntKind.i64.wrap (t359 * 2 ^ l0_0.length))=ji3:=hji3z
 have hji3y:(wrap64 (t359 * 2 ^ min (l0_0.length:Int).toNat 64))=ji3:=(i64_w _).symm.trans hji3_
 have hji3x:(l0_0.length:Int)≤64→(wrap64 (t359 * 2 ^ (l0_0.length:Int).toNat))=ji3:=fun h_=>(i64_w _).symm.trans (hji3z h_)
 have H':=am' H
 clear H;go_enter Try.func33,Try.ntmps33
 go_wp2_with (first|((with_reducible refine gate_dst (N:=1) rfl ?_);refine box_event ?hg (N:=1) ?hd (cs:=#[.slice A0_0 l0_0.length c0_0, .bool a0_1]) (t:=54) ?hr ?_;(case hd=>rfl);(case hg=>rfl);(case hr=>first|(go_simp;done)|(go_simp;rfl));intro gb358 hg w4 hbox hb;have n0_:=am' (bt' xb' hb);have n1_:=am' (hbox);have n2_:=am' ((by rw[hg];exact (bz' xb'):w.heap.size≤gb358));have n3_:=am' ((by rw[hg];exact (bz' xb'):w.heap.size≤gb358));clear HB;have HB:=n0_;have BK358:=n1_;have GW358:=n2_;have GE358:=n3_;clear n0_ n1_ n2_ n3_;clear hb hbox hg;have hcz5_0:w4.cell? ⟨gb358,0,none⟩=some (.slice A0_0 l0_0.length c0_0):=(bc' BK358.out 0).trans rfl;have hcz5_1:w4.cell? ⟨gb358,1,none⟩=some (.bool a0_1):=(bc' BK358.out 1).trans rfl;have hfz5_0:=bf' BK358.out 0;have hfz5_1:=bf' BK358.out 1)|(go_at_call 61;(with_reducible refine (impl_bit.calls a0_1 t359 _ A2.out).mono ?_);rintro e w' ⟨rfl,⟨nd,rfl⟩⟩;(try first|exact ⟨rfl,_,World.drewN_drewN _ _ _⟩|exact ⟨rfl,_,Eq.trans (World.drewN_drewN _ _ _) (congrArg (World.drewN _) (Nat.add_assoc _ _ _))⟩)))
 repeat (go_quiet (first|((with_reducible refine gate_dst (N:=1) rfl ?_);refine box_event ?hg (N:=1) ?hd (cs:=#[.slice A0_0 l0_0.length c0_0, .bool a0_1]) (t:=54) ?hr ?_;(case hd=>rfl);(case hg=>rfl);(case hr=>first|(go_simp;done)|(go_simp;rfl));intro gb358 hg w4 hbox hb;have n0_:=am' (bt' xb' hb);have n1_:=am' (hbox);have n2_:=am' ((by rw[hg];exact (bz' xb'):w.heap.size≤gb358));have n3_:=am' ((by rw[hg];exact (bz' xb'):w.heap.size≤gb358));clear HB;have HB:=n0_;have BK358:=n1_;have GW358:=n2_;have GE358:=n3_;clear n0_ n1_ n2_ n3_;clear hb hbox hg;have hcz5_0:w4.cell? ⟨gb358,0,none⟩=some (.slice A0_0 l0_0.length c0_0):=(bc' BK358.out 0).trans rfl;have hcz5_1:w4.cell? ⟨gb358,1,none⟩=some (.bool a0_1):=(bc' BK358.out 1).trans rfl;have hfz5_0:=bf' BK358.out 0;have hfz5_1:=bf' BK358.out 1)|(go_at_call 61;(with_reducible refine (impl_bit.calls a0_1 t359 _ A2.out).mono ?_);rintro e w' ⟨rfl,⟨nd,rfl⟩⟩;(try first|exact ⟨rfl,_,World.drewN_drewN _ _ _⟩|exact ⟨rfl,_,Eq.trans (World.drewN_drewN _ _ _) (congrArg (World.drewN _) (Nat.add_assoc _ _ _))⟩)));try go_wp2_with (first|((with_reducible refine gate_dst (N:=1) rfl ?_);refine box_event ?hg (N:=1) ?hd (cs:=#[.slice A0_0 l0_0.length c0_0, .bool a0_1]) (t:=54) ?hr ?_;(case hd=>rfl);(case hg=>rfl);(case hr=>first|(go_simp;done)|(go_simp;rfl));intro gb358 hg w4 hbox hb;have n0_:=am' (bt' xb' hb);have n1_:=am' (hbox);have n2_:=am' ((by rw[hg];exact (bz' xb'):w.heap.size≤gb358));have n3_:=am' ((by rw[hg];exact (bz' xb'):w.heap.size≤gb358));clear HB;have HB:=n0_;have BK358:=n1_;have GW358:=n2_;have GE358:=n3_;clear n0_ n1_ n2_ n3_;clear hb hbox hg;have hcz5_0:w4.cell? ⟨gb358,0,none⟩=some (.slice A0_0 l0_0.length c0_0):=(bc' BK358.out 0).trans rfl;have hcz5_1:w4.cell? ⟨gb358,1,none⟩=some (.bool a0_1):=(bc' BK358.out 1).trans rfl;have hfz5_0:=bf' BK358.out 0;have hfz5_1:=bf' BK358.out 1)|(go_at_call 61;(with_reducible refine (impl_bit.calls a0_1 t359 _ A2.out).mono ?_);rintro e w' ⟨rfl,⟨nd,rfl⟩⟩;(try first|exact ⟨rfl,_,World.drewN_drewN _ _ _⟩|exact ⟨rfl,_,Eq.trans (World.drewN_drewN _ _ _) (congrArg (World.drewN _) (Nat.add_assoc _ _ _))⟩))))
 go_loopg [3,16] k (fun kq v3 v16 w'=>∃ (x3_1:Int) (x16_1:Int),v3 = .int .i64 x3_1∧v16 = .int .i64 x16_1∧Aside0 (impl_State_code.l0 kq x3_1 l0_0 (l0_0.length:Int) x16_1=some r)∧Aside0 (kq≤k)∧Aside0 (w'.heap[gb358]? = some (.cells #[(.slice A0_0 l0_0.length c0_0), .bool a0_1] 54 (0,0)))∧Aside0 (Below w.heap.size w w'))
 case atStart=>exact ⟨(ji3),(0),(by first|rfl|(simp;done)|(simp only[← hji3] <;> (first|rfl|simp))|(simp[*];done)),xs',H',⟨Nat.le_refl _⟩,⟨kk' BK358.out⟩,⟨yb' GE358.out⟩⟩
 case round =>
  clear H';try clear p2
  try clear c3
  try clear hcz5_0
  try clear hcz5_1
  try clear hfz5_0
  try clear hfz5_1
  obtain ⟨x3_1,x16_1,rfl,rfl,HA,HK1,BK358,HB⟩:=hrel;cases gk with
  | zero=>exact absurd HA.out (by simp[impl_State_code.l0])
  | succ k1 =>
   have H:=HA.out;clear HA;simp only[impl_State_code.l0] at H;by_cases c6:x16_1 < (l0_0.length:Int)
   ·
    rw[if_pos c6] at H;have c6b0:decide (x16_1 < (l0_0.length:Int))=true:=dt' c6;clear c6;by_cases c7:0≤x16_1
    ·
     rw[if_pos c7] at H;have c7b0:decide (0≤x16_1)=true:=dt' c7;clear c7;by_cases c8:x16_1 < (l0_0.length:Int)
     ·
      rw[if_pos c8] at H;have c8b0:decide (x16_1 < (l0_0.length:Int))=true:=dt' c8;clear c8;replace H:=Option.bind_eq_some_iff.mp H;obtain ⟨t361,A90,H⟩:=H;replace H:(impl_State_code.l0 k1 (Go.bits .or .i64 x3_1 (shl .i64 t361 x16_1)) l0_0 (l0_0.length:Int) (wrap64 (x16_1+1)))=some r:=H;have A9:=am' A90;clear A90;have c10b0:=eq_true (od' xa':0≤x16_1);obtain ⟨ji11,hji11⟩:∃ j_:Int,(shl .i64 t361 x16_1)=j_:=⟨_,rfl⟩
      replace H:(impl_State_code.l0 k1 (Go.bits .or .i64 x3_1 (ji11)) l0_0 (l0_0.length:Int) (wrap64 (x16_1+1)))=some r:=by first|(rw[hji11] at H;exact H)|(simp only[hji11] at H ⊢;exact H)
      (try rw [hji11] at A9)
      have hji11_:(IntKind.i64.wrap (t361 * 2 ^ min x16_1.toNat 64))=ji11:=hji11;have hji11z:x16_1≤64→(IntKind.i64.wrap (t361 * 2 ^ x16_1.toNat))=ji11:=shl_small hji11;have hji11y:(wrap64 (t361 * 2 ^ min x16_1.toNat 64))=ji11:=(i64_w _).symm.trans hji11_;have hji11x:x16_1≤64→(wrap64 (t361 * 2 ^ x16_1.toNat))=ji11:=fun h_=>(i64_w _).symm.trans (hji11z h_)
      have H':=am' H;clear H;have p360:0≤(x16_1:Int):=od' xa';have q360:x16_1 < (l0_0.length:Int):=od' xa';obtain ⟨ad360,e360,hx360_0⟩:=Kd.at_bool HR0_0.out x16_1 p360 q360;cases e360;replace hx360_0:=(HB.out.cell (bl' w _ hx360_0)).trans hx360_0;replace p360:=eq_true p360;replace q360:=eq_true q360;go_wp2_with (first|(go_at_call 61;(with_reducible refine (impl_bit.calls (rdOf false l0_0 x16_1) t361 _ A9.out).mono ?_);rintro e w' ⟨rfl,⟨nd,rfl⟩⟩;(try first|exact ⟨rfl,_,World.drewN_drewN _ _ _⟩|exact ⟨rfl,_,Eq.trans (World.drewN_drewN _ _ _) (congrArg (World.drewN _) (Nat.add_assoc _ _ _))⟩)))
      repeat (go_quiet (first|(go_at_call 61;(with_reducible refine (impl_bit.calls (rdOf false l0_0 x16_1) t361 _ A9.out).mono ?_);rintro e w' ⟨rfl,⟨nd,rfl⟩⟩;(try first|exact ⟨rfl,_,World.drewN_drewN _ _ _⟩|exact ⟨rfl,_,Eq.trans (World.drewN_drewN _ _ _) (congrArg (World.drewN _) (Nat.add_assoc _ _ _))⟩)));try go_wp2_with (first|(go_at_call 61;(with_reducible refine (impl_bit.calls (rdOf false l0_0 x16_1) t361 _ A9.out).mono ?_);rintro e w' ⟨rfl,⟨nd,rfl⟩⟩;(try first|exact ⟨rfl,_,World.drewN_drewN _ _ _⟩|exact ⟨rfl,_,Eq.trans (World.drewN_drewN _ _ _) (congrArg (World.drewN _) (Nat.add_assoc _ _ _))⟩))))
      go_roundg k1
      case measure=>have:=HK1.out;omega
      case rel=>exact ⟨(Go.bits .or .i64 x3_1 (ji11)),(wrap64 (x16_1+1)),(by first|rfl|(simp;done)|(simp only[← hji11] <;> (first|rfl|simp))|(simp[*];done)),xs',H',⟨by have:=HK1.out;omega⟩,⟨kk' BK358.out⟩,⟨yb' GE358.out⟩⟩
     ·
      rw[if_neg c8] at H;exact absurd H (by simp)
    ·
     rw[if_neg c7] at H;exact absurd H (by simp)
   ·
    rw[if_neg c6] at H;have c6b0:decide (x16_1 < (l0_0.length:Int))=false:=df' c6;clear c6;obtain rfl:=os' H;go_wp2
    repeat (go_quiet (fail);try go_wp2)
    go_ret
    exact ⟨by first|rfl|(simp[errW_none,errW_some] <;> rfl)|(simp only[← hji3];first|rfl|(simp[errW_none,errW_some] <;> rfl))|(simp[*,errW_none,errW_some] <;> rfl),yb' GE358.out⟩
def impl_slowest.l0:Nat→List Int→Int→List Int→Int→Int→Option (Int)
 | 0,_,_,_,_,_=>none
 | k+1,x0,x5,x8,x9,x10=>if x10 < x9 then (if 0≤x10 then (if x10 < (x8.length:Int) then (if 0≤(rd x8 x10) then (if (rd x8 x10) < (x0.length:Int) then (impl_slowest.l0 k x0 (mx x5 (rd x0 (rd x8 x10))) x8 x9 (wrap64 (x10+1))) else (none)) else (none)) else (none)) else (none)) else (some x5)
def impl_slowest.f (k:Nat) (l0:List Int) (l1:List Int):Option (Int):=impl_slowest.l0 k l0 0 l1 (l1.length:Int) 0
set_option maxHeartbeats 8000000 in
set_option maxRecDepth 100000 in
theorem impl_slowest.calls (k:Nat) (A0:Option Addr) (c0:Nat) (l0:List Int) (A1:Option Addr) (c1:Nat) (l1:List Int) (r:Int) (w:World) (hr0:Kd.C (Kd.int .i64) w A0 l0.length l0) (hc0:l0.length≤c0) (hr1:Kd.C (Kd.int .i64) w A1 l1.length l1) (hc1:l1.length≤c1) (h:impl_slowest.f k l0 l1=some r) :
  Calls Try.prog 57 #[.slice A0 l0.length c0, .slice A1 l1.length c1] w fun e w'=>e = .returned (.int .i64 r)∧Below w.heap.size w w':=by
 have HR0:=am' hr0
 have HC0:=am' hc0
 clear hr0 hc0;have HR1:=am' hr1
 have HC1:=am' hc1
 clear hr1 hc1;have HB:=am' (Below.refl w.heap.size w)
 have H:(impl_slowest.l0 k l0 0 l1 (l1.length:Int) 0)=some r:=h
 clear h;have H':=am' H
 clear H;go_enter Try.func57,Try.ntmps57
 go_wp2
 go_loopg [5,10] k (fun kq v5 v10 w'=>∃ (x5_1:Int) (x10_1:Int),v5 = .int .i64 x5_1∧v10 = .int .i64 x10_1∧Aside0 (impl_slowest.l0 kq l0 x5_1 l1 (l1.length:Int) x10_1=some r)∧Aside0 (kq≤k)∧Aside0 (Below w.heap.size w w'))
 case atStart=>exact ⟨(0),(0),xs',xs',H',⟨Nat.le_refl _⟩,⟨xb'⟩⟩
 case round =>
  clear H';try clear c1
  try clear p2
  obtain ⟨x5_1,x10_1,rfl,rfl,HA,HK1,HB⟩:=hrel;cases gk with
  | zero=>exact absurd HA.out (by simp[impl_slowest.l0])
  | succ k1 =>
   have H:=HA.out;clear HA;simp only[impl_slowest.l0] at H;by_cases c3:x10_1 < (l1.length:Int)
   ·
    rw[if_pos c3] at H;have c3b0:decide (x10_1 < (l1.length:Int))=true:=dt' c3;clear c3;by_cases c4:0≤x10_1
    ·
     rw[if_pos c4] at H;have c4b0:decide (0≤x10_1)=true:=dt' c4;clear c4;by_cases c5:x10_1 < (l1.length:Int)
     ·
      rw[if_pos c5] at H;have c5b0:decide (x10_1 < (l1.length:Int))=true:=dt' c5;clear c5;by_cases c6:0≤(rd l1 x10_1)
      ·
       rw[if_pos c6] at H;have c6b0:decide (0≤(rd l1 x10_1))=true:=dt' c6;clear c6;by_cases c7:(rd l1 x10_1) < (l0.length:Int)
       ·
        rw[if_pos c7] at H;have c7b0:decide ((rd l1 x10_1) < (l0.length:Int))=true:=dt' c7;clear c7;obtain ⟨ji8,hji8⟩:∃ j_:Int,(mx x5_1 (rd l0 (rd l1 x10_1)))=j_:=⟨_,rfl⟩
        replace H:(impl_slowest.l0 k1 l0 ji8 l1 (l1.length:Int) (wrap64 (x10_1+1)))=some r:=by first|(rw[hji8] at H;exact H)|(simp only[hji8] at H ⊢;exact H)
        have hji8_:(if x5_1 < (rd l0 (rd l1 x10_1)) then (rd l0 (rd l1 x10_1)) else x5_1)=ji8:=hji8;have H':=am' H;clear H;have p362:0≤(x10_1:Int):=od' xa';have q362:x10_1 < (l1.length:Int):=od' xa';obtain ⟨ad362,e362,hx362_0⟩:=Kd.at_int HR1.out x10_1 p362 q362;cases e362;replace hx362_0:=(HB.out.cell (bl' w _ hx362_0)).trans hx362_0;replace p362:=eq_true p362;replace q362:=eq_true q362;have p363:0≤((rd l1 x10_1):Int):=od' xa';have q363:(rd l1 x10_1) < (l0.length:Int):=od' xa';obtain ⟨ad363,e363,hx363_0⟩:=Kd.at_int HR0.out (rd l1 x10_1) p363 q363;cases e363;replace hx363_0:=(HB.out.cell (bl' w _ hx363_0)).trans hx363_0;replace p363:=eq_true p363;replace q363:=eq_true q363;go_wp2;go_roundg k1
        case measure=>have:=HK1.out;omega
        case rel=>exact ⟨(ji8),(wrap64 (x10_1+1)),(by first|rfl|(simp;done)|(simp only[← hji8] <;> (first|rfl|simp))|(simp[*];done)),xs',H',⟨by have:=HK1.out;omega⟩,⟨xb'⟩⟩
       ·
        rw[if_neg c7] at H;exact absurd H (by simp)
      ·
       rw[if_neg c6] at H;exact absurd H (by simp)
     ·
      rw[if_neg c5] at H;exact absurd H (by simp)
    ·
     rw[if_neg c4] at H;exact absurd H (by simp)
   ·
    rw[if_neg c3] at H;have c3b0:decide (x10_1 < (l1.length:Int))=false:=df' c3;clear c3;obtain rfl:=os' H;go_wp2;go_ret
    exact ⟨by first|rfl|(simp[errW_none,errW_some] <;> rfl)|(simp[*,errW_none,errW_some] <;> rfl),xb'⟩
def slices_Clone_bool_bool.f (l0:List Bool):Option (List Bool):=if l0.length < 140737488355328 then some l0 else none
set_option maxHeartbeats 2000000 in
set_option maxRecDepth 100000 in
theorem slices_Clone_bool_bool.calls (A0:Option Addr) (c0:Nat) (l0:List Bool) (r:List Bool) (w:World) (hr0:Kd.C Kd.bool w A0 l0.length l0) (hc0:l0.length≤c0) (h:slices_Clone_bool_bool.f l0=some r) :
  Calls Try.prog 70 #[.slice A0 l0.length c0] w fun e w'=>∃ v0_:Value,e = .returned (v0_)∧Kd.R Kd.bool 4 w' w.heap.size (fun _=>True) v0_ r∧Below w.heap.size w w':=by
 have hinfo:(Try.prog.info? 4).map (fun i=>(i.zero,i.size,i.bytes))=some (some (.bool false),1,1):=by kernel_rfl
 obtain ⟨hlim,rfl⟩:l0.length < 140737488355328∧l0=r:=by
  unfold slices_Clone_bool_bool.f at h
  by_cases hl:l0.length < 140737488355328
  ·
   rw[if_pos hl] at h;exact ⟨hl,os' h⟩
  ·
   rw[if_neg hl] at h;cases h
 clear h;cases A0 with
 | none =>
  obtain rfl:l0=[]:=by
   cases l0 with
   | nil=>rfl
   | cons x l=>obtain ⟨_,e,_⟩:=hr0.2.2 (by simp);cases e
  clear hr0 hc0 hlim hinfo;have heq:=fun (w:World) (n c:Nat)=>Lib.run_eql_slice_nil (P:=Try.prog) w 52 4 none n c 0 0 Try.underlying52
  go_enter Try.func70,Try.ntmps70;go_wp2;go_ret
  exact ⟨_,rfl,Kd.R_nil _ _ _ _ _,Below.refl _ _⟩
 | some a =>
  have HR0:=am' hr0;have HL:=am' hlim;have hie:=am' hinfo;clear hr0 hc0 hlim hinfo;have HB:=am' (Below.refl w.heap.size w);have heq:=fun (w:World) (n c:Nat)=>Lib.run_eql_slice_nil (P:=Try.prog) w 52 4 (some a) n c 0 0 Try.underlying52
  go_enter Try.func70,Try.ntmps70;go_wp2_with (first|((with_reducible refine gate_dst (N:=5) rfl ?_);refine Kd.R_lit Kd.bool _ 4 ?hg (N:=5) ?hd (xs:=([]:List Bool)) (inner:=[]) (ok:=fun _=>True) (okp:=fun _=>True) ?hr ?hp (fun _ hk=>hk) trivial (Below.refl _ _) (Nat.le_refl _) (by simp) ?_;(case hd=>rfl);(case hg=>rfl);(case hr=>first|(go_simp;done)|(go_simp;rfl));(case hp=>exact (Reps.none _ _));intro v210 w3 ho4 hb hg_ hnew_;clear hg_ hnew_;have n0_:=am' (Kd.R_lower ho4 (bz' HB.out));have n1_:=am' (bt' HB.out hb);clear HB;have HO211:=n0_;have HB:=n1_;clear n0_ n1_;clear hb ho4)|((with_reducible refine gate_builtin (b := .append) (xs:=#[.tmp 5, .tmp 6]) rfl ?_);at_builtin;refine Kd.R_append_rows Kd.bool (w0:=w) w.heap.size rfl (.tmp 5) (.tmp 6) 52 4 (.bool false) 1 rfl Try.underlying52 hie.out rfl (by decide) (by omega) v210 [] l0 _ _ _ (fun _=>True) (fun _=>False) rfl rfl ?aO ?aR (fun _ _ h=>h) (fun _ h=>h.elim) ?aF ?aB ?aS ?aL ?_;(case aR=>exact (cb' HR0.out HB.out));(case aB=>exact HB.out);(case aF=>exact (fun _ _=>trivial));(case aO=>exact HO211.out);(case aS=>exact (bz' HB.out));(case aL=>have:=HL.out;simp;omega);intro v213 w5 ho hb hg hat;have n0_:=am' (hb);have n1_:=am' (ho);clear HB;clear HO211;have HB:=n0_;have HO214:=n1_;clear n0_ n1_;clear ho hb hg hat));go_ret
  exact ⟨_,rfl,by simpa using HO214.out,HB.out⟩
end Go.Proofs.Ytihieplobgehaaa.C2
