import Derived.Test.YtabhhkiipilghaaC2zx0
import Derived.Test.YtabhhkiipilghaaC2zx1
import Derived.Test.YtabhhkiipilghaaC2zx2
import Derived.Test.YtabhhkiipilghaaC2zx3
import Derived.Test.YtabhhkiipilghaaC2zAl
namespace Go.Proofs.Ytabhhkiipilghaa.C2
open Go.RowKit Go.Proofs.YtabhhkiipilghaaW.PrintWords Go.Proofs.YtabhhkiipilghaaW.PrintLast Go.Proofs.YtabhhkiipilghaaW.PrintMore Go.Proofs.Ytabhhkiipilghaa.H
attribute [local go_sem] max2_int min2_int max_two min_two max_three min_three max_four min_four
set_option linter.unusedVariables false
set_option linter.unusedSimpArgs false
theorem in_calls (x lo hi:Int) (w:World):Calls Try.prog 47 #[.int .i64 x, .int .i64 lo, .int .i64 hi] w fun e w'=>e = .returned (.bool (inB lo hi x))∧Below w.heap.size w w' :=
 (impl_in.calls x lo hi (inB lo hi x) w (by unfold impl_in.f inB;by_cases h:lo≤x <;> simp [h])).mono fun e w' ⟨he,hd⟩=>⟨he,hd.below⟩
theorem areIn1_calls (x lo hi:Int) (b1 b2:Nat) (w:World) (h1:w.cell? ⟨b1,0,none⟩=some (.int .i64 lo)) (h2:w.cell? ⟨b2,0,none⟩=some (.int .i64 hi)) :
  Calls Try.prog 76 #[.int .i64 x, .pointer (some ⟨b1,0,none⟩), .pointer (some ⟨b2,0,none⟩)] w fun e w'=>e = .returned (.bool (!inB lo hi x))∧Below w.heap.size w w':=by
 go_enter Try.func76,Try.ntmps76
 go_wp2_with (go_at_call 47;refine (in_calls _ _ _ _).mono ?_;rintro e w' ⟨rfl,hb⟩)
 go_ret
 exact ⟨rfl,hb⟩
theorem areIn_pred (lo hi:Int) (b1 b2:Nat) (xs:List Int) (w:World) (h1:w.cell? ⟨b1,0,none⟩=some (.int .i64 lo)) (h2:w.cell? ⟨b2,0,none⟩=some (.int .i64 hi)) :
  PredOn 76 #[.pointer (some ⟨b1,0,none⟩), .pointer (some ⟨b2,0,none⟩)] (fun x => !inB lo hi x) xs w:=fun x _ W hb =>
 areIn1_calls x lo hi b1 b2 W ((hb.cell (bl' w _ h1)).trans h1) ((hb.cell (bl' w _ h2)).trans h2)
def impl_areIn.f (l0:List Int) (a1 a2 a3 a4:Int):Option Bool:=some (inB a3 a4 (l0.length:Int) && l0.all (inB a1 a2))
set_option maxHeartbeats 2000000 in
set_option maxRecDepth 100000 in
theorem impl_areIn.calls (A0:Option Addr) (c0:Nat) (l0:List Int) (a1 a2 a3 a4:Int) (r:Bool) (w:World) (hr0:Kd.C (Kd.int .i64) w A0 l0.length l0) (hc0:l0.length≤c0) (h:impl_areIn.f l0 a1 a2 a3 a4=some r) :
  Calls Try.prog 51 #[.slice A0 l0.length c0, .int .i64 a1, .int .i64 a2, .int .i64 a3, .int .i64 a4] w fun e w'=>e = .returned (.bool r)∧Below w.heap.size w w':=by
 have hbig:l0.length≤9223372036854775807:=hr0.2.1
 have HC:=am' (fun (w1:World) (h1:Below w.heap.size w w1) (b1 b2:Nat) (e1:w1.cell? ⟨b1,0,none⟩=some (.int .i64 a1)) (e2:w1.cell? ⟨b2,0,none⟩=some (.int .i64 a2)) =>
  ContainsFunc_any 76 #[.pointer (some ⟨b1,0,none⟩), .pointer (some ⟨b2,0,none⟩)] (fun x => !inB a1 a2 x) (enters_of Try.func76 xk' rfl) A0 c0 l0 w1 (cb' hr0 h1) hc0 hbig (areIn_pred a1 a2 b1 b2 l0 w1 e1 e2))
 clear hr0;cases hi:inB a3 a4 (l0.length:Int) with
 | false =>
  obtain rfl:false=r:=by unfold impl_areIn.f at h;simpa [hi] using h
  clear h;go_enter Try.func51,Try.ntmps51;go_wp2_with (go_at_call 47;refine (in_calls _ _ _ _).mono ?_;rintro e w' ⟨rfl,hb⟩);go_ret
  exact ⟨rfl,(after_alloc (after_alloc hb).1).1⟩
 | true =>
  obtain rfl:l0.all (inB a1 a2)=r:=by unfold impl_areIn.f at h;simpa [hi] using h
  clear h;go_enter Try.func51,Try.ntmps51;go_wp2_with (go_at_call 47;refine (in_calls _ _ _ _).mono ?_;rintro e w' ⟨rfl,hb⟩);have h2:=after_alloc hb;have h1:=after_alloc h2.1;rw[World.size_alloc] at h2;refine (HC.out w' h1.1 _ _ ((bc' h1.2 0).trans rfl) ((bc' h2.2 0).trans rfl)).mono ?_
  rintro e w2 ⟨rfl,hb2⟩
  clear hb h2;have HB2:=am' (bt' h1.1 hb2);clear h1 hb2;go_wp2;go_ret
  refine ⟨?_,HB2.out⟩;rw[← any_not_all];rfl
def impl_rises.l0:Nat→List Int→Int→Option (Bool)
 | 0,_,_=>none
 | k+1,x0,x3=>if x3 < (x0.length:Int) then (if 0≤x3 then (if 0≤(wrap64 (x3 - 1)) then (if (wrap64 (x3 - 1)) < (x0.length:Int) then (if (rd x0 x3)≤(rd x0 (wrap64 (x3 - 1))) then (some false) else (impl_rises.l0 k x0 (wrap64 (x3+1)))) else (none)) else (none)) else (none)) else (some true)
def impl_rises.f (k:Nat) (l0:List Int):Option (Bool):=impl_rises.l0 k l0 1
theorem impl_rises.mono_l:∀ k,(∀ y0 y1,LeO (impl_rises.l0 k y0 y1) (impl_rises.l0 (k+1) y0 y1))
 | 0=>fun _ _ r h=>by simp[impl_rises.l0] at h
 | k+1=>by
  have ih0:=impl_rises.mono_l k
  ·
   intro y0 y1;unfold impl_rises.l0
   repeat' first
   | (with_reducible exact ih0 _ _)
   | (with_reducible exact LeO.refl _)
   | (with_reducible exact LeO.none _)
   | (with_reducible refine LeO.ite ?_ ?_)
   | (with_reducible refine LeO.bind ?_ (fun _=>?_))
   | exact ih0 _ _
   | exact LeO.none _
   | refine LeO.ite ?_ ?_
   | refine LeO.bind ?_ (fun _=>?_)
theorem impl_rises.mono:∀ a0 k,LeO (impl_rises.f k a0) (impl_rises.f (k+1) a0):=by
 intro a0 k;have ih0:=impl_rises.mono_l k
 unfold impl_rises.f
 repeat' first
   | (with_reducible exact ih0 _ _)
   | (with_reducible exact LeO.refl _)
   | (with_reducible exact LeO.none _)
   | (with_reducible refine LeO.ite ?_ ?_)
   | (with_reducible refine LeO.bind ?_ (fun _=>?_))
   | exact ih0 _ _
   | exact LeO.none _
   | refine LeO.ite ?_ ?_
   | refine LeO.bind ?_ (fun _=>?_)
set_option maxHeartbeats 8000000 in
set_option maxRecDepth 100000 in
theorem impl_rises.calls (k:Nat) (A0:Option Addr) (c0:Nat) (l0:List Int) (r:Bool) (w:World) (hr0:Kd.C (Kd.int .i64) w A0 l0.length l0) (hc0:l0.length≤c0) (h:impl_rises.f k l0=some r) :
  Calls Try.prog 52 #[.slice A0 l0.length c0] w fun e w'=>e = .returned (.bool r)∧Drawn0 w w':=by
 have HR0:=am' hr0
 have HC0:=am' hc0
 clear hr0 hc0;have H:(impl_rises.l0 k l0 1)=some r:=h
 clear h;have H':=am' H
 clear H;go_enter Try.func52,Try.ntmps52
 go_wp2
 repeat (go_quiet (fail);try go_wp2)
 go_loopg [3] k (fun kq v3 w'=>∃ (x3_1:Int),v3 = .int .i64 x3_1∧Aside0 (impl_rises.l0 kq l0 x3_1=some r)∧Aside0 (kq≤k)∧Drawn0 w w')
 case atStart=>exact ⟨(1),xs',H',⟨Nat.le_refl _⟩,by repeat (first|exact Drawn0.refl _|apply Drawn0.step)⟩
 case round =>
  clear H';obtain ⟨x3_1,rfl,HA,HK1,⟨m1,rfl⟩⟩:=hrel;cases gk with
  | zero=>exact absurd HA.out (by simp[impl_rises.l0])
  | succ k1 =>
   have H:=HA.out;clear HA;simp only[impl_rises.l0] at H;by_cases c2:x3_1 < (l0.length:Int)
   ·
    rw[if_pos c2] at H;have c2b0:decide (x3_1 < (l0.length:Int))=true:=dt' c2;clear c2;by_cases c3:0≤x3_1
    ·
     rw[if_pos c3] at H;have c3b0:decide (0≤x3_1)=true:=dt' c3;clear c3;obtain ⟨ji4,hji4⟩:∃ j_:Int,(wrap64 (x3_1 - 1))=j_:=⟨_,rfl⟩
     replace H:(if 0≤(ji4) then (if (ji4) < (l0.length:Int) then (if (rd l0 x3_1)≤(rd l0 (ji4)) then (some false) else (impl_rises.l0 k1 l0 (wrap64 (x3_1+1)))) else (none)) else (none))=some r:=by first|(rw[hji4] at H;exact H)|(simp only[hji4] at H ⊢;exact H)
     have hji4w:(IntKind.i64.wrap (x3_1 - 1))=ji4:=(i64_w _).trans hji4;by_cases c5:0≤(ji4)
     ·
      rw[if_pos c5] at H;have c5b0:decide (0≤(ji4))=true:=dt' c5;clear c5;by_cases c6:(ji4) < (l0.length:Int)
      ·
       rw[if_pos c6] at H;have c6b0:decide ((ji4) < (l0.length:Int))=true:=dt' c6;clear c6;by_cases c7:(rd l0 x3_1)≤(rd l0 (ji4))
       ·
        rw[if_pos c7] at H;have c7b0:decide ((rd l0 x3_1)≤(rd l0 (ji4)))=true:=dt' c7;clear c7;obtain rfl:=os' H;have p261:0≤(x3_1:Int):=od' xa';have q261:x3_1 < (l0.length:Int):=od' xa';obtain ⟨ad261,e261,hx261_0⟩:=Kd.at_int HR0.out x3_1 p261 q261;cases e261;replace p261:=eq_true p261;replace q261:=eq_true q261;have p262:0≤((ji4):Int):=od' xa';have q262:(ji4) < (l0.length:Int):=od' xa';obtain ⟨ad262,e262,hx262_0⟩:=Kd.at_int HR0.out (ji4) p262 q262;obtain rfl:ad261=ad262:=(by injection e262)
        replace p262:=eq_true p262;replace q262:=eq_true q262;go_wp2
        repeat (go_quiet (fail);try go_wp2)
        go_ret
        exact ⟨by first|rfl|(simp;done)|(simp only[← hji4] <;> (first|rfl|simp))|(simp[*];done),by repeat (first|exact Drawn0.refl _|apply Drawn0.step)⟩
       ·
        rw[if_neg c7] at H;have c7b0:decide ((rd l0 x3_1)≤(rd l0 (ji4)))=false:=df' c7;clear c7;have H':=am' H;clear H;have p261:0≤(x3_1:Int):=od' xa';have q261:x3_1 < (l0.length:Int):=od' xa';obtain ⟨ad261,e261,hx261_0⟩:=Kd.at_int HR0.out x3_1 p261 q261;cases e261;replace p261:=eq_true p261;replace q261:=eq_true q261;have p262:0≤((ji4):Int):=od' xa';have q262:(ji4) < (l0.length:Int):=od' xa';obtain ⟨ad262,e262,hx262_0⟩:=Kd.at_int HR0.out (ji4) p262 q262;obtain rfl:ad261=ad262:=(by injection e262)
        replace p262:=eq_true p262;replace q262:=eq_true q262;go_wp2
        repeat (go_quiet (fail);try go_wp2)
        go_roundg k1
        case measure=>have:=HK1.out;omega
        case rel=>exact ⟨(wrap64 (x3_1+1)),xs',H',⟨by have:=HK1.out;omega⟩,by repeat (first|exact Drawn0.refl _|apply Drawn0.step)⟩
      ·
       rw[if_neg c6] at H;exact absurd H (by simp)
     ·
      rw[if_neg c5] at H;exact absurd H (by simp)
    ·
     rw[if_neg c3] at H;exact absurd H (by simp)
   ·
    rw[if_neg c2] at H;have c2b0:decide (x3_1 < (l0.length:Int))=false:=df' c2;clear c2;obtain rfl:=os' H;go_wp2
    repeat (go_quiet (fail);try go_wp2)
    go_ret
    exact ⟨xs',by repeat (first|exact Drawn0.refl _|apply Drawn0.step)⟩
set_option maxHeartbeats 2000000 in
set_option maxRecDepth 100000 in
theorem are1_calls (x:Int) (b1 b2:Nat) (A:Option Addr) (c:Nat) (l0:List Bool) (t over:Bool) (w:World) (h1:w.heap[b1]? = some (.cells #[.slice A l0.length c, .bool t] 35 (0,0))) (h2:w.cell? ⟨b2,0,none⟩=some (.bool over)) (hr:Kd.C Kd.bool w A l0.length l0) (hx0:0≤x) (hx1:x < (l0.length:Int)) :
  Calls Try.prog 86 #[.int .i64 x, .pointer (some ⟨b1,0,none⟩), .pointer (some ⟨b2,0,none⟩)] w fun e w'=>e = .returned (.bool (rdOf false l0 x != over))∧Below w.heap.size w w':=by
 obtain ⟨ad,e0,hx⟩:=Kd.at_bool hr x hx0 hx1
 cases e0
 have hs:w.cell? ⟨b1,0,none⟩=some (.slice (some ad) l0.length c):=(bc' h1 0).trans rfl
 have hbig:=hr.2.1
 have p0:=eq_true hx0
 have p1:=eq_true hx1
 clear hr h1 hx0 hx1;go_enter Try.func86,Try.ntmps86
 go_wp2
 go_quiet (fail)
 go_wp2
 go_ret
 exact ⟨rfl,bd' (Below.refl _ _) _⟩
theorem are_pred (b1 b2:Nat) (A:Option Addr) (c:Nat) (l0:List Bool) (t over:Bool) (xs:List Int) (w:World) (h1:w.heap[b1]? = some (.cells #[.slice A l0.length c, .bool t] 35 (0,0))) (h2:w.cell? ⟨b2,0,none⟩=some (.bool over)) (hr:Kd.C Kd.bool w A l0.length l0) (hx:∀ x ∈ xs,0≤x∧x < (l0.length:Int)) :
  PredOn 86 #[.pointer (some ⟨b1,0,none⟩), .pointer (some ⟨b2,0,none⟩)] (fun x=>rdOf false l0 x != over) xs w:=fun x hm W hb =>
 are1_calls x b1 b2 A c l0 t over W ((hb.block _ (blk_lt h1)).trans h1) ((hb.cell (bl' w _ h2)).trans h2) (cb' hr hb) (hx x hm).1 (hx x hm).2
def impl_State_are.f (l0_0:List Bool) (a0_1:Bool) (l1:List Int) (a2:Bool):Option Bool:=if l1.all (fun x=>decide (0≤x) && decide (x < (l0_0.length:Int))) then some (l1.all fun x=>rdOf false l0_0 x == a2) else none
set_option maxHeartbeats 2000000 in
set_option maxRecDepth 100000 in
theorem impl_State_are.calls (A0_0:Option Addr) (c0_0:Nat) (l0_0:List Bool) (a0_1:Bool) (A1:Option Addr) (c1:Nat) (l1:List Int) (a2:Bool) (r:Bool) (w:World) (hr0_0:Kd.C Kd.bool w A0_0 l0_0.length l0_0) (hc0_0:l0_0.length≤c0_0) (hr1:Kd.C (Kd.int .i64) w A1 l1.length l1) (hc1:l1.length≤c1) (h:impl_State_are.f l0_0 a0_1 l1 a2=some r) :
  Calls Try.prog 73 #[.agg #[.slice A0_0 l0_0.length c0_0, .bool a0_1], .slice A1 l1.length c1, .bool a2] w fun e w'=>e = .returned (.bool r)∧Below w.heap.size w w':=by
 obtain ⟨hin,rfl⟩:(∀ x ∈ l1,0≤x∧x < (l0_0.length:Int))∧(l1.all fun x=>rdOf false l0_0 x == a2)=r:=by
  unfold impl_State_are.f at h
  by_cases hc:l1.all (fun x=>decide (0≤x) && decide (x < (l0_0.length:Int)))=true
  ·
   rw[if_pos hc] at h;refine ⟨fun x hx=>?_,os' h⟩;have:=List.all_eq_true.1 hc x hx;simpa using this
  ·
   rw[if_neg hc] at h;cases h
 have HC:=am' (fun (w1:World) (h1:Below w.heap.size w w1) (b1 b2:Nat) (e1:w1.heap[b1]? = some (.cells #[.slice A0_0 l0_0.length c0_0, .bool a0_1] 35 (0,0))) (e2:w1.cell? ⟨b2,0,none⟩=some (.bool a2)) =>
  ContainsFunc_any 86 #[.pointer (some ⟨b1,0,none⟩), .pointer (some ⟨b2,0,none⟩)] (fun x=>rdOf false l0_0 x != a2) (enters_of Try.func86 xk' rfl) A1 c1 l1 w1 (cb' hr1 h1) hc1 hr1.2.1 (are_pred b1 b2 A0_0 c0_0 l0_0 a0_1 a2 l1 w1 e1 e2 (cb' hr0_0 h1) hin))
 clear hr0_0 hr1 h hin;have hu:=Try.underlying35
 go_enter Try.func73,Try.ntmps73
 go_wp2_with (fail)
 have hb1:Below w.heap.size w (w.alloc (.cells #[.slice A0_0 l0_0.length c0_0, .bool a0_1] 35)):=(Below.refl _ _).alloc (Nat.le_refl _) _
 refine (HC.out _ ?_ _ _ ?_ ?_).mono ?_
 ·
  exact ((Below.refl _ _).alloc (Nat.le_refl _) _).alloc (by rw[World.size_alloc];omega) _
 ·
  exact ((ba' (Below.refl _ _) _).block _ (by rw[World.size_alloc];omega)).trans (heap_alloc_new w _)
 ·
  exact cell_two _ _ _ _
 rintro e w2 ⟨rfl,hb2⟩
 have h2:=after_alloc hb2
 have HB2:=am' (after_alloc h2.1).1
 clear hb2 h2 hb1;go_wp2
 go_ret
 refine ⟨?_,HB2.out⟩
 have e:(fun x=>rdOf false l0_0 x != a2)=fun x => !(rdOf false l0_0 x == a2):=by funext x;rfl
 rw[e,← any_not_all]
 rfl
def impl_Company_isRow.f (k:Nat) (a0_0:Int) (a0_1:Int) (l1_0:List Bool) (a1_1:Bool) (l2:List Int):Option (Bool):=(impl_areIn.f l2 0 (wrap64 ((wrap64 (2 * a0_0)) - 1)) 1 a0_1).bind fun t265=>(if t265=true then ((impl_rises.f k l2).bind fun t266=>(if t266=true then ((impl_State_are.f l1_0 a1_1 l2 a1_1).bind fun t267=>(if t267=true then ((impl_calm.f k l2).bind fun t268=>(if t268=true then ((impl_State_moved.f k l1_0 a1_1 l2).bind fun bt269=>((impl_State_isCalm.f k bt269.1 bt269.2).bind fun t273=>(some t273))) else (some false))) else (some false))) else (some false))) else (some false))
theorem impl_Company_isRow.mono:∀ a0 a1 a2 a3 a4 k,LeO (impl_Company_isRow.f k a0 a1 a2 a3 a4) (impl_Company_isRow.f (k+1) a0 a1 a2 a3 a4):=by
 intro a0 a1 a2 a3 a4 k;unfold impl_Company_isRow.f
 repeat' first
   | (with_reducible exact impl_State_isCalm.mono _ _ _)
   | (with_reducible exact impl_State_moved.mono _ _ _ _)
   | (with_reducible exact impl_calm.mono _ _)
   | (with_reducible exact impl_rises.mono _ _)
   | (with_reducible exact LeO.refl _)
   | (with_reducible exact LeO.none _)
   | (with_reducible refine LeO.ite ?_ ?_)
   | (with_reducible refine LeO.bind ?_ (fun _=>?_))
   | exact impl_State_isCalm.mono _ _ _
   | exact impl_State_moved.mono _ _ _ _
   | exact impl_calm.mono _ _
   | exact impl_rises.mono _ _
   | exact LeO.none _
   | refine LeO.ite ?_ ?_
   | refine LeO.bind ?_ (fun _=>?_)
set_option maxHeartbeats 8000000 in
set_option maxRecDepth 100000 in
theorem impl_Company_isRow.calls (k:Nat) (a0_0:Int) (a0_1:Int) (A1_0:Option Addr) (c1_0:Nat) (l1_0:List Bool) (a1_1:Bool) (A2:Option Addr) (c2:Nat) (l2:List Int) (r:Bool) (w:World) (hr1_0:Kd.C Kd.bool w A1_0 l1_0.length l1_0) (hc1_0:l1_0.length≤c1_0) (hr2:Kd.C (Kd.int .i64) w A2 l2.length l2) (hc2:l2.length≤c2) (h:impl_Company_isRow.f k a0_0 a0_1 l1_0 a1_1 l2=some r) :
  Calls Try.prog 49 #[.agg #[.int .i64 a0_0, .int .i64 a0_1], .agg #[.slice A1_0 l1_0.length c1_0, .bool a1_1], .slice A2 l2.length c2] w fun e w'=>e = .returned (.bool r)∧Below w.heap.size w w':=by
 have hu32:=Try.underlying32
 have hu35:=Try.underlying35
 have HR1_0:=am' hr1_0
 have HC1_0:=am' hc1_0
 clear hr1_0 hc1_0;have HR2:=am' hr2
 have HC2:=am' hc2
 clear hr2 hc2;have HB:=am' (Below.refl w.heap.size w)
 have H:((impl_areIn.f l2 0 (wrap64 ((wrap64 (2 * a0_0)) - 1)) 1 a0_1).bind fun t265=>(if t265=true then ((impl_rises.f k l2).bind fun t266=>(if t266=true then ((impl_State_are.f l1_0 a1_1 l2 a1_1).bind fun t267=>(if t267=true then ((impl_calm.f k l2).bind fun t268=>(if t268=true then ((impl_State_moved.f k l1_0 a1_1 l2).bind fun bt269=>((impl_State_isCalm.f k bt269.1 bt269.2).bind fun t273=>(some t273))) else (some false))) else (some false))) else (some false))) else (some false)))=some r:=h
 clear h;replace H:=Option.bind_eq_some_iff.mp H
 obtain ⟨t265,A40,H⟩:=H
 replace H:(if t265=true then ((impl_rises.f k l2).bind fun t266=>(if t266=true then ((impl_State_are.f l1_0 a1_1 l2 a1_1).bind fun t267=>(if t267=true then ((impl_calm.f k l2).bind fun t268=>(if t268=true then ((impl_State_moved.f k l1_0 a1_1 l2).bind fun bt269=>((impl_State_isCalm.f k bt269.1 bt269.2).bind fun t273=>(some t273))) else (some false))) else (some false))) else (some false))) else (some false))=some r:=H
 have A4:=am' A40
 clear A40;by_cases c5:t265=true
 ·
  subst c5;have H1:((impl_rises.f k l2).bind fun t266=>(if t266=true then ((impl_State_are.f l1_0 a1_1 l2 a1_1).bind fun t267=>(if t267=true then ((impl_calm.f k l2).bind fun t268=>(if t268=true then ((impl_State_moved.f k l1_0 a1_1 l2).bind fun bt269=>((impl_State_isCalm.f k bt269.1 bt269.2).bind fun t273=>(some t273))) else (some false))) else (some false))) else (some false)))=some r:=by rw[if_pos rfl] at H;exact H
  clear H;have H:=H1;clear H1;replace H:=Option.bind_eq_some_iff.mp H;obtain ⟨t266,A60,H⟩:=H;replace H:(if t266=true then ((impl_State_are.f l1_0 a1_1 l2 a1_1).bind fun t267=>(if t267=true then ((impl_calm.f k l2).bind fun t268=>(if t268=true then ((impl_State_moved.f k l1_0 a1_1 l2).bind fun bt269=>((impl_State_isCalm.f k bt269.1 bt269.2).bind fun t273=>(some t273))) else (some false))) else (some false))) else (some false))=some r:=H;have A6:=am' A60;clear A60;by_cases c7:t266=true
  ·
   subst c7;have H1:((impl_State_are.f l1_0 a1_1 l2 a1_1).bind fun t267=>(if t267=true then ((impl_calm.f k l2).bind fun t268=>(if t268=true then ((impl_State_moved.f k l1_0 a1_1 l2).bind fun bt269=>((impl_State_isCalm.f k bt269.1 bt269.2).bind fun t273=>(some t273))) else (some false))) else (some false)))=some r:=by rw[if_pos rfl] at H;exact H
   clear H;have H:=H1;clear H1;replace H:=Option.bind_eq_some_iff.mp H;obtain ⟨t267,A80,H⟩:=H;replace H:(if t267=true then ((impl_calm.f k l2).bind fun t268=>(if t268=true then ((impl_State_moved.f k l1_0 a1_1 l2).bind fun bt269=>((impl_State_isCalm.f k bt269.1 bt269.2).bind fun t273=>(some t273))) else (some false))) else (some false))=some r:=H;have A8:=am' A80;clear A80;by_cases c9:t267=true
   ·
    subst c9;have H1:((impl_calm.f k l2).bind fun t268=>(if t268=true then ((impl_State_moved.f k l1_0 a1_1 l2).bind fun bt269=>((impl_State_isCalm.f k bt269.1 bt269.2).bind fun t273=>(some t273))) else (some false)))=some r:=by rw[if_pos rfl] at H;exact H
    clear H;have H:=H1;clear H1;replace H:=Option.bind_eq_some_iff.mp H;obtain ⟨t268,A100,H⟩:=H;replace H:(if t268=true then ((impl_State_moved.f k l1_0 a1_1 l2).bind fun bt269=>((impl_State_isCalm.f k bt269.1 bt269.2).bind fun t273=>(some t273))) else (some false))=some r:=H;have A10:=am' A100;clear A100;by_cases c11:t268=true
    ·
     subst c11;have H1:((impl_State_moved.f k l1_0 a1_1 l2).bind fun bt269=>((impl_State_isCalm.f k bt269.1 bt269.2).bind fun t273=>(some t273)))=some r:=by rw[if_pos rfl] at H;exact H
     clear H;have H:=H1;clear H1;replace H:=Option.bind_eq_some_iff.mp H;obtain ⟨⟨t269,t272⟩,A120,H⟩:=H;replace H:((impl_State_isCalm.f k t269 t272).bind fun t273=>(some t273))=some r:=H;have A12:=am' A120;clear A120;replace H:=Option.bind_eq_some_iff.mp H;obtain ⟨t273,A130,H⟩:=H;replace H:(some t273)=some r:=H;have A13:=am' A130;clear A130;obtain rfl:=os' H;go_enter Try.func49,Try.ntmps49;go_wp2_with (first|((with_reducible refine gate_dst (N:=3) rfl ?_);refine box_event ?hg (N:=3) ?hd (cs:=#[.int .i64 a0_0, .int .i64 a0_1]) (t:=32) ?hr ?_;(case hd=>rfl);(case hg=>rfl);(case hr=>first|(go_simp;done)|(go_simp;rfl));intro gb263 hg w14 hbox hb;have n0_:=am' (bt' xb' hb);have n1_:=am' (hbox);have n2_:=am' ((by rw[hg];exact (bz' xb'):w.heap.size≤gb263));have n3_:=am' ((by rw[hg];exact (bz' xb'):w.heap.size≤gb263));clear HB;have HB:=n0_;have BK263:=n1_;have GW263:=n2_;have GE263:=n3_;clear n0_ n1_ n2_ n3_;clear hb hbox hg)|((with_reducible refine gate_dst (N:=4) rfl ?_);refine box_event ?hg (N:=4) ?hd (cs:=#[.slice A1_0 l1_0.length c1_0, .bool a1_1]) (t:=35) ?hr ?_;(case hd=>rfl);(case hg=>rfl);(case hr=>first|(go_simp;done)|(go_simp;rfl));intro gb264 hg w15 hbox hb;have n0_:=am' (bb' (g:=gb263) (o := .cells #[.int .i64 a0_0, .int .i64 a0_1] 32 (0,0)) (kk' BK263.out) hb);have n1_:=am' (bt' (yb' GE263.out) hb);have n2_:=am' (hbox);have n3_:=am' ((by rw[hg];exact (bz' (yb' GE263.out)):w.heap.size≤gb264));have n4_:=am' ((by rw[hg];exact (bz' (yb' GE263.out)):w.heap.size≤gb264));have n5_:=am' ((by rw[hg];exact Nat.ne_of_lt (blk_lt (g:=gb263) (o := .cells #[.int .i64 a0_0, .int .i64 a0_1] 32 (0,0)) (kk' BK263.out)):gb263≠gb264));have n6_:=am' ((by rw[hg];exact Nat.ne_of_gt (blk_lt (g:=gb263) (o := .cells #[.int .i64 a0_0, .int .i64 a0_1] 32 (0,0)) (kk' BK263.out)):gb264≠gb263));clear BK263;clear HB;have BK263:=n0_;have HB:=n1_;have BK264:=n2_;have GW264:=n3_;have GE264:=n4_;have NB263_264:=n5_;have NB264_263:=n6_;clear n0_ n1_ n2_ n3_ n4_ n5_ n6_;clear hb hbox hg;have hnb16:=NB263_264.out;have hnc16:=NB264_263.out;have hcz17_0:w15.cell? ⟨gb263,0,none⟩=some (.int .i64 a0_0):=(bc' BK263.out 0).trans rfl;have hcz17_1:w15.cell? ⟨gb263,1,none⟩=some (.int .i64 a0_1):=(bc' BK263.out 1).trans rfl;have hfz17_0:=bf' BK263.out 0;have hfz17_1:=bf' BK263.out 1)|((with_reducible refine gate_callee (f:=51) rfl ?_);refine goesL_ (some 14) rfl rfl Try.func51 xk' rfl #[.slice A2 l2.length c2, .int .i64 0, .int .i64 (wrap64 ((wrap64 (2 * a0_0)) - 1)), .int .i64 1, .int .i64 a0_1] rfl xl' ?_;(with_reducible refine (impl_areIn.calls _ _ l2 0 (wrap64 ((wrap64 (2 * a0_0)) - 1)) 1 a0_1 true _ ?side1 ?side2 A4.out).mono ?_);(case side1=>exact kc' (cb' HR2.out HB.out));(case side2=>exact HC2.out);rintro e w18 ⟨rfl,hb⟩;refine ⟨_,rfl,?_⟩;have n0_:=am' (bb' (g:=gb263) (o := .cells #[.int .i64 a0_0, .int .i64 a0_1] 32 (0,0)) (kk' BK263.out) hb);have n1_:=am' (bb' (g:=gb264) (o := .cells #[.slice A1_0 l1_0.length c1_0, .bool a1_1] 35 (0,0)) (kk' BK264.out) hb);have n2_:=am' (bt' (y2' GE263.out GE264.out) hb);clear BK263;clear BK264;clear HB;have BK263:=n0_;have BK264:=n1_;have HB:=n2_;clear n0_ n1_ n2_;(try clear hb);(try clear hb2);(try clear hk);(try clear hi))|(go_at_call 52;(with_reducible refine (impl_rises.calls k _ _ l2 true _ ?side1 ?side2 A6.out).mono ?_);(case side1=>exact kc' (cb' HR2.out HB.out));(case side2=>exact HC2.out);rintro e w' ⟨rfl,⟨nd,rfl⟩⟩;have hcz19_0:w18.cell? ⟨gb264,0,none⟩=some (.slice A1_0 l1_0.length c1_0):=(bc' BK264.out 0).trans rfl;have hcz19_1:w18.cell? ⟨gb264,1,none⟩=some (.bool a1_1):=(bc' BK264.out 1).trans rfl;have hfz19_0:=bf' BK264.out 0;have hfz19_1:=bf' BK264.out 1)|(go_at_call 73;(with_reducible refine (impl_State_are.calls _ _ l1_0 a1_1 _ _ l2 a1_1 true _ ?side1 ?side2 ?side3 ?side4 A8.out).mono ?_);(case side1=>exact kc' (cb' HR1_0.out (y2' GE263.out GE264.out)));(case side2=>exact HC1_0.out);(case side3=>exact kc' (cb' HR2.out (y2' GE263.out GE264.out)));(case side4=>exact HC2.out);rintro e w20 ⟨rfl,hb⟩;have n0_:=am' (bb' (g:=gb263) (o := .cells #[.int .i64 a0_0, .int .i64 a0_1] 32 (0,0)) (kk' BK263.out) hb);have n1_:=am' (bb' (g:=gb264) (o := .cells #[.slice A1_0 l1_0.length c1_0, .bool a1_1] 35 (0,0)) (kk' BK264.out) hb);have n2_:=am' (bt' (y2' GE263.out GE264.out) hb);clear BK263;clear BK264;clear HB;have BK263:=n0_;have BK264:=n1_;have HB:=n2_;clear n0_ n1_ n2_;(try clear hb);(try clear hb2);(try clear hk);(try clear hi))|(go_at_call 53;(with_reducible refine (impl_calm.calls k _ _ l2 true _ ?side1 ?side2 A10.out).mono ?_);(case side1=>exact kc' (cb' HR2.out HB.out));(case side2=>exact HC2.out);rintro e w21 ⟨rfl,hb⟩;have n0_:=am' (bb' (g:=gb263) (o := .cells #[.int .i64 a0_0, .int .i64 a0_1] 32 (0,0)) (kk' BK263.out) hb);have n1_:=am' (bb' (g:=gb264) (o := .cells #[.slice A1_0 l1_0.length c1_0, .bool a1_1] 35 (0,0)) (kk' BK264.out) hb);have n2_:=am' (bt' (y2' GE263.out GE264.out) hb);clear BK263;clear BK264;clear HB;have BK263:=n0_;have BK264:=n1_;have HB:=n2_;clear n0_ n1_ n2_;(try clear hb);(try clear hb2);(try clear hk);(try clear hi);have hcz22_0:w21.cell? ⟨gb264,0,none⟩=some (.slice A1_0 l1_0.length c1_0):=(bc' BK264.out 0).trans rfl;have hcz22_1:w21.cell? ⟨gb264,1,none⟩=some (.bool a1_1):=(bc' BK264.out 1).trans rfl;have hfz22_0:=bf' BK264.out 0;have hfz22_1:=bf' BK264.out 1)|(go_at_call 50;(with_reducible refine (impl_State_moved.calls k _ _ l1_0 a1_1 _ _ l2 t269 t272 _ ?side1 ?side2 ?side3 ?side4 A12.out).mono ?_);(case side1=>exact kc' (cb' HR1_0.out HB.out));(case side2=>exact HC1_0.out);(case side3=>exact kc' (cb' HR2.out HB.out));(case side4=>exact HC2.out);rintro e w23 ⟨v270,rfl,ho0,hb⟩;have n0_:=am' (Kd.R_lower ho0 (bz' (y2' GE263.out GE264.out)));have n1_:=am' (bb' (g:=gb263) (o := .cells #[.int .i64 a0_0, .int .i64 a0_1] 32 (0,0)) (kk' BK263.out) hb);have n2_:=am' (bb' (g:=gb264) (o := .cells #[.slice A1_0 l1_0.length c1_0, .bool a1_1] 35 (0,0)) (kk' BK264.out) hb);have n3_:=am' (bt' (y2' GE263.out GE264.out) hb);clear BK263;clear BK264;clear HB;have HO271:=n0_;have BK263:=n1_;have BK264:=n2_;have HB:=n3_;clear n0_ n1_ n2_ n3_;(try clear hb);(try clear hb2);(try clear hk);(try clear hi);(try clear ho0);obtain ⟨Ao24,co24,eo24⟩:=Kd.R_slice HO271.out;subst eo24)|(go_at_call 40;(with_reducible refine (impl_State_isCalm.calls k _ _ t269 t272 t273 _ ?side1 ?side2 A13.out).mono ?_);(case side1=>exact kc' ((Kd.R_reads' HO271.out).2.2));(case side2=>exact (Kd.R_reads' HO271.out).2.1);rintro e w25 ⟨rfl,hb⟩;have n0_:=am' (rb' (kr' HO271.out) hb);have n1_:=am' (bb' (g:=gb263) (o := .cells #[.int .i64 a0_0, .int .i64 a0_1] 32 (0,0)) (kk' BK263.out) hb);have n2_:=am' (bb' (g:=gb264) (o := .cells #[.slice A1_0 l1_0.length c1_0, .bool a1_1] 35 (0,0)) (kk' BK264.out) hb);have n3_:=am' (bt' (y2' GE263.out GE264.out) hb);clear HO271;clear BK263;clear BK264;clear HB;have HO271:=n0_;have BK263:=n1_;have BK264:=n2_;have HB:=n3_;clear n0_ n1_ n2_ n3_;(try clear hb);(try clear hb2);(try clear hk);(try clear hi)))
     go_ret
     exact ⟨by first|rfl|(simp[errW_none,errW_some] <;> rfl)|(simp[*,errW_none,errW_some] <;> rfl),y2' GE263.out GE264.out⟩
    ·
     replace c11:=Bool.eq_false_iff.mpr c11;subst c11;have H1:(some false)=some r:=by rw[if_neg (show ¬ (false=true) by decide)] at H;exact H
     clear H;have H:=H1;clear H1;obtain rfl:=os' H;go_enter Try.func49,Try.ntmps49;go_wp2_with (first|((with_reducible refine gate_dst (N:=3) rfl ?_);refine box_event ?hg (N:=3) ?hd (cs:=#[.int .i64 a0_0, .int .i64 a0_1]) (t:=32) ?hr ?_;(case hd=>rfl);(case hg=>rfl);(case hr=>first|(go_simp;done)|(go_simp;rfl));intro gb263 hg w26 hbox hb;have n0_:=am' (bt' xb' hb);have n1_:=am' (hbox);have n2_:=am' ((by rw[hg];exact (bz' xb'):w.heap.size≤gb263));have n3_:=am' ((by rw[hg];exact (bz' xb'):w.heap.size≤gb263));clear HB;have HB:=n0_;have BK263:=n1_;have GW263:=n2_;have GE263:=n3_;clear n0_ n1_ n2_ n3_;clear hb hbox hg)|((with_reducible refine gate_dst (N:=4) rfl ?_);refine box_event ?hg (N:=4) ?hd (cs:=#[.slice A1_0 l1_0.length c1_0, .bool a1_1]) (t:=35) ?hr ?_;(case hd=>rfl);(case hg=>rfl);(case hr=>first|(go_simp;done)|(go_simp;rfl));intro gb264 hg w27 hbox hb;have n0_:=am' (bb' (g:=gb263) (o := .cells #[.int .i64 a0_0, .int .i64 a0_1] 32 (0,0)) (kk' BK263.out) hb);have n1_:=am' (bt' (yb' GE263.out) hb);have n2_:=am' (hbox);have n3_:=am' ((by rw[hg];exact (bz' (yb' GE263.out)):w.heap.size≤gb264));have n4_:=am' ((by rw[hg];exact (bz' (yb' GE263.out)):w.heap.size≤gb264));have n5_:=am' ((by rw[hg];exact Nat.ne_of_lt (blk_lt (g:=gb263) (o := .cells #[.int .i64 a0_0, .int .i64 a0_1] 32 (0,0)) (kk' BK263.out)):gb263≠gb264));have n6_:=am' ((by rw[hg];exact Nat.ne_of_gt (blk_lt (g:=gb263) (o := .cells #[.int .i64 a0_0, .int .i64 a0_1] 32 (0,0)) (kk' BK263.out)):gb264≠gb263));clear BK263;clear HB;have BK263:=n0_;have HB:=n1_;have BK264:=n2_;have GW264:=n3_;have GE264:=n4_;have NB263_264:=n5_;have NB264_263:=n6_;clear n0_ n1_ n2_ n3_ n4_ n5_ n6_;clear hb hbox hg;have hnb28:=NB263_264.out;have hnc28:=NB264_263.out;have hcz29_0:w27.cell? ⟨gb263,0,none⟩=some (.int .i64 a0_0):=(bc' BK263.out 0).trans rfl;have hcz29_1:w27.cell? ⟨gb263,1,none⟩=some (.int .i64 a0_1):=(bc' BK263.out 1).trans rfl;have hfz29_0:=bf' BK263.out 0;have hfz29_1:=bf' BK263.out 1)|((with_reducible refine gate_callee (f:=51) rfl ?_);refine goesL_ (some 14) rfl rfl Try.func51 xk' rfl #[.slice A2 l2.length c2, .int .i64 0, .int .i64 (wrap64 ((wrap64 (2 * a0_0)) - 1)), .int .i64 1, .int .i64 a0_1] rfl xl' ?_;(with_reducible refine (impl_areIn.calls _ _ l2 0 (wrap64 ((wrap64 (2 * a0_0)) - 1)) 1 a0_1 true _ ?side1 ?side2 A4.out).mono ?_);(case side1=>exact kc' (cb' HR2.out HB.out));(case side2=>exact HC2.out);rintro e w30 ⟨rfl,hb⟩;refine ⟨_,rfl,?_⟩;have n0_:=am' (bb' (g:=gb263) (o := .cells #[.int .i64 a0_0, .int .i64 a0_1] 32 (0,0)) (kk' BK263.out) hb);have n1_:=am' (bb' (g:=gb264) (o := .cells #[.slice A1_0 l1_0.length c1_0, .bool a1_1] 35 (0,0)) (kk' BK264.out) hb);have n2_:=am' (bt' (y2' GE263.out GE264.out) hb);clear BK263;clear BK264;clear HB;have BK263:=n0_;have BK264:=n1_;have HB:=n2_;clear n0_ n1_ n2_;(try clear hb);(try clear hb2);(try clear hk);(try clear hi))|(go_at_call 52;(with_reducible refine (impl_rises.calls k _ _ l2 true _ ?side1 ?side2 A6.out).mono ?_);(case side1=>exact kc' (cb' HR2.out HB.out));(case side2=>exact HC2.out);rintro e w' ⟨rfl,⟨nd,rfl⟩⟩;have hcz31_0:w30.cell? ⟨gb264,0,none⟩=some (.slice A1_0 l1_0.length c1_0):=(bc' BK264.out 0).trans rfl;have hcz31_1:w30.cell? ⟨gb264,1,none⟩=some (.bool a1_1):=(bc' BK264.out 1).trans rfl;have hfz31_0:=bf' BK264.out 0;have hfz31_1:=bf' BK264.out 1)|(go_at_call 73;(with_reducible refine (impl_State_are.calls _ _ l1_0 a1_1 _ _ l2 a1_1 true _ ?side1 ?side2 ?side3 ?side4 A8.out).mono ?_);(case side1=>exact kc' (cb' HR1_0.out (y2' GE263.out GE264.out)));(case side2=>exact HC1_0.out);(case side3=>exact kc' (cb' HR2.out (y2' GE263.out GE264.out)));(case side4=>exact HC2.out);rintro e w32 ⟨rfl,hb⟩;have n0_:=am' (bb' (g:=gb263) (o := .cells #[.int .i64 a0_0, .int .i64 a0_1] 32 (0,0)) (kk' BK263.out) hb);have n1_:=am' (bb' (g:=gb264) (o := .cells #[.slice A1_0 l1_0.length c1_0, .bool a1_1] 35 (0,0)) (kk' BK264.out) hb);have n2_:=am' (bt' (y2' GE263.out GE264.out) hb);clear BK263;clear BK264;clear HB;have BK263:=n0_;have BK264:=n1_;have HB:=n2_;clear n0_ n1_ n2_;(try clear hb);(try clear hb2);(try clear hk);(try clear hi))|(go_at_call 53;(with_reducible refine (impl_calm.calls k _ _ l2 false _ ?side1 ?side2 A10.out).mono ?_);(case side1=>exact kc' (cb' HR2.out HB.out));(case side2=>exact HC2.out);rintro e w33 ⟨rfl,hb⟩;have n0_:=am' (bb' (g:=gb263) (o := .cells #[.int .i64 a0_0, .int .i64 a0_1] 32 (0,0)) (kk' BK263.out) hb);have n1_:=am' (bb' (g:=gb264) (o := .cells #[.slice A1_0 l1_0.length c1_0, .bool a1_1] 35 (0,0)) (kk' BK264.out) hb);have n2_:=am' (bt' (y2' GE263.out GE264.out) hb);clear BK263;clear BK264;clear HB;have BK263:=n0_;have BK264:=n1_;have HB:=n2_;clear n0_ n1_ n2_;(try clear hb);(try clear hb2);(try clear hk);(try clear hi)))
     go_ret
     exact ⟨by first|rfl|(simp[errW_none,errW_some] <;> rfl)|(simp[*,errW_none,errW_some] <;> rfl),y2' GE263.out GE264.out⟩
   ·
    replace c9:=Bool.eq_false_iff.mpr c9;subst c9;have H1:(some false)=some r:=by rw[if_neg (show ¬ (false=true) by decide)] at H;exact H
    clear H;have H:=H1;clear H1;obtain rfl:=os' H;go_enter Try.func49,Try.ntmps49;go_wp2_with (first|((with_reducible refine gate_dst (N:=3) rfl ?_);refine box_event ?hg (N:=3) ?hd (cs:=#[.int .i64 a0_0, .int .i64 a0_1]) (t:=32) ?hr ?_;(case hd=>rfl);(case hg=>rfl);(case hr=>first|(go_simp;done)|(go_simp;rfl));intro gb263 hg w34 hbox hb;have n0_:=am' (bt' xb' hb);have n1_:=am' (hbox);have n2_:=am' ((by rw[hg];exact (bz' xb'):w.heap.size≤gb263));have n3_:=am' ((by rw[hg];exact (bz' xb'):w.heap.size≤gb263));clear HB;have HB:=n0_;have BK263:=n1_;have GW263:=n2_;have GE263:=n3_;clear n0_ n1_ n2_ n3_;clear hb hbox hg)|((with_reducible refine gate_dst (N:=4) rfl ?_);refine box_event ?hg (N:=4) ?hd (cs:=#[.slice A1_0 l1_0.length c1_0, .bool a1_1]) (t:=35) ?hr ?_;(case hd=>rfl);(case hg=>rfl);(case hr=>first|(go_simp;done)|(go_simp;rfl));intro gb264 hg w35 hbox hb;have n0_:=am' (bb' (g:=gb263) (o := .cells #[.int .i64 a0_0, .int .i64 a0_1] 32 (0,0)) (kk' BK263.out) hb);have n1_:=am' (bt' (yb' GE263.out) hb);have n2_:=am' (hbox);have n3_:=am' ((by rw[hg];exact (bz' (yb' GE263.out)):w.heap.size≤gb264));have n4_:=am' ((by rw[hg];exact (bz' (yb' GE263.out)):w.heap.size≤gb264));have n5_:=am' ((by rw[hg];exact Nat.ne_of_lt (blk_lt (g:=gb263) (o := .cells #[.int .i64 a0_0, .int .i64 a0_1] 32 (0,0)) (kk' BK263.out)):gb263≠gb264));have n6_:=am' ((by rw[hg];exact Nat.ne_of_gt (blk_lt (g:=gb263) (o := .cells #[.int .i64 a0_0, .int .i64 a0_1] 32 (0,0)) (kk' BK263.out)):gb264≠gb263));clear BK263;clear HB;have BK263:=n0_;have HB:=n1_;have BK264:=n2_;have GW264:=n3_;have GE264:=n4_;have NB263_264:=n5_;have NB264_263:=n6_;clear n0_ n1_ n2_ n3_ n4_ n5_ n6_;clear hb hbox hg;have hnb36:=NB263_264.out;have hnc36:=NB264_263.out;have hcz37_0:w35.cell? ⟨gb263,0,none⟩=some (.int .i64 a0_0):=(bc' BK263.out 0).trans rfl;have hcz37_1:w35.cell? ⟨gb263,1,none⟩=some (.int .i64 a0_1):=(bc' BK263.out 1).trans rfl;have hfz37_0:=bf' BK263.out 0;have hfz37_1:=bf' BK263.out 1)|((with_reducible refine gate_callee (f:=51) rfl ?_);refine goesL_ (some 14) rfl rfl Try.func51 xk' rfl #[.slice A2 l2.length c2, .int .i64 0, .int .i64 (wrap64 ((wrap64 (2 * a0_0)) - 1)), .int .i64 1, .int .i64 a0_1] rfl xl' ?_;(with_reducible refine (impl_areIn.calls _ _ l2 0 (wrap64 ((wrap64 (2 * a0_0)) - 1)) 1 a0_1 true _ ?side1 ?side2 A4.out).mono ?_);(case side1=>exact kc' (cb' HR2.out HB.out));(case side2=>exact HC2.out);rintro e w38 ⟨rfl,hb⟩;refine ⟨_,rfl,?_⟩;have n0_:=am' (bb' (g:=gb263) (o := .cells #[.int .i64 a0_0, .int .i64 a0_1] 32 (0,0)) (kk' BK263.out) hb);have n1_:=am' (bb' (g:=gb264) (o := .cells #[.slice A1_0 l1_0.length c1_0, .bool a1_1] 35 (0,0)) (kk' BK264.out) hb);have n2_:=am' (bt' (y2' GE263.out GE264.out) hb);clear BK263;clear BK264;clear HB;have BK263:=n0_;have BK264:=n1_;have HB:=n2_;clear n0_ n1_ n2_;(try clear hb);(try clear hb2);(try clear hk);(try clear hi))|(go_at_call 52;(with_reducible refine (impl_rises.calls k _ _ l2 true _ ?side1 ?side2 A6.out).mono ?_);(case side1=>exact kc' (cb' HR2.out HB.out));(case side2=>exact HC2.out);rintro e w' ⟨rfl,⟨nd,rfl⟩⟩;have hcz39_0:w38.cell? ⟨gb264,0,none⟩=some (.slice A1_0 l1_0.length c1_0):=(bc' BK264.out 0).trans rfl;have hcz39_1:w38.cell? ⟨gb264,1,none⟩=some (.bool a1_1):=(bc' BK264.out 1).trans rfl;have hfz39_0:=bf' BK264.out 0;have hfz39_1:=bf' BK264.out 1)|(go_at_call 73;(with_reducible refine (impl_State_are.calls _ _ l1_0 a1_1 _ _ l2 a1_1 false _ ?side1 ?side2 ?side3 ?side4 A8.out).mono ?_);(case side1=>exact kc' (cb' HR1_0.out (y2' GE263.out GE264.out)));(case side2=>exact HC1_0.out);(case side3=>exact kc' (cb' HR2.out (y2' GE263.out GE264.out)));(case side4=>exact HC2.out);rintro e w40 ⟨rfl,hb⟩;have n0_:=am' (bb' (g:=gb263) (o := .cells #[.int .i64 a0_0, .int .i64 a0_1] 32 (0,0)) (kk' BK263.out) hb);have n1_:=am' (bb' (g:=gb264) (o := .cells #[.slice A1_0 l1_0.length c1_0, .bool a1_1] 35 (0,0)) (kk' BK264.out) hb);have n2_:=am' (bt' (y2' GE263.out GE264.out) hb);clear BK263;clear BK264;clear HB;have BK263:=n0_;have BK264:=n1_;have HB:=n2_;clear n0_ n1_ n2_;(try clear hb);(try clear hb2);(try clear hk);(try clear hi)))
    go_ret
    exact ⟨by first|rfl|(simp[errW_none,errW_some] <;> rfl)|(simp[*,errW_none,errW_some] <;> rfl),y2' GE263.out GE264.out⟩
  ·
   replace c7:=Bool.eq_false_iff.mpr c7;subst c7;have H1:(some false)=some r:=by rw[if_neg (show ¬ (false=true) by decide)] at H;exact H
   clear H;have H:=H1;clear H1;obtain rfl:=os' H;go_enter Try.func49,Try.ntmps49;go_wp2_with (first|((with_reducible refine gate_dst (N:=3) rfl ?_);refine box_event ?hg (N:=3) ?hd (cs:=#[.int .i64 a0_0, .int .i64 a0_1]) (t:=32) ?hr ?_;(case hd=>rfl);(case hg=>rfl);(case hr=>first|(go_simp;done)|(go_simp;rfl));intro gb263 hg w41 hbox hb;have n0_:=am' (bt' xb' hb);have n1_:=am' (hbox);have n2_:=am' ((by rw[hg];exact (bz' xb'):w.heap.size≤gb263));have n3_:=am' ((by rw[hg];exact (bz' xb'):w.heap.size≤gb263));clear HB;have HB:=n0_;have BK263:=n1_;have GW263:=n2_;have GE263:=n3_;clear n0_ n1_ n2_ n3_;clear hb hbox hg)|((with_reducible refine gate_dst (N:=4) rfl ?_);refine box_event ?hg (N:=4) ?hd (cs:=#[.slice A1_0 l1_0.length c1_0, .bool a1_1]) (t:=35) ?hr ?_;(case hd=>rfl);(case hg=>rfl);(case hr=>first|(go_simp;done)|(go_simp;rfl));intro gb264 hg w42 hbox hb;have n0_:=am' (bb' (g:=gb263) (o := .cells #[.int .i64 a0_0, .int .i64 a0_1] 32 (0,0)) (kk' BK263.out) hb);have n1_:=am' (bt' (yb' GE263.out) hb);have n2_:=am' (hbox);have n3_:=am' ((by rw[hg];exact (bz' (yb' GE263.out)):w.heap.size≤gb264));have n4_:=am' ((by rw[hg];exact (bz' (yb' GE263.out)):w.heap.size≤gb264));have n5_:=am' ((by rw[hg];exact Nat.ne_of_lt (blk_lt (g:=gb263) (o := .cells #[.int .i64 a0_0, .int .i64 a0_1] 32 (0,0)) (kk' BK263.out)):gb263≠gb264));have n6_:=am' ((by rw[hg];exact Nat.ne_of_gt (blk_lt (g:=gb263) (o := .cells #[.int .i64 a0_0, .int .i64 a0_1] 32 (0,0)) (kk' BK263.out)):gb264≠gb263));clear BK263;clear HB;have BK263:=n0_;have HB:=n1_;have BK264:=n2_;have GW264:=n3_;have GE264:=n4_;have NB263_264:=n5_;have NB264_263:=n6_;clear n0_ n1_ n2_ n3_ n4_ n5_ n6_;clear hb hbox hg;have hnb43:=NB263_264.out;have hnc43:=NB264_263.out;have hcz44_0:w42.cell? ⟨gb263,0,none⟩=some (.int .i64 a0_0):=(bc' BK263.out 0).trans rfl;have hcz44_1:w42.cell? ⟨gb263,1,none⟩=some (.int .i64 a0_1):=(bc' BK263.out 1).trans rfl;have hfz44_0:=bf' BK263.out 0;have hfz44_1:=bf' BK263.out 1)|((with_reducible refine gate_callee (f:=51) rfl ?_);refine goesL_ (some 14) rfl rfl Try.func51 xk' rfl #[.slice A2 l2.length c2, .int .i64 0, .int .i64 (wrap64 ((wrap64 (2 * a0_0)) - 1)), .int .i64 1, .int .i64 a0_1] rfl xl' ?_;(with_reducible refine (impl_areIn.calls _ _ l2 0 (wrap64 ((wrap64 (2 * a0_0)) - 1)) 1 a0_1 true _ ?side1 ?side2 A4.out).mono ?_);(case side1=>exact kc' (cb' HR2.out HB.out));(case side2=>exact HC2.out);rintro e w45 ⟨rfl,hb⟩;refine ⟨_,rfl,?_⟩;have n0_:=am' (bb' (g:=gb263) (o := .cells #[.int .i64 a0_0, .int .i64 a0_1] 32 (0,0)) (kk' BK263.out) hb);have n1_:=am' (bb' (g:=gb264) (o := .cells #[.slice A1_0 l1_0.length c1_0, .bool a1_1] 35 (0,0)) (kk' BK264.out) hb);have n2_:=am' (bt' (y2' GE263.out GE264.out) hb);clear BK263;clear BK264;clear HB;have BK263:=n0_;have BK264:=n1_;have HB:=n2_;clear n0_ n1_ n2_;(try clear hb);(try clear hb2);(try clear hk);(try clear hi))|(go_at_call 52;(with_reducible refine (impl_rises.calls k _ _ l2 false _ ?side1 ?side2 A6.out).mono ?_);(case side1=>exact kc' (cb' HR2.out HB.out));(case side2=>exact HC2.out);rintro e w' ⟨rfl,⟨nd,rfl⟩⟩))
   go_ret
   exact ⟨by first|rfl|(simp[errW_none,errW_some] <;> rfl)|(simp[*,errW_none,errW_some] <;> rfl),y2' GE263.out GE264.out⟩
 ·
  replace c5:=Bool.eq_false_iff.mpr c5;subst c5;have H1:(some false)=some r:=by rw[if_neg (show ¬ (false=true) by decide)] at H;exact H
  clear H;have H:=H1;clear H1;obtain rfl:=os' H;go_enter Try.func49,Try.ntmps49;go_wp2_with (first|((with_reducible refine gate_dst (N:=3) rfl ?_);refine box_event ?hg (N:=3) ?hd (cs:=#[.int .i64 a0_0, .int .i64 a0_1]) (t:=32) ?hr ?_;(case hd=>rfl);(case hg=>rfl);(case hr=>first|(go_simp;done)|(go_simp;rfl));intro gb263 hg w46 hbox hb;have n0_:=am' (bt' xb' hb);have n1_:=am' (hbox);have n2_:=am' ((by rw[hg];exact (bz' xb'):w.heap.size≤gb263));have n3_:=am' ((by rw[hg];exact (bz' xb'):w.heap.size≤gb263));clear HB;have HB:=n0_;have BK263:=n1_;have GW263:=n2_;have GE263:=n3_;clear n0_ n1_ n2_ n3_;clear hb hbox hg)|((with_reducible refine gate_dst (N:=4) rfl ?_);refine box_event ?hg (N:=4) ?hd (cs:=#[.slice A1_0 l1_0.length c1_0, .bool a1_1]) (t:=35) ?hr ?_;(case hd=>rfl);(case hg=>rfl);(case hr=>first|(go_simp;done)|(go_simp;rfl));intro gb264 hg w47 hbox hb;have n0_:=am' (bb' (g:=gb263) (o := .cells #[.int .i64 a0_0, .int .i64 a0_1] 32 (0,0)) (kk' BK263.out) hb);have n1_:=am' (bt' (yb' GE263.out) hb);have n2_:=am' (hbox);have n3_:=am' ((by rw[hg];exact (bz' (yb' GE263.out)):w.heap.size≤gb264));have n4_:=am' ((by rw[hg];exact (bz' (yb' GE263.out)):w.heap.size≤gb264));have n5_:=am' ((by rw[hg];exact Nat.ne_of_lt (blk_lt (g:=gb263) (o := .cells #[.int .i64 a0_0, .int .i64 a0_1] 32 (0,0)) (kk' BK263.out)):gb263≠gb264));have n6_:=am' ((by rw[hg];exact Nat.ne_of_gt (blk_lt (g:=gb263) (o := .cells #[.int .i64 a0_0, .int .i64 a0_1] 32 (0,0)) (kk' BK263.out)):gb264≠gb263));clear BK263;clear HB;have BK263:=n0_;have HB:=n1_;have BK264:=n2_;have GW264:=n3_;have GE264:=n4_;have NB263_264:=n5_;have NB264_263:=n6_;clear n0_ n1_ n2_ n3_ n4_ n5_ n6_;clear hb hbox hg;have hnb48:=NB263_264.out;have hnc48:=NB264_263.out;have hcz49_0:w47.cell? ⟨gb263,0,none⟩=some (.int .i64 a0_0):=(bc' BK263.out 0).trans rfl;have hcz49_1:w47.cell? ⟨gb263,1,none⟩=some (.int .i64 a0_1):=(bc' BK263.out 1).trans rfl;have hfz49_0:=bf' BK263.out 0;have hfz49_1:=bf' BK263.out 1)|((with_reducible refine gate_callee (f:=51) rfl ?_);refine goesL_ (some 14) rfl rfl Try.func51 xk' rfl #[.slice A2 l2.length c2, .int .i64 0, .int .i64 (wrap64 ((wrap64 (2 * a0_0)) - 1)), .int .i64 1, .int .i64 a0_1] rfl xl' ?_;(with_reducible refine (impl_areIn.calls _ _ l2 0 (wrap64 ((wrap64 (2 * a0_0)) - 1)) 1 a0_1 false _ ?side1 ?side2 A4.out).mono ?_);(case side1=>exact kc' (cb' HR2.out HB.out));(case side2=>exact HC2.out);rintro e w50 ⟨rfl,hb⟩;refine ⟨_,rfl,?_⟩;have n0_:=am' (bb' (g:=gb263) (o := .cells #[.int .i64 a0_0, .int .i64 a0_1] 32 (0,0)) (kk' BK263.out) hb);have n1_:=am' (bb' (g:=gb264) (o := .cells #[.slice A1_0 l1_0.length c1_0, .bool a1_1] 35 (0,0)) (kk' BK264.out) hb);have n2_:=am' (bt' (y2' GE263.out GE264.out) hb);clear BK263;clear BK264;clear HB;have BK263:=n0_;have BK264:=n1_;have HB:=n2_;clear n0_ n1_ n2_;(try clear hb);(try clear hb2);(try clear hk);(try clear hi)))
  go_ret
  exact ⟨by first|rfl|(simp[errW_none,errW_some] <;> rfl)|(simp[*,errW_none,errW_some] <;> rfl),y2' GE263.out GE264.out⟩
def impl_RowBoat.f (k:Nat) (a0_0:Int) (a0_1:Int) (l1_0:List Bool) (a1_1:Bool) (l2:List Int):Option (List Bool × Bool × Bool):=(impl_Company_hasState.f k a0_0 a0_1 l1_0 a1_1).bind fun t277=>(if t277=true then ((impl_State_isCalm.f k l1_0 a1_1).bind fun t278=>(if t278=true then ((impl_Company_isRow.f k a0_0 a0_1 l1_0 a1_1 l2).bind fun t279=>(if t279=true then ((impl_State_moved.f k l1_0 a1_1 l2).bind fun bt280=>(some (bt280.1,bt280.2,true))) else (some (([]:List Bool),false,false)))) else (some (([]:List Bool),false,false)))) else (some (([]:List Bool),false,false)))
theorem impl_RowBoat.mono:∀ a0 a1 a2 a3 a4 k,LeO (impl_RowBoat.f k a0 a1 a2 a3 a4) (impl_RowBoat.f (k+1) a0 a1 a2 a3 a4):=by
 intro a0 a1 a2 a3 a4 k;unfold impl_RowBoat.f
 repeat' first
   | (with_reducible exact impl_Company_hasState.mono _ _ _ _ _)
   | (with_reducible exact impl_Company_isRow.mono _ _ _ _ _ _)
   | (with_reducible exact impl_State_isCalm.mono _ _ _)
   | (with_reducible exact impl_State_moved.mono _ _ _ _)
   | (with_reducible exact LeO.refl _)
   | (with_reducible exact LeO.none _)
   | (with_reducible refine LeO.ite ?_ ?_)
   | (with_reducible refine LeO.bind ?_ (fun _=>?_))
   | exact impl_Company_hasState.mono _ _ _ _ _
   | exact impl_Company_isRow.mono _ _ _ _ _ _
   | exact impl_State_isCalm.mono _ _ _
   | exact impl_State_moved.mono _ _ _ _
   | exact LeO.none _
   | refine LeO.ite ?_ ?_
   | refine LeO.bind ?_ (fun _=>?_)
set_option maxHeartbeats 8000000 in
set_option maxRecDepth 100000 in
theorem impl_RowBoat.calls (k:Nat) (a0_0:Int) (a0_1:Int) (A1_0:Option Addr) (c1_0:Nat) (l1_0:List Bool) (a1_1:Bool) (A2:Option Addr) (c2:Nat) (l2:List Int) (r1:List Bool) (r2:Bool) (r3:Bool) (w:World) (hr1_0:Kd.C Kd.bool w A1_0 l1_0.length l1_0) (hc1_0:l1_0.length≤c1_0) (hr2:Kd.C (Kd.int .i64) w A2 l2.length l2) (hc2:l2.length≤c2) (h:impl_RowBoat.f k a0_0 a0_1 l1_0 a1_1 l2=some (r1,r2,r3)) :
  Calls Try.prog 20 #[.agg #[.int .i64 a0_0, .int .i64 a0_1], .agg #[.slice A1_0 l1_0.length c1_0, .bool a1_1], .slice A2 l2.length c2] w fun e w'=>∃ v0_:Value,e = .returned (.tuple #[.agg #[v0_, .bool r2], .bool r3])∧Kd.R Kd.bool 4 w' w.heap.size (fun _=>True) v0_ r1∧Below w.heap.size w w':=by
 have hu32:=Try.underlying32
 have hu35:=Try.underlying35
 have HR1_0:=am' hr1_0
 have HC1_0:=am' hc1_0
 clear hr1_0 hc1_0;have HR2:=am' hr2
 have HC2:=am' hc2
 clear hr2 hc2;have HB:=am' (Below.refl w.heap.size w)
 have H:((impl_Company_hasState.f k a0_0 a0_1 l1_0 a1_1).bind fun t277=>(if t277=true then ((impl_State_isCalm.f k l1_0 a1_1).bind fun t278=>(if t278=true then ((impl_Company_isRow.f k a0_0 a0_1 l1_0 a1_1 l2).bind fun t279=>(if t279=true then ((impl_State_moved.f k l1_0 a1_1 l2).bind fun bt280=>(some (bt280.1,bt280.2,true))) else (some (([]:List Bool),false,false)))) else (some (([]:List Bool),false,false)))) else (some (([]:List Bool),false,false))))=some (r1,r2,r3):=h
 clear h;replace H:=Option.bind_eq_some_iff.mp H
 obtain ⟨t277,A40,H⟩:=H
 replace H:(if t277=true then ((impl_State_isCalm.f k l1_0 a1_1).bind fun t278=>(if t278=true then ((impl_Company_isRow.f k a0_0 a0_1 l1_0 a1_1 l2).bind fun t279=>(if t279=true then ((impl_State_moved.f k l1_0 a1_1 l2).bind fun bt280=>(some (bt280.1,bt280.2,true))) else (some (([]:List Bool),false,false)))) else (some (([]:List Bool),false,false)))) else (some (([]:List Bool),false,false)))=some (r1,r2,r3):=H
 have A4:=am' A40
 clear A40;by_cases c5:t277=true
 ·
  subst c5;have H1:((impl_State_isCalm.f k l1_0 a1_1).bind fun t278=>(if t278=true then ((impl_Company_isRow.f k a0_0 a0_1 l1_0 a1_1 l2).bind fun t279=>(if t279=true then ((impl_State_moved.f k l1_0 a1_1 l2).bind fun bt280=>(some (bt280.1,bt280.2,true))) else (some (([]:List Bool),false,false)))) else (some (([]:List Bool),false,false))))=some (r1,r2,r3):=by rw[if_pos rfl] at H;exact H
  clear H;have H:=H1;clear H1;replace H:=Option.bind_eq_some_iff.mp H;obtain ⟨t278,A60,H⟩:=H;replace H:(if t278=true then ((impl_Company_isRow.f k a0_0 a0_1 l1_0 a1_1 l2).bind fun t279=>(if t279=true then ((impl_State_moved.f k l1_0 a1_1 l2).bind fun bt280=>(some (bt280.1,bt280.2,true))) else (some (([]:List Bool),false,false)))) else (some (([]:List Bool),false,false)))=some (r1,r2,r3):=H;have A6:=am' A60;clear A60;by_cases c7:t278=true
  ·
   subst c7;have H1:((impl_Company_isRow.f k a0_0 a0_1 l1_0 a1_1 l2).bind fun t279=>(if t279=true then ((impl_State_moved.f k l1_0 a1_1 l2).bind fun bt280=>(some (bt280.1,bt280.2,true))) else (some (([]:List Bool),false,false))))=some (r1,r2,r3):=by rw[if_pos rfl] at H;exact H
   clear H;have H:=H1;clear H1;replace H:=Option.bind_eq_some_iff.mp H;obtain ⟨t279,A80,H⟩:=H;replace H:(if t279=true then ((impl_State_moved.f k l1_0 a1_1 l2).bind fun bt280=>(some (bt280.1,bt280.2,true))) else (some (([]:List Bool),false,false)))=some (r1,r2,r3):=H;have A8:=am' A80;clear A80;by_cases c9:t279=true
   ·
    subst c9;have H1:((impl_State_moved.f k l1_0 a1_1 l2).bind fun bt280=>(some (bt280.1,bt280.2,true)))=some (r1,r2,r3):=by rw[if_pos rfl] at H;exact H
    clear H;have H:=H1;clear H1;replace H:=Option.bind_eq_some_iff.mp H;obtain ⟨⟨t280,t283⟩,A100,H⟩:=H;replace H:(some (t280,t283,true))=some (r1,r2,r3):=H;have A10:=am' A100;clear A100;simp only[Option.some.injEq,Prod.mk.injEq] at H;obtain ⟨rfl,rfl,rfl⟩:=H;go_enter Try.func20,Try.ntmps20;go_wp2_with (first|((with_reducible refine gate_dst (N:=3) rfl ?_);refine box_event ?hg (N:=3) ?hd (cs:=#[.int .i64 a0_0, .int .i64 a0_1]) (t:=32) ?hr ?_;(case hd=>rfl);(case hg=>rfl);(case hr=>first|(go_simp;done)|(go_simp;rfl));intro gb274 hg w11 hbox hb;have n0_:=am' (bt' xb' hb);have n1_:=am' (hbox);have n2_:=am' ((by rw[hg];exact (bz' xb'):w.heap.size≤gb274));have n3_:=am' ((by rw[hg];exact (bz' xb'):w.heap.size≤gb274));clear HB;have HB:=n0_;have BK274:=n1_;have GW274:=n2_;have GE274:=n3_;clear n0_ n1_ n2_ n3_;clear hb hbox hg)|((with_reducible refine gate_dst (N:=4) rfl ?_);refine box_event ?hg (N:=4) ?hd (cs:=#[.slice A1_0 l1_0.length c1_0, .bool a1_1]) (t:=35) ?hr ?_;(case hd=>rfl);(case hg=>rfl);(case hr=>first|(go_simp;done)|(go_simp;rfl));intro gb275 hg w12 hbox hb;have n0_:=am' (bb' (g:=gb274) (o := .cells #[.int .i64 a0_0, .int .i64 a0_1] 32 (0,0)) (kk' BK274.out) hb);have n1_:=am' (bt' (yb' GE274.out) hb);have n2_:=am' (hbox);have n3_:=am' ((by rw[hg];exact (bz' (yb' GE274.out)):w.heap.size≤gb275));have n4_:=am' ((by rw[hg];exact (bz' (yb' GE274.out)):w.heap.size≤gb275));have n5_:=am' ((by rw[hg];exact Nat.ne_of_lt (blk_lt (g:=gb274) (o := .cells #[.int .i64 a0_0, .int .i64 a0_1] 32 (0,0)) (kk' BK274.out)):gb274≠gb275));have n6_:=am' ((by rw[hg];exact Nat.ne_of_gt (blk_lt (g:=gb274) (o := .cells #[.int .i64 a0_0, .int .i64 a0_1] 32 (0,0)) (kk' BK274.out)):gb275≠gb274));clear BK274;clear HB;have BK274:=n0_;have HB:=n1_;have BK275:=n2_;have GW275:=n3_;have GE275:=n4_;have NB274_275:=n5_;have NB275_274:=n6_;clear n0_ n1_ n2_ n3_ n4_ n5_ n6_;clear hb hbox hg)|((with_reducible refine gate_dst (N:=6) rfl ?_);refine box_event ?hg (N:=6) ?hd (cs:=#[.slice none 0 0, .bool false]) (t:=35) ?hr ?_;(case hd=>rfl);(case hg=>rfl);(case hr=>first|(go_simp;done)|(go_simp;rfl));intro gb276 hg w13 hbox hb;have n0_:=am' (bb' (g:=gb274) (o := .cells #[.int .i64 a0_0, .int .i64 a0_1] 32 (0,0)) (kk' BK274.out) hb);have n1_:=am' (bb' (g:=gb275) (o := .cells #[.slice A1_0 l1_0.length c1_0, .bool a1_1] 35 (0,0)) (kk' BK275.out) hb);have n2_:=am' (bt' (y2' GE274.out GE275.out) hb);have n3_:=am' (hbox);have n4_:=am' ((by rw[hg];exact (bz' (y2' GE274.out GE275.out)):w.heap.size≤gb276));have n5_:=am' ((by rw[hg];exact (bz' (y2' GE274.out GE275.out)):w.heap.size≤gb276));have n6_:=am' ((by rw[hg];exact Nat.ne_of_lt (blk_lt (g:=gb274) (o := .cells #[.int .i64 a0_0, .int .i64 a0_1] 32 (0,0)) (kk' BK274.out)):gb274≠gb276));have n7_:=am' ((by rw[hg];exact Nat.ne_of_gt (blk_lt (g:=gb274) (o := .cells #[.int .i64 a0_0, .int .i64 a0_1] 32 (0,0)) (kk' BK274.out)):gb276≠gb274));have n8_:=am' ((by rw[hg];exact Nat.ne_of_lt (blk_lt (g:=gb275) (o := .cells #[.slice A1_0 l1_0.length c1_0, .bool a1_1] 35 (0,0)) (kk' BK275.out)):gb275≠gb276));have n9_:=am' ((by rw[hg];exact Nat.ne_of_gt (blk_lt (g:=gb275) (o := .cells #[.slice A1_0 l1_0.length c1_0, .bool a1_1] 35 (0,0)) (kk' BK275.out)):gb276≠gb275));clear BK274;clear BK275;clear HB;have BK274:=n0_;have BK275:=n1_;have HB:=n2_;have BK276:=n3_;have GW276:=n4_;have GE276:=n5_;have NB274_276:=n6_;have NB276_274:=n7_;have NB275_276:=n8_;have NB276_275:=n9_;clear n0_ n1_ n2_ n3_ n4_ n5_ n6_ n7_ n8_ n9_;clear hb hbox hg;have hnb14:=NB274_275.out;have hnc14:=NB275_274.out;have hnb15:=NB274_276.out;have hnc15:=NB276_274.out;have hcz16_0:w13.cell? ⟨gb274,0,none⟩=some (.int .i64 a0_0):=(bc' BK274.out 0).trans rfl;have hcz16_1:w13.cell? ⟨gb274,1,none⟩=some (.int .i64 a0_1):=(bc' BK274.out 1).trans rfl;have hfz16_0:=bf' BK274.out 0;have hfz16_1:=bf' BK274.out 1;have hnb17:=NB275_276.out;have hnc17:=NB276_275.out;have hcz18_0:w13.cell? ⟨gb275,0,none⟩=some (.slice A1_0 l1_0.length c1_0):=(bc' BK275.out 0).trans rfl;have hcz18_1:w13.cell? ⟨gb275,1,none⟩=some (.bool a1_1):=(bc' BK275.out 1).trans rfl;have hfz18_0:=bf' BK275.out 0;have hfz18_1:=bf' BK275.out 1)|((with_reducible refine gate_callee (f:=39) rfl ?_);refine goesL_ (some 10) rfl rfl Try.func39 xk' rfl #[.agg #[.int .i64 a0_0, .int .i64 a0_1], .agg #[.slice A1_0 l1_0.length c1_0, .bool a1_1]] rfl xl' ?_;(with_reducible refine (impl_Company_hasState.calls k a0_0 a0_1 _ _ l1_0 a1_1 true _ ?side1 ?side2 A4.out).mono ?_);(case side1=>exact kc' (cb' HR1_0.out HB.out));(case side2=>exact HC1_0.out);rintro e w19 ⟨rfl,hb⟩;refine ⟨_,rfl,?_⟩;have n0_:=am' (bb' (g:=gb274) (o := .cells #[.int .i64 a0_0, .int .i64 a0_1] 32 (0,0)) (kk' BK274.out) hb);have n1_:=am' (bb' (g:=gb275) (o := .cells #[.slice A1_0 l1_0.length c1_0, .bool a1_1] 35 (0,0)) (kk' BK275.out) hb);have n2_:=am' (bb' (g:=gb276) (o := .cells #[.slice none 0 0, .bool false] 35 (0,0)) (kk' BK276.out) hb);have n3_:=am' (bt' (y3' GE274.out GE275.out GE276.out) hb);clear BK274;clear BK275;clear BK276;clear HB;have BK274:=n0_;have BK275:=n1_;have BK276:=n2_;have HB:=n3_;clear n0_ n1_ n2_ n3_;(try clear hb);(try clear hb2);(try clear hk);(try clear hi);have hcz20_0:w19.cell? ⟨gb275,0,none⟩=some (.slice A1_0 l1_0.length c1_0):=(bc' BK275.out 0).trans rfl;have hcz20_1:w19.cell? ⟨gb275,1,none⟩=some (.bool a1_1):=(bc' BK275.out 1).trans rfl;have hfz20_0:=bf' BK275.out 0;have hfz20_1:=bf' BK275.out 1)|(go_at_call 40;(with_reducible refine (impl_State_isCalm.calls k _ _ l1_0 a1_1 true _ ?side1 ?side2 A6.out).mono ?_);(case side1=>exact kc' (cb' HR1_0.out HB.out));(case side2=>exact HC1_0.out);rintro e w21 ⟨rfl,hb⟩;have n0_:=am' (bb' (g:=gb274) (o := .cells #[.int .i64 a0_0, .int .i64 a0_1] 32 (0,0)) (kk' BK274.out) hb);have n1_:=am' (bb' (g:=gb275) (o := .cells #[.slice A1_0 l1_0.length c1_0, .bool a1_1] 35 (0,0)) (kk' BK275.out) hb);have n2_:=am' (bb' (g:=gb276) (o := .cells #[.slice none 0 0, .bool false] 35 (0,0)) (kk' BK276.out) hb);have n3_:=am' (bt' (y3' GE274.out GE275.out GE276.out) hb);clear BK274;clear BK275;clear BK276;clear HB;have BK274:=n0_;have BK275:=n1_;have BK276:=n2_;have HB:=n3_;clear n0_ n1_ n2_ n3_;(try clear hb);(try clear hb2);(try clear hk);(try clear hi);have hcz22_0:w21.cell? ⟨gb274,0,none⟩=some (.int .i64 a0_0):=(bc' BK274.out 0).trans rfl;have hcz22_1:w21.cell? ⟨gb274,1,none⟩=some (.int .i64 a0_1):=(bc' BK274.out 1).trans rfl;have hfz22_0:=bf' BK274.out 0;have hfz22_1:=bf' BK274.out 1;have hcz23_0:w21.cell? ⟨gb275,0,none⟩=some (.slice A1_0 l1_0.length c1_0):=(bc' BK275.out 0).trans rfl;have hcz23_1:w21.cell? ⟨gb275,1,none⟩=some (.bool a1_1):=(bc' BK275.out 1).trans rfl;have hfz23_0:=bf' BK275.out 0;have hfz23_1:=bf' BK275.out 1)|(go_at_call 49;(with_reducible refine (impl_Company_isRow.calls k a0_0 a0_1 _ _ l1_0 a1_1 _ _ l2 true _ ?side1 ?side2 ?side3 ?side4 A8.out).mono ?_);(case side1=>exact kc' (cb' HR1_0.out HB.out));(case side2=>exact HC1_0.out);(case side3=>exact kc' (cb' HR2.out HB.out));(case side4=>exact HC2.out);rintro e w24 ⟨rfl,hb⟩;have n0_:=am' (bb' (g:=gb274) (o := .cells #[.int .i64 a0_0, .int .i64 a0_1] 32 (0,0)) (kk' BK274.out) hb);have n1_:=am' (bb' (g:=gb275) (o := .cells #[.slice A1_0 l1_0.length c1_0, .bool a1_1] 35 (0,0)) (kk' BK275.out) hb);have n2_:=am' (bb' (g:=gb276) (o := .cells #[.slice none 0 0, .bool false] 35 (0,0)) (kk' BK276.out) hb);have n3_:=am' (bt' (y3' GE274.out GE275.out GE276.out) hb);clear BK274;clear BK275;clear BK276;clear HB;have BK274:=n0_;have BK275:=n1_;have BK276:=n2_;have HB:=n3_;clear n0_ n1_ n2_ n3_;(try clear hb);(try clear hb2);(try clear hk);(try clear hi);have hcz25_0:w24.cell? ⟨gb275,0,none⟩=some (.slice A1_0 l1_0.length c1_0):=(bc' BK275.out 0).trans rfl;have hcz25_1:w24.cell? ⟨gb275,1,none⟩=some (.bool a1_1):=(bc' BK275.out 1).trans rfl;have hfz25_0:=bf' BK275.out 0;have hfz25_1:=bf' BK275.out 1)|((with_reducible refine gate_callee (f:=50) rfl ?_);refine goesL_ (some 27) rfl rfl Try.func50 xk' rfl #[.agg #[.slice A1_0 l1_0.length c1_0, .bool a1_1], .slice A2 l2.length c2] rfl xl' ?_;(with_reducible refine (impl_State_moved.calls k _ _ l1_0 a1_1 _ _ l2 t280 t283 _ ?side1 ?side2 ?side3 ?side4 A10.out).mono ?_);(case side1=>exact kc' (cb' HR1_0.out HB.out));(case side2=>exact HC1_0.out);(case side3=>exact kc' (cb' HR2.out HB.out));(case side4=>exact HC2.out);rintro e w26 ⟨v281,rfl,ho0,hb⟩;refine ⟨_,rfl,?_⟩;have n0_:=am' (Kd.R_lower ho0 (bz' (y3' GE274.out GE275.out GE276.out)));have n1_:=am' (bb' (g:=gb274) (o := .cells #[.int .i64 a0_0, .int .i64 a0_1] 32 (0,0)) (kk' BK274.out) hb);have n2_:=am' (bb' (g:=gb275) (o := .cells #[.slice A1_0 l1_0.length c1_0, .bool a1_1] 35 (0,0)) (kk' BK275.out) hb);have n3_:=am' (bb' (g:=gb276) (o := .cells #[.slice none 0 0, .bool false] 35 (0,0)) (kk' BK276.out) hb);have n4_:=am' (bt' (y3' GE274.out GE275.out GE276.out) hb);clear BK274;clear BK275;clear BK276;clear HB;have HO282:=n0_;have BK274:=n1_;have BK275:=n2_;have BK276:=n3_;have HB:=n4_;clear n0_ n1_ n2_ n3_ n4_;(try clear hb);(try clear hb2);(try clear hk);(try clear hi);(try clear ho0);obtain ⟨Ao27,co27,eo27⟩:=Kd.R_slice HO282.out;subst eo27;have hcz28_0:w26.cell? ⟨gb276,0,none⟩=some (.slice none 0 0):=(bc' BK276.out 0).trans rfl;have hcz28_1:w26.cell? ⟨gb276,1,none⟩=some (.bool false):=(bc' BK276.out 1).trans rfl;have hfz28_0:=bf' BK276.out 0;have hfz28_1:=bf' BK276.out 1))
    refine bodyPost_ret (results_ct rfl _ _ gb276 35 #[.slice Ao27 t280.length co27, .bool t283] (0,0) _ rfl (by (with_reducible repeat (first|refine kn' ?_ _|refine kd' ?_|refine ka' ?_ _));refine blk_put (cs:=#[.slice Ao27 t280.length co27, .bool false]) ?_ 1 _ rfl;(with_reducible repeat (first|refine kn' ?_ _|refine kd' ?_|refine ka' ?_ _));refine blk_put (cs:=#[.slice none 0 0, .bool false]) ?_ 0 _ rfl;(with_reducible repeat (first|refine kn' ?_ _|refine kd' ?_|refine ka' ?_ _));exact BK276.out) Try.underlying35 rfl xk') rfl ?_
    exact ⟨_,by first|rfl|(simp[errW_none,errW_some] <;> rfl)|(simp[*,errW_none,errW_some] <;> rfl),by (with_reducible repeat (first|apply ra'|apply rn'|apply rw'));exact Kd.R_mono (Kd.R_far (p:=⟨gb276,1,none⟩) (Kd.R_far (p:=⟨gb276,0,none⟩) (Kd.R_types HO282.out BK276.out (by decide)) (fun _ hk=>hk.2) (.slice Ao27 t280.length co27)) (fun _ hk=>hk.2) (.bool t283)) (fun _ hk=>trivial),y3' GE274.out GE275.out GE276.out⟩
   ·
    replace c9:=Bool.eq_false_iff.mpr c9;subst c9;have H1:(some (([]:List Bool),false,false))=some (r1,r2,r3):=by rw[if_neg (show ¬ (false=true) by decide)] at H;exact H
    clear H;have H:=H1;clear H1;simp only[Option.some.injEq,Prod.mk.injEq] at H;obtain ⟨rfl,rfl,rfl⟩:=H;go_enter Try.func20,Try.ntmps20;go_wp2_with (first|((with_reducible refine gate_dst (N:=3) rfl ?_);refine box_event ?hg (N:=3) ?hd (cs:=#[.int .i64 a0_0, .int .i64 a0_1]) (t:=32) ?hr ?_;(case hd=>rfl);(case hg=>rfl);(case hr=>first|(go_simp;done)|(go_simp;rfl));intro gb274 hg w29 hbox hb;have n0_:=am' (bt' xb' hb);have n1_:=am' (hbox);have n2_:=am' ((by rw[hg];exact (bz' xb'):w.heap.size≤gb274));have n3_:=am' ((by rw[hg];exact (bz' xb'):w.heap.size≤gb274));clear HB;have HB:=n0_;have BK274:=n1_;have GW274:=n2_;have GE274:=n3_;clear n0_ n1_ n2_ n3_;clear hb hbox hg)|((with_reducible refine gate_dst (N:=4) rfl ?_);refine box_event ?hg (N:=4) ?hd (cs:=#[.slice A1_0 l1_0.length c1_0, .bool a1_1]) (t:=35) ?hr ?_;(case hd=>rfl);(case hg=>rfl);(case hr=>first|(go_simp;done)|(go_simp;rfl));intro gb275 hg w30 hbox hb;have n0_:=am' (bb' (g:=gb274) (o := .cells #[.int .i64 a0_0, .int .i64 a0_1] 32 (0,0)) (kk' BK274.out) hb);have n1_:=am' (bt' (yb' GE274.out) hb);have n2_:=am' (hbox);have n3_:=am' ((by rw[hg];exact (bz' (yb' GE274.out)):w.heap.size≤gb275));have n4_:=am' ((by rw[hg];exact (bz' (yb' GE274.out)):w.heap.size≤gb275));have n5_:=am' ((by rw[hg];exact Nat.ne_of_lt (blk_lt (g:=gb274) (o := .cells #[.int .i64 a0_0, .int .i64 a0_1] 32 (0,0)) (kk' BK274.out)):gb274≠gb275));have n6_:=am' ((by rw[hg];exact Nat.ne_of_gt (blk_lt (g:=gb274) (o := .cells #[.int .i64 a0_0, .int .i64 a0_1] 32 (0,0)) (kk' BK274.out)):gb275≠gb274));clear BK274;clear HB;have BK274:=n0_;have HB:=n1_;have BK275:=n2_;have GW275:=n3_;have GE275:=n4_;have NB274_275:=n5_;have NB275_274:=n6_;clear n0_ n1_ n2_ n3_ n4_ n5_ n6_;clear hb hbox hg)|((with_reducible refine gate_dst (N:=6) rfl ?_);refine box_event ?hg (N:=6) ?hd (cs:=#[.slice none 0 0, .bool false]) (t:=35) ?hr ?_;(case hd=>rfl);(case hg=>rfl);(case hr=>first|(go_simp;done)|(go_simp;rfl));intro gb276 hg w31 hbox hb;have n0_:=am' (bb' (g:=gb274) (o := .cells #[.int .i64 a0_0, .int .i64 a0_1] 32 (0,0)) (kk' BK274.out) hb);have n1_:=am' (bb' (g:=gb275) (o := .cells #[.slice A1_0 l1_0.length c1_0, .bool a1_1] 35 (0,0)) (kk' BK275.out) hb);have n2_:=am' (bt' (y2' GE274.out GE275.out) hb);have n3_:=am' (hbox);have n4_:=am' ((by rw[hg];exact (bz' (y2' GE274.out GE275.out)):w.heap.size≤gb276));have n5_:=am' ((by rw[hg];exact (bz' (y2' GE274.out GE275.out)):w.heap.size≤gb276));have n6_:=am' ((by rw[hg];exact Nat.ne_of_lt (blk_lt (g:=gb274) (o := .cells #[.int .i64 a0_0, .int .i64 a0_1] 32 (0,0)) (kk' BK274.out)):gb274≠gb276));have n7_:=am' ((by rw[hg];exact Nat.ne_of_gt (blk_lt (g:=gb274) (o := .cells #[.int .i64 a0_0, .int .i64 a0_1] 32 (0,0)) (kk' BK274.out)):gb276≠gb274));have n8_:=am' ((by rw[hg];exact Nat.ne_of_lt (blk_lt (g:=gb275) (o := .cells #[.slice A1_0 l1_0.length c1_0, .bool a1_1] 35 (0,0)) (kk' BK275.out)):gb275≠gb276));have n9_:=am' ((by rw[hg];exact Nat.ne_of_gt (blk_lt (g:=gb275) (o := .cells #[.slice A1_0 l1_0.length c1_0, .bool a1_1] 35 (0,0)) (kk' BK275.out)):gb276≠gb275));clear BK274;clear BK275;clear HB;have BK274:=n0_;have BK275:=n1_;have HB:=n2_;have BK276:=n3_;have GW276:=n4_;have GE276:=n5_;have NB274_276:=n6_;have NB276_274:=n7_;have NB275_276:=n8_;have NB276_275:=n9_;clear n0_ n1_ n2_ n3_ n4_ n5_ n6_ n7_ n8_ n9_;clear hb hbox hg;have hnb32:=NB274_275.out;have hnc32:=NB275_274.out;have hnb33:=NB274_276.out;have hnc33:=NB276_274.out;have hcz34_0:w31.cell? ⟨gb274,0,none⟩=some (.int .i64 a0_0):=(bc' BK274.out 0).trans rfl;have hcz34_1:w31.cell? ⟨gb274,1,none⟩=some (.int .i64 a0_1):=(bc' BK274.out 1).trans rfl;have hfz34_0:=bf' BK274.out 0;have hfz34_1:=bf' BK274.out 1;have hnb35:=NB275_276.out;have hnc35:=NB276_275.out;have hcz36_0:w31.cell? ⟨gb275,0,none⟩=some (.slice A1_0 l1_0.length c1_0):=(bc' BK275.out 0).trans rfl;have hcz36_1:w31.cell? ⟨gb275,1,none⟩=some (.bool a1_1):=(bc' BK275.out 1).trans rfl;have hfz36_0:=bf' BK275.out 0;have hfz36_1:=bf' BK275.out 1)|((with_reducible refine gate_callee (f:=39) rfl ?_);refine goesL_ (some 10) rfl rfl Try.func39 xk' rfl #[.agg #[.int .i64 a0_0, .int .i64 a0_1], .agg #[.slice A1_0 l1_0.length c1_0, .bool a1_1]] rfl xl' ?_;(with_reducible refine (impl_Company_hasState.calls k a0_0 a0_1 _ _ l1_0 a1_1 true _ ?side1 ?side2 A4.out).mono ?_);(case side1=>exact kc' (cb' HR1_0.out HB.out));(case side2=>exact HC1_0.out);rintro e w37 ⟨rfl,hb⟩;refine ⟨_,rfl,?_⟩;have n0_:=am' (bb' (g:=gb274) (o := .cells #[.int .i64 a0_0, .int .i64 a0_1] 32 (0,0)) (kk' BK274.out) hb);have n1_:=am' (bb' (g:=gb275) (o := .cells #[.slice A1_0 l1_0.length c1_0, .bool a1_1] 35 (0,0)) (kk' BK275.out) hb);have n2_:=am' (bb' (g:=gb276) (o := .cells #[.slice none 0 0, .bool false] 35 (0,0)) (kk' BK276.out) hb);have n3_:=am' (bt' (y3' GE274.out GE275.out GE276.out) hb);clear BK274;clear BK275;clear BK276;clear HB;have BK274:=n0_;have BK275:=n1_;have BK276:=n2_;have HB:=n3_;clear n0_ n1_ n2_ n3_;(try clear hb);(try clear hb2);(try clear hk);(try clear hi);have hcz38_0:w37.cell? ⟨gb275,0,none⟩=some (.slice A1_0 l1_0.length c1_0):=(bc' BK275.out 0).trans rfl;have hcz38_1:w37.cell? ⟨gb275,1,none⟩=some (.bool a1_1):=(bc' BK275.out 1).trans rfl;have hfz38_0:=bf' BK275.out 0;have hfz38_1:=bf' BK275.out 1)|(go_at_call 40;(with_reducible refine (impl_State_isCalm.calls k _ _ l1_0 a1_1 true _ ?side1 ?side2 A6.out).mono ?_);(case side1=>exact kc' (cb' HR1_0.out HB.out));(case side2=>exact HC1_0.out);rintro e w39 ⟨rfl,hb⟩;have n0_:=am' (bb' (g:=gb274) (o := .cells #[.int .i64 a0_0, .int .i64 a0_1] 32 (0,0)) (kk' BK274.out) hb);have n1_:=am' (bb' (g:=gb275) (o := .cells #[.slice A1_0 l1_0.length c1_0, .bool a1_1] 35 (0,0)) (kk' BK275.out) hb);have n2_:=am' (bb' (g:=gb276) (o := .cells #[.slice none 0 0, .bool false] 35 (0,0)) (kk' BK276.out) hb);have n3_:=am' (bt' (y3' GE274.out GE275.out GE276.out) hb);clear BK274;clear BK275;clear BK276;clear HB;have BK274:=n0_;have BK275:=n1_;have BK276:=n2_;have HB:=n3_;clear n0_ n1_ n2_ n3_;(try clear hb);(try clear hb2);(try clear hk);(try clear hi);have hcz40_0:w39.cell? ⟨gb274,0,none⟩=some (.int .i64 a0_0):=(bc' BK274.out 0).trans rfl;have hcz40_1:w39.cell? ⟨gb274,1,none⟩=some (.int .i64 a0_1):=(bc' BK274.out 1).trans rfl;have hfz40_0:=bf' BK274.out 0;have hfz40_1:=bf' BK274.out 1;have hcz41_0:w39.cell? ⟨gb275,0,none⟩=some (.slice A1_0 l1_0.length c1_0):=(bc' BK275.out 0).trans rfl;have hcz41_1:w39.cell? ⟨gb275,1,none⟩=some (.bool a1_1):=(bc' BK275.out 1).trans rfl;have hfz41_0:=bf' BK275.out 0;have hfz41_1:=bf' BK275.out 1)|(go_at_call 49;(with_reducible refine (impl_Company_isRow.calls k a0_0 a0_1 _ _ l1_0 a1_1 _ _ l2 false _ ?side1 ?side2 ?side3 ?side4 A8.out).mono ?_);(case side1=>exact kc' (cb' HR1_0.out HB.out));(case side2=>exact HC1_0.out);(case side3=>exact kc' (cb' HR2.out HB.out));(case side4=>exact HC2.out);rintro e w42 ⟨rfl,hb⟩;have n0_:=am' (bb' (g:=gb274) (o := .cells #[.int .i64 a0_0, .int .i64 a0_1] 32 (0,0)) (kk' BK274.out) hb);have n1_:=am' (bb' (g:=gb275) (o := .cells #[.slice A1_0 l1_0.length c1_0, .bool a1_1] 35 (0,0)) (kk' BK275.out) hb);have n2_:=am' (bb' (g:=gb276) (o := .cells #[.slice none 0 0, .bool false] 35 (0,0)) (kk' BK276.out) hb);have n3_:=am' (bt' (y3' GE274.out GE275.out GE276.out) hb);clear BK274;clear BK275;clear BK276;clear HB;have BK274:=n0_;have BK275:=n1_;have BK276:=n2_;have HB:=n3_;clear n0_ n1_ n2_ n3_;(try clear hb);(try clear hb2);(try clear hk);(try clear hi);have hcz43_0:w42.cell? ⟨gb276,0,none⟩=some (.slice none 0 0):=(bc' BK276.out 0).trans rfl;have hcz43_1:w42.cell? ⟨gb276,1,none⟩=some (.bool false):=(bc' BK276.out 1).trans rfl;have hfz43_0:=bf' BK276.out 0;have hfz43_1:=bf' BK276.out 1))
    refine bodyPost_ret (results_ct rfl _ _ gb276 35 #[.slice none 0 0, .bool false] (0,0) _ rfl (by (with_reducible repeat (first|refine kn' ?_ _|refine kd' ?_|refine ka' ?_ _));refine blk_put (cs:=#[.slice none 0 0, .bool false]) ?_ 1 _ rfl;(with_reducible repeat (first|refine kn' ?_ _|refine kd' ?_|refine ka' ?_ _));refine blk_put (cs:=#[.slice none 0 0, .bool false]) ?_ 0 _ rfl;(with_reducible repeat (first|refine kn' ?_ _|refine kd' ?_|refine ka' ?_ _));exact BK276.out) Try.underlying35 rfl xk') rfl ?_
    exact ⟨_,by first|rfl|(simp[errW_none,errW_some] <;> rfl)|(simp[*,errW_none,errW_some] <;> rfl),by first|exact Kd.R_nil _ _ _ _ _|exact Kd.N_nil _ _ _ _ _|exact Kd.V_nil _ _ _ _ _|exact Kd.Q_nil _ _ _ _ _|exact Kd.S_nil _ _ _ _ _,y3' GE274.out GE275.out GE276.out⟩
  ·
   replace c7:=Bool.eq_false_iff.mpr c7;subst c7;have H1:(some (([]:List Bool),false,false))=some (r1,r2,r3):=by rw[if_neg (show ¬ (false=true) by decide)] at H;exact H
   clear H;have H:=H1;clear H1;simp only[Option.some.injEq,Prod.mk.injEq] at H;obtain ⟨rfl,rfl,rfl⟩:=H;go_enter Try.func20,Try.ntmps20;go_wp2_with (first|((with_reducible refine gate_dst (N:=3) rfl ?_);refine box_event ?hg (N:=3) ?hd (cs:=#[.int .i64 a0_0, .int .i64 a0_1]) (t:=32) ?hr ?_;(case hd=>rfl);(case hg=>rfl);(case hr=>first|(go_simp;done)|(go_simp;rfl));intro gb274 hg w44 hbox hb;have n0_:=am' (bt' xb' hb);have n1_:=am' (hbox);have n2_:=am' ((by rw[hg];exact (bz' xb'):w.heap.size≤gb274));have n3_:=am' ((by rw[hg];exact (bz' xb'):w.heap.size≤gb274));clear HB;have HB:=n0_;have BK274:=n1_;have GW274:=n2_;have GE274:=n3_;clear n0_ n1_ n2_ n3_;clear hb hbox hg)|((with_reducible refine gate_dst (N:=4) rfl ?_);refine box_event ?hg (N:=4) ?hd (cs:=#[.slice A1_0 l1_0.length c1_0, .bool a1_1]) (t:=35) ?hr ?_;(case hd=>rfl);(case hg=>rfl);(case hr=>first|(go_simp;done)|(go_simp;rfl));intro gb275 hg w45 hbox hb;have n0_:=am' (bb' (g:=gb274) (o := .cells #[.int .i64 a0_0, .int .i64 a0_1] 32 (0,0)) (kk' BK274.out) hb);have n1_:=am' (bt' (yb' GE274.out) hb);have n2_:=am' (hbox);have n3_:=am' ((by rw[hg];exact (bz' (yb' GE274.out)):w.heap.size≤gb275));have n4_:=am' ((by rw[hg];exact (bz' (yb' GE274.out)):w.heap.size≤gb275));have n5_:=am' ((by rw[hg];exact Nat.ne_of_lt (blk_lt (g:=gb274) (o := .cells #[.int .i64 a0_0, .int .i64 a0_1] 32 (0,0)) (kk' BK274.out)):gb274≠gb275));have n6_:=am' ((by rw[hg];exact Nat.ne_of_gt (blk_lt (g:=gb274) (o := .cells #[.int .i64 a0_0, .int .i64 a0_1] 32 (0,0)) (kk' BK274.out)):gb275≠gb274));clear BK274;clear HB;have BK274:=n0_;have HB:=n1_;have BK275:=n2_;have GW275:=n3_;have GE275:=n4_;have NB274_275:=n5_;have NB275_274:=n6_;clear n0_ n1_ n2_ n3_ n4_ n5_ n6_;clear hb hbox hg)|((with_reducible refine gate_dst (N:=6) rfl ?_);refine box_event ?hg (N:=6) ?hd (cs:=#[.slice none 0 0, .bool false]) (t:=35) ?hr ?_;(case hd=>rfl);(case hg=>rfl);(case hr=>first|(go_simp;done)|(go_simp;rfl));intro gb276 hg w46 hbox hb;have n0_:=am' (bb' (g:=gb274) (o := .cells #[.int .i64 a0_0, .int .i64 a0_1] 32 (0,0)) (kk' BK274.out) hb);have n1_:=am' (bb' (g:=gb275) (o := .cells #[.slice A1_0 l1_0.length c1_0, .bool a1_1] 35 (0,0)) (kk' BK275.out) hb);have n2_:=am' (bt' (y2' GE274.out GE275.out) hb);have n3_:=am' (hbox);have n4_:=am' ((by rw[hg];exact (bz' (y2' GE274.out GE275.out)):w.heap.size≤gb276));have n5_:=am' ((by rw[hg];exact (bz' (y2' GE274.out GE275.out)):w.heap.size≤gb276));have n6_:=am' ((by rw[hg];exact Nat.ne_of_lt (blk_lt (g:=gb274) (o := .cells #[.int .i64 a0_0, .int .i64 a0_1] 32 (0,0)) (kk' BK274.out)):gb274≠gb276));have n7_:=am' ((by rw[hg];exact Nat.ne_of_gt (blk_lt (g:=gb274) (o := .cells #[.int .i64 a0_0, .int .i64 a0_1] 32 (0,0)) (kk' BK274.out)):gb276≠gb274));have n8_:=am' ((by rw[hg];exact Nat.ne_of_lt (blk_lt (g:=gb275) (o := .cells #[.slice A1_0 l1_0.length c1_0, .bool a1_1] 35 (0,0)) (kk' BK275.out)):gb275≠gb276));have n9_:=am' ((by rw[hg];exact Nat.ne_of_gt (blk_lt (g:=gb275) (o := .cells #[.slice A1_0 l1_0.length c1_0, .bool a1_1] 35 (0,0)) (kk' BK275.out)):gb276≠gb275));clear BK274;clear BK275;clear HB;have BK274:=n0_;have BK275:=n1_;have HB:=n2_;have BK276:=n3_;have GW276:=n4_;have GE276:=n5_;have NB274_276:=n6_;have NB276_274:=n7_;have NB275_276:=n8_;have NB276_275:=n9_;clear n0_ n1_ n2_ n3_ n4_ n5_ n6_ n7_ n8_ n9_;clear hb hbox hg;have hnb47:=NB274_275.out;have hnc47:=NB275_274.out;have hnb48:=NB274_276.out;have hnc48:=NB276_274.out;have hcz49_0:w46.cell? ⟨gb274,0,none⟩=some (.int .i64 a0_0):=(bc' BK274.out 0).trans rfl;have hcz49_1:w46.cell? ⟨gb274,1,none⟩=some (.int .i64 a0_1):=(bc' BK274.out 1).trans rfl;have hfz49_0:=bf' BK274.out 0;have hfz49_1:=bf' BK274.out 1;have hnb50:=NB275_276.out;have hnc50:=NB276_275.out;have hcz51_0:w46.cell? ⟨gb275,0,none⟩=some (.slice A1_0 l1_0.length c1_0):=(bc' BK275.out 0).trans rfl;have hcz51_1:w46.cell? ⟨gb275,1,none⟩=some (.bool a1_1):=(bc' BK275.out 1).trans rfl;have hfz51_0:=bf' BK275.out 0;have hfz51_1:=bf' BK275.out 1)|((with_reducible refine gate_callee (f:=39) rfl ?_);refine goesL_ (some 10) rfl rfl Try.func39 xk' rfl #[.agg #[.int .i64 a0_0, .int .i64 a0_1], .agg #[.slice A1_0 l1_0.length c1_0, .bool a1_1]] rfl xl' ?_;(with_reducible refine (impl_Company_hasState.calls k a0_0 a0_1 _ _ l1_0 a1_1 true _ ?side1 ?side2 A4.out).mono ?_);(case side1=>exact kc' (cb' HR1_0.out HB.out));(case side2=>exact HC1_0.out);rintro e w52 ⟨rfl,hb⟩;refine ⟨_,rfl,?_⟩;have n0_:=am' (bb' (g:=gb274) (o := .cells #[.int .i64 a0_0, .int .i64 a0_1] 32 (0,0)) (kk' BK274.out) hb);have n1_:=am' (bb' (g:=gb275) (o := .cells #[.slice A1_0 l1_0.length c1_0, .bool a1_1] 35 (0,0)) (kk' BK275.out) hb);have n2_:=am' (bb' (g:=gb276) (o := .cells #[.slice none 0 0, .bool false] 35 (0,0)) (kk' BK276.out) hb);have n3_:=am' (bt' (y3' GE274.out GE275.out GE276.out) hb);clear BK274;clear BK275;clear BK276;clear HB;have BK274:=n0_;have BK275:=n1_;have BK276:=n2_;have HB:=n3_;clear n0_ n1_ n2_ n3_;(try clear hb);(try clear hb2);(try clear hk);(try clear hi);have hcz53_0:w52.cell? ⟨gb275,0,none⟩=some (.slice A1_0 l1_0.length c1_0):=(bc' BK275.out 0).trans rfl;have hcz53_1:w52.cell? ⟨gb275,1,none⟩=some (.bool a1_1):=(bc' BK275.out 1).trans rfl;have hfz53_0:=bf' BK275.out 0;have hfz53_1:=bf' BK275.out 1)|(go_at_call 40;(with_reducible refine (impl_State_isCalm.calls k _ _ l1_0 a1_1 false _ ?side1 ?side2 A6.out).mono ?_);(case side1=>exact kc' (cb' HR1_0.out HB.out));(case side2=>exact HC1_0.out);rintro e w54 ⟨rfl,hb⟩;have n0_:=am' (bb' (g:=gb274) (o := .cells #[.int .i64 a0_0, .int .i64 a0_1] 32 (0,0)) (kk' BK274.out) hb);have n1_:=am' (bb' (g:=gb275) (o := .cells #[.slice A1_0 l1_0.length c1_0, .bool a1_1] 35 (0,0)) (kk' BK275.out) hb);have n2_:=am' (bb' (g:=gb276) (o := .cells #[.slice none 0 0, .bool false] 35 (0,0)) (kk' BK276.out) hb);have n3_:=am' (bt' (y3' GE274.out GE275.out GE276.out) hb);clear BK274;clear BK275;clear BK276;clear HB;have BK274:=n0_;have BK275:=n1_;have BK276:=n2_;have HB:=n3_;clear n0_ n1_ n2_ n3_;(try clear hb);(try clear hb2);(try clear hk);(try clear hi);have hcz55_0:w54.cell? ⟨gb276,0,none⟩=some (.slice none 0 0):=(bc' BK276.out 0).trans rfl;have hcz55_1:w54.cell? ⟨gb276,1,none⟩=some (.bool false):=(bc' BK276.out 1).trans rfl;have hfz55_0:=bf' BK276.out 0;have hfz55_1:=bf' BK276.out 1))
   refine bodyPost_ret (results_ct rfl _ _ gb276 35 #[.slice none 0 0, .bool false] (0,0) _ rfl (by (with_reducible repeat (first|refine kn' ?_ _|refine kd' ?_|refine ka' ?_ _));refine blk_put (cs:=#[.slice none 0 0, .bool false]) ?_ 1 _ rfl;(with_reducible repeat (first|refine kn' ?_ _|refine kd' ?_|refine ka' ?_ _));refine blk_put (cs:=#[.slice none 0 0, .bool false]) ?_ 0 _ rfl;(with_reducible repeat (first|refine kn' ?_ _|refine kd' ?_|refine ka' ?_ _));exact BK276.out) Try.underlying35 rfl xk') rfl ?_
   exact ⟨_,by first|rfl|(simp[errW_none,errW_some] <;> rfl)|(simp[*,errW_none,errW_some] <;> rfl),by first|exact Kd.R_nil _ _ _ _ _|exact Kd.N_nil _ _ _ _ _|exact Kd.V_nil _ _ _ _ _|exact Kd.Q_nil _ _ _ _ _|exact Kd.S_nil _ _ _ _ _,y3' GE274.out GE275.out GE276.out⟩
 ·
  replace c5:=Bool.eq_false_iff.mpr c5;subst c5;have H1:(some (([]:List Bool),false,false))=some (r1,r2,r3):=by rw[if_neg (show ¬ (false=true) by decide)] at H;exact H
  clear H;have H:=H1;clear H1;simp only[Option.some.injEq,Prod.mk.injEq] at H;obtain ⟨rfl,rfl,rfl⟩:=H;go_enter Try.func20,Try.ntmps20;go_wp2_with (first|((with_reducible refine gate_dst (N:=3) rfl ?_);refine box_event ?hg (N:=3) ?hd (cs:=#[.int .i64 a0_0, .int .i64 a0_1]) (t:=32) ?hr ?_;(case hd=>rfl);(case hg=>rfl);(case hr=>first|(go_simp;done)|(go_simp;rfl));intro gb274 hg w56 hbox hb;have n0_:=am' (bt' xb' hb);have n1_:=am' (hbox);have n2_:=am' ((by rw[hg];exact (bz' xb'):w.heap.size≤gb274));have n3_:=am' ((by rw[hg];exact (bz' xb'):w.heap.size≤gb274));clear HB;have HB:=n0_;have BK274:=n1_;have GW274:=n2_;have GE274:=n3_;clear n0_ n1_ n2_ n3_;clear hb hbox hg)|((with_reducible refine gate_dst (N:=4) rfl ?_);refine box_event ?hg (N:=4) ?hd (cs:=#[.slice A1_0 l1_0.length c1_0, .bool a1_1]) (t:=35) ?hr ?_;(case hd=>rfl);(case hg=>rfl);(case hr=>first|(go_simp;done)|(go_simp;rfl));intro gb275 hg w57 hbox hb;have n0_:=am' (bb' (g:=gb274) (o := .cells #[.int .i64 a0_0, .int .i64 a0_1] 32 (0,0)) (kk' BK274.out) hb);have n1_:=am' (bt' (yb' GE274.out) hb);have n2_:=am' (hbox);have n3_:=am' ((by rw[hg];exact (bz' (yb' GE274.out)):w.heap.size≤gb275));have n4_:=am' ((by rw[hg];exact (bz' (yb' GE274.out)):w.heap.size≤gb275));have n5_:=am' ((by rw[hg];exact Nat.ne_of_lt (blk_lt (g:=gb274) (o := .cells #[.int .i64 a0_0, .int .i64 a0_1] 32 (0,0)) (kk' BK274.out)):gb274≠gb275));have n6_:=am' ((by rw[hg];exact Nat.ne_of_gt (blk_lt (g:=gb274) (o := .cells #[.int .i64 a0_0, .int .i64 a0_1] 32 (0,0)) (kk' BK274.out)):gb275≠gb274));clear BK274;clear HB;have BK274:=n0_;have HB:=n1_;have BK275:=n2_;have GW275:=n3_;have GE275:=n4_;have NB274_275:=n5_;have NB275_274:=n6_;clear n0_ n1_ n2_ n3_ n4_ n5_ n6_;clear hb hbox hg)|((with_reducible refine gate_dst (N:=6) rfl ?_);refine box_event ?hg (N:=6) ?hd (cs:=#[.slice none 0 0, .bool false]) (t:=35) ?hr ?_;(case hd=>rfl);(case hg=>rfl);(case hr=>first|(go_simp;done)|(go_simp;rfl));intro gb276 hg w58 hbox hb;have n0_:=am' (bb' (g:=gb274) (o := .cells #[.int .i64 a0_0, .int .i64 a0_1] 32 (0,0)) (kk' BK274.out) hb);have n1_:=am' (bb' (g:=gb275) (o := .cells #[.slice A1_0 l1_0.length c1_0, .bool a1_1] 35 (0,0)) (kk' BK275.out) hb);have n2_:=am' (bt' (y2' GE274.out GE275.out) hb);have n3_:=am' (hbox);have n4_:=am' ((by rw[hg];exact (bz' (y2' GE274.out GE275.out)):w.heap.size≤gb276));have n5_:=am' ((by rw[hg];exact (bz' (y2' GE274.out GE275.out)):w.heap.size≤gb276));have n6_:=am' ((by rw[hg];exact Nat.ne_of_lt (blk_lt (g:=gb274) (o := .cells #[.int .i64 a0_0, .int .i64 a0_1] 32 (0,0)) (kk' BK274.out)):gb274≠gb276));have n7_:=am' ((by rw[hg];exact Nat.ne_of_gt (blk_lt (g:=gb274) (o := .cells #[.int .i64 a0_0, .int .i64 a0_1] 32 (0,0)) (kk' BK274.out)):gb276≠gb274));have n8_:=am' ((by rw[hg];exact Nat.ne_of_lt (blk_lt (g:=gb275) (o := .cells #[.slice A1_0 l1_0.length c1_0, .bool a1_1] 35 (0,0)) (kk' BK275.out)):gb275≠gb276));have n9_:=am' ((by rw[hg];exact Nat.ne_of_gt (blk_lt (g:=gb275) (o := .cells #[.slice A1_0 l1_0.length c1_0, .bool a1_1] 35 (0,0)) (kk' BK275.out)):gb276≠gb275));clear BK274;clear BK275;clear HB;have BK274:=n0_;have BK275:=n1_;have HB:=n2_;have BK276:=n3_;have GW276:=n4_;have GE276:=n5_;have NB274_276:=n6_;have NB276_274:=n7_;have NB275_276:=n8_;have NB276_275:=n9_;clear n0_ n1_ n2_ n3_ n4_ n5_ n6_ n7_ n8_ n9_;clear hb hbox hg;have hnb59:=NB274_275.out;have hnc59:=NB275_274.out;have hnb60:=NB274_276.out;have hnc60:=NB276_274.out;have hcz61_0:w58.cell? ⟨gb274,0,none⟩=some (.int .i64 a0_0):=(bc' BK274.out 0).trans rfl;have hcz61_1:w58.cell? ⟨gb274,1,none⟩=some (.int .i64 a0_1):=(bc' BK274.out 1).trans rfl;have hfz61_0:=bf' BK274.out 0;have hfz61_1:=bf' BK274.out 1;have hnb62:=NB275_276.out;have hnc62:=NB276_275.out;have hcz63_0:w58.cell? ⟨gb275,0,none⟩=some (.slice A1_0 l1_0.length c1_0):=(bc' BK275.out 0).trans rfl;have hcz63_1:w58.cell? ⟨gb275,1,none⟩=some (.bool a1_1):=(bc' BK275.out 1).trans rfl;have hfz63_0:=bf' BK275.out 0;have hfz63_1:=bf' BK275.out 1)|((with_reducible refine gate_callee (f:=39) rfl ?_);refine goesL_ (some 10) rfl rfl Try.func39 xk' rfl #[.agg #[.int .i64 a0_0, .int .i64 a0_1], .agg #[.slice A1_0 l1_0.length c1_0, .bool a1_1]] rfl xl' ?_;(with_reducible refine (impl_Company_hasState.calls k a0_0 a0_1 _ _ l1_0 a1_1 false _ ?side1 ?side2 A4.out).mono ?_);(case side1=>exact kc' (cb' HR1_0.out HB.out));(case side2=>exact HC1_0.out);rintro e w64 ⟨rfl,hb⟩;refine ⟨_,rfl,?_⟩;have n0_:=am' (bb' (g:=gb274) (o := .cells #[.int .i64 a0_0, .int .i64 a0_1] 32 (0,0)) (kk' BK274.out) hb);have n1_:=am' (bb' (g:=gb275) (o := .cells #[.slice A1_0 l1_0.length c1_0, .bool a1_1] 35 (0,0)) (kk' BK275.out) hb);have n2_:=am' (bb' (g:=gb276) (o := .cells #[.slice none 0 0, .bool false] 35 (0,0)) (kk' BK276.out) hb);have n3_:=am' (bt' (y3' GE274.out GE275.out GE276.out) hb);clear BK274;clear BK275;clear BK276;clear HB;have BK274:=n0_;have BK275:=n1_;have BK276:=n2_;have HB:=n3_;clear n0_ n1_ n2_ n3_;(try clear hb);(try clear hb2);(try clear hk);(try clear hi);have hcz65_0:w64.cell? ⟨gb276,0,none⟩=some (.slice none 0 0):=(bc' BK276.out 0).trans rfl;have hcz65_1:w64.cell? ⟨gb276,1,none⟩=some (.bool false):=(bc' BK276.out 1).trans rfl;have hfz65_0:=bf' BK276.out 0;have hfz65_1:=bf' BK276.out 1))
  refine bodyPost_ret (results_ct rfl _ _ gb276 35 #[.slice none 0 0, .bool false] (0,0) _ rfl (by (with_reducible repeat (first|refine kn' ?_ _|refine kd' ?_|refine ka' ?_ _));refine blk_put (cs:=#[.slice none 0 0, .bool false]) ?_ 1 _ rfl;(with_reducible repeat (first|refine kn' ?_ _|refine kd' ?_|refine ka' ?_ _));refine blk_put (cs:=#[.slice none 0 0, .bool false]) ?_ 0 _ rfl;(with_reducible repeat (first|refine kn' ?_ _|refine kd' ?_|refine ka' ?_ _));exact BK276.out) Try.underlying35 rfl xk') rfl ?_
  exact ⟨_,by first|rfl|(simp[errW_none,errW_some] <;> rfl)|(simp[*,errW_none,errW_some] <;> rfl),by first|exact Kd.R_nil _ _ _ _ _|exact Kd.N_nil _ _ _ _ _|exact Kd.V_nil _ _ _ _ _|exact Kd.Q_nil _ _ _ _ _|exact Kd.S_nil _ _ _ _ _,y3' GE274.out GE275.out GE276.out⟩
def impl_IsCalmGroup.f (k:Nat) (a0:Int) (l1:List Int):Option (Bool × Bool):=(impl_in.f a0 1 4).bind fun t284=>(if t284=true then ((impl_areIn.f l1 0 (wrap64 ((wrap64 (2 * a0)) - 1)) 0 (wrap64 (2 * a0))).bind fun t285=>(if t285=true then ((impl_rises.f k l1).bind fun t286=>(if t286=true then ((impl_calm.f k l1).bind fun t287=>(some (t287,true))) else (some (false,false)))) else (some (false,false)))) else (some (false,false)))
theorem impl_IsCalmGroup.mono:∀ a0 a1 k,LeO (impl_IsCalmGroup.f k a0 a1) (impl_IsCalmGroup.f (k+1) a0 a1):=by
 intro a0 a1 k;unfold impl_IsCalmGroup.f
 repeat' first
   | (with_reducible exact impl_calm.mono _ _)
   | (with_reducible exact impl_rises.mono _ _)
   | (with_reducible exact LeO.refl _)
   | (with_reducible exact LeO.none _)
   | (with_reducible refine LeO.ite ?_ ?_)
   | (with_reducible refine LeO.bind ?_ (fun _=>?_))
   | exact impl_calm.mono _ _
   | exact impl_rises.mono _ _
   | exact LeO.none _
   | refine LeO.ite ?_ ?_
   | refine LeO.bind ?_ (fun _=>?_)
set_option maxHeartbeats 8000000 in
set_option maxRecDepth 100000 in
theorem impl_IsCalmGroup.calls (k:Nat) (a0:Int) (A1:Option Addr) (c1:Nat) (l1:List Int) (r1:Bool) (r2:Bool) (w:World) (hr1:Kd.C (Kd.int .i64) w A1 l1.length l1) (hc1:l1.length≤c1) (h:impl_IsCalmGroup.f k a0 l1=some (r1,r2)) :
  Calls Try.prog 21 #[.int .i64 a0, .slice A1 l1.length c1] w fun e w'=>e = .returned (.tuple #[.bool r1, .bool r2])∧Below w.heap.size w w':=by
 have HR1:=am' hr1
 have HC1:=am' hc1
 clear hr1 hc1;have HB:=am' (Below.refl w.heap.size w)
 have H:((impl_in.f a0 1 4).bind fun t284=>(if t284=true then ((impl_areIn.f l1 0 (wrap64 ((wrap64 (2 * a0)) - 1)) 0 (wrap64 (2 * a0))).bind fun t285=>(if t285=true then ((impl_rises.f k l1).bind fun t286=>(if t286=true then ((impl_calm.f k l1).bind fun t287=>(some (t287,true))) else (some (false,false)))) else (some (false,false)))) else (some (false,false))))=some (r1,r2):=h
 clear h;replace H:=Option.bind_eq_some_iff.mp H
 obtain ⟨t284,A30,H⟩:=H
 replace H:(if t284=true then ((impl_areIn.f l1 0 (wrap64 ((wrap64 (2 * a0)) - 1)) 0 (wrap64 (2 * a0))).bind fun t285=>(if t285=true then ((impl_rises.f k l1).bind fun t286=>(if t286=true then ((impl_calm.f k l1).bind fun t287=>(some (t287,true))) else (some (false,false)))) else (some (false,false)))) else (some (false,false)))=some (r1,r2):=H
 have A3:=am' A30
 clear A30;by_cases c4:t284=true
 ·
  subst c4;have H1:((impl_areIn.f l1 0 (wrap64 ((wrap64 (2 * a0)) - 1)) 0 (wrap64 (2 * a0))).bind fun t285=>(if t285=true then ((impl_rises.f k l1).bind fun t286=>(if t286=true then ((impl_calm.f k l1).bind fun t287=>(some (t287,true))) else (some (false,false)))) else (some (false,false))))=some (r1,r2):=by rw[if_pos rfl] at H;exact H
  clear H;have H:=H1;clear H1;replace H:=Option.bind_eq_some_iff.mp H;obtain ⟨t285,A50,H⟩:=H;replace H:(if t285=true then ((impl_rises.f k l1).bind fun t286=>(if t286=true then ((impl_calm.f k l1).bind fun t287=>(some (t287,true))) else (some (false,false)))) else (some (false,false)))=some (r1,r2):=H;have A5:=am' A50;clear A50;by_cases c6:t285=true
  ·
   subst c6;have H1:((impl_rises.f k l1).bind fun t286=>(if t286=true then ((impl_calm.f k l1).bind fun t287=>(some (t287,true))) else (some (false,false))))=some (r1,r2):=by rw[if_pos rfl] at H;exact H
   clear H;have H:=H1;clear H1;replace H:=Option.bind_eq_some_iff.mp H;obtain ⟨t286,A70,H⟩:=H;replace H:(if t286=true then ((impl_calm.f k l1).bind fun t287=>(some (t287,true))) else (some (false,false)))=some (r1,r2):=H;have A7:=am' A70;clear A70;by_cases c8:t286=true
   ·
    subst c8;have H1:((impl_calm.f k l1).bind fun t287=>(some (t287,true)))=some (r1,r2):=by rw[if_pos rfl] at H;exact H
    clear H;have H:=H1;clear H1;replace H:=Option.bind_eq_some_iff.mp H;obtain ⟨t287,A90,H⟩:=H;replace H:(some (t287,true))=some (r1,r2):=H;have A9:=am' A90;clear A90;simp only[Option.some.injEq,Prod.mk.injEq] at H;obtain ⟨rfl,rfl⟩:=H;go_enter Try.func21,Try.ntmps21;go_wp2_with (first|((with_reducible refine gate_callee (f:=47) rfl ?_);refine goesL_ (some 7) rfl rfl Try.func47 xk' rfl #[.int .i64 a0, .int .i64 1, .int .i64 4] rfl xl' ?_;(with_reducible refine (impl_in.calls a0 1 4 true _ A3.out).mono ?_);rintro e w' ⟨rfl,⟨nd,rfl⟩⟩;refine ⟨_,rfl,?_⟩)|(go_at_call 51;(with_reducible refine (impl_areIn.calls _ _ l1 0 (wrap64 ((wrap64 (2 * a0)) - 1)) 0 (wrap64 (2 * a0)) true _ ?side1 ?side2 A5.out).mono ?_);(case side1=>repeat (first|exact HR1.out|(with_reducible refine ca' ?_ _)|(with_reducible refine cn' ?_ _)|(with_reducible refine cd' ?_)));(case side2=>exact HC1.out);rintro e w10 ⟨rfl,hb⟩;have n0_:=am' (bt' xb' hb);clear HB;have HB:=n0_;clear n0_;(try clear hb);(try clear hb2);(try clear hk);(try clear hi))|(go_at_call 52;(with_reducible refine (impl_rises.calls k _ _ l1 true _ ?side1 ?side2 A7.out).mono ?_);(case side1=>exact kc' (cb' HR1.out HB.out));(case side2=>exact HC1.out);rintro e w' ⟨rfl,⟨nd,rfl⟩⟩)|((with_reducible refine gate_callee (f:=53) rfl ?_);refine goesL_ (some 25) rfl rfl Try.func53 xk' rfl #[.slice A1 l1.length c1] rfl xl' ?_;(with_reducible refine (impl_calm.calls k _ _ l1 t287 _ ?side1 ?side2 A9.out).mono ?_);(case side1=>exact kc' (cb' HR1.out xb'));(case side2=>exact HC1.out);rintro e w11 ⟨rfl,hb⟩;refine ⟨_,rfl,?_⟩;have n0_:=am' (bt' xb' hb);clear HB;have HB:=n0_;clear n0_;(try clear hb);(try clear hb2);(try clear hk);(try clear hi)));go_ret2
    exact ⟨by first|rfl|(simp[errW_none,errW_some] <;> rfl)|(simp[*,errW_none,errW_some] <;> rfl),xb'⟩
   ·
    replace c8:=Bool.eq_false_iff.mpr c8;subst c8;have H1:(some (false,false))=some (r1,r2):=by rw[if_neg (show ¬ (false=true) by decide)] at H;exact H
    clear H;have H:=H1;clear H1;simp only[Option.some.injEq,Prod.mk.injEq] at H;obtain ⟨rfl,rfl⟩:=H;go_enter Try.func21,Try.ntmps21;go_wp2_with (first|((with_reducible refine gate_callee (f:=47) rfl ?_);refine goesL_ (some 7) rfl rfl Try.func47 xk' rfl #[.int .i64 a0, .int .i64 1, .int .i64 4] rfl xl' ?_;(with_reducible refine (impl_in.calls a0 1 4 true _ A3.out).mono ?_);rintro e w' ⟨rfl,⟨nd,rfl⟩⟩;refine ⟨_,rfl,?_⟩)|(go_at_call 51;(with_reducible refine (impl_areIn.calls _ _ l1 0 (wrap64 ((wrap64 (2 * a0)) - 1)) 0 (wrap64 (2 * a0)) true _ ?side1 ?side2 A5.out).mono ?_);(case side1=>repeat (first|exact HR1.out|(with_reducible refine ca' ?_ _)|(with_reducible refine cn' ?_ _)|(with_reducible refine cd' ?_)));(case side2=>exact HC1.out);rintro e w12 ⟨rfl,hb⟩;have n0_:=am' (bt' xb' hb);clear HB;have HB:=n0_;clear n0_;(try clear hb);(try clear hb2);(try clear hk);(try clear hi))|(go_at_call 52;(with_reducible refine (impl_rises.calls k _ _ l1 false _ ?side1 ?side2 A7.out).mono ?_);(case side1=>exact kc' (cb' HR1.out HB.out));(case side2=>exact HC1.out);rintro e w' ⟨rfl,⟨nd,rfl⟩⟩));go_ret2
    exact ⟨by first|rfl|(simp[errW_none,errW_some] <;> rfl)|(simp[*,errW_none,errW_some] <;> rfl),xb'⟩
  ·
   replace c6:=Bool.eq_false_iff.mpr c6;subst c6;have H1:(some (false,false))=some (r1,r2):=by rw[if_neg (show ¬ (false=true) by decide)] at H;exact H
   clear H;have H:=H1;clear H1;simp only[Option.some.injEq,Prod.mk.injEq] at H;obtain ⟨rfl,rfl⟩:=H;go_enter Try.func21,Try.ntmps21;go_wp2_with (first|((with_reducible refine gate_callee (f:=47) rfl ?_);refine goesL_ (some 7) rfl rfl Try.func47 xk' rfl #[.int .i64 a0, .int .i64 1, .int .i64 4] rfl xl' ?_;(with_reducible refine (impl_in.calls a0 1 4 true _ A3.out).mono ?_);rintro e w' ⟨rfl,⟨nd,rfl⟩⟩;refine ⟨_,rfl,?_⟩)|(go_at_call 51;(with_reducible refine (impl_areIn.calls _ _ l1 0 (wrap64 ((wrap64 (2 * a0)) - 1)) 0 (wrap64 (2 * a0)) false _ ?side1 ?side2 A5.out).mono ?_);(case side1=>repeat (first|exact HR1.out|(with_reducible refine ca' ?_ _)|(with_reducible refine cn' ?_ _)|(with_reducible refine cd' ?_)));(case side2=>exact HC1.out);rintro e w13 ⟨rfl,hb⟩;have n0_:=am' (bt' xb' hb);clear HB;have HB:=n0_;clear n0_;(try clear hb);(try clear hb2);(try clear hk);(try clear hi)));go_ret2
   exact ⟨by first|rfl|(simp[errW_none,errW_some] <;> rfl)|(simp[*,errW_none,errW_some] <;> rfl),xb'⟩
 ·
  replace c4:=Bool.eq_false_iff.mpr c4;subst c4;have H1:(some (false,false))=some (r1,r2):=by rw[if_neg (show ¬ (false=true) by decide)] at H;exact H
  clear H;have H:=H1;clear H1;simp only[Option.some.injEq,Prod.mk.injEq] at H;obtain ⟨rfl,rfl⟩:=H;go_enter Try.func21,Try.ntmps21;go_wp2_with (first|((with_reducible refine gate_callee (f:=47) rfl ?_);refine goesL_ (some 7) rfl rfl Try.func47 xk' rfl #[.int .i64 a0, .int .i64 1, .int .i64 4] rfl xl' ?_;(with_reducible refine (impl_in.calls a0 1 4 false _ A3.out).mono ?_);rintro e w' ⟨rfl,⟨nd,rfl⟩⟩;refine ⟨_,rfl,?_⟩));go_ret2
  exact ⟨by first|rfl|(simp[errW_none,errW_some] <;> rfl)|(simp[*,errW_none,errW_some] <;> rfl),xb'⟩
def laws_hBools.l0:Nat→List Bool→List Bool→Int→Int→Option (Bool)
 | 0,_,_,_,_=>none
 | k+1,x0,x1,x12,x13=>if x13 < x12 then (if 0≤x13 then (if x13 < (x0.length:Int) then (if x13 < (x1.length:Int) then (if ((rdOf false x0 x13) != (rdOf false x1 x13))=true then (some false) else (laws_hBools.l0 k x0 x1 x12 (wrap64 (x13+1)))) else (none)) else (none)) else (none)) else (some true)
def laws_hBools.f (k:Nat) (l0:List Bool) (l1:List Bool):Option (Bool):=if (l0.length:Int)=(l1.length:Int) then (laws_hBools.l0 k l0 l1 (l0.length:Int) 0) else (some false)
theorem laws_hBools.mono_l:∀ k,(∀ y0 y1 y2 y3,LeO (laws_hBools.l0 k y0 y1 y2 y3) (laws_hBools.l0 (k+1) y0 y1 y2 y3))
 | 0=>fun _ _ _ _ r h=>by simp[laws_hBools.l0] at h
 | k+1=>by
  have ih0:=laws_hBools.mono_l k
  ·
   intro y0 y1 y2 y3;unfold laws_hBools.l0
   repeat' first
   | (with_reducible exact ih0 _ _ _ _)
   | (with_reducible exact LeO.refl _)
   | (with_reducible exact LeO.none _)
   | (with_reducible refine LeO.ite ?_ ?_)
   | (with_reducible refine LeO.bind ?_ (fun _=>?_))
   | exact ih0 _ _ _ _
   | exact LeO.none _
   | refine LeO.ite ?_ ?_
   | refine LeO.bind ?_ (fun _=>?_)
theorem laws_hBools.mono:∀ a0 a1 k,LeO (laws_hBools.f k a0 a1) (laws_hBools.f (k+1) a0 a1):=by
 intro a0 a1 k;have ih0:=laws_hBools.mono_l k
 unfold laws_hBools.f
 repeat' first
   | (with_reducible exact ih0 _ _ _ _)
   | (with_reducible exact LeO.refl _)
   | (with_reducible exact LeO.none _)
   | (with_reducible refine LeO.ite ?_ ?_)
   | (with_reducible refine LeO.bind ?_ (fun _=>?_))
   | exact ih0 _ _ _ _
   | exact LeO.none _
   | refine LeO.ite ?_ ?_
   | refine LeO.bind ?_ (fun _=>?_)
set_option maxHeartbeats 8000000 in
set_option maxRecDepth 100000 in
theorem laws_hBools.calls (k:Nat) (A0:Option Addr) (c0:Nat) (l0:List Bool) (A1:Option Addr) (c1:Nat) (l1:List Bool) (r:Bool) (w:World) (hr0:Kd.C Kd.bool w A0 l0.length l0) (hc0:l0.length≤c0) (hr1:Kd.C Kd.bool w A1 l1.length l1) (hc1:l1.length≤c1) (h:laws_hBools.f k l0 l1=some r) :
  Calls Try.prog 54 #[.slice A0 l0.length c0, .slice A1 l1.length c1] w fun e w'=>e = .returned (.bool r)∧Drawn0 w w':=by
 have HR0:=am' hr0
 have HC0:=am' hc0
 clear hr0 hc0;have HR1:=am' hr1
 have HC1:=am' hc1
 clear hr1 hc1;have H:(if (l0.length:Int)=(l1.length:Int) then (laws_hBools.l0 k l0 l1 (l0.length:Int) 0) else (some false))=some r:=h
 clear h;by_cases c3:(l0.length:Int)=(l1.length:Int)
 ·
  rw[if_pos c3] at H;have c3b0:((l0.length:Int) == (l1.length:Int))=true:=beq_iff_eq.mpr c3;have c3b1:((l0.length:Int) != (l1.length:Int))=false:=bne_eq_false_iff_eq.mpr c3;have c3b2:(l0.length == l1.length)=true:=by first|simpa using c3|(simp at c3 ⊢;omega)
  clear c3;have H':=am' H;clear H;go_enter Try.func54,Try.ntmps54;go_wp2
  repeat (go_quiet (fail);try go_wp2)
  go_loopg [13] k (fun kq v13 w'=>∃ (x13_1:Int),v13 = .int .i64 x13_1∧Aside0 (laws_hBools.l0 kq l0 l1 (l0.length:Int) x13_1=some r)∧Aside0 (kq≤k)∧Drawn0 w w')
  case atStart=>exact ⟨(0),xs',H',⟨Nat.le_refl _⟩,by repeat (first|exact Drawn0.refl _|apply Drawn0.step)⟩
  case round =>
   clear H';try clear c1
   try clear p2
   try clear c3
   try clear c3b0
   try clear c3b1
   try clear c3b2
   obtain ⟨x13_1,rfl,HA,HK1,⟨m1,rfl⟩⟩:=hrel;cases gk with
   | zero=>exact absurd HA.out (by simp[laws_hBools.l0])
   | succ k1 =>
    have H:=HA.out;clear HA;simp only[laws_hBools.l0] at H;by_cases c4:x13_1 < (l0.length:Int)
    ·
     rw[if_pos c4] at H;have c4b0:decide (x13_1 < (l0.length:Int))=true:=dt' c4;clear c4;by_cases c5:0≤x13_1
     ·
      rw[if_pos c5] at H;have c5b0:decide (0≤x13_1)=true:=dt' c5;clear c5;by_cases c6:x13_1 < (l0.length:Int)
      ·
       rw[if_pos c6] at H;have c6b0:decide (x13_1 < (l0.length:Int))=true:=dt' c6;clear c6;by_cases c7:x13_1 < (l1.length:Int)
       ·
        rw[if_pos c7] at H;have c7b0:decide (x13_1 < (l1.length:Int))=true:=dt' c7;clear c7;by_cases c8:((rdOf false l0 x13_1) != (rdOf false l1 x13_1))=true
        ·
         rw[if_pos c8] at H;have c8b0:((rdOf false l0 x13_1) != (rdOf false l1 x13_1))=true:=c8
         (try (have c8b1:decide ((rdOf false l0 x13_1)=(rdOf false l1 x13_1))=false:=by simpa using c8))
         (try (have c8b2:((rdOf false l0 x13_1) == (rdOf false l1 x13_1))=false:=by simpa using c8))
         (try (have c8b3:¬ ((rdOf false l0 x13_1)=(rdOf false l1 x13_1)):=by simpa using c8))
         clear c8;obtain rfl:=os' H;have p288:0≤(x13_1:Int):=od' xa';have q288:x13_1 < (l0.length:Int):=od' xa';obtain ⟨ad288,e288,hx288_0⟩:=Kd.at_bool HR0.out x13_1 p288 q288;cases e288;replace p288:=eq_true p288;replace q288:=eq_true q288;have p289:0≤(x13_1:Int):=od' xa';have q289:x13_1 < (l1.length:Int):=od' xa';obtain ⟨ad289,e289,hx289_0⟩:=Kd.at_bool HR1.out x13_1 p289 q289;cases e289;replace p289:=eq_true p289;replace q289:=eq_true q289;go_wp2
         repeat (go_quiet (fail);try go_wp2)
         go_ret
         exact ⟨xs',by repeat (first|exact Drawn0.refl _|apply Drawn0.step)⟩
        ·
         rw[if_neg c8] at H;have c8b0:((rdOf false l0 x13_1) != (rdOf false l1 x13_1))=false:=by simpa using c8
         (try (have c8b1:decide ((rdOf false l0 x13_1)=(rdOf false l1 x13_1))=true:=by simpa using c8))
         (try (have c8b2:((rdOf false l0 x13_1) == (rdOf false l1 x13_1))=true:=by simpa using c8))
         clear c8;have H':=am' H;clear H;have p288:0≤(x13_1:Int):=od' xa';have q288:x13_1 < (l0.length:Int):=od' xa';obtain ⟨ad288,e288,hx288_0⟩:=Kd.at_bool HR0.out x13_1 p288 q288;cases e288;replace p288:=eq_true p288;replace q288:=eq_true q288;have p289:0≤(x13_1:Int):=od' xa';have q289:x13_1 < (l1.length:Int):=od' xa';obtain ⟨ad289,e289,hx289_0⟩:=Kd.at_bool HR1.out x13_1 p289 q289;cases e289;replace p289:=eq_true p289;replace q289:=eq_true q289;go_wp2
         repeat (go_quiet (fail);try go_wp2)
         go_roundg k1
         case measure=>have:=HK1.out;omega
         case rel=>exact ⟨(wrap64 (x13_1+1)),xs',H',⟨by have:=HK1.out;omega⟩,by repeat (first|exact Drawn0.refl _|apply Drawn0.step)⟩
       ·
        rw[if_neg c7] at H;exact absurd H (by simp)
      ·
       rw[if_neg c6] at H;exact absurd H (by simp)
     ·
      rw[if_neg c5] at H;exact absurd H (by simp)
    ·
     rw[if_neg c4] at H;have c4b0:decide (x13_1 < (l0.length:Int))=false:=df' c4;clear c4;obtain rfl:=os' H;go_wp2
     repeat (go_quiet (fail);try go_wp2)
     go_ret
     exact ⟨xs',by repeat (first|exact Drawn0.refl _|apply Drawn0.step)⟩
 ·
  rw[if_neg c3] at H;have c3b0:((l0.length:Int) == (l1.length:Int))=false:=beq_eq_false_iff_ne.mpr c3;have c3b1:((l0.length:Int) != (l1.length:Int))=true:=bne_iff_ne.mpr c3;have c3b2:(l0.length == l1.length)=false:=by first|simpa using c3|(simp at c3 ⊢;omega)
  obtain rfl:=os' H;go_enter Try.func54,Try.ntmps54;go_wp2
  repeat (go_quiet (fail);try go_wp2)
  go_ret
  exact ⟨xs',by repeat (first|exact Drawn0.refl _|apply Drawn0.step)⟩
def laws_hState.f (k:Nat) (l0_0:List Bool) (a0_1:Bool) (l1_0:List Bool) (a1_1:Bool):Option (Bool):=if (a0_1 == a1_1)=true then ((laws_hBools.f k l0_0 l1_0).bind fun t292=>(some t292)) else (some false)
theorem laws_hState.mono:∀ a0 a1 a2 a3 k,LeO (laws_hState.f k a0 a1 a2 a3) (laws_hState.f (k+1) a0 a1 a2 a3):=by
 intro a0 a1 a2 a3 k;unfold laws_hState.f
 repeat' first
   | (with_reducible exact laws_hBools.mono _ _ _)
   | (with_reducible exact LeO.refl _)
   | (with_reducible exact LeO.none _)
   | (with_reducible refine LeO.ite ?_ ?_)
   | (with_reducible refine LeO.bind ?_ (fun _=>?_))
   | exact laws_hBools.mono _ _ _
   | exact LeO.none _
   | refine LeO.ite ?_ ?_
   | refine LeO.bind ?_ (fun _=>?_)
end Go.Proofs.Ytabhhkiipilghaa.C2
