import Derived.Test.YtikjdmiohpdnaaaC20zx0
import Derived.Test.YtikjdmiohpdnaaaC20zx13
import Derived.Test.YtikjdmiohpdnaaaC20zx14
import Derived.Test.YtikjdmiohpdnaaaC20zAl
namespace Go.Proofs.Ytikjdmiohpdnaaa.C20
open Go.RowKit Go.Proofs.YtikjdmiohpdnaaaW.PrintWords Go.Proofs.YtikjdmiohpdnaaaW.PrintLast Go.Proofs.YtikjdmiohpdnaaaW.PrintMore Go.Proofs.Ytikjdmiohpdnaaa.H
attribute [local go_sem] max2_int min2_int max_two min_two max_three min_three max_four min_four
set_option linter.unusedVariables false
set_option linter.unusedSimpArgs false
def impl_State_side.l0:Nat→Bool→List Int→List Bool→Int→Int→Option (List Int)
 | 0,_,_,_,_,_=>none
 | k+1,x1,x5,x10,x11,x12=>if x12 < x11 then (if 0≤x12 then (if x12 < (x10.length:Int) then (if ((rdOf false x10 x12) == x1)=true then (if x5.length < 17592186044416 then (impl_State_side.l0 k x1 (x5 ++ [x12]) x10 x11 (wrap64 (x12+1))) else (none)) else (impl_State_side.l0 k x1 x5 x10 x11 (wrap64 (x12+1)))) else (none)) else (none)) else (some x5)
def impl_State_side.f (k:Nat) (l0_0:List Bool) (a0_1:Bool) (a1:Bool):Option (List Int):=impl_State_side.l0 k a1 (([]:List Int)) l0_0 (l0_0.length:Int) 0
set_option maxHeartbeats 8000000 in
set_option maxRecDepth 100000 in
theorem impl_State_side.calls (k:Nat) (A0_0:Option Addr) (c0_0:Nat) (l0_0:List Bool) (a0_1:Bool) (a1:Bool) (r:List Int) (w:World) (hr0_0:Kd.C Kd.bool w A0_0 l0_0.length l0_0) (hc0_0:l0_0.length≤c0_0) (h:impl_State_side.f k l0_0 a0_1 a1=some r) :
  Calls Try.prog 101 #[.agg #[.slice A0_0 l0_0.length c0_0, .bool a0_1], .bool a1] w fun e w'=>∃ v0_:Value,e = .returned (v0_)∧Kd.R (Kd.int .i64) 3 w' w.heap.size (fun _=>True) v0_ r∧Below w.heap.size w w':=by
 have hu38:=Try.underlying38
 have HR0_0:=am' hr0_0
 have HC0_0:=am' hc0_0
 clear hr0_0 hc0_0;have HB:=am' (Below.refl w.heap.size w)
 have H:(impl_State_side.l0 k a1 (([]:List Int)) l0_0 (l0_0.length:Int) 0)=some r:=h
 clear h;obtain ⟨y376,hy376⟩:∃ y_:List Int,y_=(([]:List Int)):=⟨_,rfl⟩
 replace H:(impl_State_side.l0 k a1 y376 l0_0 (l0_0.length:Int) 0)=some r:=by first|(rw[hy376];with_reducible exact H)|(have H2_:=(Option.bind_some _ _).symm.trans H;rw[hy376];with_reducible exact H2_)|(have H2_:=(Option.bind_some _ _).symm.trans H;with_reducible exact H2_)|with_reducible exact H|(rw[hy376];exact H)|exact H
 have Ny376:=am' hy376
 clear hy376;have H':=am' H
 clear H;go_enter Try.func101,Try.ntmps101
 go_wp2_with (first|((with_reducible refine gate_dst (N:=2) rfl ?_);refine box_event ?hg (N:=2) ?hd (cs:=#[.slice A0_0 l0_0.length c0_0, .bool a0_1]) (t:=38) ?hr ?_;(case hd=>rfl);(case hg=>rfl);(case hr=>first|(go_simp;done)|(go_simp;rfl));intro gb375 hg w3 hbox hb;have n0_:=am' (bt' xb' hb);have n1_:=am' (hbox);have n2_:=am' ((by rw[hg];exact (bz' xb'):w.heap.size≤gb375));have n3_:=am' ((by rw[hg];exact (bz' xb'):w.heap.size≤gb375));clear HB;have HB:=n0_;have BK375:=n1_;have GW375:=n2_;have GE375:=n3_;clear n0_ n1_ n2_ n3_;clear hb hbox hg)|((with_reducible refine gate_dst (N:=8) rfl ?_);refine Kd.R_lit (Kd.int .i64) _ 3 ?hg (N:=8) ?hd (xs:=([]:List Int)) (inner:=[]) (ok:=fun _=>True) (okp:=fun _=>True) ?hr ?hp (fun _ hk=>hk) trivial (Below.refl _ _) (Nat.le_refl _) (by simp) ?_;(case hd=>rfl);(case hg=>rfl);(case hr=>first|(go_simp;done)|(go_simp;rfl));(case hp=>exact (Reps.none _ _));intro v377 w4 ho5 hb hg_ hnew_;clear hg_ hnew_;(first|rw[← Ny376.out] at ho5|(simp only[Int.reduceToNat] at ho5;rw[← Ny376.out] at ho5));have n0_:=am' (Kd.R_lower ho5 (bz' (yb' GE375.out)));have n1_:=am' (bb' (g:=gb375) (o := .cells #[.slice A0_0 l0_0.length c0_0, .bool a0_1] 38 (0,0)) (kk' BK375.out) hb);have n2_:=am' (bt' (yb' GE375.out) hb);clear BK375;clear HB;have HO378:=n0_;have BK375:=n1_;have HB:=n2_;clear n0_ n1_ n2_;clear hb ho5;have hcz6_0:w4.cell? ⟨gb375,0,none⟩=some (.slice A0_0 l0_0.length c0_0):=(bc' BK375.out 0).trans rfl;have hcz6_1:w4.cell? ⟨gb375,1,none⟩=some (.bool a0_1):=(bc' BK375.out 1).trans rfl;have hfz6_0:=bf' BK375.out 0;have hfz6_1:=bf' BK375.out 1))
 go_loopg [5,12] k (fun kq v5 v12 w'=>∃ (x5_1:List Int) (x12_1:Int),v12 = .int .i64 x12_1∧Aside0 (impl_State_side.l0 kq a1 x5_1 l0_0 (l0_0.length:Int) x12_1=some r)∧Aside0 (kq≤k)∧Aside0 (Kd.R (Kd.int .i64) 3 w' w.heap.size (fun _=>True) v5 x5_1)∧Aside0 (w'.heap[gb375]? = some (.cells #[(.slice A0_0 l0_0.length c0_0), .bool a0_1] 38 (0,0)))∧Aside0 (Below w.heap.size w w'))
 case atStart=>exact ⟨(y376),(0),xs',H',⟨Nat.le_refl _⟩,⟨kr' HO378.out⟩,⟨kk' BK375.out⟩,⟨yb' GE375.out⟩⟩
 case round =>
  clear H';try clear c1
  try clear p2
  try clear hcz6_0
  try clear hcz6_1
  try clear hfz6_0
  try clear hfz6_1
  obtain ⟨x5_1,x12_1,rfl,HA,HK1,HO_5,BK375,HB⟩:=hrel;cases gk with
  | zero=>exact absurd HA.out (by simp[impl_State_side.l0])
  | succ k1 =>
   have H:=HA.out;clear HA;simp only[impl_State_side.l0] at H;by_cases c7:x12_1 < (l0_0.length:Int)
   ·
    rw[if_pos c7] at H;have c7b0:decide (x12_1 < (l0_0.length:Int))=true:=dt' c7;clear c7;by_cases c8:0≤x12_1
    ·
     rw[if_pos c8] at H;have c8b0:decide (0≤x12_1)=true:=dt' c8;clear c8;by_cases c9:x12_1 < (l0_0.length:Int)
     ·
      rw[if_pos c9] at H;have c9b0:decide (x12_1 < (l0_0.length:Int))=true:=dt' c9;clear c9;by_cases c10:((rdOf false l0_0 x12_1) == a1)=true
      ·
       rw[if_pos c10] at H;have c10b0:((rdOf false l0_0 x12_1) == a1)=true:=c10
       (try (have c10b1:decide ((rdOf false l0_0 x12_1)=a1)=true:=by simpa using c10))
       (try (have c10b2:((rdOf false l0_0 x12_1) == a1)=true:=by simpa using c10))
       clear c10;by_cases c11:x5_1.length < 17592186044416
       ·
        rw[if_pos c11] at H;have LMc11:=am' c11;clear c11;obtain ⟨y380,hy380⟩:∃ y_:List Int,y_=(x5_1 ++ [x12_1]):=⟨_,rfl⟩
        replace H:(impl_State_side.l0 k1 a1 y380 l0_0 (l0_0.length:Int) (wrap64 (x12_1+1)))=some r:=by first|(rw[hy380];with_reducible exact H)|(have H2_:=(Option.bind_some _ _).symm.trans H;rw[hy380];with_reducible exact H2_)|(have H2_:=(Option.bind_some _ _).symm.trans H;with_reducible exact H2_)|with_reducible exact H|(rw[hy380];exact H)|exact H
        have Ny380:=am' hy380;clear hy380;have H':=am' H;clear H;have p379:0≤(x12_1:Int):=od' xa';have q379:x12_1 < (l0_0.length:Int):=od' xa';obtain ⟨ad379,e379,hx379_0⟩:=Kd.at_bool HR0_0.out x12_1 p379 q379;cases e379;replace hx379_0:=(HB.out.cell (bl' w _ hx379_0)).trans hx379_0;replace p379:=eq_true p379;replace q379:=eq_true q379;go_wp2_with (first|((with_reducible refine gate_builtin (b := .append) (xs:=#[.tmp 20, .tmp 22]) rfl ?_);at_builtin;refine Kd.R_append (Kd.int .i64) (w0:=w) w.heap.size rfl (.tmp 20) (.tmp 22) 22 3 (.int .i64 0) 8 rfl Try.underlying22 info3 rfl (by decide) (by omega) u5 x5_1 x12_1 [.int .i64 x12_1] (fun _=>True) (fun _=>False) rfl rfl ?aP (fun _ hk=>hk.elim) ?aF ?aO ?aB ?aS ?aL ?_;(case aP=>exact rfl);(case aB=>exact (yb' GE375.out));(case aF=>exact (fun _ _=>trivial));(case aO=>exact (kr' HO_5.out));(case aS=>exact (bz' (yb' GE375.out)));(case aL=>have:=LMc11.out;omega);intro v381 w12 ho hb hg hat;rw[← Ny380.out] at ho;have n0_:=am' (blk_grown (g:=gb375) (o := .cells #[.slice (some ad379) l0_0.length c0_0, .bool a0_1] 38 (0,0)) (kk' BK375.out) hg (Kd.R_ne HO_5.out BK375.out (by decide)));have n1_:=am' (hb);have n2_:=am' (ho);clear BK375;clear HB;clear HO_5;have BK375:=n0_;have HB:=n1_;have HO382:=n2_;clear n0_ n1_ n2_;clear ho hb hg hat));go_roundg k1
        case measure=>have:=HK1.out;omega
        case rel=>exact ⟨(y380),(wrap64 (x12_1+1)),xs',H',⟨by have:=HK1.out;omega⟩,⟨kr' HO382.out⟩,⟨kk' BK375.out⟩,⟨yb' GE375.out⟩⟩
       ·
        rw[if_neg c11] at H;exact absurd H (by simp)
      ·
       rw[if_neg c10] at H;have c10b0:((rdOf false l0_0 x12_1) == a1)=false:=by simpa using c10
       (try (have c10b1:decide ((rdOf false l0_0 x12_1)=a1)=false:=by simpa using c10))
       (try (have c10b2:((rdOf false l0_0 x12_1) == a1)=false:=by simpa using c10))
       (try (have c10b3:¬ ((rdOf false l0_0 x12_1)=a1):=by simpa using c10))
       clear c10;have H':=am' H;clear H;have p379:0≤(x12_1:Int):=od' xa';have q379:x12_1 < (l0_0.length:Int):=od' xa';obtain ⟨ad379,e379,hx379_0⟩:=Kd.at_bool HR0_0.out x12_1 p379 q379;cases e379;replace hx379_0:=(HB.out.cell (bl' w _ hx379_0)).trans hx379_0;replace p379:=eq_true p379;replace q379:=eq_true q379;go_wp2;go_roundg k1
       case measure=>have:=HK1.out;omega
       case rel=>exact ⟨(x5_1),(wrap64 (x12_1+1)),xs',H',⟨by have:=HK1.out;omega⟩,⟨kr' HO_5.out⟩,⟨kk' BK375.out⟩,⟨yb' GE375.out⟩⟩
     ·
      rw[if_neg c9] at H;exact absurd H (by simp)
    ·
     rw[if_neg c8] at H;exact absurd H (by simp)
   ·
    rw[if_neg c7] at H;have c7b0:decide (x12_1 < (l0_0.length:Int))=false:=df' c7;clear c7;obtain rfl:=os' H;go_wp2;go_ret
    exact ⟨_,by first|rfl|(simp[errW_none,errW_some] <;> rfl)|(simp[*,errW_none,errW_some] <;> rfl),kr' HO_5.out,yb' GE375.out⟩
set_option maxHeartbeats 2000000 in
set_option maxRecDepth 100000 in
theorem carries1_calls (x:Int) (b1:Nat) (A0:Option Addr) (n0 c0:Nat) (A:Option Addr) (c:Nat) (l0:List Bool) (t:Int) (w:World) (h1:w.heap[b1]? = some (.cells #[.slice A0 n0 c0, .slice A l0.length c, .int .i64 t] 29 (0,0))) (hr:Kd.C Kd.bool w A l0.length l0) (hx0:0≤x) (hx1:x < (l0.length:Int)) :
  Calls Try.prog 115 #[.int .i64 x, .pointer (some ⟨b1,0,none⟩)] w fun e w'=>e = .returned (.bool (rdOf false l0 x))∧Below w.heap.size w w':=by
 obtain ⟨ad,e0,hx⟩:=Kd.at_bool hr x hx0 hx1
 cases e0
 have hs:w.cell? ⟨b1,1,none⟩=some (.slice (some ad) l0.length c):=(bc' h1 1).trans rfl
 have hbig:=hr.2.1
 have p0:=eq_true hx0
 have p1:=eq_true hx1
 clear hr h1 hx0 hx1;go_enter Try.func115,Try.ntmps115
 go_wp2
 go_ret
 exact ⟨rfl,Below.refl _ _⟩
theorem carries_pred (b1:Nat) (A0:Option Addr) (n0 c0:Nat) (A:Option Addr) (c:Nat) (l0:List Bool) (t:Int) (xs:List Int) (w:World) (h1:w.heap[b1]? = some (.cells #[.slice A0 n0 c0, .slice A l0.length c, .int .i64 t] 29 (0,0))) (hr:Kd.C Kd.bool w A l0.length l0) (hx:∀ x ∈ xs,0≤x∧x < (l0.length:Int)) :
  PredOn 115 #[.pointer (some ⟨b1,0,none⟩)] (fun x=>rdOf false l0 x) xs w:=fun x hm W hb =>
 carries1_calls x b1 A0 n0 c0 A c l0 t W ((hb.block _ (blk_lt h1)).trans h1) (cb' hr hb) (hx x hm).1 (hx x hm).2
def impl_Crew_carries.f (k:Nat) (l0_0:List Int) (l0_1:List Bool) (a0_2:Int) (l1:List Int):Option Bool:=(impl_Crew_load.f k l0_0 l0_1 a0_2 l1).bind fun t=>if t≤a0_2 then (if l1.all (fun x=>decide (0≤x) && decide (x < (l0_1.length:Int))) then some (l1.any fun x=>rdOf false l0_1 x) else none) else some false
set_option maxHeartbeats 2000000 in
set_option maxRecDepth 100000 in
theorem impl_Crew_carries.calls (k:Nat) (A0_0:Option Addr) (c0_0:Nat) (l0_0:List Int) (A0_1:Option Addr) (c0_1:Nat) (l0_1:List Bool) (a0_2:Int) (A1:Option Addr) (c1:Nat) (l1:List Int) (r:Bool) (w:World) (hr0_0:Kd.C (Kd.int .i64) w A0_0 l0_0.length l0_0) (hc0_0:l0_0.length≤c0_0) (hr0_1:Kd.C Kd.bool w A0_1 l0_1.length l0_1) (hc0_1:l0_1.length≤c0_1) (hr1:Kd.C (Kd.int .i64) w A1 l1.length l1) (hc1:l1.length≤c1) (h:impl_Crew_carries.f k l0_0 l0_1 a0_2 l1=some r) :
  Calls Try.prog 95 #[.agg #[.slice A0_0 l0_0.length c0_0, .slice A0_1 l0_1.length c0_1, .int .i64 a0_2], .slice A1 l1.length c1] w fun e w'=>e = .returned (.bool r)∧Below w.heap.size w w':=by
 unfold impl_Crew_carries.f at h
 obtain ⟨t,ht,h⟩:=Option.bind_eq_some_iff.mp h
 have HL:=am' (fun (w1:World) (h1:Below w.heap.size w w1)=>impl_Crew_load.calls k A0_0 c0_0 l0_0 A0_1 c0_1 l0_1 a0_2 A1 c1 l1 t w1 (cb' hr0_0 h1) hc0_0 (cb' hr0_1 h1) hc0_1 (cb' hr1 h1) hc1 ht)
 have hu:=Try.underlying29
 clear ht;by_cases hle:t≤a0_2
 ·
  rw[if_pos hle] at h
  obtain ⟨hin,rfl⟩:(∀ x ∈ l1,0≤x∧x < (l0_1.length:Int))∧(l1.any fun x=>rdOf false l0_1 x)=r:=by
   by_cases hc:l1.all (fun x=>decide (0≤x) && decide (x < (l0_1.length:Int)))=true
   ·
    rw[if_pos hc] at h;refine ⟨fun x hx=>?_,os' h⟩;have:=List.all_eq_true.1 hc x hx;simpa using this
   ·
    rw[if_neg hc] at h;cases h
  have HC:=am' (fun (w1:World) (h1:Below w.heap.size w w1) (b1:Nat) (e1:w1.heap[b1]? = some (.cells #[.slice A0_0 l0_0.length c0_0, .slice A0_1 l0_1.length c0_1, .int .i64 a0_2] 29 (0,0))) =>
   ContainsFunc_any 115 #[.pointer (some ⟨b1,0,none⟩)] (fun x=>rdOf false l0_1 x) (enters_of Try.func115 xk' rfl) A1 c1 l1 w1 (cb' hr1 h1) hc1 hr1.2.1 (carries_pred b1 A0_0 l0_0.length c0_0 A0_1 c0_1 l0_1 a0_2 l1 w1 e1 (cb' hr0_1 h1) hin))
  clear hr0_0 hr0_1 hr1 h hin;have d0:=dt' hle;clear hle;go_enter Try.func95,Try.ntmps95;go_wp2;have HB1:=am' (ba' (Below.refl w.heap.size w) (.cells #[.slice A0_0 l0_0.length c0_0, .slice A0_1 l0_1.length c0_1, .int .i64 a0_2] 29));have G1:=am' (heap_alloc_new w (.cells #[.slice A0_0 l0_0.length c0_0, .slice A0_1 l0_1.length c0_1, .int .i64 a0_2] 29));have x0:(w.alloc (.cells #[.slice A0_0 l0_0.length c0_0, .slice A0_1 l0_1.length c0_1, .int .i64 a0_2] 29)).cell? ⟨w.heap.size,0,none⟩=some (.slice A0_0 l0_0.length c0_0):=(bc' G1.out 0).trans rfl;have x1:(w.alloc (.cells #[.slice A0_0 l0_0.length c0_0, .slice A0_1 l0_1.length c0_1, .int .i64 a0_2] 29)).cell? ⟨w.heap.size,1,none⟩=some (.slice A0_1 l0_1.length c0_1):=(bc' G1.out 1).trans rfl;have x2:(w.alloc (.cells #[.slice A0_0 l0_0.length c0_0, .slice A0_1 l0_1.length c0_1, .int .i64 a0_2] 29)).cell? ⟨w.heap.size,2,none⟩=some (.int .i64 a0_2):=(bc' G1.out 2).trans rfl;generalize w.alloc (.cells #[.slice A0_0 l0_0.length c0_0, .slice A0_1 l0_1.length c0_1, .int .i64 a0_2] 29)=w1 at *
  go_region_with (first|(go_at_call 56;refine (HL.out _ ?_).mono ?_;(repeat (first|exact HB1.out|apply be'|apply bd'));rintro e w2 ⟨rfl,hb2⟩;have HB2:=am' (below_then (be' HB1.out) (Nat.le_of_lt (blk_lt G1.out)) hb2);have G2:=am' ((hb2.block _ (blk_lt G1.out)).trans G1.out);have y2:w2.cell? ⟨w.heap.size,2,none⟩=some (.int .i64 a0_2):=(bc' G2.out 2).trans rfl;clear hb2)|(go_at_call 111;refine (HC.out _ ?_ _ ?_).mono ?_;(repeat (first|exact HB2.out|apply be'|apply bd'));exact G2.out;rintro e w3 ⟨rfl,hb3⟩;have HB3:=am' (below_then HB2.out (Nat.le_of_lt (blk_lt G2.out)) hb3);clear hb3))
  all_goals (go_wp2;go_ret;exact ⟨rfl,HB3.out⟩)
 ·
  rw[if_neg hle] at h;obtain rfl:=os' h;clear hr0_0 hr0_1 hr1 h;have d0:=df' hle;replace hle:=eq_false hle;go_enter Try.func95,Try.ntmps95;go_wp2;have HB1:=am' (ba' (Below.refl w.heap.size w) (.cells #[.slice A0_0 l0_0.length c0_0, .slice A0_1 l0_1.length c0_1, .int .i64 a0_2] 29));have G1:=am' (heap_alloc_new w (.cells #[.slice A0_0 l0_0.length c0_0, .slice A0_1 l0_1.length c0_1, .int .i64 a0_2] 29));have x0:(w.alloc (.cells #[.slice A0_0 l0_0.length c0_0, .slice A0_1 l0_1.length c0_1, .int .i64 a0_2] 29)).cell? ⟨w.heap.size,0,none⟩=some (.slice A0_0 l0_0.length c0_0):=(bc' G1.out 0).trans rfl;have x1:(w.alloc (.cells #[.slice A0_0 l0_0.length c0_0, .slice A0_1 l0_1.length c0_1, .int .i64 a0_2] 29)).cell? ⟨w.heap.size,1,none⟩=some (.slice A0_1 l0_1.length c0_1):=(bc' G1.out 1).trans rfl;have x2:(w.alloc (.cells #[.slice A0_0 l0_0.length c0_0, .slice A0_1 l0_1.length c0_1, .int .i64 a0_2] 29)).cell? ⟨w.heap.size,2,none⟩=some (.int .i64 a0_2):=(bc' G1.out 2).trans rfl;generalize w.alloc (.cells #[.slice A0_0 l0_0.length c0_0, .slice A0_1 l0_1.length c0_1, .int .i64 a0_2] 29)=w1 at *
  first
   | go_region_with ((go_at_call 56;refine (HL.out _ ?_).mono ?_;(repeat (first|exact HB1.out|apply be'|apply bd'));rintro e w2 ⟨rfl,hb2⟩;have HB2:=am' (below_then (be' HB1.out) (Nat.le_of_lt (blk_lt G1.out)) hb2);have G2:=am' ((hb2.block _ (blk_lt G1.out)).trans G1.out);have y2:w2.cell? ⟨w.heap.size,2,none⟩=some (.int .i64 a0_2):=(bc' G2.out 2).trans rfl;clear hb2))
   | fail
  all_goals (go_wp2;go_ret;exact ⟨rfl,HB2.out⟩)
def CrewFr (pc:Nat) (A0:Option Addr) (c0:Nat) (l0:List Int) (A1:Option Addr) (c1:Nat) (l1:List Bool) (m:Int) (W:World) (O:Nat→Prop):Prop :=
 W.heap[pc]? = some (.cells #[.slice A0 l0.length c0, .slice A1 l1.length c1, .int .i64 m] 29 (0,0))∧¬ O pc∧Kd.F (Kd.int .i64) W (fun k=>¬ O k) A0 l0.length l0∧Kd.F Kd.bool W (fun k=>¬ O k) A1 l1.length l1∧l0.length≤c0∧l1.length≤c1
theorem CrewFr.turn {pc:Nat} {A0:Option Addr} {c0:Nat} {l0:List Int} {A1:Option Addr} {c1:Nat} {l1:List Bool} {m:Int} {w W:World} {O O':Nat→Prop} (h:CrewFr pc A0 c0 l0 A1 c1 l1 m w O) (hk:Kept w W O) (ho:∀ k,O' k→O k∨w.heap.size≤k):CrewFr pc A0 c0 l0 A1 c1 l1 m W O':=by
 obtain ⟨h1,h2,h3,h4,h5,h6⟩:=h
 refine ⟨blk_kept h1 hk h2,fun q=>?_,Kd.F_mono (Kd.F_kept (Kd.F_bound h3) hk (fun _ q=>q.1)) (fun k q q2=>by rcases ho k q2 with q3|q3;exact q.1 q3;omega),Kd.F_mono (Kd.F_kept (Kd.F_bound h4) hk (fun _ q=>q.1)) (fun k q q2=>by rcases ho k q2 with q3|q3;exact q.1 q3;omega),h5,h6⟩
 rcases ho _ q with q|q
 ·
  exact h2 q
 ·
  have:=blk_lt h1;omega
def crewInv (B bo pc:Nat) (A0:Option Addr) (c0:Nat) (l0:List Int) (A1:Option Addr) (c1:Nat) (l1:List Bool) (m:Int) (s:List (List Int)) (W:World) (O:Nat→Prop):Prop:=OutInv B bo s W O∧CrewFr pc A0 c0 l0 A1 c1 l1 m W O
def crewS (k:Nat) (l0:List Int) (l1:List Bool) (m:Int) (s:List (List Int)) (l:List Int):Option (List (List Int)):=(impl_Crew_carries.f k l0 l1 m l).bind fun t=>if t=true then pushS s l else some s
set_option maxHeartbeats 2000000 in
set_option maxRecDepth 100000 in
theorem crew1_each (k:Nat) (B bo pc:Nat) (A0:Option Addr) (c0:Nat) (l0:List Int) (A1:Option Addr) (c1:Nat) (l1:List Bool) (m:Int):EachOk B 102 #[.pointer (some ⟨pc,0,none⟩), .pointer (some ⟨bo,0,none⟩)] (crewInv B bo pc A0 c0 l0 A1 c1 l1 m) (crewS k l0 l1 m):=by
 intro s s' O W0 W vl l hinv hbel hR hs;obtain ⟨hout,hfr⟩:=hinv
 have hfr:=hfr.turn (O':=O) (Kept.of_below hbel O) (fun _ h => .inl h)
 obtain ⟨Al,cl,rfl,hlc,hC⟩:=Kd.R_reads hR
 unfold crewS at hs
 obtain ⟨t,ht,hs⟩:=Option.bind_eq_some_iff.mp hs
 have HK:=am' (fun (W1:World) (hb:Below W.heap.size W W1)=>impl_Crew_carries.calls k A0 c0 l0 A1 c1 l1 m Al cl l t W1 (cb' (Kd.F_now hfr.2.2.1) hb) hfr.2.2.2.2.1 (cb' (Kd.F_now hfr.2.2.2.1) hb) hfr.2.2.2.2.2 (cb' hC hb) hlc ht)
 have x0:W.cell? ⟨pc,0,none⟩=some (.slice A0 l0.length c0):=(bc' hfr.1 0).trans rfl
 have x1:W.cell? ⟨pc,1,none⟩=some (.slice A1 l1.length c1):=(bc' hfr.1 1).trans rfl
 have x2:W.cell? ⟨pc,2,none⟩=some (.int .i64 m):=(bc' hfr.1 2).trans rfl
 have hu:=Try.underlying29
 have HFR:=am' hfr
 have HOUT:=am' hout
 have HBEL:=am' hbel
 have HR0:=am' hR
 clear hfr hout hbel hR hC hlc ht;cases t with
 | false =>
  simp only[Bool.false_eq_true,if_false,Option.some.injEq] at hs;subst hs;go_enter Try.func102,Try.ntmps102;go_wp2_with (go_at_call 95;refine (HK.out _ (Below.refl _ _)).mono ?_;rintro e w2 ⟨rfl,hb⟩;have HB2:=am' hb;clear hb);go_end0
  have hb2:Below W0.heap.size W0 w2:=HBEL.out.trans (HB2.out.mono HBEL.out.size)
  have hBW:B≤W.heap.size:=by
   obtain ⟨v,h1,h2,_⟩:=HOUT.out;have:=blk_lt h1;have:=HBEL.out.size;omega
  exact ⟨rfl,HB2.out.mono hBW,O,⟨HOUT.out.below hb2,HFR.out.turn (Kept.of_below HB2.out O) (fun _ h => .inl h)⟩,Kept.of_below HB2.out O,fun k h => .inl h⟩
 | true =>
  simp only[if_true] at hs;obtain ⟨v,hbo,hB,hS,rfl⟩:=HOUT.out
  obtain ⟨hlim,rfl⟩:s.length < 1099511627776∧s ++ [l]=s':=by
   unfold pushS at hs
   by_cases h:s.length < 1099511627776
   ·
    rw[if_pos h] at hs;exact ⟨h,os' hs⟩
   ·
    rw[if_neg h] at hs;cases hs
  have hinfo:=am' (show (Try.prog.info? 22).map (fun i=>(i.zero,i.size,i.bytes))=some (some (.slice none 0 0),1,24) by kernel_rfl);have HL:=am' hlim;have HBO0:=am' hbo;have HS0:=am' hS;have HBE:=am' hB;have HLO:=am' (blk_lt hbo);have HVL:=am' (Kd.S_lt hS);clear hbo hS hs hlim hB HOUT;go_enter Try.func102,Try.ntmps102;go_wp2_with (first|(go_at_call 95;refine (HK.out _ (Below.refl _ _)).mono ?_;rintro e w2 ⟨rfl,hb⟩;have HB2:=am' hb;have hb2:Below W0.heap.size W0 w2:=bt' HBEL.out hb;have HSZ:=am' hb2.size;have HBO:=am' (bb' HBO0.out hb2);have HS:=am' (Kd.S_mono (Kd.S_old HS0.out hb2) (ok':=fun k=>k≠bo∧¬ W0.heap.size≤k) (fun k hk=>⟨hk.1,by omega⟩));have HR:=am' (rb' HR0.out hb);have HBB:=am' (show Below B W w2 from hb.mono (by have:=HBEL.out.size;have:=HLO.out;have:=HBE.out;omega));clear hb hb2;have y0:w2.cell? ⟨bo,0,none⟩=some v:=(bc' HBO.out 0).trans rfl;have y1:=bf' HBO.out 0)|((with_reducible refine gate_builtin (b := .append) (xs:=#[.tmp 7, .tmp 9]) rfl ?_);at_builtin;refine Kd.S_append (Kd.slice 3 (Kd.int .i64)) (w0:=W) B rfl (.tmp 7) (.tmp 9) 47 22 (.slice none 0 0) 24 rfl Try.underlying47 hinfo.out rfl (by decide) (by omega) v s l [.slice Al l.length cl] (fun k=>k≠bo) (fun k=>W0.heap.size≤k∧k < w2.heap.size∧k≠bo) rfl rfl ?aP ?aK ?aF ?aO ?aB ?aS ?aL ?_;(case aP=>exact ⟨_,rfl,Kd.R_lower (Kd.R_mono (Kd.R_bound HR.out) (fun k hk=>⟨hk.2.1,hk.2.2.1,by have:=HLO.out;have:=hk.2.1;omega⟩)) (by have:=HLO.out;have:=HBE.out;omega)⟩);(case aK=>exact fun k hk=>⟨hk.2.2,fun e=>by have:=HVL.out k e.symm;omega⟩);(case aF=>exact fun k hk=>by have:=HLO.out;have:=HSZ.out;omega);(case aO=>exact Kd.S_mono HS.out (fun k hk=>⟨hk.1,fun q=>hk.2 q.1⟩));(case aB=>exact HBB.out);(case aS=>have:=HLO.out;have:=HSZ.out;have:=HBE.out;omega);(case aL=>have:=HL.out;omega);intro v1 w1 ho hb hg hat;obtain ⟨A1_,c1_,e1⟩:=Kd.S_slice ho;rw[List.length_append,List.length_singleton] at e1;subst e1;have HY:=am' ((hg.block bo (Nat.lt_of_lt_of_le HLO.out HSZ.out) (Kd.S_away HS.out (fun k hk=>hk.1))).trans HBO.out);have z0:w1.cell? ⟨bo,0,none⟩=some v:=(bc' HY.out 0).trans rfl;have z1:=bf' HY.out 0;have HO:=am' ho;have HB1:=am' hb;have HG1:=am' hg;have HA1:=am' hat;clear ho hb hg hat));go_end0
  have hkp:Kept W (w1.setCell ⟨bo,0,none⟩ (.slice A1_ (s.length+1) c1_)) (fun k=>k=bo∨some k=v.ownBlock):=Kept.setCell (Kept.of_grown HG1.out (Kept.of_below HB2.out _) (fun k hk => .inl (.inr hk.symm))) (.inl (.inl rfl)) _
  have hnew:∀ k,(k=bo∨some k=(Value.slice A1_ (s.length+1) c1_).ownBlock)→(k=bo∨some k=v.ownBlock)∨W.heap.size≤k:=by
   rintro k (rfl|hk)
   ·
    exact .inl (.inl rfl)
   ·
    rcases HA1.out with q|⟨b,q,hb⟩
    ·
     exact .inl (.inr (hk.trans q))
    ·
     rw[q] at hk;cases hk;exact .inr (Nat.le_trans HB2.out.size hb)
  exact ⟨rfl,HB1.out.setCell HBE.out _,_,⟨⟨_,blk_put HY.out 0 _ rfl,HBE.out,Kd.S_far HO.out (p:=⟨bo,0,none⟩) (fun k hk=>hk) _,rfl⟩,HFR.out.turn hkp hnew⟩,hkp,hnew⟩
def impl_Crew_rides.f (k:Nat) (l0_0:List Int) (l0_1:List Bool) (a0_2:Int) (l1_0:List Bool) (a1_1:Bool):Option (List (List Int)) :=
 (impl_State_side.f k l1_0 a1_1 a1_1).bind fun sd=>if sd.length≤20 then (grpsF (l0_0.length:Int) sd []).foldlM (crewS k l0_0 l0_1 a0_2) [] else none
set_option maxHeartbeats 2000000 in
set_option maxRecDepth 100000 in
theorem impl_Crew_rides.calls (k:Nat) (A0_0:Option Addr) (c0_0:Nat) (l0_0:List Int) (A0_1:Option Addr) (c0_1:Nat) (l0_1:List Bool) (a0_2:Int) (A1_0:Option Addr) (c1_0:Nat) (l1_0:List Bool) (a1_1:Bool) (r:List (List Int)) (w:World) (hr0_0:Kd.C (Kd.int .i64) w A0_0 l0_0.length l0_0) (hc0_0:l0_0.length≤c0_0) (hr0_1:Kd.C Kd.bool w A0_1 l0_1.length l0_1) (hc0_1:l0_1.length≤c0_1) (hr1_0:Kd.C Kd.bool w A1_0 l1_0.length l1_0) (hc1_0:l1_0.length≤c1_0) (h:impl_Crew_rides.f k l0_0 l0_1 a0_2 l1_0 a1_1=some r) :
  Calls Try.prog 74 #[.agg #[.slice A0_0 l0_0.length c0_0, .slice A0_1 l0_1.length c0_1, .int .i64 a0_2], .agg #[.slice A1_0 l1_0.length c1_0, .bool a1_1]] w fun e w'=>∃ v0_:Value,e = .returned (v0_)∧Kd.S (Kd.slice 3 (Kd.int .i64)) 22 w' w.heap.size (fun _=>True) v0_ r∧Below w.heap.size w w':=by
 have hu0:=Try.underlying29
 have hu1:=Try.underlying38
 unfold impl_Crew_rides.f at h
 obtain ⟨sd,hsd,h⟩:=Option.bind_eq_some_iff.mp h
 by_cases hlen:sd.length≤20
 ·
  rw[if_pos hlen] at h;have HD:=am' (fun (W:World) (hb:Below w.heap.size w W)=>impl_State_side.calls k A1_0 c1_0 l1_0 a1_1 a1_1 sd W (cb' hr1_0 hb) hc1_0 hsd);have HB0:=am' (four_blocks w (.cells #[.slice A0_0 l0_0.length c0_0, .slice A0_1 l0_1.length c0_1, .int .i64 a0_2] 29) (.cells #[.slice A1_0 l1_0.length c1_0, .bool a1_1] 38) (.cells #[] 22) (.cells #[.slice (some ⟨w.heap.size+1+1,0,none⟩) 0 0] 47));have HF0:=am' (Kd.C_F (Kd.heap_int .i64) hr0_0);have HF1:=am' (Kd.C_F Kd.heap_bool hr0_1);have HFO:=am' h;have HLEN:=am' hlen;clear hr0_0 hr0_1 hr1_0 hsd hlen h;go_enter Try.func74,Try.ntmps74;go_wp2_with fail;generalize hW3:(((w.alloc (.cells #[.slice A0_0 l0_0.length c0_0, .slice A0_1 l0_1.length c0_1, .int .i64 a0_2] 29)).alloc (.cells #[.slice A1_0 l1_0.length c1_0, .bool a1_1] 38)).alloc (.cells #[] 22)).alloc (.cells #[.slice (some ⟨w.heap.size+1+1,0,none⟩) 0 0] 47)=W3 at HB0 ⊢
  clear hW3;have HW3:=am' HB0.out.2.2.2.2;have HLT:=am' (blk_lt HB0.out.2.2.2.1)
  have HIN:=am' (show OutInv w.heap.size (w.heap.size+1+1+1) [] W3 (fun k=>k=w.heap.size+1+1+1∨some k=(Value.slice (some ⟨w.heap.size+1+1,0,none⟩) 0 0).ownBlock) from
   ⟨_,HB0.out.2.2.2.1,by omega,S_empty _ HB0.out.2.2.1 (by omega) (by omega),rfl⟩)
  have hno:∀ k,(k=w.heap.size+1+1+1∨some k=(Value.slice (some ⟨w.heap.size+1+1,0,none⟩) 0 0).ownBlock)→w.heap.size+1+1≤k:=by
   rintro k (rfl|q)
   ·
    omega
   ·
    have q:=os' (show some _=some _ from q);simp at q;omega
  have HNO:=am' hno;clear hno
  have HCF:=am' (show CrewFr w.heap.size A0_0 c0_0 l0_0 A0_1 c0_1 l0_1 a0_2 W3 (fun k=>k=w.heap.size+1+1+1∨some k=(Value.slice (some ⟨w.heap.size+1+1,0,none⟩) 0 0).ownBlock) from
   ⟨HB0.out.1,fun q=>by have:=HNO.out _ q;omega,Kd.F_mono (Kd.F_below HF0.out HW3.out) (fun k hk q=>by have:=HNO.out _ q;omega),Kd.F_mono (Kd.F_below HF1.out HW3.out) (fun k hk q=>by have:=HNO.out _ q;omega),hc0_0,hc0_1⟩)
  have x0:W3.cell? ⟨w.heap.size+1,0,none⟩=some (.slice A1_0 l1_0.length c1_0):=(bc' HB0.out.2.1 0).trans rfl;have x1:W3.cell? ⟨w.heap.size+1,1,none⟩=some (.bool a1_1):=(bc' HB0.out.2.1 1).trans rfl;have x2:W3.cell? ⟨w.heap.size,0,none⟩=some (.slice A0_0 l0_0.length c0_0):=(bc' HB0.out.1 0).trans rfl;have HR0:=am' (Below.refl W3.heap.size W3);clear HF0 HF1
  go_region_held3 (fun w'=>w'.cell? ⟨w.heap.size+1,0,none⟩=some (.slice A1_0 l1_0.length c1_0)∧w'.cell? ⟨w.heap.size+1,1,none⟩=some (.bool a1_1)∧w'.cell? ⟨w.heap.size,0,none⟩=some (.slice A0_0 l0_0.length c0_0))
   (first|exact ⟨z0,z1,z2⟩|exact ⟨y0,y1,y2⟩|go_keep)
   (first
    | ((go_at_call 101;refine (HD.out _ ?_).mono ?_;(repeat (first|(with_reducible exact HW3.out)|apply be'|apply bd'));rintro e w4 ⟨vs,rfl,ho,hb⟩;have HR4:=am' (bt' (by repeat (first|(with_reducible exact HR0.out)|apply be'|apply bd')) hb);have HO4:=am' ho;clear hb ho;have y0:=(HR4.out.cell (bl' W3 _ x0)).trans x0;have y1:=(HR4.out.cell (bl' W3 _ x1)).trans x1;have y2:=(HR4.out.cell (bl' W3 _ x2)).trans x2;obtain ⟨As,cs,es,hcs,_⟩:=Kd.R_reads HO4.out;subst es;have HCS:=am' hcs;clear hcs))
    | ((go_at_call 100;refine (groups_any (crew1_each k w.heap.size (w.heap.size+1+1+1) w.heap.size A0_0 c0_0 l0_0 A0_1 c0_1 l0_1 a0_2) (fun s W O h=>OutInv.lt s W O h.1) (enters_of Try.func102 xk' rfl) sd (l0_0.length:Int) As cs HCS.out (by have:=HLEN.out;omega) [] r _ _ ?gB (fun W hb=>⟨HIN.out.below (bt' HR4.out (by (first|exact hb|(simpa using hb)))),HCF.out.turn (Kept.of_below (bt' HR4.out (by (first|exact hb|(simpa using hb)))) _) (fun _ h => .inl h)⟩) ?gF HFO.out).mono ?_;(case gB=>exact Nat.le_trans HW3.out.size (by have:=HR4.out.size;first|exact this|simpa using this));(case gF=>exact Kd.F_mono (Kd.R_F (Kd.R_bound HO4.out)) (fun k hk q=>by have:=HLT.out;have:=hk.2.1;rcases q with q|q;(subst q;(simp at this;omega));(have q:=os' (show some _=some _ from q);simp at q this;omega)));rintro e w5 ⟨rfl,hb5,O5,⟨⟨v5,hv5,_,hS5,_⟩,_⟩,hk5,ho5⟩;have HV5:=am' hv5;have HS5:=am' hS5;have HB5:=am' hb5;have z0:=cell_kept y0 hk5 (fun q=>by have:=HNO.out _ q;(try simp at this);omega);have z1:=cell_kept y1 hk5 (fun q=>by have:=HNO.out _ q;(try simp at this);omega);have z2:=cell_kept y2 hk5 (fun q=>by have:=HNO.out _ q;(try simp at this);omega);clear hv5 hS5 hb5 hk5 ho5)))
  all_goals
   have hv5:w5.cell? ⟨w.heap.size+1+1+1,0,none⟩=some v5:=(bc' HV5.out 0).trans rfl;go_wp2;go_ret
   exact ⟨_,rfl,Kd.S_mono HS5.out (fun _ _=>trivial),(HW3.out.trans (HR4.out.mono (by have:=HW3.out.size;omega))).trans HB5.out⟩
 ·
  rw[if_neg hlen] at h;cases h
def impl_stateOf.l0:Nat→Int→Int→Int→List Bool→Bool→Option (List Bool × Bool)
 | 0,_,_,_,_,_=>none
 | k+1,x1,x17,x18,x388000,x388001=>if x18 < x17 then (if 0≤x18 then (if x18 < (x388000.length:Int) then (impl_stateOf.l0 k x1 x17 (wrap64 (x18+1)) (x388000.set (x18:Int).toNat ((Go.bits .and .i64 (shr .i64 x1 x18) 1) == 1)) x388001) else (none)) else (none)) else (some (x388000,x388001))
def impl_stateOf.f (k:Nat) (a0:Int) (a1:Int):Option (List Bool × Bool):=if 0≤a0 then (if (a0:Int).toNat≤281474976710656 then ((some (List.replicate (a0:Int).toNat false:List Bool)).bind fun y384=>(impl_stateOf.l0 k a1 (y384.length:Int) 0 y384 ((Go.bits .and .i64 (shr .i64 a1 a0) 1) == 1))) else (none)) else (none)
theorem impl_stateOf.mono_l:∀ k,(∀ y0 y1 y2 y3 y4,LeO (impl_stateOf.l0 k y0 y1 y2 y3 y4) (impl_stateOf.l0 (k+1) y0 y1 y2 y3 y4))
 | 0=>fun _ _ _ _ _ r h=>by simp[impl_stateOf.l0] at h
 | k+1=>by
  have ih0:=impl_stateOf.mono_l k
  ·
   intro y0 y1 y2 y3 y4;unfold impl_stateOf.l0
   repeat' first
   | (with_reducible exact ih0 _ _ _ _ _)
   | (with_reducible exact LeO.refl _)
   | (with_reducible exact LeO.none _)
   | (with_reducible refine LeO.ite ?_ ?_)
   | (with_reducible refine LeO.bind ?_ (fun _=>?_))
   | exact ih0 _ _ _ _ _
   | exact LeO.none _
   | refine LeO.ite ?_ ?_
   | refine LeO.bind ?_ (fun _=>?_)
theorem impl_stateOf.mono:∀ a0 a1 k,LeO (impl_stateOf.f k a0 a1) (impl_stateOf.f (k+1) a0 a1):=by
 intro a0 a1 k;have ih0:=impl_stateOf.mono_l k
 unfold impl_stateOf.f
 repeat' first
   | (with_reducible exact ih0 _ _ _ _ _)
   | (with_reducible exact LeO.refl _)
   | (with_reducible exact LeO.none _)
   | (with_reducible refine LeO.ite ?_ ?_)
   | (with_reducible refine LeO.bind ?_ (fun _=>?_))
   | exact ih0 _ _ _ _ _
   | exact LeO.none _
   | refine LeO.ite ?_ ?_
   | refine LeO.bind ?_ (fun _=>?_)
def impl_stateOf.T1:Bool × List (List Nat × List Nat):=(true,[([],[]),([0,0],[0]),([],[]),([],[]),([2,3],[2,3]),([4],[4]),([5],[5]),([1,6],[1,6]),([],[]),([8,7,0,1,2,3,4,5,6,7,8],[7,8])])
def impl_stateOf.B1:List Nat:=[0,1,0,0,12,28,60,127,0,511]
theorem impl_stateOf.tab1:rtab .any (opsOf Try.f109 1)=impl_stateOf.T1:=by kernel_rfl
theorem impl_stateOf.bits1:waitsOk impl_stateOf.T1.2 impl_stateOf.B1=true:=by kernel_rfl
def impl_stateOf.T5:Bool × List (List Nat × List Nat):=(true,[([],[]),([0],[0]),([],[]),([],[]),([],[]),([3,4],[3,4]),([5],[5]),([6],[6]),([1,2,0,1,2,3,4,5,6,7],[1,2]),([8,7,0,1,2,3,4,5,6,7],[7,8])])
def impl_stateOf.B5:List Nat:=[0,1,0,0,0,24,56,120,255,511]
theorem impl_stateOf.tab5:rtab .any (opsOf Try.f109 5)=impl_stateOf.T5:=by kernel_rfl
theorem impl_stateOf.bits5:waitsOk impl_stateOf.T5.2 impl_stateOf.B5=true:=by kernel_rfl
set_option maxHeartbeats 8000000 in
set_option maxRecDepth 100000 in
theorem impl_stateOf.calls (k:Nat) (a0:Int) (a1:Int) (r1:List Bool) (r2:Bool) (w:World) (h:impl_stateOf.f k a0 a1=some (r1,r2)) :
  Calls Try.prog 109 #[.int .i64 a0, .int .i64 a1] w fun e w'=>∃ v0_:Value,e = .returned (.agg #[v0_, .bool r2])∧Kd.R Kd.bool 4 w' w.heap.size (fun _=>True) v0_ r1∧Below w.heap.size w w':=by
 have hu38:=Try.underlying38
 have HB:=am' (Below.refl w.heap.size w)
 have H:(if 0≤a0 then (if (a0:Int).toNat≤281474976710656 then ((some (List.replicate (a0:Int).toNat false:List Bool)).bind fun y384=>(impl_stateOf.l0 k a1 (y384.length:Int) 0 y384 ((Go.bits .and .i64 (shr .i64 a1 a0) 1) == 1))) else (none)) else (none))=some (r1,r2):=h
 clear h;by_cases c3:0≤a0
 ·
  rw[if_pos c3] at H;have c3b0:=eq_true c3;have c3b1:decide (0≤a0)=true:=dt' c3;clear c3;by_cases c4:(a0:Int).toNat≤281474976710656
  ·
   rw[if_pos c4] at H;have c4b0:=eq_true c4;have c4b1:decide ((a0:Int).toNat≤281474976710656)=true:=dt' c4;clear c4;obtain ⟨y384,hy384⟩:∃ y_:List Bool,y_=(List.replicate (a0:Int).toNat false):=⟨_,rfl⟩
   replace H:(impl_stateOf.l0 k a1 (y384.length:Int) 0 y384 ((Go.bits .and .i64 (shr .i64 a1 a0) 1) == 1))=some (r1,r2):=by first|(rw[hy384];with_reducible exact H)|(have H2_:=(Option.bind_some _ _).symm.trans H;rw[hy384];with_reducible exact H2_)|(have H2_:=(Option.bind_some _ _).symm.trans H;with_reducible exact H2_)|with_reducible exact H|(rw[hy384];exact H)|exact H
   have Ny384:=am' hy384;clear hy384;have c5b0:=eq_true (od' xa':0≤a0);obtain ⟨ji6,hji6⟩:∃ j_:Int,(shr .i64 a1 a0)=j_:=⟨_,rfl⟩
   replace H:(impl_stateOf.l0 k a1 (y384.length:Int) 0 y384 ((Go.bits .and .i64 (ji6) 1) == 1))=some (r1,r2):=by first|(rw[hji6] at H;exact H)|(simp only[hji6] at H ⊢;exact H)
   have hji6_:(a1 / 2 ^ min a0.toNat 64)=ji6:=hji6;have hji6z:a0≤64→(a1 / 2 ^ a0.toNat)=ji6:=shr_small hji6;have H':=am' H;clear H;go_enter Try.func109,Try.ntmps109
   try go_wp2_with (first|((with_reducible refine gate_dst (N:=4) rfl ?_);refine box_event ?hg (N:=4) ?hd (cs:=#[.slice none 0 0, .bool false]) (t:=38) ?hr ?_;(case hd=>rfl);(case hg=>rfl);(case hr=>first|(go_simp;done)|(go_simp;rfl));intro gb383 hg w7 hbox hb;have n0_:=am' (bt' xb' hb);have n1_:=am' (hbox);have n2_:=am' ((by rw[hg];exact (bz' xb'):w.heap.size≤gb383));have n3_:=am' ((by rw[hg];exact (bz' xb'):w.heap.size≤gb383));clear HB;have HB:=n0_;have BK383:=n1_;have GW383:=n2_;have GE383:=n3_;clear n0_ n1_ n2_ n3_;clear hb hbox hg))
   have n0_:=am' (kd' BK383.out);have n1_:=am' (be' HB.out);clear BK383;clear HB;have BK383:=n0_;have HB:=n1_;clear n0_ n1_;refine start_ (n:=10) (S:=fun w'=>True) (ds:=[]) #[false,false,false,false,false,false,false,false,false,false] xk' rfl rfl trivial (fun hHeld=>?_);refine with_tabW impl_stateOf.tab1 impl_stateOf.bits1 (fun HT_ HW_=>?_);generalize w7.drew=w8 at BK383 HB hHeld ⊢
   refine pure_ (i:=0) (N:=some 7) (v:=?_) (a':=?_) #[true,false,false,false,false,false,false,false,false,false] rfl rfl (any_of HT_.out xk') (fun _ _ _ h=>h) (Or.inl ⟨by rfl,?_⟩) ?_ ?_
   rotate_left
   ·
    intro w';go_simp;with_reducible rfl
   rotate_left
   ·
    simp only[Act.put,sa',sb',sc',i64_w,i32_w];rfl
   refine pure_ (i:=2) (N:=some 9) (v:=?_) (a':=?_) #[true,false,true,false,false,false,false,false,false,false] rfl rfl (any_of HT_.out xk') (fun _ _ _ h=>h) (Or.inl ⟨by rfl,?_⟩) ?_ ?_
   rotate_left
   ·
    intro w';go_simp;with_reducible rfl
   rotate_left
   ·
    simp only[Act.put,sa',sb',sc',i64_w,i32_w];rfl
   refine pure_ (i:=3) (N:=some 10) (v:=?_) (a':=?_) #[true,false,true,true,false,false,false,false,false,false] rfl rfl (any_of HT_.out xk') (fun _ _ _ h=>h) (Or.inl ⟨by rfl,?_⟩) ?_ ?_
   rotate_left
   ·
    intro w';go_simp;with_reducible rfl
   rotate_left
   ·
    simp only[Act.put,sa',sb',sc',i64_w,i32_w];rfl
   refine pure_ (i:=4) (N:=some 11) (v:=?_) (a':=?_) #[true,false,true,true,true,false,false,false,false,false] rfl rfl (any_of HT_.out xk') (fun _ _ _ h=>h) (Or.inl ⟨by rfl,?_⟩) ?_ ?_
   rotate_left
   ·
    intro w';go_simp;with_reducible rfl
   rotate_left
   ·
    simp only[Act.put,sa',sb',sc',i64_w,i32_w];rfl
   refine pure_ (i:=5) (N:=some 12) (v:=?_) (a':=?_) #[true,false,true,true,true,true,false,false,false,false] rfl rfl (any_of HT_.out xk') (fun _ _ _ h=>h) (Or.inl ⟨by rfl,?_⟩) ?_ ?_
   rotate_left
   ·
    intro w';go_simp;with_reducible rfl
   rotate_left
   ·
    simp only[Act.put,sa',sb',sc',i64_w,i32_w];rfl
   refine pure_ (i:=6) (N:=some 13) (v:=?_) (a':=?_) #[true,false,true,true,true,true,true,false,false,false] rfl rfl (any_of HT_.out xk') (fun _ _ _ h=>h) (Or.inl ⟨by rfl,?_⟩) ?_ ?_
   rotate_left
   ·
    intro w';go_simp;with_reducible rfl
   rotate_left
   ·
    simp only[Act.put,sa',sb',sc',i64_w,i32_w];rfl
   refine join_ (σ:=Value × Nat) 1 #[true,true,true,true,true,true,true,true,true,false] (fun s_=>[(8,s_.1),(5, .pointer (some ⟨s_.2,0,none⟩)),(14, .agg #[s_.1, .bool ((Go.bits .and .i64 (ji6) 1) == 1)])]) (fun s_ w'=>(Kd.R Kd.bool 4 w' w.heap.size (fun _=>True) s_.1 y384)∧(w'.heap[gb383]? = some (.cells #[.slice none 0 0, .bool false] 38 (0,0)))∧(w'.heap[s_.2]? = some (.cells #[.slice none 0 0, .bool false] 38 (0,0)))∧(w.heap.size≤s_.2)∧(w.heap.size≤s_.2)∧(gb383≠s_.2)∧(s_.2≠gb383)∧(Below w.heap.size w w')) ?_ ?_
   rotate_left
   ·
    intro hCont;refine two_ (i:=1) (j:=8) (Ni:=some 8) (Nj:=some 5) #[true,true,true,true,true,true,true,false,false,false] #[true,false,true,true,true,true,true,false,true,false] rfl rfl rfl rfl (two_of HT_.out xk') (by decide) (by decide) (fun K hK=>?_) (fun K hK=>?_)
    ·
     skip
     refine Kd.R_make_step Kd.bool _ 4 (by rfl) (N:=8) rfl 23 _ _ rfl a0 rfl rfl Try.underlying23 (.bool false) 1 info4 rfl (by decide) (by omega) false (ok:=fun _=>True) (okp:=fun _=>True) rfl (fun _ hk=>hk) trivial (od' xa') (Nat.le_trans (Nat.mul_le_mul_right _ (od' xa':a0.toNat≤281474976710656)) (by omega)) (Below.refl _ _) (Nat.le_refl _) ?_
     intro v385 w9 ho10 hb hg_ hnew_;clear hg_ hnew_;(first|rw[← Ny384.out] at ho10|(simp only[Int.reduceToNat] at ho10;rw[← Ny384.out] at ho10))
     have n0_:=am' (Kd.R_lower ho10 (bz' (yb' GE383.out)));have n1_:=am' (bb' (g:=gb383) (o := .cells #[.slice none 0 0, .bool false] 38 (0,0)) (kk' BK383.out) hb);have n2_:=am' (bt' (yb' GE383.out) hb);clear BK383;clear HB;have HO386:=n0_;have BK383:=n1_;have HB:=n2_;clear n0_ n1_ n2_;clear hb ho10;obtain ⟨Ao11,co11,eo11⟩:=Kd.R_slice HO386.out
     (first|subst eo11|(injection eo11 with f1_ f2_ f3_;have f4_:=f1_.symm;have f5_:=f3_.symm;clear f1_ f2_ f3_;subst f4_;subst f5_))
     refine hK.out _ _ trivial (fun hHeld=>?_);clear hK K;refine norm_ (a':=?_) ?_ ?_
     rotate_left
     ·
      show Act.put _ (some 8) _=_
      simp only[Act.put,sa',sb',sc',i64_w,i32_w];rfl
     refine pure_ (i:=7) (N:=some 14) (v:=?_) (a':=?_) #[true,true,true,true,true,true,true,true,false,false] rfl rfl (any_of HT_.out xk') (fun _ _ _ h=>h) (Or.inl ⟨by rfl,?_⟩) ?_ ?_
     rotate_left
     ·
      intro w';go_simp;with_reducible rfl
     rotate_left
     ·
      simp only[Act.put,sa',sb',sc',i64_w,i32_w];rfl
     refine one_ (i:=8) (N:=some 5) #[true,true,true,true,true,true,true,true,true,false] rfl rfl (one_of HT_.out xk') (by decide) (fun K hK=>?_);refine box_step ?hg (N:=5) ?hd (cs:=#[.slice none 0 0, .bool false]) (t:=38) ?hr ?_;(case hd=>rfl);(case hg=>rfl);(case hr=>first|(go_simp;done)|(go_simp;rfl))
     intro gb387 hg w12 hbox hb;have n0_:=am' (rb' (kr' HO386.out) hb);have n1_:=am' (bb' (g:=gb383) (o := .cells #[.slice none 0 0, .bool false] 38 (0,0)) (kk' BK383.out) hb);have n2_:=am' (bt' (yb' GE383.out) hb);have n3_:=am' (hbox);have n4_:=am' ((by rw[hg];exact (bz' (yb' GE383.out)):w.heap.size≤gb387));have n5_:=am' ((by rw[hg];exact (bz' (yb' GE383.out)):w.heap.size≤gb387));have n6_:=am' ((by rw[hg];exact Nat.ne_of_lt (blk_lt (g:=gb383) (o := .cells #[.slice none 0 0, .bool false] 38 (0,0)) (kk' BK383.out)):gb383≠gb387));have n7_:=am' ((by rw[hg];exact Nat.ne_of_gt (blk_lt (g:=gb383) (o := .cells #[.slice none 0 0, .bool false] 38 (0,0)) (kk' BK383.out)):gb387≠gb383));clear HO386;clear BK383;clear HB;have HO386:=n0_;have BK383:=n1_;have HB:=n2_;have BK387:=n3_;have GW387:=n4_;have GE387:=n5_;have NB383_387:=n6_;have NB387_383:=n7_;clear n0_ n1_ n2_ n3_ n4_ n5_ n6_ n7_;clear hb hbox hg;refine hK.out _ _ trivial (fun hHeld=>?_);clear hK K;refine norm_ (a':=?_) ?_ ?_
     rotate_left
     ·
      show Act.put _ (some 5) _=_
      simp only[Act.put,sa',sb',sc',i64_w,i32_w];rfl
     exact norm_ (by simp only[putAll,Act.put,sa',sb',sc']) (hCont (.slice Ao11 y384.length co11,gb387) _ ⟨(kr' HO386.out),(kk' BK383.out),(kk' BK387.out),GW387.out,GE387.out,NB383_387.out,NB387_383.out,(y2' GE383.out GE387.out)⟩)
    ·
     skip
     refine box_step ?hg (N:=5) ?hd (cs:=#[.slice none 0 0, .bool false]) (t:=38) ?hr ?_;(case hd=>rfl);(case hg=>rfl);(case hr=>first|(go_simp;done)|(go_simp;rfl))
     intro gb387 hg w9 hbox hb;have n0_:=am' (bb' (g:=gb383) (o := .cells #[.slice none 0 0, .bool false] 38 (0,0)) (kk' BK383.out) hb);have n1_:=am' (bt' (yb' GE383.out) hb);have n2_:=am' (hbox);have n3_:=am' ((by rw[hg];exact (bz' (yb' GE383.out)):w.heap.size≤gb387));have n4_:=am' ((by rw[hg];exact (bz' (yb' GE383.out)):w.heap.size≤gb387));have n5_:=am' ((by rw[hg];exact Nat.ne_of_lt (blk_lt (g:=gb383) (o := .cells #[.slice none 0 0, .bool false] 38 (0,0)) (kk' BK383.out)):gb383≠gb387));have n6_:=am' ((by rw[hg];exact Nat.ne_of_gt (blk_lt (g:=gb383) (o := .cells #[.slice none 0 0, .bool false] 38 (0,0)) (kk' BK383.out)):gb387≠gb383));clear BK383;clear HB;have BK383:=n0_;have HB:=n1_;have BK387:=n2_;have GW387:=n3_;have GE387:=n4_;have NB383_387:=n5_;have NB387_383:=n6_;clear n0_ n1_ n2_ n3_ n4_ n5_ n6_;clear hb hbox hg;refine hK.out _ _ trivial (fun hHeld=>?_);clear hK K;refine norm_ (a':=?_) ?_ ?_
     rotate_left
     ·
      show Act.put _ (some 5) _=_
      simp only[Act.put,sa',sb',sc',i64_w,i32_w];rfl
     refine one_ (i:=1) (N:=some 8) #[true,true,true,true,true,true,true,false,true,false] rfl rfl (one_of HT_.out xk') (by decide) (fun K hK=>?_);refine Kd.R_make_step Kd.bool _ 4 (by rfl) (N:=8) rfl 23 _ _ rfl a0 rfl rfl Try.underlying23 (.bool false) 1 info4 rfl (by decide) (by omega) false (ok:=fun _=>True) (okp:=fun _=>True) rfl (fun _ hk=>hk) trivial (od' xa') (Nat.le_trans (Nat.mul_le_mul_right _ (od' xa':a0.toNat≤281474976710656)) (by omega)) (Below.refl _ _) (Nat.le_refl _) ?_
     intro v385 w10 ho11 hb hg_ hnew_;clear hg_ hnew_;(first|rw[← Ny384.out] at ho11|(simp only[Int.reduceToNat] at ho11;rw[← Ny384.out] at ho11))
     have n0_:=am' (Kd.R_lower ho11 (bz' (y2' GE383.out GE387.out)));have n1_:=am' (bb' (g:=gb383) (o := .cells #[.slice none 0 0, .bool false] 38 (0,0)) (kk' BK383.out) hb);have n2_:=am' (bb' (g:=gb387) (o := .cells #[.slice none 0 0, .bool false] 38 (0,0)) (kk' BK387.out) hb);have n3_:=am' (bt' (y2' GE383.out GE387.out) hb);clear BK383;clear BK387;clear HB;have HO386:=n0_;have BK383:=n1_;have BK387:=n2_;have HB:=n3_;clear n0_ n1_ n2_ n3_;clear hb ho11;obtain ⟨Ao12,co12,eo12⟩:=Kd.R_slice HO386.out
     (first|subst eo12|(injection eo12 with f1_ f2_ f3_;have f4_:=f1_.symm;have f5_:=f3_.symm;clear f1_ f2_ f3_;subst f4_;subst f5_))
     refine hK.out _ _ trivial (fun hHeld=>?_);clear hK K;refine norm_ (a':=?_) ?_ ?_
     rotate_left
     ·
      show Act.put _ (some 8) _=_
      simp only[Act.put,sa',sb',sc',i64_w,i32_w];rfl
     refine pure_ (i:=7) (N:=some 14) (v:=?_) (a':=?_) #[true,true,true,true,true,true,true,true,true,false] rfl rfl (any_of HT_.out xk') (fun _ _ _ h=>h) (Or.inl ⟨by rfl,?_⟩) ?_ ?_
     rotate_left
     ·
      intro w';go_simp;with_reducible rfl
     rotate_left
     ·
      simp only[Act.put,sa',sb',sc',i64_w,i32_w];rfl
     exact norm_ (by simp only[putAll,Act.put,sa',sb',sc']) (hCont (.slice Ao12 y384.length co12,gb387) _ ⟨(kr' HO386.out),(kk' BK383.out),(kk' BK387.out),GW387.out,GE387.out,NB383_387.out,NB387_383.out,(y2' GE383.out GE387.out)⟩)
   rintro ⟨v385,gb387⟩ w13 ⟨h0_,h1_,h2_,h3_,h4_,h5_,h6_,h7_⟩
   have n0_:Aside0 (Kd.R Kd.bool 4 w13 w.heap.size (fun _=>True) v385 y384):=⟨h0_⟩
   have n1_:Aside0 (w13.heap[gb383]? = some (.cells #[.slice none 0 0, .bool false] 38 (0,0))):=⟨h1_⟩
   have n2_:Aside0 (w13.heap[gb387]? = some (.cells #[.slice none 0 0, .bool false] 38 (0,0))):=⟨h2_⟩
   have n3_:Aside0 (w.heap.size≤gb387):=⟨h3_⟩
   have n4_:Aside0 (w.heap.size≤gb387):=⟨h4_⟩
   have n5_:Aside0 (gb383≠gb387):=⟨h5_⟩
   have n6_:Aside0 (gb387≠gb383):=⟨h6_⟩
   have n7_:Aside0 (Below w.heap.size w w13):=⟨h7_⟩
   clear BK383;clear HB;clear h0_ h1_ h2_ h3_ h4_ h5_ h6_ h7_;have HO386:=n0_;have BK383:=n1_;have BK387:=n2_;have GW387:=n3_;have GE387:=n4_;have NB383_387:=n5_;have NB387_383:=n6_;have HB:=n7_;clear n0_ n1_ n2_ n3_ n4_ n5_ n6_ n7_;have hHeld:=trivial;obtain ⟨Ao14,co14,eo14⟩:=Kd.R_slice HO386.out
   (first|subst eo14|(injection eo14 with f1_ f2_ f3_;have f4_:=f1_.symm;have f5_:=f3_.symm;clear f1_ f2_ f3_;subst f4_;subst f5_))
   refine norm_ (a':=?_) ?_ ?_
   rotate_left
   ·
    simp only[putAll,Act.put,sa',sb',sc'];rfl
   refine one_ (i:=9) (N:=none) #[true,true,true,true,true,true,true,true,true,true] rfl rfl (one_of HT_.out xk') (by decide) (fun K hK=>?_);have hs15:w13.cell? ⟨gb387,0,none⟩=some (.slice none 0 0):=(bc' BK387.out 0).trans rfl;have hfs15:=bf' BK387.out 0;have hns15_0:=NB383_387.out;have hms15_0:=NB387_383.out;have hs16:w13.cell? ⟨gb387,1,none⟩=some (.bool false):=(bc' BK387.out 1).trans rfl;have hfs16:=bf' BK387.out 1;have hns16_0:=NB383_387.out;have hms16_0:=NB387_383.out;refine skip_ (w1:=?_) (by rfl) rfl ?_ ?_
   rotate_left
   ·
    go_simp;rfl
   refine hK.out _ _ trivial (fun hHeld=>?_);clear hK K;refine done_ (done_of HT_.out xk') ?_
   have hnb17:=NB387_383.out;have hnc17:=NB383_387.out;have hcz18_0:w13.cell? ⟨gb387,0,none⟩=some (.slice none 0 0):=(bc' BK387.out 0).trans rfl;have hcz18_1:w13.cell? ⟨gb387,1,none⟩=some (.bool false):=(bc' BK387.out 1).trans rfl;have hfz18_0:=bf' BK387.out 0;have hfz18_1:=bf' BK387.out 1
   try go_wp2
   go_loopg [18] k (fun kq v18 w'=>∃ (x18_1:Int) (x388000_1:List Bool) (u388000:Value),v18 = .int .i64 x18_1∧Aside0 (impl_stateOf.l0 kq a1 (y384.length:Int) x18_1 x388000_1 ((Go.bits .and .i64 (ji6) 1) == 1)=some (r1,r2))∧Aside0 (kq≤k)∧Aside0 (Kd.R Kd.bool 4 w' w.heap.size (fun _=>True) u388000 x388000_1)∧Aside0 (w'.heap[gb383]? = some (.cells #[(.slice none 0 0), .bool false] 38 (0,0)))∧Aside0 (w'.heap[gb387]? = some (.cells #[u388000, .bool ((Go.bits .and .i64 (ji6) 1) == 1)] 38 (0,0)))∧Aside0 (Below w.heap.size w w'))
   case atStart=>exact ⟨(0),(y384),(.slice Ao14 y384.length co14),xs',H',⟨Nat.le_refl _⟩,⟨by (with_reducible repeat (first|apply ra'|apply rn'|apply rw'));exact Kd.R_mono (Kd.R_far (p:=⟨gb387,1,none⟩) (Kd.R_far (p:=⟨gb387,0,none⟩) (Kd.R_types HO386.out BK387.out (by decide)) (fun _ hk=>hk.2) (.slice Ao14 y384.length co14)) (fun _ hk=>hk.2) (.bool ((Go.bits .and .i64 (ji6) 1) == 1))) (fun _ hk=>trivial)⟩,⟨by (with_reducible repeat (first|refine kn' ?_ _|refine kd' ?_|refine ka' ?_ _));refine blk_far ?_ NB383_387.out _;(with_reducible repeat (first|refine kn' ?_ _|refine kd' ?_|refine ka' ?_ _));refine blk_far ?_ NB383_387.out _;(with_reducible repeat (first|refine kn' ?_ _|refine kd' ?_|refine ka' ?_ _));exact BK383.out⟩,⟨by (with_reducible repeat (first|refine kn' ?_ _|refine kd' ?_|refine ka' ?_ _));refine blk_put (cs:=#[.slice Ao14 y384.length co14, .bool false]) ?_ 1 _ rfl;(with_reducible repeat (first|refine kn' ?_ _|refine kd' ?_|refine ka' ?_ _));refine blk_put (cs:=#[.slice none 0 0, .bool false]) ?_ 0 _ rfl;(with_reducible repeat (first|refine kn' ?_ _|refine kd' ?_|refine ka' ?_ _));exact BK387.out⟩,⟨y2' GE383.out GE387.out⟩⟩
   case round =>
    clear H';try clear c1
    try clear p2
    try clear c3
    try clear c3b0
    try clear c3b1
    try clear c4
    try clear c4b0
    try clear c4b1
    try clear c5
    try clear c5b0
    try clear c10
    try clear c17
    try clear hcz18_0
    try clear hcz18_1
    try clear hfz18_0
    try clear hfz18_1
    obtain ⟨x18_1,x388000_1,u388000,rfl,HA,HK1,HO_388000,BK383,BK387,HB⟩:=hrel;cases gk with
    | zero=>exact absurd HA.out (by simp[impl_stateOf.l0])
    | succ k1 =>
     have H:=HA.out;clear HA;simp only[impl_stateOf.l0] at H;by_cases c19:x18_1 < (y384.length:Int)
     ·
      rw[if_pos c19] at H;have c19b0:decide (x18_1 < (y384.length:Int))=true:=dt' c19;clear c19;by_cases c20:0≤x18_1
      ·
       rw[if_pos c20] at H;have c20b0:=eq_true c20;have c20b1:decide (0≤x18_1)=true:=dt' c20;clear c20;obtain ⟨ji21,hji21⟩:∃ j_:Int,(shr .i64 a1 x18_1)=j_:=⟨_,rfl⟩
       replace H:(if x18_1 < (x388000_1.length:Int) then (impl_stateOf.l0 k1 a1 (y384.length:Int) (wrap64 (x18_1+1)) (x388000_1.set (x18_1:Int).toNat ((Go.bits .and .i64 (ji21) 1) == 1)) ((Go.bits .and .i64 (ji6) 1) == 1)) else (none))=some (r1,r2):=by first|(rw[hji21] at H;exact H)|(simp only[hji21] at H ⊢;exact H)
       have hji21_:(a1 / 2 ^ min x18_1.toNat 64)=ji21:=hji21;have hji21z:x18_1≤64→(a1 / 2 ^ x18_1.toNat)=ji21:=shr_small hji21;by_cases c22:x18_1 < (x388000_1.length:Int)
       ·
        rw[if_pos c22] at H;have c22b0:decide (x18_1 < (x388000_1.length:Int))=true:=dt' c22;clear c22;obtain ⟨y388,hy388⟩:∃ y_:List Bool,y_=(x388000_1.set (x18_1:Int).toNat ((Go.bits .and .i64 (ji21) 1) == 1)):=⟨_,rfl⟩
        replace H:(impl_stateOf.l0 k1 a1 (y384.length:Int) (wrap64 (x18_1+1)) y388 ((Go.bits .and .i64 (ji6) 1) == 1))=some (r1,r2):=by first|(rw[hy388];with_reducible exact H)|(have H2_:=(Option.bind_some _ _).symm.trans H;rw[hy388];with_reducible exact H2_)|(have H2_:=(Option.bind_some _ _).symm.trans H;with_reducible exact H2_)|with_reducible exact H|(rw[hy388];exact H)|exact H
        have Ny388:=am' hy388;clear hy388;have H':=am' H;clear H;try go_wp2
        have n0_:=am' (rw' HO_388000.out);have n1_:=am' (kd' BK383.out);have n2_:=am' (kd' BK387.out);have n3_:=am' (be' HB.out);clear HO_388000;clear BK383;clear BK387;clear HB;have HO_388000:=n0_;have BK383:=n1_;have BK387:=n2_;have HB:=n3_;clear n0_ n1_ n2_ n3_;have p23:0≤(x18_1:Int):=od' xa';have q23:(x18_1:Int) < ((x388000_1.length:Int):Int):=od' xa';obtain ⟨go23,co23,eo23,gb23,gl23,cl23,HG23⟩:=Kd.R_form HO_388000.out (by omega)
        (first|cases eo23|(injection eo23 with ea_ en_ ec_;(first|subst ea_|(injection ea_ with ea_;subst ea_));subst ec_;clear en_))
        have GB23:=am' gb23;have GG23:=am' HG23;clear gb23 gl23 HG23;obtain ⟨hx23_0,hf23_0⟩:=Kd.R_celln false HO_388000.out (x18_1:Int) p23 q23;replace p23:=eq_true p23;replace q23:=eq_true q23;have HP25:=Kd.R_putn HO_388000.out (x18_1:Int) ((Go.bits .and .i64 (ji21) 1) == 1);rw[← Ny388.out] at HP25;have HQ25:=am' HP25;clear HP25;refine start_ (n:=10) (S:=fun w'=>w'.cell? ⟨gb387,0,none⟩=some (.slice (some ⟨go23,0,none⟩) x388000_1.length co23)∧w'.cell? ⟨gb387,1,none⟩=some (.bool ((Go.bits .and .i64 (ji6) 1) == 1))) (ds:=[9]) #[false,false,false,false,false,false,false,false,false,false] xk' rfl rfl ⟨(bc' BK387.out 0).trans rfl,(bc' BK387.out 1).trans rfl⟩ (fun hHeld=>?_);refine with_tabW impl_stateOf.tab5 impl_stateOf.bits5 (fun HT_ HW_=>?_);generalize wr.drew=w24 at HO_388000 BK383 BK387 HB GG23 HQ25 hf23_0 hx23_0 hHeld ⊢
        refine pure_ (i:=0) (N:=some 21) (v:=?_) (a':=?_) #[true,false,false,false,false,false,false,false,false,false] rfl rfl (any_of HT_.out xk') (fun _ _ _ h=>h) (Or.inl ⟨by rfl,?_⟩) ?_ ?_
        rotate_left
        ·
         intro w';go_simp;with_reducible rfl
        rotate_left
        ·
         simp only[Act.put,sa',sb',sc',i64_w,i32_w];rfl
        refine pure_ (i:=2) (N:=some 23) (v:=?_) (a':=?_) #[true,false,true,false,false,false,false,false,false,false] rfl rfl (any_of HT_.out xk') (fun _ _ _ h=>h) (Or.inl ⟨by rfl,?_⟩) ?_ ?_
        rotate_left
        ·
         intro w';go_simp;with_reducible rfl
        rotate_left
        ·
         simp only[Act.put,sa',sb',sc',i64_w,i32_w];rfl
        refine pure_ (i:=3) (N:=some 24) (v:=?_) (a':=?_) #[true,false,true,true,false,false,false,false,false,false] rfl rfl (any_of HT_.out xk') (fun _ _ _ h=>h) (Or.inl ⟨by rfl,?_⟩) ?_ ?_
        rotate_left
        ·
         intro w';go_simp;with_reducible rfl
        rotate_left
        ·
         simp only[Act.put,sa',sb',sc',i64_w,i32_w];rfl
        refine pure_ (i:=4) (N:=some 25) (v:=?_) (a':=?_) #[true,false,true,true,true,false,false,false,false,false] rfl rfl (any_of HT_.out xk') (fun _ _ _ h=>h) (Or.inl ⟨by rfl,?_⟩) ?_ ?_
        rotate_left
        ·
         intro w';go_simp;with_reducible rfl
        rotate_left
        ·
         simp only[Act.put,sa',sb',sc',i64_w,i32_w];rfl
        refine pure_ (i:=5) (N:=some 26) (v:=?_) (a':=?_) #[true,false,true,true,true,true,false,false,false,false] rfl rfl (any_of HT_.out xk') (fun _ _ _ h=>h) (Or.inl ⟨by rfl,?_⟩) ?_ ?_
        rotate_left
        ·
         intro w';go_simp;with_reducible rfl
        rotate_left
        ·
         simp only[Act.put,sa',sb',sc',i64_w,i32_w];rfl
        refine pure_ (i:=6) (N:=some 27) (v:=?_) (a':=?_) #[true,false,true,true,true,true,true,false,false,false] rfl rfl (any_of HT_.out xk') (fun _ _ _ h=>h) (Or.inl ⟨by rfl,?_⟩) ?_ ?_
        rotate_left
        ·
         intro w';go_simp;with_reducible rfl
        rotate_left
        ·
         simp only[Act.put,sa',sb',sc',i64_w,i32_w];rfl
        refine pure_ (i:=7) (N:=some 28) (v:=?_) (a':=?_) #[true,false,true,true,true,true,true,true,false,false] rfl rfl (any_of HT_.out xk') (fun _ _ _ h=>h) (Or.inl ⟨by rfl,?_⟩) ?_ ?_
        rotate_left
        ·
         intro w';go_simp;with_reducible rfl
        rotate_left
        ·
         simp only[Act.put,sa',sb',sc',i64_w,i32_w];rfl
        refine take_ (i:=1) (N:=some 22) (v:=?_) (a':=?_) #[true,true,true,true,true,true,true,true,false,false] rfl rfl (take_ofW HT_.out HW_.out xk') (fun _ _ _ h=>h) (Or.inl ⟨by rfl,?_⟩) hHeld ?_ ?_
        rotate_left
        ·
         rintro w' ⟨s0,s1⟩
         go_simp;with_reducible rfl
        rotate_left
        ·
         simp only[Act.put,sa',sb',sc',i64_w,i32_w];rfl
        refine pure_ (i:=8) (N:=some 29) (v:=?_) (a':=?_) #[true,true,true,true,true,true,true,true,true,false] rfl rfl (any_of HT_.out xk') (fun _ _ _ h=>h) (Or.inl ⟨by rfl,?_⟩) ?_ ?_
        rotate_left
        ·
         intro w';go_simp;with_reducible rfl
        rotate_left
        ·
         simp only[Act.put,sa',sb',sc',i64_w,i32_w];rfl
        refine last_ (i:=9) (N:=none) #[true,true,true,true,true,true,true,true,true,true] rfl rfl (one_of HT_.out xk') (by decide) (fun K hK=>?_);refine skip_ (w1:=?_) (by rfl) rfl ?_ ?_
        rotate_left
        ·
         go_simp;rfl
        refine hK.out _ _ ?_
        clear hK K;refine done_ (done_of HT_.out xk') ?_
        try go_wp2
        go_roundg k1
        case measure=>have:=HK1.out;omega
        case rel=>exact ⟨(wrap64 (x18_1+1)),(y388),(.slice (some ⟨go23,0,none⟩) x388000_1.length co23),xs',H',⟨by have:=HK1.out;omega⟩,⟨kr' HQ25.out⟩,⟨by (with_reducible repeat (first|refine kn' ?_ _|refine kd' ?_|refine ka' ?_ _));refine blk_far ?_ (by have h_:=Kd.R_ne HO_388000.out BK383.out (by decide);intro e_;exact h_ (by rw[e_];rfl)) _;(with_reducible repeat (first|refine kn' ?_ _|refine kd' ?_|refine ka' ?_ _));exact BK383.out⟩,⟨by (with_reducible repeat (first|refine kn' ?_ _|refine kd' ?_|refine ka' ?_ _));refine blk_far ?_ (by have h_:=Kd.R_ne HO_388000.out BK387.out (by decide);intro e_;exact h_ (by rw[e_];rfl)) _;(with_reducible repeat (first|refine kn' ?_ _|refine kd' ?_|refine ka' ?_ _));exact BK387.out⟩,⟨y3' GB23.out GE383.out GE387.out⟩⟩
       ·
        rw[if_neg c22] at H;exact absurd H (by simp)
      ·
       rw[if_neg c20] at H;exact absurd H (by simp)
     ·
      rw[if_neg c19] at H;have c19b0:decide (x18_1 < (y384.length:Int))=false:=df' c19;clear c19;simp only[Option.some.injEq,Prod.mk.injEq] at H;obtain ⟨rfl,rfl⟩:=H;have hnb26:=NB387_383.out;have hnc26:=NB383_387.out;have hcz27_0:wr.cell? ⟨gb387,0,none⟩=some (u388000):=(bc' BK387.out 0).trans rfl;have hcz27_1:wr.cell? ⟨gb387,1,none⟩=some (.bool ((Go.bits .and .i64 (ji6) 1) == 1)):=(bc' BK387.out 1).trans rfl;have hfz27_0:=bf' BK387.out 0;have hfz27_1:=bf' BK387.out 1;obtain ⟨Ao28,co28,eo28⟩:=Kd.R_slice HO_388000.out;subst eo28;have hcz29_0:wr.cell? ⟨gb383,0,none⟩=some (.slice none 0 0):=(bc' BK383.out 0).trans rfl;have hcz29_1:wr.cell? ⟨gb383,1,none⟩=some (.bool false):=(bc' BK383.out 1).trans rfl;have hfz29_0:=bf' BK383.out 0;have hfz29_1:=bf' BK383.out 1;go_wp2;refine bodyPost_ret (results_cell_row rfl _ _ gb383 38 #[.slice Ao28 x388000_1.length co28, .bool ((Go.bits .and .i64 (ji6) 1) == 1)] (0,0) _ rfl (by (with_reducible repeat (first|refine kn' ?_ _|refine kd' ?_|refine ka' ?_ _));refine blk_put (cs:=#[.slice Ao28 x388000_1.length co28, .bool false]) ?_ 1 _ rfl;(with_reducible repeat (first|refine kn' ?_ _|refine kd' ?_|refine ka' ?_ _));refine blk_put (cs:=#[.slice none 0 0, .bool false]) ?_ 0 _ rfl;(with_reducible repeat (first|refine kn' ?_ _|refine kd' ?_|refine ka' ?_ _));exact BK383.out) Try.underlying38 rfl xk') rfl ?_
      exact ⟨_,by first|rfl|(simp[errW_none,errW_some] <;> rfl)|(simp only[← hji6];first|rfl|(simp[errW_none,errW_some] <;> rfl))|(simp[*,errW_none,errW_some] <;> rfl),by (with_reducible repeat (first|apply ra'|apply rn'|apply rw'));exact Kd.R_mono (Kd.R_far (p:=⟨gb383,1,none⟩) (Kd.R_far (p:=⟨gb383,0,none⟩) (Kd.R_types HO_388000.out BK383.out (by decide)) (fun _ hk=>hk.2) (.slice Ao28 x388000_1.length co28)) (fun _ hk=>hk.2) (.bool ((Go.bits .and .i64 (ji6) 1) == 1))) (fun _ hk=>trivial),y2' GE383.out GE387.out⟩
  ·
   rw[if_neg c4] at H;exact absurd H (by simp)
 ·
  rw[if_neg c3] at H;exact absurd H (by simp)
def bits_Mul64.f (a0:Int) (a1:Int):Option (Int × Int):=some (IntKind.u64.wrap ((IntKind.u64.wrap ((IntKind.u64.wrap ((a0 / 4294967296) * (a1 / 4294967296)))+((IntKind.u64.wrap ((IntKind.u64.wrap ((a0 / 4294967296) * (Go.bits .and .u64 a1 4294967295)))+((IntKind.u64.wrap ((Go.bits .and .u64 a0 4294967295) * (Go.bits .and .u64 a1 4294967295))) / 4294967296))) / 4294967296)))+((IntKind.u64.wrap ((Go.bits .and .u64 (IntKind.u64.wrap ((IntKind.u64.wrap ((a0 / 4294967296) * (Go.bits .and .u64 a1 4294967295)))+((IntKind.u64.wrap ((Go.bits .and .u64 a0 4294967295) * (Go.bits .and .u64 a1 4294967295))) / 4294967296))) 4294967295)+(IntKind.u64.wrap ((Go.bits .and .u64 a0 4294967295) * (a1 / 4294967296))))) / 4294967296)),IntKind.u64.wrap (a0 * a1))
set_option maxHeartbeats 8000000 in
set_option maxRecDepth 100000 in
theorem bits_Mul64.calls (a0:Int) (a1:Int) (r1:Int) (r2:Int) (w:World) (h:bits_Mul64.f a0 a1=some (r1,r2)) :
  Calls Try.prog 124 #[.int .u64 a0, .int .u64 a1] w fun e w'=>e = .returned (.tuple #[.int .u64 r1, .int .u64 r2])∧Drawn0 w w':=by
 have H:(some (IntKind.u64.wrap ((IntKind.u64.wrap ((IntKind.u64.wrap ((a0 / 4294967296) * (a1 / 4294967296)))+((IntKind.u64.wrap ((IntKind.u64.wrap ((a0 / 4294967296) * (Go.bits .and .u64 a1 4294967295)))+((IntKind.u64.wrap ((Go.bits .and .u64 a0 4294967295) * (Go.bits .and .u64 a1 4294967295))) / 4294967296))) / 4294967296)))+((IntKind.u64.wrap ((Go.bits .and .u64 (IntKind.u64.wrap ((IntKind.u64.wrap ((a0 / 4294967296) * (Go.bits .and .u64 a1 4294967295)))+((IntKind.u64.wrap ((Go.bits .and .u64 a0 4294967295) * (Go.bits .and .u64 a1 4294967295))) / 4294967296))) 4294967295)+(IntKind.u64.wrap ((Go.bits .and .u64 a0 4294967295) * (a1 / 4294967296))))) / 4294967296)),IntKind.u64.wrap (a0 * a1)))=some (r1,r2):=h
 clear h;simp only[Option.some.injEq,Prod.mk.injEq] at H
 obtain ⟨rfl,rfl⟩:=H
 go_enter Try.func124,Try.ntmps124
 go_wp2
 go_ret2
 exact ⟨xs',by repeat (first|exact Drawn0.refl _|apply Drawn0.step)⟩
end Go.Proofs.Ytikjdmiohpdnaaa.C20
