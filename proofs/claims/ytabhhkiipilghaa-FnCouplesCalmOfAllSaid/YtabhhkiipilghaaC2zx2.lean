import Derived.Test.YtabhhkiipilghaaC2zx0
import Derived.Test.YtabhhkiipilghaaC2zx1
import Derived.Test.YtabhhkiipilghaaC2zAl
namespace Go.Proofs.Ytabhhkiipilghaa.C2
open Go.RowKit Go.Proofs.YtabhhkiipilghaaW.PrintWords Go.Proofs.YtabhhkiipilghaaW.PrintLast Go.Proofs.YtabhhkiipilghaaW.PrintMore Go.Proofs.Ytabhhkiipilghaa.H
attribute [local go_sem] max2_int min2_int max_two min_two max_three min_three max_four min_four
set_option linter.unusedVariables false
set_option linter.unusedSimpArgs false
def evB (y:Int):Bool:=Int.tmod y 2 == 0
def calmL (k:Nat) (g:List Int):List Int→Option Bool
 | []=>some true
 | x :: r=>if evB x=true then calmL k g r else (slices_Contains_int_int.f g (wrap64 (x - 1))).bind fun t=>if t=true then calmL k g r else if g.any evB=true then some false else calmL k g r
theorem calmL_up (k:Nat) (g:List Int):∀ l,LeO (calmL k g l) (calmL (k+1) g l):=by
 intro l;induction l with
 | nil=>exact LeO.refl _
 | cons x r ih =>
  simp only[calmL];exact LeO.ite ih (LeO.bind (LeO.refl _) (fun _=>LeO.ite ih (LeO.ite (LeO.refl _) ih)))
def impl_calm.f (k:Nat) (l0:List Int):Option Bool:=calmL k l0 l0
theorem impl_calm.mono:∀ a0 k,LeO (impl_calm.f k a0) (impl_calm.f (k+1) a0):=fun a0 k=>calmL_up k a0 a0
theorem drop_rd (l:List Int) (i:Nat) (h:i < l.length):l.drop i=rd l (i:Nat) :: l.drop (i+1):=by
 rw[List.drop_eq_getElem_cons h]
 simp[rd,List.getD_eq_getElem?_getD,List.getElem?_eq_getElem h]
set_option maxHeartbeats 2000000 in
set_option maxRecDepth 100000 in
theorem calm1_calls (x:Int) (w:World):Calls Try.prog 78 #[.int .i64 x] w fun e w'=>e = .returned (.bool (evB x))∧Below w.heap.size w w':=by
 go_enter Try.func78,Try.ntmps78
 go_wp2
 go_ret
 exact ⟨rfl,Below.refl _ _⟩
set_option maxHeartbeats 2000000 in
set_option maxRecDepth 100000 in
theorem impl_calm.calls (k:Nat) (A0:Option Addr) (c0:Nat) (l0:List Int) (r:Bool) (w:World) (hr0:Kd.C (Kd.int .i64) w A0 l0.length l0) (hc0:l0.length≤c0) (h:impl_calm.f k l0=some r) :
  Calls Try.prog 53 #[.slice A0 l0.length c0] w fun e w'=>e = .returned (.bool r)∧Below w.heap.size w w':=by
 have HR:=am' hr0
 have HC:=am' hc0
 have HH:=am' (show calmL k l0 (l0.drop 0)=some r from h)
 have HCO:=am' (fun (W:World) (hb:Below w.heap.size w W) (x:Int) (t:Bool) (ht:slices_Contains_int_int.f l0 x=some t)=>slices_Contains_int_int.calls A0 c0 l0 x t W (cb' hr0 hb) hc0 ht)
 have HCF:=am' (fun (W:World) (hb:Below w.heap.size w W)=>ContainsFunc_any 78 #[] evB (enters_of Try.func78 xk' rfl) A0 c0 l0 W (cb' hr0 hb) hc0 hr0.2.1 (fun x _ W1 _=>calm1_calls x W1))
 clear hr0 hc0 h;go_enter Try.func53,Try.ntmps53
 go_wp2
 go_loopg [4,7] l0.length (fun gg _ v7 wr=>∃ i:Nat,v7 = .int .i64 (i:Int)∧i≤l0.length∧l0.length - i≤gg∧Aside0 (calmL k l0 (l0.drop i)=some r)∧Aside0 (Below w.heap.size w wr))
 case atStart=>exact ⟨0,rfl,Nat.zero_le _,Nat.le_refl _,HH,⟨Below.refl _ _⟩⟩
 case round =>
  obtain ⟨i,rfl,hi1,hg1,HI,HW⟩:=hrel;clear HH;have hbig:=HR.out.2.1;have HBIG:=am' hbig;by_cases hi:i < l0.length
  ·
   have hiz:(i:Int) < (l0.length:Int):=by omega
   obtain ⟨ad,e0,hx0⟩:=Kd.at_int HR.out (i:Int) (by omega) hiz;cases e0;have hx:=(HW.out.cell (bl' w _ hx0)).trans hx0;rw[Int.toNat_natCast] at hx;clear hx0;have hq:=HI.out;rw[drop_rd l0 i hi] at hq;simp only[calmL] at hq;generalize rd l0 (i:Nat)=xv at hx hq
   have hev:(Int.tmod xv 2 == 0)=evB xv:=rfl;cases hb:evB xv with
   | true =>
    rw[hb] at hev;simp only[hb,if_true] at hq;have HQ:=am' hq;clear hq HI hb;go_wp2;go_roundg (l0.length - (i+1))
    case measure=>omega
    case rel=>exact ⟨i+1,by have hb_:=HBIG.out;first|rfl|exact nxt (by omega)|exact nxt2 (by omega),by omega,Nat.le_refl _,HQ,HW⟩
   | false =>
    rw[hb] at hev;simp only[hb,Bool.false_eq_true,if_false] at hq;obtain ⟨t,ht,hq⟩:=Option.bind_eq_some_iff.mp hq;have HT:=am' ht;cases t with
    | true =>
     simp only[if_true] at hq;have HQ:=am' hq;clear hq HI hb ht;go_wp2_with fail;refine (HCO.out _ HW.out _ _ HT.out).mono ?_
     rintro e w2 ⟨rfl,hb2⟩
     have HW2:=am' (bt' HW.out (by first|exact hb2|exact Drawn0.below hb2));clear hb2;go_wp2;go_roundg (l0.length - (i+1))
     case measure=>omega
     case rel=>exact ⟨i+1,by have hb_:=HBIG.out;first|rfl|exact nxt (by omega)|exact nxt2 (by omega),by omega,Nat.le_refl _,HQ,HW2⟩
    | false =>
     simp only[Bool.false_eq_true,if_false] at hq;clear HI hb ht;cases hany:l0.any evB with
     | true =>
      rw[hany,if_pos rfl] at hq;obtain rfl:=os' hq;have HCF2:=am' (show ∀ (W:World),Below w.heap.size w W→Calls Try.prog _ _ W _ from HCF.out);rw[hany] at HCF2;clear hq;go_wp2_with fail;refine (HCO.out _ HW.out _ _ HT.out).mono ?_
      rintro e w2 ⟨rfl,hb2⟩
      have HW2:=am' (bt' HW.out (by first|exact hb2|exact Drawn0.below hb2));clear hb2;go_wp2_with fail;refine (HCF2.out _ HW2.out).mono ?_
      rintro e w3 ⟨rfl,hb3⟩
      have HW3:=am' (bt' HW2.out hb3);clear hb3;go_wp2;go_ret
      exact ⟨rfl,HW3.out⟩
     | false =>
      rw[hany,if_neg (by decide)] at hq;have HQ:=am' hq;have HCF2:=am' (show ∀ (W:World),Below w.heap.size w W→Calls Try.prog _ _ W _ from HCF.out);rw[hany] at HCF2;clear hq;go_wp2_with fail;refine (HCO.out _ HW.out _ _ HT.out).mono ?_
      rintro e w2 ⟨rfl,hb2⟩
      have HW2:=am' (bt' HW.out (by first|exact hb2|exact Drawn0.below hb2));clear hb2;go_wp2_with fail;refine (HCF2.out _ HW2.out).mono ?_
      rintro e w3 ⟨rfl,hb3⟩
      have HW3:=am' (bt' HW2.out hb3);clear hb3;go_wp2;go_roundg (l0.length - (i+1))
      case measure=>omega
      case rel=>exact ⟨i+1,by have hb_:=HBIG.out;first|rfl|exact nxt (by omega)|exact nxt2 (by omega),by omega,Nat.le_refl _,HQ,HW3⟩
  ·
   have hiz:¬ (i:Int) < (l0.length:Int):=by omega
   have hq:=HI.out;rw[List.drop_eq_nil_of_le (by omega),calmL] at hq;obtain rfl:=os' hq;clear hq HI;go_wp2;go_ret
   exact ⟨rfl,HW.out⟩
def impl_State_side.l0:Nat→Bool→List Int→List Bool→Int→Int→Option (List Int)
 | 0,_,_,_,_,_=>none
 | k+1,x1,x5,x10,x11,x12=>if x12 < x11 then (if 0≤x12 then (if x12 < (x10.length:Int) then (if ((rdOf false x10 x12) == x1)=true then (if x5.length < 17592186044416 then (impl_State_side.l0 k x1 (x5 ++ [x12]) x10 x11 (wrap64 (x12+1))) else (none)) else (impl_State_side.l0 k x1 x5 x10 x11 (wrap64 (x12+1)))) else (none)) else (none)) else (some x5)
def impl_State_side.f (k:Nat) (l0_0:List Bool) (a0_1:Bool) (a1:Bool):Option (List Int):=impl_State_side.l0 k a1 (([]:List Int)) l0_0 (l0_0.length:Int) 0
theorem impl_State_side.mono_l:∀ k,(∀ y0 y1 y2 y3 y4,LeO (impl_State_side.l0 k y0 y1 y2 y3 y4) (impl_State_side.l0 (k+1) y0 y1 y2 y3 y4))
 | 0=>fun _ _ _ _ _ r h=>by simp[impl_State_side.l0] at h
 | k+1=>by
  have ih0:=impl_State_side.mono_l k
  ·
   intro y0 y1 y2 y3 y4;unfold impl_State_side.l0
   repeat' first
   | (with_reducible exact ih0 _ _ _ _ _)
   | (with_reducible exact LeO.refl _)
   | (with_reducible exact LeO.none _)
   | (with_reducible refine LeO.ite ?_ ?_)
   | (with_reducible refine LeO.bind ?_ (fun _=>?_))
   | exact ih0 _ _ _ _ _
   | exact LeO.none _
   | refine LeO.ite ?_ ?_
   | refine LeO.bind ?_ (fun _=>?_)
theorem impl_State_side.mono:∀ a0 a1 a2 k,LeO (impl_State_side.f k a0 a1 a2) (impl_State_side.f (k+1) a0 a1 a2):=by
 intro a0 a1 a2 k;have ih0:=impl_State_side.mono_l k
 unfold impl_State_side.f
 repeat' first
   | (with_reducible exact ih0 _ _ _ _ _)
   | (with_reducible exact LeO.refl _)
   | (with_reducible exact LeO.none _)
   | (with_reducible refine LeO.ite ?_ ?_)
   | (with_reducible refine LeO.bind ?_ (fun _=>?_))
   | exact ih0 _ _ _ _ _
   | exact LeO.none _
   | refine LeO.ite ?_ ?_
   | refine LeO.bind ?_ (fun _=>?_)
set_option maxHeartbeats 8000000 in
set_option maxRecDepth 100000 in
theorem impl_State_side.calls (k:Nat) (A0_0:Option Addr) (c0_0:Nat) (l0_0:List Bool) (a0_1:Bool) (a1:Bool) (r:List Int) (w:World) (hr0_0:Kd.C Kd.bool w A0_0 l0_0.length l0_0) (hc0_0:l0_0.length≤c0_0) (h:impl_State_side.f k l0_0 a0_1 a1=some r) :
  Calls Try.prog 65 #[.agg #[.slice A0_0 l0_0.length c0_0, .bool a0_1], .bool a1] w fun e w'=>∃ v0_:Value,e = .returned (v0_)∧Kd.R (Kd.int .i64) 3 w' w.heap.size (fun _=>True) v0_ r∧Below w.heap.size w w':=by
 have hu35:=Try.underlying35
 have HR0_0:=am' hr0_0
 have HC0_0:=am' hc0_0
 clear hr0_0 hc0_0;have HB:=am' (Below.refl w.heap.size w)
 have H:(impl_State_side.l0 k a1 (([]:List Int)) l0_0 (l0_0.length:Int) 0)=some r:=h
 clear h;obtain ⟨y118,hy118⟩:∃ y_:List Int,y_=(([]:List Int)):=⟨_,rfl⟩
 replace H:(impl_State_side.l0 k a1 y118 l0_0 (l0_0.length:Int) 0)=some r:=by first|(rw[hy118];with_reducible exact H)|(have H2_:=(Option.bind_some _ _).symm.trans H;rw[hy118];with_reducible exact H2_)|(have H2_:=(Option.bind_some _ _).symm.trans H;with_reducible exact H2_)|with_reducible exact H|(rw[hy118];exact H)|exact H
 have Ny118:=am' hy118
 clear hy118;have H':=am' H
 clear H;go_enter Try.func65,Try.ntmps65
 go_wp2_with (first|((with_reducible refine gate_dst (N:=2) rfl ?_);refine box_event ?hg (N:=2) ?hd (cs:=#[.slice A0_0 l0_0.length c0_0, .bool a0_1]) (t:=35) ?hr ?_;(case hd=>rfl);(case hg=>rfl);(case hr=>first|(go_simp;done)|(go_simp;rfl));intro gb117 hg w3 hbox hb;have n0_:=am' (bt' xb' hb);have n1_:=am' (hbox);have n2_:=am' ((by rw[hg];exact (bz' xb'):w.heap.size≤gb117));have n3_:=am' ((by rw[hg];exact (bz' xb'):w.heap.size≤gb117));clear HB;have HB:=n0_;have BK117:=n1_;have GW117:=n2_;have GE117:=n3_;clear n0_ n1_ n2_ n3_;clear hb hbox hg)|((with_reducible refine gate_dst (N:=8) rfl ?_);refine Kd.R_lit (Kd.int .i64) _ 3 ?hg (N:=8) ?hd (xs:=([]:List Int)) (inner:=[]) (ok:=fun _=>True) (okp:=fun _=>True) ?hr ?hp (fun _ hk=>hk) trivial (Below.refl _ _) (Nat.le_refl _) (by simp) ?_;(case hd=>rfl);(case hg=>rfl);(case hr=>first|(go_simp;done)|(go_simp;rfl));(case hp=>exact (Reps.none _ _));intro v119 w4 ho5 hb hg_ hnew_;clear hg_ hnew_;(first|rw[← Ny118.out] at ho5|(simp only[Int.reduceToNat] at ho5;rw[← Ny118.out] at ho5));have n0_:=am' (Kd.R_lower ho5 (bz' (yb' GE117.out)));have n1_:=am' (bb' (g:=gb117) (o := .cells #[.slice A0_0 l0_0.length c0_0, .bool a0_1] 35 (0,0)) (kk' BK117.out) hb);have n2_:=am' (bt' (yb' GE117.out) hb);clear BK117;clear HB;have HO120:=n0_;have BK117:=n1_;have HB:=n2_;clear n0_ n1_ n2_;clear hb ho5;have hcz6_0:w4.cell? ⟨gb117,0,none⟩=some (.slice A0_0 l0_0.length c0_0):=(bc' BK117.out 0).trans rfl;have hcz6_1:w4.cell? ⟨gb117,1,none⟩=some (.bool a0_1):=(bc' BK117.out 1).trans rfl;have hfz6_0:=bf' BK117.out 0;have hfz6_1:=bf' BK117.out 1))
 go_loopg [5,12] k (fun kq v5 v12 w'=>∃ (x5_1:List Int) (x12_1:Int),v12 = .int .i64 x12_1∧Aside0 (impl_State_side.l0 kq a1 x5_1 l0_0 (l0_0.length:Int) x12_1=some r)∧Aside0 (kq≤k)∧Aside0 (Kd.R (Kd.int .i64) 3 w' w.heap.size (fun _=>True) v5 x5_1)∧Aside0 (w'.heap[gb117]? = some (.cells #[(.slice A0_0 l0_0.length c0_0), .bool a0_1] 35 (0,0)))∧Aside0 (Below w.heap.size w w'))
 case atStart=>exact ⟨(y118),(0),xs',H',⟨Nat.le_refl _⟩,⟨kr' HO120.out⟩,⟨kk' BK117.out⟩,⟨yb' GE117.out⟩⟩
 case round =>
  clear H';try clear p2
  try clear c6
  try clear hcz6_0
  try clear hcz6_1
  try clear hfz6_0
  try clear hfz6_1
  obtain ⟨x5_1,x12_1,rfl,HA,HK1,HO_5,BK117,HB⟩:=hrel;cases gk with
  | zero=>exact absurd HA.out (by simp[impl_State_side.l0])
  | succ k1 =>
   have H:=HA.out;clear HA;simp only[impl_State_side.l0] at H;by_cases c7:x12_1 < (l0_0.length:Int)
   ·
    rw[if_pos c7] at H;have c7b0:decide (x12_1 < (l0_0.length:Int))=true:=dt' c7;clear c7;by_cases c8:0≤x12_1
    ·
     rw[if_pos c8] at H;have c8b0:decide (0≤x12_1)=true:=dt' c8;clear c8;by_cases c9:x12_1 < (l0_0.length:Int)
     ·
      rw[if_pos c9] at H;have c9b0:decide (x12_1 < (l0_0.length:Int))=true:=dt' c9;clear c9;by_cases c10:((rdOf false l0_0 x12_1) == a1)=true
      ·
       rw[if_pos c10] at H;have c10b0:((rdOf false l0_0 x12_1) == a1)=true:=c10
       (try (have c10b1:decide ((rdOf false l0_0 x12_1)=a1)=true:=by simpa using c10))
       (try (have c10b2:((rdOf false l0_0 x12_1) == a1)=true:=by simpa using c10))
       clear c10;by_cases c11:x5_1.length < 17592186044416
       ·
        rw[if_pos c11] at H;have LMc11:=am' c11;clear c11;obtain ⟨y122,hy122⟩:∃ y_:List Int,y_=(x5_1 ++ [x12_1]):=⟨_,rfl⟩
        replace H:(impl_State_side.l0 k1 a1 y122 l0_0 (l0_0.length:Int) (wrap64 (x12_1+1)))=some r:=by first|(rw[hy122];with_reducible exact H)|(have H2_:=(Option.bind_some _ _).symm.trans H;rw[hy122];with_reducible exact H2_)|(have H2_:=(Option.bind_some _ _).symm.trans H;with_reducible exact H2_)|with_reducible exact H|(rw[hy122];exact H)|exact H
        have Ny122:=am' hy122;clear hy122;have H':=am' H;clear H;have p121:0≤(x12_1:Int):=od' xa';have q121:x12_1 < (l0_0.length:Int):=od' xa';obtain ⟨ad121,e121,hx121_0⟩:=Kd.at_bool HR0_0.out x12_1 p121 q121;cases e121;replace hx121_0:=(HB.out.cell (bl' w _ hx121_0)).trans hx121_0;replace p121:=eq_true p121;replace q121:=eq_true q121;go_wp2_with (first|((with_reducible refine gate_builtin (b := .append) (xs:=#[.tmp 20, .tmp 22]) rfl ?_);at_builtin;refine Kd.R_append (Kd.int .i64) (w0:=w) w.heap.size rfl (.tmp 20) (.tmp 22) 28 3 (.int .i64 0) 8 rfl Try.underlying28 info3 rfl (by decide) (by omega) u5 x5_1 x12_1 [.int .i64 x12_1] (fun _=>True) (fun _=>False) rfl rfl ?aP (fun _ hk=>hk.elim) ?aF ?aO ?aB ?aS ?aL ?_;(case aP=>exact rfl);(case aB=>exact (yb' GE117.out));(case aF=>exact (fun _ _=>trivial));(case aO=>exact (kr' HO_5.out));(case aS=>exact (bz' (yb' GE117.out)));(case aL=>have:=LMc11.out;omega);intro v123 w12 ho hb hg hat;rw[← Ny122.out] at ho;have n0_:=am' (blk_grown (g:=gb117) (o := .cells #[.slice (some ad121) l0_0.length c0_0, .bool a0_1] 35 (0,0)) (kk' BK117.out) hg (Kd.R_ne HO_5.out BK117.out (by decide)));have n1_:=am' (hb);have n2_:=am' (ho);clear BK117;clear HB;clear HO_5;have BK117:=n0_;have HB:=n1_;have HO124:=n2_;clear n0_ n1_ n2_;clear ho hb hg hat));go_roundg k1
        case measure=>have:=HK1.out;omega
        case rel=>exact ⟨(y122),(wrap64 (x12_1+1)),xs',H',⟨by have:=HK1.out;omega⟩,⟨kr' HO124.out⟩,⟨kk' BK117.out⟩,⟨yb' GE117.out⟩⟩
       ·
        rw[if_neg c11] at H;exact absurd H (by simp)
      ·
       rw[if_neg c10] at H;have c10b0:((rdOf false l0_0 x12_1) == a1)=false:=by simpa using c10
       (try (have c10b1:decide ((rdOf false l0_0 x12_1)=a1)=false:=by simpa using c10))
       (try (have c10b2:((rdOf false l0_0 x12_1) == a1)=false:=by simpa using c10))
       (try (have c10b3:¬ ((rdOf false l0_0 x12_1)=a1):=by simpa using c10))
       clear c10;have H':=am' H;clear H;have p121:0≤(x12_1:Int):=od' xa';have q121:x12_1 < (l0_0.length:Int):=od' xa';obtain ⟨ad121,e121,hx121_0⟩:=Kd.at_bool HR0_0.out x12_1 p121 q121;cases e121;replace hx121_0:=(HB.out.cell (bl' w _ hx121_0)).trans hx121_0;replace p121:=eq_true p121;replace q121:=eq_true q121;go_wp2;go_roundg k1
       case measure=>have:=HK1.out;omega
       case rel=>exact ⟨(x5_1),(wrap64 (x12_1+1)),xs',H',⟨by have:=HK1.out;omega⟩,⟨kr' HO_5.out⟩,⟨kk' BK117.out⟩,⟨yb' GE117.out⟩⟩
     ·
      rw[if_neg c9] at H;exact absurd H (by simp)
    ·
     rw[if_neg c8] at H;exact absurd H (by simp)
   ·
    rw[if_neg c7] at H;have c7b0:decide (x12_1 < (l0_0.length:Int))=false:=df' c7;clear c7;obtain rfl:=os' H;go_wp2;go_ret
    exact ⟨_,by first|rfl|(simp[errW_none,errW_some] <;> rfl)|(simp[*,errW_none,errW_some] <;> rfl),kr' HO_5.out,yb' GE117.out⟩
def impl_State_isCalm.f (k:Nat) (l0_0:List Bool) (a0_1:Bool):Option (Bool):=(impl_State_side.f k l0_0 a0_1 true).bind fun t126=>((impl_calm.f k t126).bind fun t129=>(if t129=true then ((impl_State_side.f k l0_0 a0_1 false).bind fun t130=>((impl_calm.f k t130).bind fun t133=>(some t133))) else (some false)))
theorem impl_State_isCalm.mono:∀ a0 a1 k,LeO (impl_State_isCalm.f k a0 a1) (impl_State_isCalm.f (k+1) a0 a1):=by
 intro a0 a1 k;unfold impl_State_isCalm.f
 repeat' first
   | (with_reducible exact impl_State_side.mono _ _ _ _)
   | (with_reducible exact impl_calm.mono _ _)
   | (with_reducible exact LeO.refl _)
   | (with_reducible exact LeO.none _)
   | (with_reducible refine LeO.ite ?_ ?_)
   | (with_reducible refine LeO.bind ?_ (fun _=>?_))
   | exact impl_State_side.mono _ _ _ _
   | exact impl_calm.mono _ _
   | exact LeO.none _
   | refine LeO.ite ?_ ?_
   | refine LeO.bind ?_ (fun _=>?_)
set_option maxHeartbeats 8000000 in
set_option maxRecDepth 100000 in
theorem impl_State_isCalm.calls (k:Nat) (A0_0:Option Addr) (c0_0:Nat) (l0_0:List Bool) (a0_1:Bool) (r:Bool) (w:World) (hr0_0:Kd.C Kd.bool w A0_0 l0_0.length l0_0) (hc0_0:l0_0.length≤c0_0) (h:impl_State_isCalm.f k l0_0 a0_1=some r) :
  Calls Try.prog 40 #[.agg #[.slice A0_0 l0_0.length c0_0, .bool a0_1]] w fun e w'=>e = .returned (.bool r)∧Below w.heap.size w w':=by
 have hu35:=Try.underlying35
 have HR0_0:=am' hr0_0
 have HC0_0:=am' hc0_0
 clear hr0_0 hc0_0;have HB:=am' (Below.refl w.heap.size w)
 have H:((impl_State_side.f k l0_0 a0_1 true).bind fun t126=>((impl_calm.f k t126).bind fun t129=>(if t129=true then ((impl_State_side.f k l0_0 a0_1 false).bind fun t130=>((impl_calm.f k t130).bind fun t133=>(some t133))) else (some false))))=some r:=h
 clear h;replace H:=Option.bind_eq_some_iff.mp H
 obtain ⟨t126,A20,H⟩:=H
 replace H:((impl_calm.f k t126).bind fun t129=>(if t129=true then ((impl_State_side.f k l0_0 a0_1 false).bind fun t130=>((impl_calm.f k t130).bind fun t133=>(some t133))) else (some false)))=some r:=H
 have A2:=am' A20
 clear A20;replace H:=Option.bind_eq_some_iff.mp H
 obtain ⟨t129,A30,H⟩:=H
 replace H:(if t129=true then ((impl_State_side.f k l0_0 a0_1 false).bind fun t130=>((impl_calm.f k t130).bind fun t133=>(some t133))) else (some false))=some r:=H
 have A3:=am' A30
 clear A30;by_cases c4:t129=true
 ·
  subst c4;have H1:((impl_State_side.f k l0_0 a0_1 false).bind fun t130=>((impl_calm.f k t130).bind fun t133=>(some t133)))=some r:=by rw[if_pos rfl] at H;exact H
  clear H;have H:=H1;clear H1;replace H:=Option.bind_eq_some_iff.mp H;obtain ⟨t130,A50,H⟩:=H;replace H:((impl_calm.f k t130).bind fun t133=>(some t133))=some r:=H;have A5:=am' A50;clear A50;replace H:=Option.bind_eq_some_iff.mp H;obtain ⟨t133,A60,H⟩:=H;replace H:(some t133)=some r:=H;have A6:=am' A60;clear A60;obtain rfl:=os' H;go_enter Try.func40,Try.ntmps40;go_wp2_with (first|((with_reducible refine gate_dst (N:=1) rfl ?_);refine box_event ?hg (N:=1) ?hd (cs:=#[.slice A0_0 l0_0.length c0_0, .bool a0_1]) (t:=35) ?hr ?_;(case hd=>rfl);(case hg=>rfl);(case hr=>first|(go_simp;done)|(go_simp;rfl));intro gb125 hg w7 hbox hb;have n0_:=am' (bt' xb' hb);have n1_:=am' (hbox);have n2_:=am' ((by rw[hg];exact (bz' xb'):w.heap.size≤gb125));have n3_:=am' ((by rw[hg];exact (bz' xb'):w.heap.size≤gb125));clear HB;have HB:=n0_;have BK125:=n1_;have GW125:=n2_;have GE125:=n3_;clear n0_ n1_ n2_ n3_;clear hb hbox hg;have hcz8_0:w7.cell? ⟨gb125,0,none⟩=some (.slice A0_0 l0_0.length c0_0):=(bc' BK125.out 0).trans rfl;have hcz8_1:w7.cell? ⟨gb125,1,none⟩=some (.bool a0_1):=(bc' BK125.out 1).trans rfl;have hfz8_0:=bf' BK125.out 0;have hfz8_1:=bf' BK125.out 1)|((with_reducible refine gate_callee (f:=65) rfl ?_);refine goesL_ (some 4) rfl rfl Try.func65 xk' rfl #[.agg #[.slice A0_0 l0_0.length c0_0, .bool a0_1], .bool true] rfl xl' ?_;(with_reducible refine (impl_State_side.calls k _ _ l0_0 a0_1 true t126 _ ?side1 ?side2 A2.out).mono ?_);(case side1=>exact kc' (cb' HR0_0.out HB.out));(case side2=>exact HC0_0.out);rintro e w9 ⟨v127,rfl,ho0,hb⟩;refine ⟨_,rfl,?_⟩;have n0_:=am' (Kd.R_lower ho0 (bz' (yb' GE125.out)));have n1_:=am' (bb' (g:=gb125) (o := .cells #[.slice A0_0 l0_0.length c0_0, .bool a0_1] 35 (0,0)) (kk' BK125.out) hb);have n2_:=am' (bt' (yb' GE125.out) hb);clear BK125;clear HB;have HO128:=n0_;have BK125:=n1_;have HB:=n2_;clear n0_ n1_ n2_;(try clear hb);(try clear hb2);(try clear hk);(try clear hi);(try clear ho0);obtain ⟨Ao10,co10,eo10⟩:=Kd.R_slice HO128.out;subst eo10)|((with_reducible refine gate_callee (f:=53) rfl ?_);refine goesL_ (some 5) rfl rfl Try.func53 xk' rfl #[.slice Ao10 t126.length co10] rfl xl' ?_;(with_reducible refine (impl_calm.calls k _ _ t126 true _ ?side1 ?side2 A3.out).mono ?_);(case side1=>exact kc' ((Kd.R_reads' HO128.out).2.2));(case side2=>exact (Kd.R_reads' HO128.out).2.1);rintro e w11 ⟨rfl,hb⟩;refine ⟨_,rfl,?_⟩;have n0_:=am' (rb' (kr' HO128.out) hb);have n1_:=am' (bb' (g:=gb125) (o := .cells #[.slice A0_0 l0_0.length c0_0, .bool a0_1] 35 (0,0)) (kk' BK125.out) hb);have n2_:=am' (bt' (yb' GE125.out) hb);clear HO128;clear BK125;clear HB;have HO128:=n0_;have BK125:=n1_;have HB:=n2_;clear n0_ n1_ n2_;(try clear hb);(try clear hb2);(try clear hk);(try clear hi);have hcz12_0:w11.cell? ⟨gb125,0,none⟩=some (.slice A0_0 l0_0.length c0_0):=(bc' BK125.out 0).trans rfl;have hcz12_1:w11.cell? ⟨gb125,1,none⟩=some (.bool a0_1):=(bc' BK125.out 1).trans rfl;have hfz12_0:=bf' BK125.out 0;have hfz12_1:=bf' BK125.out 1)|(go_at_call 65;(with_reducible refine (impl_State_side.calls k _ _ l0_0 a0_1 false t130 _ ?side1 ?side2 A5.out).mono ?_);(case side1=>exact kc' (cb' HR0_0.out HB.out));(case side2=>exact HC0_0.out);rintro e w13 ⟨v131,rfl,ho0,hb⟩;have n0_:=am' (Kd.R_elder' (kr' HO128.out) (Kd.R_base ho0) hb);have n1_:=am' (Kd.R_lower (Kd.R_new' ho0 (Kd.R_lt (kr' HO128.out))) (bz' (yb' GE125.out)));have n2_:=am' (bb' (g:=gb125) (o := .cells #[.slice A0_0 l0_0.length c0_0, .bool a0_1] 35 (0,0)) (kk' BK125.out) hb);have n3_:=am' (bt' (yb' GE125.out) hb);clear HO128;clear BK125;clear HB;have HO128:=n0_;have HO132:=n1_;have BK125:=n2_;have HB:=n3_;clear n0_ n1_ n2_ n3_;(try clear hb);(try clear hb2);(try clear hk);(try clear hi);(try clear ho0);obtain ⟨Ao14,co14,eo14⟩:=Kd.R_slice HO132.out;subst eo14)|(go_at_call 53;(with_reducible refine (impl_calm.calls k _ _ t130 t133 _ ?side1 ?side2 A6.out).mono ?_);(case side1=>exact kc' ((Kd.R_reads' HO132.out).2.2));(case side2=>exact (Kd.R_reads' HO132.out).2.1);rintro e w15 ⟨rfl,hb⟩;have n0_:=am' (rb' (kr' HO128.out) hb);have n1_:=am' (rb' (kr' HO132.out) hb);have n2_:=am' (bb' (g:=gb125) (o := .cells #[.slice A0_0 l0_0.length c0_0, .bool a0_1] 35 (0,0)) (kk' BK125.out) hb);have n3_:=am' (bt' (yb' GE125.out) hb);clear HO128;clear HO132;clear BK125;clear HB;have HO128:=n0_;have HO132:=n1_;have BK125:=n2_;have HB:=n3_;clear n0_ n1_ n2_ n3_;(try clear hb);(try clear hb2);(try clear hk);(try clear hi)))
  go_ret
  exact ⟨by first|rfl|(simp[errW_none,errW_some] <;> rfl)|(simp[*,errW_none,errW_some] <;> rfl),yb' GE125.out⟩
 ·
  replace c4:=Bool.eq_false_iff.mpr c4;subst c4;have H1:(some false)=some r:=by rw[if_neg (show ¬ (false=true) by decide)] at H;exact H
  clear H;have H:=H1;clear H1;obtain rfl:=os' H;go_enter Try.func40,Try.ntmps40;go_wp2_with (first|((with_reducible refine gate_dst (N:=1) rfl ?_);refine box_event ?hg (N:=1) ?hd (cs:=#[.slice A0_0 l0_0.length c0_0, .bool a0_1]) (t:=35) ?hr ?_;(case hd=>rfl);(case hg=>rfl);(case hr=>first|(go_simp;done)|(go_simp;rfl));intro gb125 hg w16 hbox hb;have n0_:=am' (bt' xb' hb);have n1_:=am' (hbox);have n2_:=am' ((by rw[hg];exact (bz' xb'):w.heap.size≤gb125));have n3_:=am' ((by rw[hg];exact (bz' xb'):w.heap.size≤gb125));clear HB;have HB:=n0_;have BK125:=n1_;have GW125:=n2_;have GE125:=n3_;clear n0_ n1_ n2_ n3_;clear hb hbox hg;have hcz17_0:w16.cell? ⟨gb125,0,none⟩=some (.slice A0_0 l0_0.length c0_0):=(bc' BK125.out 0).trans rfl;have hcz17_1:w16.cell? ⟨gb125,1,none⟩=some (.bool a0_1):=(bc' BK125.out 1).trans rfl;have hfz17_0:=bf' BK125.out 0;have hfz17_1:=bf' BK125.out 1)|((with_reducible refine gate_callee (f:=65) rfl ?_);refine goesL_ (some 4) rfl rfl Try.func65 xk' rfl #[.agg #[.slice A0_0 l0_0.length c0_0, .bool a0_1], .bool true] rfl xl' ?_;(with_reducible refine (impl_State_side.calls k _ _ l0_0 a0_1 true t126 _ ?side1 ?side2 A2.out).mono ?_);(case side1=>exact kc' (cb' HR0_0.out HB.out));(case side2=>exact HC0_0.out);rintro e w18 ⟨v127,rfl,ho0,hb⟩;refine ⟨_,rfl,?_⟩;have n0_:=am' (Kd.R_lower ho0 (bz' (yb' GE125.out)));have n1_:=am' (bb' (g:=gb125) (o := .cells #[.slice A0_0 l0_0.length c0_0, .bool a0_1] 35 (0,0)) (kk' BK125.out) hb);have n2_:=am' (bt' (yb' GE125.out) hb);clear BK125;clear HB;have HO128:=n0_;have BK125:=n1_;have HB:=n2_;clear n0_ n1_ n2_;(try clear hb);(try clear hb2);(try clear hk);(try clear hi);(try clear ho0);obtain ⟨Ao19,co19,eo19⟩:=Kd.R_slice HO128.out;subst eo19)|((with_reducible refine gate_callee (f:=53) rfl ?_);refine goesL_ (some 5) rfl rfl Try.func53 xk' rfl #[.slice Ao19 t126.length co19] rfl xl' ?_;(with_reducible refine (impl_calm.calls k _ _ t126 false _ ?side1 ?side2 A3.out).mono ?_);(case side1=>exact kc' ((Kd.R_reads' HO128.out).2.2));(case side2=>exact (Kd.R_reads' HO128.out).2.1);rintro e w20 ⟨rfl,hb⟩;refine ⟨_,rfl,?_⟩;have n0_:=am' (rb' (kr' HO128.out) hb);have n1_:=am' (bb' (g:=gb125) (o := .cells #[.slice A0_0 l0_0.length c0_0, .bool a0_1] 35 (0,0)) (kk' BK125.out) hb);have n2_:=am' (bt' (yb' GE125.out) hb);clear HO128;clear BK125;clear HB;have HO128:=n0_;have BK125:=n1_;have HB:=n2_;clear n0_ n1_ n2_;(try clear hb);(try clear hb2);(try clear hk);(try clear hi)))
  go_ret
  exact ⟨by first|rfl|(simp[errW_none,errW_some] <;> rfl)|(simp[*,errW_none,errW_some] <;> rfl),yb' GE125.out⟩
def slices_Clone_int_int.f (l0:List Int):Option (List Int):=if l0.length < 17592186044416 then some l0 else none
set_option maxHeartbeats 2000000 in
set_option maxRecDepth 100000 in
theorem slices_Clone_int_int.calls (A0:Option Addr) (c0:Nat) (l0:List Int) (r:List Int) (w:World) (hr0:Kd.C (Kd.int .i64) w A0 l0.length l0) (hc0:l0.length≤c0) (h:slices_Clone_int_int.f l0=some r) :
  Calls Try.prog 85 #[.slice A0 l0.length c0] w fun e w'=>∃ v0_:Value,e = .returned (v0_)∧Kd.R (Kd.int .i64) 3 w' w.heap.size (fun _=>True) v0_ r∧Below w.heap.size w w':=by
 have hinfo:(Try.prog.info? 3).map (fun i=>(i.zero,i.size,i.bytes))=some (some (.int .i64 0),1,8):=by kernel_rfl
 obtain ⟨hlim,rfl⟩:l0.length < 17592186044416∧l0=r:=by
  unfold slices_Clone_int_int.f at h
  by_cases hl:l0.length < 17592186044416
  ·
   rw[if_pos hl] at h;exact ⟨hl,os' h⟩
  ·
   rw[if_neg hl] at h;cases h
 clear h;cases A0 with
 | none =>
  obtain rfl:l0=[]:=by
   cases l0 with
   | nil=>rfl
   | cons x l=>obtain ⟨_,e,_⟩:=hr0.2.2 (by simp);cases e
  clear hr0 hc0 hlim hinfo;have heq:=fun (w:World) (n c:Nat)=>Lib.run_eql_slice_nil (P:=Try.prog) w 28 3 none n c 0 0 Try.underlying28
  go_enter Try.func85,Try.ntmps85;go_wp2;go_ret
  exact ⟨_,rfl,Kd.R_nil _ _ _ _ _,Below.refl _ _⟩
 | some a =>
  have HR0:=am' hr0;have HL:=am' hlim;have hie:=am' hinfo;clear hr0 hc0 hlim hinfo;have HB:=am' (Below.refl w.heap.size w);have heq:=fun (w:World) (n c:Nat)=>Lib.run_eql_slice_nil (P:=Try.prog) w 28 3 (some a) n c 0 0 Try.underlying28
  go_enter Try.func85,Try.ntmps85;go_wp2_with (first|((with_reducible refine gate_dst (N:=5) rfl ?_);refine Kd.R_lit (Kd.int .i64) _ 3 ?hg (N:=5) ?hd (xs:=([]:List Int)) (inner:=[]) (ok:=fun _=>True) (okp:=fun _=>True) ?hr ?hp (fun _ hk=>hk) trivial (Below.refl _ _) (Nat.le_refl _) (by simp) ?_;(case hd=>rfl);(case hg=>rfl);(case hr=>first|(go_simp;done)|(go_simp;rfl));(case hp=>exact (Reps.none _ _));intro v210 w3 ho4 hb hg_ hnew_;clear hg_ hnew_;have n0_:=am' (Kd.R_lower ho4 (bz' HB.out));have n1_:=am' (bt' HB.out hb);clear HB;have HO211:=n0_;have HB:=n1_;clear n0_ n1_;clear hb ho4)|((with_reducible refine gate_builtin (b := .append) (xs:=#[.tmp 5, .tmp 6]) rfl ?_);at_builtin;refine Kd.R_append_rows (Kd.int .i64) (w0:=w) w.heap.size rfl (.tmp 5) (.tmp 6) 28 3 (.int .i64 0) 8 rfl Try.underlying28 hie.out rfl (by decide) (by omega) v210 [] l0 _ _ _ (fun _=>True) (fun _=>False) rfl rfl ?aO ?aR (fun _ _ h=>h) (fun _ h=>h.elim) ?aF ?aB ?aS ?aL ?_;(case aR=>exact (cb' HR0.out HB.out));(case aB=>exact HB.out);(case aF=>exact (fun _ _=>trivial));(case aO=>exact HO211.out);(case aS=>exact (bz' HB.out));(case aL=>have:=HL.out;simp;omega);intro v213 w5 ho hb hg hat;have n0_:=am' (hb);have n1_:=am' (ho);clear HB;clear HO211;have HB:=n0_;have HO214:=n1_;clear n0_ n1_;clear ho hb hg hat));go_ret
  exact ⟨_,rfl,by simpa using HO214.out,HB.out⟩
def grpsF (most:Int):List Int→List Int→List (List Int)
 | [],_=>[]
 | x :: r,l=>if (l.length:Int) < most then (l ++ [x]) :: (grpsF most r (l ++ [x]) ++ grpsF most r l) else []
def CbPost {σ:Type} (B:Nat) (Inv:σ→World→(Nat→Prop)→Prop) (s':σ) (O:Nat→Prop) (W:World) (e:Ending) (W':World):Prop :=
 e = .returned (.tuple #[])∧Below B W W'∧∃ O',Inv s' W' O'∧Kept W W' O∧∀ k,O' k→O k∨W.heap.size≤k
def EachOk {σ:Type} (B g:Nat) (lb:Array Value) (Inv:σ→World→(Nat→Prop)→Prop) (step:σ→List Int→Option σ):Prop :=
 ∀ (s s':σ) (O:Nat→Prop) (W0 W:World) (v:Value) (l:List Int),Inv s W0 O→Below W0.heap.size W0 W→Kd.R (Kd.int .i64) 3 W W0.heap.size (fun _=>True) v l→step s l=some s' →
  Calls Try.prog g (#[v] ++ lb) W (CbPost B Inv s' O W)
structure GFr (w:World) (O:Nat→Prop) (g:Nat) (lb:Array Value) (people:List Int) (most:Int) (A:Option Addr) (c p0 p1 p2 p3:Nat):Prop where
 h0:w.heap[p0]? = some (.cells #[.slice A people.length c] 28 (0,0))
 h1:w.heap[p1]? = some (.cells #[.int .i64 most] 3 (0,0))
 h2:w.heap[p2]? = some (.cells #[.func (.func g) #[] lb] 87 (0,0))
 h3:w.heap[p3]? = some (.cells #[.func (.func 84) #[] #[.pointer (some ⟨p0,0,none⟩), .pointer (some ⟨p1,0,none⟩), .pointer (some ⟨p2,0,none⟩), .pointer (some ⟨p3,0,none⟩)]] 102 (0,0))
 n0:¬ O p0
 n1:¬ O p1
 n2:¬ O p2
 n3:¬ O p3
 hF:Kd.F (Kd.int .i64) w (fun k=>¬ O k) A people.length people
theorem GFr.kept {w W:World} {O O':Nat→Prop} {g:Nat} {lb:Array Value} {people:List Int} {most:Int} {A:Option Addr} {c p0 p1 p2 p3:Nat} (h:GFr w O g lb people most A c p0 p1 p2 p3) (hk:Kept w W O) (ho:∀ k,O' k→O k∨w.heap.size≤k):GFr W O' g lb people most A c p0 p1 p2 p3:=by
 have lt:∀ {p:Nat} {o:Obj},w.heap[p]? = some o→¬ O p→¬ O' p:=fun hp hn h=>by
  rcases ho _ h with q|q
  ·
   exact hn q
  ·
   have:=blk_lt hp;omega
 exact ⟨blk_kept h.h0 hk h.n0,blk_kept h.h1 hk h.n1,blk_kept h.h2 hk h.n2,blk_kept h.h3 hk h.n3,lt h.h0 h.n0,lt h.h1 h.n1,lt h.h2 h.n2,lt h.h3 h.n3,
  Kd.F_mono (Kd.F_kept (Kd.F_bound h.hF) hk (fun _ q=>q.1)) (fun k q q2=>by rcases ho k q2 with q3|q3;exact q.1 q3;omega)⟩
theorem F_turn {w W:World} {O O':Nat→Prop} {A:Option Addr} {n:Nat} {l:List Int} (h:Kd.F (Kd.int .i64) w (fun k=>¬ O k) A n l) (hk:Kept w W O) (ho:∀ k,O' k→O k∨w.heap.size≤k):Kd.F (Kd.int .i64) W (fun k=>¬ O' k) A n l :=
 Kd.F_mono (Kd.F_kept (Kd.F_bound h) hk (fun _ q=>q.1)) (fun k q q2=>by rcases ho k q2 with q3|q3;exact q.1 q3;omega)
section
variable {σ:Type} {B g:Nat} {lb:Array Value} {Inv:σ→World→(Nat→Prop)→Prop} {step:σ→List Int→Option σ}
set_option maxHeartbeats 2000000 in
set_option maxRecDepth 100000 in
theorem on_any (HE:EachOk B g lb Inv step) (HI:∀ s W O,Inv s W O→∀ k,O k→B≤k∧k < W.heap.size) (eg:∀ args w,(callFunc g args).run Try.prog w = .ok (.enter g args) w)
  (people:List Int) (most:Int) (A:Option Addr) (c p0 p1 p2 p3:Nat) (hpc:people.length≤c) (hpl:people.length≤1048576) :
  ∀ (d f:Nat) (s s':σ) (O:Nat→Prop) (w:World) (Al:Option Addr) (cl:Nat) (l:List Int),people.length - f≤d→f≤people.length→B≤w.heap.size→Inv s w O→GFr w O g lb people most A c p0 p1 p2 p3→Kd.F (Kd.int .i64) w (fun k=>¬ O k) Al l.length l→l.length≤cl→l.length+(people.length - f)≤1048576 →
   (grpsF most (people.drop f) l).foldlM step s=some s' →
   Calls Try.prog 84 #[.int .i64 f, .slice Al l.length cl, .pointer (some ⟨p0,0,none⟩), .pointer (some ⟨p1,0,none⟩), .pointer (some ⟨p2,0,none⟩), .pointer (some ⟨p3,0,none⟩)] w (CbPost B Inv s' O w):=by
 intro d;induction d using Nat.strongRecOn with
 | ind d ih =>
 intro f s s' O w Al cl l hd hf hB hinv hfr hl hlc hbig hfold;have HD:=am' hd
 have HBG:=am' hbig
 have IH:=am' ih
 have HINV:=am' hinv
 have HFR:=am' hfr
 have HL:=am' hl
 have HFO:=am' hfold
 have HBB:=am' (Below.refl B w)
 clear ih hinv hfr hl hfold hd hbig;have hinfo:=am' (show (Try.prog.info? 3).map (fun i=>(i.zero,i.size,i.bytes))=some (some (.int .i64 0),1,8) by kernel_rfl)
 go_enter Try.func84,Try.ntmps84
 go_wp2
 go_loopg [8] (people.length - f) (fun gg v8 wr=>∃ (i:Nat) (s1:σ) (O1:Nat→Prop),v8 = .int .i64 i∧i≤people.length∧f≤i∧people.length - i≤gg∧Aside0 ((grpsF most (people.drop i) l).foldlM step s1=some s')∧Aside0 (Inv s1 wr O1)∧Aside0 (GFr wr O1 g lb people most A c p0 p1 p2 p3)∧Aside0 (Kd.F (Kd.int .i64) wr (fun k=>¬ O1 k) Al l.length l)∧Aside0 (Below B w wr)∧Aside0 (Kept w wr O)∧Aside0 (∀ k,O1 k→O k∨w.heap.size≤k))
 case atStart=>exact ⟨f,s,O,rfl,hf,Nat.le_refl _,Nat.le_refl _,HFO,HINV,HFR,HL,HBB,⟨Kept.refl _ _⟩,⟨fun _ h => .inl h⟩⟩
 case round =>
  obtain ⟨i,s1,O1,rfl,hi,hfi,hg,HF1,HI1,HG1,HL1,HB1,HK1,HO1⟩:=hrel;have x0:wr.cell? ⟨p0,0,none⟩=some (.slice A people.length c):=(bc' HG1.out.h0 0).trans rfl;have x1:wr.cell? ⟨p1,0,none⟩=some (.int .i64 most):=(bc' HG1.out.h1 0).trans rfl;have x2:wr.cell? ⟨p2,0,none⟩=some (.func (.func g) #[] lb):=(bc' HG1.out.h2 0).trans rfl;have x3:wr.cell? ⟨p3,0,none⟩=some (.func (.func 84) #[] #[.pointer (some ⟨p0,0,none⟩), .pointer (some ⟨p1,0,none⟩), .pointer (some ⟨p2,0,none⟩), .pointer (some ⟨p3,0,none⟩)]):=(bc' HG1.out.h3 0).trans rfl;by_cases hlt:i < people.length
  ·
   by_cases hm:(l.length:Int) < most
   ·
    have hltz:(i:Int) < (people.length:Int):=by omega
    have hdz:=dt' hltz;have hdm:=dt' hm;obtain ⟨ad,e0,hx0⟩:=Kd.at_int (Kd.F_now HG1.out.hF) (i:Int) (by omega) hltz;cases e0;rw[Int.toNat_natCast] at hx0;generalize hxx:rd people i=x at hx0
    have HX:=am' hxx;clear hxx;have HCL:=am' (show slices_Clone_int_int.f l=some l from if_pos (by have:=HBG.out;omega));have HHB:=am' (Below.refl wr.heap.size wr);go_wp2_with fail
    go_region_held3? (fun w'=>w'.cell? ⟨p0,0,none⟩=some (.slice (some ad) people.length c)∧w'.cell? (ad.add i)=some (.int .i64 x))
     (first|exact ⟨z0,z1⟩|exact ⟨y0,y1⟩|go_keep)
     (first|((refine Kd.R_append_rows_step (Kd.int .i64) (w0:=wr) wr.heap.size (by rfl) (.tmp 24) (.tmp 29) 28 3 (.int .i64 0) 8 (by rfl) Try.underlying28 hinfo.out rfl (by decide) (by omega) vc l [x] (some ⟨_,0,none⟩) 1 1 (fun _=>True) (fun _=>False) (by rfl) (by rfl) ?aO ?aR (fun _ _ h=>h) (fun _ h=>h.elim) (fun _ _=>trivial) ?aB ?aS ?aL ?_;(case aR=>first|exact C_one (heap_alloc_new _ _)|exact C_one ((HB2.out.block _ (by simp)).trans (heap_alloc_new _ _)));(case aO=>(with_reducible repeat (first|apply ra'|apply rn'|apply rw'));exact HO2.out);(case aB=>repeat (first|(with_reducible first|exact HHB2.out|apply ba'|apply bd'|apply be')|exact HHB2.out));(case aS=>exact bz' (by repeat (first|(with_reducible first|exact HHB2.out|apply ba'|apply bd'|apply be')|exact HHB2.out)));(case aL=>have:=HBG.out;omega);intro v3 w3 ho hb hg hat;have HO3:=am' ho;have HB3:=am' hb;clear ho hb hg hat;have z0:=(HB3.out.cell (bl' wr _ x0)).trans x0;have z1:=(HB3.out.cell (bl' wr _ hx0)).trans hx0))|((go_at_call 85;refine (slices_Clone_int_int.calls Al cl l l _ ?_ hlc HCL.out).mono ?_;(repeat (first|exact Kd.F_now HL1.out|refine ca' ?_ _|refine cd' ?_|refine cn' ?_ _));rintro e w2 ⟨vc,rfl,ho,hb⟩;have HHB2:=am' (bt' (by repeat (first|(with_reducible first|exact HHB.out|apply ba'|apply bd'|apply be')|exact HHB.out)) hb);have HO2:=am' (Kd.R_lower ho (bz' (by repeat (first|(with_reducible first|exact HHB.out|apply ba'|apply bd'|apply be')|exact HHB.out))));have HB2:=am' hb;clear hb ho;have y0:=(HHB2.out.cell (bl' wr _ x0)).trans x0;have y1:=(HHB2.out.cell (bl' wr _ hx0)).trans hx0)))
    all_goals
     have HB1':=am' (HB1.out.trans (HB3.out.mono (Nat.le_trans hB HB1.out.size)));have HG3:=am' (HG1.out.kept (O':=O1) (Kept.of_below HB3.out O1) (fun _ h => .inl h));have HL3:=am' (F_turn (O':=O1) HL1.out (Kept.of_below HB3.out O1) (fun _ h => .inl h));obtain ⟨A3,c3,hv3,hlc3,hC3⟩:=Kd.R_reads HO3.out;have HF3:=am' (show Kd.F (Kd.int .i64) w3 (fun k=>¬ O1 k) A3 (l ++ [x]).length (l ++ [x]) from Kd.F_mono (Kd.R_F (Kd.R_bound (hv3 ▸ HO3.out))) (fun k q h=>by have:=HI _ _ _ HI1.out k h;have:=q.2.1;omega));have HK3:=am' (HK1.out.then_ (Kept.of_below HB3.out O1) HO1.out)
     have hdrop:people.drop i=x :: people.drop (i+1):=by
      rw[List.drop_eq_getElem_cons hlt];congr 1
      rw[← HX.out];simp[rd,List.getD_eq_getElem?_getD,List.getElem?_eq_getElem hlt]
     have hf1:=HF1.out;rw[hdrop,grpsF,if_pos hm,List.foldlM_cons] at hf1;obtain ⟨s2,hs2,hf1⟩:=Option.bind_eq_some_iff.mp hf1;rw[List.foldlM_append] at hf1;obtain ⟨s3,hs3,hf1⟩:=Option.bind_eq_some_iff.mp hf1;have HE2:=am' (HE s1 s2 O1 wr w3 v3 (l ++ [x]) HI1.out HB3.out HO3.out hs2);have HS3:=am' hs3;have HF2:=am' hf1;have HLC3:=am' hlc3;have HN3:=am' (show (l ++ [x]).length=l.length+1 by simp);clear hC3;generalize l ++ [x]=l2 at HO3 HF3 HE2 HS3 HLC3 HN3 hv3 hs2 hs3 hlc3
     subst hv3;clear HB3 HG1 HL1 HK1 HB1 hdrop hs2 hs3 hf1 hlc3;have e2:w3.cell? ⟨p2,0,none⟩=some (.func (.func g) #[] lb):=(bc' HG3.out.h2 0).trans rfl;go_wp2_with fail;refine HE2.out.mono ?_
     rintro e w4 ⟨rfl,hb4,O2,hi4,hk4,ho4⟩
     have HG4:=am' (HG3.out.kept hk4 ho4);have HL4:=am' (F_turn HL3.out hk4 ho4);have HF4:=am' (F_turn HF3.out hk4 ho4);have HK4:=am' (HK3.out.then_ hk4 HO1.out);have HI4:=am' hi4;have HB4:=am' (HB1'.out.trans hb4)
     have HO4:=am' (show ∀ k,O2 k→O k∨w.heap.size≤k from fun k h=>by
      rcases ho4 k h with q|q
      ·
       exact HO1.out k q
      ·
       have:=HK3.out.1;exact .inr (by omega))
     have hrec:=IH.out (people.length - (i+1)) (by have:=HD.out;omega) (i+1) s2 s3 O2 w4 A3 c3 l2 (Nat.le_refl _) (by omega) (Nat.le_trans hB HB4.out.size) hi4 HG4.out HF4.out HLC3.out (by have:=HBG.out;have:=HN3.out;omega) HS3.out;rw[show ((i+1:Nat):Int)=(i:Int)+1 from rfl] at hrec;have HREC:=am' hrec;clear hrec hb4 hi4 hk4 ho4 HE2 HG3 HL3 HF3 HK3 HB1' e2 x0 x1 x2 x3 hx0;have e3:w4.cell? ⟨p3,0,none⟩=some (.func (.func 84) #[] #[.pointer (some ⟨p0,0,none⟩), .pointer (some ⟨p1,0,none⟩), .pointer (some ⟨p2,0,none⟩), .pointer (some ⟨p3,0,none⟩)]):=(bc' HG4.out.h3 0).trans rfl;go_wp2_with (go_at_call 84;refine HREC.out.mono ?_;rintro e w5 ⟨rfl,hb5,O3,hi5,hk5,ho5⟩);go_roundg (people.length - (i+1))
     case measure=>omega
     case rel =>
      refine ⟨i+1,s3,O3,by go_num,by omega,by omega,Nat.le_refl _,HF2,⟨hi5⟩,⟨HG4.out.kept hk5 ho5⟩,⟨F_turn HL4.out hk5 ho5⟩,⟨HB4.out.trans hb5⟩,⟨HK4.out.then_ hk5 HO4.out⟩,⟨fun k h=>?_⟩⟩;rcases ho5 k h with q|q
      ·
       exact HO4.out k q
      ·
       have:=HK4.out.1;exact .inr (by omega)
   ·
    have hdm:=df' hm;have hltz:(i:Int) < (people.length:Int):=by omega
    have hdz:=dt' hltz;go_wp2;go_end0
    refine ⟨rfl,HB1.out,O1,?_,HK1.out,HO1.out⟩;have hf1:=HF1.out;rw[List.drop_eq_getElem_cons hlt,grpsF,if_neg (by omega)] at hf1;cases hf1;exact HI1.out
  ·
   have hnl:¬ (i:Int) < (people.length:Int):=by omega
   have hdz:=df' hnl;go_wp2;go_end0
   refine ⟨rfl,HB1.out,O1,?_,HK1.out,HO1.out⟩;have hf1:=HF1.out;rw[List.drop_eq_nil_of_le (by omega),grpsF] at hf1;cases hf1;exact HI1.out
set_option maxHeartbeats 2000000 in
set_option maxRecDepth 100000 in
theorem groups_any (HE:EachOk B g lb Inv step) (HI:∀ s W O,Inv s W O→∀ k,O k→B≤k∧k < W.heap.size) (eg:∀ args w,(callFunc g args).run Try.prog w = .ok (.enter g args) w)
  (people:List Int) (most:Int) (A:Option Addr) (c:Nat) (hpc:people.length≤c) (hpl:people.length≤1048576) (s s':σ) (O:Nat→Prop) (w:World) (hB:B≤w.heap.size) (hinv:∀ W,Below w.heap.size w W→Inv s W O) (hpe:Kd.F (Kd.int .i64) w (fun k=>¬ O k) A people.length people)
  (hfold:(grpsF most people []).foldlM step s=some s') :
  Calls Try.prog 66 #[.slice A people.length c, .int .i64 most, .func (.func g) #[] lb] w (CbPost B Inv s' O w):=by
 have HINV:=am' hinv
 have HPE:=am' hpe
 have HFO:=am' hfold
 clear hinv hpe hfold;have ho:∀ k,O k→k < w.heap.size:=fun k h=>(HI _ _ _ (HINV.out w (Below.refl _ _)) k h).2
 have HO:=am' ho
 clear ho;go_enter Try.func66,Try.ntmps66
 go_wp2_with fail
 obtain ⟨b0,b1,b2,b3,hb4⟩:=four_blocks w (.cells #[.slice A people.length c] 28) (.cells #[.int .i64 most] 3) (.cells #[.func (.func g) #[] lb] 87) (.cells #[.func (.func 84) #[] #[.pointer (some ⟨w.heap.size,0,none⟩), .pointer (some ⟨w.heap.size+1,0,none⟩), .pointer (some ⟨w.heap.size+1+1,0,none⟩), .pointer (some ⟨w.heap.size+1+1+1,0,none⟩)]] 102)
 have hpe4:=Kd.F_below HPE.out hb4
 have hin4:=HINV.out _ hb4
 generalize (((w.alloc (.cells #[.slice A people.length c] 28)).alloc (.cells #[.int .i64 most] 3)).alloc (.cells #[.func (.func g) #[] lb] 87)).alloc (.cells #[.func (.func 84) #[] #[.pointer (some ⟨w.heap.size,0,none⟩), .pointer (some ⟨w.heap.size+1,0,none⟩), .pointer (some ⟨w.heap.size+1+1,0,none⟩), .pointer (some ⟨w.heap.size+1+1+1,0,none⟩)]] 102)=W4 at *
 have hsz:=hb4.size
 have hcall:=on_any HE HI eg people most A c (w.heap.size) (w.heap.size+1) (w.heap.size+1+1) (w.heap.size+1+1+1) hpc hpl people.length 0 s s' O W4 none 0 [] (by omega) (by omega) (by omega) hin4
  ⟨b0,b1,b2,b3,fun h=>by have:=HO.out _ h;omega,fun h=>by have:=HO.out _ h;omega,fun h=>by have:=HO.out _ h;omega,fun h=>by have:=HO.out _ h;omega,hpe4⟩ (Kd.F_nil _ _ _) (Nat.le_refl _) (by simp;omega) HFO.out
 rw[show ((0:Nat):Int)=0 from rfl,show ([]:List Int).length=0 from rfl] at hcall
 refine hcall.mono ?_
 rintro e w5 ⟨rfl,hb5,O3,hi5,hk5,ho5⟩
 go_wp2
 go_end0
 refine ⟨rfl,(hb4.mono hB).trans hb5,O3,hi5,(Kept.of_below hb4 O).then_ hk5 (fun k h => .inl h),fun k h=>?_⟩
 rcases ho5 k h with q|q
 ·
  exact .inl q
 ·
  exact .inr (by omega)
end
def OutInv (B bo:Nat) (s:List (List Int)) (W:World) (O:Nat→Prop):Prop :=
 ∃ v,W.heap[bo]? = some (.cells #[v] 22 (0,0))∧B≤bo∧Kd.S (Kd.slice 3 (Kd.int .i64)) 28 W B (fun k=>k≠bo) v s∧O=(fun k=>k=bo∨some k=v.ownBlock)
def pushS (s:List (List Int)) (l:List Int):Option (List (List Int)):=if s.length < 1099511627776 then some (s ++ [l]) else none
theorem OutInv.lt {B bo:Nat} (s:List (List Int)) (W:World) (O:Nat→Prop) (h:OutInv B bo s W O):∀ k,O k→B≤k∧k < W.heap.size:=by
 obtain ⟨v,hb,hB,hS,rfl⟩:=h
 rintro k (rfl|hk)
 ·
  exact ⟨hB,blk_lt hb⟩
 ·
  exact ⟨Kd.S_base hS k hk.symm,Kd.S_lt hS k hk.symm⟩
theorem OutInv.below {B bo:Nat} {s:List (List Int)} {W W1:World} {O:Nat→Prop} (h:OutInv B bo s W O) (hb:Below W.heap.size W W1):OutInv B bo s W1 O:=by
 obtain ⟨v,h1,h2,h3,h4⟩:=h
 exact ⟨v,bb' h1 hb,h2,Kd.S_below h3 hb,h4⟩
def slices_Clone_bool_bool.f (l0:List Bool):Option (List Bool):=if l0.length < 140737488355328 then some l0 else none
set_option maxHeartbeats 2000000 in
set_option maxRecDepth 100000 in
theorem slices_Clone_bool_bool.calls (A0:Option Addr) (c0:Nat) (l0:List Bool) (r:List Bool) (w:World) (hr0:Kd.C Kd.bool w A0 l0.length l0) (hc0:l0.length≤c0) (h:slices_Clone_bool_bool.f l0=some r) :
  Calls Try.prog 74 #[.slice A0 l0.length c0] w fun e w'=>∃ v0_:Value,e = .returned (v0_)∧Kd.R Kd.bool 4 w' w.heap.size (fun _=>True) v0_ r∧Below w.heap.size w w':=by
 have hinfo:(Try.prog.info? 4).map (fun i=>(i.zero,i.size,i.bytes))=some (some (.bool false),1,1):=by kernel_rfl
 obtain ⟨hlim,rfl⟩:l0.length < 140737488355328∧l0=r:=by
  unfold slices_Clone_bool_bool.f at h
  by_cases hl:l0.length < 140737488355328
  ·
   rw[if_pos hl] at h;exact ⟨hl,os' h⟩
  ·
   rw[if_neg hl] at h;cases h
 clear h;cases A0 with
 | none =>
  obtain rfl:l0=[]:=by
   cases l0 with
   | nil=>rfl
   | cons x l=>obtain ⟨_,e,_⟩:=hr0.2.2 (by simp);cases e
  clear hr0 hc0 hlim hinfo;have heq:=fun (w:World) (n c:Nat)=>Lib.run_eql_slice_nil (P:=Try.prog) w 33 4 none n c 0 0 Try.underlying33
  go_enter Try.func74,Try.ntmps74;go_wp2;go_ret
  exact ⟨_,rfl,Kd.R_nil _ _ _ _ _,Below.refl _ _⟩
 | some a =>
  have HR0:=am' hr0;have HL:=am' hlim;have hie:=am' hinfo;clear hr0 hc0 hlim hinfo;have HB:=am' (Below.refl w.heap.size w);have heq:=fun (w:World) (n c:Nat)=>Lib.run_eql_slice_nil (P:=Try.prog) w 33 4 (some a) n c 0 0 Try.underlying33
  go_enter Try.func74,Try.ntmps74;go_wp2_with (first|((with_reducible refine gate_dst (N:=5) rfl ?_);refine Kd.R_lit Kd.bool _ 4 ?hg (N:=5) ?hd (xs:=([]:List Bool)) (inner:=[]) (ok:=fun _=>True) (okp:=fun _=>True) ?hr ?hp (fun _ hk=>hk) trivial (Below.refl _ _) (Nat.le_refl _) (by simp) ?_;(case hd=>rfl);(case hg=>rfl);(case hr=>first|(go_simp;done)|(go_simp;rfl));(case hp=>exact (Reps.none _ _));intro v210 w3 ho4 hb hg_ hnew_;clear hg_ hnew_;have n0_:=am' (Kd.R_lower ho4 (bz' HB.out));have n1_:=am' (bt' HB.out hb);clear HB;have HO211:=n0_;have HB:=n1_;clear n0_ n1_;clear hb ho4)|((with_reducible refine gate_builtin (b := .append) (xs:=#[.tmp 5, .tmp 6]) rfl ?_);at_builtin;refine Kd.R_append_rows Kd.bool (w0:=w) w.heap.size rfl (.tmp 5) (.tmp 6) 33 4 (.bool false) 1 rfl Try.underlying33 hie.out rfl (by decide) (by omega) v210 [] l0 _ _ _ (fun _=>True) (fun _=>False) rfl rfl ?aO ?aR (fun _ _ h=>h) (fun _ h=>h.elim) ?aF ?aB ?aS ?aL ?_;(case aR=>exact (cb' HR0.out HB.out));(case aB=>exact HB.out);(case aF=>exact (fun _ _=>trivial));(case aO=>exact HO211.out);(case aS=>exact (bz' HB.out));(case aL=>have:=HL.out;simp;omega);intro v213 w5 ho hb hg hat;have n0_:=am' (hb);have n1_:=am' (ho);clear HB;clear HO211;have HB:=n0_;have HO214:=n1_;clear n0_ n1_;clear ho hb hg hat));go_ret
  exact ⟨_,rfl,by simpa using HO214.out,HB.out⟩
end Go.Proofs.Ytabhhkiipilghaa.C2
