import Derived.Test.YtcjjhkapdlfaeaaC1zx0
import Derived.Test.YtcjjhkapdlfaeaaC1zx4
import Derived.Test.YtcjjhkapdlfaeaaC1zAl
namespace Go.Proofs.Ytcjjhkapdlfaeaa.C1
open Go.RowKit Go.Proofs.YtcjjhkapdlfaeaaW.PrintWords Go.Proofs.YtcjjhkapdlfaeaaW.PrintLast Go.Proofs.YtcjjhkapdlfaeaaW.PrintMore Go.Proofs.Ytcjjhkapdlfaeaa.H
attribute [local go_sem] max2_int min2_int max_two min_two max_three min_three max_four min_four
set_option linter.unusedVariables false
set_option linter.unusedSimpArgs false
def PredOnL (g:Nat) (lb:Array Value) (p:List Int→Bool) (xs:List (List Int)) (w:World):Prop :=
 ∀ x,x ∈ xs→∀ (W:World) (A:Option Addr) (c:Nat),Below w.heap.size w W→Kd.C (Kd.int .i64) W A x.length x→x.length≤c→Calls Try.prog g (#[.slice A x.length c] ++ lb) W fun e w'=>e = .returned (.bool (p x))∧Below W.heap.size W w'
def idxL (p:List Int→Bool) (xs:List (List Int)):Int:=if xs.findIdx p < xs.length then (xs.findIdx p:Nat) else -1
theorem idxL_any (p:List Int→Bool) (xs:List (List Int)):decide (0≤idxL p xs)=xs.any p:=by
 unfold idxL
 by_cases h:xs.findIdx p < xs.length
 ·
  rw[if_pos h];have h1:=List.findIdx_getElem (p:=p) (w:=h);rw[decide_eq_true (Int.natCast_nonneg _)];exact (List.any_eq_true.2 ⟨_,List.getElem_mem h,h1⟩).symm
 ·
  rw[if_neg h]
  have h1:xs.any p=false:=by
   rw[List.any_eq_false];intro x hx hp;exact h (List.findIdx_lt_length_of_exists ⟨x,hx,hp⟩)
  rw[h1];rfl
set_option maxHeartbeats 4000000 in
set_option maxRecDepth 100000 in
theorem IndexFuncL_any (g:Nat) (lb:Array Value) (p:List Int→Bool) (eg:∀ args w,(callFunc g args).run Try.prog w = .ok (.enter g args) w) (A0:Option Addr) (c0:Nat) (xs:List (List Int)) (w:World) (hr:Kd.C (Kd.slice 3 (Kd.int .i64)) w A0 xs.length xs) (hl:xs.length≤c0)
  (hp:PredOnL g lb p xs w) :
  Calls Try.prog 85 #[.slice A0 xs.length c0, .func (.func g) #[] lb] w fun e w'=>e = .returned (.int .i64 (idxL p xs))∧Below w.heap.size w w':=by
 have hbig:=hr.2.1
 have HP:=am' hp
 have HR:=am' hr
 clear hp hr;go_enter Try.func85,Try.ntmps85
 go_wp2
 go_loopg [5,8] xs.length (fun gg _ s8 wr=>∃ kk:Nat,kk≤xs.length∧xs.length - kk≤gg∧s8 = .int .i64 (kk:Int)∧Aside0 (Below w.heap.size w wr)∧Aside0 (∀ j (e:List Int),j < kk→xs[j]? = some e→p e=false))
 case atStart=>exact ⟨0,Nat.zero_le _,by omega,rfl,⟨Below.refl _ w⟩,⟨fun j e hj=>absurd hj (Nat.not_lt_zero _)⟩⟩
 case round =>
  obtain ⟨kk,hkk,hg,rfl,BW,AA⟩:=hrel;by_cases hlt:kk < xs.length
  ·
   have hltz:(kk:Int) < (xs.length:Int):=by omega
   obtain ⟨ad,c,e0,hcl,hK,hcc⟩:=Kd.C_get (Kd.C_below HR.out BW.out) [] (kk:Int) (by omega) hltz;cases e0;obtain ⟨x,hx⟩:∃ x,xs[kk]? = some x:=⟨_,List.getElem?_eq_getElem hlt⟩
   have HX:=am' hx;rw[Int.toNat_natCast,List.getD_eq_getElem?_getD,hx] at hK;obtain ⟨Ax,cx,rfl,hlc,hCx⟩:=hK
   have hxc:wr.cell? (ad.add kk)=some (.slice Ax x.length cx):=by
    have:=hcc 0 _ rfl;rw[Int.toNat_natCast] at this;simpa [Kd.slice] using this
   have hcall:=HP.out x (List.mem_of_getElem? hx) wr Ax cx BW.out hCx hlc;clear hx hcc hcl hCx hlc;cases hq:p x with
   | true =>
    have HQ:=am' hq;rw[hq] at hcall;clear hq;go_wp2_with fail;refine hcall.mono ?_
    rintro e w' ⟨rfl,hb'⟩
    have HB2:=am' (below_step BW.out hb');clear hcall hxc hb';go_wp2;go_ret
    refine ⟨?_,HB2.out⟩
    have hfi:xs.findIdx p=kk:=by
     rw[List.findIdx_eq hlt];obtain ⟨h1,h2⟩:=List.getElem?_eq_some_iff.1 HX.out
     refine ⟨by rw[h2];exact HQ.out,fun j hj=>?_⟩;exact AA.out j _ hj (List.getElem?_eq_getElem (by omega))
    unfold idxL
    rw[hfi,if_pos hlt];rfl
   | false =>
    have HQ:=am' hq;rw[hq] at hcall;clear hq;go_wp2_with fail;refine hcall.mono ?_
    rintro e w' ⟨rfl,hb'⟩
    have HB2:=am' (below_step BW.out hb');clear hcall hxc hb';go_wp2;go_roundg (xs.length - (kk+1))
    case measure=>omega
    case rel =>
     refine ⟨kk+1,by omega,by omega,by first|rfl|exact nxt (by omega)|exact nxt2 (by omega),HB2,⟨fun j e hj he=>?_⟩⟩;by_cases q:j=kk
     ·
      subst q;rw[HX.out] at he;obtain rfl:=Option.some.inj he;exact HQ.out
     ·
      exact AA.out j e (by omega) he
  ·
   have hltz:¬ (kk:Int) < (xs.length:Int):=by omega
   have:kk=xs.length:=by omega
   subst this;go_wp2;go_ret
   refine ⟨?_,BW.out⟩
   have hfi:¬ xs.findIdx p < xs.length:=by
    intro q;have h1:=List.findIdx_getElem (p:=p) (w:=q);have h2:=AA.out _ _ q (List.getElem?_eq_getElem q);rw[h1] at h2;cases h2
   unfold idxL
   rw[if_neg hfi];rfl
set_option maxHeartbeats 2000000 in
set_option maxRecDepth 100000 in
theorem ContainsFuncL_any (g:Nat) (lb:Array Value) (p:List Int→Bool) (eg:∀ args w,(callFunc g args).run Try.prog w = .ok (.enter g args) w) (A0:Option Addr) (c0:Nat) (xs:List (List Int)) (w:World) (hr:Kd.C (Kd.slice 3 (Kd.int .i64)) w A0 xs.length xs) (hl:xs.length≤c0)
  (hp:PredOnL g lb p xs w) :
  Calls Try.prog 71 #[.slice A0 xs.length c0, .func (.func g) #[] lb] w fun e w'=>e = .returned (.bool (xs.any p))∧Below w.heap.size w w':=by
 have HH:=am' (IndexFuncL_any g lb p eg A0 c0 xs w hr hl hp)
 clear hr hl hp;go_enter Try.func71,Try.ntmps71
 go_wp2_with (go_at_call 85;refine HH.out.mono ?_;rintro e w' ⟨rfl,hb⟩)
 go_ret
 refine ⟨?_,hb⟩
 rw[← idxL_any]
 rfl
def slices_Index_int_int.f (l0:List Int) (a1:Int):Option Int:=some (idxF (fun x=>a1 == x) l0)
set_option maxHeartbeats 2000000 in
set_option maxRecDepth 100000 in
theorem slices_Index_int_int.calls (A0:Option Addr) (c0:Nat) (l0:List Int) (a1:Int) (r:Int) (w:World) (hr0:Kd.C (Kd.int .i64) w A0 l0.length l0) (hc0:l0.length≤c0) (h:slices_Index_int_int.f l0 a1=some r) :
  Calls Try.prog 86 #[.slice A0 l0.length c0, .int .i64 a1] w fun e w'=>e = .returned (.int .i64 r)∧Below w.heap.size w w':=by
 obtain rfl:idxF (fun x=>a1 == x) l0=r:=Option.some.inj h
 have hbig:=hr0.2.1
 have HR:=am' hr0
 clear hr0 h hc0;go_enter Try.func86,Try.ntmps86
 go_wp2
 go_loopg [5,8] l0.length (fun gg _ s8 wr=>∃ kk:Nat,kk≤l0.length∧l0.length - kk≤gg∧s8 = .int .i64 kk∧Aside0 (Below w.heap.size w wr)∧Aside0 (∀ j,j < kk→(a1 == rd l0 (j:Nat))=false))
 case atStart=>exact ⟨0,Nat.zero_le _,by omega,rfl,⟨Below.refl _ w⟩,⟨fun j hj=>absurd hj (Nat.not_lt_zero _)⟩⟩
 case round =>
  obtain ⟨kk,hkk,hg,rfl,BW,AA⟩:=hrel;by_cases hlt:kk < l0.length
  ·
   have hltz:(kk:Int) < (l0.length:Int):=by omega
   obtain ⟨ad,e0,hx0⟩:=Kd.at_int HR.out (kk:Int) (by omega) hltz;cases e0;have hx:=(BW.out.cell (bl' w _ hx0)).trans hx0;clear hx0;rw[Int.toNat_natCast] at hx;generalize hy:rd l0 kk=y at hx
   have B:Aside0 (rd l0 kk=y):=⟨hy⟩
   clear hy;cases hq:(a1 == y) with
   | true =>
    go_wp2;go_ret
    refine ⟨?_,BW.out⟩;rw[idxF_hit _ l0 kk hlt (by rw[B.out];exact hq) AA.out];rfl
   | false =>
    go_wp2;go_roundg (l0.length - (kk+1))
    case measure=>omega
    case rel =>
     refine ⟨kk+1,by omega,by omega,by go_num,BW,⟨fun j hj=>?_⟩⟩;by_cases e:j=kk
     ·
      subst e;rw[B.out];exact hq
     ·
      exact AA.out j (by omega)
  ·
   have hltz:¬ (kk:Int) < (l0.length:Int):=by omega
   have:kk=l0.length:=by omega
   subst this;go_wp2;go_ret
   refine ⟨?_,BW.out⟩;rw[idxF_miss _ l0 AA.out];rfl
def slices_Contains_int_int.f (l0:List Int) (a1:Int):Option Bool:=some (l0.any fun x=>a1 == x)
set_option maxHeartbeats 2000000 in
set_option maxRecDepth 100000 in
theorem slices_Contains_int_int.calls (A0:Option Addr) (c0:Nat) (l0:List Int) (a1:Int) (r:Bool) (w:World) (hr0:Kd.C (Kd.int .i64) w A0 l0.length l0) (hc0:l0.length≤c0) (h:slices_Contains_int_int.f l0 a1=some r) :
  Calls Try.prog 73 #[.slice A0 l0.length c0, .int .i64 a1] w fun e w'=>e = .returned (.bool r)∧Below w.heap.size w w':=by
 obtain rfl:(l0.any fun x=>a1 == x)=r:=Option.some.inj h
 have HH:=am' (slices_Index_int_int.calls A0 c0 l0 a1 _ w hr0 hc0 rfl)
 clear hr0 h;go_enter Try.func73,Try.ntmps73
 go_wp2_with (go_at_call 86;refine HH.out.mono ?_;rintro e w' ⟨rfl,hb⟩)
 go_ret
 refine ⟨?_,hb⟩
 rw[← idxF_any]
 rfl
def contB (l:List Int) (a:Int):Bool:=l.any fun x=>a == x
set_option maxHeartbeats 4000000 in
set_option maxRecDepth 100000 in
theorem covers1_calls (b:Nat) (Al:Option Addr) (cl:Nat) (l:List Int) (A:Option Addr) (c:Nat) (d:List Int) (w:World) (h1:w.cell? ⟨b,0,none⟩=some (.slice Al l.length cl)) (hl:Kd.C (Kd.int .i64) w Al l.length l) (hlc:l.length≤cl) (hd:Kd.C (Kd.int .i64) w A d.length d) (h2:2≤d.length) :
  Calls Try.prog 72 #[.slice A d.length c, .pointer (some ⟨b,0,none⟩)] w fun e w'=>e = .returned (.bool (!contB l (rd d 0) && !contB l (rd d 1)))∧Below w.heap.size w w':=by
 have HC0:=am' (fun (W:World) (hb:Below w.heap.size w W)=>slices_Contains_int_int.calls Al cl l (rd d 0) (contB l (rd d 0)) W (Kd.C_below hl hb) hlc rfl)
 have HC1:=am' (fun (W:World) (hb:Below w.heap.size w W)=>slices_Contains_int_int.calls Al cl l (rd d 1) (contB l (rd d 1)) W (Kd.C_below hl hb) hlc rfl)
 obtain ⟨ad,e0,q1⟩:=Kd.at_int hd 0 (by omega) (by omega)
 cases e0
 obtain ⟨ad',e0,q2⟩:=Kd.at_int hd 1 (by omega) (by omega)
 cases e0
 have q0:=h1;rw[show (0:Int).toNat=0 from rfl] at q1
 rw[show (1:Int).toNat=1 from rfl] at q2
 have z0_:ad.add 0=ad:=by unfold Addr.add;simp
 rw[z0_] at q1
 rw[show (1:Nat)=0+1 from rfl,add_field ad 0 1 (by omega),z0_] at q2
 have p0:(0 < d.length)=True:=eq_true (by omega)
 have p1:(1 < d.length)=True:=eq_true (by omega)
 have p2:((1:Int) < (d.length:Int))=True:=eq_true (by omega)
 clear hl hd h1;generalize rd d 0=x0 at *
 generalize rd d 1=x1 at *
 generalize hq0:contB l x0=t0 at *
 generalize hq1:contB l x1=t1 at *
 clear hq0 hq1;have hH:∃ hh:Nat,hh=d.length:=⟨_,rfl⟩
 go_enter Try.func72,Try.ntmps72
 go_wp2_with fail
 cases t0 with
 | false =>
  refine start_ (n:=15) (S:=fun w'=>w'.cell? ⟨b,0,none⟩=some (.slice Al l.length cl)∧w'.cell? ad=some (.int .i64 x0)∧w'.cell? ⟨ad.block,ad.off+1,none⟩=some (.int .i64 x1)) (ds:=[]) #[false,false,false,false,false,false,false,false,false,false,false,false,false,false,false] (by kernel_rfl) rfl rfl ⟨q0,q1,q2⟩ (fun hHeld=>?_);refine take_ (i:=0) (N:=some 4) (v:=?_) (a':=?_) #[true,false,false,false,false,false,false,false,false,false,false,false,false,false,false] rfl rfl (by kernel_rfl) (fun _ _ _ h=>h) (Or.inl ⟨by rfl,?_⟩) hHeld ?_ ?_
  rotate_left
  ·
   rintro w' ⟨s0_,s1_,s2_⟩
   go_simp;with_reducible rfl
  rotate_left
  ·
   simp only[Act.put,sa',sb',sc',i64_w,i32_w];rfl
  refine pure_ (i:=1) (N:=some 5) (v:=?_) (a':=?_) #[true,true,false,false,false,false,false,false,false,false,false,false,false,false,false] rfl rfl (by kernel_rfl) (fun _ _ _ h=>h) (Or.inl ⟨by rfl,?_⟩) ?_ ?_
  rotate_left
  ·
   intro w';go_simp;with_reducible rfl
  rotate_left
  ·
   simp only[Act.put,sa',sb',sc',i64_w,i32_w];rfl
  refine pure_ (i:=2) (N:=some 6) (v:=?_) (a':=?_) #[true,true,true,false,false,false,false,false,false,false,false,false,false,false,false] rfl rfl (by kernel_rfl) (fun _ _ _ h=>h) (Or.inl ⟨by rfl,?_⟩) ?_ ?_
  rotate_left
  ·
   intro w';go_simp;with_reducible rfl
  rotate_left
  ·
   simp only[Act.put,sa',sb',sc',i64_w,i32_w];rfl
  refine take_ (i:=3) (N:=some 7) (v:=?_) (a':=?_) #[true,true,true,true,false,false,false,false,false,false,false,false,false,false,false] rfl rfl (by kernel_rfl) (fun _ _ _ h=>h) (Or.inl ⟨by rfl,?_⟩) hHeld ?_ ?_
  rotate_left
  ·
   rintro w' ⟨s0_,s1_,s2_⟩
   go_simp;with_reducible rfl
  rotate_left
  ·
   simp only[Act.put,sa',sb',sc',i64_w,i32_w];rfl
  refine one_ (i:=4) (N:=some 8) #[true,true,true,true,true,false,false,false,false,false,false,false,false,false,false] rfl rfl (by kernel_rfl) (by decide) (fun K hK=>?_);refine goes_ Try.func73 (by kernel_rfl) rfl #[.slice Al l.length cl, .int .i64 x0] (by rfl) rfl rfl (by (try simp only[List.map_toArray,List.map_cons,List.map_nil]);first|done|rfl) ?_
  refine (HC0.out _ (below_drew (Below.refl _ _))).mono ?_
  rintro e w2 ⟨rfl,hb⟩
  have HB2:=am' (below_step (below_drew (Below.refl _ _)) hb);have y0:=(HB2.out.cell (bl' w _ q0)).trans q0;have y1:=(HB2.out.cell (bl' w _ q1)).trans q1;have y2:=(HB2.out.cell (bl' w _ q2)).trans q2;clear hb;refine ⟨_,rfl,?_⟩;refine hK.out _ _ ⟨y0,y1,y2⟩ (fun hHeld=>?_);clear hK K;refine norm_ (a':=?_) ?_ ?_
  rotate_left
  ·
   show Act.put _ (some 8) _=_
   simp only[Act.put,sa',sb',sc',i64_w,i32_w];rfl
  refine pure_ (i:=5) (N:=some 9) (v:=?_) (a':=?_) #[true,true,true,true,true,true,false,false,false,false,false,false,false,false,false] rfl rfl (by kernel_rfl) (fun _ _ _ h=>h) (Or.inl ⟨by rfl,?_⟩) ?_ ?_
  rotate_left
  ·
   intro w';go_simp;with_reducible rfl
  rotate_left
  ·
   simp only[Act.put,sa',sb',sc',i64_w,i32_w];rfl
  refine pure_ (i:=6) (N:=some 10) (v:=?_) (a':=?_) #[true,true,true,true,true,true,true,false,false,false,false,false,false,false,false] rfl rfl (by kernel_rfl) (fun _ _ _ h=>h) (Or.inl ⟨by rfl,?_⟩) ?_ ?_
  rotate_left
  ·
   intro w';go_simp;with_reducible rfl
  rotate_left
  ·
   simp only[Act.put,sa',sb',sc',i64_w,i32_w];rfl
  refine take_ (i:=7) (N:=some 11) (v:=?_) (a':=?_) #[true,true,true,true,true,true,true,true,false,false,false,false,false,false,false] rfl rfl (by kernel_rfl) (fun _ _ _ h=>h) (Or.inl ⟨by rfl,?_⟩) hHeld ?_ ?_
  rotate_left
  ·
   rintro w' ⟨s0_,s1_,s2_⟩
   go_simp;with_reducible rfl
  rotate_left
  ·
   simp only[Act.put,sa',sb',sc',i64_w,i32_w];rfl
  refine pure_ (i:=8) (N:=some 12) (v:=?_) (a':=?_) #[true,true,true,true,true,true,true,true,true,false,false,false,false,false,false] rfl rfl (by kernel_rfl) (fun _ _ _ h=>h) (Or.inl ⟨by rfl,?_⟩) ?_ ?_
  rotate_left
  ·
   intro w';go_simp;with_reducible rfl
  rotate_left
  ·
   simp only[Act.put,sa',sb',sc',i64_w,i32_w];rfl
  refine pure_ (i:=9) (N:=some 13) (v:=?_) (a':=?_) #[true,true,true,true,true,true,true,true,true,true,false,false,false,false,false] rfl rfl (by kernel_rfl) (fun _ _ _ h=>h) (Or.inl ⟨by rfl,?_⟩) ?_ ?_
  rotate_left
  ·
   intro w';go_simp;with_reducible rfl
  rotate_left
  ·
   simp only[Act.put,sa',sb',sc',i64_w,i32_w];rfl
  refine take_ (i:=10) (N:=some 14) (v:=?_) (a':=?_) #[true,true,true,true,true,true,true,true,true,true,true,false,false,false,false] rfl rfl (by kernel_rfl) (fun _ _ _ h=>h) (Or.inl ⟨by rfl,?_⟩) hHeld ?_ ?_
  rotate_left
  ·
   rintro w' ⟨s0_,s1_,s2_⟩
   go_simp;with_reducible rfl
  rotate_left
  ·
   simp only[Act.put,sa',sb',sc',i64_w,i32_w];rfl
  refine one_ (i:=11) (N:=some 15) #[true,true,true,true,true,true,true,true,true,true,true,true,false,false,false] rfl rfl (by kernel_rfl) (by decide) (fun K hK=>?_);refine goes_ Try.func73 (by kernel_rfl) rfl #[.slice Al l.length cl, .int .i64 x1] (by rfl) rfl rfl (by (try simp only[List.map_toArray,List.map_cons,List.map_nil]);first|done|rfl) ?_
  refine (HC1.out _ (HB2.out)).mono ?_
  rintro e w3 ⟨rfl,hb⟩
  have HB3:=am' (below_step (HB2.out) hb);have z0:=(HB3.out.cell (bl' w _ q0)).trans q0;have z1:=(HB3.out.cell (bl' w _ q1)).trans q1;have z2:=(HB3.out.cell (bl' w _ q2)).trans q2;clear hb;refine ⟨_,rfl,?_⟩;refine hK.out _ _ ⟨z0,z1,z2⟩ (fun hHeld=>?_);clear hK K;refine norm_ (a':=?_) ?_ ?_
  rotate_left
  ·
   show Act.put _ (some 15) _=_
   simp only[Act.put,sa',sb',sc',i64_w,i32_w];rfl
  refine pure_ (i:=12) (N:=some 16) (v:=?_) (a':=?_) #[true,true,true,true,true,true,true,true,true,true,true,true,true,false,false] rfl rfl (by kernel_rfl) (fun _ _ _ h=>h) (Or.inl ⟨by rfl,?_⟩) ?_ ?_
  rotate_left
  ·
   intro w';go_simp;with_reducible rfl
  rotate_left
  ·
   simp only[Act.put,sa',sb',sc',i64_w,i32_w];rfl
  refine pure_ (i:=13) (N:=some 17) (v:=?_) (a':=?_) #[true,true,true,true,true,true,true,true,true,true,true,true,true,true,false] rfl rfl (by kernel_rfl) (fun _ _ _ h=>h) (Or.inl ⟨by rfl,?_⟩) ?_ ?_
  rotate_left
  ·
   intro w';go_simp;with_reducible rfl
  rotate_left
  ·
   simp only[Act.put,sa',sb',sc',i64_w,i32_w];rfl
  refine pure_ (i:=14) (N:=some 3) (v:=?_) (a':=?_) #[true,true,true,true,true,true,true,true,true,true,true,true,true,true,true] rfl rfl (by kernel_rfl) (fun _ _ _ h=>h) (Or.inl ⟨by rfl,?_⟩) ?_ ?_
  rotate_left
  ·
   intro w';go_simp;with_reducible rfl
  rotate_left
  ·
   simp only[Act.put,sa',sb',sc',i64_w,i32_w];rfl
  refine done_ (by kernel_rfl) ?_
  go_wp2;go_ret
  exact ⟨by cases t1 <;> rfl,HB3.out⟩
 | true =>
  refine start_ (n:=15) (S:=fun w'=>w'.cell? ⟨b,0,none⟩=some (.slice Al l.length cl)∧w'.cell? ad=some (.int .i64 x0)∧w'.cell? ⟨ad.block,ad.off+1,none⟩=some (.int .i64 x1)) (ds:=[]) #[false,false,false,false,false,false,false,false,false,false,false,false,false,false,false] (by kernel_rfl) rfl rfl ⟨q0,q1,q2⟩ (fun hHeld=>?_);refine take_ (i:=0) (N:=some 4) (v:=?_) (a':=?_) #[true,false,false,false,false,false,false,false,false,false,false,false,false,false,false] rfl rfl (by kernel_rfl) (fun _ _ _ h=>h) (Or.inl ⟨by rfl,?_⟩) hHeld ?_ ?_
  rotate_left
  ·
   rintro w' ⟨s0_,s1_,s2_⟩
   go_simp;with_reducible rfl
  rotate_left
  ·
   simp only[Act.put,sa',sb',sc',i64_w,i32_w];rfl
  refine pure_ (i:=1) (N:=some 5) (v:=?_) (a':=?_) #[true,true,false,false,false,false,false,false,false,false,false,false,false,false,false] rfl rfl (by kernel_rfl) (fun _ _ _ h=>h) (Or.inl ⟨by rfl,?_⟩) ?_ ?_
  rotate_left
  ·
   intro w';go_simp;with_reducible rfl
  rotate_left
  ·
   simp only[Act.put,sa',sb',sc',i64_w,i32_w];rfl
  refine pure_ (i:=2) (N:=some 6) (v:=?_) (a':=?_) #[true,true,true,false,false,false,false,false,false,false,false,false,false,false,false] rfl rfl (by kernel_rfl) (fun _ _ _ h=>h) (Or.inl ⟨by rfl,?_⟩) ?_ ?_
  rotate_left
  ·
   intro w';go_simp;with_reducible rfl
  rotate_left
  ·
   simp only[Act.put,sa',sb',sc',i64_w,i32_w];rfl
  refine take_ (i:=3) (N:=some 7) (v:=?_) (a':=?_) #[true,true,true,true,false,false,false,false,false,false,false,false,false,false,false] rfl rfl (by kernel_rfl) (fun _ _ _ h=>h) (Or.inl ⟨by rfl,?_⟩) hHeld ?_ ?_
  rotate_left
  ·
   rintro w' ⟨s0_,s1_,s2_⟩
   go_simp;with_reducible rfl
  rotate_left
  ·
   simp only[Act.put,sa',sb',sc',i64_w,i32_w];rfl
  refine one_ (i:=4) (N:=some 8) #[true,true,true,true,true,false,false,false,false,false,false,false,false,false,false] rfl rfl (by kernel_rfl) (by decide) (fun K hK=>?_);refine goes_ Try.func73 (by kernel_rfl) rfl #[.slice Al l.length cl, .int .i64 x0] (by rfl) rfl rfl (by (try simp only[List.map_toArray,List.map_cons,List.map_nil]);first|done|rfl) ?_
  refine (HC0.out _ (below_drew (Below.refl _ _))).mono ?_
  rintro e w2 ⟨rfl,hb⟩
  have HB2:=am' (below_step (below_drew (Below.refl _ _)) hb);have y0:=(HB2.out.cell (bl' w _ q0)).trans q0;have y1:=(HB2.out.cell (bl' w _ q1)).trans q1;have y2:=(HB2.out.cell (bl' w _ q2)).trans q2;clear hb;refine ⟨_,rfl,?_⟩;refine hK.out _ _ ⟨y0,y1,y2⟩ (fun hHeld=>?_);clear hK K;refine norm_ (a':=?_) ?_ ?_
  rotate_left
  ·
   show Act.put _ (some 8) _=_
   simp only[Act.put,sa',sb',sc',i64_w,i32_w];rfl
  refine pure_ (i:=5) (N:=some 9) (v:=?_) (a':=?_) #[true,true,true,true,true,true,false,false,false,false,false,false,false,false,false] rfl rfl (by kernel_rfl) (fun _ _ _ h=>h) (Or.inl ⟨by rfl,?_⟩) ?_ ?_
  rotate_left
  ·
   intro w';go_simp;with_reducible rfl
  rotate_left
  ·
   simp only[Act.put,sa',sb',sc',i64_w,i32_w];rfl
  refine pure_ (i:=6) (N:=some 10) (v:=?_) (a':=?_) #[true,true,true,true,true,true,true,false,false,false,false,false,false,false,false] rfl rfl (by kernel_rfl) (fun _ _ _ h=>h) (Or.inl ⟨by rfl,?_⟩) ?_ ?_
  rotate_left
  ·
   intro w';go_simp;with_reducible rfl
  rotate_left
  ·
   simp only[Act.put,sa',sb',sc',i64_w,i32_w];rfl
  refine pure_ (i:=7) (N:=some 11) (v:=undef) (a':=?_) #[true,true,true,true,true,true,true,true,false,false,false,false,false,false,false] rfl rfl (by kernel_rfl) (fun _ _ _ h=>h) (Or.inr ⟨by rfl,rfl⟩) ?_ ?_
  rotate_left
  ·
   simp only[Act.put,sa',sb',sc',i64_w,i32_w];rfl
  refine pure_ (i:=8) (N:=some 12) (v:=undef) (a':=?_) #[true,true,true,true,true,true,true,true,true,false,false,false,false,false,false] rfl rfl (by kernel_rfl) (fun _ _ _ h=>h) (Or.inr ⟨by rfl,rfl⟩) ?_ ?_
  rotate_left
  ·
   simp only[Act.put,sa',sb',sc',i64_w,i32_w];rfl
  refine pure_ (i:=9) (N:=some 13) (v:=undef) (a':=?_) #[true,true,true,true,true,true,true,true,true,true,false,false,false,false,false] rfl rfl (by kernel_rfl) (fun _ _ _ h=>h) (Or.inr ⟨by rfl,rfl⟩) ?_ ?_
  rotate_left
  ·
   simp only[Act.put,sa',sb',sc',i64_w,i32_w];rfl
  refine pure_ (i:=10) (N:=some 14) (v:=undef) (a':=?_) #[true,true,true,true,true,true,true,true,true,true,true,false,false,false,false] rfl rfl (by kernel_rfl) (fun _ _ _ h=>h) (Or.inr ⟨by rfl,rfl⟩) ?_ ?_
  rotate_left
  ·
   simp only[Act.put,sa',sb',sc',i64_w,i32_w];rfl
  refine pure_ (i:=11) (N:=some 15) (v:=undef) (a':=?_) #[true,true,true,true,true,true,true,true,true,true,true,true,false,false,false] rfl rfl (by kernel_rfl) (fun _ _ _ h=>h) (Or.inr ⟨by rfl,rfl⟩) ?_ ?_
  rotate_left
  ·
   simp only[Act.put,sa',sb',sc',i64_w,i32_w];rfl
  refine pure_ (i:=12) (N:=some 16) (v:=undef) (a':=?_) #[true,true,true,true,true,true,true,true,true,true,true,true,true,false,false] rfl rfl (by kernel_rfl) (fun _ _ _ h=>h) (Or.inr ⟨by rfl,rfl⟩) ?_ ?_
  rotate_left
  ·
   simp only[Act.put,sa',sb',sc',i64_w,i32_w];rfl
  refine pure_ (i:=13) (N:=some 17) (v:=?_) (a':=?_) #[true,true,true,true,true,true,true,true,true,true,true,true,true,true,false] rfl rfl (by kernel_rfl) (fun _ _ _ h=>h) (Or.inl ⟨by rfl,?_⟩) ?_ ?_
  rotate_left
  ·
   intro w';go_simp;with_reducible rfl
  rotate_left
  ·
   simp only[Act.put,sa',sb',sc',i64_w,i32_w];rfl
  refine pure_ (i:=14) (N:=some 3) (v:=?_) (a':=?_) #[true,true,true,true,true,true,true,true,true,true,true,true,true,true,true] rfl rfl (by kernel_rfl) (fun _ _ _ h=>h) (Or.inl ⟨by rfl,?_⟩) ?_ ?_
  rotate_left
  ·
   intro w';go_simp;with_reducible rfl
  rotate_left
  ·
   simp only[Act.put,sa',sb',sc',i64_w,i32_w];rfl
  refine done_ (by kernel_rfl) ?_
  go_wp2;go_ret
  exact ⟨rfl,HB2.out⟩
theorem covers_pred (b:Nat) (Al:Option Addr) (cl:Nat) (l:List Int) (xs:List (List Int)) (w:World) (h1:w.cell? ⟨b,0,none⟩=some (.slice Al l.length cl)) (hl:Kd.C (Kd.int .i64) w Al l.length l) (hlc:l.length≤cl) (h2:∀ d ∈ xs,2≤d.length) :
  PredOnL 72 #[.pointer (some ⟨b,0,none⟩)] (fun d => !contB l (rd d 0) && !contB l (rd d 1)) xs w:=fun x hx W A c hb hC hxc =>
 covers1_calls b Al cl l A c x W ((hb.cell (bl' w _ h1)).trans h1) (Kd.C_below hl hb) hlc hC (h2 x hx)
def coversB (l0:List (List Int)) (l:List Int):Bool := !(l0.any fun d => !contB l (rd d 0) && !contB l (rd d 1))
set_option maxHeartbeats 2000000 in
set_option maxRecDepth 100000 in
theorem covers_any (n:Int) (A0:Option Addr) (c0:Nat) (l0:List (List Int)) (m:Int) (Al:Option Addr) (cl:Nat) (l:List Int) (w:World) (hr:Kd.C (Kd.slice 3 (Kd.int .i64)) w A0 l0.length l0) (hc:l0.length≤c0) (hl:Kd.C (Kd.int .i64) w Al l.length l) (hlc:l.length≤cl) (h2:∀ d ∈ l0,2≤d.length) :
  Calls Try.prog 39 #[.agg #[.int .i64 n, .slice A0 l0.length c0, .int .i64 m], .slice Al l.length cl] w fun e w'=>e = .returned (.bool (coversB l0 l))∧Below w.heap.size w w':=by
 have hu:=Try.underlying29
 have HB:=am' (two_blocks w (.cells #[.int .i64 n, .slice A0 l0.length c0, .int .i64 m] 29) (.cells #[.slice Al l.length cl] 26))
 have HC:=am' (fun (W:World) (hb:Below w.heap.size w W) (b:Nat) (e:W.cell? ⟨b,0,none⟩=some (.slice Al l.length cl))=>ContainsFuncL_any 72 #[.pointer (some ⟨b,0,none⟩)] (fun d => !contB l (rd d 0) && !contB l (rd d 1)) (enters_of Try.func72 (by kernel_rfl) rfl) A0 c0 l0 W (Kd.C_below hr hb) hc (covers_pred b Al cl l l0 W e (Kd.C_below hl hb) hlc h2))
 clear hr hl;go_enter Try.func39,Try.ntmps39
 go_wp2_with fail
 refine (HC.out _ HB.out.2.2 _ ((blk_cell HB.out.2.1 0).trans rfl)).mono ?_
 rintro e w2 ⟨rfl,hb⟩
 have HB2:=am' (below_step HB.out.2.2 hb)
 clear hb;go_wp2
 go_ret
 exact ⟨rfl,HB2.out⟩
def bits_Mul64.f (a0:Int) (a1:Int):Option (Int × Int):=some (IntKind.u64.wrap ((IntKind.u64.wrap ((IntKind.u64.wrap ((a0 / 4294967296) * (a1 / 4294967296)))+((IntKind.u64.wrap ((IntKind.u64.wrap ((a0 / 4294967296) * (Go.bits .and .u64 a1 4294967295)))+((IntKind.u64.wrap ((Go.bits .and .u64 a0 4294967295) * (Go.bits .and .u64 a1 4294967295))) / 4294967296))) / 4294967296)))+((IntKind.u64.wrap ((Go.bits .and .u64 (IntKind.u64.wrap ((IntKind.u64.wrap ((a0 / 4294967296) * (Go.bits .and .u64 a1 4294967295)))+((IntKind.u64.wrap ((Go.bits .and .u64 a0 4294967295) * (Go.bits .and .u64 a1 4294967295))) / 4294967296))) 4294967295)+(IntKind.u64.wrap ((Go.bits .and .u64 a0 4294967295) * (a1 / 4294967296))))) / 4294967296)),IntKind.u64.wrap (a0 * a1))
set_option maxHeartbeats 8000000 in
set_option maxRecDepth 100000 in
theorem bits_Mul64.calls (a0:Int) (a1:Int) (r1:Int) (r2:Int) (w:World) (h:bits_Mul64.f a0 a1=some (r1,r2)) :
  Calls Try.prog 93 #[.int .u64 a0, .int .u64 a1] w fun e w'=>e = .returned (.tuple #[.int .u64 r1, .int .u64 r2])∧Drawn0 w w':=by
 have H:(some (IntKind.u64.wrap ((IntKind.u64.wrap ((IntKind.u64.wrap ((a0 / 4294967296) * (a1 / 4294967296)))+((IntKind.u64.wrap ((IntKind.u64.wrap ((a0 / 4294967296) * (Go.bits .and .u64 a1 4294967295)))+((IntKind.u64.wrap ((Go.bits .and .u64 a0 4294967295) * (Go.bits .and .u64 a1 4294967295))) / 4294967296))) / 4294967296)))+((IntKind.u64.wrap ((Go.bits .and .u64 (IntKind.u64.wrap ((IntKind.u64.wrap ((a0 / 4294967296) * (Go.bits .and .u64 a1 4294967295)))+((IntKind.u64.wrap ((Go.bits .and .u64 a0 4294967295) * (Go.bits .and .u64 a1 4294967295))) / 4294967296))) 4294967295)+(IntKind.u64.wrap ((Go.bits .and .u64 a0 4294967295) * (a1 / 4294967296))))) / 4294967296)),IntKind.u64.wrap (a0 * a1)))=some (r1,r2):=h
 clear h;simp only[Option.some.injEq,Prod.mk.injEq] at H
 obtain ⟨rfl,rfl⟩:=H
 go_enter Try.func93,Try.ntmps93
 go_wp2
 go_ret2
 exact ⟨by first|rfl|(simp;done)|(simp[*];done),by repeat (first|exact Drawn0.refl _|apply Drawn0.step)⟩
def bits_Mul.f (a0:Int) (a1:Int):Option (Int × Int):=(bits_Mul64.f a0 a1).bind fun bt186=>(some (bt186.1,bt186.2))
set_option maxHeartbeats 8000000 in
set_option maxRecDepth 100000 in
theorem bits_Mul.calls (a0:Int) (a1:Int) (r1:Int) (r2:Int) (w:World) (h:bits_Mul.f a0 a1=some (r1,r2)) :
  Calls Try.prog 87 #[.int .u64 a0, .int .u64 a1] w fun e w'=>e = .returned (.tuple #[.int .u64 r1, .int .u64 r2])∧Drawn0 w w':=by
 have H:((bits_Mul64.f a0 a1).bind fun bt186=>(some (bt186.1,bt186.2)))=some (r1,r2):=h
 clear h;replace H:=Option.bind_eq_some_iff.mp H
 obtain ⟨⟨t186,t187⟩,A30,H⟩:=H
 replace H:(some (t186,t187))=some (r1,r2):=H
 have A3:=am' A30
 clear A30;simp only[Option.some.injEq,Prod.mk.injEq] at H
 obtain ⟨rfl,rfl⟩:=H
 go_enter Try.func87,Try.ntmps87
 go_wp2_with (first|((with_reducible refine gate_callee (f:=93) rfl ?_);refine goesL_ (some 25) rfl rfl Try.func93 (by kernel_rfl) rfl #[.int .u64 a0, .int .u64 a1] rfl (by (try simp only[List.map_toArray,List.map_cons,List.map_nil]);first|done|rfl|(simp only[List.length_drop,List.length_take];rfl)) ?_;(with_reducible refine (bits_Mul64.calls a0 a1 t186 t187 _ A3.out).mono ?_);rintro e w' ⟨rfl,⟨nd,rfl⟩⟩;refine ⟨_,rfl,?_⟩))
 go_ret2
 exact ⟨by first|rfl|(simp;done)|(simp[*];done),by repeat (first|exact Drawn0.refl _|apply Drawn0.step)⟩
theorem mulOne:∀ m:Nat,m≤8→bits_Mul.f 1 (m:Int)=some (0,(m:Int))
 | 0,_=>by kernel_rfl
 | 1,_=>by kernel_rfl
 | 2,_=>by kernel_rfl
 | 3,_=>by kernel_rfl
 | 4,_=>by kernel_rfl
 | 5,_=>by kernel_rfl
 | 6,_=>by kernel_rfl
 | 7,_=>by kernel_rfl
 | 8,_=>by kernel_rfl
theorem splice_rep (n m:Nat) (v z:Value) (q:Nat) (hq:n+q≤m):splice (List.replicate n v ++ List.replicate (m - n) z) n (List.replicate q v)=List.replicate (n+q) v ++ List.replicate (m - (n+q)) z:=by
 unfold splice
 have e1:(List.replicate n v ++ List.replicate (m - n) z).take n=List.replicate n v:=by simp
 have e2:(List.replicate n v ++ List.replicate (m - n) z).drop (n+(List.replicate q v).length)=List.replicate (m - (n+q)) z:=by
  rw[List.length_replicate,List.drop_append,List.length_replicate,List.drop_replicate,List.drop_replicate];have a1:n - (n+q)=0:=by omega
  have a2:m - n - (n+q - n)=m - (n+q):=by omega
  rw[a1,a2];rfl
 rw[e1,e2,← List.append_assoc,List.replicate_append_replicate]
theorem made_rep (z:Value) (m:Nat):madeCells #[z] m=(List.replicate m z).toArray:=by
 apply Array.ext
 ·
  simp[madeCells]
 ·
  intro i h1 h2;simp[madeCells,Nat.mod_one]
theorem rep_one (n:Nat) (b:Bool):∀ u ∈ List.replicate n (Value.bool b),u.oneCell'=true:=fun u hu=>by rw[List.eq_of_mem_replicate hu];rfl
theorem rep_cells {w w1:World} {ad:Addr} {v:Value} (hx:w.cell? (ad.add 0)=some v) (m:Nat) (hb:Below w.heap.size w w1) (o:Obj):∀ j u,(List.replicate (min 1 m) v)[j]? = some u→(w1.alloc o).cell? (ad.add j)=some u:=by
 intro j u hu;have hb2:Below w.heap.size w (w1.alloc o):=ba' hb o
 have hj:j < min 1 m:=by have:=(List.getElem?_eq_some_iff.1 hu).1;simpa using this
 obtain rfl:j=0:=by omega
 rw[List.getElem?_replicate,if_pos hj] at hu
 cases hu
 exact (hb2.cell (bl' w _ hx)).trans hx
theorem rep_first {w:World} {g m t:Nat} {v z:Value} (h:w.heap[g]? = some (.cells (splice (List.replicate m z) 0 (List.replicate (min 1 m) v)).toArray t (0,0))):w.heap[g]? = some (.cells (List.replicate (min 1 m) v ++ List.replicate (m - min 1 m) z).toArray t (0,0)):=by
 have:=splice_rep 0 m v z (min 1 m) (by omega)
 simp only[List.replicate_zero,List.nil_append,Nat.sub_zero,Nat.zero_add] at this
 rwa [this] at h
theorem rep_next {w:World} {g m n t:Nat} {v z:Value} (h:w.heap[g]? = some (.cells (splice (List.replicate n v ++ List.replicate (m - n) z) n (List.replicate (min n (m - n)) v)).toArray t (0,0))) (hn:n≤m:=by omega):w.heap[g]? = some (.cells (List.replicate (n+min n (m - n)) v ++ List.replicate (m - (n+min n (m - n))) z).toArray t (0,0)):=by
 rwa [splice_rep n m v z _ (by omega)] at h
theorem rep_self {w:World} {g m n t:Nat} {v z:Value} (h:w.heap[g]? = some (.cells (List.replicate n v ++ List.replicate (m - n) z).toArray t (0,0))) (hn:n≤m):∀ j u,(List.replicate (min n (m - n)) v)[j]? = some u→w.cell? ((⟨g,0,none⟩:Addr).add j)=some u:=by
 intro j u hu;have hj:j < min n (m - n):=by have:=(List.getElem?_eq_some_iff.1 hu).1;simpa using this
 rw[List.getElem?_replicate,if_pos hj] at hu
 cases hu
 have ha:(⟨g,0,none⟩:Addr).add j=⟨g,j,none⟩:=by unfold Addr.add;split <;> simp_all
 rw[ha,blk_cell h j,List.getElem?_toArray,List.getElem?_append_left (by simp;omega),List.getElem?_replicate,if_pos (by omega)]
theorem rep_row {w:World} {base m:Nat} {v:Bool} (hm:m≤8) (h:w.heap[base]? = some (.cells (List.replicate m (Value.bool v) ++ List.replicate (m - m) (Value.bool false)).toArray 4 (0,0))):Kd.R Kd.bool 4 w base (fun _=>True) (.slice (some ⟨base,0,none⟩) m m) (List.replicate m v):=by
 refine Kd.R_of_own ?_ (fun _ _=>trivial)
 refine ⟨by simp[encs], .inr ⟨base,m,_,by simp,Nat.le_refl _,h,by simp,by unfold maxLen;omega,by simp,?_⟩⟩
 simp[encs]
def slices_Repeat_bool_bool.f (l0:List Bool) (a1:Int):Option (List Bool):=if 0≤a1∧a1≤8∧l0.length=1 then some (List.replicate a1.toNat (rdOf false l0 0)) else none
set_option maxHeartbeats 4000000 in
set_option maxRecDepth 100000 in
theorem repeat_calls (A0:Option Addr) (c0:Nat) (v:Bool) (m:Nat) (hm:m≤8) (w:World) (hr0:Kd.C Kd.bool w A0 1 [v]) :
  Calls Try.prog 74 #[.slice A0 1 c0, .int .i64 (m:Int)] w fun e w'=>∃ v0_:Value,e = .returned (v0_)∧Kd.R Kd.bool 4 w' w.heap.size (fun _=>True) v0_ (List.replicate m v)∧Below w.heap.size w w':=by
 obtain ⟨ad,rfl,hx0⟩:=Kd.at_bool hr0 0 (by omega) (by omega)
 have hx:w.cell? (ad.add 0)=some (.bool v):=by simpa [rdOf] using hx0
 have hinfo:(Try.prog.info? 4).map (fun i=>(i.zero,i.size,i.bytes))=some (some (.bool false),1,1):=by kernel_rfl
 have hsz1:(Try.prog.info? 4).map (·.size)=some 1:=by kernel_rfl
 have hmul:=mulOne m hm
 have hmk:=fun W:World=>run_make_row' (P:=Try.prog) 36 4 (.bool false) 1 Try.underlying36 hinfo rfl .i64 .i64 m (by omega) (by omega) W
 rw[made_rep (.bool false) m] at hmk
 have HX:=am' hx
 have HI:=am' hsz1
 have HM:=am' hmul
 clear hr0 hx0 hx hinfo hsz1 hmul;have hm0:(0:Int)≤(m:Int):=by omega
 have hm8:(m:Int)≤8:=by omega
 go_enter Try.func74,Try.ntmps74
 go_wp2_with (first|(go_at_call 87;refine (bits_Mul.calls 1 m 0 m _ HM.out).mono ?_;rintro e w' ⟨rfl,⟨nd,rfl⟩⟩)|((with_reducible refine gate_builtin (b := .copy) (xs:=#[.tmp 31, .tmp 32]) rfl ?_);refine wpList_copy_splice rfl (.tmp 31) (.tmp 32) 36 36 rfl 4 Try.underlying36 HI.out (some ⟨w.heap.size,0,none⟩) (some ad) m m 1 c0 rfl rfl w.heap.size 0 (List.replicate m (.bool false)) 4 ?hg1 (List.replicate (min 1 m) (.bool v)) ?hn1 ?hp1 ?hf1 ?ho1 w.heap.size w ?hb1 (Nat.le_refl _) ?_;(case hg1=>exact heap_alloc_new (w.drewN nd) _);(case hn1=>simp [Nat.min_def]);(case hp1=>exact fun hp=>⟨rfl,ad,rfl,rep_cells HX.out m (bd' (Below.refl _ _) nd) _⟩);(case hf1=>simp;omega);(case ho1=>exact rep_one _ _);(case hb1=>exact ba' (bd' (Below.refl _ _) nd) _);intro w1 hc1 hb1;have HC1:=am' (rep_first hc1.out);have HB1:=am' hb1;clear hc1 hb1))
 go_loopg [8] m (fun gg s8 wr=>∃ n:Nat,s8 = .int .i64 (n:Int)∧min 1 m≤n∧n≤m∧m - n≤gg∧Aside0 (wr.heap[w.heap.size]? = some (.cells (List.replicate n (Value.bool v) ++ List.replicate (m - n) (Value.bool false)).toArray 4 (0,0)))∧Aside0 (Below w.heap.size w wr))
 case atStart=>exact ⟨min 1 m,by simp,Nat.le_refl _,Nat.min_le_right _ _,by omega,HC1,HB1⟩
 case round =>
  obtain ⟨n,rfl,h1n,hnm,hng,HC,HB⟩:=hrel;clear HC1 HB1;by_cases hlt:n < m
  ·
   have d0:decide ((n:Int) < (m:Int))=true:=by simp;omega
   have q0:(0≤(n:Int))=True:=by simp
   have q1:((n:Int)≤(m:Int))=True:=by simp;omega
   go_wp2;go_region_law (refine step_copy_splice rfl (.tmp 41) (.tmp 44) 36 36 rfl 4 Try.underlying36 HI.out (some ⟨w.heap.size,n,none⟩) (some ⟨w.heap.size,0,none⟩) (m - n) (m - n) n m ?hd ?hs w.heap.size n (List.replicate n (Value.bool v) ++ List.replicate (m - n) (Value.bool false)) 4 ?hg1 (List.replicate (min n (m - n)) (Value.bool v)) ?hn1 ?hp1 ?hf1 (rep_one _ _) w.heap.size w ?hb1 (Nat.le_refl _) ?_;(case hd=>go_simp;omega);(case hs=>go_simp);(case hg1=>exact HC.out);(case hn1=>simp [Nat.min_def]);(case hp1=>exact fun hp=>⟨rfl,_,rfl,rep_self HC.out hnm⟩);(case hf1=>simp;omega);(case hb1=>exact bd' HB.out 1);intro w1 hc1 hb1;have HC1:=am' (rep_next hc1.out);have HB1:=am' hb1;clear hc1 hb1)
   go_wp2;go_roundg (m - (n+min n (m - n)))
   case measure=>omega
   case rel=>exact ⟨n+min n (m - n),by (show Value.int _ _=Value.int _ _);congr 1;exact (i64_w _).trans ((wr_id (a:=(n:Int)+(min n (m - n):Nat)) (by omega) (by omega)).trans (Int.natCast_add _ _).symm),by omega,by omega,by omega,HC1,HB1⟩
  ·
   have d0:decide ((n:Int) < (m:Int))=false:=by simp;omega
   go_wp2;go_ret
   obtain rfl:n=m:=by omega
   refine ⟨_,rfl,?_,HB.out⟩;exact rep_row hm HC.out
theorem slices_Repeat_bool_bool.calls (A0:Option Addr) (c0:Nat) (l0:List Bool) (a1:Int) (r:List Bool) (w:World) (hr0:Kd.C Kd.bool w A0 l0.length l0) (hc0:l0.length≤c0) (h:slices_Repeat_bool_bool.f l0 a1=some r) :
  Calls Try.prog 74 #[.slice A0 l0.length c0, .int .i64 a1] w fun e w'=>∃ v0_:Value,e = .returned (v0_)∧Kd.R Kd.bool 4 w' w.heap.size (fun _=>True) v0_ r∧Below w.heap.size w w':=by
 unfold slices_Repeat_bool_bool.f at h
 by_cases hc:0≤a1∧a1≤8∧l0.length=1
 ·
  rw[if_pos hc] at h;obtain ⟨h0,h8,h1⟩:=hc;obtain rfl:=Option.some.inj h;obtain ⟨m,rfl⟩:=Int.eq_ofNat_of_zero_le h0;match l0,h1 with
  | [v],_=>exact repeat_calls A0 c0 v m (by omega) w hr0
 ·
  rw[if_neg hc] at h;cases h
def impl_allAt.f (a0:Int) (a1:Bool):Option (List Bool × Bool):=(slices_Repeat_bool_bool.f (([a1]:List Bool)) a0).bind fun t192=>(some (t192,a1))
set_option maxHeartbeats 8000000 in
set_option maxRecDepth 100000 in
theorem impl_allAt.calls (a0:Int) (a1:Bool) (r1:List Bool) (r2:Bool) (w:World) (h:impl_allAt.f a0 a1=some (r1,r2)) :
  Calls Try.prog 40 #[.int .i64 a0, .bool a1] w fun e w'=>∃ v0_:Value,e = .returned (.agg #[v0_, .bool r2])∧Kd.R Kd.bool 4 w' w.heap.size (fun _=>True) v0_ r1∧Below w.heap.size w w':=by
 have hu59:=Try.underlying59
 have HB:=am' (Below.refl w.heap.size w)
 have H:((slices_Repeat_bool_bool.f (([a1]:List Bool)) a0).bind fun t192=>(some (t192,a1)))=some (r1,r2):=h
 clear h;obtain ⟨y189,hy189⟩:∃ y_:List Bool,y_=(([a1]:List Bool)):=⟨_,rfl⟩
 replace H:((slices_Repeat_bool_bool.f y189 a0).bind fun t192=>(some (t192,a1)))=some (r1,r2):=by first|(rw[hy189];with_reducible exact H)|(have H2_:=(Option.bind_some _ _).symm.trans H;rw[hy189];with_reducible exact H2_)|(have H2_:=(Option.bind_some _ _).symm.trans H;with_reducible exact H2_)|with_reducible exact H|(rw[hy189];exact H)|exact H
 have Ny189:=am' hy189
 clear hy189;replace H:=Option.bind_eq_some_iff.mp H
 obtain ⟨t192,A30,H⟩:=H
 replace H:(some (t192,a1))=some (r1,r2):=H
 have A3:=am' A30
 clear A30;simp only[Option.some.injEq,Prod.mk.injEq] at H
 obtain ⟨rfl,rfl⟩:=H
 go_enter Try.func40,Try.ntmps40
 go_wp2_with (first|((with_reducible refine gate_dst (N:=4) rfl ?_);refine box_event ?hg (N:=4) ?hd (cs:=#[.slice none 0 0, .bool false]) (t:=59) ?hr ?_;(case hd=>rfl);(case hg=>rfl);(case hr=>first|(go_simp;done)|(go_simp;rfl));intro gb188 hg w4 hbox hb;have n0_:=am' (below_step (by repeat (first|(with_reducible first|exact HB.out|apply ba'|apply bd'|apply be')|exact HB.out)) hb);have n1_:=am' (hbox);have n2_:=am' ((by rw[hg];exact (below_size (by repeat (first|(with_reducible first|exact HB.out|apply ba'|apply bd'|apply be')|exact HB.out))):w.heap.size≤gb188));have n3_:=am' ((by rw[hg];exact (below_size (by repeat (first|(with_reducible first|exact HB.out|apply ba'|apply bd'|apply be')|exact HB.out))):w.heap.size≤gb188));clear HB;have HB:=n0_;have BK188:=n1_;have GW188:=n2_;have GE188:=n3_;clear n0_ n1_ n2_ n3_;clear hb hbox hg)|((with_reducible refine gate_dst (N:=6) rfl ?_);refine Kd.R_lit Kd.bool _ 4 ?hg (N:=6) ?hd (xs:=([a1]:List Bool)) (inner:=[.bool a1]) (ok:=fun _=>True) (okp:=fun _=>True) ?hr ?hp (fun _ hk=>hk) trivial (Below.refl _ _) (Nat.le_refl _) (by simp) ?_;(case hd=>rfl);(case hg=>rfl);(case hr=>first|(go_simp;done)|(go_simp;rfl));(case hp=>exact (Reps.one (show Kd.M Kd.bool _ _ _ a1 [.bool a1] from rfl) (Reps.none _ _)));intro v190 w5 ho6 hb hg_ hnew_;clear hg_ hnew_;(first|rw[← Ny189.out] at ho6|(simp only[Int.reduceToNat] at ho6;rw[← Ny189.out] at ho6));have n0_:=am' (Kd.R_lower ho6 (below_size (by repeat (first|(with_reducible first|exact HB.out|apply ba'|apply bd'|apply be'|refine bs' ?_ GE188.out)|exact HB.out))));have n1_:=am' (blk_below (g:=gb188) (o := .cells #[.slice none 0 0, .bool false] 59 (0,0)) (by (with_reducible repeat (first|refine kn' ?_ _|refine kd' ?_|refine ka' ?_ _));exact BK188.out) hb);have n2_:=am' (below_step (by repeat (first|(with_reducible first|exact HB.out|apply ba'|apply bd'|apply be'|refine bs' ?_ GE188.out)|exact HB.out)) hb);clear BK188;clear HB;have HO191:=n0_;have BK188:=n1_;have HB:=n2_;clear n0_ n1_ n2_;clear hb ho6;obtain ⟨Ao7,co7,eo7⟩:=Kd.R_slice HO191.out;subst eo7)|((with_reducible refine gate_callee (f:=74) rfl ?_);refine goesL_ (some 8) rfl rfl Try.func74 (by kernel_rfl) rfl #[.slice Ao7 y189.length co7, .int .i64 a0] rfl (by (try simp only[List.map_toArray,List.map_cons,List.map_nil]);first|done|rfl|(simp only[List.length_drop,List.length_take];rfl)) ?_;(with_reducible refine (slices_Repeat_bool_bool.calls _ _ y189 a0 t192 _ ?side1 ?side2 A3.out).mono ?_);(case side1=>repeat (first|exact (Kd.R_reads' HO191.out).2.2|(with_reducible refine ca' ?_ _)|(with_reducible refine cn' ?_ _)|(with_reducible refine cd' ?_)));(case side2=>exact (Kd.R_reads' HO191.out).2.1);rintro e w8 ⟨v193,rfl,ho0,hb⟩;refine ⟨_,rfl,?_⟩;have n0_:=am' (Kd.R_elder' (by (with_reducible repeat (first|apply ra'|apply rn'|apply rw'));exact HO191.out) (Kd.R_base ho0) hb);have n1_:=am' (Kd.R_lower (Kd.R_new' ho0 (Kd.R_lt (by (with_reducible repeat (first|apply ra'|apply rn'|apply rw'));exact HO191.out))) (below_size (by repeat (first|(with_reducible first|exact HB.out|apply ba'|apply bd'|apply be'|refine bs' ?_ GE188.out)|exact HB.out))));have n2_:=am' (blk_below (g:=gb188) (o := .cells #[.slice none 0 0, .bool false] 59 (0,0)) (by (with_reducible repeat (first|refine kn' ?_ _|refine kd' ?_|refine ka' ?_ _));exact BK188.out) hb);have n3_:=am' (below_step (by repeat (first|(with_reducible first|exact HB.out|apply ba'|apply bd'|apply be'|refine bs' ?_ GE188.out)|exact HB.out)) hb);clear HO191;clear BK188;clear HB;have HO191:=n0_;have HO194:=n1_;have BK188:=n2_;have HB:=n3_;clear n0_ n1_ n2_ n3_;(try clear hb);(try clear hb2);(try clear hk);(try clear hi);(try clear ho0);obtain ⟨Ao9,co9,eo9⟩:=Kd.R_slice HO194.out;subst eo9;have hcz10_0:w8.cell? ⟨gb188,0,none⟩=some (.slice none 0 0):=(blk_cell BK188.out 0).trans rfl;have hcz10_1:w8.cell? ⟨gb188,1,none⟩=some (.bool false):=(blk_cell BK188.out 1).trans rfl;have hfz10_0:=blk_frozen BK188.out 0;have hfz10_1:=blk_frozen BK188.out 1))
 refine bodyPost_ret (results_cell_row rfl _ _ gb188 59 #[.slice Ao9 t192.length co9, .bool a1] (0,0) _ rfl (by (with_reducible repeat (first|refine kn' ?_ _|refine kd' ?_|refine ka' ?_ _));refine blk_put (cs:=#[.slice Ao9 t192.length co9, .bool false]) ?_ 1 _ rfl;(with_reducible repeat (first|refine kn' ?_ _|refine kd' ?_|refine ka' ?_ _));refine blk_put (cs:=#[.slice none 0 0, .bool false]) ?_ 0 _ rfl;(with_reducible repeat (first|refine kn' ?_ _|refine kd' ?_|refine ka' ?_ _));exact BK188.out) Try.underlying59 rfl (by kernel_rfl)) rfl ?_
 exact ⟨_,by first|rfl|(simp[errW_none,errW_some] <;> rfl)|(simp[*,errW_none,errW_some] <;> rfl),by (with_reducible repeat (first|apply ra'|apply rn'|apply rw'));exact Kd.R_mono (Kd.R_far (p:=⟨gb188,1,none⟩) (Kd.R_far (p:=⟨gb188,0,none⟩) (Kd.R_types HO194.out BK188.out (by decide)) (fun _ hk=>hk.2) (.slice Ao9 t192.length co9)) (fun _ hk=>hk.2) (.bool a1)) (fun _ hk=>trivial),by repeat (first|(with_reducible first|exact HB.out|apply ba'|apply bd'|apply be'|refine bs' ?_ GE188.out)|exact HB.out)⟩
def impl_State_side.l0:Nat→Bool→List Int→List Bool→Int→Int→Option (List Int)
 | 0,_,_,_,_,_=>none
 | k+1,x1,x5,x10,x11,x12=>if x12 < x11 then (if 0≤x12 then (if x12 < (x10.length:Int) then (if ((rdOf false x10 x12) == x1)=true then (if x5.length < 17592186044416 then (impl_State_side.l0 k x1 (x5 ++ [x12]) x10 x11 (wrap64 (x12+1))) else (none)) else (impl_State_side.l0 k x1 x5 x10 x11 (wrap64 (x12+1)))) else (none)) else (none)) else (some x5)
def impl_State_side.f (k:Nat) (l0_0:List Bool) (a0_1:Bool) (a1:Bool):Option (List Int):=impl_State_side.l0 k a1 (([]:List Int)) l0_0 (l0_0.length:Int) 0
set_option maxHeartbeats 8000000 in
set_option maxRecDepth 100000 in
theorem impl_State_side.calls (k:Nat) (A0_0:Option Addr) (c0_0:Nat) (l0_0:List Bool) (a0_1:Bool) (a1:Bool) (r:List Int) (w:World) (hr0_0:Kd.C Kd.bool w A0_0 l0_0.length l0_0) (hc0_0:l0_0.length≤c0_0) (h:impl_State_side.f k l0_0 a0_1 a1=some r) :
  Calls Try.prog 41 #[.agg #[.slice A0_0 l0_0.length c0_0, .bool a0_1], .bool a1] w fun e w'=>∃ v0_:Value,e = .returned (v0_)∧Kd.R (Kd.int .i64) 3 w' w.heap.size (fun _=>True) v0_ r∧Below w.heap.size w w':=by
 have hu59:=Try.underlying59
 have HR0_0:=am' hr0_0
 have HC0_0:=am' hc0_0
 clear hr0_0 hc0_0;have HB:=am' (Below.refl w.heap.size w)
 have H:(impl_State_side.l0 k a1 (([]:List Int)) l0_0 (l0_0.length:Int) 0)=some r:=h
 clear h;obtain ⟨y196,hy196⟩:∃ y_:List Int,y_=(([]:List Int)):=⟨_,rfl⟩
 replace H:(impl_State_side.l0 k a1 y196 l0_0 (l0_0.length:Int) 0)=some r:=by first|(rw[hy196];with_reducible exact H)|(have H2_:=(Option.bind_some _ _).symm.trans H;rw[hy196];with_reducible exact H2_)|(have H2_:=(Option.bind_some _ _).symm.trans H;with_reducible exact H2_)|with_reducible exact H|(rw[hy196];exact H)|exact H
 have Ny196:=am' hy196
 clear hy196;have H':=am' H
 clear H;go_enter Try.func41,Try.ntmps41
 go_wp2_with (first|((with_reducible refine gate_dst (N:=2) rfl ?_);refine box_event ?hg (N:=2) ?hd (cs:=#[.slice A0_0 l0_0.length c0_0, .bool a0_1]) (t:=59) ?hr ?_;(case hd=>rfl);(case hg=>rfl);(case hr=>first|(go_simp;done)|(go_simp;rfl));intro gb195 hg w3 hbox hb;have n0_:=am' (below_step (by repeat (first|(with_reducible first|exact HB.out|apply ba'|apply bd'|apply be')|exact HB.out)) hb);have n1_:=am' (hbox);have n2_:=am' ((by rw[hg];exact (below_size (by repeat (first|(with_reducible first|exact HB.out|apply ba'|apply bd'|apply be')|exact HB.out))):w.heap.size≤gb195));have n3_:=am' ((by rw[hg];exact (below_size (by repeat (first|(with_reducible first|exact HB.out|apply ba'|apply bd'|apply be')|exact HB.out))):w.heap.size≤gb195));clear HB;have HB:=n0_;have BK195:=n1_;have GW195:=n2_;have GE195:=n3_;clear n0_ n1_ n2_ n3_;clear hb hbox hg)|((with_reducible refine gate_dst (N:=8) rfl ?_);refine Kd.R_lit (Kd.int .i64) _ 3 ?hg (N:=8) ?hd (xs:=([]:List Int)) (inner:=[]) (ok:=fun _=>True) (okp:=fun _=>True) ?hr ?hp (fun _ hk=>hk) trivial (Below.refl _ _) (Nat.le_refl _) (by simp) ?_;(case hd=>rfl);(case hg=>rfl);(case hr=>first|(go_simp;done)|(go_simp;rfl));(case hp=>exact (Reps.none _ _));intro v197 w4 ho5 hb hg_ hnew_;clear hg_ hnew_;(first|rw[← Ny196.out] at ho5|(simp only[Int.reduceToNat] at ho5;rw[← Ny196.out] at ho5));have n0_:=am' (Kd.R_lower ho5 (below_size (by repeat (first|(with_reducible first|exact HB.out|apply ba'|apply bd'|apply be'|refine bs' ?_ GE195.out)|exact HB.out))));have n1_:=am' (blk_below (g:=gb195) (o := .cells #[.slice A0_0 l0_0.length c0_0, .bool a0_1] 59 (0,0)) (by (with_reducible repeat (first|refine kn' ?_ _|refine kd' ?_|refine ka' ?_ _));exact BK195.out) hb);have n2_:=am' (below_step (by repeat (first|(with_reducible first|exact HB.out|apply ba'|apply bd'|apply be'|refine bs' ?_ GE195.out)|exact HB.out)) hb);clear BK195;clear HB;have HO198:=n0_;have BK195:=n1_;have HB:=n2_;clear n0_ n1_ n2_;clear hb ho5;have hcz6_0:w4.cell? ⟨gb195,0,none⟩=some (.slice A0_0 l0_0.length c0_0):=(blk_cell BK195.out 0).trans rfl;have hcz6_1:w4.cell? ⟨gb195,1,none⟩=some (.bool a0_1):=(blk_cell BK195.out 1).trans rfl;have hfz6_0:=blk_frozen BK195.out 0;have hfz6_1:=blk_frozen BK195.out 1))
 go_loopg [5,12] k (fun kq v5 v12 w'=>∃ (x5_1:List Int) (x12_1:Int),v12 = .int .i64 x12_1∧Aside0 (impl_State_side.l0 kq a1 x5_1 l0_0 (l0_0.length:Int) x12_1=some r)∧Aside0 (kq≤k)∧Aside0 (Kd.R (Kd.int .i64) 3 w' w.heap.size (fun _=>True) v5 x5_1)∧Aside0 (w'.heap[gb195]? = some (.cells #[(.slice A0_0 l0_0.length c0_0), .bool a0_1] 59 (0,0)))∧Aside0 (Below w.heap.size w w'))
 case atStart=>exact ⟨(y196),(0),(by first|rfl|(simp;done)|(simp[*];done)),H',⟨Nat.le_refl _⟩,⟨by (with_reducible repeat (first|apply ra'|apply rn'|apply rw'));exact HO198.out⟩,⟨by (with_reducible repeat (first|refine kn' ?_ _|refine kd' ?_|refine ka' ?_ _));exact BK195.out⟩,⟨by repeat (first|(with_reducible first|exact HB.out|apply ba'|apply bd'|apply be'|refine bs' ?_ GE195.out)|exact HB.out)⟩⟩
 case round =>
  clear H';try clear p2
  try clear c4
  try clear hcz6_0
  try clear hcz6_1
  try clear hfz6_0
  try clear hfz6_1
  obtain ⟨x5_1,x12_1,rfl,HA,HK1,HO_5,BK195,HB⟩:=hrel;cases gk with
  | zero=>exact absurd HA.out (by simp[impl_State_side.l0])
  | succ k1 =>
   have H:=HA.out;clear HA;simp only[impl_State_side.l0] at H;by_cases c7:x12_1 < (l0_0.length:Int)
   ·
    rw[if_pos c7] at H;have c7b0:decide (x12_1 < (l0_0.length:Int))=true:=decide_eq_true c7;clear c7;by_cases c8:0≤x12_1
    ·
     rw[if_pos c8] at H;have c8b0:decide (0≤x12_1)=true:=decide_eq_true c8;clear c8;by_cases c9:x12_1 < (l0_0.length:Int)
     ·
      rw[if_pos c9] at H;have c9b0:decide (x12_1 < (l0_0.length:Int))=true:=decide_eq_true c9;clear c9;by_cases c10:((rdOf false l0_0 x12_1) == a1)=true
      ·
       rw[if_pos c10] at H;have c10b0:((rdOf false l0_0 x12_1) == a1)=true:=c10
       (try (have c10b1:decide ((rdOf false l0_0 x12_1)=a1)=true:=by simpa using c10))
       (try (have c10b2:((rdOf false l0_0 x12_1) == a1)=true:=by simpa using c10))
       clear c10;by_cases c11:x5_1.length < 17592186044416
       ·
        rw[if_pos c11] at H;have LMc11:=am' c11;clear c11;obtain ⟨y200,hy200⟩:∃ y_:List Int,y_=(x5_1 ++ [x12_1]):=⟨_,rfl⟩
        replace H:(impl_State_side.l0 k1 a1 y200 l0_0 (l0_0.length:Int) (wrap64 (x12_1+1)))=some r:=by first|(rw[hy200];with_reducible exact H)|(have H2_:=(Option.bind_some _ _).symm.trans H;rw[hy200];with_reducible exact H2_)|(have H2_:=(Option.bind_some _ _).symm.trans H;with_reducible exact H2_)|with_reducible exact H|(rw[hy200];exact H)|exact H
        have Ny200:=am' hy200;clear hy200;have H':=am' H;clear H;have p199:0≤(x12_1:Int):=of_decide_eq_true (by first|(with_reducible assumption)|assumption);have q199:x12_1 < (l0_0.length:Int):=of_decide_eq_true (by first|(with_reducible assumption)|assumption);obtain ⟨ad199,e199,hx199_0⟩:=Kd.at_bool HR0_0.out x12_1 p199 q199;cases e199;replace hx199_0:=(HB.out.cell (bl' w _ hx199_0)).trans hx199_0;replace p199:=eq_true p199;replace q199:=eq_true q199;go_wp2_with (first|((with_reducible refine gate_builtin (b := .append) (xs:=#[.tmp 20, .tmp 22]) rfl ?_);at_builtin;refine Kd.R_append (Kd.int .i64) (w0:=w) w.heap.size rfl (.tmp 20) (.tmp 22) 26 3 (.int .i64 0) 8 rfl Try.underlying26 info3 rfl (by decide) (by omega) u5 x5_1 x12_1 [.int .i64 x12_1] (fun _=>True) (fun _=>False) rfl rfl ?aP (fun _ hk=>hk.elim) ?aF ?aO ?aB ?aS ?aL ?_;(case aP=>exact rfl);(case aB=>exact (by repeat (first|(with_reducible first|exact HB.out|apply ba'|apply bd'|apply be'|refine bs' ?_ GE195.out)|exact HB.out)));(case aF=>exact (fun _ _=>trivial));(case aO=>exact (by (with_reducible repeat (first|apply ra'|apply rn'|apply rw'));exact HO_5.out));(case aS=>exact (below_size (by repeat (first|(with_reducible first|exact HB.out|apply ba'|apply bd'|apply be'|refine bs' ?_ GE195.out)|exact HB.out))));(case aL=>have:=LMc11.out;omega);intro v201 w12 ho hb hg hat;rw[← Ny200.out] at ho;have n0_:=am' (blk_grown (g:=gb195) (o := .cells #[.slice (some ad199) l0_0.length c0_0, .bool a0_1] 59 (0,0)) (by (with_reducible repeat (first|refine kn' ?_ _|refine kd' ?_|refine ka' ?_ _));exact BK195.out) hg (Kd.R_ne HO_5.out BK195.out (by decide)));have n1_:=am' (hb);have n2_:=am' (ho);clear BK195;clear HB;clear HO_5;have BK195:=n0_;have HB:=n1_;have HO202:=n2_;clear n0_ n1_ n2_;clear ho hb hg hat));go_roundg k1
        case measure=>have:=HK1.out;omega
        case rel=>exact ⟨(y200),(wrap64 (x12_1+1)),(by first|rfl|(simp;done)|(simp[*];done)),H',⟨by have:=HK1.out;omega⟩,⟨by (with_reducible repeat (first|apply ra'|apply rn'|apply rw'));exact HO202.out⟩,⟨by (with_reducible repeat (first|refine kn' ?_ _|refine kd' ?_|refine ka' ?_ _));exact BK195.out⟩,⟨by repeat (first|(with_reducible first|exact HB.out|apply ba'|apply bd'|apply be'|refine bs' ?_ GE195.out)|exact HB.out)⟩⟩
       ·
        rw[if_neg c11] at H;exact absurd H (by simp)
      ·
       rw[if_neg c10] at H;have c10b0:((rdOf false l0_0 x12_1) == a1)=false:=by simpa using c10
       (try (have c10b1:decide ((rdOf false l0_0 x12_1)=a1)=false:=by simpa using c10))
       (try (have c10b2:((rdOf false l0_0 x12_1) == a1)=false:=by simpa using c10))
       (try (have c10b3:¬ ((rdOf false l0_0 x12_1)=a1):=by simpa using c10))
       clear c10;have H':=am' H;clear H;have p199:0≤(x12_1:Int):=of_decide_eq_true (by first|(with_reducible assumption)|assumption);have q199:x12_1 < (l0_0.length:Int):=of_decide_eq_true (by first|(with_reducible assumption)|assumption);obtain ⟨ad199,e199,hx199_0⟩:=Kd.at_bool HR0_0.out x12_1 p199 q199;cases e199;replace hx199_0:=(HB.out.cell (bl' w _ hx199_0)).trans hx199_0;replace p199:=eq_true p199;replace q199:=eq_true q199;go_wp2;go_roundg k1
       case measure=>have:=HK1.out;omega
       case rel=>exact ⟨(x5_1),(wrap64 (x12_1+1)),(by first|rfl|(simp;done)|(simp[*];done)),H',⟨by have:=HK1.out;omega⟩,⟨by (with_reducible repeat (first|apply ra'|apply rn'|apply rw'));exact HO_5.out⟩,⟨by (with_reducible repeat (first|refine kn' ?_ _|refine kd' ?_|refine ka' ?_ _));exact BK195.out⟩,⟨by repeat (first|(with_reducible first|exact HB.out|apply ba'|apply bd'|apply be'|refine bs' ?_ GE195.out)|exact HB.out)⟩⟩
     ·
      rw[if_neg c9] at H;exact absurd H (by simp)
    ·
     rw[if_neg c8] at H;exact absurd H (by simp)
   ·
    rw[if_neg c7] at H;have c7b0:decide (x12_1 < (l0_0.length:Int))=false:=decide_eq_false c7;clear c7;obtain rfl:=Option.some.inj H;go_wp2;go_ret
    exact ⟨_,by first|rfl|(simp[errW_none,errW_some] <;> rfl)|(simp[*,errW_none,errW_some] <;> rfl),by (with_reducible repeat (first|apply ra'|apply rn'|apply rw'));exact HO_5.out,by repeat (first|(with_reducible first|exact HB.out|apply ba'|apply bd'|apply be'|refine bs' ?_ GE195.out)|exact HB.out)⟩
def slices_Clone_int_int.f (l0:List Int):Option (List Int):=if l0.length < 17592186044416 then some l0 else none
set_option maxHeartbeats 2000000 in
set_option maxRecDepth 100000 in
theorem slices_Clone_int_int.calls (A0:Option Addr) (c0:Nat) (l0:List Int) (r:List Int) (w:World) (hr0:Kd.C (Kd.int .i64) w A0 l0.length l0) (hc0:l0.length≤c0) (h:slices_Clone_int_int.f l0=some r) :
  Calls Try.prog 76 #[.slice A0 l0.length c0] w fun e w'=>∃ v0_:Value,e = .returned (v0_)∧Kd.R (Kd.int .i64) 3 w' w.heap.size (fun _=>True) v0_ r∧Below w.heap.size w w':=by
 have hinfo:(Try.prog.info? 3).map (fun i=>(i.zero,i.size,i.bytes))=some (some (.int .i64 0),1,8):=by kernel_rfl
 obtain ⟨hlim,rfl⟩:l0.length < 17592186044416∧l0=r:=by
  unfold slices_Clone_int_int.f at h
  by_cases hl:l0.length < 17592186044416
  ·
   rw[if_pos hl] at h;exact ⟨hl,Option.some.inj h⟩
  ·
   rw[if_neg hl] at h;cases h
 clear h;cases A0 with
 | none =>
  obtain rfl:l0=[]:=by
   cases l0 with
   | nil=>rfl
   | cons x l=>obtain ⟨_,e,_⟩:=hr0.2.2 (by simp);cases e
  clear hr0 hc0 hlim hinfo;have heq:=fun (w:World) (n c:Nat)=>Lib.run_eql_slice_nil (P:=Try.prog) w 26 3 none n c 0 0 Try.underlying26
  go_enter Try.func76,Try.ntmps76;go_wp2;go_ret
  exact ⟨_,rfl,Kd.R_nil _ _ _ _ _,Below.refl _ _⟩
 | some a =>
  have HR0:=am' hr0;have HL:=am' hlim;have hie:=am' hinfo;clear hr0 hc0 hlim hinfo;have HB:=am' (Below.refl w.heap.size w);have heq:=fun (w:World) (n c:Nat)=>Lib.run_eql_slice_nil (P:=Try.prog) w 26 3 (some a) n c 0 0 Try.underlying26
  go_enter Try.func76,Try.ntmps76;go_wp2_with (first|((with_reducible refine gate_dst (N:=5) rfl ?_);refine Kd.R_lit (Kd.int .i64) _ 3 ?hg (N:=5) ?hd (xs:=([]:List Int)) (inner:=[]) (ok:=fun _=>True) (okp:=fun _=>True) ?hr ?hp (fun _ hk=>hk) trivial (Below.refl _ _) (Nat.le_refl _) (by simp) ?_;(case hd=>rfl);(case hg=>rfl);(case hr=>first|(go_simp;done)|(go_simp;rfl));(case hp=>exact (Reps.none _ _));intro v210 w3 ho4 hb hg_ hnew_;clear hg_ hnew_;have n0_:=am' (Kd.R_lower ho4 (below_size HB.out));have n1_:=am' (below_step HB.out hb);clear HB;have HO211:=n0_;have HB:=n1_;clear n0_ n1_;clear hb ho4)|((with_reducible refine gate_builtin (b := .append) (xs:=#[.tmp 5, .tmp 6]) rfl ?_);at_builtin;refine Kd.R_append_rows (Kd.int .i64) (w0:=w) w.heap.size rfl (.tmp 5) (.tmp 6) 26 3 (.int .i64 0) 8 rfl Try.underlying26 hie.out rfl (by decide) (by omega) v210 [] l0 _ _ _ (fun _=>True) (fun _=>False) rfl rfl ?aO ?aR (fun _ _ h=>h) (fun _ h=>h.elim) ?aF ?aB ?aS ?aL ?_;(case aR=>exact (Kd.C_below HR0.out HB.out));(case aB=>exact HB.out);(case aF=>exact (fun _ _=>trivial));(case aO=>exact HO211.out);(case aS=>exact (below_size HB.out));(case aL=>have:=HL.out;simp;omega);intro v213 w5 ho hb hg hat;have n0_:=am' (hb);have n1_:=am' (ho);clear HB;clear HO211;have HB:=n0_;have HO214:=n1_;clear n0_ n1_;clear ho hb hg hat));go_ret
  exact ⟨_,rfl,by simpa using HO214.out,HB.out⟩
end Go.Proofs.Ytcjjhkapdlfaeaa.C1
