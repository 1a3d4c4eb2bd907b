import Derived.Test.YtamljjfhkolflaaC11zx0
import Derived.Test.YtamljjfhkolflaaC11zx9
import Derived.Test.YtamljjfhkolflaaC11zx10
import Derived.Test.YtamljjfhkolflaaC11zx11
import Derived.Test.YtamljjfhkolflaaC11zx12
import Derived.Test.YtamljjfhkolflaaC11zAl
namespace Go.Proofs.Ytamljjfhkolflaa.C11
open Go.RowKit Go.Proofs.YtamljjfhkolflaaW.PrintWords Go.Proofs.YtamljjfhkolflaaW.PrintLast Go.Proofs.YtamljjfhkolflaaW.PrintMore Go.Proofs.Ytamljjfhkolflaa.H
attribute [local go_sem] max2_int min2_int max_two min_two max_three min_three max_four min_four
set_option linter.unusedVariables false
set_option linter.unusedSimpArgs false
theorem R_emptyB {e base b:Nat} {W:World} {q:Nat→Prop} (h:W.heap[b]? = some (.cells #[] e (0,0))) (hB:base≤b):Kd.bool.R e W base (fun k=>k=b∨q k) (.slice (some ⟨b,0,none⟩) 0 0) []:=by
 refine Kd.R_of_own ?_ (fun k hk => .inl (Option.some.inj (show some _=some _ from hk)).symm)
 exact ⟨by simp[encs], .inr ⟨b,0,_,rfl,hB,h,Nat.le_refl _,by decide,by simp,by simp[encs]⟩⟩
def onP (tl:List Int) (s:Nat) (d:Int):Bool:=decide (0≤d) && (decide (0≤rd tl (s:Int)) && (d+rd tl (s:Int) == rd tl 0))
def onL (tl:List Int):List Int→Nat→List Bool
 | [],_=>[]
 | d :: r,s=>onP tl s d :: onL tl r (s+1)
theorem onL_len (tl:List Int):∀ (l:List Int) (s:Nat),(onL tl l s).length=l.length:=by
 intro l;induction l with
 | nil=>intro s;rfl
 | cons x l ih=>intro s;simp only[onL,List.length_cons,ih]
theorem onL_snoc (tl:List Int):∀ (l:List Int) (s:Nat) (x:Int),onL tl (l ++ [x]) s=onL tl l s ++ [onP tl (s+l.length) x]:=by
 intro l;induction l with
 | nil=>intro s x;rfl
 | cons y l ih=>intro s x;simp only[List.cons_append,onL,ih,List.length_cons];rw[show s+1+l.length=s+(l.length+1) by omega]
theorem take_snocB (l:List Int) (i:Nat) (h:i < l.length):l.take (i+1)=l.take i ++ [rd l (i:Nat)]:=by
 rw[List.take_add_one]
 simp[rd,List.getD_eq_getElem?_getD,List.getElem?_eq_getElem h]
def impl_Party_onBest.f (k:Nat) (l0_0:List Int) (a0_1:Int):Option (List Bool × Bool) :=
 (impl_Party_costs.f k l0_0 a0_1 true).bind fun p=>if p.2=true then ((bkD (ptyOut k true l0_0 a0_1) k 0 (List.replicate (2 ^ (l0_0.length+1)) (-1)) [[0]]).bind fun r=>if r.length=2 ^ (l0_0.length+1)∧(∀ x ∈ p.1, -1099511627776≤x∧x≤1099511627776)∧(∀ x ∈ r, -1099511627776≤x∧x≤1099511627776) then some (onL p.1 r 0,true) else none) else some ([],false)
set_option maxHeartbeats 4000000 in
set_option maxRecDepth 100000 in
theorem impl_Party_onBest.calls (k:Nat) (A0_0:Option Addr) (c0_0:Nat) (l0_0:List Int) (a0_1:Int) (r1:List Bool) (r2:Bool) (w:World) (hr0_0:Kd.C (Kd.int .i64) w A0_0 l0_0.length l0_0) (hc0_0:l0_0.length≤c0_0) (h:impl_Party_onBest.f k l0_0 a0_1=some (r1,r2)) :
  Calls Try.prog 73 #[.agg #[.slice A0_0 l0_0.length c0_0, .int .i64 a0_1]] w fun e w'=>∃ v0_:Value,e = .returned (.tuple #[v0_, .bool r2])∧Kd.bool.R 4 w' w.heap.size (fun _=>True) v0_ r1∧Below w.heap.size w w':=by
 have hu:=Try.underlying28
 have hug:=Try.underlying67
 have hinfoB:=am' (show (Try.prog.info? 4).map (fun i=>(i.zero,i.size,i.bytes))=some (some (.bool false),1,1) by kernel_rfl)
 unfold impl_Party_onBest.f at h
 obtain ⟨⟨tl,ok⟩,hc,h⟩:=Option.bind_eq_some_iff.mp h
 have HC:=am' (fun (W:World) (hb:Below w.heap.size w W)=>impl_Party_costs.calls k A0_0 c0_0 l0_0 a0_1 true tl ok W (Kd.C_below hr0_0 hb) hc0_0 hc)
 have HBX:=am' (ba' (Below.refl w.heap.size w) (.cells #[.slice A0_0 l0_0.length c0_0, .int .i64 a0_1] 28))
 have HF0:=am' hr0_0
 have HC0:=am' hc0_0
 clear hc hr0_0 hc0_0;cases ok with
 | false =>
  simp only[Bool.false_eq_true,if_false,Option.some.injEq,Prod.mk.injEq] at h;obtain ⟨rfl,rfl⟩:=h;go_enter Try.func73,Try.ntmps73;go_wp2_with fail;refine (HC.out _ HBX.out).mono ?_
  rintro e w2 ⟨pn,pp,pt,v,rfl,hpn,hpp,hpt,hr,hl,hb⟩
  obtain ⟨Av,cv,rfl⟩:=Kd.R_slice hr;have HB:=am' (below_step HBX.out hb);clear hpn hpp hpt hr hl hb;go_wp2;go_ret2
  exact ⟨_,rfl,Kd.R_nil _ _ _ _ _,ba' HB.out _⟩
 | true =>
  simp only[if_true] at h;obtain ⟨rr,hd,h⟩:=Option.bind_eq_some_iff.mp h;by_cases hlen:rr.length=2 ^ (l0_0.length+1)∧(∀ x ∈ tl, -1099511627776≤x∧x≤1099511627776)∧(∀ x ∈ rr, -1099511627776≤x∧x≤1099511627776)
  ·
   rw[if_pos hlen] at h;simp only[Option.some.injEq,Prod.mk.injEq] at h;obtain ⟨rfl,rfl⟩:=h;have HD:=am' hd;have HLEN:=am' hlen;clear hd hlen;go_enter Try.func73,Try.ntmps73;go_wp2_with fail;refine (HC.out _ HBX.out).mono ?_
   rintro e w2 ⟨pn,pp,pt,v,rfl,hpn,hpp,hpt,hr,hl,hb⟩
   have hq:=hl (by first|rfl|trivial);obtain ⟨hp0,hp1,hp2⟩:=pow_le8 hq.2;obtain ⟨N,hN⟩:∃ x,x=2 ^ (l0_0.length+1):=⟨_,rfl⟩
   have hqn:=hq.1;have HLE:=am' (show rr.length=N by rw[HLEN.out.1,hN]);rw[← hN] at hp0 hp1 hp2 hqn;rw[hp2];have HD:=am' (show bkD (ptyOut k true l0_0 a0_1) k 0 (List.replicate N (-1)) [[0]]=some rr by rw[hN];exact HD.out);obtain ⟨gd,cd,hv,hgb,hgl,_⟩:=Kd.R_form hr (by omega);subst hv;rw[hqn] at hr ⊢;have HTO:=am' hr;have HQN:=am' hqn;have HP0:=am' hp0;have HP1:=am' hp1;have HGL:=am' hgl;have HB:=am' (below_step HBX.out hb);have HL3:=am' (two_blocks w2 (.cells #[.int .i64 (N:Int), .func (.func 104) #[] #[.pointer (some ⟨pn,0,none⟩), .pointer (some ⟨pp,0,none⟩), .pointer (some ⟨pt,0,none⟩)]] 67) (.cells #[] 4));have HW2:=am' (below_step (below_step HBX.out hb) HL3.out.2.2);have HPN:=am' (blk_below hpn HL3.out.2.2);have HPP:=am' (blk_below hpp HL3.out.2.2);have HPT:=am' (blk_below hpt HL3.out.2.2);have HSZ:=am' (show ((w2.alloc (.cells #[.int .i64 (N:Int), .func (.func 104) #[] #[.pointer (some ⟨pn,0,none⟩), .pointer (some ⟨pp,0,none⟩), .pointer (some ⟨pt,0,none⟩)]] 67)).alloc (.cells #[] 4)).heap.size=w2.heap.size+2 by rw[World.size_alloc,World.size_alloc]);have hg0:((w2.alloc (.cells #[.int .i64 (N:Int), .func (.func 104) #[] #[.pointer (some ⟨pn,0,none⟩), .pointer (some ⟨pp,0,none⟩), .pointer (some ⟨pt,0,none⟩)]] 67)).alloc (.cells #[] 4)).cell? ⟨w2.heap.size,0,none⟩=some (.int .i64 (N:Int)):=(blk_cell HL3.out.1 0).trans rfl;have hg1:((w2.alloc (.cells #[.int .i64 (N:Int), .func (.func 104) #[] #[.pointer (some ⟨pn,0,none⟩), .pointer (some ⟨pp,0,none⟩), .pointer (some ⟨pt,0,none⟩)]] 67)).alloc (.cells #[] 4)).cell? ⟨w2.heap.size,1,none⟩=some (.func (.func 104) #[] #[.pointer (some ⟨pn,0,none⟩), .pointer (some ⟨pp,0,none⟩), .pointer (some ⟨pt,0,none⟩)]):=(blk_cell HL3.out.1 1).trans rfl;clear hp0 hp1 hp2 hN hq hqn hpn hpp hpt hr hl hb hgb hgl;go_wp2_with fail;generalize hW3:(w2.alloc (.cells #[.int .i64 (N:Int), .func (.func 104) #[] #[.pointer (some ⟨pn,0,none⟩), .pointer (some ⟨pp,0,none⟩), .pointer (some ⟨pt,0,none⟩)]] 67)).alloc (.cells #[] 4)=W3 at HL3 HW2 HPN HPP HPT HSZ ⊢
   clear hW3 hg0 hg1;rw[show w2.heap.size+1+1=W3.heap.size from HSZ.out.symm];have HSTB:=am' (ba' (Below.refl W3.heap.size W3) (.cells #[.int .i64 0] 3));refine (from_any 104 #[.pointer (some ⟨pn,0,none⟩), .pointer (some ⟨pp,0,none⟩), .pointer (some ⟨pt,0,none⟩)] (ptyOut k true l0_0 a0_1) k N [0] rr W3 _ (enters_of Try.func104 (by kernel_rfl) rfl) (party_out k true A0_0 c0_0 l0_0 a0_1 pn pp pt W3 HPN.out HPP.out HPT.out (Kd.C_below HF0.out HW2.out) HC0.out) (some ⟨W3.heap.size,0,none⟩) 1 (R_one (heap_alloc_new W3 _) (Nat.le_refl _)) HSTB.out HP0.out HP1.out HD.out).mono ?_
   rintro e w5 ⟨v5,rfl,ho5,hb5⟩
   obtain ⟨ge,ce,hv,hgb,hgl,_⟩:=Kd.R_form ho5 (by have h1:=HP0.out;have h2:=HLE.out;omega);subst hv;have HO5:=am' ho5;have HGE:=am' hgb;have HGF:=am' hgl;have HB5:=am' (below_step HW2.out hb5);have HT5:=am' (Kd.R_below HTO.out (below_step HL3.out.2.2 hb5));have HE5:=am' (blk_below HL3.out.2.1 hb5);have HS5:=am' hb5.size;have HZ2:=am' HB.out.size;clear ho5 hb5 hgb hgl;go_wp2_with fail;go_loopg [7,8,9,23] rr.length (fun gg v7 _ _ v23 wr=>∃ (i:Nat) (Ao:Option Addr) (co:Nat),v7 = .slice Ao i co∧v23 = .int .i64 (i:Int)∧Aside0 (i≤rr.length)∧Aside0 (rr.length - i≤gg)∧Aside0 (Kd.bool.R 4 wr w.heap.size (fun k=>k=w2.heap.size+1∨w5.heap.size≤k) (.slice Ao i co) (onL tl (rr.take i) 0))∧Aside0 (Kept w5 wr (fun k=>k=w2.heap.size+1))∧Aside0 (Below w.heap.size w wr))
   case atStart=>exact ⟨0,_,_,rfl,rfl,⟨Nat.zero_le _⟩,⟨Nat.le_refl _⟩,⟨R_emptyB HE5.out (by have h1:=HZ2.out;omega)⟩,⟨Kept.refl _ _⟩,HB5⟩
   case round =>
    obtain ⟨i,Ao,co,rfl,rfl,HI1,HG1,HRO,HKP,HWR⟩:=hrel;by_cases hi:i < rr.length
    ·
     have hiz:(i:Int) < (rr.length:Int):=by omega
     have hin:(i:Int) < (N:Int):=by have:=HLE.out;omega
     have hi0n:(0:Int) < (N:Int):=by have:=HP0.out;omega
     have hi1:i < N:=by have:=HLE.out;omega
     have hi2:0 < N:=HP0.out;obtain ⟨xv,hxv⟩:∃ x,x=rd rr (i:Nat):=⟨_,rfl⟩
     obtain ⟨tv,htv⟩:∃ x,x=rd tl (i:Nat):=⟨_,rfl⟩
     obtain ⟨t0,ht0⟩:∃ x,x=rd tl 0:=⟨_,rfl⟩
     have hx:wr.cell? ⟨ge,i,none⟩=some (.int .i64 xv):=by
      have h1:=(Kd.R_celln 0 HO5.out (i:Int) (by omega) hiz).1;rw[Int.toNat_natCast] at h1;have h2:=cell_kept h1 HKP.out (fun q=>by dsimp only at q;have h3:=HGE.out;have h4:=HSZ.out;omega);rw[hxv];simpa [rd,rdOf] using h2
     have ht:wr.cell? ⟨gd,i,none⟩=some (.int .i64 tv):=by
      have h1:=(Kd.R_celln 0 HT5.out (i:Int) (by omega) hin).1;rw[Int.toNat_natCast] at h1;have h2:=cell_kept h1 HKP.out (fun q=>by dsimp only at q;have h3:=HGL.out;omega);rw[htv];simpa [rd,rdOf] using h2
     have htz:wr.cell? ⟨gd,0,none⟩=some (.int .i64 t0):=by
      have h1:=(Kd.R_celln 0 HT5.out 0 (by omega) hi0n).1;have h2:=cell_kept h1 HKP.out (fun q=>by dsimp only at q;have h3:=HGL.out;omega);rw[ht0];simpa [rd,rdOf] using h2
     have hmemr:rd rr (i:Nat) ∈ rr:=rd_mem rr i hi;have hmemt:rd tl (i:Nat) ∈ tl:=rd_mem tl i (by have:=HQN.out;omega);have hwx:wrap64 (xv+tv)=xv+tv:=wr_id (by rw[hxv,htv];have h1:=HLEN.out.2.2 _ hmemr;have h2:=HLEN.out.2.1 _ hmemt;omega) (by rw[hxv,htv];have h1:=HLEN.out.2.2 _ hmemr;have h2:=HLEN.out.2.1 _ hmemt;omega)
     have HTS:=am' (show onL tl (rr.take (i+1)) 0=onL tl (rr.take i) 0 ++ [decide (0≤xv) && (decide (0≤tv) && (xv+tv == t0))] by
      rw[take_snocB rr i hi,onL_snoc,List.length_take,hxv,htv,ht0];unfold onP
      rw[show 0+min i rr.length=i by omega])
     have HLR:=am' (show (onL tl (rr.take i) 0).length=i by rw[onL_len,List.length_take];omega);have HHI:=am' hi;have HNN:=am' (show rr.length≤1024 by have h1:=HP1.out;have h2:=HLE.out;omega);have HWS:=am' (Nat.le_trans HS5.out HKP.out.1);have HOW:=am' HRO.out.1;clear hxv htv ht0 hi hmemr hmemt;have HRW:=am' (Below.refl wr.heap.size wr);by_cases hc:0≤xv
     ·
      have HCS:=am' hc;have hcz:=decide_eq_true hc;by_cases hc2:0≤tv
      ·
       have HCT:=am' hc2;have hcz2:=decide_eq_true hc2;clear hc hc2;go_wp2_with fail;refine start_ (n:=25) (S:=fun w'=>w'.cell? ⟨gd,i,none⟩=some (.int .i64 tv)∧w'.cell? ⟨gd,0,none⟩=some (.int .i64 t0)) (ds:=[]) #[false,false,false,false,false,false,false,false,false,false,false,false,false,false,false,false,false,false,false,false,false,false,false,false,false] (by kernel_rfl) rfl rfl ⟨ht,htz⟩ (fun hHeld=>?_);refine pure_ (i:=0) (N:=some 28) (v:=?_) (a':=?_) #[true,false,false,false,false,false,false,false,false,false,false,false,false,false,false,false,false,false,false,false,false,false,false,false,false] rfl rfl (by kernel_rfl) (fun _ _ _ h=>h) (Or.inl ⟨by rfl,?_⟩) ?_ ?_
       rotate_left
       ·
        intro w';go_simp;with_reducible rfl
       rotate_left
       ·
        simp only[Act.put,sa',sb',sc',i64_w,i32_w];rfl
       refine pure_ (i:=1) (N:=some 29) (v:=?_) (a':=?_) #[true,true,false,false,false,false,false,false,false,false,false,false,false,false,false,false,false,false,false,false,false,false,false,false,false] rfl rfl (by kernel_rfl) (fun _ _ _ h=>h) (Or.inl ⟨by rfl,?_⟩) ?_ ?_
       rotate_left
       ·
        intro w';go_simp;with_reducible rfl
       rotate_left
       ·
        simp only[Act.put,sa',sb',sc',i64_w,i32_w];rfl
       refine pure_ (i:=2) (N:=some 30) (v:=?_) (a':=?_) #[true,true,true,false,false,false,false,false,false,false,false,false,false,false,false,false,false,false,false,false,false,false,false,false,false] rfl rfl (by kernel_rfl) (fun _ _ _ h=>h) (Or.inl ⟨by rfl,?_⟩) ?_ ?_
       rotate_left
       ·
        intro w';go_simp;with_reducible rfl
       rotate_left
       ·
        simp only[Act.put,sa',sb',sc',i64_w,i32_w];rfl
       refine pure_ (i:=3) (N:=some 31) (v:=?_) (a':=?_) #[true,true,true,true,false,false,false,false,false,false,false,false,false,false,false,false,false,false,false,false,false,false,false,false,false] rfl rfl (by kernel_rfl) (fun _ _ _ h=>h) (Or.inl ⟨by rfl,?_⟩) ?_ ?_
       rotate_left
       ·
        intro w';go_simp;with_reducible rfl
       rotate_left
       ·
        simp only[Act.put,sa',sb',sc',i64_w,i32_w];rfl
       refine pure_ (i:=4) (N:=some 32) (v:=?_) (a':=?_) #[true,true,true,true,true,false,false,false,false,false,false,false,false,false,false,false,false,false,false,false,false,false,false,false,false] rfl rfl (by kernel_rfl) (fun _ _ _ h=>h) (Or.inl ⟨by rfl,?_⟩) ?_ ?_
       rotate_left
       ·
        intro w';go_simp;with_reducible rfl
       rotate_left
       ·
        simp only[Act.put,sa',sb',sc',i64_w,i32_w];rfl
       refine pure_ (i:=5) (N:=some 33) (v:=?_) (a':=?_) #[true,true,true,true,true,true,false,false,false,false,false,false,false,false,false,false,false,false,false,false,false,false,false,false,false] rfl rfl (by kernel_rfl) (fun _ _ _ h=>h) (Or.inl ⟨by rfl,?_⟩) ?_ ?_
       rotate_left
       ·
        intro w';go_simp;with_reducible rfl
       rotate_left
       ·
        simp only[Act.put,sa',sb',sc',i64_w,i32_w];rfl
       refine pure_ (i:=6) (N:=some 34) (v:=?_) (a':=?_) #[true,true,true,true,true,true,true,false,false,false,false,false,false,false,false,false,false,false,false,false,false,false,false,false,false] rfl rfl (by kernel_rfl) (fun _ _ _ h=>h) (Or.inl ⟨by rfl,?_⟩) ?_ ?_
       rotate_left
       ·
        intro w';go_simp;with_reducible rfl
       rotate_left
       ·
        simp only[Act.put,sa',sb',sc',i64_w,i32_w];rfl
       refine take_ (i:=7) (N:=some 35) (v:=?_) (a':=?_) #[true,true,true,true,true,true,true,true,false,false,false,false,false,false,false,false,false,false,false,false,false,false,false,false,false] rfl rfl (by kernel_rfl) (fun _ _ _ h=>h) (Or.inl ⟨by rfl,?_⟩) hHeld ?_ ?_
       rotate_left
       ·
        rintro w' ⟨s0_,s1_⟩
        go_simp;with_reducible rfl
       rotate_left
       ·
        simp only[Act.put,sa',sb',sc',i64_w,i32_w];rfl
       refine pure_ (i:=8) (N:=some 36) (v:=?_) (a':=?_) #[true,true,true,true,true,true,true,true,true,false,false,false,false,false,false,false,false,false,false,false,false,false,false,false,false] rfl rfl (by kernel_rfl) (fun _ _ _ h=>h) (Or.inl ⟨by rfl,?_⟩) ?_ ?_
       rotate_left
       ·
        intro w';go_simp;with_reducible rfl
       rotate_left
       ·
        simp only[Act.put,sa',sb',sc',i64_w,i32_w];rfl
       refine pure_ (i:=9) (N:=some 37) (v:=?_) (a':=?_) #[true,true,true,true,true,true,true,true,true,true,false,false,false,false,false,false,false,false,false,false,false,false,false,false,false] rfl rfl (by kernel_rfl) (fun _ _ _ h=>h) (Or.inl ⟨by rfl,?_⟩) ?_ ?_
       rotate_left
       ·
        intro w';go_simp;with_reducible rfl
       rotate_left
       ·
        simp only[Act.put,sa',sb',sc',i64_w,i32_w];rfl
       refine pure_ (i:=10) (N:=some 38) (v:=?_) (a':=?_) #[true,true,true,true,true,true,true,true,true,true,true,false,false,false,false,false,false,false,false,false,false,false,false,false,false] rfl rfl (by kernel_rfl) (fun _ _ _ h=>h) (Or.inl ⟨by rfl,?_⟩) ?_ ?_
       rotate_left
       ·
        intro w';go_simp;with_reducible rfl
       rotate_left
       ·
        simp only[Act.put,sa',sb',sc',i64_w,i32_w];rfl
       refine pure_ (i:=11) (N:=some 39) (v:=?_) (a':=?_) #[true,true,true,true,true,true,true,true,true,true,true,true,false,false,false,false,false,false,false,false,false,false,false,false,false] rfl rfl (by kernel_rfl) (fun _ _ _ h=>h) (Or.inl ⟨by rfl,?_⟩) ?_ ?_
       rotate_left
       ·
        intro w';go_simp;with_reducible rfl
       rotate_left
       ·
        simp only[Act.put,sa',sb',sc',i64_w,i32_w];rfl
       refine pure_ (i:=12) (N:=some 40) (v:=?_) (a':=?_) #[true,true,true,true,true,true,true,true,true,true,true,true,true,false,false,false,false,false,false,false,false,false,false,false,false] rfl rfl (by kernel_rfl) (fun _ _ _ h=>h) (Or.inl ⟨by rfl,?_⟩) ?_ ?_
       rotate_left
       ·
        intro w';go_simp;with_reducible rfl
       rotate_left
       ·
        simp only[Act.put,sa',sb',sc',i64_w,i32_w];rfl
       refine pure_ (i:=13) (N:=some 41) (v:=?_) (a':=?_) #[true,true,true,true,true,true,true,true,true,true,true,true,true,true,false,false,false,false,false,false,false,false,false,false,false] rfl rfl (by kernel_rfl) (fun _ _ _ h=>h) (Or.inl ⟨by rfl,?_⟩) ?_ ?_
       rotate_left
       ·
        intro w';go_simp;with_reducible rfl
       rotate_left
       ·
        simp only[Act.put,sa',sb',sc',i64_w,i32_w];rfl
       refine pure_ (i:=14) (N:=some 42) (v:=?_) (a':=?_) #[true,true,true,true,true,true,true,true,true,true,true,true,true,true,true,false,false,false,false,false,false,false,false,false,false] rfl rfl (by kernel_rfl) (fun _ _ _ h=>h) (Or.inl ⟨by rfl,?_⟩) ?_ ?_
       rotate_left
       ·
        intro w';go_simp;with_reducible rfl
       rotate_left
       ·
        simp only[Act.put,sa',sb',sc',i64_w,i32_w];rfl
       refine take_ (i:=15) (N:=some 43) (v:=?_) (a':=?_) #[true,true,true,true,true,true,true,true,true,true,true,true,true,true,true,true,false,false,false,false,false,false,false,false,false] rfl rfl (by kernel_rfl) (fun _ _ _ h=>h) (Or.inl ⟨by rfl,?_⟩) hHeld ?_ ?_
       rotate_left
       ·
        rintro w' ⟨s0_,s1_⟩
        go_simp;with_reducible rfl
       rotate_left
       ·
        simp only[Act.put,sa',sb',sc',i64_w,i32_w];rfl
       refine pure_ (i:=16) (N:=some 44) (v:=?_) (a':=?_) #[true,true,true,true,true,true,true,true,true,true,true,true,true,true,true,true,true,false,false,false,false,false,false,false,false] rfl rfl (by kernel_rfl) (fun _ _ _ h=>h) (Or.inl ⟨by rfl,?_⟩) ?_ ?_
       rotate_left
       ·
        intro w';go_simp;with_reducible rfl
       rotate_left
       ·
        simp only[Act.put,sa',sb',sc',i64_w,i32_w];rfl
       refine pure_ (i:=17) (N:=some 45) (v:=?_) (a':=?_) #[true,true,true,true,true,true,true,true,true,true,true,true,true,true,true,true,true,true,false,false,false,false,false,false,false] rfl rfl (by kernel_rfl) (fun _ _ _ h=>h) (Or.inl ⟨by rfl,?_⟩) ?_ ?_
       rotate_left
       ·
        intro w';go_simp;with_reducible rfl
       rotate_left
       ·
        simp only[Act.put,sa',sb',sc',i64_w,i32_w];rfl
       refine pure_ (i:=18) (N:=some 46) (v:=?_) (a':=?_) #[true,true,true,true,true,true,true,true,true,true,true,true,true,true,true,true,true,true,true,false,false,false,false,false,false] rfl rfl (by kernel_rfl) (fun _ _ _ h=>h) (Or.inl ⟨by rfl,?_⟩) ?_ ?_
       rotate_left
       ·
        intro w';go_simp;with_reducible rfl
       rotate_left
       ·
        simp only[Act.put,sa',sb',sc',i64_w,i32_w];rfl
       refine take_ (i:=19) (N:=some 47) (v:=?_) (a':=?_) #[true,true,true,true,true,true,true,true,true,true,true,true,true,true,true,true,true,true,true,true,false,false,false,false,false] rfl rfl (by kernel_rfl) (fun _ _ _ h=>h) (Or.inl ⟨by rfl,?_⟩) hHeld ?_ ?_
       rotate_left
       ·
        rintro w' ⟨s0_,s1_⟩
        go_simp;with_reducible rfl
       rotate_left
       ·
        simp only[Act.put,sa',sb',sc',i64_w,i32_w];rfl
       refine pure_ (i:=20) (N:=some 48) (v:=?_) (a':=?_) #[true,true,true,true,true,true,true,true,true,true,true,true,true,true,true,true,true,true,true,true,true,false,false,false,false] rfl rfl (by kernel_rfl) (fun _ _ _ h=>h) (Or.inl ⟨by rfl,?_⟩) ?_ ?_
       rotate_left
       ·
        intro w';go_simp;with_reducible rfl
       rotate_left
       ·
        simp only[Act.put,sa',sb',sc',i64_w,i32_w];rfl
       refine pure_ (i:=21) (N:=some 49) (v:=?_) (a':=?_) #[true,true,true,true,true,true,true,true,true,true,true,true,true,true,true,true,true,true,true,true,true,true,false,false,false] rfl rfl (by kernel_rfl) (fun _ _ _ h=>h) (Or.inl ⟨by rfl,?_⟩) ?_ ?_
       rotate_left
       ·
        intro w';go_simp;with_reducible rfl
       rotate_left
       ·
        simp only[Act.put,sa',sb',sc',i64_w,i32_w];rfl
       refine one_ (i:=22) (N:=some 50) #[true,true,true,true,true,true,true,true,true,true,true,true,true,true,true,true,true,true,true,true,true,true,true,false,false] rfl rfl (by kernel_rfl) (by decide) (fun K hK=>?_);refine value_ (v := .slice (some ⟨wr.heap.size,0,none⟩) 1 1) (w1:=((wr.drew).alloc (.cells #[.bool (xv+tv == t0)] 4))) (by rfl) rfl ?_ ?_
       ·
        go_simp
       refine hK.out _ _ ⟨((ba' (be' (Below.refl wr.heap.size wr)) _).cell (bl' wr _ ht)).trans ht,((ba' (be' (Below.refl wr.heap.size wr)) _).cell (bl' wr _ htz)).trans htz⟩ (fun hHeld=>?_);clear hK K;refine norm_ (a':=?_) ?_ ?_
       rotate_left
       ·
        show Act.put _ (some 50) _=_
        simp only[Act.put,sa',sb',sc',i64_w,i32_w];rfl
       refine one_ (i:=23) (N:=some 51) #[true,true,true,true,true,true,true,true,true,true,true,true,true,true,true,true,true,true,true,true,true,true,true,true,false] rfl rfl (by kernel_rfl) (by decide) (fun K hK=>?_);refine Kd.R_append_step Kd.bool (w0:=w) w.heap.size (by rfl) (.tmp 28) (.tmp 50) 39 4 (.bool false) 1 (by rfl) Try.underlying39 hinfoB.out rfl (by decide) (by omega) (.slice Ao i co) (onL tl (rr.take i) 0) (xv+tv == t0) [.bool (xv+tv == t0)] (fun k=>k=w2.heap.size+1∨w5.heap.size≤k) (fun _=>False) (by rfl) (by rfl) rfl (fun _ h=>h.elim) ?aF ?aO ?aB ?aS ?aL ?_
       (case aF=>exact fun k hk => .inr (Nat.le_trans HKP.out.1 hk))
       (case aO=>exact HRO.out)
       (case aB=>exact be' HWR.out)
       (case aS=>exact HWR.out.size)
       (case aL=>have h1:=HLR.out;have h2:=HHI.out;have h3:=HNN.out;omega)
       intro v6 w6 ho hb hg hat;obtain ⟨A6,c6,e6⟩:=Kd.R_slice ho;rw[List.length_append,List.length_singleton,HLR.out] at e6;subst e6;have HO6:=am' ho;have HB6:=am' hb;have HK6:=am' (show Kept w5 w6 (fun k=>k=w2.heap.size+1) from Kept.of_grown hg (Kept.drew HKP.out) (fun k hk=>HOW.out k hk));have HKW:=am' (show Kept wr w6 (fun k=>k=w2.heap.size+1∨w5.heap.size≤k) from Kept.of_grown hg (Kept.drew (Kept.refl wr _)) (fun k hk => .inl (HOW.out k hk)));clear ho hb hg hat;have q1:=cell_kept ht HKW.out (fun q=>by dsimp only at q;have h3:=HGL.out;have h4:=HS5.out;have h5:=HSZ.out;omega);have q2:=cell_kept htz HKW.out (fun q=>by dsimp only at q;have h3:=HGL.out;have h4:=HS5.out;have h5:=HSZ.out;omega);refine hK.out _ _ ⟨q1,q2⟩ (fun hHeld=>?_);clear hK K;refine norm_ (a':=?_) ?_ ?_
       rotate_left
       ·
        show Act.put _ (some 51) _=_
        simp only[Act.put,sa',sb',sc',i64_w,i32_w];rfl
       refine pure_ (i:=24) (N:=some 7) (v:=?_) (a':=?_) #[true,true,true,true,true,true,true,true,true,true,true,true,true,true,true,true,true,true,true,true,true,true,true,true,true] rfl rfl (by kernel_rfl) (fun _ _ _ h=>h) (Or.inl ⟨by rfl,?_⟩) ?_ ?_
       rotate_left
       ·
        intro w';go_simp;with_reducible rfl
       rotate_left
       ·
        simp only[Act.put,sa',sb',sc',i64_w,i32_w];rfl
       refine done_ (by kernel_rfl) ?_
       go_wp2;go_roundg (rr.length - (i+1))
       case measure=>have h1:=HG1.out;have h2:=HHI.out;omega
       case rel =>
        refine ⟨i+1,A6,c6,rfl,by have h2:=HHI.out;have h3:=HNN.out;first|exact nxt (by omega)|exact nxt2 (by omega),⟨HHI.out⟩,⟨Nat.le_refl _⟩,⟨?_⟩,HK6,HB6⟩;rw[HTS.out,decide_eq_true (show 0≤xv by have:=HCS.out;omega),decide_eq_true (show 0≤tv by have:=HCT.out;omega),Bool.true_and,Bool.true_and];exact HO6.out
      ·
       have HCT:=am' hc2;have hcz2:=decide_eq_false hc2;clear hc hc2;go_wp2_with fail;refine start_ (n:=25) (S:=fun w'=>w'.cell? ⟨gd,i,none⟩=some (.int .i64 tv)∧w'.cell? ⟨gd,0,none⟩=some (.int .i64 t0)) (ds:=[]) #[false,false,false,false,false,false,false,false,false,false,false,false,false,false,false,false,false,false,false,false,false,false,false,false,false] (by kernel_rfl) rfl rfl ⟨ht,htz⟩ (fun hHeld=>?_);refine pure_ (i:=0) (N:=some 28) (v:=?_) (a':=?_) #[true,false,false,false,false,false,false,false,false,false,false,false,false,false,false,false,false,false,false,false,false,false,false,false,false] rfl rfl (by kernel_rfl) (fun _ _ _ h=>h) (Or.inl ⟨by rfl,?_⟩) ?_ ?_
       rotate_left
       ·
        intro w';go_simp;with_reducible rfl
       rotate_left
       ·
        simp only[Act.put,sa',sb',sc',i64_w,i32_w];rfl
       refine pure_ (i:=1) (N:=some 29) (v:=?_) (a':=?_) #[true,true,false,false,false,false,false,false,false,false,false,false,false,false,false,false,false,false,false,false,false,false,false,false,false] rfl rfl (by kernel_rfl) (fun _ _ _ h=>h) (Or.inl ⟨by rfl,?_⟩) ?_ ?_
       rotate_left
       ·
        intro w';go_simp;with_reducible rfl
       rotate_left
       ·
        simp only[Act.put,sa',sb',sc',i64_w,i32_w];rfl
       refine pure_ (i:=2) (N:=some 30) (v:=?_) (a':=?_) #[true,true,true,false,false,false,false,false,false,false,false,false,false,false,false,false,false,false,false,false,false,false,false,false,false] rfl rfl (by kernel_rfl) (fun _ _ _ h=>h) (Or.inl ⟨by rfl,?_⟩) ?_ ?_
       rotate_left
       ·
        intro w';go_simp;with_reducible rfl
       rotate_left
       ·
        simp only[Act.put,sa',sb',sc',i64_w,i32_w];rfl
       refine pure_ (i:=3) (N:=some 31) (v:=?_) (a':=?_) #[true,true,true,true,false,false,false,false,false,false,false,false,false,false,false,false,false,false,false,false,false,false,false,false,false] rfl rfl (by kernel_rfl) (fun _ _ _ h=>h) (Or.inl ⟨by rfl,?_⟩) ?_ ?_
       rotate_left
       ·
        intro w';go_simp;with_reducible rfl
       rotate_left
       ·
        simp only[Act.put,sa',sb',sc',i64_w,i32_w];rfl
       refine pure_ (i:=4) (N:=some 32) (v:=?_) (a':=?_) #[true,true,true,true,true,false,false,false,false,false,false,false,false,false,false,false,false,false,false,false,false,false,false,false,false] rfl rfl (by kernel_rfl) (fun _ _ _ h=>h) (Or.inl ⟨by rfl,?_⟩) ?_ ?_
       rotate_left
       ·
        intro w';go_simp;with_reducible rfl
       rotate_left
       ·
        simp only[Act.put,sa',sb',sc',i64_w,i32_w];rfl
       refine pure_ (i:=5) (N:=some 33) (v:=?_) (a':=?_) #[true,true,true,true,true,true,false,false,false,false,false,false,false,false,false,false,false,false,false,false,false,false,false,false,false] rfl rfl (by kernel_rfl) (fun _ _ _ h=>h) (Or.inl ⟨by rfl,?_⟩) ?_ ?_
       rotate_left
       ·
        intro w';go_simp;with_reducible rfl
       rotate_left
       ·
        simp only[Act.put,sa',sb',sc',i64_w,i32_w];rfl
       refine pure_ (i:=6) (N:=some 34) (v:=?_) (a':=?_) #[true,true,true,true,true,true,true,false,false,false,false,false,false,false,false,false,false,false,false,false,false,false,false,false,false] rfl rfl (by kernel_rfl) (fun _ _ _ h=>h) (Or.inl ⟨by rfl,?_⟩) ?_ ?_
       rotate_left
       ·
        intro w';go_simp;with_reducible rfl
       rotate_left
       ·
        simp only[Act.put,sa',sb',sc',i64_w,i32_w];rfl
       refine take_ (i:=7) (N:=some 35) (v:=?_) (a':=?_) #[true,true,true,true,true,true,true,true,false,false,false,false,false,false,false,false,false,false,false,false,false,false,false,false,false] rfl rfl (by kernel_rfl) (fun _ _ _ h=>h) (Or.inl ⟨by rfl,?_⟩) hHeld ?_ ?_
       rotate_left
       ·
        rintro w' ⟨s0_,s1_⟩
        go_simp;with_reducible rfl
       rotate_left
       ·
        simp only[Act.put,sa',sb',sc',i64_w,i32_w];rfl
       refine pure_ (i:=8) (N:=some 36) (v:=?_) (a':=?_) #[true,true,true,true,true,true,true,true,true,false,false,false,false,false,false,false,false,false,false,false,false,false,false,false,false] rfl rfl (by kernel_rfl) (fun _ _ _ h=>h) (Or.inl ⟨by rfl,?_⟩) ?_ ?_
       rotate_left
       ·
        intro w';go_simp;with_reducible rfl
       rotate_left
       ·
        simp only[Act.put,sa',sb',sc',i64_w,i32_w];rfl
       refine pure_ (i:=9) (N:=some 37) (v:=?_) (a':=?_) #[true,true,true,true,true,true,true,true,true,true,false,false,false,false,false,false,false,false,false,false,false,false,false,false,false] rfl rfl (by kernel_rfl) (fun _ _ _ h=>h) (Or.inl ⟨by rfl,?_⟩) ?_ ?_
       rotate_left
       ·
        intro w';go_simp;with_reducible rfl
       rotate_left
       ·
        simp only[Act.put,sa',sb',sc',i64_w,i32_w];rfl
       refine pure_ (i:=10) (N:=some 38) (v:=?_) (a':=?_) #[true,true,true,true,true,true,true,true,true,true,true,false,false,false,false,false,false,false,false,false,false,false,false,false,false] rfl rfl (by kernel_rfl) (fun _ _ _ h=>h) (Or.inl ⟨by rfl,?_⟩) ?_ ?_
       rotate_left
       ·
        intro w';go_simp;with_reducible rfl
       rotate_left
       ·
        simp only[Act.put,sa',sb',sc',i64_w,i32_w];rfl
       refine pure_ (i:=11) (N:=some 39) (v:=undef) (a':=?_) #[true,true,true,true,true,true,true,true,true,true,true,true,false,false,false,false,false,false,false,false,false,false,false,false,false] rfl rfl (by kernel_rfl) (fun _ _ _ h=>h) (Or.inr ⟨by rfl,rfl⟩) ?_ ?_
       rotate_left
       ·
        simp only[Act.put,sa',sb',sc',i64_w,i32_w];rfl
       refine pure_ (i:=12) (N:=some 40) (v:=undef) (a':=?_) #[true,true,true,true,true,true,true,true,true,true,true,true,true,false,false,false,false,false,false,false,false,false,false,false,false] rfl rfl (by kernel_rfl) (fun _ _ _ h=>h) (Or.inr ⟨by rfl,rfl⟩) ?_ ?_
       rotate_left
       ·
        simp only[Act.put,sa',sb',sc',i64_w,i32_w];rfl
       refine pure_ (i:=13) (N:=some 41) (v:=undef) (a':=?_) #[true,true,true,true,true,true,true,true,true,true,true,true,true,true,false,false,false,false,false,false,false,false,false,false,false] rfl rfl (by kernel_rfl) (fun _ _ _ h=>h) (Or.inr ⟨by rfl,rfl⟩) ?_ ?_
       rotate_left
       ·
        simp only[Act.put,sa',sb',sc',i64_w,i32_w];rfl
       refine pure_ (i:=14) (N:=some 42) (v:=undef) (a':=?_) #[true,true,true,true,true,true,true,true,true,true,true,true,true,true,true,false,false,false,false,false,false,false,false,false,false] rfl rfl (by kernel_rfl) (fun _ _ _ h=>h) (Or.inr ⟨by rfl,rfl⟩) ?_ ?_
       rotate_left
       ·
        simp only[Act.put,sa',sb',sc',i64_w,i32_w];rfl
       refine pure_ (i:=15) (N:=some 43) (v:=undef) (a':=?_) #[true,true,true,true,true,true,true,true,true,true,true,true,true,true,true,true,false,false,false,false,false,false,false,false,false] rfl rfl (by kernel_rfl) (fun _ _ _ h=>h) (Or.inr ⟨by rfl,rfl⟩) ?_ ?_
       rotate_left
       ·
        simp only[Act.put,sa',sb',sc',i64_w,i32_w];rfl
       refine pure_ (i:=16) (N:=some 44) (v:=undef) (a':=?_) #[true,true,true,true,true,true,true,true,true,true,true,true,true,true,true,true,true,false,false,false,false,false,false,false,false] rfl rfl (by kernel_rfl) (fun _ _ _ h=>h) (Or.inr ⟨by rfl,rfl⟩) ?_ ?_
       rotate_left
       ·
        simp only[Act.put,sa',sb',sc',i64_w,i32_w];rfl
       refine pure_ (i:=17) (N:=some 45) (v:=undef) (a':=?_) #[true,true,true,true,true,true,true,true,true,true,true,true,true,true,true,true,true,true,false,false,false,false,false,false,false] rfl rfl (by kernel_rfl) (fun _ _ _ h=>h) (Or.inr ⟨by rfl,rfl⟩) ?_ ?_
       rotate_left
       ·
        simp only[Act.put,sa',sb',sc',i64_w,i32_w];rfl
       refine pure_ (i:=18) (N:=some 46) (v:=undef) (a':=?_) #[true,true,true,true,true,true,true,true,true,true,true,true,true,true,true,true,true,true,true,false,false,false,false,false,false] rfl rfl (by kernel_rfl) (fun _ _ _ h=>h) (Or.inr ⟨by rfl,rfl⟩) ?_ ?_
       rotate_left
       ·
        simp only[Act.put,sa',sb',sc',i64_w,i32_w];rfl
       refine pure_ (i:=19) (N:=some 47) (v:=undef) (a':=?_) #[true,true,true,true,true,true,true,true,true,true,true,true,true,true,true,true,true,true,true,true,false,false,false,false,false] rfl rfl (by kernel_rfl) (fun _ _ _ h=>h) (Or.inr ⟨by rfl,rfl⟩) ?_ ?_
       rotate_left
       ·
        simp only[Act.put,sa',sb',sc',i64_w,i32_w];rfl
       refine pure_ (i:=20) (N:=some 48) (v:=undef) (a':=?_) #[true,true,true,true,true,true,true,true,true,true,true,true,true,true,true,true,true,true,true,true,true,false,false,false,false] rfl rfl (by kernel_rfl) (fun _ _ _ h=>h) (Or.inr ⟨by rfl,rfl⟩) ?_ ?_
       rotate_left
       ·
        simp only[Act.put,sa',sb',sc',i64_w,i32_w];rfl
       refine pure_ (i:=21) (N:=some 49) (v:=?_) (a':=?_) #[true,true,true,true,true,true,true,true,true,true,true,true,true,true,true,true,true,true,true,true,true,true,false,false,false] rfl rfl (by kernel_rfl) (fun _ _ _ h=>h) (Or.inl ⟨by rfl,?_⟩) ?_ ?_
       rotate_left
       ·
        intro w';go_simp;with_reducible rfl
       rotate_left
       ·
        simp only[Act.put,sa',sb',sc',i64_w,i32_w];rfl
       refine one_ (i:=22) (N:=some 50) #[true,true,true,true,true,true,true,true,true,true,true,true,true,true,true,true,true,true,true,true,true,true,true,false,false] rfl rfl (by kernel_rfl) (by decide) (fun K hK=>?_);refine value_ (v := .slice (some ⟨wr.heap.size,0,none⟩) 1 1) (w1:=((wr.drew).alloc (.cells #[.bool (false)] 4))) (by rfl) rfl ?_ ?_
       ·
        go_simp
       refine hK.out _ _ ⟨((ba' (be' (Below.refl wr.heap.size wr)) _).cell (bl' wr _ ht)).trans ht,((ba' (be' (Below.refl wr.heap.size wr)) _).cell (bl' wr _ htz)).trans htz⟩ (fun hHeld=>?_);clear hK K;refine norm_ (a':=?_) ?_ ?_
       rotate_left
       ·
        show Act.put _ (some 50) _=_
        simp only[Act.put,sa',sb',sc',i64_w,i32_w];rfl
       refine one_ (i:=23) (N:=some 51) #[true,true,true,true,true,true,true,true,true,true,true,true,true,true,true,true,true,true,true,true,true,true,true,true,false] rfl rfl (by kernel_rfl) (by decide) (fun K hK=>?_);refine Kd.R_append_step Kd.bool (w0:=w) w.heap.size (by rfl) (.tmp 28) (.tmp 50) 39 4 (.bool false) 1 (by rfl) Try.underlying39 hinfoB.out rfl (by decide) (by omega) (.slice Ao i co) (onL tl (rr.take i) 0) (false) [.bool (false)] (fun k=>k=w2.heap.size+1∨w5.heap.size≤k) (fun _=>False) (by rfl) (by rfl) rfl (fun _ h=>h.elim) ?aF ?aO ?aB ?aS ?aL ?_
       (case aF=>exact fun k hk => .inr (Nat.le_trans HKP.out.1 hk))
       (case aO=>exact HRO.out)
       (case aB=>exact be' HWR.out)
       (case aS=>exact HWR.out.size)
       (case aL=>have h1:=HLR.out;have h2:=HHI.out;have h3:=HNN.out;omega)
       intro v6 w6 ho hb hg hat;obtain ⟨A6,c6,e6⟩:=Kd.R_slice ho;rw[List.length_append,List.length_singleton,HLR.out] at e6;subst e6;have HO6:=am' ho;have HB6:=am' hb;have HK6:=am' (show Kept w5 w6 (fun k=>k=w2.heap.size+1) from Kept.of_grown hg (Kept.drew HKP.out) (fun k hk=>HOW.out k hk));have HKW:=am' (show Kept wr w6 (fun k=>k=w2.heap.size+1∨w5.heap.size≤k) from Kept.of_grown hg (Kept.drew (Kept.refl wr _)) (fun k hk => .inl (HOW.out k hk)));clear ho hb hg hat;have q1:=cell_kept ht HKW.out (fun q=>by dsimp only at q;have h3:=HGL.out;have h4:=HS5.out;have h5:=HSZ.out;omega);have q2:=cell_kept htz HKW.out (fun q=>by dsimp only at q;have h3:=HGL.out;have h4:=HS5.out;have h5:=HSZ.out;omega);refine hK.out _ _ ⟨q1,q2⟩ (fun hHeld=>?_);clear hK K;refine norm_ (a':=?_) ?_ ?_
       rotate_left
       ·
        show Act.put _ (some 51) _=_
        simp only[Act.put,sa',sb',sc',i64_w,i32_w];rfl
       refine pure_ (i:=24) (N:=some 7) (v:=?_) (a':=?_) #[true,true,true,true,true,true,true,true,true,true,true,true,true,true,true,true,true,true,true,true,true,true,true,true,true] rfl rfl (by kernel_rfl) (fun _ _ _ h=>h) (Or.inl ⟨by rfl,?_⟩) ?_ ?_
       rotate_left
       ·
        intro w';go_simp;with_reducible rfl
       rotate_left
       ·
        simp only[Act.put,sa',sb',sc',i64_w,i32_w];rfl
       refine done_ (by kernel_rfl) ?_
       go_wp2;go_roundg (rr.length - (i+1))
       case measure=>have h1:=HG1.out;have h2:=HHI.out;omega
       case rel =>
        refine ⟨i+1,A6,c6,rfl,by have h2:=HHI.out;have h3:=HNN.out;first|exact nxt (by omega)|exact nxt2 (by omega),⟨HHI.out⟩,⟨Nat.le_refl _⟩,⟨?_⟩,HK6,HB6⟩;rw[HTS.out,decide_eq_true (show 0≤xv by have:=HCS.out;omega),decide_eq_false (show ¬ 0≤tv by have:=HCT.out;omega),Bool.false_and,Bool.true_and];exact HO6.out
     ·
      have HCS:=am' hc;have hcz:=decide_eq_false hc;clear hc;go_wp2_with fail;refine start_ (n:=25) (S:=fun w'=>w'.cell? ⟨gd,i,none⟩=some (.int .i64 tv)∧w'.cell? ⟨gd,0,none⟩=some (.int .i64 t0)) (ds:=[]) #[false,false,false,false,false,false,false,false,false,false,false,false,false,false,false,false,false,false,false,false,false,false,false,false,false] (by kernel_rfl) rfl rfl ⟨ht,htz⟩ (fun hHeld=>?_);refine pure_ (i:=0) (N:=some 28) (v:=?_) (a':=?_) #[true,false,false,false,false,false,false,false,false,false,false,false,false,false,false,false,false,false,false,false,false,false,false,false,false] rfl rfl (by kernel_rfl) (fun _ _ _ h=>h) (Or.inl ⟨by rfl,?_⟩) ?_ ?_
      rotate_left
      ·
       intro w';go_simp;with_reducible rfl
      rotate_left
      ·
       simp only[Act.put,sa',sb',sc',i64_w,i32_w];rfl
      refine pure_ (i:=1) (N:=some 29) (v:=?_) (a':=?_) #[true,true,false,false,false,false,false,false,false,false,false,false,false,false,false,false,false,false,false,false,false,false,false,false,false] rfl rfl (by kernel_rfl) (fun _ _ _ h=>h) (Or.inl ⟨by rfl,?_⟩) ?_ ?_
      rotate_left
      ·
       intro w';go_simp;with_reducible rfl
      rotate_left
      ·
       simp only[Act.put,sa',sb',sc',i64_w,i32_w];rfl
      refine pure_ (i:=2) (N:=some 30) (v:=?_) (a':=?_) #[true,true,true,false,false,false,false,false,false,false,false,false,false,false,false,false,false,false,false,false,false,false,false,false,false] rfl rfl (by kernel_rfl) (fun _ _ _ h=>h) (Or.inl ⟨by rfl,?_⟩) ?_ ?_
      rotate_left
      ·
       intro w';go_simp;with_reducible rfl
      rotate_left
      ·
       simp only[Act.put,sa',sb',sc',i64_w,i32_w];rfl
      refine pure_ (i:=3) (N:=some 31) (v:=?_) (a':=?_) #[true,true,true,true,false,false,false,false,false,false,false,false,false,false,false,false,false,false,false,false,false,false,false,false,false] rfl rfl (by kernel_rfl) (fun _ _ _ h=>h) (Or.inl ⟨by rfl,?_⟩) ?_ ?_
      rotate_left
      ·
       intro w';go_simp;with_reducible rfl
      rotate_left
      ·
       simp only[Act.put,sa',sb',sc',i64_w,i32_w];rfl
      refine pure_ (i:=4) (N:=some 32) (v:=undef) (a':=?_) #[true,true,true,true,true,false,false,false,false,false,false,false,false,false,false,false,false,false,false,false,false,false,false,false,false] rfl rfl (by kernel_rfl) (fun _ _ _ h=>h) (Or.inr ⟨by rfl,rfl⟩) ?_ ?_
      rotate_left
      ·
       simp only[Act.put,sa',sb',sc',i64_w,i32_w];rfl
      refine pure_ (i:=5) (N:=some 33) (v:=undef) (a':=?_) #[true,true,true,true,true,true,false,false,false,false,false,false,false,false,false,false,false,false,false,false,false,false,false,false,false] rfl rfl (by kernel_rfl) (fun _ _ _ h=>h) (Or.inr ⟨by rfl,rfl⟩) ?_ ?_
      rotate_left
      ·
       simp only[Act.put,sa',sb',sc',i64_w,i32_w];rfl
      refine pure_ (i:=6) (N:=some 34) (v:=undef) (a':=?_) #[true,true,true,true,true,true,true,false,false,false,false,false,false,false,false,false,false,false,false,false,false,false,false,false,false] rfl rfl (by kernel_rfl) (fun _ _ _ h=>h) (Or.inr ⟨by rfl,rfl⟩) ?_ ?_
      rotate_left
      ·
       simp only[Act.put,sa',sb',sc',i64_w,i32_w];rfl
      refine pure_ (i:=7) (N:=some 35) (v:=undef) (a':=?_) #[true,true,true,true,true,true,true,true,false,false,false,false,false,false,false,false,false,false,false,false,false,false,false,false,false] rfl rfl (by kernel_rfl) (fun _ _ _ h=>h) (Or.inr ⟨by rfl,rfl⟩) ?_ ?_
      rotate_left
      ·
       simp only[Act.put,sa',sb',sc',i64_w,i32_w];rfl
      refine pure_ (i:=8) (N:=some 36) (v:=undef) (a':=?_) #[true,true,true,true,true,true,true,true,true,false,false,false,false,false,false,false,false,false,false,false,false,false,false,false,false] rfl rfl (by kernel_rfl) (fun _ _ _ h=>h) (Or.inr ⟨by rfl,rfl⟩) ?_ ?_
      rotate_left
      ·
       simp only[Act.put,sa',sb',sc',i64_w,i32_w];rfl
      refine pure_ (i:=9) (N:=some 37) (v:=?_) (a':=?_) #[true,true,true,true,true,true,true,true,true,true,false,false,false,false,false,false,false,false,false,false,false,false,false,false,false] rfl rfl (by kernel_rfl) (fun _ _ _ h=>h) (Or.inl ⟨by rfl,?_⟩) ?_ ?_
      rotate_left
      ·
       intro w';go_simp;with_reducible rfl
      rotate_left
      ·
       simp only[Act.put,sa',sb',sc',i64_w,i32_w];rfl
      refine pure_ (i:=10) (N:=some 38) (v:=?_) (a':=?_) #[true,true,true,true,true,true,true,true,true,true,true,false,false,false,false,false,false,false,false,false,false,false,false,false,false] rfl rfl (by kernel_rfl) (fun _ _ _ h=>h) (Or.inl ⟨by rfl,?_⟩) ?_ ?_
      rotate_left
      ·
       intro w';go_simp;with_reducible rfl
      rotate_left
      ·
       simp only[Act.put,sa',sb',sc',i64_w,i32_w];rfl
      refine pure_ (i:=11) (N:=some 39) (v:=undef) (a':=?_) #[true,true,true,true,true,true,true,true,true,true,true,true,false,false,false,false,false,false,false,false,false,false,false,false,false] rfl rfl (by kernel_rfl) (fun _ _ _ h=>h) (Or.inr ⟨by rfl,rfl⟩) ?_ ?_
      rotate_left
      ·
       simp only[Act.put,sa',sb',sc',i64_w,i32_w];rfl
      refine pure_ (i:=12) (N:=some 40) (v:=undef) (a':=?_) #[true,true,true,true,true,true,true,true,true,true,true,true,true,false,false,false,false,false,false,false,false,false,false,false,false] rfl rfl (by kernel_rfl) (fun _ _ _ h=>h) (Or.inr ⟨by rfl,rfl⟩) ?_ ?_
      rotate_left
      ·
       simp only[Act.put,sa',sb',sc',i64_w,i32_w];rfl
      refine pure_ (i:=13) (N:=some 41) (v:=undef) (a':=?_) #[true,true,true,true,true,true,true,true,true,true,true,true,true,true,false,false,false,false,false,false,false,false,false,false,false] rfl rfl (by kernel_rfl) (fun _ _ _ h=>h) (Or.inr ⟨by rfl,rfl⟩) ?_ ?_
      rotate_left
      ·
       simp only[Act.put,sa',sb',sc',i64_w,i32_w];rfl
      refine pure_ (i:=14) (N:=some 42) (v:=undef) (a':=?_) #[true,true,true,true,true,true,true,true,true,true,true,true,true,true,true,false,false,false,false,false,false,false,false,false,false] rfl rfl (by kernel_rfl) (fun _ _ _ h=>h) (Or.inr ⟨by rfl,rfl⟩) ?_ ?_
      rotate_left
      ·
       simp only[Act.put,sa',sb',sc',i64_w,i32_w];rfl
      refine pure_ (i:=15) (N:=some 43) (v:=undef) (a':=?_) #[true,true,true,true,true,true,true,true,true,true,true,true,true,true,true,true,false,false,false,false,false,false,false,false,false] rfl rfl (by kernel_rfl) (fun _ _ _ h=>h) (Or.inr ⟨by rfl,rfl⟩) ?_ ?_
      rotate_left
      ·
       simp only[Act.put,sa',sb',sc',i64_w,i32_w];rfl
      refine pure_ (i:=16) (N:=some 44) (v:=undef) (a':=?_) #[true,true,true,true,true,true,true,true,true,true,true,true,true,true,true,true,true,false,false,false,false,false,false,false,false] rfl rfl (by kernel_rfl) (fun _ _ _ h=>h) (Or.inr ⟨by rfl,rfl⟩) ?_ ?_
      rotate_left
      ·
       simp only[Act.put,sa',sb',sc',i64_w,i32_w];rfl
      refine pure_ (i:=17) (N:=some 45) (v:=undef) (a':=?_) #[true,true,true,true,true,true,true,true,true,true,true,true,true,true,true,true,true,true,false,false,false,false,false,false,false] rfl rfl (by kernel_rfl) (fun _ _ _ h=>h) (Or.inr ⟨by rfl,rfl⟩) ?_ ?_
      rotate_left
      ·
       simp only[Act.put,sa',sb',sc',i64_w,i32_w];rfl
      refine pure_ (i:=18) (N:=some 46) (v:=undef) (a':=?_) #[true,true,true,true,true,true,true,true,true,true,true,true,true,true,true,true,true,true,true,false,false,false,false,false,false] rfl rfl (by kernel_rfl) (fun _ _ _ h=>h) (Or.inr ⟨by rfl,rfl⟩) ?_ ?_
      rotate_left
      ·
       simp only[Act.put,sa',sb',sc',i64_w,i32_w];rfl
      refine pure_ (i:=19) (N:=some 47) (v:=undef) (a':=?_) #[true,true,true,true,true,true,true,true,true,true,true,true,true,true,true,true,true,true,true,true,false,false,false,false,false] rfl rfl (by kernel_rfl) (fun _ _ _ h=>h) (Or.inr ⟨by rfl,rfl⟩) ?_ ?_
      rotate_left
      ·
       simp only[Act.put,sa',sb',sc',i64_w,i32_w];rfl
      refine pure_ (i:=20) (N:=some 48) (v:=undef) (a':=?_) #[true,true,true,true,true,true,true,true,true,true,true,true,true,true,true,true,true,true,true,true,true,false,false,false,false] rfl rfl (by kernel_rfl) (fun _ _ _ h=>h) (Or.inr ⟨by rfl,rfl⟩) ?_ ?_
      rotate_left
      ·
       simp only[Act.put,sa',sb',sc',i64_w,i32_w];rfl
      refine pure_ (i:=21) (N:=some 49) (v:=?_) (a':=?_) #[true,true,true,true,true,true,true,true,true,true,true,true,true,true,true,true,true,true,true,true,true,true,false,false,false] rfl rfl (by kernel_rfl) (fun _ _ _ h=>h) (Or.inl ⟨by rfl,?_⟩) ?_ ?_
      rotate_left
      ·
       intro w';go_simp;with_reducible rfl
      rotate_left
      ·
       simp only[Act.put,sa',sb',sc',i64_w,i32_w];rfl
      refine one_ (i:=22) (N:=some 50) #[true,true,true,true,true,true,true,true,true,true,true,true,true,true,true,true,true,true,true,true,true,true,true,false,false] rfl rfl (by kernel_rfl) (by decide) (fun K hK=>?_);refine value_ (v := .slice (some ⟨wr.heap.size,0,none⟩) 1 1) (w1:=((wr.drew).alloc (.cells #[.bool (false)] 4))) (by rfl) rfl ?_ ?_
      ·
       go_simp
      refine hK.out _ _ ⟨((ba' (be' (Below.refl wr.heap.size wr)) _).cell (bl' wr _ ht)).trans ht,((ba' (be' (Below.refl wr.heap.size wr)) _).cell (bl' wr _ htz)).trans htz⟩ (fun hHeld=>?_);clear hK K;refine norm_ (a':=?_) ?_ ?_
      rotate_left
      ·
       show Act.put _ (some 50) _=_
       simp only[Act.put,sa',sb',sc',i64_w,i32_w];rfl
      refine one_ (i:=23) (N:=some 51) #[true,true,true,true,true,true,true,true,true,true,true,true,true,true,true,true,true,true,true,true,true,true,true,true,false] rfl rfl (by kernel_rfl) (by decide) (fun K hK=>?_);refine Kd.R_append_step Kd.bool (w0:=w) w.heap.size (by rfl) (.tmp 28) (.tmp 50) 39 4 (.bool false) 1 (by rfl) Try.underlying39 hinfoB.out rfl (by decide) (by omega) (.slice Ao i co) (onL tl (rr.take i) 0) (false) [.bool (false)] (fun k=>k=w2.heap.size+1∨w5.heap.size≤k) (fun _=>False) (by rfl) (by rfl) rfl (fun _ h=>h.elim) ?aF ?aO ?aB ?aS ?aL ?_
      (case aF=>exact fun k hk => .inr (Nat.le_trans HKP.out.1 hk))
      (case aO=>exact HRO.out)
      (case aB=>exact be' HWR.out)
      (case aS=>exact HWR.out.size)
      (case aL=>have h1:=HLR.out;have h2:=HHI.out;have h3:=HNN.out;omega)
      intro v6 w6 ho hb hg hat;obtain ⟨A6,c6,e6⟩:=Kd.R_slice ho;rw[List.length_append,List.length_singleton,HLR.out] at e6;subst e6;have HO6:=am' ho;have HB6:=am' hb;have HK6:=am' (show Kept w5 w6 (fun k=>k=w2.heap.size+1) from Kept.of_grown hg (Kept.drew HKP.out) (fun k hk=>HOW.out k hk));have HKW:=am' (show Kept wr w6 (fun k=>k=w2.heap.size+1∨w5.heap.size≤k) from Kept.of_grown hg (Kept.drew (Kept.refl wr _)) (fun k hk => .inl (HOW.out k hk)));clear ho hb hg hat;have q1:=cell_kept ht HKW.out (fun q=>by dsimp only at q;have h3:=HGL.out;have h4:=HS5.out;have h5:=HSZ.out;omega);have q2:=cell_kept htz HKW.out (fun q=>by dsimp only at q;have h3:=HGL.out;have h4:=HS5.out;have h5:=HSZ.out;omega);refine hK.out _ _ ⟨q1,q2⟩ (fun hHeld=>?_);clear hK K;refine norm_ (a':=?_) ?_ ?_
      rotate_left
      ·
       show Act.put _ (some 51) _=_
       simp only[Act.put,sa',sb',sc',i64_w,i32_w];rfl
      refine pure_ (i:=24) (N:=some 7) (v:=?_) (a':=?_) #[true,true,true,true,true,true,true,true,true,true,true,true,true,true,true,true,true,true,true,true,true,true,true,true,true] rfl rfl (by kernel_rfl) (fun _ _ _ h=>h) (Or.inl ⟨by rfl,?_⟩) ?_ ?_
      rotate_left
      ·
       intro w';go_simp;with_reducible rfl
      rotate_left
      ·
       simp only[Act.put,sa',sb',sc',i64_w,i32_w];rfl
      refine done_ (by kernel_rfl) ?_
      go_wp2;go_roundg (rr.length - (i+1))
      case measure=>have h1:=HG1.out;have h2:=HHI.out;omega
      case rel =>
       refine ⟨i+1,A6,c6,rfl,by have h2:=HHI.out;have h3:=HNN.out;first|exact nxt (by omega)|exact nxt2 (by omega),⟨HHI.out⟩,⟨Nat.le_refl _⟩,⟨?_⟩,HK6,HB6⟩;rw[HTS.out,decide_eq_false (show ¬ 0≤xv by have:=HCS.out;omega),Bool.false_and];exact HO6.out
    ·
     have hiz:¬ (i:Int) < (rr.length:Int):=by omega
     have hie:i=rr.length:=by have:=HI1.out;omega
     have HFI:=am' (show Kd.bool.R 4 wr w.heap.size (fun k=>k=w2.heap.size+1∨w5.heap.size≤k) (.slice Ao i co) (onL tl rr 0) by have h1:=HRO.out;rwa [List.take_of_length_le (show rr.length≤i by omega)] at h1);clear hi;subst hie;go_wp2;go_ret2
     exact ⟨.slice Ao rr.length co,rfl,Kd.R_mono HFI.out (fun _ _=>trivial),HWR.out⟩
  ·
   rw[if_neg hlen] at h;cases h
end Go.Proofs.Ytamljjfhkolflaa.C11
