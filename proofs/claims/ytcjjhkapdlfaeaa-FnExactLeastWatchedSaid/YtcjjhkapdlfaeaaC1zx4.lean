import Derived.Test.YtcjjhkapdlfaeaaC1zx0
import Derived.Test.YtcjjhkapdlfaeaaC1zx2
import Derived.Test.YtcjjhkapdlfaeaaC1zx3
import Derived.Test.YtcjjhkapdlfaeaaC1zAl
namespace Go.Proofs.Ytcjjhkapdlfaeaa.C1
open Go.RowKit Go.Proofs.YtcjjhkapdlfaeaaW.PrintWords Go.Proofs.YtcjjhkapdlfaeaaW.PrintLast Go.Proofs.YtcjjhkapdlfaeaaW.PrintMore Go.Proofs.Ytcjjhkapdlfaeaa.H
attribute [local go_sem] max2_int min2_int max_two min_two max_three min_three max_four min_four
set_option linter.unusedVariables false
set_option linter.unusedSimpArgs false
def iotaI (n:Nat):List Int:=(List.range n).map fun (i:Nat)=>(i:Int)
def lwFit (k:Nat) (x:List Int):List (List Int)→Bool→Option Bool
 | [],b=>some b
 | d :: r,b=>if 2≤d.length then (if b=true then ((spec_l1Has.f k x (rd d 0)).bind fun t=>if t=true then lwFit k x r true else (spec_l1Has.f k x (rd d 1)).bind fun u=>lwFit k x r u) else lwFit k x r false) else none
def lwS (k:Nat) (l0:List (List Int)) (best x:List Int):Option (List Int):=if best.length≤x.length then some best else (lwFit k x l0 true).bind fun t=>some (if t=true then x else best)
def spec_LeastWatched.f (k:Nat) (a0_0:Int) (l0_1:List (List Int)) (a0_2:Int):Option (List Int × Bool) :=
 (spec_keGood.f k a0_0 l0_1 a0_2).bind fun t=>if t=true then (if 0≤a0_0∧a0_0≤1000000 then ((if 0 < a0_0 then spec_paGroups.f k (iotaI a0_0.toNat) [] 0 a0_0 else some []).bind fun gs=>if gs.length < 1000000000 then (([] :: gs).foldlM (lwS k l0_1) (iotaI a0_0.toNat)).bind fun b=>some (b,true) else none) else none) else some ([],false)
theorem iotaI_len (n:Nat):(iotaI n).length=n:=by simp[iotaI]
theorem iotaI_set (n j:Nat) (h:j < n):(iotaI j ++ List.replicate (n - j) 0).set j (j:Int)=iotaI (j+1) ++ List.replicate (n - (j+1)) 0:=by
 have e:n - j=(n - (j+1))+1:=by omega
 rw[e,List.replicate_succ,List.set_append_right _ _ (by rw[iotaI_len];exact Nat.le_refl _),iotaI_len,Nat.sub_self,sb']
 unfold iotaI
 rw[List.range_succ,List.map_append]
 simp
theorem S_single1 {e et base b:Nat} {W:World} {ok okp:Nat→Prop} {x:List Int} {u:Value} (h:W.heap[b]? = some (.cells #[u] et (0,0))) (hB:base≤b) (ho:ok b) (hM:(Kd.int .i64).R e W base okp u x) (hp:∀ k,okp k→ok k∧k≠b):Kd.S (Kd.slice e (Kd.int .i64)) et W base ok (.slice (some ⟨b,0,none⟩) 1 1) [x]:=by
 refine ⟨fun _=>0,fun k hk=>by cases hk;exact ho,[u],⟨by simp[Kd.tag,Kd.slice], .inr ⟨b,1,#[u],rfl,hB,h,Nat.le_refl _,by decide,by simp[Kd.tag,Kd.slice],by simp[Kd.tag,Kd.slice]⟩⟩,?_⟩
 exact Reps.one (p:=(x,0)) ⟨u,rfl,Kd.R_mono hM (fun k hk=>⟨⟨(hp k hk).1,fun q=>(hp k hk).2 (by simpa [Value.ownBlock] using q)⟩,rfl⟩)⟩ (Reps.none _ _)
namespace Kd
def P {α:Type} (d:Kd α) (e:Nat) (w:World) (base:Nat) (ok:Nat→Prop) (v:Value) (xs:List α):Prop:=∃ A c s,v = .slice A xs.length c∧s≤w.heap.size∧xs.length≤c∧Kd.F d w (fun k_=>k_ < s) A xs.length xs
end Kd
theorem P_foot {α:Type} {d:Kd α} {e:Nat} {w':World} {base:Nat} {ok:Nat→Prop} {v:Value} {xs:List α} (ho:Kd.P d e w' base ok v xs):∃ A c s,v = .slice A xs.length c∧s≤w'.heap.size∧xs.length≤c∧Kd.F d w' (fun k_=>k_ < s) A xs.length xs:=ho
set_option maxHeartbeats 4000000 in
set_option maxRecDepth 100000 in
theorem spec_LeastWatched.calls (k:Nat) (a0_0:Int) (A0_1:Option Addr) (c0_1:Nat) (l0_1:List (List Int)) (a0_2:Int) (r1:List Int) (r2:Bool) (w:World) (hr0_1:Kd.C (Kd.slice 3 (Kd.int .i64)) w A0_1 l0_1.length l0_1) (hc0_1:l0_1.length≤c0_1) (h:spec_LeastWatched.f k a0_0 l0_1 a0_2=some (r1,r2)) :
  Calls Try.prog 6 #[.agg #[.int .i64 a0_0, .slice A0_1 l0_1.length c0_1, .int .i64 a0_2]] w fun e w'=>∃ v0_:Value,e = .returned (.tuple #[v0_, .bool r2])∧Kd.P (Kd.int .i64) 3 w' w.heap.size (fun _=>True) v0_ r1∧Below w.heap.size w w':=by
 have hu:=Try.underlying29
 unfold spec_LeastWatched.f at h
 obtain ⟨t,ht,h⟩:=Option.bind_eq_some_iff.mp h
 have HB0:=am' (show (w.alloc (.cells #[.int .i64 a0_0, .slice A0_1 l0_1.length c0_1, .int .i64 a0_2] 29)).heap[w.heap.size]? = _∧Below w.heap.size w (w.alloc (.cells #[.int .i64 a0_0, .slice A0_1 l0_1.length c0_1, .int .i64 a0_2] 29)) from ⟨heap_alloc_new w _,ba' (Below.refl _ _) _⟩)
 have HIK:=am' (fun (W:World) (hb:Below w.heap.size w W)=>spec_keGood.calls k a0_0 A0_1 c0_1 l0_1 a0_2 t W (Kd.C_below hr0_1 hb) hc0_1 ht)
 cases t with
 | false =>
  simp only[Bool.false_eq_true,if_false,Option.some.injEq,Prod.mk.injEq] at h;obtain ⟨rfl,rfl⟩:=h;clear hr0_1 ht;go_enter Try.func6,Try.ntmps6;go_wp2_with (go_at_call 35;refine (HIK.out _ HB0.out.2).mono ?_;rintro e w2 ⟨rfl,hb⟩;have HB2:=am' (below_step HB0.out.2 hb);clear hb);go_ret2
  exact ⟨_,rfl,⟨none,0,0,rfl,Nat.zero_le _,Nat.le_refl _,Kd.F_nil _ _ _⟩,HB2.out⟩
 | true =>
  simp only[if_true] at h;by_cases hn0:0≤a0_0∧a0_0≤1000000
  ·
   rw[if_pos hn0] at h;obtain ⟨n,rfl⟩:=Int.eq_ofNat_of_zero_le hn0.1;rw[Int.toNat_natCast] at h;have hnb:n≤1000000:=by omega
   obtain ⟨L,hL⟩:∃ L,L=iotaI n:=⟨_,rfl⟩
   have hl:L.length=n:=by rw[hL,iotaI_len]
   rw[← hL] at h;subst hl;have HLL:=am' hL;clear hL;obtain ⟨gs,hgs,h⟩:=Option.bind_eq_some_iff.mp h;by_cases hgl:gs.length < 1000000000
   ·
    rw[if_pos hgl] at h;obtain ⟨b,hfo,h⟩:=Option.bind_eq_some_iff.mp h;simp only[Option.some.injEq,Prod.mk.injEq] at h;obtain ⟨rfl,rfl⟩:=h;have HR0:=am' hr0_1;have HGS:=am' hgs;have HGL:=am' hgl;have HFO:=am' hfo;have HNB:=am' hnb;have hinfo:=am' (show (Try.prog.info? 3).map (fun i=>(i.zero,i.size,i.bytes))=some (some (.int .i64 0),1,8) by kernel_rfl);clear hr0_1 hgs hgl hfo ht hn0 hnb;go_enter Try.func6,Try.ntmps6
    go_wp2_with (first
     | (go_at_call 35;refine (HIK.out _ HB0.out.2).mono ?_;rintro e w2 ⟨rfl,hb⟩;have HB2:=am' (below_step HB0.out.2 hb);have HK2:=am' (blk_below HB0.out.1 hb);have x0:w2.cell? ⟨w.heap.size,0,none⟩=some (.int .i64 (L.length:Int)):=(blk_cell HK2.out 0).trans rfl;clear hb)
     | ((with_reducible refine gate_dst (N:=17) rfl ?_);refine Kd.R_make (Kd.int .i64) (w0:=w2) (W:=w2) w2.heap.size 3 rfl (N:=17) rfl 26 _ _ rfl (L.length:Int) rfl rfl Try.underlying26 (.int .i64 0) 8 hinfo.out rfl (by decide) (by omega) 0 (ok:=fun _=>True) (okp:=fun _=>True) rfl (fun _ hk=>hk) trivial (by omega) (by have:=HNB.out;rw[Int.toNat_natCast];omega) (Below.refl _ _) (Nat.le_refl _) ?_;intro v3 w3 ho3 hb3 hg_ hnew_;clear hg_ hnew_;rw[Int.toNat_natCast] at ho3;have HR3:=am' ho3;have HB23:=am' hb3;have HB3:=am' (below_step HB2.out hb3);have HK3:=am' (blk_below HK2.out hb3);obtain ⟨A3,c3,e3⟩:=Kd.R_slice ho3;rw[List.length_replicate] at e3;subst e3;clear ho3 hb3))
    clear x0;have HL2:=am' (blk_lt HK2.out);go_loopg [20] L.length (fun gg s20 wr=>∃ j:Nat,j≤L.length∧L.length - j≤gg∧s20 = .int .i64 (j:Int)∧Aside0 (Kd.R (Kd.int .i64) 3 wr w2.heap.size (fun _=>True) (.slice A3 L.length c3) (iotaI j ++ List.replicate (L.length - j) 0))∧Aside0 (Below w.heap.size w wr)∧Aside0 (wr.heap[w.heap.size]? = some (.cells #[.int .i64 (L.length:Int), .slice A0_1 l0_1.length c0_1, .int .i64 a0_2] 29 (0,0))))
    case atStart=>exact ⟨0,Nat.zero_le _,by omega,rfl,⟨by simpa [iotaI] using HR3.out⟩,HB3,HK3⟩
    case round =>
     obtain ⟨j,hj,hg,rfl,HR,HB,HK⟩:=hrel;clear HR3 HB3 HK3 HB23 HB2 HK2 HIK;have hcl:(iotaI j ++ List.replicate (L.length - j) 0).length=L.length:=by rw[List.length_append,iotaI_len,List.length_replicate];omega
     by_cases hlt:j < L.length
     ·
      have hltz:(j:Int) < (L.length:Int):=by omega
      obtain ⟨g,cap,hv,hgb,hgl,_⟩:=Kd.R_form HR.out (by omega);injection hv with hA hn hc
      subst hA;obtain ⟨y0,y1⟩:=Kd.R_celln (0:Int) HR.out (j:Int) (by omega) hltz;have HP:=am' (Kd.R_putn (enc:=Value.int .i64) (h1:=fun _=>rfl) HR.out (j:Int) (j:Int));rw[Int.toNat_natCast] at y0 y1;have HGB:=am' hgb;clear hn hc hgb hgl;go_wp2;go_roundg (L.length - (j+1))
      case measure=>omega
      case rel =>
       refine ⟨j+1,by omega,by omega,by first|rfl|exact nxt (by have:=HNB.out;omega)|exact nxt2 (by have:=HNB.out;omega),⟨?_⟩,⟨bs' HB.out (by have:=HGB.out;have:=HL2.out;simp;omega)⟩,⟨blk_far HK.out (by have:=HGB.out;have:=HL2.out;simp;omega) _⟩⟩;have:=HP.out;rw[Int.toNat_natCast,iotaI_set L.length j hlt] at this;exact this
     ·
      obtain rfl:j=L.length:=by omega
      have hltz:¬ ((L.length:Nat):Int) < (L.length:Int):=by omega
      have hr:=HR.out;rw[Nat.sub_self,List.replicate_zero,List.append_nil,← HLL.out] at hr;have HRL:=am' hr;have HBA:=am' (two_blocks wr (.cells #[] 3) (.cells #[.slice (some ⟨wr.heap.size,0,none⟩) 0 0] 26));have HKA:=am' (blk_below HK.out HBA.out.2.2);have x0:((wr.alloc (.cells #[] 3)).alloc (.cells #[.slice (some ⟨wr.heap.size,0,none⟩) 0 0] 26)).cell? ⟨w.heap.size,0,none⟩=some (.int .i64 (L.length:Int)):=(blk_cell HKA.out 0).trans rfl;have HBW:=am' (below_step HB.out HBA.out.2.2);have HRW:=am' (Kd.R_below HRL.out HBA.out.2.2);have HSZ:=am' (show ((wr.alloc (.cells #[] 3)).alloc (.cells #[.slice (some ⟨wr.heap.size,0,none⟩) 0 0] 26)).heap.size=wr.heap.size+1+1 by simp only[World.size_alloc]);clear hr HR hcl hlt;go_upto_if 32 with (fail)
      have HWL:=am' (show w.heap.size≤wr.heap.size from HB.out.size);have hi26:=am' (show (Try.prog.info? 26).map (fun i=>(i.zero,i.size,i.bytes))=some (some (.slice none 0 0),1,24) by kernel_rfl);have HSE:=am' (show Kd.S (Kd.slice 3 (Kd.int .i64)) 26 ((wr.alloc (.cells #[] 3)).alloc (.cells #[.slice (some ⟨wr.heap.size,0,none⟩) 0 0] 26)) wr.heap.size (fun _=>True) (.slice (some ⟨wr.heap.size+1,0,none⟩) 1 1) [[]] from S_single1 HBA.out.2.1 (Nat.le_succ _) trivial (Kd.S_R (S_empty (Kd.int .i64) (ok:=fun k=>k=wr.heap.size) HBA.out.1 (Nat.le_refl _) rfl)) (fun k hk=>⟨trivial,by omega⟩));go_cut [6] (fun v6 wc=>∃ (A6:Option Addr) (c6:Nat),v6 = .slice A6 (gs.length+1) c6∧gs.length+1≤c6∧Aside0 (Kd.C (Kd.slice 3 (Kd.int .i64)) wc A6 (gs.length+1) ([] :: gs))∧Aside0 (Kd.C (Kd.int .i64) wc A3 L.length L)∧Aside0 (Below w.heap.size w wc)∧Aside0 (wc.heap[w.heap.size]? = some (.cells #[.int .i64 (L.length:Int), .slice A0_1 l0_1.length c0_1, .int .i64 a0_2] 29 (0,0))))
      case first =>
       by_cases hp:0 < L.length
       ·
        have hd:=decide_eq_true hp;rw[hd];have hgp:=HGS.out;rw[if_pos (by omega)] at hgp;have HGP:=am' hgp;clear hgp hd
        go_wp2_with (first
         | (go_at_call 36;refine (spec_paGroups.calls k A3 c3 L none 0 [] 0 (L.length:Int) gs _ (Kd.R_reads' HRW.out).2.2 (Kd.R_reads' HRW.out).2.1 (Kd.C_nil _ _) (Nat.le_refl _) HGP.out).mono ?_;rintro e w6 ⟨v6,rfl,hN,hb⟩;obtain ⟨A6,c6,rfl⟩:=Kd.N_slice hN;have HN:=am' hN;have HB6:=am' hb;clear hN hb)
         | ((with_reducible refine gate_builtin (b := .append) (xs:=#[.tmp 33, .tmp 37]) rfl ?_);at_builtin;refine Kd.N_append_rows (Kd.slice 3 (Kd.int .i64)) (w0:=w6) wr.heap.size rfl (.tmp 33) (.tmp 37) 22 26 (.slice none 0 0) 24 rfl Try.underlying22 hi26.out rfl (by decide) (by omega) (.slice (some ⟨wr.heap.size+1,0,none⟩) 1 1) [[]] gs A6 gs.length c6 (fun _=>True) (fun k_=>some k_≠(Value.slice (some ⟨wr.heap.size+1,0,none⟩) 1 1).ownBlock) rfl rfl ?aO ?aR (fun _ hk=>⟨trivial,hk⟩) (fun _ _=>trivial) (Below.refl _ _) ?aS ?aL ?_;(case aO=>exact Kd.S_N (Kd.S_below HSE.out HB6.out));(case aR=>exact Kd.N_F (Kd.N_mono HN.out (fun k hk q=>by have h1:=HSZ.out;have q2:=Option.some.inj (show some k=some (wr.heap.size+1) from q);rw[h1] at hk;omega)));(case aS=>have h1:=HSZ.out;have h2:=HB6.out.size;omega);(case aL=>have:=HGL.out;simp;omega);intro v7 w7 ho hb hg_ hat_;clear hg_ hat_;obtain ⟨A7,c7,e7⟩:=Kd.N_slice ho;subst e7;have HN7:=am' ho;have HB7:=am' hb;clear ho hb))
        go_meet
        case rel =>
         have hbb:Below wr.heap.size wr w7:=(below_then HBA.out.2.2 (by have:=HSZ.out;omega) HB6.out).trans HB7.out;have hr7:=Kd.N_reads' HN7.out;exact ⟨A7,c7,by simp[Nat.add_comm],by have:=hr7.2.1;simp at this;omega,⟨by simpa [Nat.add_comm] using hr7.2.2⟩,⟨Kd.C_below (Kd.R_reads' HRL.out).2.2 hbb⟩,⟨below_step HB.out hbb⟩,⟨blk_below HK.out hbb⟩⟩
       ·
        have hd:=decide_eq_false hp;rw[hd];have hgp:=HGS.out;rw[if_neg (by omega)] at hgp;obtain rfl:=Option.some.inj hgp;have HRS:=am' (Kd.S_reads' HSE.out);clear hgp hd;go_wp2;go_meet
        case rel =>
         exact ⟨_,_,rfl,Nat.le_refl _,⟨HRS.out.2.2⟩,⟨(Kd.R_reads' HRW.out).2.2⟩,HBW,HKA⟩
      case rest =>
       obtain ⟨A6,c6,rfl,hc6,HCL,HCB,HBC,HKC⟩:=hcut;have HC3:=am' (show L.length≤c3 from (Kd.R_reads' HRL.out).2.1);clear HSE HSZ HRW HRL HBW HKA HBA x0 HB HK HGS;go_wp2;go_loopg [4,41] (gs.length+1) (fun gg s4 s41 wr=>∃ (j:Nat) (best:List Int) (Ab:Option Addr) (cb:Nat),j≤gs.length+1∧gs.length+1 - j≤gg∧s41 = .int .i64 (j:Int)∧s4 = .slice Ab best.length cb∧best.length≤cb∧Aside0 ((([] :: gs).drop j).foldlM (lwS k l0_1) best=some b)∧Aside0 (Kd.C (Kd.int .i64) wc Ab best.length best)∧Aside0 (Drawn0 wc wr))
       case atStart=>exact ⟨0,L,A3,c3,Nat.zero_le _,Nat.le_refl _,rfl,rfl,HC3.out,HFO,HCB,⟨Drawn0.refl _⟩⟩
       case round =>
        obtain ⟨j,best,Ab,cb,hj,hg,rfl,rfl,hcb,HF,HBE,HD⟩:=hrel;clear HFO HCB HC3;obtain ⟨q,e_⟩:=HD.out.out;subst e_;clear HD;have hgb:=HGL.out;by_cases hlt:j < gs.length+1
        ·
         have hltz:(j:Int) < (gs.length:Int)+1:=by omega
         obtain ⟨ad,c,e0,hcl,hK,hcc⟩:=Kd.C_get HCL.out [] (j:Int) (by omega) (by omega);cases e0;obtain ⟨x,hx⟩:∃ x,([] :: gs)[j]? = some x:=⟨_,List.getElem?_eq_getElem (by simp;omega)⟩
         rw[Int.toNat_natCast,List.getD_eq_getElem?_getD,hx,Option.getD_some] at hK;obtain ⟨Ax,cx,rfl,hlc,hCx⟩:=hK
         have y0:(wc.drewN q).cell? (ad.add j)=some (.slice Ax x.length cx):=by
          have:=hcc 0 _ rfl;rw[Int.toNat_natCast] at this;simpa [Kd.slice] using this
         have HXC:=am' hCx;have HXL:=am' hlc;have hf:=HF.out;rw[List.drop_eq_getElem_cons (by simp;omega),List.foldlM_cons] at hf
         have hx2:([] :: gs)[j]'(by simp;omega)=x:=by
          have:=List.getElem?_eq_getElem (l:=[] :: gs) (i:=j) (by simp;omega)
          rw[hx] at this;exact (Option.some.inj this).symm
         rw[hx2] at hf;obtain ⟨best',hs,hf⟩:=Option.bind_eq_some_iff.mp hf;have HF2:=am' hf;have hmx:=hCx.2.1;have hmb:=HBE.out.2.1;clear hx hx2 hf hcc hcl hCx hlc HF;unfold lwS at hs
         by_cases hle:best.length≤x.length
         ·
          rw[if_pos hle] at hs;obtain rfl:=Option.some.inj hs;have hq1:decide ((best.length:Int)≤(x.length:Int))=true:=decide_eq_true (by omega);have hq2:decide (best.length≤x.length)=true:=decide_eq_true hle;clear hs;go_wp2;go_roundg (gs.length+1 - (j+1))
          case measure=>omega
          case rel=>exact ⟨j+1,best,Ab,cb,by omega,by omega,by first|rfl|exact nxt (by omega)|exact nxt2 (by omega),rfl,hcb,HF2,HBE,⟨Drawn0.step (Drawn0.refl _) q⟩⟩
         ·
          rw[if_neg hle] at hs;obtain ⟨t,ht,hs⟩:=Option.bind_eq_some_iff.mp hs;have hb':=Option.some.inj hs;have HT:=am' ht;have HBP:=am' hb';have hq1:decide ((best.length:Int)≤(x.length:Int))=false:=decide_eq_false (by omega);have hq2:decide (best.length≤x.length)=false:=decide_eq_false hle;clear hs ht hb';have y1:(wc.drewN q).cell? ⟨w.heap.size,1,none⟩=some (.slice A0_1 l0_1.length c0_1):=(blk_cell HKC.out 1).trans rfl;have hm0:=HR0.out.2.1;go_wp2;go_loopg [9,53] l0_1.length (fun gg2 s9 s53 wr2=>∃ (i:Nat) (bb:Bool),i≤l0_1.length∧l0_1.length - i≤gg2∧s53 = .int .i64 (i:Int)∧s9 = .bool bb∧Aside0 (lwFit k x (l0_1.drop i) bb=some t)∧Aside0 (Drawn0 wc wr2))
          case atStart=>exact ⟨0,true,Nat.zero_le _,Nat.le_refl _,rfl,rfl,HT,⟨Drawn0.step (Drawn0.refl _) q⟩⟩
          case round =>
           obtain ⟨i,bb,hi,hg2,rfl,rfl,HT2,HD⟩:=hrel;clear HT y0 y1;obtain ⟨q1,e_⟩:=HD.out.out;subst e_;clear HD;by_cases hli:i < l0_1.length
           ·
            have hliz:(i:Int) < (l0_1.length:Int):=by omega
            obtain ⟨ad2,c2,e0,hcl,hK,hcc⟩:=Kd.C_get (Kd.C_below HR0.out HBC.out) [] (i:Int) (by omega) hliz;cases e0;obtain ⟨d,hd⟩:∃ d,l0_1[i]? = some d:=⟨_,List.getElem?_eq_getElem hli⟩
            rw[Int.toNat_natCast,List.getD_eq_getElem?_getD,hd,Option.getD_some] at hK;obtain ⟨Ad,cd,rfl,hld,hCd⟩:=hK
            have y0:(wc.drewN q1).cell? (ad2.add i)=some (.slice Ad d.length cd):=by
             have:=hcc 0 _ rfl;rw[Int.toNat_natCast] at this;simpa [Kd.slice] using this
            have ht:=HT2.out;rw[List.drop_eq_getElem_cons hli] at ht
            have hd2:l0_1[i]'hli=d:=by
             have:=List.getElem?_eq_getElem hli
             rw[hd] at this;exact (Option.some.inj this).symm
            rw[hd2,lwFit] at ht;clear hd hd2 hcc hcl HT2;by_cases h2d:2≤d.length
            ·
             rw[if_pos h2d] at ht;have hd0:(0:Int) < (d.length:Int):=by omega
             have hd1:(1:Int) < (d.length:Int):=by omega
             obtain ⟨ad3,e0,z1⟩:=Kd.at_int hCd 0 (by omega) hd0;cases e0;obtain ⟨ad4,e0,z2⟩:=Kd.at_int hCd 1 (by omega) hd1;cases e0;have z0_:ad3.add 0=ad3:=by unfold Addr.add;simp
             rw[show (0:Int).toNat=0 from rfl,z0_] at z1;rw[show (1:Int).toNat=0+1 from rfl,add_field ad3 0 1 (by omega),z0_] at z2;have y1:(wc.drewN q1).cell? ad3=some (.int .i64 (rd d 0)):=z1;have y2:(wc.drewN q1).cell? ⟨ad3.block,ad3.off+1,none⟩=some (.int .i64 (rd d 1)):=z2;have p0:(0 < d.length)=True:=eq_true (by omega);have p1:(1 < d.length)=True:=eq_true (by omega);have p2:((1:Int) < (d.length:Int))=True:=eq_true (by omega);have Z2:=am' z2;clear z1 z2 hCd h2d hd0 hd1;generalize rd d 0=x0 at *
             generalize rd d 1=x1 at *
             cases bb with
             | false =>
              rw[if_neg (by simp)] at ht;have HT3:=am' ht;clear ht;go_wp2;go_roundg (l0_1.length - (i+1))
              case measure=>omega
              case rel=>exact ⟨i+1,false,by omega,by omega,by first|rfl|exact nxt (by omega)|exact nxt2 (by omega),rfl,HT3,⟨Drawn0.step (Drawn0.refl _) q1⟩⟩
             | true =>
              rw[if_pos rfl] at ht;obtain ⟨t1,ht1,ht⟩:=Option.bind_eq_some_iff.mp ht;have HH1:=am' ht1;clear ht1;cases t1 with
              | true =>
               rw[if_pos rfl] at ht;have HT3:=am' ht;clear ht;go_wp2_with (go_at_call 37;refine (spec_l1Has.calls k Ax cx x (x0) true _ (cn' HXC.out _) HXL.out HH1.out).mono ?_;rintro e w3 ⟨rfl,hd⟩;obtain ⟨q2,e_⟩:=hd.out;subst e_;have zz:=());go_roundg (l0_1.length - (i+1))
               case measure=>omega
               case rel=>exact ⟨i+1,true,by omega,by omega,by first|rfl|exact nxt (by omega)|exact nxt2 (by omega),rfl,HT3,⟨⟨⟨q1+q2,rfl⟩⟩⟩⟩
              | false =>
               rw[if_neg (by simp)] at ht;obtain ⟨t2,ht2,ht⟩:=Option.bind_eq_some_iff.mp ht;have HH2:=am' ht2;have HT3:=am' ht;clear ht2 ht;go_wp2_with fail
               (go_at_call 37;refine (spec_l1Has.calls k Ax cx x (x0) false _ (cn' HXC.out _) HXL.out HH1.out).mono ?_;rintro e w3 ⟨rfl,hd⟩;obtain ⟨q2,e_⟩:=hd.out;subst e_;have y3:(wc.drewN (q1+q2)).cell? ⟨ad3.block,ad3.off+1,none⟩=some (.int .i64 x1):=Z2.out)
               go_wp2_with fail
               (go_at_call 37;refine (spec_l1Has.calls k Ax cx x (x1) t2 _ (cn' HXC.out _) HXL.out HH2.out).mono ?_;rintro e w4 ⟨rfl,hd⟩;obtain ⟨q3,e_⟩:=hd.out;subst e_;have zz:=())
               go_wp2;go_roundg (l0_1.length - (i+1))
               case measure=>omega
               case rel=>exact ⟨i+1,t2,by omega,by omega,by first|rfl|exact nxt (by omega)|exact nxt2 (by omega),by cases t2 <;> rfl,HT3,⟨⟨⟨q1+q2+q3,rfl⟩⟩⟩⟩
            ·
             rw[if_neg h2d] at ht;cases ht
           ·
            obtain rfl:i=l0_1.length:=by omega
            have hnl:¬ ((l0_1.length:Nat):Int) < (l0_1.length:Int):=by omega
            have ht:=HT2.out;rw[List.drop_length,lwFit] at ht;obtain rfl:bb=t:=Option.some.inj ht;clear ht HT2 hli;cases bb with
            | true =>
             obtain rfl:x=best':=by have:=HBP.out;simpa using this
             go_wp2;go_roundg (gs.length+1 - (j+1))
             case measure=>omega
             case rel=>exact ⟨j+1,x,Ax,cx,by omega,by omega,by first|rfl|exact nxt (by omega)|exact nxt2 (by omega),rfl,HXL.out,HF2,HXC,⟨Drawn0.step (Drawn0.refl _) q1⟩⟩
            | false =>
             obtain rfl:best=best':=by have:=HBP.out;simpa using this
             go_wp2;go_roundg (gs.length+1 - (j+1))
             case measure=>omega
             case rel=>exact ⟨j+1,best,Ab,cb,by omega,by omega,by first|rfl|exact nxt (by omega)|exact nxt2 (by omega),rfl,hcb,HF2,HBE,⟨Drawn0.step (Drawn0.refl _) q1⟩⟩
        ·
         obtain rfl:j=gs.length+1:=by omega
         have hnl:¬ ((gs.length:Int)+1) < (gs.length:Int)+1:=by omega
         have hf:=HF.out;rw[List.drop_eq_nil_of_le (by simp)] at hf;obtain rfl:best=b:=Option.some.inj hf;clear hf HF;go_wp2;go_ret2
         exact ⟨_,rfl,⟨Ab,cb,_,rfl,Nat.le_refl _,hcb,Kd.C_F (Kd.heap_int .i64) (cn' HBE.out q)⟩,bd' HBC.out q⟩
   ·
    rw[if_neg hgl] at h;cases h
  ·
   rw[if_neg hn0] at h;cases h
def laws_toIntS.l0:Nat→List Int→List Int→Int→Option (List Int)
 | 0,_,_,_=>none
 | k+1,x0,x3,x4=>if x4 < (x0.length:Int) then (if 0≤x4 then (if x4 < (x3.length:Int) then (laws_toIntS.l0 k x0 (x3.set (x4:Int).toNat (rd x0 x4)) (wrap64 (x4+1))) else (none)) else (none)) else (some x3)
def laws_toIntS.f (k:Nat) (l0:List Int):Option (List Int):=if 0≤(l0.length:Int) then (if ((l0.length:Int):Int).toNat≤35184372088832 then (laws_toIntS.l0 k l0 (List.replicate ((l0.length:Int):Int).toNat 0) 0) else (none)) else (none)
set_option maxHeartbeats 8000000 in
set_option maxRecDepth 100000 in
theorem laws_toIntS.calls (k:Nat) (A0:Option Addr) (c0:Nat) (l0:List Int) (r:List Int) (w:World) (hr0:Kd.C (Kd.int .i64) w A0 l0.length l0) (hc0:l0.length≤c0) (h:laws_toIntS.f k l0=some r) :
  Calls Try.prog 70 #[.slice A0 l0.length c0] w fun e w'=>∃ v0_:Value,e = .returned (v0_)∧Kd.R (Kd.int .i64) 3 w' w.heap.size (fun _=>True) v0_ r∧Below w.heap.size w w':=by
 have HR0:=am' hr0
 have HC0:=am' hc0
 clear hr0 hc0;have HB:=am' (Below.refl w.heap.size w)
 have H:(if 0≤(l0.length:Int) then (if ((l0.length:Int):Int).toNat≤35184372088832 then (laws_toIntS.l0 k l0 (List.replicate ((l0.length:Int):Int).toNat 0) 0) else (none)) else (none))=some r:=h
 clear h;by_cases c2:0≤(l0.length:Int)
 ·
  rw[if_pos c2] at H;have c2b0:=eq_true c2;have c2b1:decide (0≤(l0.length:Int))=true:=decide_eq_true c2;clear c2;by_cases c3:((l0.length:Int):Int).toNat≤35184372088832
  ·
   rw[if_pos c3] at H;have c3b0:=eq_true c3;have c3b1:decide (((l0.length:Int):Int).toNat≤35184372088832)=true:=decide_eq_true c3;clear c3;obtain ⟨y153,hy153⟩:∃ y_:List Int,y_=(List.replicate ((l0.length:Int):Int).toNat 0):=⟨_,rfl⟩
   replace H:(laws_toIntS.l0 k l0 y153 0)=some r:=by first|(rw[hy153];with_reducible exact H)|(have H2_:=(Option.bind_some _ _).symm.trans H;rw[hy153];with_reducible exact H2_)|(have H2_:=(Option.bind_some _ _).symm.trans H;with_reducible exact H2_)|with_reducible exact H|(rw[hy153];exact H)|exact H
   have Ny153:=am' hy153;clear hy153;have H':=am' H;clear H;go_enter Try.func70,Try.ntmps70;go_wp2_with (first|((with_reducible refine gate_dst (N:=7) rfl ?_);refine Kd.R_make (Kd.int .i64) _ 3 rfl (N:=7) rfl 26 _ _ rfl (l0.length:Int) rfl rfl Try.underlying26 (.int .i64 0) 8 info3 rfl (by decide) (by omega) 0 (ok:=fun _=>True) (okp:=fun _=>True) rfl (fun _ hk=>hk) trivial (of_decide_eq_true (by first|(with_reducible assumption)|assumption)) (Nat.le_trans (Nat.mul_le_mul_right _ (of_decide_eq_true (by first|(with_reducible assumption)|assumption):(l0.length:Int).toNat≤35184372088832)) (by omega)) (Below.refl _ _) (Nat.le_refl _) ?_;intro v154 w4 ho5 hb hg_ hnew_;clear hg_ hnew_;(first|rw[← Ny153.out] at ho5|(simp only[Int.reduceToNat] at ho5;rw[← Ny153.out] at ho5));have n0_:=am' (Kd.R_lower ho5 (below_size (by repeat (first|(with_reducible first|exact HB.out|apply ba'|apply bd'|apply be')|exact HB.out))));have n1_:=am' (below_step (by repeat (first|(with_reducible first|exact HB.out|apply ba'|apply bd'|apply be')|exact HB.out)) hb);clear HB;have HO155:=n0_;have HB:=n1_;clear n0_ n1_;clear hb ho5));go_loopg [4] k (fun kq v4 w'=>∃ (x3_1:List Int) (x4_1:Int),v4 = .int .i64 x4_1∧Aside0 (laws_toIntS.l0 kq l0 x3_1 x4_1=some r)∧Aside0 (kq≤k)∧Aside0 (Kd.R (Kd.int .i64) 3 w' w.heap.size (fun _=>True) v154 x3_1)∧Aside0 (Below w.heap.size w w'))
   case atStart=>exact ⟨(y153),(0),(by first|rfl|(simp;done)|(simp[*];done)),H',⟨Nat.le_refl _⟩,⟨by (with_reducible repeat (first|apply ra'|apply rn'|apply rw'));exact HO155.out⟩,⟨by repeat (first|(with_reducible first|exact HB.out|apply ba'|apply bd'|apply be')|exact HB.out)⟩⟩
   case round =>
    clear H';try clear c2
    try clear c2b0
    try clear c2b1
    try clear p2
    try clear c3
    try clear c3b0
    try clear c3b1
    obtain ⟨x3_1,x4_1,rfl,HA,HK1,HO_3,HB⟩:=hrel;cases gk with
    | zero=>exact absurd HA.out (by simp[laws_toIntS.l0])
    | succ k1 =>
     have H:=HA.out;clear HA;simp only[laws_toIntS.l0] at H;by_cases c6:x4_1 < (l0.length:Int)
     ·
      rw[if_pos c6] at H;have c6b0:decide (x4_1 < (l0.length:Int))=true:=decide_eq_true c6;clear c6;by_cases c7:0≤x4_1
      ·
       rw[if_pos c7] at H;have c7b0:decide (0≤x4_1)=true:=decide_eq_true c7;clear c7;by_cases c8:x4_1 < (x3_1.length:Int)
       ·
        rw[if_pos c8] at H;have c8b0:decide (x4_1 < (x3_1.length:Int))=true:=decide_eq_true c8;clear c8;obtain ⟨y157,hy157⟩:∃ y_:List Int,y_=(x3_1.set (x4_1:Int).toNat (rd l0 x4_1)):=⟨_,rfl⟩
        replace H:(laws_toIntS.l0 k1 l0 y157 (wrap64 (x4_1+1)))=some r:=by first|(rw[hy157];with_reducible exact H)|(have H2_:=(Option.bind_some _ _).symm.trans H;rw[hy157];with_reducible exact H2_)|(have H2_:=(Option.bind_some _ _).symm.trans H;with_reducible exact H2_)|with_reducible exact H|(rw[hy157];exact H)|exact H
        have Ny157:=am' hy157;clear hy157;have H':=am' H;clear H;have p156:0≤(x4_1:Int):=of_decide_eq_true (by first|(with_reducible assumption)|assumption);have q156:x4_1 < (l0.length:Int):=of_decide_eq_true (by first|(with_reducible assumption)|assumption);obtain ⟨ad156,e156,hx156_0⟩:=Kd.at_int HR0.out x4_1 p156 q156;cases e156;replace hx156_0:=(HB.out.cell (bl' w _ hx156_0)).trans hx156_0;replace p156:=eq_true p156;replace q156:=eq_true q156;have p9:0≤(x4_1:Int):=of_decide_eq_true (by first|(with_reducible assumption)|assumption);have q9:(x4_1:Int) < ((x3_1.length:Int):Int):=of_decide_eq_true (by first|(with_reducible assumption)|assumption);obtain ⟨go9,co9,eo9,gb9,gl9,cl9,HG9⟩:=Kd.R_form HO_3.out (by omega)
        (first|cases eo9|(injection eo9 with ea_ en_ ec_;(first|subst ea_|(injection ea_ with ea_;subst ea_));subst ec_;clear en_))
        have GB9:=am' gb9;have GG9:=am' HG9;clear gb9 gl9 HG9;obtain ⟨hx9_0,hf9_0⟩:=Kd.R_celln 0 HO_3.out (x4_1:Int) p9 q9;replace p9:=eq_true p9;replace q9:=eq_true q9;have HP10:=Kd.R_putg HO_3.out (x4_1:Int) (rd l0 x4_1);go_wp2_with (first|((with_reducible refine gate_store (t:=3) (p:=20) rfl ?_);refine store_event (t:=3) (p:=20) (v:=?vo_w11) (w1:=(wr.setCell ⟨go9,(x4_1:Int).toNat,none⟩ (.int .i64 (rd l0 x4_1)))) ?hg ?ho ?hn ?hr ?_;(case ho=>rfl);(case hg=>rfl);(case hn=>rfl);(case hr=>first|(go_simp;done)|(go_simp;rfl));intro w11 hw;have hg:wr.grownBy w11 (some go9):=(by rw[hw];exact HP10.2);have hp_:Kd.R (Kd.int .i64) 3 w11 w.heap.size (fun _=>True) (.slice (some ⟨go9,0,none⟩) x3_1.length co9) y157:=(by rw[hw,Ny157.out];exact HP10.1);clear HP10;have n0_:=am' (hp_);have n1_:=am' ((by rw[hw];exact bs' (HB.out) GB9.out:Below w.heap.size w w11));clear HO_3;clear HB;have HO_3:=n0_;have HB:=n1_;clear n0_ n1_;clear hg hw hp_));go_roundg k1
        case measure=>have:=HK1.out;omega
        case rel=>exact ⟨(y157),(wrap64 (x4_1+1)),(by first|rfl|(simp;done)|(simp[*];done)),H',⟨by have:=HK1.out;omega⟩,⟨by (with_reducible repeat (first|apply ra'|apply rn'|apply rw'));exact HO_3.out⟩,⟨by repeat (first|(with_reducible first|exact HB.out|apply ba'|apply bd'|apply be')|exact HB.out)⟩⟩
       ·
        rw[if_neg c8] at H;exact absurd H (by simp)
      ·
       rw[if_neg c7] at H;exact absurd H (by simp)
     ·
      rw[if_neg c6] at H;have c6b0:decide (x4_1 < (l0.length:Int))=false:=decide_eq_false c6;clear c6;obtain rfl:=Option.some.inj H;go_wp2;go_ret
      exact ⟨_,by first|rfl|(simp[errW_none,errW_some] <;> rfl)|(simp[*,errW_none,errW_some] <;> rfl),by (with_reducible repeat (first|apply ra'|apply rn'|apply rw'));exact HO_3.out,by repeat (first|(with_reducible first|exact HB.out|apply ba'|apply bd'|apply be')|exact HB.out)⟩
  ·
   rw[if_neg c3] at H;exact absurd H (by simp)
 ·
  rw[if_neg c2] at H;exact absurd H (by simp)
def laws_toIntSS.l0:Nat→List (List Int)→List (List Int)→Int→Option ((List (List Int)))
 | 0,_,_,_=>none
 | k+1,x0,x3,x4=>if x4 < (x0.length:Int) then (if 0≤x4 then ((laws_toIntS.f k (rd_L1 x0 x4)).bind fun t162=>(if x4 < (x3.length:Int) then (laws_toIntSS.l0 k x0 (x3.set (x4:Int).toNat t162) (wrap64 (x4+1))) else (none))) else (none)) else (some x3)
def laws_toIntSS.f (k:Nat) (l0:List (List Int)):Option ((List (List Int))):=if 0≤(l0.length:Int) then (if ((l0.length:Int):Int).toNat≤11728124029610 then (laws_toIntSS.l0 k l0 (List.replicate ((l0.length:Int):Int).toNat []) 0) else (none)) else (none)
set_option maxHeartbeats 8000000 in
set_option maxRecDepth 100000 in
theorem laws_toIntSS.calls (k:Nat) (A0:Option Addr) (c0:Nat) (l0:List (List Int)) (r:List (List Int)) (w:World) (hr0:Kd.C (Kd.slice 3 (Kd.int .i64)) w A0 l0.length l0) (hc0:l0.length≤c0) (h:laws_toIntSS.f k l0=some r) :
  Calls Try.prog 38 #[.slice A0 l0.length c0] w fun e w'=>∃ v0_:Value,e = .returned (v0_)∧Kd.S (Kd.slice 3 (Kd.int .i64)) 26 w' w.heap.size (fun _=>True) v0_ r∧Below w.heap.size w w':=by
 have HR0:=am' hr0
 have HC0:=am' hc0
 clear hr0 hc0;have HB:=am' (Below.refl w.heap.size w)
 have H:(if 0≤(l0.length:Int) then (if ((l0.length:Int):Int).toNat≤11728124029610 then (laws_toIntSS.l0 k l0 (List.replicate ((l0.length:Int):Int).toNat []) 0) else (none)) else (none))=some r:=h
 clear h;by_cases c2:0≤(l0.length:Int)
 ·
  rw[if_pos c2] at H;have c2b0:=eq_true c2;have c2b1:decide (0≤(l0.length:Int))=true:=decide_eq_true c2;clear c2;by_cases c3:((l0.length:Int):Int).toNat≤11728124029610
  ·
   rw[if_pos c3] at H;have c3b0:=eq_true c3;have c3b1:decide (((l0.length:Int):Int).toNat≤11728124029610)=true:=decide_eq_true c3;clear c3;obtain ⟨y158,hy158⟩:∃ y_:List (List Int),y_=(List.replicate ((l0.length:Int):Int).toNat []):=⟨_,rfl⟩
   replace H:(laws_toIntSS.l0 k l0 y158 0)=some r:=by first|(rw[hy158];with_reducible exact H)|(have H2_:=(Option.bind_some _ _).symm.trans H;rw[hy158];with_reducible exact H2_)|(have H2_:=(Option.bind_some _ _).symm.trans H;with_reducible exact H2_)|with_reducible exact H|(rw[hy158];exact H)|exact H
   have Ny158:=am' hy158;clear hy158;have H':=am' H;clear H;go_enter Try.func38,Try.ntmps38;go_wp2_with (first|((with_reducible refine gate_dst (N:=7) rfl ?_);refine Kd.S_make (Kd.slice 3 (Kd.int .i64)) _ 26 rfl (N:=7) rfl 22 _ _ rfl (l0.length:Int) rfl rfl Try.underlying22 (.slice none 0 0) 24 info26 rfl (by decide) (by omega) [] (ok:=fun _=>True) (okp:=fun _=>True) ⟨_,rfl,Kd.R_nil _ _ _ _ _⟩ (fun _ hk=>hk) trivial (of_decide_eq_true (by first|(with_reducible assumption)|assumption)) (Nat.le_trans (Nat.mul_le_mul_right _ (of_decide_eq_true (by first|(with_reducible assumption)|assumption):(l0.length:Int).toNat≤11728124029610)) (by omega)) (Below.refl _ _) (Nat.le_refl _) ?_;intro v159 w4 ho5 hb hg_ hnew_;clear hg_ hnew_;(first|rw[← Ny158.out] at ho5|(simp only[Int.reduceToNat] at ho5;rw[← Ny158.out] at ho5));have n0_:=am' (Kd.S_lower ho5 (below_size (by repeat (first|(with_reducible first|exact HB.out|apply ba'|apply bd'|apply be')|exact HB.out))));have n1_:=am' (below_step (by repeat (first|(with_reducible first|exact HB.out|apply ba'|apply bd'|apply be')|exact HB.out)) hb);clear HB;have HO160:=n0_;have HB:=n1_;clear n0_ n1_;clear hb ho5));go_loopg [4] k (fun kq v4 w'=>∃ (x3_1:List (List Int)) (x4_1:Int),v4 = .int .i64 x4_1∧Aside0 (laws_toIntSS.l0 kq l0 x3_1 x4_1=some r)∧Aside0 (kq≤k)∧Aside0 (Kd.S (Kd.slice 3 (Kd.int .i64)) 26 w' w.heap.size (fun _=>True) v159 x3_1)∧Aside0 (Below w.heap.size w w'))
   case atStart=>exact ⟨(y158),(0),(by first|rfl|(simp;done)|(simp[*];done)),H',⟨Nat.le_refl _⟩,⟨by (with_reducible repeat (first|apply Kd.S_alloc|apply Kd.S_drewN|apply Kd.S_drew));exact HO160.out⟩,⟨by repeat (first|(with_reducible first|exact HB.out|apply ba'|apply bd'|apply be')|exact HB.out)⟩⟩
   case round =>
    clear H';try clear c2
    try clear c2b0
    try clear c2b1
    try clear p2
    try clear c3
    try clear c3b0
    try clear c3b1
    obtain ⟨x3_1,x4_1,rfl,HA,HK1,HO_3,HB⟩:=hrel;cases gk with
    | zero=>exact absurd HA.out (by simp[laws_toIntSS.l0])
    | succ k1 =>
     have H:=HA.out;clear HA;simp only[laws_toIntSS.l0] at H;by_cases c6:x4_1 < (l0.length:Int)
     ·
      rw[if_pos c6] at H;have c6b0:decide (x4_1 < (l0.length:Int))=true:=decide_eq_true c6;clear c6;by_cases c7:0≤x4_1
      ·
       rw[if_pos c7] at H;have c7b0:decide (0≤x4_1)=true:=decide_eq_true c7;clear c7;replace H:=Option.bind_eq_some_iff.mp H;obtain ⟨t162,A80,H⟩:=H;replace H:(if x4_1 < (x3_1.length:Int) then (laws_toIntSS.l0 k1 l0 (x3_1.set (x4_1:Int).toNat t162) (wrap64 (x4_1+1))) else (none))=some r:=H;have A8:=am' A80;clear A80;by_cases c9:x4_1 < (x3_1.length:Int)
       ·
        rw[if_pos c9] at H;have c9b0:decide (x4_1 < (x3_1.length:Int))=true:=decide_eq_true c9;clear c9;obtain ⟨y165,hy165⟩:∃ y_:List (List Int),y_=(x3_1.set (x4_1:Int).toNat t162):=⟨_,rfl⟩
        replace H:(laws_toIntSS.l0 k1 l0 y165 (wrap64 (x4_1+1)))=some r:=by first|(rw[hy165];with_reducible exact H)|(have H2_:=(Option.bind_some _ _).symm.trans H;rw[hy165];with_reducible exact H2_)|(have H2_:=(Option.bind_some _ _).symm.trans H;with_reducible exact H2_)|with_reducible exact H|(rw[hy165];exact H)|exact H
        have Ny165:=am' hy165;clear hy165;have H':=am' H;clear H;have p161:0≤(x4_1:Int):=of_decide_eq_true (by first|(with_reducible assumption)|assumption);have q161:x4_1 < (l0.length:Int):=of_decide_eq_true (by first|(with_reducible assumption)|assumption);obtain ⟨ad161,A161_0,c161_0,e161,hx161_0,hl161_0,hi161_0⟩:=at_L1 HR0.out x4_1 p161 q161;cases e161;replace hx161_0:=(HB.out.cell (bl' w _ hx161_0)).trans hx161_0;have HR161_0:=am' hi161_0;have HC161_0:=am' hl161_0;clear hi161_0 hl161_0;replace p161:=eq_true p161;replace q161:=eq_true q161;go_wp2_with (first|((with_reducible refine gate_callee (f:=70) rfl ?_);refine goesL_ (some 20) rfl rfl Try.func70 (by kernel_rfl) rfl #[.slice A161_0 (rd_L1 l0 x4_1).length c161_0] rfl (by (try simp only[List.map_toArray,List.map_cons,List.map_nil]);first|done|rfl|(simp only[List.length_drop,List.length_take];rfl)) ?_;(with_reducible refine (laws_toIntS.calls k1 _ _ (rd_L1 l0 x4_1) t162 _ ?side1 ?side2 A8.out).mono ?_);(case side1=>repeat (first|exact (Kd.C_below HR161_0.out HB.out)|(with_reducible refine ca' ?_ _)|(with_reducible refine cn' ?_ _)|(with_reducible refine cd' ?_)));(case side2=>exact HC161_0.out);rintro e w11 ⟨v163,rfl,ho0,hb⟩;refine ⟨_,rfl,?_⟩;have n0_:=am' (Kd.S_elder' (by (with_reducible repeat (first|apply Kd.S_alloc|apply Kd.S_drewN|apply Kd.S_drew));exact HO_3.out) (Kd.R_base ho0) hb);have n1_:=am' (Kd.R_lower ho0 (below_size (by repeat (first|(with_reducible first|exact HB.out|apply ba'|apply bd'|apply be')|exact HB.out))));have n2_:=am' (below_step (by repeat (first|(with_reducible first|exact HB.out|apply ba'|apply bd'|apply be')|exact HB.out)) hb);clear HO_3;clear HB;have HO_3:=n0_;have HO164:=n1_;have HB:=n2_;clear n0_ n1_ n2_;(try clear hb);(try clear hb2);(try clear hk);(try clear hi);(try clear ho0);have p10:0≤(x4_1:Int):=of_decide_eq_true (by first|(with_reducible assumption)|assumption);have q10:(x4_1:Int) < ((x3_1.length:Int):Int):=of_decide_eq_true (by first|(with_reducible assumption)|assumption);obtain ⟨go10,co10,eo10,gb10,gl10,cl10,HG10⟩:=Kd.S_form HO_3.out (by omega);(first|cases eo10|(injection eo10 with ea_ en_ ec_;(first|subst ea_|(injection ea_ with ea_;subst ea_));subst ec_;clear en_));have GB10:=am' gb10;have GG10:=am' HG10;clear gb10 gl10 HG10;obtain ⟨_,ce10,hcl10,hM10,hcc10,hfr10,_,_⟩:=Kd.S_elem HO_3.out [] (x4_1:Int) p10 q10;obtain ⟨ve10_0,rfl,ge10_0⟩:=hM10;have hx10_0:=hcc10 0 _ rfl;have hf10_0:=hfr10 0;(try simp only[show ((Kd.slice 3 (Kd.int .i64))).sz=1 from rfl,Nat.mul_one,Nat.add_zero] at hx10_0);(try simp only[show ((Kd.slice 3 (Kd.int .i64))).sz=1 from rfl,Nat.mul_one,Nat.add_zero] at hf10_0);clear hcl10 hcc10 hfr10;(try clear hM10);replace p10:=eq_true p10;replace q10:=eq_true q10;have n_:=am' (Kd.S_mono (ok':=(fun k_=>some k_≠(v163:Value).ownBlock)) HO_3.out (fun k_ hk=>hk.2));clear HO_3;have HO_3:=n_;clear n_;obtain ⟨Ao14,co14,eo14⟩:=Kd.R_slice HO164.out;subst eo14;have HX12:=am' (show Kd.S (Kd.slice 3 (Kd.int .i64)) 26 w11 w.heap.size (fun k_=>((fun _=>True)) k_∧¬ ((fun k_=>some k_=(.slice Ao14 t162.length co14:Value).ownBlock)) k_) (.slice (some ⟨go10,0,none⟩) x3_1.length co10) x3_1 from (by (with_reducible repeat (first|apply Kd.S_alloc|apply Kd.S_drewN|apply Kd.S_drew));exact Kd.S_mono HO_3.out (fun k_ hk=>⟨trivial,fun e_=>hk e_⟩)));obtain ⟨oki12,ce12,hcl12,hM12,hcc12,hfr12,hoki12,hH12⟩:=Kd.S_elem HX12.out [] (x4_1:Int) (of_decide_eq_true (by first|(with_reducible assumption)|assumption)) (by have h_:(x4_1:Int) < ((x3_1.length:Int):Int):=of_decide_eq_true (by first|(with_reducible assumption)|assumption);first|exact h_|(have e_:=(Kd.S_reads' HO_3.out).1;omega)|simpa using h_);obtain ⟨ve12_0,rfl,ge12_0⟩:=hM12;have HP12:=Kd.S_seg hH12 (of_decide_eq_true (by first|(with_reducible assumption)|assumption)) (by have h_:(x4_1:Int) < ((x3_1.length:Int):Int):=of_decide_eq_true (by first|(with_reducible assumption)|assumption);first|exact h_|(have e_:=(Kd.S_reads' HO_3.out).1;omega)|simpa using h_) (seg:=[.slice Ao14 t162.length co14]) (j:=0) (show 1≤1 from by decide) (x':=t162) (Kd.M_row (Kd.R_mono (Kd.R_tight rfl (Kd.R_mono (ok':=fun k_=>((fun _=>True)) k_∧k_≠go10) (Kd.R_apart' (HO164.out) (Kd.S_typed HO_3.out) (by decide)) (fun k_ hk=>⟨trivial,fun e_=>(hk.2) (by rw[e_];rfl)⟩))) (fun _ h_=>Or.inr (h_)))) (fun _ hk=>hk) (fun k_ hk_=>((Kd.R_mono (ok':=fun k_=>((fun _=>True)) k_∧k_≠go10) (Kd.R_apart' (HO164.out) (Kd.S_typed HO_3.out) (by decide)) (fun k_ hk=>⟨trivial,fun e_=>(hk.2) (by rw[e_];rfl)⟩))).1 k_ hk_.symm);have hx12_0:=hcc12 0 _ rfl;(try simp only[show ((Kd.slice 3 (Kd.int .i64))).sz=1 from rfl,Nat.mul_one,Nat.add_zero] at hx12_0);have hf12_0:=hfr12 0;(try simp only[show ((Kd.slice 3 (Kd.int .i64))).sz=1 from rfl,Nat.mul_one,Nat.add_zero] at hf12_0);clear hcl12 hcc12 hfr12;(try clear hM12);clear hoki12 hH12;(try simp only[show ((Kd.slice 3 (Kd.int .i64))).sz=1 from rfl,Nat.mul_one,Nat.add_zero] at HP12))|((with_reducible refine gate_store (t:=26) (p:=21) rfl ?_);refine store_event (t:=26) (p:=21) (v:=?vo_w13) (w1:=(w11.setCell ⟨go10,(x4_1:Int).toNat,none⟩ (.slice Ao14 t162.length co14))) ?hg ?ho ?hn ?hr ?_;(case ho=>rfl);(case hg=>rfl);(case hn=>rfl);(case hr=>first|(go_simp;done)|(go_simp;rfl));intro w13 hw;have hg:w11.grownBy w13 (some go10):=(by rw[hw];exact HP12.2);have hp_:Kd.S (Kd.slice 3 (Kd.int .i64)) 26 w13 w.heap.size (fun _=>True) (.slice (some ⟨go10,0,none⟩) x3_1.length co10) y165:=(by rw[hw,Ny165.out];exact HP12.1);clear HP12;have n0_:=am' (hp_);have n1_:=am' ((by rw[hw];exact bs' (HB.out) GB10.out:Below w.heap.size w w13));clear HO_3;clear HB;clear HO164;have HO_3:=n0_;have HB:=n1_;clear n0_ n1_;clear hg hw hp_))
        go_roundg k1
        case measure=>have:=HK1.out;omega
        case rel=>exact ⟨(y165),(wrap64 (x4_1+1)),(by first|rfl|(simp;done)|(simp[*];done)),H',⟨by have:=HK1.out;omega⟩,⟨by (with_reducible repeat (first|apply Kd.S_alloc|apply Kd.S_drewN|apply Kd.S_drew));exact HO_3.out⟩,⟨by repeat (first|(with_reducible first|exact HB.out|apply ba'|apply bd'|apply be')|exact HB.out)⟩⟩
       ·
        rw[if_neg c9] at H;exact absurd H (by simp)
      ·
       rw[if_neg c7] at H;exact absurd H (by simp)
     ·
      rw[if_neg c6] at H;have c6b0:decide (x4_1 < (l0.length:Int))=false:=decide_eq_false c6;clear c6;obtain rfl:=Option.some.inj H;go_wp2;go_ret
      exact ⟨_,by first|rfl|(simp[errW_none,errW_some] <;> rfl)|(simp[*,errW_none,errW_some] <;> rfl),by (with_reducible repeat (first|apply Kd.S_alloc|apply Kd.S_drewN|apply Kd.S_drew));exact HO_3.out,by repeat (first|(with_reducible first|exact HB.out|apply ba'|apply bd'|apply be')|exact HB.out)⟩
  ·
   rw[if_neg c3] at H;exact absurd H (by simp)
 ·
  rw[if_neg c2] at H;exact absurd H (by simp)
def laws_toKeep.f (k:Nat) (a0_0:Int) (l0_1:List (List Int)) (a0_2:Int):Option (Int × (List (List Int)) × Int):=(laws_toIntSS.f k l0_1).bind fun t169=>(some (a0_0,t169,a0_2))
set_option maxHeartbeats 8000000 in
set_option maxRecDepth 100000 in
theorem laws_toKeep.calls (k:Nat) (a0_0:Int) (A0_1:Option Addr) (c0_1:Nat) (l0_1:List (List Int)) (a0_2:Int) (r1:Int) (r2:List (List Int)) (r3:Int) (w:World) (hr0_1:Kd.C (Kd.slice 3 (Kd.int .i64)) w A0_1 l0_1.length l0_1) (hc0_1:l0_1.length≤c0_1) (h:laws_toKeep.f k a0_0 l0_1 a0_2=some (r1,r2,r3)) :
  Calls Try.prog 7 #[.agg #[.int .i64 a0_0, .slice A0_1 l0_1.length c0_1, .int .i64 a0_2]] w fun e w'=>∃ v1_:Value,e = .returned (.agg #[.int .i64 r1,v1_, .int .i64 r3])∧Kd.S (Kd.slice 3 (Kd.int .i64)) 26 w' w.heap.size (fun _=>True) v1_ r2∧Below w.heap.size w w':=by
 have hu24:=Try.underlying24
 have hu29:=Try.underlying29
 have HR0_1:=am' hr0_1
 have HC0_1:=am' hc0_1
 clear hr0_1 hc0_1;have HB:=am' (Below.refl w.heap.size w)
 have H:((laws_toIntSS.f k l0_1).bind fun t169=>(some (a0_0,t169,a0_2)))=some (r1,r2,r3):=h
 clear h;replace H:=Option.bind_eq_some_iff.mp H
 obtain ⟨t169,A20,H⟩:=H
 replace H:(some (a0_0,t169,a0_2))=some (r1,r2,r3):=H
 have A2:=am' A20
 clear A20;simp only[Option.some.injEq,Prod.mk.injEq] at H
 obtain ⟨rfl,rfl,rfl⟩:=H
 go_enter Try.func7,Try.ntmps7
 go_wp2_with (first|((with_reducible refine gate_dst (N:=1) rfl ?_);refine box_event ?hg (N:=1) ?hd (cs:=#[.int .i64 a0_0, .slice A0_1 l0_1.length c0_1, .int .i64 a0_2]) (t:=24) ?hr ?_;(case hd=>rfl);(case hg=>rfl);(case hr=>first|(go_simp;done)|(go_simp;rfl));intro gb166 hg w3 hbox hb;have n0_:=am' (below_step (by repeat (first|(with_reducible first|exact HB.out|apply ba'|apply bd'|apply be')|exact HB.out)) hb);have n1_:=am' (hbox);have n2_:=am' ((by rw[hg];exact (below_size (by repeat (first|(with_reducible first|exact HB.out|apply ba'|apply bd'|apply be')|exact HB.out))):w.heap.size≤gb166));have n3_:=am' ((by rw[hg];exact (below_size (by repeat (first|(with_reducible first|exact HB.out|apply ba'|apply bd'|apply be')|exact HB.out))):w.heap.size≤gb166));clear HB;have HB:=n0_;have BK166:=n1_;have GW166:=n2_;have GE166:=n3_;clear n0_ n1_ n2_ n3_;clear hb hbox hg)|((with_reducible refine gate_dst (N:=2) rfl ?_);refine box_event ?hg (N:=2) ?hd (cs:=#[.int .i64 0, .slice none 0 0, .int .i64 0]) (t:=29) ?hr ?_;(case hd=>rfl);(case hg=>rfl);(case hr=>first|(go_simp;done)|(go_simp;rfl));intro gb167 hg w4 hbox hb;have n0_:=am' (blk_below (g:=gb166) (o := .cells #[.int .i64 a0_0, .slice A0_1 l0_1.length c0_1, .int .i64 a0_2] 24 (0,0)) (by (with_reducible repeat (first|refine kn' ?_ _|refine kd' ?_|refine ka' ?_ _));exact BK166.out) hb);have n1_:=am' (below_step (by repeat (first|(with_reducible first|exact HB.out|apply ba'|apply bd'|apply be'|refine bs' ?_ GE166.out)|exact HB.out)) hb);have n2_:=am' (hbox);have n3_:=am' ((by rw[hg];exact (below_size (by repeat (first|(with_reducible first|exact HB.out|apply ba'|apply bd'|apply be'|refine bs' ?_ GE166.out)|exact HB.out))):w.heap.size≤gb167));have n4_:=am' ((by rw[hg];exact (below_size (by repeat (first|(with_reducible first|exact HB.out|apply ba'|apply bd'|apply be'|refine bs' ?_ GE166.out)|exact HB.out))):w.heap.size≤gb167));have n5_:=am' ((by rw[hg];exact Nat.ne_of_lt (blk_lt (g:=gb166) (o := .cells #[.int .i64 a0_0, .slice A0_1 l0_1.length c0_1, .int .i64 a0_2] 24 (0,0)) (by (with_reducible repeat (first|refine kn' ?_ _|refine kd' ?_|refine ka' ?_ _));exact BK166.out)):gb166≠gb167));have n6_:=am' ((by rw[hg];exact Nat.ne_of_gt (blk_lt (g:=gb166) (o := .cells #[.int .i64 a0_0, .slice A0_1 l0_1.length c0_1, .int .i64 a0_2] 24 (0,0)) (by (with_reducible repeat (first|refine kn' ?_ _|refine kd' ?_|refine ka' ?_ _));exact BK166.out)):gb167≠gb166));clear BK166;clear HB;have BK166:=n0_;have HB:=n1_;have BK167:=n2_;have GW167:=n3_;have GE167:=n4_;have NB166_167:=n5_;have NB167_166:=n6_;clear n0_ n1_ n2_ n3_ n4_ n5_ n6_;clear hb hbox hg)|((with_reducible refine gate_dst (N:=3) rfl ?_);refine box_event ?hg (N:=3) ?hd (cs:=#[.int .i64 0, .slice none 0 0, .int .i64 0]) (t:=29) ?hr ?_;(case hd=>rfl);(case hg=>rfl);(case hr=>first|(go_simp;done)|(go_simp;rfl));intro gb168 hg w5 hbox hb;have n0_:=am' (blk_below (g:=gb166) (o := .cells #[.int .i64 a0_0, .slice A0_1 l0_1.length c0_1, .int .i64 a0_2] 24 (0,0)) (by (with_reducible repeat (first|refine kn' ?_ _|refine kd' ?_|refine ka' ?_ _));exact BK166.out) hb);have n1_:=am' (blk_below (g:=gb167) (o := .cells #[.int .i64 0, .slice none 0 0, .int .i64 0] 29 (0,0)) (by (with_reducible repeat (first|refine kn' ?_ _|refine kd' ?_|refine ka' ?_ _));exact BK167.out) hb);have n2_:=am' (below_step (by repeat (first|(with_reducible first|exact HB.out|apply ba'|apply bd'|apply be'|refine bs' ?_ GE166.out|refine bs' ?_ GE167.out)|exact HB.out)) hb);have n3_:=am' (hbox);have n4_:=am' ((by rw[hg];exact (below_size (by repeat (first|(with_reducible first|exact HB.out|apply ba'|apply bd'|apply be'|refine bs' ?_ GE166.out|refine bs' ?_ GE167.out)|exact HB.out))):w.heap.size≤gb168));have n5_:=am' ((by rw[hg];exact (below_size (by repeat (first|(with_reducible first|exact HB.out|apply ba'|apply bd'|apply be'|refine bs' ?_ GE166.out|refine bs' ?_ GE167.out)|exact HB.out))):w.heap.size≤gb168));have n6_:=am' ((by rw[hg];exact Nat.ne_of_lt (blk_lt (g:=gb166) (o := .cells #[.int .i64 a0_0, .slice A0_1 l0_1.length c0_1, .int .i64 a0_2] 24 (0,0)) (by (with_reducible repeat (first|refine kn' ?_ _|refine kd' ?_|refine ka' ?_ _));exact BK166.out)):gb166≠gb168));have n7_:=am' ((by rw[hg];exact Nat.ne_of_gt (blk_lt (g:=gb166) (o := .cells #[.int .i64 a0_0, .slice A0_1 l0_1.length c0_1, .int .i64 a0_2] 24 (0,0)) (by (with_reducible repeat (first|refine kn' ?_ _|refine kd' ?_|refine ka' ?_ _));exact BK166.out)):gb168≠gb166));have n8_:=am' ((by rw[hg];exact Nat.ne_of_lt (blk_lt (g:=gb167) (o := .cells #[.int .i64 0, .slice none 0 0, .int .i64 0] 29 (0,0)) (by (with_reducible repeat (first|refine kn' ?_ _|refine kd' ?_|refine ka' ?_ _));exact BK167.out)):gb167≠gb168));have n9_:=am' ((by rw[hg];exact Nat.ne_of_gt (blk_lt (g:=gb167) (o := .cells #[.int .i64 0, .slice none 0 0, .int .i64 0] 29 (0,0)) (by (with_reducible repeat (first|refine kn' ?_ _|refine kd' ?_|refine ka' ?_ _));exact BK167.out)):gb168≠gb167));clear BK166;clear BK167;clear HB;have BK166:=n0_;have BK167:=n1_;have HB:=n2_;have BK168:=n3_;have GW168:=n4_;have GE168:=n5_;have NB166_168:=n6_;have NB168_166:=n7_;have NB167_168:=n8_;have NB168_167:=n9_;clear n0_ n1_ n2_ n3_ n4_ n5_ n6_ n7_ n8_ n9_;clear hb hbox hg;have hnb6:=NB166_167.out;have hnc6:=NB167_166.out;have hnb7:=NB166_168.out;have hnc7:=NB168_166.out;have hcz8_0:w5.cell? ⟨gb166,0,none⟩=some (.int .i64 a0_0):=(blk_cell BK166.out 0).trans rfl;have hcz8_1:w5.cell? ⟨gb166,1,none⟩=some (.slice A0_1 l0_1.length c0_1):=(blk_cell BK166.out 1).trans rfl;have hcz8_2:w5.cell? ⟨gb166,2,none⟩=some (.int .i64 a0_2):=(blk_cell BK166.out 2).trans rfl;have hfz8_0:=blk_frozen BK166.out 0;have hfz8_1:=blk_frozen BK166.out 1;have hfz8_2:=blk_frozen BK166.out 2;have hnb9:=NB168_167.out;have hnc9:=NB167_168.out;have hcz10_0:w5.cell? ⟨gb168,0,none⟩=some (.int .i64 0):=(blk_cell BK168.out 0).trans rfl;have hcz10_1:w5.cell? ⟨gb168,1,none⟩=some (.slice none 0 0):=(blk_cell BK168.out 1).trans rfl;have hcz10_2:w5.cell? ⟨gb168,2,none⟩=some (.int .i64 0):=(blk_cell BK168.out 2).trans rfl;have hfz10_0:=blk_frozen BK168.out 0;have hfz10_1:=blk_frozen BK168.out 1;have hfz10_2:=blk_frozen BK168.out 2)|((with_reducible refine gate_callee (f:=38) rfl ?_);refine goesL_ (some 9) rfl rfl Try.func38 (by kernel_rfl) rfl #[.slice A0_1 l0_1.length c0_1] rfl (by (try simp only[List.map_toArray,List.map_cons,List.map_nil]);first|done|rfl|(simp only[List.length_drop,List.length_take];rfl)) ?_;(with_reducible refine (laws_toIntSS.calls k _ _ l0_1 t169 _ ?side1 ?side2 A2.out).mono ?_);(case side1=>exact Kd.C_below HR0_1.out (by repeat (first|(with_reducible first|exact HB.out|apply ba'|apply bd'|apply be'|refine bs' ?_ GE166.out|refine bs' ?_ GE167.out|refine bs' ?_ GE168.out)|exact HB.out)));(case side2=>exact HC0_1.out);rintro e w11 ⟨v170,rfl,ho0,hb⟩;refine ⟨_,rfl,?_⟩;have n0_:=am' (Kd.S_lower ho0 (below_size (by repeat (first|(with_reducible first|exact HB.out|apply ba'|apply bd'|apply be'|refine bs' ?_ GE166.out|refine bs' ?_ GE167.out|refine bs' ?_ GE168.out)|exact HB.out))));have n1_:=am' (blk_below (g:=gb166) (o := .cells #[.int .i64 a0_0, .slice A0_1 l0_1.length c0_1, .int .i64 a0_2] 24 (0,0)) (by (with_reducible repeat (first|refine kn' ?_ _|refine kd' ?_|refine ka' ?_ _));refine blk_far ?_ NB166_168.out _;(with_reducible repeat (first|refine kn' ?_ _|refine kd' ?_|refine ka' ?_ _));exact BK166.out) hb);have n2_:=am' (blk_below (g:=gb167) (o := .cells #[.int .i64 0, .slice none 0 0, .int .i64 0] 29 (0,0)) (by (with_reducible repeat (first|refine kn' ?_ _|refine kd' ?_|refine ka' ?_ _));refine blk_far ?_ NB167_168.out _;(with_reducible repeat (first|refine kn' ?_ _|refine kd' ?_|refine ka' ?_ _));exact BK167.out) hb);have n3_:=am' (blk_below (g:=gb168) (o := .cells #[.int .i64 a0_0, .slice none 0 0, .int .i64 0] 29 (0,0)) (by (with_reducible repeat (first|refine kn' ?_ _|refine kd' ?_|refine ka' ?_ _));refine blk_put (cs:=#[.int .i64 0, .slice none 0 0, .int .i64 0]) ?_ 0 _ rfl;(with_reducible repeat (first|refine kn' ?_ _|refine kd' ?_|refine ka' ?_ _));exact BK168.out) hb);have n4_:=am' (below_step (by repeat (first|(with_reducible first|exact HB.out|apply ba'|apply bd'|apply be'|refine bs' ?_ GE166.out|refine bs' ?_ GE167.out|refine bs' ?_ GE168.out)|exact HB.out)) hb);clear BK166;clear BK167;clear BK168;clear HB;have HO171:=n0_;have BK166:=n1_;have BK167:=n2_;have BK168:=n3_;have HB:=n4_;clear n0_ n1_ n2_ n3_ n4_;(try clear hb);(try clear hb2);(try clear hk);(try clear hi);(try clear ho0);obtain ⟨Ao12,co12,eo12⟩:=Kd.S_slice HO171.out;subst eo12;have hcz13_0:w11.cell? ⟨gb168,0,none⟩=some (.int .i64 a0_0):=(blk_cell BK168.out 0).trans rfl;have hcz13_1:w11.cell? ⟨gb168,1,none⟩=some (.slice none 0 0):=(blk_cell BK168.out 1).trans rfl;have hcz13_2:w11.cell? ⟨gb168,2,none⟩=some (.int .i64 0):=(blk_cell BK168.out 2).trans rfl;have hfz13_0:=blk_frozen BK168.out 0;have hfz13_1:=blk_frozen BK168.out 1;have hfz13_2:=blk_frozen BK168.out 2;have hcz14_0:w11.cell? ⟨gb166,0,none⟩=some (.int .i64 a0_0):=(blk_cell BK166.out 0).trans rfl;have hcz14_1:w11.cell? ⟨gb166,1,none⟩=some (.slice A0_1 l0_1.length c0_1):=(blk_cell BK166.out 1).trans rfl;have hcz14_2:w11.cell? ⟨gb166,2,none⟩=some (.int .i64 a0_2):=(blk_cell BK166.out 2).trans rfl;have hfz14_0:=blk_frozen BK166.out 0;have hfz14_1:=blk_frozen BK166.out 1;have hfz14_2:=blk_frozen BK166.out 2;have hcz15_0:w11.cell? ⟨gb167,0,none⟩=some (.int .i64 0):=(blk_cell BK167.out 0).trans rfl;have hcz15_1:w11.cell? ⟨gb167,1,none⟩=some (.slice none 0 0):=(blk_cell BK167.out 1).trans rfl;have hcz15_2:w11.cell? ⟨gb167,2,none⟩=some (.int .i64 0):=(blk_cell BK167.out 2).trans rfl;have hfz15_0:=blk_frozen BK167.out 0;have hfz15_1:=blk_frozen BK167.out 1;have hfz15_2:=blk_frozen BK167.out 2))
 refine bodyPost_ret (results_cell_row rfl _ _ gb167 29 #[.int .i64 a0_0, .slice Ao12 t169.length co12, .int .i64 a0_2] (0,0) _ rfl (by (with_reducible repeat (first|refine kn' ?_ _|refine kd' ?_|refine ka' ?_ _));refine blk_put (cs:=#[.int .i64 a0_0, .slice Ao12 t169.length co12, .int .i64 0]) ?_ 2 _ rfl;(with_reducible repeat (first|refine kn' ?_ _|refine kd' ?_|refine ka' ?_ _));refine blk_put (cs:=#[.int .i64 a0_0, .slice none 0 0, .int .i64 0]) ?_ 1 _ rfl;(with_reducible repeat (first|refine kn' ?_ _|refine kd' ?_|refine ka' ?_ _));refine blk_put (cs:=#[.int .i64 0, .slice none 0 0, .int .i64 0]) ?_ 0 _ rfl;(with_reducible repeat (first|refine kn' ?_ _|refine kd' ?_|refine ka' ?_ _));refine blk_far ?_ NB167_168.out _;(with_reducible repeat (first|refine kn' ?_ _|refine kd' ?_|refine ka' ?_ _));refine blk_far ?_ NB167_168.out _;(with_reducible repeat (first|refine kn' ?_ _|refine kd' ?_|refine ka' ?_ _));exact BK167.out) Try.underlying29 rfl (by kernel_rfl)) rfl ?_
 exact ⟨_,by first|rfl|(simp[errW_none,errW_some] <;> rfl)|(simp[*,errW_none,errW_some] <;> rfl),by (with_reducible repeat (first|apply Kd.S_alloc|apply Kd.S_drewN|apply Kd.S_drew));exact Kd.S_mono (Kd.S_far (p:=⟨gb167,2,none⟩) (Kd.S_far (p:=⟨gb167,1,none⟩) (Kd.S_far (p:=⟨gb167,0,none⟩) (Kd.S_far (p:=⟨gb168,2,none⟩) (Kd.S_far (p:=⟨gb168,1,none⟩) (Kd.S_types (Kd.S_types HO171.out BK168.out (by decide)) BK167.out (by decide)) (fun _ hk=>hk.1.2) (.slice Ao12 t169.length co12)) (fun _ hk=>hk.1.2) (.int .i64 a0_2)) (fun _ hk=>hk.2) (.int .i64 a0_0)) (fun _ hk=>hk.2) (.slice Ao12 t169.length co12)) (fun _ hk=>hk.2) (.int .i64 a0_2)) (fun _ hk=>trivial),by repeat (first|(with_reducible first|exact HB.out|apply ba'|apply bd'|apply be'|refine bs' ?_ GE166.out|refine bs' ?_ GE167.out|refine bs' ?_ GE168.out)|exact HB.out)⟩
def impl_in.f (a0:Int) (a1:Int) (a2:Int):Option (Bool):=if a1≤a0 then (some (decide (a0≤a2))) else (some false)
set_option maxHeartbeats 8000000 in
set_option maxRecDepth 100000 in
theorem impl_in.calls (a0:Int) (a1:Int) (a2:Int) (r:Bool) (w:World) (h:impl_in.f a0 a1 a2=some r) :
  Calls Try.prog 58 #[.int .i64 a0, .int .i64 a1, .int .i64 a2] w fun e w'=>e = .returned (.bool r)∧Drawn0 w w':=by
 have H:(if a1≤a0 then (some (decide (a0≤a2))) else (some false))=some r:=h
 clear h;by_cases c4:a1≤a0
 ·
  rw[if_pos c4] at H;have c4b0:decide (a1≤a0)=true:=decide_eq_true c4;clear c4;obtain rfl:=Option.some.inj H;go_enter Try.func58,Try.ntmps58;go_wp2;go_ret
  exact ⟨by first|rfl|(simp;done)|(simp[*];done),by repeat (first|exact Drawn0.refl _|apply Drawn0.step)⟩
 ·
  rw[if_neg c4] at H;have c4b0:decide (a1≤a0)=false:=decide_eq_false c4;clear c4;obtain rfl:=Option.some.inj H;go_enter Try.func58,Try.ntmps58;go_wp2;go_ret
  exact ⟨by first|rfl|(simp;done)|(simp[*];done),by repeat (first|exact Drawn0.refl _|apply Drawn0.step)⟩
def PredOn (g:Nat) (lb:Array Value) (p:Int→Bool) (xs:List Int) (w:World):Prop :=
 ∀ x,x ∈ xs→∀ W:World,Below w.heap.size w W→Calls Try.prog g (#[.int .i64 x] ++ lb) W fun e w'=>e = .returned (.bool (p x))∧Below W.heap.size W w'
set_option maxHeartbeats 2000000 in
set_option maxRecDepth 100000 in
theorem IndexFunc_any (g:Nat) (lb:Array Value) (p:Int→Bool) (eg:∀ args w,(callFunc g args).run Try.prog w = .ok (.enter g args) w) (A0:Option Addr) (c0:Nat) (xs:List Int) (w:World) (hr:Kd.C (Kd.int .i64) w A0 xs.length xs) (hl:xs.length≤c0) (hbig:xs.length≤9223372036854775807)
  (hp:PredOn g lb p xs w) :
  Calls Try.prog 90 #[.slice A0 xs.length c0, .func (.func g) #[] lb] w fun e w'=>e = .returned (.int .i64 (idxF p xs))∧Below w.heap.size w w':=by
 have HP:=am' hp
 have HR:=am' hr
 clear hp hr;go_enter Try.func90,Try.ntmps90
 go_wp2
 go_loopg [5,8] xs.length (fun gg _ s8 wr=>∃ kk:Nat,kk≤xs.length∧xs.length - kk≤gg∧s8 = .int .i64 kk∧Aside0 (Below w.heap.size w wr)∧Aside0 (∀ j,j < kk→p (rd xs (j:Nat))=false))
 case atStart=>exact ⟨0,Nat.zero_le _,by omega,rfl,⟨Below.refl _ w⟩,⟨fun j hj=>absurd hj (Nat.not_lt_zero _)⟩⟩
 case round =>
  obtain ⟨kk,hkk,hg,rfl,BW,AA⟩:=hrel;by_cases hlt:kk < xs.length
  ·
   have hltz:(kk:Int) < (xs.length:Int):=by omega
   obtain ⟨ad,e0,hx0⟩:=Kd.at_int HR.out (kk:Int) (by omega) hltz;cases e0;have hx:=(BW.out.cell (bl' w _ hx0)).trans hx0;clear hx0;rw[Int.toNat_natCast] at hx;have hcall:=HP.out (rd xs kk) (rd_mem xs kk hlt) wr BW.out;generalize hy:rd xs kk=y at hx hcall
   have B:Aside0 (rd xs kk=y):=⟨hy⟩
   clear hy;cases hq:p y with
   | true =>
    rw[hq] at hcall;go_wp2_with fail;refine hcall.mono ?_
    rintro e w' ⟨rfl,hb'⟩
    clear hcall hx;go_wp2;go_ret
    refine ⟨?_,below_step BW.out hb'⟩;rw[idxF_hit p xs kk hlt (by rw[B.out];exact hq) AA.out];rfl
   | false =>
    rw[hq] at hcall;go_wp2_with fail;refine hcall.mono ?_
    rintro e w' ⟨rfl,hb'⟩
    clear hcall hx;go_wp2;go_roundg (xs.length - (kk+1))
    case measure=>omega
    case rel =>
     refine ⟨kk+1,by omega,by omega,by go_num,⟨below_step BW.out hb'⟩,⟨fun j hj=>?_⟩⟩;by_cases e:j=kk
     ·
      subst e;rw[B.out];exact hq
     ·
      exact AA.out j (by omega)
  ·
   have hltz:¬ (kk:Int) < (xs.length:Int):=by omega
   have:kk=xs.length:=by omega
   subst this;go_wp2;go_ret
   refine ⟨?_,BW.out⟩;rw[idxF_miss p xs AA.out];rfl
set_option maxHeartbeats 2000000 in
set_option maxRecDepth 100000 in
theorem ContainsFunc_any (g:Nat) (lb:Array Value) (p:Int→Bool) (eg:∀ args w,(callFunc g args).run Try.prog w = .ok (.enter g args) w) (A0:Option Addr) (c0:Nat) (xs:List Int) (w:World) (hr:Kd.C (Kd.int .i64) w A0 xs.length xs) (hl:xs.length≤c0) (hbig:xs.length≤9223372036854775807)
  (hp:PredOn g lb p xs w) :
  Calls Try.prog 82 #[.slice A0 xs.length c0, .func (.func g) #[] lb] w fun e w'=>e = .returned (.bool (xs.any p))∧Below w.heap.size w w':=by
 have HH:=am' (IndexFunc_any g lb p eg A0 c0 xs w hr hl hbig hp)
 clear hr hl hp;go_enter Try.func82,Try.ntmps82
 go_wp2_with (go_at_call 90;refine HH.out.mono ?_;rintro e w' ⟨rfl,hb⟩)
 go_ret
 refine ⟨?_,hb⟩
 rw[← idxF_any]
 rfl
theorem in_calls (x lo hi:Int) (w:World):Calls Try.prog 58 #[.int .i64 x, .int .i64 lo, .int .i64 hi] w fun e w'=>e = .returned (.bool (inB lo hi x))∧Below w.heap.size w w' :=
 (impl_in.calls x lo hi (inB lo hi x) w (by unfold impl_in.f inB;by_cases h:lo≤x <;> simp [h])).mono fun e w' ⟨he,hd⟩=>⟨he,hd.below⟩
theorem areIn1_calls (x lo hi:Int) (b1 b2:Nat) (w:World) (h1:w.cell? ⟨b1,0,none⟩=some (.int .i64 lo)) (h2:w.cell? ⟨b2,0,none⟩=some (.int .i64 hi)) :
  Calls Try.prog 83 #[.int .i64 x, .pointer (some ⟨b1,0,none⟩), .pointer (some ⟨b2,0,none⟩)] w fun e w'=>e = .returned (.bool (!inB lo hi x))∧Below w.heap.size w w':=by
 go_enter Try.func83,Try.ntmps83
 go_wp2_with (go_at_call 58;refine (in_calls _ _ _ _).mono ?_;rintro e w' ⟨rfl,hb⟩)
 go_ret
 exact ⟨rfl,hb⟩
theorem areIn_pred (lo hi:Int) (b1 b2:Nat) (xs:List Int) (w:World) (h1:w.cell? ⟨b1,0,none⟩=some (.int .i64 lo)) (h2:w.cell? ⟨b2,0,none⟩=some (.int .i64 hi)) :
  PredOn 83 #[.pointer (some ⟨b1,0,none⟩), .pointer (some ⟨b2,0,none⟩)] (fun x => !inB lo hi x) xs w:=fun x _ W hb =>
 areIn1_calls x lo hi b1 b2 W ((hb.cell (bl' w _ h1)).trans h1) ((hb.cell (bl' w _ h2)).trans h2)
def impl_areIn.f (l0:List Int) (a1 a2 a3 a4:Int):Option Bool:=some (inB a3 a4 (l0.length:Int) && l0.all (inB a1 a2))
set_option maxHeartbeats 2000000 in
set_option maxRecDepth 100000 in
theorem impl_areIn.calls (A0:Option Addr) (c0:Nat) (l0:List Int) (a1 a2 a3 a4:Int) (r:Bool) (w:World) (hr0:Kd.C (Kd.int .i64) w A0 l0.length l0) (hc0:l0.length≤c0) (h:impl_areIn.f l0 a1 a2 a3 a4=some r) :
  Calls Try.prog 59 #[.slice A0 l0.length c0, .int .i64 a1, .int .i64 a2, .int .i64 a3, .int .i64 a4] w fun e w'=>e = .returned (.bool r)∧Below w.heap.size w w':=by
 have hbig:l0.length≤9223372036854775807:=hr0.2.1
 have HC:=am' (fun (w1:World) (h1:Below w.heap.size w w1) (b1 b2:Nat) (e1:w1.cell? ⟨b1,0,none⟩=some (.int .i64 a1)) (e2:w1.cell? ⟨b2,0,none⟩=some (.int .i64 a2)) =>
  ContainsFunc_any 83 #[.pointer (some ⟨b1,0,none⟩), .pointer (some ⟨b2,0,none⟩)] (fun x => !inB a1 a2 x) (enters_of Try.func83 (by kernel_rfl) rfl) A0 c0 l0 w1 (Kd.C_below hr0 h1) hc0 hbig (areIn_pred a1 a2 b1 b2 l0 w1 e1 e2))
 clear hr0;cases hi:inB a3 a4 (l0.length:Int) with
 | false =>
  obtain rfl:false=r:=by unfold impl_areIn.f at h;simpa [hi] using h
  clear h;go_enter Try.func59,Try.ntmps59;go_wp2_with (go_at_call 58;refine (in_calls _ _ _ _).mono ?_;rintro e w' ⟨rfl,hb⟩);go_ret
  exact ⟨rfl,(after_alloc (after_alloc hb).1).1⟩
 | true =>
  obtain rfl:l0.all (inB a1 a2)=r:=by unfold impl_areIn.f at h;simpa [hi] using h
  clear h;go_enter Try.func59,Try.ntmps59;go_wp2_with (go_at_call 58;refine (in_calls _ _ _ _).mono ?_;rintro e w' ⟨rfl,hb⟩);have h2:=after_alloc hb;have h1:=after_alloc h2.1;rw[World.size_alloc] at h2;refine (HC.out w' h1.1 _ _ ((blk_cell h1.2 0).trans rfl) ((blk_cell h2.2 0).trans rfl)).mono ?_
  rintro e w2 ⟨rfl,hb2⟩
  clear hb h2;have HB2:=am' (below_step h1.1 hb2);clear h1 hb2;go_wp2;go_ret
  refine ⟨?_,HB2.out⟩;rw[← any_not_all];rfl
def cmp_isNaN_int.f (a0:Int):Option (Bool):=some (a0 != a0)
set_option maxHeartbeats 8000000 in
set_option maxRecDepth 100000 in
theorem cmp_isNaN_int.calls (a0:Int) (r:Bool) (w:World) (h:cmp_isNaN_int.f a0=some r) :
  Calls Try.prog 91 #[.int .i64 a0] w fun e w'=>e = .returned (.bool r)∧Drawn0 w w':=by
 have H:(some (a0 != a0))=some r:=h
 clear h;obtain rfl:=Option.some.inj H
 go_enter Try.func91,Try.ntmps91
 go_wp2
 go_ret
 exact ⟨by first|rfl|(simp;done)|(simp[*];done),by repeat (first|exact Drawn0.refl _|apply Drawn0.step)⟩
end Go.Proofs.Ytcjjhkapdlfaeaa.C1
