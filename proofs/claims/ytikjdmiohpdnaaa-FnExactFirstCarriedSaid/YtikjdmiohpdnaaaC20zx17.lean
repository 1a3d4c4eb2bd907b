import Derived.Test.YtikjdmiohpdnaaaC20zx0
import Derived.Test.YtikjdmiohpdnaaaC20zx13
import Derived.Test.YtikjdmiohpdnaaaC20zx14
import Derived.Test.YtikjdmiohpdnaaaC20zx15
import Derived.Test.YtikjdmiohpdnaaaC20zx16
import Derived.Test.YtikjdmiohpdnaaaC20zAl
namespace Go.Proofs.Ytikjdmiohpdnaaa.C20
open Go.RowKit Go.Proofs.YtikjdmiohpdnaaaW.PrintWords Go.Proofs.YtikjdmiohpdnaaaW.PrintLast Go.Proofs.YtikjdmiohpdnaaaW.PrintMore Go.Proofs.Ytikjdmiohpdnaaa.H
attribute [local go_sem] max2_int min2_int max_two min_two max_three min_three max_four min_four
set_option linter.unusedVariables false
set_option linter.unusedSimpArgs false
theorem nx {k:Nat} (h:k < 9223372036854775807):Value.int .i64 (wrap64 ((k:Int)+1))=Value.int .i64 ((k+1:Nat):Int):=by rw[wr_id (by omega) (by omega)];rfl
theorem nx2 {k:Nat} (h:k < 9223372036854775807):Value.int .i64 (IntKind.i64.wrap ((k:Int)+1))=Value.int .i64 ((k+1:Nat):Int):=by rw[i64_w];exact nx h
theorem R_empty {α:Type} (d:Kd α) {e base b:Nat} {W:World} (h:W.heap[b]? = some (.cells #[] e (0,0))) (hB:base≤b):d.R e W base (fun _=>True) (.slice (some ⟨b,0,none⟩) 0 0) [] :=
 ⟨fun _ _=>trivial,[],⟨by simp, .inr ⟨b,0,#[],rfl,hB,h,Nat.le_refl _,by decide,by simp,by simp⟩⟩,Reps.none _ _⟩
theorem row_at {e et base n cap:Nat} {W:World} {ok:Nat→Prop} {f:Nat→Nat} {A:Option Addr} {gs:List (List Int)} (h:(Kd.tag f (Kd.slice e (Kd.int .i64))).R et W base ok (.slice A n cap) gs.zipIdx) (i:Nat) (l:List Int) (hl:gs[i]? = some l) (hn:n=gs.length) :
  ∃ g Ai ci,A=some ⟨g,0,none⟩∧W.cell? ⟨g,i,none⟩=some (.slice Ai l.length ci)∧g < W.heap.size∧base≤g∧(Kd.int .i64).R e W base (fun k=>f k=i∧base≤k∧k < W.heap.size) (.slice Ai l.length ci) l:=by
 obtain ⟨hi,hx⟩:=List.getElem?_eq_some_iff.1 hl
 have hz:gs.zipIdx.length=gs.length:=List.length_zipIdx
 obtain ⟨g,cap',hv,hb1,hb2,_⟩:=Kd.R_form h (by omega)
 obtain ⟨rfl,_,_⟩:=Value.slice.inj hv
 obtain ⟨c,hcl,hM,hcc⟩:=Kd.R_getA h ([],0) (i:Int) (by omega) (by omega)
 rw[Int.toNat_natCast] at hM hcc
 have hq:gs.zipIdx.getD i ([],0)=(l,i):=by
  rw[List.getD_eq_getElem?_getD,Kd.zip_at hl];rfl
 rw[hq] at hM
 obtain ⟨u,rfl,hu⟩:=hM
 obtain ⟨Ai,ci,rfl⟩:=Kd.R_slice hu
 refine ⟨g,Ai,ci,rfl,?_,hb2,hb1,Kd.R_mono (Kd.R_bound hu) (fun k hk=>⟨hk.1.2,hk.2.1,hk.2.2.1⟩)⟩
 have h1:=hcc 0 _ rfl
 have h2:(Addr.add ⟨g,0,none⟩ (i * (Kd.tag f (Kd.slice e (Kd.int .i64))).sz+0))=⟨g,i,none⟩:=by
  have h3:(Kd.tag f (Kd.slice e (Kd.int .i64))).sz=1:=rfl;rw[h3,Nat.mul_one,Nat.add_zero];rw[add_at,Nat.zero_add]
 rw[h2] at h1
 exact h1
theorem M_edgeC {W:World} {B:Nat} {okp:Nat→Prop} {x c:Int} {v:Value} {l:List Int} (h:(Kd.int .i64).R 3 W B okp v l):EdgK.M W B okp (x,c,l) [.int .i64 x, .int .i64 c,v]:=⟨[.int .i64 x],_,rfl,rfl,[.int .i64 c],_,rfl,rfl,v,rfl,h⟩
def crewCost (k:Nat) (loaded:Bool) (l0:List Int) (l1:List Bool) (m:Int) (l:List Int):Option Int:=if loaded=true then impl_Crew_load.f k l0 l1 m l else some 1
def crewStep (k:Nat) (loaded:Bool) (l0:List Int) (l1:List Bool) (m:Int) (ov:List Bool) (tr:Bool) (s:List Edg) (l:List Int):Option (List Edg) :=
 (crewCost k loaded l0 l1 m l).bind fun c=>(impl_State_moved.f k ov tr l).bind fun mm=>(impl_State_code.f k mm.1 mm.2).bind fun cd=>some (s ++ [(cd,c,l)])
def crewOut (k:Nat) (loaded:Bool) (l0:List Int) (l1:List Bool) (m:Int) (code:Int):Option (List Edg) :=
 (impl_stateOf.f k (l0.length:Int) code).bind fun st=>(impl_Crew_rides.f k l0 l1 m st.1 st.2).bind fun gs=>if gs.length≤1048576 then gs.foldlM (crewStep k loaded l0 l1 m st.1 st.2) [] else none
set_option maxHeartbeats 8000000 in
set_option maxRecDepth 100000 in
theorem crew_out (k:Nat) (loaded:Bool) (A0:Option Addr) (c0:Nat) (l0:List Int) (A1:Option Addr) (c1:Nat) (l1:List Bool) (m:Int) (pn pc pt:Nat) (W0:World) (hbn:W0.heap[pn]? = some (.cells #[.int .i64 (l0.length:Int)] 3 (0,0))) (hbc:W0.heap[pc]? = some (.cells #[.slice A0 l0.length c0, .slice A1 l1.length c1, .int .i64 m] 29 (0,0))) (hbt:W0.heap[pt]? = some (.cells #[.bool loaded] 4 (0,0))) (hr0:Kd.C (Kd.int .i64) W0 A0 l0.length l0) (hc0:l0.length≤c0) (hr1:Kd.C Kd.bool W0 A1 l1.length l1) (hc1:l1.length≤c1):OutOk 108 #[.pointer (some ⟨pn,0,none⟩), .pointer (some ⟨pc,0,none⟩), .pointer (some ⟨pt,0,none⟩)] (crewOut k loaded l0 l1 m) W0:=by
 intro W hW code es hs;have hu0:=Try.underlying29
 have hu1:=Try.underlying38
 have hue:=Try.underlying118
 have hinfoE:=am' (show (Try.prog.info? 118).map (fun i=>(i.zero,i.size,i.bytes))=some (some (.agg #[.int .i64 0, .int .i64 0, .slice none 0 0]),3,40) by kernel_rfl)
 unfold crewOut at hs
 obtain ⟨⟨ov,tr⟩,hst,hs⟩:=Option.bind_eq_some_iff.mp hs
 obtain ⟨gs,hgs,hs⟩:=Option.bind_eq_some_iff.mp hs
 dsimp only at hgs hs
 by_cases hlen:gs.length≤1048576
 ·
  rw[if_pos hlen] at hs;have HLEN:=am' hlen;have HFO:=am' hs;have HST:=am' (impl_stateOf.calls k (l0.length:Int) code ov tr W hst);have HK0:=am' (fun (W1:World) (hb:Below W.heap.size W W1)=>cb' (cb' hr0 hW) hb);have HK1:=am' (fun (W1:World) (hb:Below W.heap.size W W1)=>cb' (cb' hr1 hW) hb);have HRD:=am' (fun (W1:World) (hb:Below W.heap.size W W1) (A2:Option Addr) (c2:Nat) (hC:Kd.C Kd.bool W1 A2 ov.length ov) (hl:ov.length≤c2)=>impl_Crew_rides.calls k A0 c0 l0 A1 c1 l1 m A2 c2 ov tr gs W1 (HK0.out W1 hb) hc0 (HK1.out W1 hb) hc1 hC hl hgs);have HLD:=am' (fun (W1:World) (hb:Below W.heap.size W W1) (A2:Option Addr) (c2:Nat) (l:List Int) (r:Int) (hC:Kd.C (Kd.int .i64) W1 A2 l.length l) (hl:l.length≤c2) (h:impl_Crew_load.f k l0 l1 m l=some r)=>impl_Crew_load.calls k A0 c0 l0 A1 c1 l1 m A2 c2 l r W1 (HK0.out W1 hb) hc0 (HK1.out W1 hb) hc1 hC hl h);have BN:=am' (bb' hbn hW);have BC:=am' (bb' hbc hW);have BT:=am' (bb' hbt hW);have xn:W.cell? ⟨pn,0,none⟩=some (.int .i64 (l0.length:Int)):=(bc' BN.out 0).trans rfl;clear hbn hbc hbt hW hr0 hr1 hst hgs hs hlen;go_enter Try.func108,Try.ntmps108;go_wp2_with fail;refine HST.out.mono ?_
  rintro e w1 ⟨v1,rfl,ho1,hb1⟩
  obtain ⟨A2,c2,rfl,hc2,hC2⟩:=Kd.R_reads ho1;have HB1:=am' hb1;have HF2:=am' (Kd.R_F (Kd.R_bound ho1));have HL2:=am' hc2;have HB2:=am' (two_blocks w1 (.cells #[] 118) (.cells #[.slice A2 ov.length c2, .bool tr] 38));have HW2:=am' (bt' hb1 HB2.out.2.2);have HC2:=am' (cb' hC2 HB2.out.2.2);have xc0:((w1.alloc (.cells #[] 118)).alloc (.cells #[.slice A2 ov.length c2, .bool tr] 38)).cell? ⟨pc,0,none⟩=some (.slice A0 l0.length c0):=(bc' (bb' BC.out HW2.out) 0).trans rfl;have xc1:((w1.alloc (.cells #[] 118)).alloc (.cells #[.slice A2 ov.length c2, .bool tr] 38)).cell? ⟨pc,1,none⟩=some (.slice A1 l1.length c1):=(bc' (bb' BC.out HW2.out) 1).trans rfl;have xc2:((w1.alloc (.cells #[] 118)).alloc (.cells #[.slice A2 ov.length c2, .bool tr] 38)).cell? ⟨pc,2,none⟩=some (.int .i64 m):=(bc' (bb' BC.out HW2.out) 2).trans rfl;have xs0:((w1.alloc (.cells #[] 118)).alloc (.cells #[.slice A2 ov.length c2, .bool tr] 38)).cell? ⟨w1.heap.size+1,0,none⟩=some (.slice A2 ov.length c2):=(bc' HB2.out.2.1 0).trans rfl;have xs1:((w1.alloc (.cells #[] 118)).alloc (.cells #[.slice A2 ov.length c2, .bool tr] 38)).cell? ⟨w1.heap.size+1,1,none⟩=some (.bool tr):=(bc' HB2.out.2.1 1).trans rfl;clear xn ho1 hb1 hC2 hc2;go_wp2_with fail;generalize (w1.alloc (.cells #[] 118)).alloc (.cells #[.slice A2 ov.length c2, .bool tr] 38)=W2 at HB2 HW2 HC2 xc0 xc1 xc2 xs0 xs1 ⊢
  refine (HRD.out W2 HW2.out A2 c2 HC2.out HL2.out).mono ?_
  rintro e w3 ⟨v3,rfl,ho3,hb3⟩
  obtain ⟨f,hf⟩:=ho3;obtain ⟨A3,c3,hv3⟩:=Kd.R_slice hf;rw[List.length_zipIdx] at hv3;subst hv3;have HF:=am' hf;have HW3:=am' (bt' HW2.out hb3);have HSZ:=am' (show w1.heap.size+2≤W2.heap.size∧W2.heap.size≤w3.heap.size∧W.heap.size≤w1.heap.size from ⟨by have:=blk_lt HB2.out.2.1;omega,hb3.size,HB1.out.size⟩);have HE0:=am' (bb' HB2.out.1 hb3);have HS0:=am' (bb' HB2.out.2.1 hb3);have HF2:=am' (Kd.F_below HF2.out (bt' HB2.out.2.2 hb3));have HLEN2:=am' (show ((gs.length:Nat):Int)≤1048576 by have:=HLEN.out;omega);clear hf hb3 xc0 xc1 xc2 xs0 xs1;go_wp2_with fail;go_loopg [7,9,10,19] gs.length (fun gg v7 v9 v10 v19 wr=>∃ (acc:List Edg) (Ao:Option Addr) (co:Nat),v7 = .slice Ao acc.length co∧v19 = .int .i64 (acc.length:Int)∧Aside0 (acc.length≤gs.length)∧Aside0 (gs.length - acc.length≤gg)∧Aside0 ((gs.drop acc.length).foldlM (crewStep k loaded l0 l1 m ov tr) acc=some es)∧Aside0 ((Kd.tag f EdgK).R 118 wr W.heap.size (fun _=>True) (.slice Ao acc.length co) acc.zipIdx)∧Aside0 (∀ k,(Value.slice Ao acc.length co).ownBlock=some k→k=w1.heap.size∨w3.heap.size≤k)∧Aside0 (Kept w3 wr (fun k=>k=w1.heap.size))∧Aside0 (Below W.heap.size W wr))
  case atStart=>exact ⟨[],_,_,rfl,rfl,⟨Nat.zero_le _⟩,⟨Nat.le_refl _⟩,HFO,⟨R_empty _ HE0.out HB1.out.size⟩,⟨fun k hk => .inl (os' (show some _=some _ from hk)).symm⟩,⟨Kept.refl _ _⟩,HW3⟩
  case round =>
   obtain ⟨acc,Ao,co,rfl,rfl,HX,HGG,HE,HSA,HOW,HKP,HWR⟩:=hrel;by_cases hj:acc.length < gs.length
   ·
    have hjz:((acc.length:Nat):Int) < ((gs.length:Nat):Int):=by omega
    have hjd:=dt' hjz;have HJ:=am' hj;obtain ⟨l,hl⟩:∃ x,x=gs[acc.length]:=⟨_,rfl⟩
    have hE:=HE.out;rw[List.drop_eq_getElem_cons hj,← hl,List.foldlM_cons] at hE;obtain ⟨acc2,hE1,hE2⟩:=Option.bind_eq_some_iff.mp hE;unfold crewStep at hE1
    obtain ⟨c,hcost,hE1⟩:=Option.bind_eq_some_iff.mp hE1;obtain ⟨⟨mo,mt⟩,hmv,hE1⟩:=Option.bind_eq_some_iff.mp hE1;obtain ⟨cd,hcd,hE1⟩:=Option.bind_eq_some_iff.mp hE1;dsimp only at hmv hcd
    obtain rfl:=os' hE1;have HE2:=am' hE2;obtain ⟨g,Ai,ci,hA3,hxl,hgl,hgb,hrow⟩:=row_at HF.out acc.length l (by rw[List.getElem?_eq_getElem hj,hl]) rfl;have xl:=cell_kept hxl HKP.out (fun q=>by dsimp only at q;have:=HSZ.out;omega);have HRW:=am' (Kd.R_lower (Kd.R_kept hrow HKP.out (fun k hk q=>by have h1:=hk.2.1;have h2:=HSZ.out;omega)) (show W.heap.size≤W2.heap.size by have:=HSZ.out;omega));obtain ⟨_,hci,hCl⟩:=Kd.R_reads' HRW.out;have HCL:=am' hCl;have HCI:=am' hci;have HS2:=am' (blk_kept HS0.out HKP.out (fun q=>by omega));have HC3:=am' (Kd.F_now (Kd.F_kept HF2.out HKP.out (fun k hk q=>by have h1:=hk.2.2.1;omega)));have HM:=am' (fun (W1:World) (hb:Below wr.heap.size wr W1)=>impl_State_moved.calls k A2 c2 ov tr Ai ci l mo mt W1 (cb' HC3.out hb) HL2.out (cb' HCL.out hb) HCI.out hmv);have HC:=am' (fun (W1:World) (A3:Option Addr) (c3:Nat) (hc:Kd.C Kd.bool W1 A3 mo.length mo) (hl:mo.length≤c3)=>impl_State_code.calls k A3 c3 mo mt cd W1 hc hl hcd);have HCO:=am' hcost;have xt:wr.cell? ⟨pt,0,none⟩=some (.bool loaded):=(bc' (bb' BT.out HWR.out) 0).trans rfl;have xs0:wr.cell? ⟨w1.heap.size+1,0,none⟩=some (.slice A2 ov.length c2):=(bc' HS2.out 0).trans rfl;have xs1:wr.cell? ⟨w1.heap.size+1,1,none⟩=some (.bool tr):=(bc' HS2.out 1).trans rfl;have xc0:wr.cell? ⟨pc,0,none⟩=some (.slice A0 l0.length c0):=(bc' (bb' BC.out HWR.out) 0).trans rfl;have xc1:wr.cell? ⟨pc,1,none⟩=some (.slice A1 l1.length c1):=(bc' (bb' BC.out HWR.out) 1).trans rfl;have xc2:wr.cell? ⟨pc,2,none⟩=some (.int .i64 m):=(bc' (bb' BC.out HWR.out) 2).trans rfl;subst hA3;clear hj hE hE1 hE2 hcost hmv hcd hxl hgl hgb hrow hci hCl hl HE HX;cases loaded with
    | false =>
     have hc1:(1:Int)=c:=by have h1:=HCO.out;unfold crewCost at h1;rw[if_neg (by decide)] at h1;exact os' h1
     subst hc1;have HWW:=am' (Below.refl wr.heap.size wr);go_wp2_with fail;refine (HM.out wr HWW.out).mono ?_
     rintro e w5 ⟨v5,rfl,ho5,hb5⟩
     obtain ⟨A5,c5,rfl,hc5,hC5⟩:=Kd.R_reads ho5;have HW5:=am' (bt' HWW.out hb5);have HL5:=am' hc5;have HC5:=am' hC5;clear ho5 hb5 hc5 hC5;go_wp2_with fail;refine (HC.out w5 A5 c5 HC5.out HL5.out).mono ?_
     rintro e w6 ⟨rfl,hb6⟩
     have HW6:=am' (bt' HW5.out hb6);clear hb6;go_wp2_with ((with_reducible refine gate_builtin (b := .append) (xs:=#[.tmp 27, .tmp 35]) rfl ?_);at_builtin;refine Kd.R_append (Kd.tag f EdgK) (w0:=W) W.heap.size rfl (.tmp 27) (.tmp 35) 116 118 (.agg #[.int .i64 0, .int .i64 0, .slice none 0 0]) 40 rfl Try.underlying116 hinfoE.out rfl (show 0 < EdgK.sz by decide) (by omega) (.slice Ao acc.length co) acc.zipIdx ((cd,1,l),acc.length) [.int .i64 cd, .int .i64 1, .slice Ai l.length ci] (fun _=>True) (fun k=>f k=acc.length∧W2.heap.size≤k∧k < w3.heap.size) rfl (by first|rfl|(rw[World.size_alloc];rfl)) ?aP ?aK (fun _ _=>trivial) ?aO ?aB ?aS ?aL ?_;(case aP=>exact M_edgeC (Kd.R_mono (rb' HRW.out HW6.out) (fun k hk=>⟨hk,hk.1⟩)));(case aK=>exact fun k hk=>⟨trivial,fun q=>by have h1:=HOW.out k q.symm;have h2:=hk.2;have h3:=HSZ.out;omega⟩);(case aO=>exact rb' HSA.out HW6.out);(case aB=>exact bt' HWR.out HW6.out);(case aS=>exact Nat.le_trans HWR.out.size HW6.out.size);(case aL=>have h1:=HJ.out;have h2:=HLEN.out;rw[List.length_zipIdx];omega);intro v1 w7 ho hb hg hat;rw[← Kd.zip_snoc] at ho;obtain ⟨A7,c7,e7⟩:=Kd.R_slice ho;rw[List.length_zipIdx] at e7;subst e7;have HO7:=am' ho;have HB7:=am' hb;have HK7:=am' (Kept.of_grown hg (Kept.below HKP.out HW6.out) (fun k hk=>HOW.out k hk));have HOW7:=am' (show ∀ k,(Value.slice A7 (acc ++ [(cd,1,l)]).length c7).ownBlock=some k→k=w1.heap.size∨w3.heap.size≤k from fun k hk=>by rcases hat with q|⟨b,q,hbb⟩;exact HOW.out k (q.symm.trans hk);have q2:=os' (q.symm.trans hk);have h3:=HKP.out.1;have h4:=HW6.out.size;omega);clear ho hb hg hat);go_roundg (gs.length - (acc.length+1))
     case measure=>have h1:=HGG.out;have h2:=HJ.out;omega
     case rel=>exact ⟨acc ++ [(cd,1,l)],A7,c7,by first|rfl|rw[List.length_append,List.length_singleton],by rw[List.length_append,List.length_singleton];have h1:=HJ.out;have h2:=HLEN.out;first|exact nx (by omega)|exact nx2 (by omega)|exact rfl,⟨by rw[List.length_append,List.length_singleton];exact HJ.out⟩,⟨by rw[List.length_append,List.length_singleton];exact Nat.le_refl _⟩,⟨by rw[List.length_append,List.length_singleton];exact HE2.out⟩,HO7,HOW7,HK7,HB7⟩
    | true =>
     have hld:impl_Crew_load.f k l0 l1 m l=some c:=by have h1:=HCO.out;unfold crewCost at h1;rwa [if_pos rfl] at h1
     have HLQ:=am' (HLD.out wr HWR.out Ai ci l c HCL.out HCI.out hld);clear hld;go_wp2_with fail;refine HLQ.out.mono ?_
     rintro e w4 ⟨rfl,hb4⟩
     have HWW:=am' hb4;have xs0:w4.cell? ⟨w1.heap.size+1,0,none⟩=some (.slice A2 ov.length c2):=(bc' (bb' HS2.out hb4) 0).trans rfl;have xs1:w4.cell? ⟨w1.heap.size+1,1,none⟩=some (.bool tr):=(bc' (bb' HS2.out hb4) 1).trans rfl;clear hb4;go_wp2_with fail;refine (HM.out w4 HWW.out).mono ?_
     rintro e w5 ⟨v5,rfl,ho5,hb5⟩
     obtain ⟨A5,c5,rfl,hc5,hC5⟩:=Kd.R_reads ho5;have HW5:=am' (bt' HWW.out hb5);have HL5:=am' hc5;have HC5:=am' hC5;clear ho5 hb5 hc5 hC5;go_wp2_with fail;refine (HC.out w5 A5 c5 HC5.out HL5.out).mono ?_
     rintro e w6 ⟨rfl,hb6⟩
     have HW6:=am' (bt' HW5.out hb6);clear hb6;go_wp2_with ((with_reducible refine gate_builtin (b := .append) (xs:=#[.tmp 27, .tmp 35]) rfl ?_);at_builtin;refine Kd.R_append (Kd.tag f EdgK) (w0:=W) W.heap.size rfl (.tmp 27) (.tmp 35) 116 118 (.agg #[.int .i64 0, .int .i64 0, .slice none 0 0]) 40 rfl Try.underlying116 hinfoE.out rfl (show 0 < EdgK.sz by decide) (by omega) (.slice Ao acc.length co) acc.zipIdx ((cd,c,l),acc.length) [.int .i64 cd, .int .i64 c, .slice Ai l.length ci] (fun _=>True) (fun k=>f k=acc.length∧W2.heap.size≤k∧k < w3.heap.size) rfl (by first|rfl|(rw[World.size_alloc];rfl)) ?aP ?aK (fun _ _=>trivial) ?aO ?aB ?aS ?aL ?_;(case aP=>exact M_edgeC (Kd.R_mono (rb' HRW.out HW6.out) (fun k hk=>⟨hk,hk.1⟩)));(case aK=>exact fun k hk=>⟨trivial,fun q=>by have h1:=HOW.out k q.symm;have h2:=hk.2;have h3:=HSZ.out;omega⟩);(case aO=>exact rb' HSA.out HW6.out);(case aB=>exact bt' HWR.out HW6.out);(case aS=>exact Nat.le_trans HWR.out.size HW6.out.size);(case aL=>have h1:=HJ.out;have h2:=HLEN.out;rw[List.length_zipIdx];omega);intro v1 w7 ho hb hg hat;rw[← Kd.zip_snoc] at ho;obtain ⟨A7,c7,e7⟩:=Kd.R_slice ho;rw[List.length_zipIdx] at e7;subst e7;have HO7:=am' ho;have HB7:=am' hb;have HK7:=am' (Kept.of_grown hg (Kept.below HKP.out HW6.out) (fun k hk=>HOW.out k hk));have HOW7:=am' (show ∀ k,(Value.slice A7 (acc ++ [(cd,c,l)]).length c7).ownBlock=some k→k=w1.heap.size∨w3.heap.size≤k from fun k hk=>by rcases hat with q|⟨b,q,hbb⟩;exact HOW.out k (q.symm.trans hk);have q2:=os' (q.symm.trans hk);have h3:=HKP.out.1;have h4:=HW6.out.size;omega);clear ho hb hg hat);go_roundg (gs.length - (acc.length+1))
     case measure=>have h1:=HGG.out;have h2:=HJ.out;omega
     case rel=>exact ⟨acc ++ [(cd,c,l)],A7,c7,by first|rfl|rw[List.length_append,List.length_singleton],by rw[List.length_append,List.length_singleton];have h1:=HJ.out;have h2:=HLEN.out;first|exact nx (by omega)|exact nx2 (by omega)|exact rfl,⟨by rw[List.length_append,List.length_singleton];exact HJ.out⟩,⟨by rw[List.length_append,List.length_singleton];exact Nat.le_refl _⟩,⟨by rw[List.length_append,List.length_singleton];exact HE2.out⟩,HO7,HOW7,HK7,HB7⟩
   ·
    have hjz:¬ ((acc.length:Nat):Int) < ((gs.length:Nat):Int):=by omega
    have hjd:=df' hjz;have hE:=HE.out;rw[List.drop_eq_nil_of_le (by omega),List.foldlM_nil] at hE;obtain rfl:=os' hE;have HSF:=am' (show Kd.S EdgK 118 wr W.heap.size (fun _=>True) (.slice Ao acc.length co) acc from ⟨f,HSA.out⟩);clear hE;go_wp2;go_ret
    exact ⟨_,rfl,HSF.out,HWR.out⟩
 ·
  rw[if_neg hlen] at hs;cases hs
theorem blk_put2 {W:World} {g h:Nat} {o:Obj} {v0 v1:Value} (hb:W.heap[h]? = some o) (hne:h≠g):((W.setCell ⟨g,0,none⟩ v0).setCell ⟨g,1,none⟩ v1).heap[h]? = some o:=blk_kept hb (put2_kept W g v0 v1) hne
theorem bkI_up {o1 o2:Int→Option (List Edg)} (ho:∀ s,LeO (o1 s) (o2 s)) (d:Nat):∀ k i dist wt,LeO (bkI o1 d k i dist wt) (bkI o2 d (k+1) i dist wt):=by
 intro k;induction k with
 | zero=>intro i dist wt r h;simp[bkI] at h
 | succ k ih =>
  intro i dist wt;rw[bkI,bkI];exact LeO.ite (LeO.ite (LeO.ite (ih _ _ _) (LeO.bind (ho _) (fun _=>LeO.bind (LeO.refl _) (fun _=>ih _ _ _)))) (LeO.refl _)) (LeO.refl _)
theorem bkD_up {o1 o2:Int→Option (List Edg)} (ho:∀ s,LeO (o1 s) (o2 s)):∀ k d dist wt,LeO (bkD o1 k d dist wt) (bkD o2 (k+1) d dist wt):=by
 intro k;induction k with
 | zero=>intro d dist wt r h;simp[bkD] at h
 | succ k ih =>
  intro d dist wt;rw[bkD,bkD];exact LeO.ite (LeO.ite (LeO.bind (bkI_up ho d _ _ _ _) (fun _=>ih _ _ _)) (LeO.refl _)) (LeO.refl _)
theorem pow_le8 {n:Nat} (h:n≤8):0 < 2 ^ (n+1)∧2 ^ (n+1)≤1024∧wrap64 (2 * 2 ^ min n 64)=((2 ^ (n+1):Nat):Int):=by
 have:n=0∨n=1∨n=2∨n=3∨n=4∨n=5∨n=6∨n=7∨n=8:=by omega
 rcases this with rfl|rfl|rfl|rfl|rfl|rfl|rfl|rfl|rfl <;> exact ⟨by decide,by decide,by decide +kernel⟩
theorem R_one {w:World} {b base:Nat} {x:Int} {e:Nat} (h:w.heap[b]? = some (.cells #[.int .i64 x] e (0,0))) (hB:base≤b):(Kd.int .i64).R e w base (fun _=>True) (.slice (some ⟨b,0,none⟩) 1 1) [x]:=by
 refine Kd.R_of_own ?_ (fun k hk=>trivial)
 exact ⟨by simp[encs], .inr ⟨b,1,_,rfl,hB,h,Nat.le_refl _,by decide,by simp,by simp[encs]⟩⟩
set_option maxHeartbeats 2000000 in
set_option maxRecDepth 100000 in
theorem crew_graph2 (A0_0:Option Addr) (c0_0:Nat) (l0_0:List Int) (A0_1:Option Addr) (c0_1:Nat) (l0_1:List Bool) (a0_2:Int) (a1:Bool) (w:World):Calls Try.prog 84 #[.agg #[.slice A0_0 l0_0.length c0_0, .slice A0_1 l0_1.length c0_1, .int .i64 a0_2], .bool a1] w fun e w'=>∃ pn pp pt,e = .returned (.agg #[.int .i64 (wrap64 (2 * 2 ^ min l0_0.length 64)), .func (.func 108) #[] #[.pointer (some ⟨pn,0,none⟩), .pointer (some ⟨pp,0,none⟩), .pointer (some ⟨pt,0,none⟩)]])∧w'.heap[pn]? = some (.cells #[.int .i64 (l0_0.length:Int)] 3 (0,0))∧w'.heap[pp]? = some (.cells #[.slice A0_0 l0_0.length c0_0, .slice A0_1 l0_1.length c0_1, .int .i64 a0_2] 29 (0,0))∧w'.heap[pt]? = some (.cells #[.bool a1] 4 (0,0))∧(w.heap.size≤pn∧w.heap.size≤pp∧w.heap.size≤pt)∧Below w.heap.size w w':=by
 have hu:=Try.underlying29
 have hug:=Try.underlying96
 have HB:=am' (four_blocks w (.cells #[.slice A0_0 l0_0.length c0_0, .slice A0_1 l0_1.length c0_1, .int .i64 a0_2] 29) (.cells #[.bool a1] 4) (.cells #[.int .i64 (wrap64 (2 * 2 ^ min l0_0.length 64)), .func (.func 108) #[] #[.pointer (some ⟨w.heap.size+1+1+1,0,none⟩), .pointer (some ⟨w.heap.size,0,none⟩), .pointer (some ⟨w.heap.size+1,0,none⟩)]] 96) (.cells #[.int .i64 (l0_0.length:Int)] 3))
 go_enter Try.func84,Try.ntmps84
 go_wp2_with fail
 refine bodyPost_ret (results_cell_row rfl _ _ (w.heap.size+1+1) 96 #[.int .i64 (wrap64 (2 * 2 ^ min l0_0.length 64)), .func (.func 108) #[] #[.pointer (some ⟨w.heap.size+1+1+1,0,none⟩), .pointer (some ⟨w.heap.size,0,none⟩), .pointer (some ⟨w.heap.size+1,0,none⟩)]] (0,0) _ rfl HB.out.2.2.1 Try.underlying96 rfl xk') rfl ?_
 exact ⟨_,_,_,rfl,HB.out.2.2.2.1,HB.out.1,HB.out.2.1,⟨by omega,by omega,by omega⟩,HB.out.2.2.2.2⟩
def impl_Crew_costs.f (k:Nat) (l0_0:List Int) (l0_1:List Bool) (a0_2:Int) (a1:Bool):Option (List Int × Bool) :=
 if l0_0.length≤8 then (impl_last.f (l0_0.length:Int)).bind fun st=>(bkD (crewOut k a1 l0_0 l0_1 a0_2) k 0 (List.replicate (2 ^ (l0_0.length+1)) (-1)) [[st]]).bind fun r=>if r.length=2 ^ (l0_0.length+1) then some (r,decide (0≤rd r 0)) else none else none
set_option maxHeartbeats 4000000 in
set_option maxRecDepth 100000 in
theorem impl_Crew_costs.calls (k:Nat) (A0_0:Option Addr) (c0_0:Nat) (l0_0:List Int) (A0_1:Option Addr) (c0_1:Nat) (l0_1:List Bool) (a0_2:Int) (a1:Bool) (r:List Int) (ok:Bool) (w:World) (hr0_0:Kd.C (Kd.int .i64) w A0_0 l0_0.length l0_0) (hc0_0:l0_0.length≤c0_0) (hr0_1:Kd.C Kd.bool w A0_1 l0_1.length l0_1) (hc0_1:l0_1.length≤c0_1) (h:impl_Crew_costs.f k l0_0 l0_1 a0_2 a1=some (r,ok)) :
  Calls Try.prog 104 #[.agg #[.slice A0_0 l0_0.length c0_0, .slice A0_1 l0_1.length c0_1, .int .i64 a0_2], .bool a1] w fun e w'=>∃ pn pp pt v,e = .returned (.tuple #[.agg #[.int .i64 (wrap64 (2 * 2 ^ min l0_0.length 64)), .func (.func 108) #[] #[.pointer (some ⟨pn,0,none⟩), .pointer (some ⟨pp,0,none⟩), .pointer (some ⟨pt,0,none⟩)]],v, .bool ok])∧w'.heap[pn]? = some (.cells #[.int .i64 (l0_0.length:Int)] 3 (0,0))∧w'.heap[pp]? = some (.cells #[.slice A0_0 l0_0.length c0_0, .slice A0_1 l0_1.length c0_1, .int .i64 a0_2] 29 (0,0))∧w'.heap[pt]? = some (.cells #[.bool a1] 4 (0,0))∧(Kd.int .i64).R 3 w' w.heap.size (fun _=>True) v r∧(r.length=2 ^ (l0_0.length+1)∧l0_0.length≤8)∧Below w.heap.size w w':=by
 have hu:=Try.underlying29
 have hug:=Try.underlying96
 unfold impl_Crew_costs.f at h
 have HF0_0:=am' hr0_0
 have HF0_1:=am' hr0_1
 have HC0_0:=am' hc0_0
 have HC0_1:=am' hc0_1
 have HL2:=am' (two_blocks w (.cells #[.slice A0_0 l0_0.length c0_0, .slice A0_1 l0_1.length c0_1, .int .i64 a0_2] 29) (.cells #[.int .i64 0,Value.nilFunc] 96))
 obtain ⟨mv,hmv⟩:∃ x,x=wrap64 (2 * 2 ^ min l0_0.length 64):=⟨_,rfl⟩
 have HG:=am' (fun (W:World)=>crew_graph2 A0_0 c0_0 l0_0 A0_1 c0_1 l0_1 a0_2 a1 W)
 rw[← hmv] at HG ⊢
 have HMV:=am' hmv
 clear hmv hr0_0 hc0_0 hr0_1 hc0_1;by_cases hl8:l0_0.length≤8
 ·
  rw[if_pos hl8] at h;obtain ⟨st,hst,h⟩:=Option.bind_eq_some_iff.mp h;obtain ⟨rr,hd,h⟩:=Option.bind_eq_some_iff.mp h;by_cases hlen:rr.length=2 ^ (l0_0.length+1)
  ·
   rw[if_pos hlen] at h;simp only[Option.some.injEq,Prod.mk.injEq] at h;obtain ⟨rfl,rfl⟩:=h;obtain ⟨hp0,hp1,hp2⟩:=pow_le8 hl8;obtain ⟨N,hN⟩:∃ x,x=2 ^ (l0_0.length+1):=⟨_,rfl⟩
   rw[← hN] at hp0 hp1 hp2 hd hlen;have HN:=am' hN;have hmvN:=HMV.out.trans hp2;have HMN:=am' hmvN;have HD:=am' hd;have HLEN:=am' hlen;have HST:=am' (fun (W:World)=>impl_last.calls (l0_0.length:Int) st W hst);have HP0:=am' hp0;have HP1:=am' hp1;have HL8:=am' hl8;clear hp0 hp1 hp2 hN hmvN hd hlen hst hl8;go_enter Try.func104,Try.ntmps104;go_wp2_with fail;refine (HG.out _).mono ?_
   rintro e w3 ⟨pn,pp,pt,rfl,hpn,hpp,hpt,hnew,hb3⟩
   have J5:=am' (heap_alloc_new w3 (.cells #[.int .i64 mv, .func (.func 108) #[] #[.pointer (some ⟨pn,0,none⟩), .pointer (some ⟨pp,0,none⟩), .pointer (some ⟨pt,0,none⟩)]] 96));have J1:=am' (ka' (bb' HL2.out.1 hb3) (.cells #[.int .i64 mv, .func (.func 108) #[] #[.pointer (some ⟨pn,0,none⟩), .pointer (some ⟨pp,0,none⟩), .pointer (some ⟨pt,0,none⟩)]] 96));have HP2L:=am' (blk_lt (bb' HL2.out.2.1 hb3));have J2:=am' (ka' (bb' HL2.out.2.1 hb3) (.cells #[.int .i64 mv, .func (.func 108) #[] #[.pointer (some ⟨pn,0,none⟩), .pointer (some ⟨pp,0,none⟩), .pointer (some ⟨pt,0,none⟩)]] 96));have JN:=am' (ka' hpn (.cells #[.int .i64 mv, .func (.func 108) #[] #[.pointer (some ⟨pn,0,none⟩), .pointer (some ⟨pp,0,none⟩), .pointer (some ⟨pt,0,none⟩)]] 96));have NEn:=am' (show pn≠w.heap.size+1 from fun q=>by have h1:=hnew;have h2:=blk_lt HL2.out.2.1;omega);have JP:=am' (ka' hpp (.cells #[.int .i64 mv, .func (.func 108) #[] #[.pointer (some ⟨pn,0,none⟩), .pointer (some ⟨pp,0,none⟩), .pointer (some ⟨pt,0,none⟩)]] 96));have NEp:=am' (show pp≠w.heap.size+1 from fun q=>by have h1:=hnew;have h2:=blk_lt HL2.out.2.1;omega);have JT:=am' (ka' hpt (.cells #[.int .i64 mv, .func (.func 108) #[] #[.pointer (some ⟨pn,0,none⟩), .pointer (some ⟨pp,0,none⟩), .pointer (some ⟨pt,0,none⟩)]] 96));have NEt:=am' (show pt≠w.heap.size+1 from fun q=>by have h1:=hnew;have h2:=blk_lt HL2.out.2.1;omega);have HBJ:=am' (ba' (bt' HL2.out.2.2 hb3) (.cells #[.int .i64 mv, .func (.func 108) #[] #[.pointer (some ⟨pn,0,none⟩), .pointer (some ⟨pp,0,none⟩), .pointer (some ⟨pt,0,none⟩)]] 96));have x10:(w3.alloc (.cells #[.int .i64 mv, .func (.func 108) #[] #[.pointer (some ⟨pn,0,none⟩), .pointer (some ⟨pp,0,none⟩), .pointer (some ⟨pt,0,none⟩)]] 96)).cell? ⟨w.heap.size,0,none⟩=some (.slice A0_0 l0_0.length c0_0):=(bc' J1.out 0).trans rfl;have x50:(w3.alloc (.cells #[.int .i64 mv, .func (.func 108) #[] #[.pointer (some ⟨pn,0,none⟩), .pointer (some ⟨pp,0,none⟩), .pointer (some ⟨pt,0,none⟩)]] 96)).cell? ⟨w3.heap.size,0,none⟩=some (.int .i64 mv):=(bc' J5.out 0).trans rfl;have x51:(w3.alloc (.cells #[.int .i64 mv, .func (.func 108) #[] #[.pointer (some ⟨pn,0,none⟩), .pointer (some ⟨pp,0,none⟩), .pointer (some ⟨pt,0,none⟩)]] 96)).cell? ⟨w3.heap.size,1,none⟩=some (.func (.func 108) #[] #[.pointer (some ⟨pn,0,none⟩), .pointer (some ⟨pp,0,none⟩), .pointer (some ⟨pt,0,none⟩)]):=(bc' J5.out 1).trans rfl;obtain ⟨c0_,f0_,c1_,f1_⟩:=put2 J2.out (.int .i64 mv) (.func (.func 108) #[] #[.pointer (some ⟨pn,0,none⟩), .pointer (some ⟨pp,0,none⟩), .pointer (some ⟨pt,0,none⟩)]);clear hpn hpp hpt hnew hb3;go_wp2_with fail;generalize hw5:w3.alloc (.cells #[.int .i64 mv, .func (.func 108) #[] #[.pointer (some ⟨pn,0,none⟩), .pointer (some ⟨pp,0,none⟩), .pointer (some ⟨pt,0,none⟩)]] 96)=w5 at J5 J1 J2 JN JP JT HBJ x10 x50 x51 c0_ f0_ c1_ f1_ ⊢
   clear hw5;refine start_ (n:=8) (S:=fun w'=>w'.cell? ⟨w3.heap.size,0,none⟩=some (.int .i64 mv)∧w'.cell? ⟨w3.heap.size,1,none⟩=some (.func (.func 108) #[] #[.pointer (some ⟨pn,0,none⟩), .pointer (some ⟨pp,0,none⟩), .pointer (some ⟨pt,0,none⟩)])∧w'.cell? ⟨w.heap.size,0,none⟩=some (.slice A0_0 l0_0.length c0_0)) (ds:=[]) #[false,false,false,false,false,false,false,false] xk' rfl rfl ⟨x50,x51,x10⟩ (fun hHeld=>?_);refine take_ (i:=0) (N:=some 12) (v:=?_) (a':=?_) #[true,false,false,false,false,false,false,false] rfl rfl xk' (fun _ _ _ h=>h) (Or.inl ⟨by rfl,?_⟩) hHeld ?_ ?_
   rotate_left
   ·
    rintro w' ⟨s0_,s1_,s2_⟩
    go_simp;with_reducible rfl
   rotate_left
   ·
    simp only[Act.put,sa',sb',sc',i64_w,i32_w];rfl
   refine pure_ (i:=1) (N:=some 13) (v:=?_) (a':=?_) #[true,true,false,false,false,false,false,false] rfl rfl xk' (fun _ _ _ h=>h) (Or.inl ⟨by rfl,?_⟩) ?_ ?_
   rotate_left
   ·
    intro w';go_simp;with_reducible rfl
   rotate_left
   ·
    simp only[Act.put,sa',sb',sc',i64_w,i32_w];rfl
   refine take_ (i:=2) (N:=some 14) (v:=?_) (a':=?_) #[true,true,true,false,false,false,false,false] rfl rfl xk' (fun _ _ _ h=>h) (Or.inl ⟨by rfl,?_⟩) hHeld ?_ ?_
   rotate_left
   ·
    rintro w' ⟨s0_,s1_,s2_⟩
    go_simp;with_reducible rfl
   rotate_left
   ·
    simp only[Act.put,sa',sb',sc',i64_w,i32_w];rfl
   refine pure_ (i:=3) (N:=some 15) (v:=?_) (a':=?_) #[true,true,true,true,false,false,false,false] rfl rfl xk' (fun _ _ _ h=>h) (Or.inl ⟨by rfl,?_⟩) ?_ ?_
   rotate_left
   ·
    intro w';go_simp;with_reducible rfl
   rotate_left
   ·
    simp only[Act.put,sa',sb',sc',i64_w,i32_w];rfl
   refine one_ (i:=4) (N:=some 16) #[true,true,true,true,true,false,false,false] rfl rfl xk' (by decide) (fun K hK=>?_);refine goes_ Try.func72 xk' rfl #[.int .i64 (l0_0.length:Int)] (by rfl) rfl rfl (by (try simp only[List.map_toArray,List.map_cons,List.map_nil]);first|done|rfl) ?_
   refine (HST.out _).mono ?_
   rintro e w6 ⟨rfl,⟨nd,rfl⟩⟩
   refine ⟨_,rfl,?_⟩;refine hK.out _ _ ⟨x50,x51,x10⟩ (fun hHeld=>?_);clear hK K;refine norm_ (a':=?_) ?_ ?_
   rotate_left
   ·
    show Act.put _ (some 16) _=_
    simp only[Act.put,sa',sb',sc',i64_w,i32_w];rfl
   refine one_ (i:=5) (N:=some 17) #[true,true,true,true,true,true,false,false] rfl rfl xk' (by decide) (fun K hK=>?_);refine value_ (v := .slice (some ⟨w5.heap.size,0,none⟩) 1 1) (w1:=((w5.drew.drewN nd).alloc (.cells #[.int .i64 st] 3))) (by rfl) rfl ?_ ?_
   ·
    go_simp
   refine hK.out _ _ ⟨((ba' (bd' (below_drew (Below.refl w5.heap.size w5)) nd) _).cell (bl' w5 _ x50)).trans x50,((ba' (bd' (below_drew (Below.refl w5.heap.size w5)) nd) _).cell (bl' w5 _ x51)).trans x51,((ba' (bd' (below_drew (Below.refl w5.heap.size w5)) nd) _).cell (bl' w5 _ x10)).trans x10⟩ (fun hHeld=>?_);clear hK K;refine norm_ (a':=?_) ?_ ?_
   rotate_left
   ·
    show Act.put _ (some 17) _=_
    simp only[Act.put,sa',sb',sc',i64_w,i32_w];rfl
   refine one_ (i:=6) (N:=some 18) #[true,true,true,true,true,true,true,false] rfl rfl xk' (by decide) (fun K hK=>?_);have HSTB:=am' (ba' (bd' (below_drew (Below.refl w5.heap.size w5)) nd) (.cells #[.int .i64 st] 3));refine goes_ Try.func110 xk' rfl #[.agg #[.int .i64 mv, .func (.func 108) #[] #[.pointer (some ⟨pn,0,none⟩), .pointer (some ⟨pp,0,none⟩), .pointer (some ⟨pt,0,none⟩)]], .slice (some ⟨w5.heap.size,0,none⟩) 1 1] (by rfl) rfl rfl (by (try simp only[List.map_toArray,List.map_cons,List.map_nil]);first|done|rfl) ?_
   rw[HMN.out];refine (from_any 108 #[.pointer (some ⟨pn,0,none⟩), .pointer (some ⟨pp,0,none⟩), .pointer (some ⟨pt,0,none⟩)] (crewOut k a1 l0_0 l0_1 a0_2) k N [st] rr w5 _ (enters_of Try.func108 xk' rfl) (crew_out k a1 A0_0 c0_0 l0_0 A0_1 c0_1 l0_1 a0_2 pn pp pt w5 JN.out JP.out JT.out (cb' HF0_0.out HBJ.out) HC0_0.out (cb' HF0_1.out HBJ.out) HC0_1.out) (some ⟨w5.heap.size,0,none⟩) 1 (R_one (heap_alloc_new (w5.drew.drewN nd) _) (Nat.le_refl _)) HSTB.out HP0.out HP1.out HD.out).mono ?_
   rintro e w7 ⟨v7,rfl,hr7,hb7⟩
   obtain ⟨gd,cd,hv7,_⟩:=Kd.R_form hr7 (by have h1:=HLEN.out;have h2:=HP0.out;omega);rw[HLEN.out] at hv7;subst hv7;have HR7:=am' hr7;have M1:=am' (bb' J1.out hb7);have M2:=am' (bb' J2.out hb7);have M5:=am' (bb' J5.out hb7);have MN:=am' (bb' JN.out hb7);have MP:=am' (bb' JP.out hb7);have MT:=am' (bb' JT.out hb7);have HBN:=am' (bt' HBJ.out hb7);have HW56:=am' (Nat.le_refl w5.heap.size);have m50:w7.cell? ⟨w3.heap.size,0,none⟩=some (.int .i64 mv):=(bc' M5.out 0).trans rfl;have m51:w7.cell? ⟨w3.heap.size,1,none⟩=some (.func (.func 108) #[] #[.pointer (some ⟨pn,0,none⟩), .pointer (some ⟨pp,0,none⟩), .pointer (some ⟨pt,0,none⟩)]):=(bc' M5.out 1).trans rfl;have m10:w7.cell? ⟨w.heap.size,0,none⟩=some (.slice A0_0 l0_0.length c0_0):=(bc' M1.out 0).trans rfl;clear hr7 hb7 x10 x50 x51 c0_ f0_ c1_ f1_;refine ⟨_,rfl,?_⟩;refine hK.out _ _ ⟨m50,m51,m10⟩ (fun hHeld=>?_);clear hK K;refine norm_ (a':=?_) ?_ ?_
   rotate_left
   ·
    show Act.put _ (some 18) _=_
    simp only[Act.put,sa',sb',sc',i64_w,i32_w];rfl
   refine pure_ (i:=7) (N:=some 8) (v:=?_) (a':=?_) #[true,true,true,true,true,true,true,true] rfl rfl xk' (fun _ _ _ h=>h) (Or.inl ⟨by rfl,?_⟩) ?_ ?_
   rotate_left
   ·
    intro w';go_simp;with_reducible rfl
   rotate_left
   ·
    simp only[Act.put,sa',sb',sc',i64_w,i32_w];rfl
   refine done_ xk' ?_
   go_wp2_with fail;obtain ⟨dv,hdv⟩:∃ x,x=rd rr 0:=⟨_,rfl⟩
   have hx0:w7.cell? ⟨gd,0,none⟩=some (.int .i64 dv):=by
    have:=(Kd.R_celln 0 HR7.out 0 (by omega) (by have:=HP0.out;omega)).1;rw[hdv];simpa [rd,rdOf] using this
   have hl0:(0:Int) < (N:Int):=by have:=HP0.out;omega
   have hl1:0 < N:=HP0.out;have HDV:=am' hdv;clear hdv;have HKP:=am' (put2_kept w7 (w.heap.size+1) (.int .i64 mv) (.func (.func 108) #[] #[.pointer (some ⟨pn,0,none⟩), .pointer (some ⟨pp,0,none⟩), .pointer (some ⟨pt,0,none⟩)]));have hz2:=blk_lt M2.out;have HGD:=am' (show gd≠w.heap.size+1 from fun q=>by have h1:=Kd.R_base HR7.out gd (by simp[Value.ownBlock]);have h3:=blk_lt J2.out;have h4:=HW56.out;omega);have q0:=cell_kept m50 HKP.out (fun q=>by dsimp only at q;have:=HP2L.out;omega);have q1:=cell_kept m51 HKP.out (fun q=>by dsimp only at q;have:=HP2L.out;omega);have q2:=cell_kept hx0 HKP.out (fun q=>HGD.out q);obtain ⟨c0_,f0_,c1_,f1_⟩:=put2 M2.out (.int .i64 mv) (.func (.func 108) #[] #[.pointer (some ⟨pn,0,none⟩), .pointer (some ⟨pp,0,none⟩), .pointer (some ⟨pt,0,none⟩)]);clear hz2;refine start_ (n:=9) (S:=fun w'=>w'.cell? ⟨w3.heap.size,0,none⟩=some (.int .i64 mv)∧w'.cell? ⟨w3.heap.size,1,none⟩=some (.func (.func 108) #[] #[.pointer (some ⟨pn,0,none⟩), .pointer (some ⟨pp,0,none⟩), .pointer (some ⟨pt,0,none⟩)])∧w'.cell? ⟨gd,0,none⟩=some (.int .i64 dv)) (ds:=[]) #[false,false,false,false,false,false,false,false,false] xk' rfl rfl ⟨m50,m51,hx0⟩ (fun hHeld=>?_);refine take_ (i:=0) (N:=some 19) (v:=?_) (a':=?_) #[true,false,false,false,false,false,false,false,false] rfl rfl xk' (fun _ _ _ h=>h) (Or.inl ⟨by rfl,?_⟩) hHeld ?_ ?_
   rotate_left
   ·
    rintro w' ⟨s0_,s1_,s2_⟩
    go_simp;with_reducible rfl
   rotate_left
   ·
    simp only[Act.put,sa',sb',sc',i64_w,i32_w];rfl
   refine pure_ (i:=1) (N:=some 20) (v:=?_) (a':=?_) #[true,true,false,false,false,false,false,false,false] rfl rfl xk' (fun _ _ _ h=>h) (Or.inl ⟨by rfl,?_⟩) ?_ ?_
   rotate_left
   ·
    intro w';go_simp;with_reducible rfl
   rotate_left
   ·
    simp only[Act.put,sa',sb',sc',i64_w,i32_w];rfl
   refine pure_ (i:=2) (N:=some 21) (v:=?_) (a':=?_) #[true,true,true,false,false,false,false,false,false] rfl rfl xk' (fun _ _ _ h=>h) (Or.inl ⟨by rfl,?_⟩) ?_ ?_
   rotate_left
   ·
    intro w';go_simp;with_reducible rfl
   rotate_left
   ·
    simp only[Act.put,sa',sb',sc',i64_w,i32_w];rfl
   refine pure_ (i:=3) (N:=some 22) (v:=?_) (a':=?_) #[true,true,true,true,false,false,false,false,false] rfl rfl xk' (fun _ _ _ h=>h) (Or.inl ⟨by rfl,?_⟩) ?_ ?_
   rotate_left
   ·
    intro w';go_simp;with_reducible rfl
   rotate_left
   ·
    simp only[Act.put,sa',sb',sc',i64_w,i32_w];rfl
   refine take_ (i:=4) (N:=some 23) (v:=?_) (a':=?_) #[true,true,true,true,true,false,false,false,false] rfl rfl xk' (fun _ _ _ h=>h) (Or.inl ⟨by rfl,?_⟩) hHeld ?_ ?_
   rotate_left
   ·
    rintro w' ⟨s0_,s1_,s2_⟩
    go_simp;with_reducible rfl
   rotate_left
   ·
    simp only[Act.put,sa',sb',sc',i64_w,i32_w];rfl
   refine pure_ (i:=5) (N:=some 24) (v:=?_) (a':=?_) #[true,true,true,true,true,true,false,false,false] rfl rfl xk' (fun _ _ _ h=>h) (Or.inl ⟨by rfl,?_⟩) ?_ ?_
   rotate_left
   ·
    intro w';go_simp;with_reducible rfl
   rotate_left
   ·
    simp only[Act.put,sa',sb',sc',i64_w,i32_w];rfl
   refine one_ (i:=6) (N:=none) #[true,true,true,true,true,true,true,false,false] rfl rfl xk' (by decide) (fun K hK=>?_);refine skip_ (w1:=?_) (by rfl) rfl ?_ ?_
   rotate_left
   ·
    go_simp;rfl
   refine hK.out _ _ ⟨q0,q1,q2⟩ (fun hHeld=>?_);clear hK K;refine pure_ (i:=7) (N:=some 5) (v:=?_) (a':=?_) #[true,true,true,true,true,true,true,true,false] rfl rfl xk' (fun _ _ _ h=>h) (Or.inl ⟨by rfl,?_⟩) ?_ ?_
   rotate_left
   ·
    intro w';go_simp;with_reducible rfl
   rotate_left
   ·
    simp only[Act.put,sa',sb',sc',i64_w,i32_w];rfl
   refine pure_ (i:=8) (N:=some 6) (v:=?_) (a':=?_) #[true,true,true,true,true,true,true,true,true] rfl rfl xk' (fun _ _ _ h=>h) (Or.inl ⟨by rfl,?_⟩) ?_ ?_
   rotate_left
   ·
    intro w';go_simp;with_reducible rfl
   rotate_left
   ·
    simp only[Act.put,sa',sb',sc',i64_w,i32_w];rfl
   refine done_ xk' ?_
   have hsz5:=blk_lt J2.out;have hszw:=HBN.out.size;have h56:=HW56.out;have hRR:(Kd.int .i64).R 3 ((w7.setCell ⟨w.heap.size+1,0,none⟩ (.int .i64 mv)).setCell ⟨w.heap.size+1,1,none⟩ (.func (.func 108) #[] #[.pointer (some ⟨pn,0,none⟩), .pointer (some ⟨pp,0,none⟩), .pointer (some ⟨pt,0,none⟩)])) w.heap.size (fun _=>True) (.slice (some ⟨gd,0,none⟩) N cd) rr:=Kd.R_lower (Kd.R_mono (Kd.R_kept (Kd.R_bound HR7.out) HKP.out (fun k hk q=>by have h1:=hk.2.1;omega)) (fun _ _=>trivial)) (by omega);have hBB:Below w.heap.size w ((w7.setCell ⟨w.heap.size+1,0,none⟩ (.int .i64 mv)).setCell ⟨w.heap.size+1,1,none⟩ (.func (.func 108) #[] #[.pointer (some ⟨pn,0,none⟩), .pointer (some ⟨pp,0,none⟩), .pointer (some ⟨pt,0,none⟩)])):=bs' (bs' HBN.out (by omega)) (by omega);have HRR:=am' hRR;have HBB:=am' hBB;clear hRR hBB hsz5 hszw h56;go_wp2;refine bodyPost_ret (results_ctt rfl _ _ (w.heap.size+1) 96 #[.int .i64 mv, .func (.func 108) #[] #[.pointer (some ⟨pn,0,none⟩), .pointer (some ⟨pp,0,none⟩), .pointer (some ⟨pt,0,none⟩)]] (0,0) _ rfl (put2_blk M2.out _ _) Try.underlying96 rfl xk') rfl ?_
   refine ⟨pn,pp,pt, .slice (some ⟨gd,0,none⟩) N cd,by rw[← HDV.out];rfl,blk_put2 MN.out NEn.out,blk_put2 MP.out NEp.out,blk_put2 MT.out NEt.out,?_,⟨HLEN.out.trans HN.out,HL8.out⟩,?_⟩
   ·
    exact HRR.out
   ·
    first|exact HBB.out|exact below_drew HBB.out|exact bd' HBB.out _
  ·
   rw[if_neg hlen] at h;cases h
 ·
  rw[if_neg hl8] at h;cases h
abbrev RowE:=Int × Int × Value
def TC (W:World) (g:Nat) (rows:List RowE):Prop:=∀ (j:Nat) (e:RowE),rows[j]? = some e→W.cell? ⟨g,j * 3,none⟩=some (.int .i64 e.1)∧W.cell? ⟨g,j * 3+1,none⟩=some (.int .i64 e.2.1)∧W.cell? ⟨g,j * 3+2,none⟩=some e.2.2
def aggE (e:RowE):Value := .agg #[.int .i64 e.1, .int .i64 e.2.1,e.2.2]
def PredE (g:Nat) (lb:Array Value) (p:RowE→Bool) (xs:List RowE) (w:World) (O:Nat→Prop):Prop :=
 ∀ x,x ∈ xs→∀ W:World,Kept w W O→Calls Try.prog g (#[aggE x] ++ lb) W fun e w'=>e = .returned (.bool (p x))∧Below W.heap.size W w'
def idxE (p:RowE→Bool) (xs:List RowE):Int:=if xs.findIdx p < xs.length then (xs.findIdx p:Nat) else -1
theorem TC.cell {w W:World} {g:Nat} {rows:List RowE} (h:TC w g rows) (hb:Below w.heap.size w W):TC W g rows:=fun j e hj=>by
 obtain ⟨h0,h1,h2⟩:=h j e hj
 exact ⟨(hb.cell (bl' w _ h0)).trans h0,(hb.cell (bl' w _ h1)).trans h1,(hb.cell (bl' w _ h2)).trans h2⟩
set_option maxHeartbeats 4000000 in
set_option maxRecDepth 100000 in
theorem IndexE_any (g:Nat) (lb:Array Value) (p:RowE→Bool) (eg:∀ args w,(callFunc g args).run Try.prog w = .ok (.enter g args) w) (gb:Nat) (A0:Option Addr) (c0:Nat) (xs:List RowE) (w:World) (O:Nat→Prop) (hA:0 < xs.length→A0=some ⟨gb,0,none⟩) (hr:TC w gb xs) (hl:xs.length≤c0) (hbig:xs.length≤1048576)
  (hp:PredE g lb p xs w O) :
  Calls Try.prog 127 #[.slice A0 xs.length c0, .func (.func g) #[] lb] w fun e w'=>e = .returned (.int .i64 (idxE p xs))∧Below w.heap.size w w':=by
 have hue:=Try.underlying118
 have HP:=am' hp
 have HR:=am' hr
 have HBG:=am' hbig
 clear hp hr;go_enter Try.func127,Try.ntmps127
 go_wp2
 go_loopg [5,8] xs.length (fun gg _ s8 wr=>∃ kk:Nat,kk≤xs.length∧xs.length - kk≤gg∧s8 = .int .i64 (kk:Int)∧Aside0 (Below w.heap.size w wr)∧Aside0 (∀ j (e:RowE),j < kk→xs[j]? = some e→p e=false))
 case atStart=>exact ⟨0,Nat.zero_le _,by omega,rfl,⟨Below.refl _ w⟩,⟨fun j e hj=>absurd hj (Nat.not_lt_zero _)⟩⟩
 case round =>
  obtain ⟨kk,hkk,hg,rfl,BW,AA⟩:=hrel;by_cases hlt:kk < xs.length
  ·
   have hltz:(kk:Int) < (xs.length:Int):=by omega
   obtain rfl:=hA (by omega);obtain ⟨x,hx⟩:∃ x,xs[kk]? = some x:=⟨_,List.getElem?_eq_getElem hlt⟩
   have HX:=am' hx;obtain ⟨hx0,hx1,hx2⟩:=TC.cell HR.out BW.out kk x hx;have hcall:=HP.out x (List.mem_of_getElem? hx) wr (Kept.of_below BW.out O);clear hx;cases hq:p x with
   | true =>
    have HQ:=am' hq;rw[hq] at hcall;clear hq;unfold aggE at hcall
    go_wp2_with fail;refine hcall.mono ?_
    rintro e w' ⟨rfl,hb'⟩
    have HB2:=am' (bt' BW.out hb');clear hcall hx0 hx1 hx2 hb';go_wp2;go_ret
    refine ⟨?_,HB2.out⟩
    have hfi:xs.findIdx p=kk:=by
     rw[List.findIdx_eq hlt];obtain ⟨h1,h2⟩:=List.getElem?_eq_some_iff.1 HX.out
     refine ⟨by rw[h2];exact HQ.out,fun j hj=>?_⟩;exact AA.out j _ hj (List.getElem?_eq_getElem (by omega))
    unfold idxE
    rw[hfi,if_pos hlt];rfl
   | false =>
    have HQ:=am' hq;rw[hq] at hcall;clear hq;unfold aggE at hcall
    go_wp2_with fail;refine hcall.mono ?_
    rintro e w' ⟨rfl,hb'⟩
    have HB2:=am' (bt' BW.out hb');clear hcall hx0 hx1 hx2 hb';go_wp2;go_roundg (xs.length - (kk+1))
    case measure=>omega
    case rel =>
     refine ⟨kk+1,by omega,by omega,by have hb_:=HBG.out;first|rfl|exact nxt (by omega)|exact nxt2 (by omega),HB2,⟨fun j e hj he=>?_⟩⟩;by_cases q:j=kk
     ·
      subst q;rw[HX.out] at he;obtain rfl:=os' he;exact HQ.out
     ·
      exact AA.out j e (by omega) he
  ·
   have hltz:¬ (kk:Int) < (xs.length:Int):=by omega
   have:kk=xs.length:=by omega
   subst this;go_wp2;go_ret
   refine ⟨?_,BW.out⟩
   have hfi:¬ xs.findIdx p < xs.length:=by
    intro q;have h1:=List.findIdx_getElem (p:=p) (w:=q);have h2:=AA.out _ _ q (List.getElem?_eq_getElem q);rw[h1] at h2;cases h2
   unfold idxE
   rw[if_neg hfi];rfl
def BlkE (W:World) (g n:Nat):Prop:=∃ cells,W.heap[g]? = some (.cells cells 118 (0,0))∧n * 3≤cells.size
theorem BlkE.cell {W:World} {g n:Nat} (h:BlkE W g n) (o:Nat) (ho:o < n * 3):(∃ v,W.cell? ⟨g,o,none⟩=some v)∧W.frozen? ⟨g,o,none⟩=false:=by
 obtain ⟨cells,hb,hs⟩:=h
 have hlt:o < cells.size:=by omega
 refine ⟨⟨cells[o],?_⟩,?_⟩
 ·
  simp[World.cell?,hb,Array.getElem?_eq_getElem hlt]
 ·
  simp[World.frozen?,hb]
theorem BlkE.put {W:World} {g n:Nat} (h:BlkE W g n) (o:Nat) (v:Value):BlkE (W.setCell ⟨g,o,none⟩ v) g n:=by
 obtain ⟨cells,hb,hs⟩:=h
 exact ⟨cells.setIfInBounds o v,blk_put hb o v rfl,by simpa using hs⟩
theorem BlkE.kept {W W1:World} {g n:Nat} {O:Nat→Prop} (h:BlkE W g n) (hk:Kept W W1 O) (hg:¬ O g):BlkE W1 g n:=by
 obtain ⟨cells,hb,hs⟩:=h
 exact ⟨cells,blk_kept hb hk hg,hs⟩
theorem BlkE.below {W W1:World} {g n:Nat} (h:BlkE W g n) (hb':Below W.heap.size W W1):BlkE W1 g n:=by
 obtain ⟨cells,hb,hs⟩:=h
 exact ⟨cells,bb' hb hb',hs⟩
theorem put_same {W:World} {g n:Nat} (h:BlkE W g n) (o:Nat) (ho:o < n * 3) (v:Value):(W.setCell ⟨g,o,none⟩ v).cell? ⟨g,o,none⟩=some v:=by
 obtain ⟨cells,hb,hs⟩:=h
 have h2:=blk_put hb o v rfl
 have hlt:o < cells.size:=by omega
 simp[World.cell?,h2,hlt]
theorem put_other (W:World) (g o o2:Nat) (h:o2≠o) (v:Value):(W.setCell ⟨g,o,none⟩ v).cell? ⟨g,o2,none⟩=W.cell? ⟨g,o2,none⟩:=World.cell?_setCell_other _ _ _ _ (fun e=>h (by injection e with _ q _;exact q.symm))
theorem TC.put {W:World} {g:Nat} {rows:List RowE} (h:TC W g rows) {n:Nat} (hb:BlkE W g n) (i:Nat) (hi:i < n) (e:RowE):TC (((W.setCell ⟨g,i * 3,none⟩ (.int .i64 e.1)).setCell ⟨g,i * 3+1,none⟩ (.int .i64 e.2.1)).setCell ⟨g,i * 3+2,none⟩ e.2.2) g (rows.set i e):=by
 intro j x hj;rw[List.getElem?_set] at hj
 by_cases q:i=j
 ·
  subst q;rw[if_pos rfl] at hj;split at hj
  ·
   obtain rfl:=os' hj;refine ⟨?_,?_,?_⟩
   ·
    rw[put_other _ _ _ _ (by omega),put_other _ _ _ _ (by omega)];exact put_same hb _ (by omega) _
   ·
    rw[put_other _ _ _ _ (by omega)];exact put_same (hb.put _ _) _ (by omega) _
   ·
    exact put_same ((hb.put _ _).put _ _) _ (by omega) _
  ·
   cases hj
 ·
  rw[if_neg q] at hj;obtain ⟨h0,h1,h2⟩:=h j x hj;refine ⟨?_,?_,?_⟩ <;> rw [put_other _ _ _ _ (by omega),put_other _ _ _ _ (by omega),put_other _ _ _ _ (by omega)] <;> assumption
theorem zeroC (z:Array Value) (n:Nat) (v:Value) (h:v ∈ (Builtin.zeroCells z n).toList) (h1:∀ x ∈ z,x.oneCell'=true) (hz:0 < z.size):v.oneCell'=true:=by
 unfold Builtin.zeroCells at h
 simp only[Array.toList_map,List.mem_map] at h
 obtain ⟨i,_,rfl⟩:=h
 have hlt:i % z.size < z.size:=Nat.mod_lt _ hz
 rw[getElem!_pos z _ hlt]
 exact h1 _ (Array.getElem_mem hlt)
theorem run_clear3 (w:World) (t e ty:TypeId) (z:Value) (ht:Try.prog.underlying t=some (.slice e)) (hv:∀ w,(zeroValue e).run Try.prog w = .ok z w) (hz3:z.cells.size=3) (h1:∀ x ∈ z.cells,x.oneCell'=true) (b o n c:Nat) (hn:0 < n)
  (hc:∀ j,j < n * 3→(w.cell? ⟨b,o+j,none⟩).isSome=true) (hf:∀ j,j < n * 3→w.frozen? ⟨b,o+j,none⟩=false) :
  (Builtin.clear_ #[t] ty #[.slice (some ⟨b,o,none⟩) n c]).run Try.prog w = .ok (.tuple #[]) (w.setCells b o (Builtin.zeroCells z.cells n).toList):=by
 have hlen:(Builtin.zeroCells z.cells n).toList.length=n * 3:=by simp[Builtin.zeroCells,hz3]
 have hst:=run_storeCells_cells (P:=Try.prog) b o (Builtin.zeroCells z.cells n).toList 0 w (by rw[hlen];simpa using hc) (by rw[hlen];simpa using hf) (fun v hv'=>zeroC _ _ v hv' h1 (by omega))
 simp only[Nat.add_zero] at hst
 obtain ⟨m,rfl⟩:∃ m,n=m+1:=⟨n - 1,by omega⟩
 simp[Builtin.clear_,run_underlying ht,hv,hst]
theorem put3E {W:World} {g n:Nat} (h:BlkE W g n) (o:Nat) (ho:o+2 < n * 3) (v0 v1 v2:Value):(∃ u0 u1 u2,W.cell? ⟨g,o,none⟩=some u0∧W.frozen? ⟨g,o,none⟩=false∧(W.setCell ⟨g,o,none⟩ v0).cell? ⟨g,o+1,none⟩=some u1∧(W.setCell ⟨g,o,none⟩ v0).frozen? ⟨g,o+1,none⟩=false∧((W.setCell ⟨g,o,none⟩ v0).setCell ⟨g,o+1,none⟩ v1).cell? ⟨g,o+2,none⟩=some u2∧((W.setCell ⟨g,o,none⟩ v0).setCell ⟨g,o+1,none⟩ v1).frozen? ⟨g,o+2,none⟩=false) ∧
  ((((W.setCell ⟨g,o,none⟩ v0).setCell ⟨g,o+1,none⟩ v1).setCell ⟨g,o+2,none⟩ v2).cell? ⟨g,o,none⟩=some v0∧(((W.setCell ⟨g,o,none⟩ v0).setCell ⟨g,o+1,none⟩ v1).setCell ⟨g,o+2,none⟩ v2).cell? ⟨g,o+1,none⟩=some v1∧(((W.setCell ⟨g,o,none⟩ v0).setCell ⟨g,o+1,none⟩ v1).setCell ⟨g,o+2,none⟩ v2).cell? ⟨g,o+2,none⟩=some v2):=by
 obtain ⟨⟨u0,h0⟩,f0⟩:=h.cell o (by omega)
 obtain ⟨⟨u1,h1⟩,f1⟩:=(h.put o v0).cell (o+1) (by omega)
 obtain ⟨⟨u2,h2⟩,f2⟩:=((h.put o v0).put (o+1) v1).cell (o+2) (by omega)
 refine ⟨⟨u0,u1,u2,h0,f0,h1,f1,h2,f2⟩,?_,?_,?_⟩
 ·
  rw[put_other _ _ _ _ (by omega),put_other _ _ _ _ (by omega)];exact put_same h _ (by omega) _
 ·
  rw[put_other _ _ _ _ (by omega)];exact put_same (h.put _ _) _ (by omega) _
 ·
  exact put_same ((h.put _ _).put _ _) _ (by omega) _
theorem kept_setCells {w:World} {S:Nat→Prop} (b:Nat) (hS:S b):∀ (vs:List Value) (o:Nat) (W:World),Kept w W S→Kept w (W.setCells b o vs) S:=by
 intro vs;induction vs with
 | nil=>intro o W h;exact h
 | cons v r ih=>intro o W h;exact ih (o+1) _ (h.setCell (.inl hS) v)
theorem below_setB {B:Nat} {w W:World} (h:Below B w W) {p:Addr} (hp:B≤p.block) (v:Value):Below B w (W.setCell p v) :=
 ⟨h.os,h.tape,h.output,by rw[World.size_setCell];exact h.size,fun k hk=>(Below.heap_setCell _ _ _ _ (by omega)).trans (h.block k hk)⟩
theorem below_setCells {w:World} {B:Nat} (b:Nat) (hb:B≤b):∀ (vs:List Value) (o:Nat) (W:World),Below B w W→Below B w (W.setCells b o vs):=by
 intro vs;induction vs with
 | nil=>intro o W h;exact h
 | cons v r ih=>intro o W h;exact ih (o+1) _ (below_setB h hb v)
structure DelInv (p:RowE→Bool) (xs cur:List RowE) (i j:Nat):Prop where
 len:cur.length=xs.length
 lt:i < j
 le:j≤xs.length
 tk:cur.take i=(xs.take j).filter (fun x => !(p x))
 dr:cur.drop j=xs.drop j
theorem DelInv.start {p:RowE→Bool} {xs:List RowE} {i0:Nat} (h:i0=xs.findIdx p) (hf:i0 < xs.length):DelInv p xs xs i0 (i0+1):=by
 have hq:=(List.findIdx_eq hf).1 h.symm
 have h1:(xs.take i0).filter (fun x => !(p x))=xs.take i0:=by
  rw[List.filter_eq_self];intro x hx;obtain ⟨n,hn,rfl⟩:=List.mem_iff_getElem.1 hx;rw[List.getElem_take];rw[List.length_take] at hn;rw[hq.2 n (by omega)];rfl
 refine ⟨rfl,Nat.lt_succ_self _,hf,?_,rfl⟩
 rw[List.take_add_one,List.filter_append,h1,List.getElem?_eq_getElem hf]
 simp[hq.1]
theorem DelInv.at {p:RowE→Bool} {xs cur:List RowE} {i j:Nat} (h:DelInv p xs cur i j) {x:RowE} (hx:xs[j]? = some x):cur[j]? = some x:=by
 have h1:(cur.drop j)[0]? = (xs.drop j)[0]? := by rw[h.dr]
 rw[List.getElem?_drop,List.getElem?_drop,Nat.add_zero] at h1
 rw[h1,hx]
theorem drop_succ_eq {α:Type} {a b:List α} {j:Nat} (h:a.drop j=b.drop j):a.drop (j+1)=b.drop (j+1):=by
 have:=congrArg (List.drop 1) h
 rwa [List.drop_drop,List.drop_drop] at this
theorem DelInv.skip {p:RowE→Bool} {xs cur:List RowE} {i j:Nat} (h:DelInv p xs cur i j) {x:RowE} (hx:xs[j]? = some x) (hp:p x=true):DelInv p xs cur i (j+1):=by
 have hj:=(List.getElem?_eq_some_iff.1 hx).1
 refine ⟨h.len,by have:=h.lt;omega,hj,?_,drop_succ_eq h.dr⟩
 rw[List.take_add_one,List.filter_append,hx,← h.tk]
 simp[hp]
theorem DelInv.keep {p:RowE→Bool} {xs cur:List RowE} {i j:Nat} (h:DelInv p xs cur i j) {x:RowE} (hx:xs[j]? = some x) (hp:p x=false):DelInv p xs (cur.set i x) (i+1) (j+1):=by
 have hj:=(List.getElem?_eq_some_iff.1 hx).1
 have hl:=h.len
 have hlt:=h.lt
 refine ⟨by simpa using h.len,by omega,hj,?_,?_⟩
 ·
  rw[List.take_add_one,List.take_set_of_le (Nat.le_refl i),List.getElem?_set_self (by omega),h.tk,List.take_add_one,List.filter_append,hx];simp[hp]
 ·
  rw[List.drop_set_of_lt (by omega)];exact drop_succ_eq h.dr
theorem DelInv.done {p:RowE→Bool} {xs cur:List RowE} {i:Nat} (h:DelInv p xs cur i xs.length):cur.take i=xs.filter (fun x => !(p x))∧i=(xs.filter (fun x => !(p x))).length:=by
 have h1:=h.tk
 rw[List.take_length] at h1
 refine ⟨h1,?_⟩
 rw[← h1,List.length_take]
 have:=h.len
 have:=h.lt
 omega
set_option maxHeartbeats 4000000 in
set_option maxRecDepth 100000 in
theorem DeleteE_any (B:Nat) (g:Nat) (lb:Array Value) (p:RowE→Bool) (eg:∀ args w,(callFunc g args).run Try.prog w = .ok (.enter g args) w) (gb:Nat) (A0:Option Addr) (c0:Nat) (xs:List RowE) (w:World) (hA:0 < xs.length→A0=some ⟨gb,0,none⟩) (hr:TC w gb xs) (hk:0 < xs.length→BlkE w gb xs.length) (hl:xs.length≤c0) (hbig:xs.length≤1048576)
  (hsl:∀ x ∈ xs,∃ A n c,x.2.2 = .slice A n c) (hp:PredE g lb p xs w (fun k=>k=gb)) (hBg:B≤gb) (hBw:B≤w.heap.size) :
  Calls Try.prog 125 #[.slice A0 xs.length c0, .func (.func g) #[] lb] w fun e w'=>e = .returned (.slice A0 (xs.filter (fun x => !(p x))).length c0)∧TC w' gb (xs.filter (fun x => !(p x)))∧Kept w w' (fun k=>k=gb)∧Below B w w':=by
 have HBG':=am' hBg
 have HBW':=am' hBw
 clear hBg hBw;have hue:=Try.underlying118
 have hus:=Try.underlying116
 have HI:=am' (IndexE_any g lb p eg gb A0 c0 xs w _ hA hr hl hbig hp)
 have HP:=am' hp
 have HSL:=am' hsl
 clear hsl;have HR:=am' hr
 have HK:=am' hk
 have HBG:=am' hbig
 have HLC:=am' hl
 clear hp hr hk hl hbig;go_enter Try.func125,Try.ntmps125
 go_wp2_with fail
 go_at_call 127
 refine HI.out.mono ?_
 rintro e w1 ⟨rfl,hb1⟩
 have HB1:=am' hb1
 clear HI hb1;unfold idxE
 by_cases hf:xs.findIdx p < xs.length
 ·
  rw[if_pos hf];obtain rfl:=hA (by omega);obtain ⟨i0,hi0⟩:∃ i0,i0=xs.findIdx p:=⟨_,rfl⟩
  have HI0:=am' hi0;rw[← hi0] at hf ⊢;clear hi0;have hne:((i0:Int) == -1)=false:=beq_eq_false_iff_ne.2 (by omega);go_wp2_with fail;go_loopg [5,6,7] xs.length (fun gg v5 v6 _ wr=>∃ (i j:Nat) (cur:List RowE),v5 = .int .i64 (i:Int)∧v6 = .int .i64 (j:Int)∧Aside0 (xs.length - j≤gg)∧Aside0 (DelInv p xs cur i j)∧Aside0 (TC wr gb cur)∧Aside0 (BlkE wr gb xs.length)∧Aside0 (Kept w wr (fun k=>k=gb))∧Aside0 (w.heap.size≤wr.heap.size)∧Aside0 (Below B w wr))
  case atStart=>exact ⟨i0,i0+1,xs,rfl,by have hb_:=HBG.out;first|rfl|exact nxt (by omega)|exact nxt2 (by omega),⟨by omega⟩,⟨DelInv.start HI0.out hf⟩,⟨TC.cell HR.out HB1.out⟩,⟨(HK.out (by omega)).below HB1.out⟩,⟨Kept.of_below HB1.out _⟩,⟨HB1.out.size⟩,⟨HB1.out.mono HBW'.out⟩⟩
  case round =>
   obtain ⟨i,j,cur,rfl,rfl,HG,HD,HT,HBK,HKP,HSZ,HBB⟩:=hrel;clear HB1 HI0 hf hne;by_cases hj:j < xs.length
   ·
    have hjz:(j:Int) < (xs.length:Int):=by omega
    obtain ⟨x,hx⟩:∃ x,xs[j]? = some x:=⟨_,List.getElem?_eq_getElem hj⟩
    have HX:=am' hx;obtain ⟨hx0,hx1,hx2⟩:=HT.out j x (HD.out.at hx);have HJ:=am' hj;clear hx hj;obtain ⟨Ab,nb,cb,hv⟩:=HSL.out x (List.mem_of_getElem? HX.out);obtain ⟨x0,x1,xv⟩:=x;dsimp only at hv hx0 hx1 hx2
    subst hv;have HBX:=am' (heap_alloc_new wr (.cells #[.int .i64 x0, .int .i64 x1, .slice Ab nb cb] 118));have HBA:=am' (ba' (Below.refl wr.heap.size wr) (.cells #[.int .i64 x0, .int .i64 x1, .slice Ab nb cb] 118));have hcall:=HP.out (x0,x1, .slice Ab nb cb) (List.mem_of_getElem? HX.out) (wr.alloc (.cells #[.int .i64 x0, .int .i64 x1, .slice Ab nb cb] 118)) (HKP.out.alloc _);unfold aggE at hcall
    have HBK1:=am' (HBK.out.below HBA.out);have HT1:=am' (HT.out.cell HBA.out);clear hx0 hx1 hx2;cases hq:p (x0,x1, .slice Ab nb cb) with
    | true =>
     have HQ:=am' hq;rw[hq] at hcall;clear hq;have hx0:=(HT.out.cell (Below.refl _ _) j _ (HD.out.at HX.out)).1;have hx1:=(HT.out.cell (Below.refl _ _) j _ (HD.out.at HX.out)).2.1;have hx2:=(HT.out.cell (Below.refl _ _) j _ (HD.out.at HX.out)).2.2;dsimp only at hx0 hx1 hx2
     go_wp2_with fail;refine hcall.mono ?_
     rintro e w2 ⟨rfl,hb2⟩
     have HB2:=am' hb2;clear hcall hx0 hx1 hx2 hb2;go_wp2;go_roundg (xs.length - (j+1))
     case measure=>have h1:=HG.out;have h2:=HJ.out;omega
     case rel=>exact ⟨i,j+1,cur,rfl,by have hb_:=HBG.out;have h2:=HJ.out;first|rfl|exact nxt (by omega)|exact nxt2 (by omega),⟨Nat.le_refl _⟩,⟨HD.out.skip HX.out HQ.out⟩,⟨HT1.out.cell HB2.out⟩,⟨HBK1.out.below HB2.out⟩,⟨(HKP.out.alloc _).below HB2.out⟩,⟨by have h1:=HSZ.out;have h2:=HBA.out.size;have h3:=HB2.out.size;omega⟩,⟨(HBB.out.trans (HBA.out.mono (by have h1:=HSZ.out;have h2:=HBW'.out;omega))).trans (HB2.out.mono (by have h1:=HSZ.out;have h2:=HBW'.out;have h3:=HBA.out.size;omega))⟩⟩
    | false =>
     have HQ:=am' hq;rw[hq] at hcall;clear hq;have hx0:=(HT.out.cell (Below.refl _ _) j _ (HD.out.at HX.out)).1;have hx1:=(HT.out.cell (Below.refl _ _) j _ (HD.out.at HX.out)).2.1;have hx2:=(HT.out.cell (Below.refl _ _) j _ (HD.out.at HX.out)).2.2;dsimp only at hx0 hx1 hx2
     go_wp2_with fail;refine hcall.mono ?_
     rintro e w2 ⟨rfl,hb2⟩
     have HB2:=am' hb2;have y0:w2.cell? ⟨wr.heap.size,0,none⟩=some (.int .i64 x0):=(bc' (bb' HBX.out hb2) 0).trans rfl;have y1:w2.cell? ⟨wr.heap.size,1,none⟩=some (.int .i64 x1):=(bc' (bb' HBX.out hb2) 1).trans rfl;have y2:w2.cell? ⟨wr.heap.size,2,none⟩=some (.slice Ab nb cb):=(bc' (bb' HBX.out hb2) 2).trans rfl;have HBK2:=am' (HBK1.out.below HB2.out);have hil:i < xs.length:=by have h1:=HD.out.lt;have h2:=HJ.out;omega
     have HIL:=am' hil;have hilz:(i:Int) < (xs.length:Int):=by omega
     obtain ⟨⟨u0,u1,u2,q0,f0,q1,f1,q2,f2⟩,_⟩:=put3E HBK2.out (i * 3) (by omega) (.int .i64 x0) (.int .i64 x1) (.slice Ab nb cb);clear hcall hx0 hx1 hx2 hb2 hil;go_wp2_with fail;go_roundg (xs.length - (j+1))
     case measure=>have h1:=HG.out;have h2:=HJ.out;omega
     case rel =>
      have HTP:=HT1.out.cell HB2.out;exact ⟨i+1,j+1,cur.set i (x0,x1, .slice Ab nb cb),by have hb_:=HBG.out;have h2:=HIL.out;first|rfl|exact nxt (by omega)|exact nxt2 (by omega),by have hb_:=HBG.out;have h2:=HJ.out;first|rfl|exact nxt (by omega)|exact nxt2 (by omega),⟨Nat.le_refl _⟩,⟨HD.out.keep HX.out HQ.out⟩,⟨HTP.put HBK2.out i HIL.out (x0,x1, .slice Ab nb cb)⟩,⟨((HBK2.out.put _ _).put _ _).put _ _⟩,⟨((((HKP.out.alloc _).below HB2.out).setCell (.inl rfl) _).setCell (.inl rfl) _).setCell (.inl rfl) _⟩,⟨by have h1:=HSZ.out;have h2:=HBA.out.size;have h3:=HB2.out.size;simp only[World.size_setCell];omega⟩,⟨below_setB (below_setB (below_setB ((HBB.out.trans (HBA.out.mono (by have h1:=HSZ.out;have h2:=HBW'.out;omega))).trans (HB2.out.mono (by have h1:=HSZ.out;have h2:=HBW'.out;have h3:=HBA.out.size;omega))) HBG'.out _) HBG'.out _) HBG'.out _⟩⟩
   ·
    have hjz:¬ (j:Int) < (xs.length:Int):=by omega
    have hje:j=xs.length:=by have:=HD.out.le;omega
    subst hje;obtain ⟨hd1,hd2⟩:=HD.out.done;have hil:=HD.out.lt;have HD1:=am' hd1;have HD2:=am' hd2;have hlc:=HLC.out;have hic:(i:Int)≤(xs.length:Int):=by omega
    have hic0:(i:Int)≤(c0:Int):=by omega
    have hcl:∀ ty,(Builtin.clear_ #[116] ty #[.slice (some ⟨gb,i * 3,none⟩) (xs.length - i) (c0 - i)]).run Try.prog wr = .ok (.tuple #[]) (wr.setCells gb (i * 3) (Builtin.zeroCells (Value.agg #[.int .i64 0, .int .i64 0, .slice none 0 0]).cells (xs.length - i)).toList) :=
     fun ty=>run_clear3 wr _ _ ty (.agg #[.int .i64 0, .int .i64 0, .slice none 0 0]) hus (fun W=>by kernel_rfl) (by decide) (by decide) gb (i * 3) _ _ (by omega) (fun k hk=>by obtain ⟨⟨v,hv⟩,_⟩:=HBK.out.cell (i * 3+k) (by omega);rw[hv];rfl) (fun k hk=>(HBK.out.cell (i * 3+k) (by omega)).2)
    clear hd1 hd2;go_wp2;go_ret
    refine ⟨?_,?_,kept_setCells (S:=fun k=>k=gb) gb rfl _ _ _ HKP.out,below_setCells gb HBG'.out _ _ _ HBB.out⟩
    ·
     have hq:=HD2.out;generalize (xs.filter (fun x => !(p x))).length=q at hq ⊢;subst hq;rfl
    ·
     intro k e he;rw[← HD1.out,List.getElem?_take] at he;split at he
     ·
      rename_i hk
      obtain ⟨h0,h1,h2⟩:=HT.out k e he;refine ⟨?_,?_,?_⟩
      ·
       rw[World.cell?_setCells_out _ _ _ _ _ (fun _ _ => .inl (by dsimp only;omega))];exact h0
      ·
       rw[World.cell?_setCells_out _ _ _ _ _ (fun _ _ => .inl (by dsimp only;omega))];exact h1
      ·
       rw[World.cell?_setCells_out _ _ _ _ _ (fun _ _ => .inl (by dsimp only;omega))];exact h2
     ·
      cases he
 ·
  rw[if_neg hf];go_wp2;go_ret
  have hall:xs.filter (fun x => !(p x))=xs:=by
   rw[List.filter_eq_self];intro x hx;have h1:¬ ∃ y ∈ xs,p y=true:=fun q=>hf (List.findIdx_lt_length.2 q)
   cases hq:p x with
   | true=>exact absurd ⟨x,hx,hq⟩ h1
   | false=>rfl
  rw[hall];exact ⟨rfl,TC.cell HR.out HB1.out,Kept.of_below HB1.out _,HB1.out.mono HBW'.out⟩
end Go.Proofs.Ytikjdmiohpdnaaa.C20
