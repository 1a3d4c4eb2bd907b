import Derived.Test.YtikjdmiohpdnaaaC16zx0
import Derived.Test.YtikjdmiohpdnaaaC16zx10
import Derived.Test.YtikjdmiohpdnaaaC16zx11
import Derived.Test.YtikjdmiohpdnaaaC16zx12
import Derived.Test.YtikjdmiohpdnaaaC16zx13
import Derived.Test.YtikjdmiohpdnaaaC16zAl
namespace Go.Proofs.Ytikjdmiohpdnaaa.C16
open Go.RowKit Go.Proofs.YtikjdmiohpdnaaaW.PrintWords Go.Proofs.YtikjdmiohpdnaaaW.PrintLast Go.Proofs.YtikjdmiohpdnaaaW.PrintMore Go.Proofs.Ytikjdmiohpdnaaa.H
attribute [local go_sem] max2_int min2_int max_two min_two max_three min_three max_four min_four
set_option linter.unusedVariables false
set_option linter.unusedSimpArgs false
theorem nx {k:Nat} (h:k < 9223372036854775807):Value.int .i64 (wrap64 ((k:Int)+1))=Value.int .i64 ((k+1:Nat):Int):=by rw[wr_id (by omega) (by omega)];rfl
theorem nx2 {k:Nat} (h:k < 9223372036854775807):Value.int .i64 (IntKind.i64.wrap ((k:Int)+1))=Value.int .i64 ((k+1:Nat):Int):=by rw[i64_w];exact nx h
theorem R_empty {α:Type} (d:Kd α) {e base b:Nat} {W:World} (h:W.heap[b]? = some (.cells #[] e (0,0))) (hB:base≤b):d.R e W base (fun _=>True) (.slice (some ⟨b,0,none⟩) 0 0) [] :=
 ⟨fun _ _=>trivial,[],⟨by simp, .inr ⟨b,0,#[],rfl,hB,h,Nat.le_refl _,by decide,by simp,by simp⟩⟩,Reps.none _ _⟩
theorem row_at {e et base n cap:Nat} {W:World} {ok:Nat→Prop} {f:Nat→Nat} {A:Option Addr} {gs:List (List Int)} (h:(Kd.tag f (Kd.slice e (Kd.int .i64))).R et W base ok (.slice A n cap) gs.zipIdx) (i:Nat) (l:List Int) (hl:gs[i]? = some l) (hn:n=gs.length) :
  ∃ g Ai ci,A=some ⟨g,0,none⟩∧W.cell? ⟨g,i,none⟩=some (.slice Ai l.length ci)∧g < W.heap.size∧base≤g∧(Kd.int .i64).R e W base (fun k=>f k=i∧base≤k∧k < W.heap.size) (.slice Ai l.length ci) l:=by
 obtain ⟨hi,hx⟩:=List.getElem?_eq_some_iff.1 hl
 have hz:gs.zipIdx.length=gs.length:=List.length_zipIdx
 obtain ⟨g,cap',hv,hb1,hb2,_⟩:=Kd.R_form h (by omega)
 obtain ⟨rfl,_,_⟩:=Value.slice.inj hv
 obtain ⟨c,hcl,hM,hcc⟩:=Kd.R_getA h ([],0) (i:Int) (by omega) (by omega)
 rw[Int.toNat_natCast] at hM hcc
 have hq:gs.zipIdx.getD i ([],0)=(l,i):=by
  rw[List.getD_eq_getElem?_getD,Kd.zip_at hl];rfl
 rw[hq] at hM
 obtain ⟨u,rfl,hu⟩:=hM
 obtain ⟨Ai,ci,rfl⟩:=Kd.R_slice hu
 refine ⟨g,Ai,ci,rfl,?_,hb2,hb1,Kd.R_mono (Kd.R_bound hu) (fun k hk=>⟨hk.1.2,hk.2.1,hk.2.2.1⟩)⟩
 have h1:=hcc 0 _ rfl
 have h2:(Addr.add ⟨g,0,none⟩ (i * (Kd.tag f (Kd.slice e (Kd.int .i64))).sz+0))=⟨g,i,none⟩:=by
  have h3:(Kd.tag f (Kd.slice e (Kd.int .i64))).sz=1:=rfl;rw[h3,Nat.mul_one,Nat.add_zero];rw[add_at,Nat.zero_add]
 rw[h2] at h1
 exact h1
theorem M_edgeC {W:World} {B:Nat} {okp:Nat→Prop} {x c:Int} {v:Value} {l:List Int} (h:(Kd.int .i64).R 3 W B okp v l):EdgK.M W B okp (x,c,l) [.int .i64 x, .int .i64 c,v]:=⟨[.int .i64 x],_,rfl,rfl,[.int .i64 c],_,rfl,rfl,v,rfl,h⟩
def crewCost (k:Nat) (loaded:Bool) (l0:List Int) (l1:List Bool) (m:Int) (l:List Int):Option Int:=if loaded=true then impl_Crew_load.f k l0 l1 m l else some 1
def crewStep (k:Nat) (loaded:Bool) (l0:List Int) (l1:List Bool) (m:Int) (ov:List Bool) (tr:Bool) (s:List Edg) (l:List Int):Option (List Edg) :=
 (crewCost k loaded l0 l1 m l).bind fun c=>(impl_State_moved.f k ov tr l).bind fun mm=>(impl_State_code.f k mm.1 mm.2).bind fun cd=>some (s ++ [(cd,c,l)])
def crewOut (k:Nat) (loaded:Bool) (l0:List Int) (l1:List Bool) (m:Int) (code:Int):Option (List Edg) :=
 (impl_stateOf.f k (l0.length:Int) code).bind fun st=>(impl_Crew_rides.f k l0 l1 m st.1 st.2).bind fun gs=>if gs.length≤1048576 then gs.foldlM (crewStep k loaded l0 l1 m st.1 st.2) [] else none
set_option maxHeartbeats 8000000 in
set_option maxRecDepth 100000 in
theorem crew_out (k:Nat) (loaded:Bool) (A0:Option Addr) (c0:Nat) (l0:List Int) (A1:Option Addr) (c1:Nat) (l1:List Bool) (m:Int) (pn pc pt:Nat) (W0:World) (hbn:W0.heap[pn]? = some (.cells #[.int .i64 (l0.length:Int)] 3 (0,0))) (hbc:W0.heap[pc]? = some (.cells #[.slice A0 l0.length c0, .slice A1 l1.length c1, .int .i64 m] 29 (0,0))) (hbt:W0.heap[pt]? = some (.cells #[.bool loaded] 4 (0,0))) (hr0:Kd.C (Kd.int .i64) W0 A0 l0.length l0) (hc0:l0.length≤c0) (hr1:Kd.C Kd.bool W0 A1 l1.length l1) (hc1:l1.length≤c1):OutOk 108 #[.pointer (some ⟨pn,0,none⟩), .pointer (some ⟨pc,0,none⟩), .pointer (some ⟨pt,0,none⟩)] (crewOut k loaded l0 l1 m) W0:=by
 intro W hW code es hs;have hu0:=Try.underlying29
 have hu1:=Try.underlying38
 have hue:=Try.underlying118
 have hinfoE:=am' (show (Try.prog.info? 118).map (fun i=>(i.zero,i.size,i.bytes))=some (some (.agg #[.int .i64 0, .int .i64 0, .slice none 0 0]),3,40) by kernel_rfl)
 unfold crewOut at hs
 obtain ⟨⟨ov,tr⟩,hst,hs⟩:=Option.bind_eq_some_iff.mp hs
 obtain ⟨gs,hgs,hs⟩:=Option.bind_eq_some_iff.mp hs
 dsimp only at hgs hs
 by_cases hlen:gs.length≤1048576
 ·
  rw[if_pos hlen] at hs;have HLEN:=am' hlen;have HFO:=am' hs;have HST:=am' (impl_stateOf.calls k (l0.length:Int) code ov tr W hst);have HK0:=am' (fun (W1:World) (hb:Below W.heap.size W W1)=>Kd.C_below (Kd.C_below hr0 hW) hb);have HK1:=am' (fun (W1:World) (hb:Below W.heap.size W W1)=>Kd.C_below (Kd.C_below hr1 hW) hb);have HRD:=am' (fun (W1:World) (hb:Below W.heap.size W W1) (A2:Option Addr) (c2:Nat) (hC:Kd.C Kd.bool W1 A2 ov.length ov) (hl:ov.length≤c2)=>impl_Crew_rides.calls k A0 c0 l0 A1 c1 l1 m A2 c2 ov tr gs W1 (HK0.out W1 hb) hc0 (HK1.out W1 hb) hc1 hC hl hgs);have HLD:=am' (fun (W1:World) (hb:Below W.heap.size W W1) (A2:Option Addr) (c2:Nat) (l:List Int) (r:Int) (hC:Kd.C (Kd.int .i64) W1 A2 l.length l) (hl:l.length≤c2) (h:impl_Crew_load.f k l0 l1 m l=some r)=>impl_Crew_load.calls k A0 c0 l0 A1 c1 l1 m A2 c2 l r W1 (HK0.out W1 hb) hc0 (HK1.out W1 hb) hc1 hC hl h);have BN:=am' (blk_below hbn hW);have BC:=am' (blk_below hbc hW);have BT:=am' (blk_below hbt hW);have xn:W.cell? ⟨pn,0,none⟩=some (.int .i64 (l0.length:Int)):=(blk_cell BN.out 0).trans rfl;clear hbn hbc hbt hW hr0 hr1 hst hgs hs hlen;go_enter Try.func108,Try.ntmps108;go_wp2_with fail;refine HST.out.mono ?_
  rintro e w1 ⟨v1,rfl,ho1,hb1⟩
  obtain ⟨A2,c2,rfl,hc2,hC2⟩:=Kd.R_reads ho1;have HB1:=am' hb1;have HF2:=am' (Kd.R_F (Kd.R_bound ho1));have HL2:=am' hc2;have HB2:=am' (two_blocks w1 (.cells #[] 118) (.cells #[.slice A2 ov.length c2, .bool tr] 38));have HW2:=am' (below_step hb1 HB2.out.2.2);have HC2:=am' (Kd.C_below hC2 HB2.out.2.2);have xc0:((w1.alloc (.cells #[] 118)).alloc (.cells #[.slice A2 ov.length c2, .bool tr] 38)).cell? ⟨pc,0,none⟩=some (.slice A0 l0.length c0):=(blk_cell (blk_below BC.out HW2.out) 0).trans rfl;have xc1:((w1.alloc (.cells #[] 118)).alloc (.cells #[.slice A2 ov.length c2, .bool tr] 38)).cell? ⟨pc,1,none⟩=some (.slice A1 l1.length c1):=(blk_cell (blk_below BC.out HW2.out) 1).trans rfl;have xc2:((w1.alloc (.cells #[] 118)).alloc (.cells #[.slice A2 ov.length c2, .bool tr] 38)).cell? ⟨pc,2,none⟩=some (.int .i64 m):=(blk_cell (blk_below BC.out HW2.out) 2).trans rfl;have xs0:((w1.alloc (.cells #[] 118)).alloc (.cells #[.slice A2 ov.length c2, .bool tr] 38)).cell? ⟨w1.heap.size+1,0,none⟩=some (.slice A2 ov.length c2):=(blk_cell HB2.out.2.1 0).trans rfl;have xs1:((w1.alloc (.cells #[] 118)).alloc (.cells #[.slice A2 ov.length c2, .bool tr] 38)).cell? ⟨w1.heap.size+1,1,none⟩=some (.bool tr):=(blk_cell HB2.out.2.1 1).trans rfl;clear xn ho1 hb1 hC2 hc2;go_wp2_with fail;generalize (w1.alloc (.cells #[] 118)).alloc (.cells #[.slice A2 ov.length c2, .bool tr] 38)=W2 at HB2 HW2 HC2 xc0 xc1 xc2 xs0 xs1 ⊢
  refine (HRD.out W2 HW2.out A2 c2 HC2.out HL2.out).mono ?_
  rintro e w3 ⟨v3,rfl,ho3,hb3⟩
  obtain ⟨f,hf⟩:=ho3;obtain ⟨A3,c3,hv3⟩:=Kd.R_slice hf;rw[List.length_zipIdx] at hv3;subst hv3;have HF:=am' hf;have HW3:=am' (below_step HW2.out hb3);have HSZ:=am' (show w1.heap.size+2≤W2.heap.size∧W2.heap.size≤w3.heap.size∧W.heap.size≤w1.heap.size from ⟨by have:=blk_lt HB2.out.2.1;omega,hb3.size,HB1.out.size⟩);have HE0:=am' (blk_below HB2.out.1 hb3);have HS0:=am' (blk_below HB2.out.2.1 hb3);have HF2:=am' (Kd.F_below HF2.out (below_step HB2.out.2.2 hb3));have HLEN2:=am' (show ((gs.length:Nat):Int)≤1048576 by have:=HLEN.out;omega);clear hf hb3 xc0 xc1 xc2 xs0 xs1;go_wp2_with fail;go_loopg [7,9,10,19] gs.length (fun gg v7 v9 v10 v19 wr=>∃ (acc:List Edg) (Ao:Option Addr) (co:Nat),v7 = .slice Ao acc.length co∧v19 = .int .i64 (acc.length:Int)∧Aside0 (acc.length≤gs.length)∧Aside0 (gs.length - acc.length≤gg)∧Aside0 ((gs.drop acc.length).foldlM (crewStep k loaded l0 l1 m ov tr) acc=some es)∧Aside0 ((Kd.tag f EdgK).R 118 wr W.heap.size (fun _=>True) (.slice Ao acc.length co) acc.zipIdx)∧Aside0 (∀ k,(Value.slice Ao acc.length co).ownBlock=some k→k=w1.heap.size∨w3.heap.size≤k)∧Aside0 (Kept w3 wr (fun k=>k=w1.heap.size))∧Aside0 (Below W.heap.size W wr))
  case atStart=>exact ⟨[],_,_,rfl,rfl,⟨Nat.zero_le _⟩,⟨Nat.le_refl _⟩,HFO,⟨R_empty _ HE0.out HB1.out.size⟩,⟨fun k hk => .inl (Option.some.inj (show some _=some _ from hk)).symm⟩,⟨Kept.refl _ _⟩,HW3⟩
  case round =>
   obtain ⟨acc,Ao,co,rfl,rfl,HX,HGG,HE,HSA,HOW,HKP,HWR⟩:=hrel;by_cases hj:acc.length < gs.length
   ·
    have hjz:((acc.length:Nat):Int) < ((gs.length:Nat):Int):=by omega
    have hjd:=decide_eq_true hjz;have HJ:=am' hj;obtain ⟨l,hl⟩:∃ x,x=gs[acc.length]:=⟨_,rfl⟩
    have hE:=HE.out;rw[List.drop_eq_getElem_cons hj,← hl,List.foldlM_cons] at hE;obtain ⟨acc2,hE1,hE2⟩:=Option.bind_eq_some_iff.mp hE;unfold crewStep at hE1
    obtain ⟨c,hcost,hE1⟩:=Option.bind_eq_some_iff.mp hE1;obtain ⟨⟨mo,mt⟩,hmv,hE1⟩:=Option.bind_eq_some_iff.mp hE1;obtain ⟨cd,hcd,hE1⟩:=Option.bind_eq_some_iff.mp hE1;dsimp only at hmv hcd
    obtain rfl:=Option.some.inj hE1;have HE2:=am' hE2;obtain ⟨g,Ai,ci,hA3,hxl,hgl,hgb,hrow⟩:=row_at HF.out acc.length l (by rw[List.getElem?_eq_getElem hj,hl]) rfl;have xl:=cell_kept hxl HKP.out (fun q=>by dsimp only at q;have:=HSZ.out;omega);have HRW:=am' (Kd.R_lower (Kd.R_kept hrow HKP.out (fun k hk q=>by have h1:=hk.2.1;have h2:=HSZ.out;omega)) (show W.heap.size≤W2.heap.size by have:=HSZ.out;omega));obtain ⟨_,hci,hCl⟩:=Kd.R_reads' HRW.out;have HCL:=am' hCl;have HCI:=am' hci;have HS2:=am' (blk_kept HS0.out HKP.out (fun q=>by omega));have HC3:=am' (Kd.F_now (Kd.F_kept HF2.out HKP.out (fun k hk q=>by have h1:=hk.2.2.1;omega)));have HM:=am' (fun (W1:World) (hb:Below wr.heap.size wr W1)=>impl_State_moved.calls k A2 c2 ov tr Ai ci l mo mt W1 (Kd.C_below HC3.out hb) HL2.out (Kd.C_below HCL.out hb) HCI.out hmv);have HC:=am' (fun (W1:World) (A3:Option Addr) (c3:Nat) (hc:Kd.C Kd.bool W1 A3 mo.length mo) (hl:mo.length≤c3)=>impl_State_code.calls k A3 c3 mo mt cd W1 hc hl hcd);have HCO:=am' hcost;have xt:wr.cell? ⟨pt,0,none⟩=some (.bool loaded):=(blk_cell (blk_below BT.out HWR.out) 0).trans rfl;have xs0:wr.cell? ⟨w1.heap.size+1,0,none⟩=some (.slice A2 ov.length c2):=(blk_cell HS2.out 0).trans rfl;have xs1:wr.cell? ⟨w1.heap.size+1,1,none⟩=some (.bool tr):=(blk_cell HS2.out 1).trans rfl;have xc0:wr.cell? ⟨pc,0,none⟩=some (.slice A0 l0.length c0):=(blk_cell (blk_below BC.out HWR.out) 0).trans rfl;have xc1:wr.cell? ⟨pc,1,none⟩=some (.slice A1 l1.length c1):=(blk_cell (blk_below BC.out HWR.out) 1).trans rfl;have xc2:wr.cell? ⟨pc,2,none⟩=some (.int .i64 m):=(blk_cell (blk_below BC.out HWR.out) 2).trans rfl;subst hA3;clear hj hE hE1 hE2 hcost hmv hcd hxl hgl hgb hrow hci hCl hl HE HX;cases loaded with
    | false =>
     have hc1:(1:Int)=c:=by have h1:=HCO.out;unfold crewCost at h1;rw[if_neg (by decide)] at h1;exact Option.some.inj h1
     subst hc1;have HWW:=am' (Below.refl wr.heap.size wr);go_wp2_with fail;refine (HM.out wr HWW.out).mono ?_
     rintro e w5 ⟨v5,rfl,ho5,hb5⟩
     obtain ⟨A5,c5,rfl,hc5,hC5⟩:=Kd.R_reads ho5;have HW5:=am' (below_step HWW.out hb5);have HL5:=am' hc5;have HC5:=am' hC5;clear ho5 hb5 hc5 hC5;go_wp2_with fail;refine (HC.out w5 A5 c5 HC5.out HL5.out).mono ?_
     rintro e w6 ⟨rfl,hb6⟩
     have HW6:=am' (below_step HW5.out hb6);clear hb6;go_wp2_with ((with_reducible refine gate_builtin (b := .append) (xs:=#[.tmp 27, .tmp 35]) rfl ?_);at_builtin;refine Kd.R_append (Kd.tag f EdgK) (w0:=W) W.heap.size rfl (.tmp 27) (.tmp 35) 116 118 (.agg #[.int .i64 0, .int .i64 0, .slice none 0 0]) 40 rfl Try.underlying116 hinfoE.out rfl (show 0 < EdgK.sz by decide) (by omega) (.slice Ao acc.length co) acc.zipIdx ((cd,1,l),acc.length) [.int .i64 cd, .int .i64 1, .slice Ai l.length ci] (fun _=>True) (fun k=>f k=acc.length∧W2.heap.size≤k∧k < w3.heap.size) rfl (by first|rfl|(rw[World.size_alloc];rfl)) ?aP ?aK (fun _ _=>trivial) ?aO ?aB ?aS ?aL ?_;(case aP=>exact M_edgeC (Kd.R_mono (Kd.R_below HRW.out HW6.out) (fun k hk=>⟨hk,hk.1⟩)));(case aK=>exact fun k hk=>⟨trivial,fun q=>by have h1:=HOW.out k q.symm;have h2:=hk.2;have h3:=HSZ.out;omega⟩);(case aO=>exact Kd.R_below HSA.out HW6.out);(case aB=>exact below_step HWR.out HW6.out);(case aS=>exact Nat.le_trans HWR.out.size HW6.out.size);(case aL=>have h1:=HJ.out;have h2:=HLEN.out;rw[List.length_zipIdx];omega);intro v1 w7 ho hb hg hat;rw[← Kd.zip_snoc] at ho;obtain ⟨A7,c7,e7⟩:=Kd.R_slice ho;rw[List.length_zipIdx] at e7;subst e7;have HO7:=am' ho;have HB7:=am' hb;have HK7:=am' (Kept.of_grown hg (Kept.below HKP.out HW6.out) (fun k hk=>HOW.out k hk));have HOW7:=am' (show ∀ k,(Value.slice A7 (acc ++ [(cd,1,l)]).length c7).ownBlock=some k→k=w1.heap.size∨w3.heap.size≤k from fun k hk=>by rcases hat with q|⟨b,q,hbb⟩;exact HOW.out k (q.symm.trans hk);have q2:=Option.some.inj (q.symm.trans hk);have h3:=HKP.out.1;have h4:=HW6.out.size;omega);clear ho hb hg hat);go_roundg (gs.length - (acc.length+1))
     case measure=>have h1:=HGG.out;have h2:=HJ.out;omega
     case rel=>exact ⟨acc ++ [(cd,1,l)],A7,c7,by first|rfl|rw[List.length_append,List.length_singleton],by rw[List.length_append,List.length_singleton];have h1:=HJ.out;have h2:=HLEN.out;first|exact nx (by omega)|exact nx2 (by omega)|exact rfl,⟨by rw[List.length_append,List.length_singleton];exact HJ.out⟩,⟨by rw[List.length_append,List.length_singleton];exact Nat.le_refl _⟩,⟨by rw[List.length_append,List.length_singleton];exact HE2.out⟩,HO7,HOW7,HK7,HB7⟩
    | true =>
     have hld:impl_Crew_load.f k l0 l1 m l=some c:=by have h1:=HCO.out;unfold crewCost at h1;rwa [if_pos rfl] at h1
     have HLQ:=am' (HLD.out wr HWR.out Ai ci l c HCL.out HCI.out hld);clear hld;go_wp2_with fail;refine HLQ.out.mono ?_
     rintro e w4 ⟨rfl,hb4⟩
     have HWW:=am' hb4;have xs0:w4.cell? ⟨w1.heap.size+1,0,none⟩=some (.slice A2 ov.length c2):=(blk_cell (blk_below HS2.out hb4) 0).trans rfl;have xs1:w4.cell? ⟨w1.heap.size+1,1,none⟩=some (.bool tr):=(blk_cell (blk_below HS2.out hb4) 1).trans rfl;clear hb4;go_wp2_with fail;refine (HM.out w4 HWW.out).mono ?_
     rintro e w5 ⟨v5,rfl,ho5,hb5⟩
     obtain ⟨A5,c5,rfl,hc5,hC5⟩:=Kd.R_reads ho5;have HW5:=am' (below_step HWW.out hb5);have HL5:=am' hc5;have HC5:=am' hC5;clear ho5 hb5 hc5 hC5;go_wp2_with fail;refine (HC.out w5 A5 c5 HC5.out HL5.out).mono ?_
     rintro e w6 ⟨rfl,hb6⟩
     have HW6:=am' (below_step HW5.out hb6);clear hb6;go_wp2_with ((with_reducible refine gate_builtin (b := .append) (xs:=#[.tmp 27, .tmp 35]) rfl ?_);at_builtin;refine Kd.R_append (Kd.tag f EdgK) (w0:=W) W.heap.size rfl (.tmp 27) (.tmp 35) 116 118 (.agg #[.int .i64 0, .int .i64 0, .slice none 0 0]) 40 rfl Try.underlying116 hinfoE.out rfl (show 0 < EdgK.sz by decide) (by omega) (.slice Ao acc.length co) acc.zipIdx ((cd,c,l),acc.length) [.int .i64 cd, .int .i64 c, .slice Ai l.length ci] (fun _=>True) (fun k=>f k=acc.length∧W2.heap.size≤k∧k < w3.heap.size) rfl (by first|rfl|(rw[World.size_alloc];rfl)) ?aP ?aK (fun _ _=>trivial) ?aO ?aB ?aS ?aL ?_;(case aP=>exact M_edgeC (Kd.R_mono (Kd.R_below HRW.out HW6.out) (fun k hk=>⟨hk,hk.1⟩)));(case aK=>exact fun k hk=>⟨trivial,fun q=>by have h1:=HOW.out k q.symm;have h2:=hk.2;have h3:=HSZ.out;omega⟩);(case aO=>exact Kd.R_below HSA.out HW6.out);(case aB=>exact below_step HWR.out HW6.out);(case aS=>exact Nat.le_trans HWR.out.size HW6.out.size);(case aL=>have h1:=HJ.out;have h2:=HLEN.out;rw[List.length_zipIdx];omega);intro v1 w7 ho hb hg hat;rw[← Kd.zip_snoc] at ho;obtain ⟨A7,c7,e7⟩:=Kd.R_slice ho;rw[List.length_zipIdx] at e7;subst e7;have HO7:=am' ho;have HB7:=am' hb;have HK7:=am' (Kept.of_grown hg (Kept.below HKP.out HW6.out) (fun k hk=>HOW.out k hk));have HOW7:=am' (show ∀ k,(Value.slice A7 (acc ++ [(cd,c,l)]).length c7).ownBlock=some k→k=w1.heap.size∨w3.heap.size≤k from fun k hk=>by rcases hat with q|⟨b,q,hbb⟩;exact HOW.out k (q.symm.trans hk);have q2:=Option.some.inj (q.symm.trans hk);have h3:=HKP.out.1;have h4:=HW6.out.size;omega);clear ho hb hg hat);go_roundg (gs.length - (acc.length+1))
     case measure=>have h1:=HGG.out;have h2:=HJ.out;omega
     case rel=>exact ⟨acc ++ [(cd,c,l)],A7,c7,by first|rfl|rw[List.length_append,List.length_singleton],by rw[List.length_append,List.length_singleton];have h1:=HJ.out;have h2:=HLEN.out;first|exact nx (by omega)|exact nx2 (by omega)|exact rfl,⟨by rw[List.length_append,List.length_singleton];exact HJ.out⟩,⟨by rw[List.length_append,List.length_singleton];exact Nat.le_refl _⟩,⟨by rw[List.length_append,List.length_singleton];exact HE2.out⟩,HO7,HOW7,HK7,HB7⟩
   ·
    have hjz:¬ ((acc.length:Nat):Int) < ((gs.length:Nat):Int):=by omega
    have hjd:=decide_eq_false hjz;have hE:=HE.out;rw[List.drop_eq_nil_of_le (by omega),List.foldlM_nil] at hE;obtain rfl:=Option.some.inj hE;have HSF:=am' (show Kd.S EdgK 118 wr W.heap.size (fun _=>True) (.slice Ao acc.length co) acc from ⟨f,HSA.out⟩);clear hE;go_wp2;go_ret
    exact ⟨_,rfl,HSF.out,HWR.out⟩
 ·
  rw[if_neg hlen] at hs;cases hs
theorem blk_put2 {W:World} {g h:Nat} {o:Obj} {v0 v1:Value} (hb:W.heap[h]? = some o) (hne:h≠g):((W.setCell ⟨g,0,none⟩ v0).setCell ⟨g,1,none⟩ v1).heap[h]? = some o:=blk_kept hb (put2_kept W g v0 v1) hne
theorem bkI_up {o1 o2:Int→Option (List Edg)} (ho:∀ s,LeO (o1 s) (o2 s)) (d:Nat):∀ k i dist wt,LeO (bkI o1 d k i dist wt) (bkI o2 d (k+1) i dist wt):=by
 intro k;induction k with
 | zero=>intro i dist wt r h;simp[bkI] at h
 | succ k ih =>
  intro i dist wt;rw[bkI,bkI];exact LeO.ite (LeO.ite (LeO.ite (ih _ _ _) (LeO.bind (ho _) (fun _=>LeO.bind (LeO.refl _) (fun _=>ih _ _ _)))) (LeO.refl _)) (LeO.refl _)
theorem bkD_up {o1 o2:Int→Option (List Edg)} (ho:∀ s,LeO (o1 s) (o2 s)):∀ k d dist wt,LeO (bkD o1 k d dist wt) (bkD o2 (k+1) d dist wt):=by
 intro k;induction k with
 | zero=>intro d dist wt r h;simp[bkD] at h
 | succ k ih =>
  intro d dist wt;rw[bkD,bkD];exact LeO.ite (LeO.ite (LeO.bind (bkI_up ho d _ _ _ _) (fun _=>ih _ _ _)) (LeO.refl _)) (LeO.refl _)
theorem pow_le8 {n:Nat} (h:n≤8):0 < 2 ^ (n+1)∧2 ^ (n+1)≤1024∧wrap64 (2 * 2 ^ min n 64)=((2 ^ (n+1):Nat):Int):=by
 have:n=0∨n=1∨n=2∨n=3∨n=4∨n=5∨n=6∨n=7∨n=8:=by omega
 rcases this with rfl|rfl|rfl|rfl|rfl|rfl|rfl|rfl|rfl <;> exact ⟨by decide,by decide,by decide +kernel⟩
theorem R_one {w:World} {b base:Nat} {x:Int} {e:Nat} (h:w.heap[b]? = some (.cells #[.int .i64 x] e (0,0))) (hB:base≤b):(Kd.int .i64).R e w base (fun _=>True) (.slice (some ⟨b,0,none⟩) 1 1) [x]:=by
 refine Kd.R_of_own ?_ (fun k hk=>trivial)
 exact ⟨by simp[encs], .inr ⟨b,1,_,rfl,hB,h,Nat.le_refl _,by decide,by simp,by simp[encs]⟩⟩
set_option maxHeartbeats 2000000 in
set_option maxRecDepth 100000 in
theorem crew_graph2 (A0_0:Option Addr) (c0_0:Nat) (l0_0:List Int) (A0_1:Option Addr) (c0_1:Nat) (l0_1:List Bool) (a0_2:Int) (a1:Bool) (w:World):Calls Try.prog 84 #[.agg #[.slice A0_0 l0_0.length c0_0, .slice A0_1 l0_1.length c0_1, .int .i64 a0_2], .bool a1] w fun e w'=>∃ pn pp pt,e = .returned (.agg #[.int .i64 (wrap64 (2 * 2 ^ min l0_0.length 64)), .func (.func 108) #[] #[.pointer (some ⟨pn,0,none⟩), .pointer (some ⟨pp,0,none⟩), .pointer (some ⟨pt,0,none⟩)]])∧w'.heap[pn]? = some (.cells #[.int .i64 (l0_0.length:Int)] 3 (0,0))∧w'.heap[pp]? = some (.cells #[.slice A0_0 l0_0.length c0_0, .slice A0_1 l0_1.length c0_1, .int .i64 a0_2] 29 (0,0))∧w'.heap[pt]? = some (.cells #[.bool a1] 4 (0,0))∧(w.heap.size≤pn∧w.heap.size≤pp∧w.heap.size≤pt)∧Below w.heap.size w w':=by
 have hu:=Try.underlying29
 have hug:=Try.underlying96
 have HB:=am' (four_blocks w (.cells #[.slice A0_0 l0_0.length c0_0, .slice A0_1 l0_1.length c0_1, .int .i64 a0_2] 29) (.cells #[.bool a1] 4) (.cells #[.int .i64 (wrap64 (2 * 2 ^ min l0_0.length 64)), .func (.func 108) #[] #[.pointer (some ⟨w.heap.size+1+1+1,0,none⟩), .pointer (some ⟨w.heap.size,0,none⟩), .pointer (some ⟨w.heap.size+1,0,none⟩)]] 96) (.cells #[.int .i64 (l0_0.length:Int)] 3))
 go_enter Try.func84,Try.ntmps84
 go_wp2_with fail
 refine bodyPost_ret (results_cell_row rfl _ _ (w.heap.size+1+1) 96 #[.int .i64 (wrap64 (2 * 2 ^ min l0_0.length 64)), .func (.func 108) #[] #[.pointer (some ⟨w.heap.size+1+1+1,0,none⟩), .pointer (some ⟨w.heap.size,0,none⟩), .pointer (some ⟨w.heap.size+1,0,none⟩)]] (0,0) _ rfl HB.out.2.2.1 Try.underlying96 rfl xk') rfl ?_
 exact ⟨_,_,_,rfl,HB.out.2.2.2.1,HB.out.1,HB.out.2.1,⟨by omega,by omega,by omega⟩,HB.out.2.2.2.2⟩
def impl_Crew_costs.f (k:Nat) (l0_0:List Int) (l0_1:List Bool) (a0_2:Int) (a1:Bool):Option (List Int × Bool) :=
 if l0_0.length≤8 then (impl_last.f (l0_0.length:Int)).bind fun st=>(bkD (crewOut k a1 l0_0 l0_1 a0_2) k 0 (List.replicate (2 ^ (l0_0.length+1)) (-1)) [[st]]).bind fun r=>if r.length=2 ^ (l0_0.length+1) then some (r,decide (0≤rd r 0)) else none else none
set_option maxHeartbeats 4000000 in
set_option maxRecDepth 100000 in
theorem impl_Crew_costs.calls (k:Nat) (A0_0:Option Addr) (c0_0:Nat) (l0_0:List Int) (A0_1:Option Addr) (c0_1:Nat) (l0_1:List Bool) (a0_2:Int) (a1:Bool) (r:List Int) (ok:Bool) (w:World) (hr0_0:Kd.C (Kd.int .i64) w A0_0 l0_0.length l0_0) (hc0_0:l0_0.length≤c0_0) (hr0_1:Kd.C Kd.bool w A0_1 l0_1.length l0_1) (hc0_1:l0_1.length≤c0_1) (h:impl_Crew_costs.f k l0_0 l0_1 a0_2 a1=some (r,ok)) :
  Calls Try.prog 104 #[.agg #[.slice A0_0 l0_0.length c0_0, .slice A0_1 l0_1.length c0_1, .int .i64 a0_2], .bool a1] w fun e w'=>∃ pn pp pt v,e = .returned (.tuple #[.agg #[.int .i64 (wrap64 (2 * 2 ^ min l0_0.length 64)), .func (.func 108) #[] #[.pointer (some ⟨pn,0,none⟩), .pointer (some ⟨pp,0,none⟩), .pointer (some ⟨pt,0,none⟩)]],v, .bool ok])∧w'.heap[pn]? = some (.cells #[.int .i64 (l0_0.length:Int)] 3 (0,0))∧w'.heap[pp]? = some (.cells #[.slice A0_0 l0_0.length c0_0, .slice A0_1 l0_1.length c0_1, .int .i64 a0_2] 29 (0,0))∧w'.heap[pt]? = some (.cells #[.bool a1] 4 (0,0))∧(Kd.int .i64).R 3 w' w.heap.size (fun _=>True) v r∧(r.length=2 ^ (l0_0.length+1)∧l0_0.length≤8)∧Below w.heap.size w w':=by
 have hu:=Try.underlying29
 have hug:=Try.underlying96
 unfold impl_Crew_costs.f at h
 have HF0_0:=am' hr0_0
 have HF0_1:=am' hr0_1
 have HC0_0:=am' hc0_0
 have HC0_1:=am' hc0_1
 have HL2:=am' (two_blocks w (.cells #[.slice A0_0 l0_0.length c0_0, .slice A0_1 l0_1.length c0_1, .int .i64 a0_2] 29) (.cells #[.int .i64 0,Value.nilFunc] 96))
 obtain ⟨mv,hmv⟩:∃ x,x=wrap64 (2 * 2 ^ min l0_0.length 64):=⟨_,rfl⟩
 have HG:=am' (fun (W:World)=>crew_graph2 A0_0 c0_0 l0_0 A0_1 c0_1 l0_1 a0_2 a1 W)
 rw[← hmv] at HG ⊢
 have HMV:=am' hmv
 clear hmv hr0_0 hc0_0 hr0_1 hc0_1;by_cases hl8:l0_0.length≤8
 ·
  rw[if_pos hl8] at h;obtain ⟨st,hst,h⟩:=Option.bind_eq_some_iff.mp h;obtain ⟨rr,hd,h⟩:=Option.bind_eq_some_iff.mp h;by_cases hlen:rr.length=2 ^ (l0_0.length+1)
  ·
   rw[if_pos hlen] at h;simp only[Option.some.injEq,Prod.mk.injEq] at h;obtain ⟨rfl,rfl⟩:=h;obtain ⟨hp0,hp1,hp2⟩:=pow_le8 hl8;obtain ⟨N,hN⟩:∃ x,x=2 ^ (l0_0.length+1):=⟨_,rfl⟩
   rw[← hN] at hp0 hp1 hp2 hd hlen;have HN:=am' hN;have hmvN:=HMV.out.trans hp2;have HMN:=am' hmvN;have HD:=am' hd;have HLEN:=am' hlen;have HST:=am' (fun (W:World)=>impl_last.calls (l0_0.length:Int) st W hst);have HP0:=am' hp0;have HP1:=am' hp1;have HL8:=am' hl8;clear hp0 hp1 hp2 hN hmvN hd hlen hst hl8;go_enter Try.func104,Try.ntmps104;go_wp2_with fail;refine (HG.out _).mono ?_
   rintro e w3 ⟨pn,pp,pt,rfl,hpn,hpp,hpt,hnew,hb3⟩
   have J5:=am' (heap_alloc_new w3 (.cells #[.int .i64 mv, .func (.func 108) #[] #[.pointer (some ⟨pn,0,none⟩), .pointer (some ⟨pp,0,none⟩), .pointer (some ⟨pt,0,none⟩)]] 96));have J1:=am' (ka' (blk_below HL2.out.1 hb3) (.cells #[.int .i64 mv, .func (.func 108) #[] #[.pointer (some ⟨pn,0,none⟩), .pointer (some ⟨pp,0,none⟩), .pointer (some ⟨pt,0,none⟩)]] 96));have HP2L:=am' (blk_lt (blk_below HL2.out.2.1 hb3));have J2:=am' (ka' (blk_below HL2.out.2.1 hb3) (.cells #[.int .i64 mv, .func (.func 108) #[] #[.pointer (some ⟨pn,0,none⟩), .pointer (some ⟨pp,0,none⟩), .pointer (some ⟨pt,0,none⟩)]] 96));have JN:=am' (ka' hpn (.cells #[.int .i64 mv, .func (.func 108) #[] #[.pointer (some ⟨pn,0,none⟩), .pointer (some ⟨pp,0,none⟩), .pointer (some ⟨pt,0,none⟩)]] 96));have NEn:=am' (show pn≠w.heap.size+1 from fun q=>by have h1:=hnew;have h2:=blk_lt HL2.out.2.1;omega);have JP:=am' (ka' hpp (.cells #[.int .i64 mv, .func (.func 108) #[] #[.pointer (some ⟨pn,0,none⟩), .pointer (some ⟨pp,0,none⟩), .pointer (some ⟨pt,0,none⟩)]] 96));have NEp:=am' (show pp≠w.heap.size+1 from fun q=>by have h1:=hnew;have h2:=blk_lt HL2.out.2.1;omega);have JT:=am' (ka' hpt (.cells #[.int .i64 mv, .func (.func 108) #[] #[.pointer (some ⟨pn,0,none⟩), .pointer (some ⟨pp,0,none⟩), .pointer (some ⟨pt,0,none⟩)]] 96));have NEt:=am' (show pt≠w.heap.size+1 from fun q=>by have h1:=hnew;have h2:=blk_lt HL2.out.2.1;omega);have HBJ:=am' (ba' (below_step HL2.out.2.2 hb3) (.cells #[.int .i64 mv, .func (.func 108) #[] #[.pointer (some ⟨pn,0,none⟩), .pointer (some ⟨pp,0,none⟩), .pointer (some ⟨pt,0,none⟩)]] 96));have x10:(w3.alloc (.cells #[.int .i64 mv, .func (.func 108) #[] #[.pointer (some ⟨pn,0,none⟩), .pointer (some ⟨pp,0,none⟩), .pointer (some ⟨pt,0,none⟩)]] 96)).cell? ⟨w.heap.size,0,none⟩=some (.slice A0_0 l0_0.length c0_0):=(blk_cell J1.out 0).trans rfl;have x50:(w3.alloc (.cells #[.int .i64 mv, .func (.func 108) #[] #[.pointer (some ⟨pn,0,none⟩), .pointer (some ⟨pp,0,none⟩), .pointer (some ⟨pt,0,none⟩)]] 96)).cell? ⟨w3.heap.size,0,none⟩=some (.int .i64 mv):=(blk_cell J5.out 0).trans rfl;have x51:(w3.alloc (.cells #[.int .i64 mv, .func (.func 108) #[] #[.pointer (some ⟨pn,0,none⟩), .pointer (some ⟨pp,0,none⟩), .pointer (some ⟨pt,0,none⟩)]] 96)).cell? ⟨w3.heap.size,1,none⟩=some (.func (.func 108) #[] #[.pointer (some ⟨pn,0,none⟩), .pointer (some ⟨pp,0,none⟩), .pointer (some ⟨pt,0,none⟩)]):=(blk_cell J5.out 1).trans rfl;obtain ⟨c0_,f0_,c1_,f1_⟩:=put2 J2.out (.int .i64 mv) (.func (.func 108) #[] #[.pointer (some ⟨pn,0,none⟩), .pointer (some ⟨pp,0,none⟩), .pointer (some ⟨pt,0,none⟩)]);clear hpn hpp hpt hnew hb3;go_wp2_with fail;generalize hw5:w3.alloc (.cells #[.int .i64 mv, .func (.func 108) #[] #[.pointer (some ⟨pn,0,none⟩), .pointer (some ⟨pp,0,none⟩), .pointer (some ⟨pt,0,none⟩)]] 96)=w5 at J5 J1 J2 JN JP JT HBJ x10 x50 x51 c0_ f0_ c1_ f1_ ⊢
   clear hw5;refine start_ (n:=8) (S:=fun w'=>w'.cell? ⟨w3.heap.size,0,none⟩=some (.int .i64 mv)∧w'.cell? ⟨w3.heap.size,1,none⟩=some (.func (.func 108) #[] #[.pointer (some ⟨pn,0,none⟩), .pointer (some ⟨pp,0,none⟩), .pointer (some ⟨pt,0,none⟩)])∧w'.cell? ⟨w.heap.size,0,none⟩=some (.slice A0_0 l0_0.length c0_0)) (ds:=[]) #[false,false,false,false,false,false,false,false] xk' rfl rfl ⟨x50,x51,x10⟩ (fun hHeld=>?_);refine take_ (i:=0) (N:=some 12) (v:=?_) (a':=?_) #[true,false,false,false,false,false,false,false] rfl rfl xk' (fun _ _ _ h=>h) (Or.inl ⟨by rfl,?_⟩) hHeld ?_ ?_
   rotate_left
   ·
    rintro w' ⟨s0_,s1_,s2_⟩
    go_simp;with_reducible rfl
   rotate_left
   ·
    simp only[Act.put,sa',sb',sc',i64_w,i32_w];rfl
   refine pure_ (i:=1) (N:=some 13) (v:=?_) (a':=?_) #[true,true,false,false,false,false,false,false] rfl rfl xk' (fun _ _ _ h=>h) (Or.inl ⟨by rfl,?_⟩) ?_ ?_
   rotate_left
   ·
    intro w';go_simp;with_reducible rfl
   rotate_left
   ·
    simp only[Act.put,sa',sb',sc',i64_w,i32_w];rfl
   refine take_ (i:=2) (N:=some 14) (v:=?_) (a':=?_) #[true,true,true,false,false,false,false,false] rfl rfl xk' (fun _ _ _ h=>h) (Or.inl ⟨by rfl,?_⟩) hHeld ?_ ?_
   rotate_left
   ·
    rintro w' ⟨s0_,s1_,s2_⟩
    go_simp;with_reducible rfl
   rotate_left
   ·
    simp only[Act.put,sa',sb',sc',i64_w,i32_w];rfl
   refine pure_ (i:=3) (N:=some 15) (v:=?_) (a':=?_) #[true,true,true,true,false,false,false,false] rfl rfl xk' (fun _ _ _ h=>h) (Or.inl ⟨by rfl,?_⟩) ?_ ?_
   rotate_left
   ·
    intro w';go_simp;with_reducible rfl
   rotate_left
   ·
    simp only[Act.put,sa',sb',sc',i64_w,i32_w];rfl
   refine one_ (i:=4) (N:=some 16) #[true,true,true,true,true,false,false,false] rfl rfl xk' (by decide) (fun K hK=>?_);refine goes_ Try.func72 xk' rfl #[.int .i64 (l0_0.length:Int)] (by rfl) rfl rfl (by (try simp only[List.map_toArray,List.map_cons,List.map_nil]);first|done|rfl) ?_
   refine (HST.out _).mono ?_
   rintro e w6 ⟨rfl,⟨nd,rfl⟩⟩
   refine ⟨_,rfl,?_⟩;refine hK.out _ _ ⟨x50,x51,x10⟩ (fun hHeld=>?_);clear hK K;refine norm_ (a':=?_) ?_ ?_
   rotate_left
   ·
    show Act.put _ (some 16) _=_
    simp only[Act.put,sa',sb',sc',i64_w,i32_w];rfl
   refine one_ (i:=5) (N:=some 17) #[true,true,true,true,true,true,false,false] rfl rfl xk' (by decide) (fun K hK=>?_);refine value_ (v := .slice (some ⟨w5.heap.size,0,none⟩) 1 1) (w1:=((w5.drew.drewN nd).alloc (.cells #[.int .i64 st] 3))) (by rfl) rfl ?_ ?_
   ·
    go_simp
   refine hK.out _ _ ⟨((ba' (bd' (below_drew (Below.refl w5.heap.size w5)) nd) _).cell (bl' w5 _ x50)).trans x50,((ba' (bd' (below_drew (Below.refl w5.heap.size w5)) nd) _).cell (bl' w5 _ x51)).trans x51,((ba' (bd' (below_drew (Below.refl w5.heap.size w5)) nd) _).cell (bl' w5 _ x10)).trans x10⟩ (fun hHeld=>?_);clear hK K;refine norm_ (a':=?_) ?_ ?_
   rotate_left
   ·
    show Act.put _ (some 17) _=_
    simp only[Act.put,sa',sb',sc',i64_w,i32_w];rfl
   refine one_ (i:=6) (N:=some 18) #[true,true,true,true,true,true,true,false] rfl rfl xk' (by decide) (fun K hK=>?_);have HSTB:=am' (ba' (bd' (below_drew (Below.refl w5.heap.size w5)) nd) (.cells #[.int .i64 st] 3));refine goes_ Try.func110 xk' rfl #[.agg #[.int .i64 mv, .func (.func 108) #[] #[.pointer (some ⟨pn,0,none⟩), .pointer (some ⟨pp,0,none⟩), .pointer (some ⟨pt,0,none⟩)]], .slice (some ⟨w5.heap.size,0,none⟩) 1 1] (by rfl) rfl rfl (by (try simp only[List.map_toArray,List.map_cons,List.map_nil]);first|done|rfl) ?_
   rw[HMN.out];refine (from_any 108 #[.pointer (some ⟨pn,0,none⟩), .pointer (some ⟨pp,0,none⟩), .pointer (some ⟨pt,0,none⟩)] (crewOut k a1 l0_0 l0_1 a0_2) k N [st] rr w5 _ (enters_of Try.func108 xk' rfl) (crew_out k a1 A0_0 c0_0 l0_0 A0_1 c0_1 l0_1 a0_2 pn pp pt w5 JN.out JP.out JT.out (Kd.C_below HF0_0.out HBJ.out) HC0_0.out (Kd.C_below HF0_1.out HBJ.out) HC0_1.out) (some ⟨w5.heap.size,0,none⟩) 1 (R_one (heap_alloc_new (w5.drew.drewN nd) _) (Nat.le_refl _)) HSTB.out HP0.out HP1.out HD.out).mono ?_
   rintro e w7 ⟨v7,rfl,hr7,hb7⟩
   obtain ⟨gd,cd,hv7,_⟩:=Kd.R_form hr7 (by have h1:=HLEN.out;have h2:=HP0.out;omega);rw[HLEN.out] at hv7;subst hv7;have HR7:=am' hr7;have M1:=am' (blk_below J1.out hb7);have M2:=am' (blk_below J2.out hb7);have M5:=am' (blk_below J5.out hb7);have MN:=am' (blk_below JN.out hb7);have MP:=am' (blk_below JP.out hb7);have MT:=am' (blk_below JT.out hb7);have HBN:=am' (below_step HBJ.out hb7);have HW56:=am' (Nat.le_refl w5.heap.size);have m50:w7.cell? ⟨w3.heap.size,0,none⟩=some (.int .i64 mv):=(blk_cell M5.out 0).trans rfl;have m51:w7.cell? ⟨w3.heap.size,1,none⟩=some (.func (.func 108) #[] #[.pointer (some ⟨pn,0,none⟩), .pointer (some ⟨pp,0,none⟩), .pointer (some ⟨pt,0,none⟩)]):=(blk_cell M5.out 1).trans rfl;have m10:w7.cell? ⟨w.heap.size,0,none⟩=some (.slice A0_0 l0_0.length c0_0):=(blk_cell M1.out 0).trans rfl;clear hr7 hb7 x10 x50 x51 c0_ f0_ c1_ f1_;refine ⟨_,rfl,?_⟩;refine hK.out _ _ ⟨m50,m51,m10⟩ (fun hHeld=>?_);clear hK K;refine norm_ (a':=?_) ?_ ?_
   rotate_left
   ·
    show Act.put _ (some 18) _=_
    simp only[Act.put,sa',sb',sc',i64_w,i32_w];rfl
   refine pure_ (i:=7) (N:=some 8) (v:=?_) (a':=?_) #[true,true,true,true,true,true,true,true] rfl rfl xk' (fun _ _ _ h=>h) (Or.inl ⟨by rfl,?_⟩) ?_ ?_
   rotate_left
   ·
    intro w';go_simp;with_reducible rfl
   rotate_left
   ·
    simp only[Act.put,sa',sb',sc',i64_w,i32_w];rfl
   refine done_ xk' ?_
   go_wp2_with fail;obtain ⟨dv,hdv⟩:∃ x,x=rd rr 0:=⟨_,rfl⟩
   have hx0:w7.cell? ⟨gd,0,none⟩=some (.int .i64 dv):=by
    have:=(Kd.R_celln 0 HR7.out 0 (by omega) (by have:=HP0.out;omega)).1;rw[hdv];simpa [rd,rdOf] using this
   have hl0:(0:Int) < (N:Int):=by have:=HP0.out;omega
   have hl1:0 < N:=HP0.out;have HDV:=am' hdv;clear hdv;have HKP:=am' (put2_kept w7 (w.heap.size+1) (.int .i64 mv) (.func (.func 108) #[] #[.pointer (some ⟨pn,0,none⟩), .pointer (some ⟨pp,0,none⟩), .pointer (some ⟨pt,0,none⟩)]));have hz2:=blk_lt M2.out;have HGD:=am' (show gd≠w.heap.size+1 from fun q=>by have h1:=Kd.R_base HR7.out gd (by simp[Value.ownBlock]);have h3:=blk_lt J2.out;have h4:=HW56.out;omega);have q0:=cell_kept m50 HKP.out (fun q=>by dsimp only at q;have:=HP2L.out;omega);have q1:=cell_kept m51 HKP.out (fun q=>by dsimp only at q;have:=HP2L.out;omega);have q2:=cell_kept hx0 HKP.out (fun q=>HGD.out q);obtain ⟨c0_,f0_,c1_,f1_⟩:=put2 M2.out (.int .i64 mv) (.func (.func 108) #[] #[.pointer (some ⟨pn,0,none⟩), .pointer (some ⟨pp,0,none⟩), .pointer (some ⟨pt,0,none⟩)]);clear hz2;refine start_ (n:=9) (S:=fun w'=>w'.cell? ⟨w3.heap.size,0,none⟩=some (.int .i64 mv)∧w'.cell? ⟨w3.heap.size,1,none⟩=some (.func (.func 108) #[] #[.pointer (some ⟨pn,0,none⟩), .pointer (some ⟨pp,0,none⟩), .pointer (some ⟨pt,0,none⟩)])∧w'.cell? ⟨gd,0,none⟩=some (.int .i64 dv)) (ds:=[]) #[false,false,false,false,false,false,false,false,false] xk' rfl rfl ⟨m50,m51,hx0⟩ (fun hHeld=>?_);refine take_ (i:=0) (N:=some 19) (v:=?_) (a':=?_) #[true,false,false,false,false,false,false,false,false] rfl rfl xk' (fun _ _ _ h=>h) (Or.inl ⟨by rfl,?_⟩) hHeld ?_ ?_
   rotate_left
   ·
    rintro w' ⟨s0_,s1_,s2_⟩
    go_simp;with_reducible rfl
   rotate_left
   ·
    simp only[Act.put,sa',sb',sc',i64_w,i32_w];rfl
   refine pure_ (i:=1) (N:=some 20) (v:=?_) (a':=?_) #[true,true,false,false,false,false,false,false,false] rfl rfl xk' (fun _ _ _ h=>h) (Or.inl ⟨by rfl,?_⟩) ?_ ?_
   rotate_left
   ·
    intro w';go_simp;with_reducible rfl
   rotate_left
   ·
    simp only[Act.put,sa',sb',sc',i64_w,i32_w];rfl
   refine pure_ (i:=2) (N:=some 21) (v:=?_) (a':=?_) #[true,true,true,false,false,false,false,false,false] rfl rfl xk' (fun _ _ _ h=>h) (Or.inl ⟨by rfl,?_⟩) ?_ ?_
   rotate_left
   ·
    intro w';go_simp;with_reducible rfl
   rotate_left
   ·
    simp only[Act.put,sa',sb',sc',i64_w,i32_w];rfl
   refine pure_ (i:=3) (N:=some 22) (v:=?_) (a':=?_) #[true,true,true,true,false,false,false,false,false] rfl rfl xk' (fun _ _ _ h=>h) (Or.inl ⟨by rfl,?_⟩) ?_ ?_
   rotate_left
   ·
    intro w';go_simp;with_reducible rfl
   rotate_left
   ·
    simp only[Act.put,sa',sb',sc',i64_w,i32_w];rfl
   refine take_ (i:=4) (N:=some 23) (v:=?_) (a':=?_) #[true,true,true,true,true,false,false,false,false] rfl rfl xk' (fun _ _ _ h=>h) (Or.inl ⟨by rfl,?_⟩) hHeld ?_ ?_
   rotate_left
   ·
    rintro w' ⟨s0_,s1_,s2_⟩
    go_simp;with_reducible rfl
   rotate_left
   ·
    simp only[Act.put,sa',sb',sc',i64_w,i32_w];rfl
   refine pure_ (i:=5) (N:=some 24) (v:=?_) (a':=?_) #[true,true,true,true,true,true,false,false,false] rfl rfl xk' (fun _ _ _ h=>h) (Or.inl ⟨by rfl,?_⟩) ?_ ?_
   rotate_left
   ·
    intro w';go_simp;with_reducible rfl
   rotate_left
   ·
    simp only[Act.put,sa',sb',sc',i64_w,i32_w];rfl
   refine one_ (i:=6) (N:=none) #[true,true,true,true,true,true,true,false,false] rfl rfl xk' (by decide) (fun K hK=>?_);refine skip_ (w1:=?_) (by rfl) rfl ?_ ?_
   rotate_left
   ·
    go_simp;rfl
   refine hK.out _ _ ⟨q0,q1,q2⟩ (fun hHeld=>?_);clear hK K;refine pure_ (i:=7) (N:=some 5) (v:=?_) (a':=?_) #[true,true,true,true,true,true,true,true,false] rfl rfl xk' (fun _ _ _ h=>h) (Or.inl ⟨by rfl,?_⟩) ?_ ?_
   rotate_left
   ·
    intro w';go_simp;with_reducible rfl
   rotate_left
   ·
    simp only[Act.put,sa',sb',sc',i64_w,i32_w];rfl
   refine pure_ (i:=8) (N:=some 6) (v:=?_) (a':=?_) #[true,true,true,true,true,true,true,true,true] rfl rfl xk' (fun _ _ _ h=>h) (Or.inl ⟨by rfl,?_⟩) ?_ ?_
   rotate_left
   ·
    intro w';go_simp;with_reducible rfl
   rotate_left
   ·
    simp only[Act.put,sa',sb',sc',i64_w,i32_w];rfl
   refine done_ xk' ?_
   have hsz5:=blk_lt J2.out;have hszw:=HBN.out.size;have h56:=HW56.out;have hRR:(Kd.int .i64).R 3 ((w7.setCell ⟨w.heap.size+1,0,none⟩ (.int .i64 mv)).setCell ⟨w.heap.size+1,1,none⟩ (.func (.func 108) #[] #[.pointer (some ⟨pn,0,none⟩), .pointer (some ⟨pp,0,none⟩), .pointer (some ⟨pt,0,none⟩)])) w.heap.size (fun _=>True) (.slice (some ⟨gd,0,none⟩) N cd) rr:=Kd.R_lower (Kd.R_mono (Kd.R_kept (Kd.R_bound HR7.out) HKP.out (fun k hk q=>by have h1:=hk.2.1;omega)) (fun _ _=>trivial)) (by omega);have hBB:Below w.heap.size w ((w7.setCell ⟨w.heap.size+1,0,none⟩ (.int .i64 mv)).setCell ⟨w.heap.size+1,1,none⟩ (.func (.func 108) #[] #[.pointer (some ⟨pn,0,none⟩), .pointer (some ⟨pp,0,none⟩), .pointer (some ⟨pt,0,none⟩)])):=bs' (bs' HBN.out (by omega)) (by omega);have HRR:=am' hRR;have HBB:=am' hBB;clear hRR hBB hsz5 hszw h56;go_wp2;refine bodyPost_ret (results_ctt rfl _ _ (w.heap.size+1) 96 #[.int .i64 mv, .func (.func 108) #[] #[.pointer (some ⟨pn,0,none⟩), .pointer (some ⟨pp,0,none⟩), .pointer (some ⟨pt,0,none⟩)]] (0,0) _ rfl (put2_blk M2.out _ _) Try.underlying96 rfl xk') rfl ?_
   refine ⟨pn,pp,pt, .slice (some ⟨gd,0,none⟩) N cd,by rw[← HDV.out];rfl,blk_put2 MN.out NEn.out,blk_put2 MP.out NEp.out,blk_put2 MT.out NEt.out,?_,⟨HLEN.out.trans HN.out,HL8.out⟩,?_⟩
   ·
    exact HRR.out
   ·
    first|exact HBB.out|exact below_drew HBB.out|exact bd' HBB.out _
  ·
   rw[if_neg hlen] at h;cases h
 ·
  rw[if_neg hl8] at h;cases h
def impl_Crew_plans.f (k:Nat) (l0_0:List Int) (l0_1:List Bool) (a0_2:Int):Option Bool:=(impl_Crew_costs.f k l0_0 l0_1 a0_2 false).bind fun p=>some p.2
set_option maxHeartbeats 2000000 in
set_option maxRecDepth 100000 in
theorem impl_Crew_plans.calls (k:Nat) (A0_0:Option Addr) (c0_0:Nat) (l0_0:List Int) (A0_1:Option Addr) (c0_1:Nat) (l0_1:List Bool) (a0_2:Int) (r:Bool) (w:World) (hr0_0:Kd.C (Kd.int .i64) w A0_0 l0_0.length l0_0) (hc0_0:l0_0.length≤c0_0) (hr0_1:Kd.C Kd.bool w A0_1 l0_1.length l0_1) (hc0_1:l0_1.length≤c0_1) (h:impl_Crew_plans.f k l0_0 l0_1 a0_2=some r) :
  Calls Try.prog 76 #[.agg #[.slice A0_0 l0_0.length c0_0, .slice A0_1 l0_1.length c0_1, .int .i64 a0_2]] w fun e w'=>e = .returned (.bool r)∧Below w.heap.size w w':=by
 have hu:=Try.underlying29
 have hug:=Try.underlying96
 unfold impl_Crew_plans.f at h
 obtain ⟨⟨d,ok⟩,hc,h⟩:=Option.bind_eq_some_iff.mp h
 obtain rfl:ok=r:=Option.some.inj h
 have HC:=am' (fun (W:World) (hb:Below w.heap.size w W)=>impl_Crew_costs.calls k A0_0 c0_0 l0_0 A0_1 c0_1 l0_1 a0_2 false d ok W (Kd.C_below hr0_0 hb) hc0_0 (Kd.C_below hr0_1 hb) hc0_1 hc)
 have HBX:=am' (ba' (Below.refl w.heap.size w) (.cells #[.slice A0_0 l0_0.length c0_0, .slice A0_1 l0_1.length c0_1, .int .i64 a0_2] 29))
 clear hc hr0_0 hr0_1 h;go_enter Try.func76,Try.ntmps76
 go_wp2_with fail
 refine (HC.out _ HBX.out).mono ?_
 rintro e w2 ⟨pn,pp,pt,v,rfl,hpn,hpp,hpt,hr,hl,hb⟩
 obtain ⟨Av,cv,rfl⟩:=Kd.R_slice hr
 have HB:=am' (below_step HBX.out hb)
 clear hpn hpp hpt hr hl hb;go_wp2
 go_ret
 exact ⟨rfl,ba' HB.out _⟩
end Go.Proofs.Ytikjdmiohpdnaaa.C16
