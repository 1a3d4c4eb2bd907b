import Derived.Test.YtmfofjloklafoaaC5zx0
import Derived.Test.YtmfofjloklafoaaC5zx12
import Derived.Test.YtmfofjloklafoaaC5zx13
import Derived.Test.YtmfofjloklafoaaC5zx14
import Derived.Test.YtmfofjloklafoaaC5zx15
import Derived.Test.YtmfofjloklafoaaC5zx16
import Derived.Test.YtmfofjloklafoaaC5zAl
namespace Go.Proofs.Ytmfofjloklafoaa.C5
open Go.RowKit Go.Proofs.YtmfofjloklafoaaW.PrintWords Go.Proofs.YtmfofjloklafoaaW.PrintLast Go.Proofs.YtmfofjloklafoaaW.PrintMore Go.Proofs.Ytmfofjloklafoaa.H
attribute [local go_sem] max2_int min2_int max_two min_two max_three min_three max_four min_four
set_option linter.unusedVariables false
set_option linter.unusedSimpArgs false
theorem nx {k:Nat} (h:k < 9223372036854775807):Value.int .i64 (wrap64 ((k:Int)+1))=Value.int .i64 ((k+1:Nat):Int):=by rw[wr_id (by omega) (by omega)];rfl
theorem nx2 {k:Nat} (h:k < 9223372036854775807):Value.int .i64 (IntKind.i64.wrap ((k:Int)+1))=Value.int .i64 ((k+1:Nat):Int):=by rw[i64_w];exact nx h
theorem R_empty {α:Type} (d:Kd α) {e base b:Nat} {W:World} (h:W.heap[b]? = some (.cells #[] e (0,0))) (hB:base≤b):d.R e W base (fun _=>True) (.slice (some ⟨b,0,none⟩) 0 0) [] :=
 ⟨fun _ _=>trivial,[],⟨by simp, .inr ⟨b,0,#[],rfl,hB,h,Nat.le_refl _,by decide,by simp,by simp⟩⟩,Reps.none _ _⟩
theorem row_at {e et base n cap:Nat} {W:World} {ok:Nat→Prop} {f:Nat→Nat} {A:Option Addr} {gs:List (List Int)} (h:(Kd.tag f (Kd.slice e (Kd.int .i64))).R et W base ok (.slice A n cap) gs.zipIdx) (i:Nat) (l:List Int) (hl:gs[i]? = some l) (hn:n=gs.length) :
  ∃ g Ai ci,A=some ⟨g,0,none⟩∧W.cell? ⟨g,i,none⟩=some (.slice Ai l.length ci)∧g < W.heap.size∧base≤g∧(Kd.int .i64).R e W base (fun k=>f k=i∧base≤k∧k < W.heap.size) (.slice Ai l.length ci) l:=by
 obtain ⟨hi,hx⟩:=List.getElem?_eq_some_iff.1 hl
 have hz:gs.zipIdx.length=gs.length:=List.length_zipIdx
 obtain ⟨g,cap',hv,hb1,hb2,_⟩:=Kd.R_form h (by omega)
 obtain ⟨rfl,_,_⟩:=Value.slice.inj hv
 obtain ⟨c,hcl,hM,hcc⟩:=Kd.R_getA h ([],0) (i:Int) (by omega) (by omega)
 rw[Int.toNat_natCast] at hM hcc
 have hq:gs.zipIdx.getD i ([],0)=(l,i):=by
  rw[List.getD_eq_getElem?_getD,Kd.zip_at hl];rfl
 rw[hq] at hM
 obtain ⟨u,rfl,hu⟩:=hM
 obtain ⟨Ai,ci,rfl⟩:=Kd.R_slice hu
 refine ⟨g,Ai,ci,rfl,?_,hb2,hb1,Kd.R_mono (Kd.R_bound hu) (fun k hk=>⟨hk.1.2,hk.2.1,hk.2.2.1⟩)⟩
 have h1:=hcc 0 _ rfl
 have h2:(Addr.add ⟨g,0,none⟩ (i * (Kd.tag f (Kd.slice e (Kd.int .i64))).sz+0))=⟨g,i,none⟩:=by
  have h3:(Kd.tag f (Kd.slice e (Kd.int .i64))).sz=1:=rfl;rw[h3,Nat.mul_one,Nat.add_zero];rw[add_at,Nat.zero_add]
 rw[h2] at h1
 exact h1
theorem M_edgeC {W:World} {B:Nat} {okp:Nat→Prop} {x c:Int} {v:Value} {l:List Int} (h:(Kd.int .i64).R 3 W B okp v l):EdgK.M W B okp (x,c,l) [.int .i64 x, .int .i64 c,v]:=⟨[.int .i64 x],_,rfl,rfl,[.int .i64 c],_,rfl,rfl,v,rfl,h⟩
theorem three_blocks (w:World) (o0 o1 o2:Obj):(((w.alloc o0).alloc o1).alloc o2).heap[w.heap.size]? = some o0∧(((w.alloc o0).alloc o1).alloc o2).heap[w.heap.size+1]? = some o1∧(((w.alloc o0).alloc o1).alloc o2).heap[w.heap.size+1+1]? = some o2∧Below w.heap.size w (((w.alloc o0).alloc o1).alloc o2):=by
 obtain ⟨h0,h1,h2⟩:=two_blocks w o0 o1
 refine ⟨ka' h0 _,ka' h1 _,?_,ba' h2 _⟩
 have:=heap_alloc_new ((w.alloc o0).alloc o1) o2
 rwa [World.size_alloc,World.size_alloc] at this
def keepStep (k:Nat) (ov:List Bool) (tr:Bool) (s:List Edg) (l:List Int):Option (List Edg) :=
 (impl_State_moved.f k ov tr l).bind fun mm=>(impl_State_code.f k mm.1 mm.2).bind fun cd=>some (s ++ [(cd,1,l)])
def keepOut (k:Nat) (n:Int) (l0:List (List Int)) (m:Int) (code:Int):Option (List Edg) :=
 (impl_stateOf.f k n code).bind fun st=>(impl_Keep_rides.f k n l0 m st.1 st.2).bind fun gs=>if gs.length≤1048576 then gs.foldlM (keepStep k st.1 st.2) [] else none
set_option maxHeartbeats 8000000 in
set_option maxRecDepth 100000 in
theorem keep_out (k:Nat) (n:Int) (A0:Option Addr) (c0:Nat) (l0:List (List Int)) (m:Int) (pc:Nat) (W0:World) (hbc:W0.heap[pc]? = some (.cells #[.int .i64 n, .slice A0 l0.length c0, .int .i64 m] 32 (0,0))) (hr0:Kd.C (Kd.slice 3 (Kd.int .i64)) W0 A0 l0.length l0) (hc0:l0.length≤c0):OutOk 114 #[.pointer (some ⟨pc,0,none⟩)] (keepOut k n l0 m) W0:=by
 intro W hW code es hs;have hu0:=Try.underlying32
 have hu1:=Try.underlying73
 have hub:=Try.underlying34
 have hue:=Try.underlying115
 have hinfoE:=am' (show (Try.prog.info? 115).map (fun i=>(i.zero,i.size,i.bytes))=some (some (.agg #[.int .i64 0, .int .i64 0, .slice none 0 0]),3,40) by kernel_rfl)
 unfold keepOut at hs
 obtain ⟨⟨ov,tr⟩,hst,hs⟩:=Option.bind_eq_some_iff.mp hs
 obtain ⟨gs,hgs,hs⟩:=Option.bind_eq_some_iff.mp hs
 dsimp only at hgs hs
 by_cases hlen:gs.length≤1048576
 ·
  rw[if_pos hlen] at hs;have HLEN:=am' hlen;have HFO:=am' hs;have HST:=am' (impl_stateOf.calls k n code ov tr W hst);have HK0:=am' (fun (W1:World) (hb:Below W.heap.size W W1)=>cb' (cb' hr0 hW) hb);have HRD:=am' (fun (W1:World) (hb:Below W.heap.size W W1) (A2:Option Addr) (c2:Nat) (hC:Kd.C Kd.bool W1 A2 ov.length ov) (hl:ov.length≤c2)=>impl_Keep_rides.calls k n A0 c0 l0 m A2 c2 ov tr gs W1 (HK0.out W1 hb) hc0 hC hl hgs);have BC:=am' (bb' hbc hW);have xn:W.cell? ⟨pc,0,none⟩=some (.int .i64 n):=(bc' BC.out 0).trans rfl;clear hbc hW hr0 hst hgs hs hlen;go_enter Try.func114,Try.ntmps114;go_wp2_with fail;refine HST.out.mono ?_
  rintro e w1 ⟨v1,rfl,ho1,hb1⟩
  obtain ⟨A2,c2,rfl,hc2,hC2⟩:=Kd.R_reads ho1;have HB1:=am' hb1;have HF2:=am' (Kd.R_F (Kd.R_bound ho1));have HL2:=am' hc2;have HB2:=am' (three_blocks w1 (.cells #[] 115) (.cells #[.slice A2 ov.length c2, .bool tr] 73) (.cells #[.slice A2 ov.length c2, .bool tr] 34));have HW2:=am' (bt' hb1 HB2.out.2.2.2);have HC2:=am' (cb' hC2 HB2.out.2.2.2);have xc0:(((w1.alloc (.cells #[] 115)).alloc (.cells #[.slice A2 ov.length c2, .bool tr] 73)).alloc (.cells #[.slice A2 ov.length c2, .bool tr] 34)).cell? ⟨pc,0,none⟩=some (.int .i64 n):=(bc' (bb' BC.out HW2.out) 0).trans rfl;have xc1:(((w1.alloc (.cells #[] 115)).alloc (.cells #[.slice A2 ov.length c2, .bool tr] 73)).alloc (.cells #[.slice A2 ov.length c2, .bool tr] 34)).cell? ⟨pc,1,none⟩=some (.slice A0 l0.length c0):=(bc' (bb' BC.out HW2.out) 1).trans rfl;have xc2:(((w1.alloc (.cells #[] 115)).alloc (.cells #[.slice A2 ov.length c2, .bool tr] 73)).alloc (.cells #[.slice A2 ov.length c2, .bool tr] 34)).cell? ⟨pc,2,none⟩=some (.int .i64 m):=(bc' (bb' BC.out HW2.out) 2).trans rfl;have xs0:(((w1.alloc (.cells #[] 115)).alloc (.cells #[.slice A2 ov.length c2, .bool tr] 73)).alloc (.cells #[.slice A2 ov.length c2, .bool tr] 34)).cell? ⟨w1.heap.size+1+1,0,none⟩=some (.slice A2 ov.length c2):=(bc' HB2.out.2.2.1 0).trans rfl;have xs1:(((w1.alloc (.cells #[] 115)).alloc (.cells #[.slice A2 ov.length c2, .bool tr] 73)).alloc (.cells #[.slice A2 ov.length c2, .bool tr] 34)).cell? ⟨w1.heap.size+1+1,1,none⟩=some (.bool tr):=(bc' HB2.out.2.2.1 1).trans rfl;clear xn ho1 hb1 hC2 hc2;go_wp2_with fail;generalize ((w1.alloc (.cells #[] 115)).alloc (.cells #[.slice A2 ov.length c2, .bool tr] 73)).alloc (.cells #[.slice A2 ov.length c2, .bool tr] 34)=W2 at HB2 HW2 HC2 xc0 xc1 xc2 xs0 xs1 ⊢
  refine (HRD.out W2 HW2.out A2 c2 HC2.out HL2.out).mono ?_
  rintro e w3 ⟨v3,rfl,ho3,hb3⟩
  obtain ⟨f,hf⟩:=ho3;obtain ⟨A3,c3,hv3⟩:=Kd.R_slice hf;rw[List.length_zipIdx] at hv3;subst hv3;have HF:=am' hf;have HW3:=am' (bt' HW2.out hb3);have HSZ:=am' (show w1.heap.size+2≤W2.heap.size∧W2.heap.size≤w3.heap.size∧W.heap.size≤w1.heap.size from ⟨by have:=blk_lt HB2.out.2.2.1;omega,hb3.size,HB1.out.size⟩);have HE0:=am' (bb' HB2.out.1 hb3);have HS0:=am' (bb' HB2.out.2.2.1 hb3);have HF2:=am' (Kd.F_below HF2.out (bt' HB2.out.2.2.2 hb3));have HLEN2:=am' (show ((gs.length:Nat):Int)≤1048576 by have:=HLEN.out;omega);clear hf hb3 xc0 xc1 xc2 xs0 xs1;go_wp2_with fail;go_loopg [5,8,23] gs.length (fun gg v7 v9 v19 wr=>∃ (acc:List Edg) (Ao:Option Addr) (co:Nat),v7 = .slice Ao acc.length co∧v19 = .int .i64 (acc.length:Int)∧Aside0 (acc.length≤gs.length)∧Aside0 (gs.length - acc.length≤gg)∧Aside0 ((gs.drop acc.length).foldlM (keepStep k ov tr) acc=some es)∧Aside0 ((Kd.tag f EdgK).R 115 wr W.heap.size (fun _=>True) (.slice Ao acc.length co) acc.zipIdx)∧Aside0 (∀ k,(Value.slice Ao acc.length co).ownBlock=some k→k=w1.heap.size∨w3.heap.size≤k)∧Aside0 (Kept w3 wr (fun k=>k=w1.heap.size))∧Aside0 (Below W.heap.size W wr))
  case atStart=>exact ⟨[],_,_,rfl,rfl,⟨Nat.zero_le _⟩,⟨Nat.le_refl _⟩,HFO,⟨R_empty _ HE0.out HB1.out.size⟩,⟨fun k hk => .inl (os' (show some _=some _ from hk)).symm⟩,⟨Kept.refl _ _⟩,HW3⟩
  case round =>
   obtain ⟨acc,Ao,co,rfl,rfl,HX,HGG,HE,HSA,HOW,HKP,HWR⟩:=hrel;by_cases hj:acc.length < gs.length
   ·
    have hjz:((acc.length:Nat):Int) < ((gs.length:Nat):Int):=by omega
    have hjd:=dt' hjz;have HJ:=am' hj;obtain ⟨l,hl⟩:∃ x,x=gs[acc.length]:=⟨_,rfl⟩
    have hE:=HE.out;rw[List.drop_eq_getElem_cons hj,← hl,List.foldlM_cons] at hE;obtain ⟨acc2,hE1,hE2⟩:=Option.bind_eq_some_iff.mp hE;unfold keepStep at hE1
    obtain ⟨⟨mo,mt⟩,hmv,hE1⟩:=Option.bind_eq_some_iff.mp hE1;obtain ⟨cd,hcd,hE1⟩:=Option.bind_eq_some_iff.mp hE1;dsimp only at hmv hcd
    obtain rfl:=os' hE1;have HE2:=am' hE2;obtain ⟨g,Ai,ci,hA3,hxl,hgl,hgb,hrow⟩:=row_at HF.out acc.length l (by rw[List.getElem?_eq_getElem hj,hl]) rfl;have xl:=cell_kept hxl HKP.out (fun q=>by dsimp only at q;have:=HSZ.out;omega);have HRW:=am' (Kd.R_lower (Kd.R_kept hrow HKP.out (fun k hk q=>by have h1:=hk.2.1;have h2:=HSZ.out;omega)) (show W.heap.size≤W2.heap.size by have:=HSZ.out;omega));obtain ⟨_,hci,hCl⟩:=Kd.R_reads' HRW.out;have HCL:=am' hCl;have HCI:=am' hci;have HS2:=am' (blk_kept HS0.out HKP.out (fun q=>by omega));have HC3:=am' (Kd.F_now (Kd.F_kept HF2.out HKP.out (fun k hk q=>by have h1:=hk.2.2.1;omega)));have HM:=am' (fun (W1:World) (hb:Below wr.heap.size wr W1)=>ridden_any k A2 c2 ov tr Ai ci l mo mt W1 (cb' HC3.out hb) HL2.out (cb' HCL.out hb) HCI.out hmv);have HC:=am' (fun (W1:World) (A3:Option Addr) (c3:Nat) (hc:Kd.C Kd.bool W1 A3 mo.length mo) (hl:mo.length≤c3)=>impl_State_code.calls k A3 c3 mo mt cd W1 hc hl hcd);have xs0:wr.cell? ⟨w1.heap.size+1+1,0,none⟩=some (.slice A2 ov.length c2):=(bc' HS2.out 0).trans rfl;have xs1:wr.cell? ⟨w1.heap.size+1+1,1,none⟩=some (.bool tr):=(bc' HS2.out 1).trans rfl;subst hA3;clear hj hE hE1 hE2 hmv hcd hxl hgl hgb hrow hci hCl hl HE HX;have HWW:=am' (Below.refl wr.heap.size wr);go_wp2_with fail;refine (HM.out wr HWW.out).mono ?_
    rintro e w5 ⟨v5,rfl,ho5,hb5⟩
    obtain ⟨A5,c5,rfl,hc5,hC5⟩:=Kd.R_reads ho5;have HW5:=am' (bt' HWW.out hb5);have HL5:=am' hc5;have HC5:=am' hC5;clear ho5 hb5 hc5 hC5;go_wp2_with fail;refine (state_any A5 mo.length c5 mt _).mono ?_
    rintro e w5b ⟨rfl,hb5b⟩
    have HW5b:=am' (bt' HW5.out hb5b);have HC5b:=am' (cb' HC5.out hb5b);clear hb5b;go_wp2_with fail;refine (HC.out w5b A5 c5 HC5b.out HL5.out).mono ?_
    rintro e w6 ⟨rfl,hb6⟩
    have HW6:=am' (bt' HW5b.out hb6);clear hb6;go_wp2_with ((with_reducible refine gate_builtin (b := .append) (xs:=#[.tmp 27, .tmp 35]) rfl ?_);at_builtin;refine Kd.R_append (Kd.tag f EdgK) (w0:=W) W.heap.size rfl (.tmp 27) (.tmp 35) 112 115 (.agg #[.int .i64 0, .int .i64 0, .slice none 0 0]) 40 rfl Try.underlying112 hinfoE.out rfl (show 0 < EdgK.sz by decide) (by omega) (.slice Ao acc.length co) acc.zipIdx ((cd,1,l),acc.length) [.int .i64 cd, .int .i64 1, .slice Ai l.length ci] (fun _=>True) (fun k=>f k=acc.length∧W2.heap.size≤k∧k < w3.heap.size) rfl (by first|rfl|(rw[World.size_alloc];rfl)) ?aP ?aK (fun _ _=>trivial) ?aO ?aB ?aS ?aL ?_;(case aP=>exact M_edgeC (Kd.R_mono (rb' HRW.out HW6.out) (fun k hk=>⟨hk,hk.1⟩)));(case aK=>exact fun k hk=>⟨trivial,fun q=>by have h1:=HOW.out k q.symm;have h2:=hk.2;have h3:=HSZ.out;omega⟩);(case aO=>exact rb' HSA.out HW6.out);(case aB=>exact bt' HWR.out HW6.out);(case aS=>exact Nat.le_trans HWR.out.size HW6.out.size);(case aL=>have h1:=HJ.out;have h2:=HLEN.out;rw[List.length_zipIdx];omega);intro v1 w7 ho hb hg hat;rw[← Kd.zip_snoc] at ho;obtain ⟨A7,c7,e7⟩:=Kd.R_slice ho;rw[List.length_zipIdx] at e7;subst e7;have HO7:=am' ho;have HB7:=am' hb;have HK7:=am' (Kept.of_grown hg (Kept.below HKP.out HW6.out) (fun k hk=>HOW.out k hk));have HOW7:=am' (show ∀ k,(Value.slice A7 (acc ++ [(cd,1,l)]).length c7).ownBlock=some k→k=w1.heap.size∨w3.heap.size≤k from fun k hk=>by rcases hat with q|⟨b,q,hbb⟩;exact HOW.out k (q.symm.trans hk);have q2:=os' (q.symm.trans hk);have h3:=HKP.out.1;have h4:=HW6.out.size;omega);clear ho hb hg hat);go_roundg (gs.length - (acc.length+1))
    case measure=>have h1:=HGG.out;have h2:=HJ.out;omega
    case rel=>exact ⟨acc ++ [(cd,1,l)],A7,c7,by first|rfl|rw[List.length_append,List.length_singleton],by rw[List.length_append,List.length_singleton];have h1:=HJ.out;have h2:=HLEN.out;first|exact nx (by omega)|exact nx2 (by omega)|exact rfl,⟨by rw[List.length_append,List.length_singleton];exact HJ.out⟩,⟨by rw[List.length_append,List.length_singleton];exact Nat.le_refl _⟩,⟨by rw[List.length_append,List.length_singleton];exact HE2.out⟩,HO7,HOW7,HK7,HB7⟩
   ·
    have hjz:¬ ((acc.length:Nat):Int) < ((gs.length:Nat):Int):=by omega
    have hjd:=df' hjz;have hE:=HE.out;rw[List.drop_eq_nil_of_le (by omega),List.foldlM_nil] at hE;obtain rfl:=os' hE;have HSF:=am' (show Kd.S EdgK 115 wr W.heap.size (fun _=>True) (.slice Ao acc.length co) acc from ⟨f,HSA.out⟩);clear hE;go_wp2;go_ret
    exact ⟨_,rfl,HSF.out,HWR.out⟩
 ·
  rw[if_neg hlen] at hs;cases hs
theorem blk_put2 {W:World} {g h:Nat} {o:Obj} {v0 v1:Value} (hb:W.heap[h]? = some o) (hne:h≠g):((W.setCell ⟨g,0,none⟩ v0).setCell ⟨g,1,none⟩ v1).heap[h]? = some o:=blk_kept hb (put2_kept W g v0 v1) hne
theorem bkI_up {o1 o2:Int→Option (List Edg)} (ho:∀ s,LeO (o1 s) (o2 s)) (d:Nat):∀ k i dist wt,LeO (bkI o1 d k i dist wt) (bkI o2 d (k+1) i dist wt):=by
 intro k;induction k with
 | zero=>intro i dist wt r h;simp[bkI] at h
 | succ k ih =>
  intro i dist wt;rw[bkI,bkI];exact LeO.ite (LeO.ite (LeO.ite (ih _ _ _) (LeO.bind (ho _) (fun _=>LeO.bind (LeO.refl _) (fun _=>ih _ _ _)))) (LeO.refl _)) (LeO.refl _)
theorem bkD_up {o1 o2:Int→Option (List Edg)} (ho:∀ s,LeO (o1 s) (o2 s)):∀ k d dist wt,LeO (bkD o1 k d dist wt) (bkD o2 (k+1) d dist wt):=by
 intro k;induction k with
 | zero=>intro d dist wt r h;simp[bkD] at h
 | succ k ih =>
  intro d dist wt;rw[bkD,bkD];exact LeO.ite (LeO.ite (LeO.bind (bkI_up ho d _ _ _ _) (fun _=>ih _ _ _)) (LeO.refl _)) (LeO.refl _)
theorem pow_le8 {n:Nat} (h:n≤8):0 < 2 ^ (n+1)∧2 ^ (n+1)≤1024∧wrap64 (2 * 2 ^ min n 64)=((2 ^ (n+1):Nat):Int):=by
 have:n=0∨n=1∨n=2∨n=3∨n=4∨n=5∨n=6∨n=7∨n=8:=by omega
 rcases this with rfl|rfl|rfl|rfl|rfl|rfl|rfl|rfl|rfl <;> exact ⟨by decide,by decide,by decide +kernel⟩
theorem R_one {w:World} {b base:Nat} {x:Int} {e:Nat} (h:w.heap[b]? = some (.cells #[.int .i64 x] e (0,0))) (hB:base≤b):(Kd.int .i64).R e w base (fun _=>True) (.slice (some ⟨b,0,none⟩) 1 1) [x]:=by
 refine Kd.R_of_own ?_ (fun k hk=>trivial)
 exact ⟨by simp[encs], .inr ⟨b,1,_,rfl,hB,h,Nat.le_refl _,by decide,by simp,by simp[encs]⟩⟩
set_option maxHeartbeats 2000000 in
set_option maxRecDepth 100000 in
theorem keep_graph2 (nn:Nat) (A0:Option Addr) (c0:Nat) (l0:List (List Int)) (m:Int) (w:World):Calls Try.prog 88 #[.agg #[.int .i64 (nn:Int), .slice A0 l0.length c0, .int .i64 m]] w fun e w'=>∃ pp,e = .returned (.agg #[.int .i64 (wrap64 (2 * 2 ^ min nn 64)), .func (.func 114) #[] #[.pointer (some ⟨pp,0,none⟩)]])∧w'.heap[pp]? = some (.cells #[.int .i64 (nn:Int), .slice A0 l0.length c0, .int .i64 m] 32 (0,0))∧w.heap.size≤pp∧Below w.heap.size w w':=by
 have hu:=Try.underlying32
 have hug:=Try.underlying84
 have HB:=am' (two_blocks w (.cells #[.int .i64 (nn:Int), .slice A0 l0.length c0, .int .i64 m] 32) (.cells #[.int .i64 (wrap64 (2 * 2 ^ min nn 64)), .func (.func 114) #[] #[.pointer (some ⟨w.heap.size,0,none⟩)]] 84))
 go_enter Try.func88,Try.ntmps88
 go_wp2_with fail
 refine bodyPost_ret (results_cell_row rfl _ _ (w.heap.size+1) 84 #[.int .i64 (wrap64 (2 * 2 ^ min nn 64)), .func (.func 114) #[] #[.pointer (some ⟨w.heap.size,0,none⟩)]] (0,0) _ rfl HB.out.2.1 Try.underlying84 rfl xk') rfl ?_
 exact ⟨_,rfl,HB.out.1,Nat.le_refl _,HB.out.2.2⟩
def impl_Keep_costs.f (k:Nat) (nn:Nat) (l0_1:List (List Int)) (a0_2:Int):Option (List Int × Bool) :=
 if nn≤8 then (impl_last.f (nn:Int)).bind fun st=>(bkD (keepOut k (nn:Int) l0_1 a0_2) k 0 (List.replicate (2 ^ (nn+1)) (-1)) [[st]]).bind fun r=>if r.length=2 ^ (nn+1) then some (r,decide (0≤rd r 0)) else none else none
set_option maxHeartbeats 4000000 in
set_option maxRecDepth 100000 in
theorem impl_Keep_costs.calls (k:Nat) (nn:Nat) (A0_1:Option Addr) (c0_1:Nat) (l0_1:List (List Int)) (a0_2:Int) (r:List Int) (ok:Bool) (w:World) (hr0_1:Kd.C (Kd.slice 3 (Kd.int .i64)) w A0_1 l0_1.length l0_1) (hc0_1:l0_1.length≤c0_1) (h:impl_Keep_costs.f k nn l0_1 a0_2=some (r,ok)) :
  Calls Try.prog 72 #[.agg #[.int .i64 (nn:Int), .slice A0_1 l0_1.length c0_1, .int .i64 a0_2]] w fun e w'=>∃ pp v,e = .returned (.tuple #[.agg #[.int .i64 (wrap64 (2 * 2 ^ min nn 64)), .func (.func 114) #[] #[.pointer (some ⟨pp,0,none⟩)]],v, .bool ok])∧w'.heap[pp]? = some (.cells #[.int .i64 (nn:Int), .slice A0_1 l0_1.length c0_1, .int .i64 a0_2] 32 (0,0))∧(Kd.int .i64).R 3 w' w.heap.size (fun _=>True) v r∧(r.length=2 ^ (nn+1)∧nn≤8)∧Below w.heap.size w w':=by
 have hu:=Try.underlying32
 have hug:=Try.underlying84
 unfold impl_Keep_costs.f at h
 have HF0_1:=am' hr0_1
 have HC0_1:=am' hc0_1
 have HL2:=am' (two_blocks w (.cells #[.int .i64 (nn:Int), .slice A0_1 l0_1.length c0_1, .int .i64 a0_2] 32) (.cells #[.int .i64 0,Value.nilFunc] 84))
 obtain ⟨mv,hmv⟩:∃ x,x=wrap64 (2 * 2 ^ min nn 64):=⟨_,rfl⟩
 by_cases hl8:nn≤8
 ·
  rw[if_pos hl8] at h;have HG:=am' (fun (W:World)=>keep_graph2 nn A0_1 c0_1 l0_1 a0_2 W);rw[← hmv] at HG ⊢;have HMV:=am' hmv;clear hmv hr0_1 hc0_1;obtain ⟨st,hst,h⟩:=Option.bind_eq_some_iff.mp h;obtain ⟨rr,hd,h⟩:=Option.bind_eq_some_iff.mp h;by_cases hlen:rr.length=2 ^ (nn+1)
  ·
   rw[if_pos hlen] at h;simp only[Option.some.injEq,Prod.mk.injEq] at h;obtain ⟨rfl,rfl⟩:=h;obtain ⟨hp0,hp1,hp2⟩:=pow_le8 hl8;obtain ⟨N,hN⟩:∃ x,x=2 ^ (nn+1):=⟨_,rfl⟩
   rw[← hN] at hp0 hp1 hp2 hd hlen;have HN:=am' hN;have hmvN:=HMV.out.trans hp2;have HMN:=am' hmvN;have HD:=am' hd;have HLEN:=am' hlen;have HST:=am' (fun (W:World)=>impl_last.calls (nn:Int) st W hst);have HP0:=am' hp0;have HP1:=am' hp1;have HL8:=am' hl8;clear hp0 hp1 hp2 hN hmvN hd hlen hst hl8;go_enter Try.func72,Try.ntmps72;go_wp2_with fail;refine (HG.out _).mono ?_
   rintro e w3 ⟨pp,rfl,hpp,hnew,hb3⟩
   have J5:=am' (heap_alloc_new w3 (.cells #[.int .i64 mv, .func (.func 114) #[] #[.pointer (some ⟨pp,0,none⟩)]] 84));have J1:=am' (ka' (bb' HL2.out.1 hb3) (.cells #[.int .i64 mv, .func (.func 114) #[] #[.pointer (some ⟨pp,0,none⟩)]] 84));have HP2L:=am' (blk_lt (bb' HL2.out.2.1 hb3));have J2:=am' (ka' (bb' HL2.out.2.1 hb3) (.cells #[.int .i64 mv, .func (.func 114) #[] #[.pointer (some ⟨pp,0,none⟩)]] 84));have JP:=am' (ka' hpp (.cells #[.int .i64 mv, .func (.func 114) #[] #[.pointer (some ⟨pp,0,none⟩)]] 84));have NEp:=am' (show pp≠w.heap.size+1 from fun q=>by have h1:=hnew;have h2:=blk_lt HL2.out.2.1;omega);have HBJ:=am' (ba' (bt' HL2.out.2.2 hb3) (.cells #[.int .i64 mv, .func (.func 114) #[] #[.pointer (some ⟨pp,0,none⟩)]] 84));have x10:(w3.alloc (.cells #[.int .i64 mv, .func (.func 114) #[] #[.pointer (some ⟨pp,0,none⟩)]] 84)).cell? ⟨w.heap.size,0,none⟩=some (.int .i64 (nn:Int)):=(bc' J1.out 0).trans rfl;have x50:(w3.alloc (.cells #[.int .i64 mv, .func (.func 114) #[] #[.pointer (some ⟨pp,0,none⟩)]] 84)).cell? ⟨w3.heap.size,0,none⟩=some (.int .i64 mv):=(bc' J5.out 0).trans rfl;have x51:(w3.alloc (.cells #[.int .i64 mv, .func (.func 114) #[] #[.pointer (some ⟨pp,0,none⟩)]] 84)).cell? ⟨w3.heap.size,1,none⟩=some (.func (.func 114) #[] #[.pointer (some ⟨pp,0,none⟩)]):=(bc' J5.out 1).trans rfl;obtain ⟨c0_,f0_,c1_,f1_⟩:=put2 J2.out (.int .i64 mv) (.func (.func 114) #[] #[.pointer (some ⟨pp,0,none⟩)]);clear hpp hnew hb3;go_wp2_with fail;generalize hw5:w3.alloc (.cells #[.int .i64 mv, .func (.func 114) #[] #[.pointer (some ⟨pp,0,none⟩)]] 84)=w5 at J5 J1 J2 JP HBJ x10 x50 x51 c0_ f0_ c1_ f1_ ⊢
   clear hw5;refine start_ (n:=7) (S:=fun w'=>w'.cell? ⟨w3.heap.size,0,none⟩=some (.int .i64 mv)∧w'.cell? ⟨w3.heap.size,1,none⟩=some (.func (.func 114) #[] #[.pointer (some ⟨pp,0,none⟩)])∧w'.cell? ⟨w.heap.size,0,none⟩=some (.int .i64 (nn:Int))) (ds:=[]) #[false,false,false,false,false,false,false] xk' rfl rfl ⟨x50,x51,x10⟩ (fun hHeld=>?_);refine take_ (i:=0) (N:=some 9) (v:=?_) (a':=?_) #[true,false,false,false,false,false,false] rfl rfl xk' (fun _ _ _ h=>h) (Or.inl ⟨by rfl,?_⟩) hHeld ?_ ?_
   rotate_left
   ·
    rintro w' ⟨s0_,s1_,s2_⟩
    go_simp;with_reducible rfl
   rotate_left
   ·
    simp only[Act.put,sa',sb',sc',i64_w,i32_w];rfl
   refine pure_ (i:=1) (N:=some 10) (v:=?_) (a':=?_) #[true,true,false,false,false,false,false] rfl rfl xk' (fun _ _ _ h=>h) (Or.inl ⟨by rfl,?_⟩) ?_ ?_
   rotate_left
   ·
    intro w';go_simp;with_reducible rfl
   rotate_left
   ·
    simp only[Act.put,sa',sb',sc',i64_w,i32_w];rfl
   refine take_ (i:=2) (N:=some 11) (v:=?_) (a':=?_) #[true,true,true,false,false,false,false] rfl rfl xk' (fun _ _ _ h=>h) (Or.inl ⟨by rfl,?_⟩) hHeld ?_ ?_
   rotate_left
   ·
    rintro w' ⟨s0_,s1_,s2_⟩
    go_simp;with_reducible rfl
   rotate_left
   ·
    simp only[Act.put,sa',sb',sc',i64_w,i32_w];rfl
   refine one_ (i:=3) (N:=some 12) #[true,true,true,true,false,false,false] rfl rfl xk' (by decide) (fun K hK=>?_);refine goes_ Try.func106 xk' rfl #[.int .i64 (nn:Int)] (by rfl) rfl rfl (by (try simp only[List.map_toArray,List.map_cons,List.map_nil]);first|done|rfl) ?_
   refine (HST.out _).mono ?_
   rintro e w6 ⟨rfl,⟨nd,rfl⟩⟩
   refine ⟨_,rfl,?_⟩;refine hK.out _ _ ⟨x50,x51,x10⟩ (fun hHeld=>?_);clear hK K;refine norm_ (a':=?_) ?_ ?_
   rotate_left
   ·
    show Act.put _ (some 12) _=_
    simp only[Act.put,sa',sb',sc',i64_w,i32_w];rfl
   refine one_ (i:=4) (N:=some 13) #[true,true,true,true,true,false,false] rfl rfl xk' (by decide) (fun K hK=>?_);refine value_ (v := .slice (some ⟨w5.heap.size,0,none⟩) 1 1) (w1:=((w5.drew.drewN nd).alloc (.cells #[.int .i64 st] 3))) (by rfl) rfl ?_ ?_
   ·
    go_simp
   refine hK.out _ _ ⟨((ba' (bd' (below_drew (Below.refl w5.heap.size w5)) nd) _).cell (bl' w5 _ x50)).trans x50,((ba' (bd' (below_drew (Below.refl w5.heap.size w5)) nd) _).cell (bl' w5 _ x51)).trans x51,((ba' (bd' (below_drew (Below.refl w5.heap.size w5)) nd) _).cell (bl' w5 _ x10)).trans x10⟩ (fun hHeld=>?_);clear hK K;refine norm_ (a':=?_) ?_ ?_
   rotate_left
   ·
    show Act.put _ (some 13) _=_
    simp only[Act.put,sa',sb',sc',i64_w,i32_w];rfl
   refine one_ (i:=5) (N:=some 14) #[true,true,true,true,true,true,false] rfl rfl xk' (by decide) (fun K hK=>?_);have HSTB:=am' (ba' (bd' (below_drew (Below.refl w5.heap.size w5)) nd) (.cells #[.int .i64 st] 3));refine goes_ Try.func105 xk' rfl #[.agg #[.int .i64 mv, .func (.func 114) #[] #[.pointer (some ⟨pp,0,none⟩)]], .slice (some ⟨w5.heap.size,0,none⟩) 1 1] (by rfl) rfl rfl (by (try simp only[List.map_toArray,List.map_cons,List.map_nil]);first|done|rfl) ?_
   rw[HMN.out];refine (from_any 114 #[.pointer (some ⟨pp,0,none⟩)] (keepOut k (nn:Int) l0_1 a0_2) k N [st] rr w5 _ (enters_of Try.func114 xk' rfl) (keep_out k (nn:Int) A0_1 c0_1 l0_1 a0_2 pp w5 JP.out (cb' HF0_1.out HBJ.out) HC0_1.out) (some ⟨w5.heap.size,0,none⟩) 1 (R_one (heap_alloc_new (w5.drew.drewN nd) _) (Nat.le_refl _)) HSTB.out HP0.out HP1.out HD.out).mono ?_
   rintro e w7 ⟨v7,rfl,hr7,hb7⟩
   obtain ⟨gd,cd,hv7,_⟩:=Kd.R_form hr7 (by have h1:=HLEN.out;have h2:=HP0.out;omega);rw[HLEN.out] at hv7;subst hv7;have HR7:=am' hr7;have M1:=am' (bb' J1.out hb7);have M2:=am' (bb' J2.out hb7);have M5:=am' (bb' J5.out hb7);have MP:=am' (bb' JP.out hb7);have HBN:=am' (bt' HBJ.out hb7);have HW56:=am' (Nat.le_refl w5.heap.size);have m50:w7.cell? ⟨w3.heap.size,0,none⟩=some (.int .i64 mv):=(bc' M5.out 0).trans rfl;have m51:w7.cell? ⟨w3.heap.size,1,none⟩=some (.func (.func 114) #[] #[.pointer (some ⟨pp,0,none⟩)]):=(bc' M5.out 1).trans rfl;have m10:w7.cell? ⟨w.heap.size,0,none⟩=some (.int .i64 (nn:Int)):=(bc' M1.out 0).trans rfl;clear hr7 hb7 x10 x50 x51 c0_ f0_ c1_ f1_;refine ⟨_,rfl,?_⟩;refine hK.out _ _ ⟨m50,m51,m10⟩ (fun hHeld=>?_);clear hK K;refine norm_ (a':=?_) ?_ ?_
   rotate_left
   ·
    show Act.put _ (some 14) _=_
    simp only[Act.put,sa',sb',sc',i64_w,i32_w];rfl
   refine pure_ (i:=6) (N:=some 6) (v:=?_) (a':=?_) #[true,true,true,true,true,true,true] rfl rfl xk' (fun _ _ _ h=>h) (Or.inl ⟨by rfl,?_⟩) ?_ ?_
   rotate_left
   ·
    intro w';go_simp;with_reducible rfl
   rotate_left
   ·
    simp only[Act.put,sa',sb',sc',i64_w,i32_w];rfl
   refine done_ xk' ?_
   go_wp2_with fail;obtain ⟨dv,hdv⟩:∃ x,x=rd rr 0:=⟨_,rfl⟩
   have hx0:w7.cell? ⟨gd,0,none⟩=some (.int .i64 dv):=by
    have:=(Kd.R_celln 0 HR7.out 0 (by omega) (by have:=HP0.out;omega)).1;rw[hdv];simpa [rd,rdOf] using this
   have hl0:(0:Int) < (N:Int):=by have:=HP0.out;omega
   have hl1:0 < N:=HP0.out;have HDV:=am' hdv;clear hdv;have HKP:=am' (put2_kept w7 (w.heap.size+1) (.int .i64 mv) (.func (.func 114) #[] #[.pointer (some ⟨pp,0,none⟩)]));have hz2:=blk_lt M2.out;have HGD:=am' (show gd≠w.heap.size+1 from fun q=>by have h1:=Kd.R_base HR7.out gd (by simp[Value.ownBlock]);have h3:=blk_lt J2.out;have h4:=HW56.out;omega);have q0:=cell_kept m50 HKP.out (fun q=>by dsimp only at q;have:=HP2L.out;omega);have q1:=cell_kept m51 HKP.out (fun q=>by dsimp only at q;have:=HP2L.out;omega);have q2:=cell_kept hx0 HKP.out (fun q=>HGD.out q);obtain ⟨c0_,f0_,c1_,f1_⟩:=put2 M2.out (.int .i64 mv) (.func (.func 114) #[] #[.pointer (some ⟨pp,0,none⟩)]);clear hz2;refine start_ (n:=9) (S:=fun w'=>w'.cell? ⟨w3.heap.size,0,none⟩=some (.int .i64 mv)∧w'.cell? ⟨w3.heap.size,1,none⟩=some (.func (.func 114) #[] #[.pointer (some ⟨pp,0,none⟩)])∧w'.cell? ⟨gd,0,none⟩=some (.int .i64 dv)) (ds:=[]) #[false,false,false,false,false,false,false,false,false] xk' rfl rfl ⟨m50,m51,hx0⟩ (fun hHeld=>?_);refine take_ (i:=0) (N:=some 15) (v:=?_) (a':=?_) #[true,false,false,false,false,false,false,false,false] rfl rfl xk' (fun _ _ _ h=>h) (Or.inl ⟨by rfl,?_⟩) hHeld ?_ ?_
   rotate_left
   ·
    rintro w' ⟨s0_,s1_,s2_⟩
    go_simp;with_reducible rfl
   rotate_left
   ·
    simp only[Act.put,sa',sb',sc',i64_w,i32_w];rfl
   refine pure_ (i:=1) (N:=some 16) (v:=?_) (a':=?_) #[true,true,false,false,false,false,false,false,false] rfl rfl xk' (fun _ _ _ h=>h) (Or.inl ⟨by rfl,?_⟩) ?_ ?_
   rotate_left
   ·
    intro w';go_simp;with_reducible rfl
   rotate_left
   ·
    simp only[Act.put,sa',sb',sc',i64_w,i32_w];rfl
   refine pure_ (i:=2) (N:=some 17) (v:=?_) (a':=?_) #[true,true,true,false,false,false,false,false,false] rfl rfl xk' (fun _ _ _ h=>h) (Or.inl ⟨by rfl,?_⟩) ?_ ?_
   rotate_left
   ·
    intro w';go_simp;with_reducible rfl
   rotate_left
   ·
    simp only[Act.put,sa',sb',sc',i64_w,i32_w];rfl
   refine pure_ (i:=3) (N:=some 18) (v:=?_) (a':=?_) #[true,true,true,true,false,false,false,false,false] rfl rfl xk' (fun _ _ _ h=>h) (Or.inl ⟨by rfl,?_⟩) ?_ ?_
   rotate_left
   ·
    intro w';go_simp;with_reducible rfl
   rotate_left
   ·
    simp only[Act.put,sa',sb',sc',i64_w,i32_w];rfl
   refine take_ (i:=4) (N:=some 19) (v:=?_) (a':=?_) #[true,true,true,true,true,false,false,false,false] rfl rfl xk' (fun _ _ _ h=>h) (Or.inl ⟨by rfl,?_⟩) hHeld ?_ ?_
   rotate_left
   ·
    rintro w' ⟨s0_,s1_,s2_⟩
    go_simp;with_reducible rfl
   rotate_left
   ·
    simp only[Act.put,sa',sb',sc',i64_w,i32_w];rfl
   refine pure_ (i:=5) (N:=some 20) (v:=?_) (a':=?_) #[true,true,true,true,true,true,false,false,false] rfl rfl xk' (fun _ _ _ h=>h) (Or.inl ⟨by rfl,?_⟩) ?_ ?_
   rotate_left
   ·
    intro w';go_simp;with_reducible rfl
   rotate_left
   ·
    simp only[Act.put,sa',sb',sc',i64_w,i32_w];rfl
   refine one_ (i:=6) (N:=none) #[true,true,true,true,true,true,true,false,false] rfl rfl xk' (by decide) (fun K hK=>?_);refine skip_ (w1:=?_) (by rfl) rfl ?_ ?_
   rotate_left
   ·
    go_simp;rfl
   refine hK.out _ _ ⟨q0,q1,q2⟩ (fun hHeld=>?_);clear hK K;refine pure_ (i:=7) (N:=some 3) (v:=?_) (a':=?_) #[true,true,true,true,true,true,true,true,false] rfl rfl xk' (fun _ _ _ h=>h) (Or.inl ⟨by rfl,?_⟩) ?_ ?_
   rotate_left
   ·
    intro w';go_simp;with_reducible rfl
   rotate_left
   ·
    simp only[Act.put,sa',sb',sc',i64_w,i32_w];rfl
   refine pure_ (i:=8) (N:=some 4) (v:=?_) (a':=?_) #[true,true,true,true,true,true,true,true,true] rfl rfl xk' (fun _ _ _ h=>h) (Or.inl ⟨by rfl,?_⟩) ?_ ?_
   rotate_left
   ·
    intro w';go_simp;with_reducible rfl
   rotate_left
   ·
    simp only[Act.put,sa',sb',sc',i64_w,i32_w];rfl
   refine done_ xk' ?_
   have hsz5:=blk_lt J2.out;have hszw:=HBN.out.size;have h56:=HW56.out;have hRR:(Kd.int .i64).R 3 ((w7.setCell ⟨w.heap.size+1,0,none⟩ (.int .i64 mv)).setCell ⟨w.heap.size+1,1,none⟩ (.func (.func 114) #[] #[.pointer (some ⟨pp,0,none⟩)])) w.heap.size (fun _=>True) (.slice (some ⟨gd,0,none⟩) N cd) rr:=Kd.R_lower (Kd.R_mono (Kd.R_kept (Kd.R_bound HR7.out) HKP.out (fun k hk q=>by have h1:=hk.2.1;omega)) (fun _ _=>trivial)) (by omega);have hBB:Below w.heap.size w ((w7.setCell ⟨w.heap.size+1,0,none⟩ (.int .i64 mv)).setCell ⟨w.heap.size+1,1,none⟩ (.func (.func 114) #[] #[.pointer (some ⟨pp,0,none⟩)])):=bs' (bs' HBN.out (by omega)) (by omega);have HRR:=am' hRR;have HBB:=am' hBB;clear hRR hBB hsz5 hszw h56;go_wp2;refine bodyPost_ret (results_ctt rfl _ _ (w.heap.size+1) 84 #[.int .i64 mv, .func (.func 114) #[] #[.pointer (some ⟨pp,0,none⟩)]] (0,0) _ rfl (put2_blk M2.out _ _) Try.underlying84 rfl xk') rfl ?_
   refine ⟨pp, .slice (some ⟨gd,0,none⟩) N cd,by rw[← HDV.out];rfl,blk_put2 MP.out NEp.out,?_,⟨HLEN.out.trans HN.out,HL8.out⟩,?_⟩
   ·
    exact HRR.out
   ·
    first|exact HBB.out|exact below_drew HBB.out|exact bd' HBB.out _
  ·
   rw[if_neg hlen] at h;cases h
 ·
  rw[if_neg hl8] at h;cases h
def seatsK (k nn:Nat) (l0:List (List Int)):Nat→Int→Option Int
 | 0,s=>some s
 | n+1,s=>(impl_Keep_costs.f k nn l0 s).bind fun p=>if p.2=true then some s else seatsK k nn l0 n (s+1)
def impl_LeastSeats.f (k:Nat) (a0_0:Int) (l0_1:List (List Int)) (a0_2:Int):Option (Int × Bool):=(impl_IsKeep.f k a0_0 l0_1 a0_2).bind fun t=>if t=true then (if 0≤a0_0∧a0_0≤8 then ((seatsK k a0_0.toNat l0_1 8 0).bind fun s=>some (s,true)) else none) else some (0,false)
theorem blk3_put {W:World} {g t:Nat} {x0 x1 x2:Value} (h:W.heap[g]? = some (.cells #[x0,x1,x2] t (0,0))) (v:Value):(W.setCell ⟨g,2,none⟩ v).heap[g]? = some (.cells #[x0,x1,v] t (0,0)):=blk_put h 2 v rfl
set_option maxHeartbeats 2000000 in
set_option maxRecDepth 100000 in
theorem impl_LeastSeats.calls (k:Nat) (a0_0:Int) (A0_1:Option Addr) (c0_1:Nat) (l0_1:List (List Int)) (a0_2:Int) (r1:Int) (r2:Bool) (w:World) (hr0_1:Kd.C (Kd.slice 3 (Kd.int .i64)) w A0_1 l0_1.length l0_1) (hc0_1:l0_1.length≤c0_1) (h:impl_LeastSeats.f k a0_0 l0_1 a0_2=some (r1,r2)) :
  Calls Try.prog 28 #[.agg #[.int .i64 a0_0, .slice A0_1 l0_1.length c0_1, .int .i64 a0_2]] w fun e w'=>e = .returned (.tuple #[.int .i64 r1, .bool r2])∧Below w.heap.size w w':=by
 have hu:=Try.underlying32
 have hug:=Try.underlying84
 unfold impl_LeastSeats.f at h
 obtain ⟨t,ht,h⟩:=Option.bind_eq_some_iff.mp h
 have HT:=am' (fun (W:World) (hb:Below w.heap.size w W)=>impl_IsKeep.calls k a0_0 A0_1 c0_1 l0_1 a0_2 t W (cb' hr0_1 hb) hc0_1 ht)
 have HX:=am' (heap_alloc_new w (.cells #[.int .i64 a0_0, .slice A0_1 l0_1.length c0_1, .int .i64 a0_2] 32))
 clear ht;have HBX:=am' (ba' (Below.refl w.heap.size w) (.cells #[.int .i64 a0_0, .slice A0_1 l0_1.length c0_1, .int .i64 a0_2] 32))
 have HF0:=am' hr0_1
 have HC0:=am' hc0_1
 clear hr0_1 hc0_1;cases t with
 | false =>
  simp only[Bool.false_eq_true,if_false,Option.some.injEq,Prod.mk.injEq] at h;obtain ⟨rfl,rfl⟩:=h;go_enter Try.func28,Try.ntmps28;go_wp2_with fail;refine (HT.out _ HBX.out).mono ?_
  rintro e w2 ⟨rfl,hb⟩
  have HB:=am' (bt' HBX.out hb);clear hb;go_wp2;go_ret2
  exact ⟨rfl,HB.out⟩
 | true =>
  simp only[if_true] at h;by_cases hc4:0≤a0_0∧a0_0≤8
  case neg=>rw [if_neg hc4] at h;cases h
  rw[if_pos hc4] at h;obtain ⟨cn,hcn⟩:∃ cn:Nat,a0_0=(cn:Int):=⟨a0_0.toNat,by omega⟩
  subst hcn;rw[Int.toNat_natCast] at h;obtain ⟨sr,hsr,h⟩:=Option.bind_eq_some_iff.mp h;simp only[Option.some.injEq,Prod.mk.injEq] at h;obtain ⟨rfl,rfl⟩:=h;have HE:=am' (show seatsK k cn l0_1 8 ((0:Nat):Int)=some sr from hsr);clear hsr hc4;go_enter Try.func28,Try.ntmps28;go_wp2_with fail;refine (HT.out _ HBX.out).mono ?_
  rintro e w1 ⟨rfl,hb0⟩
  have HX2:=am' (bb' HX.out hb0);have HBX:=am' (bt' HBX.out hb0);clear hb0;have x12:w1.cell? ⟨w.heap.size,2,none⟩=some (.int .i64 a0_2):=(bc' HX2.out 2).trans rfl;have f12:=bf' HX2.out 2;go_wp2;go_loopg [5,6] 8 (fun gg _ _ wr=>∃ n s:Nat,Aside0 (n≤gg)∧Aside0 (s+n=8)∧Aside0 (seatsK k cn l0_1 n (s:Int)=some sr)∧Aside0 (wr.heap[w.heap.size]? = some (.cells #[.int .i64 (cn:Int), .slice A0_1 l0_1.length c0_1, .int .i64 (s:Int)] 32 (0,0)))∧Aside0 (Below w.heap.size w wr))
  case atStart=>exact ⟨8,0,⟨by omega⟩,⟨by omega⟩,HE,⟨blk3_put HX2.out _⟩,⟨bs' HBX.out (Nat.le_refl _)⟩⟩
  case round =>
   obtain ⟨n,s,HN,HSN,HE,HBK,HB⟩:=hrel;have y10:wr.cell? ⟨w.heap.size,0,none⟩=some (.int .i64 (cn:Int)):=(bc' HBK.out 0).trans rfl;have y11:wr.cell? ⟨w.heap.size,1,none⟩=some (.slice A0_1 l0_1.length c0_1):=(bc' HBK.out 1).trans rfl;have y12:wr.cell? ⟨w.heap.size,2,none⟩=some (.int .i64 (s:Int)):=(bc' HBK.out 2).trans rfl;cases n with
   | zero =>
    have hs:¬ (s:Int) < 8:=by have:=HSN.out;omega
    have hsd:=df' hs;have h:=HE.out;simp only[seatsK,Option.some.injEq] at h;subst h;go_wp2;go_ret2
    exact ⟨rfl,HB.out⟩
   | succ n =>
    have hs:(s:Int) < 8:=by have:=HSN.out;omega
    have hsd:=dt' hs;have h:=HE.out;rw[seatsK] at h;obtain ⟨⟨r,ok⟩,hc,h⟩:=Option.bind_eq_some_iff.mp h;have HC:=am' (fun (W:World) (hb:Below w.heap.size w W)=>impl_Keep_costs.calls k cn A0_1 c0_1 l0_1 (s:Int) r ok W (cb' HF0.out hb) HC0.out hc);clear hc HE;cases ok with
    | false =>
     simp only[Bool.false_eq_true,if_false] at h;have HE:=am' h;clear h;go_wp2_with fail;refine (HC.out _ HB.out).mono ?_
     rintro e w2 ⟨pp,v,rfl,hpp,hr,hl,hb⟩
     obtain ⟨Av,cv,rfl⟩:=Kd.R_slice hr;have HB2:=am' (bt' HB.out hb);have HBK2:=am' (ka' (bb' HBK.out hb) (.cells #[.int .i64 (wrap64 (2 * 2 ^ min cn 64)), .func (.func 114) #[] #[.pointer (some ⟨pp,0,none⟩)]] 84));clear hpp hr hl hb y10 y11 y12;have z12:(w2.alloc (.cells #[.int .i64 (wrap64 (2 * 2 ^ min cn 64)), .func (.func 114) #[] #[.pointer (some ⟨pp,0,none⟩)]] 84)).cell? ⟨w.heap.size,2,none⟩=some (.int .i64 (s:Int)):=(bc' HBK2.out 2).trans rfl;have g12:=bf' HBK2.out 2;go_wp2;go_roundg n
     case measure=>have:=HN.out;omega
     case rel =>
      have hw:wrap64 ((s:Int)+1)=((s+1:Nat):Int):=by rw[wr_id (by omega) (by omega)];rfl
      refine ⟨n,s+1,⟨Nat.le_refl _⟩,⟨by have:=HSN.out;omega⟩,HE,⟨?_⟩,⟨bs' (ba' HB2.out _) (Nat.le_refl _)⟩⟩
      first
       | exact blk3_put HBK2.out (.int .i64 ((s:Int)+1))
       | exact hw ▸ blk3_put HBK2.out _
       | (have q:=blk3_put HBK2.out (.int .i64 ((s+1:Nat):Int));rw[← hw] at q;exact q)
    | true =>
     simp only[if_true,Option.some.injEq] at h;subst h;go_wp2_with fail;refine (HC.out _ HB.out).mono ?_
     rintro e w2 ⟨pp,v,rfl,hpp,hr,hl,hb⟩
     obtain ⟨Av,cv,rfl⟩:=Kd.R_slice hr;have HB2:=am' (bt' HB.out hb);have HBK2:=am' (ka' (bb' HBK.out hb) (.cells #[.int .i64 (wrap64 (2 * 2 ^ min cn 64)), .func (.func 114) #[] #[.pointer (some ⟨pp,0,none⟩)]] 84));clear hpp hr hl hb y10 y11 y12;have z12:(w2.alloc (.cells #[.int .i64 (wrap64 (2 * 2 ^ min cn 64)), .func (.func 114) #[] #[.pointer (some ⟨pp,0,none⟩)]] 84)).cell? ⟨w.heap.size,2,none⟩=some (.int .i64 (s:Int)):=(bc' HBK2.out 2).trans rfl;go_wp2;go_ret2
     exact ⟨rfl,ba' HB2.out _⟩
end Go.Proofs.Ytmfofjloklafoaa.C5
