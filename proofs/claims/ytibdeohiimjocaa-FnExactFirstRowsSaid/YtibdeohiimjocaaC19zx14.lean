import Derived.Test.YtibdeohiimjocaaC19zx0
import Derived.Test.YtibdeohiimjocaaC19zx8
import Derived.Test.YtibdeohiimjocaaC19zx9
import Derived.Test.YtibdeohiimjocaaC19zx11
import Derived.Test.YtibdeohiimjocaaC19zx12
import Derived.Test.YtibdeohiimjocaaC19zx13
import Derived.Test.YtibdeohiimjocaaC19zAl
namespace Go.Proofs.Ytibdeohiimjocaa.C19
open Go.RowKit Go.Proofs.YtibdeohiimjocaaW.PrintWords Go.Proofs.YtibdeohiimjocaaW.PrintLast Go.Proofs.YtibdeohiimjocaaW.PrintMore Go.Proofs.Ytibdeohiimjocaa.H
attribute [local go_sem] max2_int min2_int max_two min_two max_three min_three max_four min_four
set_option linter.unusedVariables false
set_option linter.unusedSimpArgs false
theorem nx {k:Nat} (h:k < 9223372036854775807):Value.int .i64 (wrap64 ((k:Int)+1))=Value.int .i64 ((k+1:Nat):Int):=by rw[wr_id (by omega) (by omega)];rfl
theorem nx2 {k:Nat} (h:k < 9223372036854775807):Value.int .i64 (IntKind.i64.wrap ((k:Int)+1))=Value.int .i64 ((k+1:Nat):Int):=by rw[i64_w];exact nx h
theorem R_empty {α:Type} (d:Kd α) {e base b:Nat} {W:World} (h:W.heap[b]? = some (.cells #[] e (0,0))) (hB:base≤b):d.R e W base (fun _=>True) (.slice (some ⟨b,0,none⟩) 0 0) [] :=
 ⟨fun _ _=>trivial,[],⟨by simp, .inr ⟨b,0,#[],rfl,hB,h,Nat.le_refl _,by decide,by simp,by simp⟩⟩,Reps.none _ _⟩
theorem row_at {e et base n cap:Nat} {W:World} {ok:Nat→Prop} {f:Nat→Nat} {A:Option Addr} {gs:List (List Int)} (h:(Kd.tag f (Kd.slice e (Kd.int .i64))).R et W base ok (.slice A n cap) gs.zipIdx) (i:Nat) (l:List Int) (hl:gs[i]? = some l) (hn:n=gs.length) :
  ∃ g Ai ci,A=some ⟨g,0,none⟩∧W.cell? ⟨g,i,none⟩=some (.slice Ai l.length ci)∧g < W.heap.size∧base≤g∧(Kd.int .i64).R e W base (fun k=>f k=i∧base≤k∧k < W.heap.size) (.slice Ai l.length ci) l:=by
 obtain ⟨hi,hx⟩:=List.getElem?_eq_some_iff.1 hl
 have hz:gs.zipIdx.length=gs.length:=List.length_zipIdx
 obtain ⟨g,cap',hv,hb1,hb2,_⟩:=Kd.R_form h (by omega)
 obtain ⟨rfl,_,_⟩:=Value.slice.inj hv
 obtain ⟨c,hcl,hM,hcc⟩:=Kd.R_getA h ([],0) (i:Int) (by omega) (by omega)
 rw[Int.toNat_natCast] at hM hcc
 have hq:gs.zipIdx.getD i ([],0)=(l,i):=by
  rw[List.getD_eq_getElem?_getD,Kd.zip_at hl];rfl
 rw[hq] at hM
 obtain ⟨u,rfl,hu⟩:=hM
 obtain ⟨Ai,ci,rfl⟩:=Kd.R_slice hu
 refine ⟨g,Ai,ci,rfl,?_,hb2,hb1,Kd.R_mono (Kd.R_bound hu) (fun k hk=>⟨hk.1.2,hk.2.1,hk.2.2.1⟩)⟩
 have h1:=hcc 0 _ rfl
 have h2:(Addr.add ⟨g,0,none⟩ (i * (Kd.tag f (Kd.slice e (Kd.int .i64))).sz+0))=⟨g,i,none⟩:=by
  have h3:(Kd.tag f (Kd.slice e (Kd.int .i64))).sz=1:=rfl;rw[h3,Nat.mul_one,Nat.add_zero];rw[add_at,Nat.zero_add]
 rw[h2] at h1
 exact h1
theorem M_edgeC {W:World} {B:Nat} {okp:Nat→Prop} {x c:Int} {v:Value} {l:List Int} (h:(Kd.int .i64).R 3 W B okp v l):EdgK.M W B okp (x,c,l) [.int .i64 x, .int .i64 c,v]:=⟨[.int .i64 x],_,rfl,rfl,[.int .i64 c],_,rfl,rfl,v,rfl,h⟩
def cmpStep (k:Nat) (ov:List Bool) (tr:Bool) (s:List Edg) (l:List Int):Option (List Edg) :=
 (impl_State_moved.f k ov tr l).bind fun mm=>(impl_State_code.f k mm.1 mm.2).bind fun cd=>some (s ++ [(cd,1,l)])
def cmpOut (k:Nat) (nv c0 m:Int) (code:Int):Option (List Edg) :=
 (impl_stateOf.f k nv code).bind fun st=>(impl_Company_rows.f k c0 m st.1 st.2).bind fun gs=>if gs.length≤1048576 then gs.foldlM (cmpStep k st.1 st.2) [] else none
set_option maxHeartbeats 8000000 in
set_option maxRecDepth 100000 in
theorem company_out (k:Nat) (nv c0 m:Int) (pn pc:Nat) (W0:World) (hbn:W0.heap[pn]? = some (.cells #[.int .i64 nv] 3 (0,0))) (hbc:W0.heap[pc]? = some (.cells #[.int .i64 c0, .int .i64 m] 40 (0,0))):OutOk 113 #[.pointer (some ⟨pn,0,none⟩), .pointer (some ⟨pc,0,none⟩)] (cmpOut k nv c0 m) W0:=by
 intro W hW code es hs;have hu0:=Try.underlying40
 have hu1:=Try.underlying51
 have hue:=Try.underlying109
 have hinfoE:=am' (show (Try.prog.info? 109).map (fun i=>(i.zero,i.size,i.bytes))=some (some (.agg #[.int .i64 0, .int .i64 0, .slice none 0 0]),3,40) by kernel_rfl)
 unfold cmpOut at hs
 obtain ⟨⟨ov,tr⟩,hst,hs⟩:=Option.bind_eq_some_iff.mp hs
 obtain ⟨gs,hgs,hs⟩:=Option.bind_eq_some_iff.mp hs
 dsimp only at hgs hs
 by_cases hlen:gs.length≤1048576
 ·
  rw[if_pos hlen] at hs;have HLEN:=am' hlen;have HFO:=am' hs;have HST:=am' (impl_stateOf.calls k nv code ov tr W hst);have HRD:=am' (fun (W1:World) (A2:Option Addr) (c2:Nat) (hC:Kd.C Kd.bool W1 A2 ov.length ov) (hl:ov.length≤c2)=>impl_Company_rows.calls k c0 m A2 c2 ov tr gs W1 hC hl hgs);have BN:=am' (blk_below hbn hW);have BC:=am' (blk_below hbc hW);have xn:W.cell? ⟨pn,0,none⟩=some (.int .i64 nv):=(blk_cell BN.out 0).trans rfl;clear hbn hbc hW hst hgs hs hlen;go_enter Try.func113,Try.ntmps113;go_wp2_with fail;refine HST.out.mono ?_
  rintro e w1 ⟨v1,rfl,ho1,hb1⟩
  obtain ⟨A2,c2,rfl,hc2,hC2⟩:=Kd.R_reads ho1;have HB1:=am' hb1;have HF2:=am' (Kd.R_F (Kd.R_bound ho1));have HL2:=am' hc2;have HB2:=am' (two_blocks w1 (.cells #[] 109) (.cells #[.slice A2 ov.length c2, .bool tr] 51));have HW2:=am' (below_step hb1 HB2.out.2.2);have HC2:=am' (Kd.C_below hC2 HB2.out.2.2);have xc0:((w1.alloc (.cells #[] 109)).alloc (.cells #[.slice A2 ov.length c2, .bool tr] 51)).cell? ⟨pc,0,none⟩=some (.int .i64 c0):=(blk_cell (blk_below BC.out HW2.out) 0).trans rfl;have xc1:((w1.alloc (.cells #[] 109)).alloc (.cells #[.slice A2 ov.length c2, .bool tr] 51)).cell? ⟨pc,1,none⟩=some (.int .i64 m):=(blk_cell (blk_below BC.out HW2.out) 1).trans rfl;have xs0:((w1.alloc (.cells #[] 109)).alloc (.cells #[.slice A2 ov.length c2, .bool tr] 51)).cell? ⟨w1.heap.size+1,0,none⟩=some (.slice A2 ov.length c2):=(blk_cell HB2.out.2.1 0).trans rfl;have xs1:((w1.alloc (.cells #[] 109)).alloc (.cells #[.slice A2 ov.length c2, .bool tr] 51)).cell? ⟨w1.heap.size+1,1,none⟩=some (.bool tr):=(blk_cell HB2.out.2.1 1).trans rfl;clear xn ho1 hb1 hC2 hc2;go_wp2_with fail;generalize (w1.alloc (.cells #[] 109)).alloc (.cells #[.slice A2 ov.length c2, .bool tr] 51)=W2 at HB2 HW2 HC2 xc0 xc1 xs0 xs1 ⊢
  refine (HRD.out W2 A2 c2 HC2.out HL2.out).mono ?_
  rintro e w3 ⟨v3,rfl,ho3,hb3⟩
  obtain ⟨f,hf⟩:=ho3;obtain ⟨A3,c3,hv3⟩:=Kd.R_slice hf;rw[List.length_zipIdx] at hv3;subst hv3;have HF:=am' hf;have HW3:=am' (below_step HW2.out hb3);have HSZ:=am' (show w1.heap.size+2≤W2.heap.size∧W2.heap.size≤w3.heap.size∧W.heap.size≤w1.heap.size from ⟨by have:=blk_lt HB2.out.2.1;omega,hb3.size,HB1.out.size⟩);have HE0:=am' (blk_below HB2.out.1 hb3);have HS0:=am' (blk_below HB2.out.2.1 hb3);have HF2:=am' (Kd.F_below HF2.out (below_step HB2.out.2.2 hb3));have HLEN2:=am' (show ((gs.length:Nat):Int)≤1048576 by have:=HLEN.out;omega);clear hf hb3 xc0 xc1 xs0 xs1;go_wp2_with fail;go_loopg [6,8,17] gs.length (fun gg v7 v9 v19 wr=>∃ (acc:List Edg) (Ao:Option Addr) (co:Nat),v7 = .slice Ao acc.length co∧v19 = .int .i64 (acc.length:Int)∧Aside0 (acc.length≤gs.length)∧Aside0 (gs.length - acc.length≤gg)∧Aside0 ((gs.drop acc.length).foldlM (cmpStep k ov tr) acc=some es)∧Aside0 ((Kd.tag f EdgK).R 109 wr W.heap.size (fun _=>True) (.slice Ao acc.length co) acc.zipIdx)∧Aside0 (∀ k,(Value.slice Ao acc.length co).ownBlock=some k→k=w1.heap.size∨w3.heap.size≤k)∧Aside0 (Kept w3 wr (fun k=>k=w1.heap.size))∧Aside0 (Below W.heap.size W wr))
  case atStart=>exact ⟨[],_,_,rfl,rfl,⟨Nat.zero_le _⟩,⟨Nat.le_refl _⟩,HFO,⟨R_empty _ HE0.out HB1.out.size⟩,⟨fun k hk => .inl (Option.some.inj (show some _=some _ from hk)).symm⟩,⟨Kept.refl _ _⟩,HW3⟩
  case round =>
   obtain ⟨acc,Ao,co,rfl,rfl,HX,HGG,HE,HSA,HOW,HKP,HWR⟩:=hrel;by_cases hj:acc.length < gs.length
   ·
    have hjz:((acc.length:Nat):Int) < ((gs.length:Nat):Int):=by omega
    have hjd:=decide_eq_true hjz;have HJ:=am' hj;obtain ⟨l,hl⟩:∃ x,x=gs[acc.length]:=⟨_,rfl⟩
    have hE:=HE.out;rw[List.drop_eq_getElem_cons hj,← hl,List.foldlM_cons] at hE;obtain ⟨acc2,hE1,hE2⟩:=Option.bind_eq_some_iff.mp hE;unfold cmpStep at hE1
    obtain ⟨⟨mo,mt⟩,hmv,hE1⟩:=Option.bind_eq_some_iff.mp hE1;obtain ⟨cd,hcd,hE1⟩:=Option.bind_eq_some_iff.mp hE1;dsimp only at hmv hcd
    obtain rfl:=Option.some.inj hE1;have HE2:=am' hE2;obtain ⟨g,Ai,ci,hA3,hxl,hgl,hgb,hrow⟩:=row_at HF.out acc.length l (by rw[List.getElem?_eq_getElem hj,hl]) rfl;have xl:=cell_kept hxl HKP.out (fun q=>by dsimp only at q;have:=HSZ.out;omega);have HRW:=am' (Kd.R_lower (Kd.R_kept hrow HKP.out (fun k hk q=>by have h1:=hk.2.1;have h2:=HSZ.out;omega)) (show W.heap.size≤W2.heap.size by have:=HSZ.out;omega));obtain ⟨_,hci,hCl⟩:=Kd.R_reads' HRW.out;have HCL:=am' hCl;have HCI:=am' hci;have HS2:=am' (blk_kept HS0.out HKP.out (fun q=>by omega));have HC3:=am' (Kd.F_now (Kd.F_kept HF2.out HKP.out (fun k hk q=>by have h1:=hk.2.2.1;omega)));have HM:=am' (fun (W1:World) (hb:Below wr.heap.size wr W1)=>impl_State_moved.calls k A2 c2 ov tr Ai ci l mo mt W1 (Kd.C_below HC3.out hb) HL2.out (Kd.C_below HCL.out hb) HCI.out hmv);have HC:=am' (fun (W1:World) (A3:Option Addr) (c3:Nat) (hc:Kd.C Kd.bool W1 A3 mo.length mo) (hl:mo.length≤c3)=>impl_State_code.calls k A3 c3 mo mt cd W1 hc hl hcd);have xs0:wr.cell? ⟨w1.heap.size+1,0,none⟩=some (.slice A2 ov.length c2):=(blk_cell HS2.out 0).trans rfl;have xs1:wr.cell? ⟨w1.heap.size+1,1,none⟩=some (.bool tr):=(blk_cell HS2.out 1).trans rfl;have xc0:wr.cell? ⟨pc,0,none⟩=some (.int .i64 c0):=(blk_cell (blk_below BC.out HWR.out) 0).trans rfl;have xc1:wr.cell? ⟨pc,1,none⟩=some (.int .i64 m):=(blk_cell (blk_below BC.out HWR.out) 1).trans rfl;subst hA3;clear hj hE hE1 hE2 hmv hcd hxl hgl hgb hrow hci hCl hl HE HX;have HWW:=am' (Below.refl wr.heap.size wr);go_wp2_with fail;refine (HM.out wr HWW.out).mono ?_
    rintro e w5 ⟨v5,rfl,ho5,hb5⟩
    obtain ⟨A5,c5,rfl,hc5,hC5⟩:=Kd.R_reads ho5;have HW5:=am' (below_step HWW.out hb5);have HL5:=am' hc5;have HC5:=am' hC5;clear ho5 hb5 hc5 hC5;go_wp2_with fail;refine (HC.out w5 A5 c5 HC5.out HL5.out).mono ?_
    rintro e w6 ⟨rfl,hb6⟩
    have HW6:=am' (below_step HW5.out hb6);clear hb6;go_wp2_with ((with_reducible refine gate_builtin (b := .append) (xs:=#[.tmp 21, .tmp 28]) rfl ?_);at_builtin;refine Kd.R_append (Kd.tag f EdgK) (w0:=W) W.heap.size rfl (.tmp 21) (.tmp 28) 110 109 (.agg #[.int .i64 0, .int .i64 0, .slice none 0 0]) 40 rfl Try.underlying110 hinfoE.out rfl (show 0 < EdgK.sz by decide) (by omega) (.slice Ao acc.length co) acc.zipIdx ((cd,1,l),acc.length) [.int .i64 cd, .int .i64 1, .slice Ai l.length ci] (fun _=>True) (fun k=>f k=acc.length∧W2.heap.size≤k∧k < w3.heap.size) rfl (by first|rfl|(rw[World.size_alloc];rfl)) ?aP ?aK (fun _ _=>trivial) ?aO ?aB ?aS ?aL ?_;(case aP=>exact M_edgeC (Kd.R_mono (Kd.R_below HRW.out HW6.out) (fun k hk=>⟨hk,hk.1⟩)));(case aK=>exact fun k hk=>⟨trivial,fun q=>by have h1:=HOW.out k q.symm;have h2:=hk.2;have h3:=HSZ.out;omega⟩);(case aO=>exact Kd.R_below HSA.out HW6.out);(case aB=>exact below_step HWR.out HW6.out);(case aS=>exact Nat.le_trans HWR.out.size HW6.out.size);(case aL=>have h1:=HJ.out;have h2:=HLEN.out;rw[List.length_zipIdx];omega);intro v1 w7 ho hb hg hat;rw[← Kd.zip_snoc] at ho;obtain ⟨A7,c7,e7⟩:=Kd.R_slice ho;rw[List.length_zipIdx] at e7;subst e7;have HO7:=am' ho;have HB7:=am' hb;have HK7:=am' (Kept.of_grown hg (Kept.below HKP.out HW6.out) (fun k hk=>HOW.out k hk));have HOW7:=am' (show ∀ k,(Value.slice A7 (acc ++ [(cd,1,l)]).length c7).ownBlock=some k→k=w1.heap.size∨w3.heap.size≤k from fun k hk=>by rcases hat with q|⟨b,q,hbb⟩;exact HOW.out k (q.symm.trans hk);have q2:=Option.some.inj (q.symm.trans hk);have h3:=HKP.out.1;have h4:=HW6.out.size;omega);clear ho hb hg hat);go_roundg (gs.length - (acc.length+1))
    case measure=>have h1:=HGG.out;have h2:=HJ.out;omega
    case rel=>exact ⟨acc ++ [(cd,1,l)],A7,c7,by first|rfl|rw[List.length_append,List.length_singleton],by rw[List.length_append,List.length_singleton];have h1:=HJ.out;have h2:=HLEN.out;first|exact nx (by omega)|exact nx2 (by omega)|exact rfl,⟨by rw[List.length_append,List.length_singleton];exact HJ.out⟩,⟨by rw[List.length_append,List.length_singleton];exact Nat.le_refl _⟩,⟨by rw[List.length_append,List.length_singleton];exact HE2.out⟩,HO7,HOW7,HK7,HB7⟩
   ·
    have hjz:¬ ((acc.length:Nat):Int) < ((gs.length:Nat):Int):=by omega
    have hjd:=decide_eq_false hjz;have hE:=HE.out;rw[List.drop_eq_nil_of_le (by omega),List.foldlM_nil] at hE;obtain rfl:=Option.some.inj hE;have HSF:=am' (show Kd.S EdgK 109 wr W.heap.size (fun _=>True) (.slice Ao acc.length co) acc from ⟨f,HSA.out⟩);clear hE;go_wp2;go_ret
    exact ⟨_,rfl,HSF.out,HWR.out⟩
 ·
  rw[if_neg hlen] at hs;cases hs
theorem three_blocks (w:World) (o0 o1 o2:Obj):(((w.alloc o0).alloc o1).alloc o2).heap[w.heap.size]? = some o0∧(((w.alloc o0).alloc o1).alloc o2).heap[w.heap.size+1]? = some o1∧(((w.alloc o0).alloc o1).alloc o2).heap[w.heap.size+1+1]? = some o2∧Below w.heap.size w (((w.alloc o0).alloc o1).alloc o2):=by
 obtain ⟨h0,h1,h2⟩:=two_blocks w o0 o1
 refine ⟨ka' h0 _,ka' h1 _,?_,ba' h2 _⟩
 have:=heap_alloc_new ((w.alloc o0).alloc o1) o2
 rwa [World.size_alloc,World.size_alloc] at this
theorem blk_put2 {W:World} {g h:Nat} {o:Obj} {v0 v1:Value} (hb:W.heap[h]? = some o) (hne:h≠g):((W.setCell ⟨g,0,none⟩ v0).setCell ⟨g,1,none⟩ v1).heap[h]? = some o:=blk_kept hb (put2_kept W g v0 v1) hne
theorem bkI_up {o1 o2:Int→Option (List Edg)} (ho:∀ s,LeO (o1 s) (o2 s)) (d:Nat):∀ k i dist wt,LeO (bkI o1 d k i dist wt) (bkI o2 d (k+1) i dist wt):=by
 intro k;induction k with
 | zero=>intro i dist wt r h;simp[bkI] at h
 | succ k ih =>
  intro i dist wt;rw[bkI,bkI];exact LeO.ite (LeO.ite (LeO.ite (ih _ _ _) (LeO.bind (ho _) (fun _=>LeO.bind (LeO.refl _) (fun _=>ih _ _ _)))) (LeO.refl _)) (LeO.refl _)
theorem bkD_up {o1 o2:Int→Option (List Edg)} (ho:∀ s,LeO (o1 s) (o2 s)):∀ k d dist wt,LeO (bkD o1 k d dist wt) (bkD o2 (k+1) d dist wt):=by
 intro k;induction k with
 | zero=>intro d dist wt r h;simp[bkD] at h
 | succ k ih =>
  intro d dist wt;rw[bkD,bkD];exact LeO.ite (LeO.ite (LeO.bind (bkI_up ho d _ _ _ _) (fun _=>ih _ _ _)) (LeO.refl _)) (LeO.refl _)
theorem pow_le8 {n:Nat} (h:n≤8):0 < 2 ^ (n+1)∧2 ^ (n+1)≤1024∧wrap64 (2 * 2 ^ min n 64)=((2 ^ (n+1):Nat):Int):=by
 have:n=0∨n=1∨n=2∨n=3∨n=4∨n=5∨n=6∨n=7∨n=8:=by omega
 rcases this with rfl|rfl|rfl|rfl|rfl|rfl|rfl|rfl|rfl <;> exact ⟨by decide,by decide,by decide +kernel⟩
theorem R_one {w:World} {b base:Nat} {x:Int} {e:Nat} (h:w.heap[b]? = some (.cells #[.int .i64 x] e (0,0))) (hB:base≤b):(Kd.int .i64).R e w base (fun _=>True) (.slice (some ⟨b,0,none⟩) 1 1) [x]:=by
 refine Kd.R_of_own ?_ (fun k hk=>trivial)
 exact ⟨by simp[encs], .inr ⟨b,1,_,rfl,hB,h,Nat.le_refl _,by decide,by simp,by simp[encs]⟩⟩
theorem cmpStep_up (k:Nat) (ov:List Bool) (tr:Bool) (s:List Edg) (l:List Int):LeO (cmpStep k ov tr s l) (cmpStep (k+1) ov tr s l):=by
 unfold cmpStep
 exact LeO.bind (impl_State_moved.mono _ _ _ _) (fun _=>LeO.bind (impl_State_code.mono _ _ _) (fun _=>LeO.refl _))
theorem cmpOut_up (k:Nat) (nv c0 m:Int) (s:Int):LeO (cmpOut k nv c0 m s) (cmpOut (k+1) nv c0 m s):=by
 unfold cmpOut
 exact LeO.bind (impl_stateOf.mono _ _ _) (fun _=>LeO.bind (impl_Company_rows.mono _ _ _ _ _) (fun _=>LeO.ite (foldlM_leO (fun s x=>cmpStep_up _ _ _ _ _) _ _) (LeO.refl _)))
set_option maxHeartbeats 2000000 in
set_option maxRecDepth 100000 in
theorem company_graph2 (cn:Nat) (a0_1:Int) (nn:Nat) (hnn:nn=2 * cn) (hcn:nn≤8) (w:World):Calls Try.prog 80 #[.agg #[.int .i64 (cn:Int), .int .i64 a0_1]] w fun e w'=>∃ pn pp,e = .returned (.agg #[.int .i64 (wrap64 (2 * 2 ^ min nn 64)), .func (.func 113) #[] #[.pointer (some ⟨pn,0,none⟩), .pointer (some ⟨pp,0,none⟩)]])∧w'.heap[pn]? = some (.cells #[.int .i64 (nn:Int)] 3 (0,0))∧w'.heap[pp]? = some (.cells #[.int .i64 (cn:Int), .int .i64 a0_1] 40 (0,0))∧(w.heap.size≤pn∧w.heap.size≤pp)∧Below w.heap.size w w':=by
 have hu:=Try.underlying40
 have hug:=Try.underlying68
 have HB:=am' (three_blocks w (.cells #[.int .i64 (cn:Int), .int .i64 a0_1] 40) (.cells #[.int .i64 (wrap64 (2 * 2 ^ min nn 64)), .func (.func 113) #[] #[.pointer (some ⟨w.heap.size+1+1,0,none⟩), .pointer (some ⟨w.heap.size,0,none⟩)]] 68) (.cells #[.int .i64 (nn:Int)] 3))
 have hw2:wrap64 (2 * (cn:Int))=(nn:Int):=by rw[wr_id (by omega) (by omega)];omega
 clear hcn hnn;go_enter Try.func80,Try.ntmps80
 go_wp2_with fail
 refine bodyPost_ret (results_cell_row rfl _ _ (w.heap.size+1) 68 #[.int .i64 (wrap64 (2 * 2 ^ min nn 64)), .func (.func 113) #[] #[.pointer (some ⟨w.heap.size+1+1,0,none⟩), .pointer (some ⟨w.heap.size,0,none⟩)]] (0,0) _ rfl HB.out.2.1 Try.underlying68 rfl (by kernel_rfl)) rfl ?_
 exact ⟨_,_,rfl,HB.out.2.2.1,HB.out.1,⟨by omega,by omega⟩,HB.out.2.2.2⟩
def impl_Company_costs.f (k:Nat) (cn:Nat) (a0_1:Int) (nn:Nat):Option (List Int × Bool) :=
 if nn≤8 then (impl_last.f (nn:Int)).bind fun st=>(bkD (cmpOut k (nn:Int) (cn:Int) a0_1) k 0 (List.replicate (2 ^ (nn+1)) (-1)) [[st]]).bind fun r=>if r.length=2 ^ (nn+1) then some (r,decide (0≤rd r 0)) else none else none
theorem impl_Company_costs.mono (cn:Nat) (a0_1:Int) (nn:Nat) (k:Nat):LeO (impl_Company_costs.f k cn a0_1 nn) (impl_Company_costs.f (k+1) cn a0_1 nn):=by
 unfold impl_Company_costs.f
 exact LeO.ite (LeO.bind (LeO.refl _) (fun _=>LeO.bind (bkD_up (fun s=>cmpOut_up _ _ _ _ _) _ _ _ _) (fun _=>LeO.refl _))) (LeO.refl _)
set_option maxHeartbeats 4000000 in
set_option maxRecDepth 100000 in
theorem impl_Company_costs.calls (k:Nat) (cn:Nat) (a0_1:Int) (nn:Nat) (r:List Int) (ok:Bool) (w:World) (hnn:nn=2 * cn) (h:impl_Company_costs.f k cn a0_1 nn=some (r,ok)) :
  Calls Try.prog 73 #[.agg #[.int .i64 (cn:Int), .int .i64 a0_1]] w fun e w'=>∃ pn pp v,e = .returned (.tuple #[.agg #[.int .i64 (wrap64 (2 * 2 ^ min nn 64)), .func (.func 113) #[] #[.pointer (some ⟨pn,0,none⟩), .pointer (some ⟨pp,0,none⟩)]],v, .bool ok])∧w'.heap[pn]? = some (.cells #[.int .i64 (nn:Int)] 3 (0,0))∧w'.heap[pp]? = some (.cells #[.int .i64 (cn:Int), .int .i64 a0_1] 40 (0,0))∧(Kd.int .i64).R 3 w' w.heap.size (fun _=>True) v r∧(r.length=2 ^ (nn+1)∧nn≤8)∧Below w.heap.size w w':=by
 have hu:=Try.underlying40
 have hug:=Try.underlying68
 unfold impl_Company_costs.f at h
 have HL2:=am' (two_blocks w (.cells #[.int .i64 (cn:Int), .int .i64 a0_1] 40) (.cells #[.int .i64 0,Value.nilFunc] 68))
 obtain ⟨mv,hmv⟩:∃ x,x=wrap64 (2 * 2 ^ min nn 64):=⟨_,rfl⟩
 by_cases hl8:nn≤8
 ·
  rw[if_pos hl8] at h;have HG:=am' (fun (W:World)=>company_graph2 cn a0_1 nn hnn hl8 W);rw[← hmv] at HG ⊢;have HMV:=am' hmv;clear hmv;have hw2:wrap64 (2 * (cn:Int))=(nn:Int):=by rw[wr_id (by omega) (by omega)];omega
  clear hnn;obtain ⟨st,hst,h⟩:=Option.bind_eq_some_iff.mp h;obtain ⟨rr,hd,h⟩:=Option.bind_eq_some_iff.mp h;by_cases hlen:rr.length=2 ^ (nn+1)
  ·
   rw[if_pos hlen] at h;simp only[Option.some.injEq,Prod.mk.injEq] at h;obtain ⟨rfl,rfl⟩:=h;obtain ⟨hp0,hp1,hp2⟩:=pow_le8 hl8;obtain ⟨N,hN⟩:∃ x,x=2 ^ (nn+1):=⟨_,rfl⟩
   rw[← hN] at hp0 hp1 hp2 hd hlen;have HN:=am' hN;have hmvN:=HMV.out.trans hp2;have HMN:=am' hmvN;have HD:=am' hd;have HLEN:=am' hlen;have HST:=am' (fun (W:World)=>impl_last.calls (nn:Int) st W hst);have HP0:=am' hp0;have HP1:=am' hp1;have HL8:=am' hl8;clear hp0 hp1 hp2 hN hmvN hd hlen hst hl8;go_enter Try.func73,Try.ntmps73;go_wp2_with fail;refine (HG.out _).mono ?_
   rintro e w3 ⟨pn,pp,rfl,hpn,hpp,hnew,hb3⟩
   have J5:=am' (heap_alloc_new w3 (.cells #[.int .i64 mv, .func (.func 113) #[] #[.pointer (some ⟨pn,0,none⟩), .pointer (some ⟨pp,0,none⟩)]] 68));have J1:=am' (ka' (blk_below HL2.out.1 hb3) (.cells #[.int .i64 mv, .func (.func 113) #[] #[.pointer (some ⟨pn,0,none⟩), .pointer (some ⟨pp,0,none⟩)]] 68));have HP2L:=am' (blk_lt (blk_below HL2.out.2.1 hb3));have J2:=am' (ka' (blk_below HL2.out.2.1 hb3) (.cells #[.int .i64 mv, .func (.func 113) #[] #[.pointer (some ⟨pn,0,none⟩), .pointer (some ⟨pp,0,none⟩)]] 68));have JN:=am' (ka' hpn (.cells #[.int .i64 mv, .func (.func 113) #[] #[.pointer (some ⟨pn,0,none⟩), .pointer (some ⟨pp,0,none⟩)]] 68));have NEn:=am' (show pn≠w.heap.size+1 from fun q=>by have h1:=hnew;have h2:=blk_lt HL2.out.2.1;omega);have JP:=am' (ka' hpp (.cells #[.int .i64 mv, .func (.func 113) #[] #[.pointer (some ⟨pn,0,none⟩), .pointer (some ⟨pp,0,none⟩)]] 68));have NEp:=am' (show pp≠w.heap.size+1 from fun q=>by have h1:=hnew;have h2:=blk_lt HL2.out.2.1;omega);have HBJ:=am' (ba' (below_step HL2.out.2.2 hb3) (.cells #[.int .i64 mv, .func (.func 113) #[] #[.pointer (some ⟨pn,0,none⟩), .pointer (some ⟨pp,0,none⟩)]] 68));have x10:(w3.alloc (.cells #[.int .i64 mv, .func (.func 113) #[] #[.pointer (some ⟨pn,0,none⟩), .pointer (some ⟨pp,0,none⟩)]] 68)).cell? ⟨w.heap.size,0,none⟩=some (.int .i64 (cn:Int)):=(blk_cell J1.out 0).trans rfl;have x50:(w3.alloc (.cells #[.int .i64 mv, .func (.func 113) #[] #[.pointer (some ⟨pn,0,none⟩), .pointer (some ⟨pp,0,none⟩)]] 68)).cell? ⟨w3.heap.size,0,none⟩=some (.int .i64 mv):=(blk_cell J5.out 0).trans rfl;have x51:(w3.alloc (.cells #[.int .i64 mv, .func (.func 113) #[] #[.pointer (some ⟨pn,0,none⟩), .pointer (some ⟨pp,0,none⟩)]] 68)).cell? ⟨w3.heap.size,1,none⟩=some (.func (.func 113) #[] #[.pointer (some ⟨pn,0,none⟩), .pointer (some ⟨pp,0,none⟩)]):=(blk_cell J5.out 1).trans rfl;obtain ⟨c0_,f0_,c1_,f1_⟩:=put2 J2.out (.int .i64 mv) (.func (.func 113) #[] #[.pointer (some ⟨pn,0,none⟩), .pointer (some ⟨pp,0,none⟩)]);clear hpn hpp hnew hb3;go_wp2_with fail;generalize hw5:w3.alloc (.cells #[.int .i64 mv, .func (.func 113) #[] #[.pointer (some ⟨pn,0,none⟩), .pointer (some ⟨pp,0,none⟩)]] 68)=w5 at J5 J1 J2 JN JP HBJ x10 x50 x51 c0_ f0_ c1_ f1_ ⊢
   clear hw5;refine start_ (n:=8) (S:=fun w'=>w'.cell? ⟨w3.heap.size,0,none⟩=some (.int .i64 mv)∧w'.cell? ⟨w3.heap.size,1,none⟩=some (.func (.func 113) #[] #[.pointer (some ⟨pn,0,none⟩), .pointer (some ⟨pp,0,none⟩)])∧w'.cell? ⟨w.heap.size,0,none⟩=some (.int .i64 (cn:Int))) (ds:=[]) #[false,false,false,false,false,false,false,false] (by kernel_rfl) rfl rfl ⟨x50,x51,x10⟩ (fun hHeld=>?_);refine take_ (i:=0) (N:=some 9) (v:=?_) (a':=?_) #[true,false,false,false,false,false,false,false] rfl rfl (by kernel_rfl) (fun _ _ _ h=>h) (Or.inl ⟨by rfl,?_⟩) hHeld ?_ ?_
   rotate_left
   ·
    rintro w' ⟨s0_,s1_,s2_⟩
    go_simp;with_reducible rfl
   rotate_left
   ·
    simp only[Act.put,sa',sb',sc',i64_w,i32_w];rfl
   refine pure_ (i:=1) (N:=some 10) (v:=?_) (a':=?_) #[true,true,false,false,false,false,false,false] rfl rfl (by kernel_rfl) (fun _ _ _ h=>h) (Or.inl ⟨by rfl,?_⟩) ?_ ?_
   rotate_left
   ·
    intro w';go_simp;with_reducible rfl
   rotate_left
   ·
    simp only[Act.put,sa',sb',sc',i64_w,i32_w];rfl
   refine take_ (i:=2) (N:=some 11) (v:=?_) (a':=?_) #[true,true,true,false,false,false,false,false] rfl rfl (by kernel_rfl) (fun _ _ _ h=>h) (Or.inl ⟨by rfl,?_⟩) hHeld ?_ ?_
   rotate_left
   ·
    rintro w' ⟨s0_,s1_,s2_⟩
    go_simp;with_reducible rfl
   rotate_left
   ·
    simp only[Act.put,sa',sb',sc',i64_w,i32_w];rfl
   refine pure_ (i:=3) (N:=some 12) (v:=?_) (a':=?_) #[true,true,true,true,false,false,false,false] rfl rfl (by kernel_rfl) (fun _ _ _ h=>h) (Or.inl ⟨by rfl,?_⟩) ?_ ?_
   rotate_left
   ·
    intro w';go_simp;with_reducible rfl
   rotate_left
   ·
    simp only[Act.put,sa',sb',sc',i64_w,i32_w];rfl
   refine one_ (i:=4) (N:=some 13) #[true,true,true,true,true,false,false,false] rfl rfl (by kernel_rfl) (by decide) (fun K hK=>?_);rw[hw2];refine goes_ Try.func110 (by kernel_rfl) rfl #[.int .i64 (nn:Int)] (by rfl) rfl rfl (by (try simp only[List.map_toArray,List.map_cons,List.map_nil]);first|done|rfl) ?_
   refine (HST.out _).mono ?_
   rintro e w6 ⟨rfl,⟨nd,rfl⟩⟩
   refine ⟨_,rfl,?_⟩;refine hK.out _ _ ⟨x50,x51,x10⟩ (fun hHeld=>?_);clear hK K;refine norm_ (a':=?_) ?_ ?_
   rotate_left
   ·
    show Act.put _ (some 13) _=_
    simp only[Act.put,sa',sb',sc',i64_w,i32_w];rfl
   refine one_ (i:=5) (N:=some 14) #[true,true,true,true,true,true,false,false] rfl rfl (by kernel_rfl) (by decide) (fun K hK=>?_);refine value_ (v := .slice (some ⟨w5.heap.size,0,none⟩) 1 1) (w1:=((w5.drew.drewN nd).alloc (.cells #[.int .i64 st] 3))) (by rfl) rfl ?_ ?_
   ·
    go_simp
   refine hK.out _ _ ⟨((ba' (bd' (below_drew (Below.refl w5.heap.size w5)) nd) _).cell (bl' w5 _ x50)).trans x50,((ba' (bd' (below_drew (Below.refl w5.heap.size w5)) nd) _).cell (bl' w5 _ x51)).trans x51,((ba' (bd' (below_drew (Below.refl w5.heap.size w5)) nd) _).cell (bl' w5 _ x10)).trans x10⟩ (fun hHeld=>?_);clear hK K;refine norm_ (a':=?_) ?_ ?_
   rotate_left
   ·
    show Act.put _ (some 14) _=_
    simp only[Act.put,sa',sb',sc',i64_w,i32_w];rfl
   refine one_ (i:=6) (N:=some 15) #[true,true,true,true,true,true,true,false] rfl rfl (by kernel_rfl) (by decide) (fun K hK=>?_);have HSTB:=am' (ba' (bd' (below_drew (Below.refl w5.heap.size w5)) nd) (.cells #[.int .i64 st] 3));refine goes_ Try.func107 (by kernel_rfl) rfl #[.agg #[.int .i64 mv, .func (.func 113) #[] #[.pointer (some ⟨pn,0,none⟩), .pointer (some ⟨pp,0,none⟩)]], .slice (some ⟨w5.heap.size,0,none⟩) 1 1] (by rfl) rfl rfl (by (try simp only[List.map_toArray,List.map_cons,List.map_nil]);first|done|rfl) ?_
   rw[HMN.out];refine (from_any 113 #[.pointer (some ⟨pn,0,none⟩), .pointer (some ⟨pp,0,none⟩)] (cmpOut k (nn:Int) (cn:Int) a0_1) k N [st] rr w5 _ (enters_of Try.func113 (by kernel_rfl) rfl) (company_out k (nn:Int) (cn:Int) a0_1 pn pp w5 JN.out JP.out ) (some ⟨w5.heap.size,0,none⟩) 1 (R_one (heap_alloc_new (w5.drew.drewN nd) _) (Nat.le_refl _)) HSTB.out HP0.out HP1.out HD.out).mono ?_
   rintro e w7 ⟨v7,rfl,hr7,hb7⟩
   obtain ⟨gd,cd,hv7,_⟩:=Kd.R_form hr7 (by have h1:=HLEN.out;have h2:=HP0.out;omega);rw[HLEN.out] at hv7;subst hv7;have HR7:=am' hr7;have M1:=am' (blk_below J1.out hb7);have M2:=am' (blk_below J2.out hb7);have M5:=am' (blk_below J5.out hb7);have MN:=am' (blk_below JN.out hb7);have MP:=am' (blk_below JP.out hb7);have HBN:=am' (below_step HBJ.out hb7);have HW56:=am' (Nat.le_refl w5.heap.size);have m50:w7.cell? ⟨w3.heap.size,0,none⟩=some (.int .i64 mv):=(blk_cell M5.out 0).trans rfl;have m51:w7.cell? ⟨w3.heap.size,1,none⟩=some (.func (.func 113) #[] #[.pointer (some ⟨pn,0,none⟩), .pointer (some ⟨pp,0,none⟩)]):=(blk_cell M5.out 1).trans rfl;have m10:w7.cell? ⟨w.heap.size,0,none⟩=some (.int .i64 (cn:Int)):=(blk_cell M1.out 0).trans rfl;clear hr7 hb7 x10 x50 x51 c0_ f0_ c1_ f1_;refine ⟨_,rfl,?_⟩;refine hK.out _ _ ⟨m50,m51,m10⟩ (fun hHeld=>?_);clear hK K;refine norm_ (a':=?_) ?_ ?_
   rotate_left
   ·
    show Act.put _ (some 15) _=_
    simp only[Act.put,sa',sb',sc',i64_w,i32_w];rfl
   refine pure_ (i:=7) (N:=some 6) (v:=?_) (a':=?_) #[true,true,true,true,true,true,true,true] rfl rfl (by kernel_rfl) (fun _ _ _ h=>h) (Or.inl ⟨by rfl,?_⟩) ?_ ?_
   rotate_left
   ·
    intro w';go_simp;with_reducible rfl
   rotate_left
   ·
    simp only[Act.put,sa',sb',sc',i64_w,i32_w];rfl
   refine done_ (by kernel_rfl) ?_
   go_wp2_with fail;obtain ⟨dv,hdv⟩:∃ x,x=rd rr 0:=⟨_,rfl⟩
   have hx0:w7.cell? ⟨gd,0,none⟩=some (.int .i64 dv):=by
    have:=(Kd.R_celln 0 HR7.out 0 (by omega) (by have:=HP0.out;omega)).1;rw[hdv];simpa [rd,rdOf] using this
   have hl0:(0:Int) < (N:Int):=by have:=HP0.out;omega
   have hl1:0 < N:=HP0.out;have HDV:=am' hdv;clear hdv;have HKP:=am' (put2_kept w7 (w.heap.size+1) (.int .i64 mv) (.func (.func 113) #[] #[.pointer (some ⟨pn,0,none⟩), .pointer (some ⟨pp,0,none⟩)]));have hz2:=blk_lt M2.out;have HGD:=am' (show gd≠w.heap.size+1 from fun q=>by have h1:=Kd.R_base HR7.out gd (by simp[Value.ownBlock]);have h3:=blk_lt J2.out;have h4:=HW56.out;omega);have q0:=cell_kept m50 HKP.out (fun q=>by dsimp only at q;have:=HP2L.out;omega);have q1:=cell_kept m51 HKP.out (fun q=>by dsimp only at q;have:=HP2L.out;omega);have q2:=cell_kept hx0 HKP.out (fun q=>HGD.out q);obtain ⟨c0_,f0_,c1_,f1_⟩:=put2 M2.out (.int .i64 mv) (.func (.func 113) #[] #[.pointer (some ⟨pn,0,none⟩), .pointer (some ⟨pp,0,none⟩)]);clear hz2;refine start_ (n:=9) (S:=fun w'=>w'.cell? ⟨w3.heap.size,0,none⟩=some (.int .i64 mv)∧w'.cell? ⟨w3.heap.size,1,none⟩=some (.func (.func 113) #[] #[.pointer (some ⟨pn,0,none⟩), .pointer (some ⟨pp,0,none⟩)])∧w'.cell? ⟨gd,0,none⟩=some (.int .i64 dv)) (ds:=[]) #[false,false,false,false,false,false,false,false,false] (by kernel_rfl) rfl rfl ⟨m50,m51,hx0⟩ (fun hHeld=>?_);refine take_ (i:=0) (N:=some 16) (v:=?_) (a':=?_) #[true,false,false,false,false,false,false,false,false] rfl rfl (by kernel_rfl) (fun _ _ _ h=>h) (Or.inl ⟨by rfl,?_⟩) hHeld ?_ ?_
   rotate_left
   ·
    rintro w' ⟨s0_,s1_,s2_⟩
    go_simp;with_reducible rfl
   rotate_left
   ·
    simp only[Act.put,sa',sb',sc',i64_w,i32_w];rfl
   refine pure_ (i:=1) (N:=some 17) (v:=?_) (a':=?_) #[true,true,false,false,false,false,false,false,false] rfl rfl (by kernel_rfl) (fun _ _ _ h=>h) (Or.inl ⟨by rfl,?_⟩) ?_ ?_
   rotate_left
   ·
    intro w';go_simp;with_reducible rfl
   rotate_left
   ·
    simp only[Act.put,sa',sb',sc',i64_w,i32_w];rfl
   refine pure_ (i:=2) (N:=some 18) (v:=?_) (a':=?_) #[true,true,true,false,false,false,false,false,false] rfl rfl (by kernel_rfl) (fun _ _ _ h=>h) (Or.inl ⟨by rfl,?_⟩) ?_ ?_
   rotate_left
   ·
    intro w';go_simp;with_reducible rfl
   rotate_left
   ·
    simp only[Act.put,sa',sb',sc',i64_w,i32_w];rfl
   refine pure_ (i:=3) (N:=some 19) (v:=?_) (a':=?_) #[true,true,true,true,false,false,false,false,false] rfl rfl (by kernel_rfl) (fun _ _ _ h=>h) (Or.inl ⟨by rfl,?_⟩) ?_ ?_
   rotate_left
   ·
    intro w';go_simp;with_reducible rfl
   rotate_left
   ·
    simp only[Act.put,sa',sb',sc',i64_w,i32_w];rfl
   refine take_ (i:=4) (N:=some 20) (v:=?_) (a':=?_) #[true,true,true,true,true,false,false,false,false] rfl rfl (by kernel_rfl) (fun _ _ _ h=>h) (Or.inl ⟨by rfl,?_⟩) hHeld ?_ ?_
   rotate_left
   ·
    rintro w' ⟨s0_,s1_,s2_⟩
    go_simp;with_reducible rfl
   rotate_left
   ·
    simp only[Act.put,sa',sb',sc',i64_w,i32_w];rfl
   refine pure_ (i:=5) (N:=some 21) (v:=?_) (a':=?_) #[true,true,true,true,true,true,false,false,false] rfl rfl (by kernel_rfl) (fun _ _ _ h=>h) (Or.inl ⟨by rfl,?_⟩) ?_ ?_
   rotate_left
   ·
    intro w';go_simp;with_reducible rfl
   rotate_left
   ·
    simp only[Act.put,sa',sb',sc',i64_w,i32_w];rfl
   refine one_ (i:=6) (N:=none) #[true,true,true,true,true,true,true,false,false] rfl rfl (by kernel_rfl) (by decide) (fun K hK=>?_);refine skip_ (w1:=?_) (by rfl) rfl ?_ ?_
   rotate_left
   ·
    go_simp;rfl
   refine hK.out _ _ ⟨q0,q1,q2⟩ (fun hHeld=>?_);clear hK K;refine pure_ (i:=7) (N:=some 3) (v:=?_) (a':=?_) #[true,true,true,true,true,true,true,true,false] rfl rfl (by kernel_rfl) (fun _ _ _ h=>h) (Or.inl ⟨by rfl,?_⟩) ?_ ?_
   rotate_left
   ·
    intro w';go_simp;with_reducible rfl
   rotate_left
   ·
    simp only[Act.put,sa',sb',sc',i64_w,i32_w];rfl
   refine pure_ (i:=8) (N:=some 4) (v:=?_) (a':=?_) #[true,true,true,true,true,true,true,true,true] rfl rfl (by kernel_rfl) (fun _ _ _ h=>h) (Or.inl ⟨by rfl,?_⟩) ?_ ?_
   rotate_left
   ·
    intro w';go_simp;with_reducible rfl
   rotate_left
   ·
    simp only[Act.put,sa',sb',sc',i64_w,i32_w];rfl
   refine done_ (by kernel_rfl) ?_
   have hsz5:=blk_lt J2.out;have hszw:=HBN.out.size;have h56:=HW56.out;have hRR:(Kd.int .i64).R 3 ((w7.setCell ⟨w.heap.size+1,0,none⟩ (.int .i64 mv)).setCell ⟨w.heap.size+1,1,none⟩ (.func (.func 113) #[] #[.pointer (some ⟨pn,0,none⟩), .pointer (some ⟨pp,0,none⟩)])) w.heap.size (fun _=>True) (.slice (some ⟨gd,0,none⟩) N cd) rr:=Kd.R_lower (Kd.R_mono (Kd.R_kept (Kd.R_bound HR7.out) HKP.out (fun k hk q=>by have h1:=hk.2.1;omega)) (fun _ _=>trivial)) (by omega);have hBB:Below w.heap.size w ((w7.setCell ⟨w.heap.size+1,0,none⟩ (.int .i64 mv)).setCell ⟨w.heap.size+1,1,none⟩ (.func (.func 113) #[] #[.pointer (some ⟨pn,0,none⟩), .pointer (some ⟨pp,0,none⟩)])):=bs' (bs' HBN.out (by omega)) (by omega);have HRR:=am' hRR;have HBB:=am' hBB;clear hRR hBB hsz5 hszw h56;go_wp2;refine bodyPost_ret (results_ctt rfl _ _ (w.heap.size+1) 68 #[.int .i64 mv, .func (.func 113) #[] #[.pointer (some ⟨pn,0,none⟩), .pointer (some ⟨pp,0,none⟩)]] (0,0) _ rfl (put2_blk M2.out _ _) Try.underlying68 rfl (by kernel_rfl)) rfl ?_
   refine ⟨pn,pp, .slice (some ⟨gd,0,none⟩) N cd,by rw[← HDV.out];rfl,blk_put2 MN.out NEn.out,blk_put2 MP.out NEp.out,?_,⟨HLEN.out.trans HN.out,HL8.out⟩,?_⟩
   ·
    exact HRR.out
   ·
    first|exact HBB.out|exact below_drew HBB.out|exact bd' HBB.out _
  ·
   rw[if_neg hlen] at h;cases h
 ·
  rw[if_neg hl8] at h;cases h
def impl_FirstRows.f (k:Nat) (a0_0:Int) (a0_1:Int):Option (List (List Int) × Bool):=(impl_IsCompany.f a0_0 a0_1).bind fun t=>if t=true then (if 0≤a0_0∧a0_0≤4 then ((impl_Company_costs.f k a0_0.toNat a0_1 (2 * a0_0.toNat)).bind fun p=>if p.2=true then (firstF (cmpOut k ((2 * a0_0.toNat:Nat):Int) a0_0 a0_1) p.1 k 0 []).bind fun r=>some (r,true) else some ([],false)) else none) else some ([],false)
theorem impl_FirstRows.mono:∀ a0 a1 k,LeO (impl_FirstRows.f k a0 a1) (impl_FirstRows.f (k+1) a0 a1):=by
 intro a0 a1 k;unfold impl_FirstRows.f
 exact LeO.bind (LeO.refl _) (fun _=>LeO.ite (LeO.ite (LeO.bind (impl_Company_costs.mono _ _ _ _) (fun _=>LeO.ite (LeO.bind (fun r hr=>firstF_up (fun s es hs=>cmpOut_up _ _ _ _ _ es hs) _ _ _ _ _ hr) (fun _=>LeO.refl _)) (LeO.refl _))) (LeO.refl _)) (LeO.refl _))
set_option maxHeartbeats 2000000 in
set_option maxRecDepth 100000 in
theorem impl_FirstRows.calls (k:Nat) (a0_0:Int) (a0_1:Int) (r1:List (List Int)) (r2:Bool) (w:World) (h:impl_FirstRows.f k a0_0 a0_1=some (r1,r2)) :
  Calls Try.prog 56 #[.agg #[.int .i64 a0_0, .int .i64 a0_1]] w fun e w'=>∃ v0_:Value,e = .returned (.tuple #[v0_, .bool r2])∧Kd.S (Kd.slice 3 (Kd.int .i64)) 32 w' w.heap.size (fun _=>True) v0_ r1∧Below w.heap.size w w':=by
 have hu:=Try.underlying40
 have hug:=Try.underlying68
 unfold impl_FirstRows.f at h
 obtain ⟨t,ht,h⟩:=Option.bind_eq_some_iff.mp h
 have HT:=am' (fun (W:World)=>impl_IsCompany.calls a0_0 a0_1 t W ht)
 have HX:=am' (heap_alloc_new w (.cells #[.int .i64 a0_0, .int .i64 a0_1] 40))
 clear ht;have HBX:=am' (ba' (Below.refl w.heap.size w) (.cells #[.int .i64 a0_0, .int .i64 a0_1] 40))
 cases t with
 | false =>
  simp only[Bool.false_eq_true,if_false,Option.some.injEq,Prod.mk.injEq] at h;obtain ⟨rfl,rfl⟩:=h;go_enter Try.func56,Try.ntmps56;go_wp2_with fail;refine (HT.out _).mono ?_
  rintro e w2 ⟨rfl,hb⟩
  have HB:=am' (below_step HBX.out hb);clear hb;go_wp2;go_ret2
  exact ⟨_,rfl,Kd.S_nil _ _ _ _ _,HB.out⟩
 | true =>
  simp only[if_true] at h;by_cases hc4:0≤a0_0∧a0_0≤4
  case neg=>rw [if_neg hc4] at h;cases h
  rw[if_pos hc4] at h;obtain ⟨⟨r,ok⟩,hc,h⟩:=Option.bind_eq_some_iff.mp h;obtain ⟨cn,hcn⟩:∃ cn:Nat,a0_0=(cn:Int):=⟨a0_0.toNat,by omega⟩
  subst hcn;rw[Int.toNat_natCast] at hc h;have HC:=am' (fun (W:World)=>impl_Company_costs.calls k cn a0_1 (2 * cn) r ok W rfl hc);clear hc hc4;cases ok with
  | false =>
   simp only[Bool.false_eq_true,if_false,Option.some.injEq,Prod.mk.injEq] at h;obtain ⟨rfl,rfl⟩:=h;go_enter Try.func56,Try.ntmps56;go_wp2_with fail;refine (HT.out _).mono ?_
   rintro e w1 ⟨rfl,hb0⟩
   have HX2:=am' (blk_below HX.out hb0);have HBX:=am' (below_step HBX.out hb0);clear hb0;have x10:w1.cell? ⟨w.heap.size,0,none⟩=some (.int .i64 (cn:Int)):=(blk_cell HX2.out 0).trans rfl;have x11:w1.cell? ⟨w.heap.size,1,none⟩=some (.int .i64 a0_1):=(blk_cell HX2.out 1).trans rfl;go_wp2_with fail;refine (HC.out _).mono ?_
   rintro e w2 ⟨pn,pp,v,rfl,hpn,hpp,hr,hl,hb⟩
   obtain ⟨Av,cv,rfl⟩:=Kd.R_slice hr;have HB:=am' (below_step HBX.out hb);clear hpn hpp hr hl hb;go_wp2;go_ret2
   exact ⟨_,rfl,Kd.S_nil _ _ _ _ _,ba' HB.out _⟩
  | true =>
   simp only[if_true] at h;obtain ⟨rr,hrr,h⟩:=Option.bind_eq_some_iff.mp h;simp only[Option.some.injEq,Prod.mk.injEq] at h;obtain ⟨rfl,rfl⟩:=h;have HRR:=am' hrr;clear hrr;obtain ⟨nn,hnn⟩:∃ nn,nn=2 * cn:=⟨_,rfl⟩
   have HNN:=am' hnn;rw[← hnn] at HC HRR;clear hnn;go_enter Try.func56,Try.ntmps56;go_wp2_with fail;refine (HT.out _).mono ?_
   rintro e w1 ⟨rfl,hb0⟩
   have HX2:=am' (blk_below HX.out hb0);have HBX:=am' (below_step HBX.out hb0);clear hb0;have x10:w1.cell? ⟨w.heap.size,0,none⟩=some (.int .i64 (cn:Int)):=(blk_cell HX2.out 0).trans rfl;have x11:w1.cell? ⟨w.heap.size,1,none⟩=some (.int .i64 a0_1):=(blk_cell HX2.out 1).trans rfl;go_wp2_with fail;refine (HC.out _).mono ?_
   rintro e w2 ⟨pn,pp,v,rfl,hpn,hpp,hr,hl,hb⟩
   obtain ⟨Av,cv,rfl⟩:=Kd.R_slice hr;have HB:=am' (below_step HBX.out hb);have HSZ:=am' (below_step HBX.out hb).size;obtain ⟨gv,hgv⟩:∃ gv,gv=wrap64 (2 * 2 ^ min nn 64):=⟨_,rfl⟩
   rw[← hgv];have HBA:=am' (ba' (Below.refl w2.heap.size w2) (.cells #[.int .i64 gv, .func (.func 113) #[] #[.pointer (some ⟨pn,0,none⟩), .pointer (some ⟨pp,0,none⟩)]] 68));have HF:=am' (first_any 113 #[.pointer (some ⟨pn,0,none⟩), .pointer (some ⟨pp,0,none⟩)] _ gv r k rr 0 w2 (w2.alloc (.cells #[.int .i64 gv, .func (.func 113) #[] #[.pointer (some ⟨pn,0,none⟩), .pointer (some ⟨pp,0,none⟩)]] 68)) (enters_of Try.func113 (by kernel_rfl) rfl) (company_out k (nn:Int) (cn:Int) a0_1 pn pp w2 hpn hpp) HBA.out Av cv (Kd.C_below (Kd.R_reads' hr).2.2 HBA.out) (Kd.R_reads' hr).2.1 HRR.out);have HSA:=am' (below_step HB.out HBA.out);clear hpn hpp hr hl hb hgv;go_wp2_with fail;refine HF.out.mono ?_
   rintro e w5 ⟨v5,rfl,hS5,hb5⟩
   have HS5:=am' hS5;have HB5:=am' (below_step HSA.out hb5);clear hS5 hb5;go_wp2;go_ret2
   exact ⟨_,rfl,Kd.S_lower HS5.out HSA.out.size,HB5.out⟩
end Go.Proofs.Ytibdeohiimjocaa.C19
