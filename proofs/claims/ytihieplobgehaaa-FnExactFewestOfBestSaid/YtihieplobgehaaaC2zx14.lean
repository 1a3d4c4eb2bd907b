import Derived.Test.YtihieplobgehaaaC2zx0
import Derived.Test.YtihieplobgehaaaC2zx13
import Derived.Test.YtihieplobgehaaaC2zAl
namespace Go.Proofs.Ytihieplobgehaaa.C2
open Go.RowKit Go.Proofs.YtihieplobgehaaaW.PrintWords Go.Proofs.YtihieplobgehaaaW.PrintLast Go.Proofs.YtihieplobgehaaaW.PrintMore Go.Proofs.Ytihieplobgehaaa.H
attribute [local go_sem] max2_int min2_int max_two min_two max_three min_three max_four min_four
set_option linter.unusedVariables false
set_option linter.unusedSimpArgs false
abbrev EdgK:Kd Edg:=Kd.pair (Kd.int .i64) (Kd.pair (Kd.int .i64) (Kd.slice 3 (Kd.int .i64)))
abbrev RowsK:Kd (List Int):=Kd.slice 3 (Kd.int .i64)
def OutOk (g:Nat) (lb:Array Value) (out:Int→Option (List Edg)) (W0:World):Prop :=
 ∀ W:World,Below W0.heap.size W0 W→∀ s es,out s=some es→Calls Try.prog g (#[.int .i64 s] ++ lb) W fun e w'=>∃ v,e = .returned v∧Kd.S EdgK 76 w' W.heap.size (fun _=>True) v es∧Below W.heap.size W w'
def OutOkP (g:Nat) (lb:Array Value) (out:Int→Option (List Edg)) (W0 V0:World) (P:Nat→Prop):Prop :=
 ∀ W:World,Below W0.heap.size W0 W→Kept V0 W (fun k=>¬ P k)→∀ s es,out s=some es→Calls Try.prog g (#[.int .i64 s] ++ lb) W fun e w'=>∃ v,e = .returned v∧Kd.S EdgK 76 w' W.heap.size (fun _=>True) v es∧Below W.heap.size W w'
theorem S_single {e et base b:Nat} {W:World} {ok okp:Nat→Prop} {x:List Int} {u:Value} (h:W.heap[b]? = some (.cells #[u] et (0,0))) (hB:base≤b) (ho:ok b) (hM:(Kd.int .i64).R e W base okp u x) (hp:∀ k,okp k→ok k∧k≠b):Kd.S (Kd.slice e (Kd.int .i64)) et W base ok (.slice (some ⟨b,0,none⟩) 1 1) [x]:=by
 refine ⟨fun _=>0,fun k hk=>by cases hk;exact ho,[u],⟨by simp[Kd.tag,Kd.slice], .inr ⟨b,1,#[u],rfl,hB,h,Nat.le_refl _,by decide,by simp[Kd.tag,Kd.slice],by simp[Kd.tag,Kd.slice]⟩⟩,?_⟩
 exact Reps.one (p:=(x,0)) ⟨u,rfl,Kd.R_mono hM (fun k hk=>⟨⟨(hp k hk).1,fun q=>(hp k hk).2 (by simpa [Value.ownBlock] using q)⟩,rfl⟩)⟩ (Reps.none _ _)
theorem S_push {W w1:World} {e et g n cap j base:Nat} {ok oki:Nat→Prop} {xs:List (List Int)} {vj v1:Value} {row:List Int}
  (hH:Kd.H (Kd.slice e (Kd.int .i64)) et W base ok (.slice (some ⟨g,0,none⟩) n cap) xs (j:Int) oki [vj]) (hj:j < n)
  (hg:W.grownBy w1 vj.ownBlock) (hvj:∀ k,vj.ownBlock=some k→oki k)
  (hR:(Kd.int .i64).R e w1 base (fun k=>oki k∨ok k∧W.heap.size≤k) v1 row) :
  Kd.S (Kd.slice e (Kd.int .i64)) et (w1.setCell ⟨g,j,none⟩ v1) base ok (.slice (some ⟨g,0,none⟩) n cap) (xs.set j row):=by
 have h1:=Kd.H_grown (Kd.H_widen hH) hg (fun k hk => .inl (hvj k hk))
 have hv1:v1.oneCell'=true:=by obtain ⟨_,_,rfl⟩:=Kd.R_slice hR;rfl
 have h2:=Kd.S_seg (okg:=fun _=>False) (okp:=fun k=>oki k∨ok k∧W.heap.size≤k) (Kd.H_mono (ok':=fun k=>ok k∧¬ False) h1 (fun k hk=>⟨hk,fun q=>q.elim⟩)) (by omega) (by omega) (seg:=[v1]) (j:=0) (x':=row) (by simp[Kd.slice]) ⟨v1,by simp,hR⟩ (fun k hk => .inl hk) (fun k hk=>hk.elim)
 have h3:=h2.1
 simp only[Kd.slice,Int.toNat_natCast,Nat.mul_one,Nat.add_zero] at h3
 exact h3
def EdgCells (W:World) (A:Option Addr) (es:List Edg) (lo hi:Nat):Prop :=
 ∀ (j:Nat) (e:Edg),es[j]? = some e→∃ ge,A=some ⟨ge,0,none⟩∧lo≤ge∧ge < hi∧W.cell? ⟨ge,j * 3,none⟩=some (.int .i64 e.1)∧W.cell? ⟨ge,j * 3+1,none⟩=some (.int .i64 e.2.1)∧∃ Ab nb cb,W.cell? ⟨ge,j * 3+2,none⟩=some (.slice Ab nb cb)
theorem EdgCells.of_S {W:World} {e base n cap:Nat} {ok:Nat→Prop} {A:Option Addr} {es:List Edg} (h:Kd.S EdgK e W base ok (.slice A n cap) es):EdgCells W A es base W.heap.size:=by
 intro j x hj;obtain ⟨hl,hx⟩:=List.getElem?_eq_some_iff.1 hj
 obtain ⟨g,cap',hv,hb,hlt,_⟩:=Kd.S_form h (by omega)
 have hn:=(Kd.S_reads' h).1
 injection hv with hA _ _
 subst hA;obtain ⟨oki,c,hcl,hM,hcc,_⟩:=Kd.S_elem h (0,0,[]) (j:Int) (by omega) (by omega)
 rw[Int.toNat_natCast,List.getD_eq_getElem?_getD,hj,Option.getD_some] at hM
 obtain ⟨c0,c1,rfl,h0,c2,c3,rfl,h1,v,rfl,h2⟩:=hM
 have h0:c0=[.int .i64 x.1]:=h0
 have h1:c2=[.int .i64 x.2.1]:=h1
 subst h0 h1
 obtain ⟨Ab,cb,rfl⟩:=Kd.R_slice h2
 refine ⟨g,rfl,hb,hlt,?_,?_,Ab,x.2.2.length,cb,?_⟩
 ·
  exact hcc 0 _ rfl
 ·
  exact hcc 1 _ rfl
 ·
  exact hcc 2 _ rfl
theorem EdgCells.kept {W W1:World} {A:Option Addr} {es:List Edg} {lo hi:Nat} {S:Nat→Prop} (h:EdgCells W A es lo hi) (hk:Kept W W1 S) (hS:∀ k,S k→¬ (lo≤k∧k < hi)):EdgCells W1 A es lo hi:=by
 intro j e hj;obtain ⟨ge,hA,h1,h2,h3,h4,Ab,nb,cb,h5⟩:=h j e hj
 exact ⟨ge,hA,h1,h2,cell_kept h3 hk (fun q=>hS _ q ⟨h1,h2⟩),cell_kept h4 hk (fun q=>hS _ q ⟨h1,h2⟩),Ab,nb,cb,cell_kept h5 hk (fun q=>hS _ q ⟨h1,h2⟩)⟩
structure FrW (W0 V0:World) (P:Nat→Prop) (n gd cd pb:Nat) (bx:Obj) (dist:List Int) (wt:List (List Int)) (vw:Value) (ok:Nat→Prop) (W:World):Prop where
 dst:(Kd.int .i64).R 3 W W0.heap.size (fun k=>k=gd) (.slice (some ⟨gd,0,none⟩) n cd) dist
 wai:Kd.S RowsK 22 W W0.heap.size ok vw wt
 box:W.heap[pb]? = some bx
 bel:Below W0.heap.size W0 W
 inv:Kept V0 W (fun k=>¬ P k)
 nd:∀ k,ok k→k≠gd∧k≠pb∧¬ P k
 ng:¬ P gd
section
variable {W0 V0 W W1:World} {P:Nat→Prop} {n gd cd pb:Nat} {bx:Obj} {dist:List Int} {wt wt1:List (List Int)} {vw vw1:Value} {ok ok1:Nat→Prop}
theorem FrW.step (h:FrW W0 V0 P n gd cd pb bx dist wt vw ok W) (hk:Kept W W1 ok) (hb:Below W0.heap.size W0 W1) (hS:Kd.S RowsK 22 W1 W0.heap.size ok1 vw1 wt1) (hn:∀ k,ok1 k→k≠gd∧k≠pb∧¬ P k):FrW W0 V0 P n gd cd pb bx dist wt1 vw1 ok1 W1 :=
 ⟨Kd.R_kept h.dst hk (fun k e q=>(h.nd k q).1 e),hS,blk_kept h.box hk (fun q=>(h.nd _ q).2.1 rfl),hb,h.inv.then_ hk (fun k q => .inl (h.nd k q).2.2),hn,h.ng⟩
theorem FrW.below (h:FrW W0 V0 P n gd cd pb bx dist wt vw ok W) (hb:Below W.heap.size W W1):FrW W0 V0 P n gd cd pb bx dist wt vw (fun k=>ok k∧k < W.heap.size) W1 :=
 h.step (Kept.of_below hb _) (bt' h.bel hb) (Kd.S_old h.wai hb) (fun k hk=>h.nd k hk.1)
theorem FrW.weaken (h:FrW W0 V0 P n gd cd pb bx dist wt vw ok W) (hok:∀ k,ok k→ok1 k) (hn:∀ k,ok1 k→k≠gd∧k≠pb∧¬ P k):FrW W0 V0 P n gd cd pb bx dist wt vw ok1 W :=
 ⟨h.dst,Kd.S_mono h.wai hok,h.box,h.bel,h.inv,hn,h.ng⟩
theorem FrW.len (h:FrW W0 V0 P n gd cd pb bx dist wt vw ok W):n=dist.length:=(Kd.R_reads' h.dst).1
theorem FrW.at (h:FrW W0 V0 P n gd cd pb bx dist wt vw ok W) (s:Nat) (hs:s < n):W.cell? ⟨gd,s,none⟩=some (.int .i64 (rd dist s))∧W.frozen? ⟨gd,s,none⟩=false:=by
 have:=Kd.R_celln 0 h.dst (s:Int) (by omega) (by omega)
 simpa [rd,rdOf] using this
theorem FrW.put (h:FrW W0 V0 P n gd cd pb bx dist wt vw ok W) (s:Nat) (hs:s < n) (hne:gd≠pb) (x:Int):FrW W0 V0 P n gd cd pb bx (dist.set s x) wt vw ok (W.setCell ⟨gd,s,none⟩ (.int .i64 x)):=by
 have h1:=Kd.R_putg h.dst (s:Int) x
 rw[Int.toNat_natCast] at h1
 exact ⟨h1.1,Kd.S_far (p:=⟨gd,s,none⟩) h.wai (fun k hk=>(h.nd k hk).1) _,(Below.heap_setCell _ _ _ _ (fun e=>hne e.symm)).trans h.box,bs' h.bel (Kd.R_base h.dst gd (by simp[Value.ownBlock])),h.inv.setCell (.inl h.ng) _,h.nd,h.ng⟩
theorem FrW.row {vA:Option Addr} {cw:Nat} (h:FrW W0 V0 P n gd cd pb bx dist wt (.slice vA wt.length cw) ok W) (j:Nat) (hj:j < wt.length):∃ g oki Ar cr,vA=some ⟨g,0,none⟩∧W.cell? ⟨g,j,none⟩=some (.slice Ar (rw_ wt j).length cr)∧(∃ cells,W.heap[g]? = some (.cells cells 22 (0,0)))∧W0.heap.size≤g∧(Kd.int .i64).R 3 W W0.heap.size oki (.slice Ar (rw_ wt j).length cr) (rw_ wt j)∧(∀ k,oki k→ok k∧k≠g)∧ok g∧Kd.H RowsK 22 W W0.heap.size ok (.slice (some ⟨g,0,none⟩) wt.length cw) wt (j:Int) oki [.slice Ar (rw_ wt j).length cr]:=by
 obtain ⟨g,cap',hv,hb,hlt,cells,hc⟩:=Kd.S_form h.wai (by omega)
 injection hv with hA _ _
 subst hA;have hw:=h.wai
 have hog:ok g:=by obtain ⟨f,h0,_⟩:=hw;exact h0 g (by simp[Value.ownBlock])
 obtain ⟨oki,c,hcl,hM,hcc,hfr,hoki,hH⟩:=Kd.S_elem hw [] (j:Int) (by omega) (by omega)
 rw[Int.toNat_natCast] at hM
 obtain ⟨v,rfl,hR⟩:=hM
 obtain ⟨Ar,cr,rfl⟩:=Kd.R_slice hR
 have h0:=hcc 0 _ rfl
 simp only[Kd.slice,Int.toNat_natCast,Nat.mul_one,Nat.add_zero] at h0
 exact ⟨g,oki,Ar,cr,rfl,h0,⟨cells,hc⟩,hb,hR,hoki,hog,hH⟩
end
theorem bkLim_val:bkLim=1099511627776:=rfl
theorem bk_add {d cn tg:Nat} (hd:d < bkLim) (hc:cn < bkLim) (ht:tg=d+cn):wrap64 ((d:Int)+(cn:Int))=(tg:Int)∧tg < 2199023255552∧d≤tg:=by
 rw[bkLim_val] at hd hc
 refine ⟨?_,by omega,by omega⟩
 rw[wr_id (by omega) (by omega),ht]
 omega
set_option maxHeartbeats 4000000 in
set_option maxRecDepth 100000 in
theorem from_anyP (g:Nat) (lb:Array Value) (out:Int→Option (List Edg)) (kk:Nat) (n:Nat) (starts r:List Int) (W0 V0 w:World) (P:Nat→Prop) (hP:∀ k,P k→k < w.heap.size) (eg:∀ args w,(callFunc g args).run Try.prog w = .ok (.enter g args) w) (hO:OutOkP g lb out W0 V0 P) (hV:Kept V0 w (fun k=>¬ P k))
  (A:Option Addr) (c:Nat) (hS:(Kd.int .i64).R 3 w W0.heap.size (fun k=>¬ P k) (.slice A starts.length c) starts) (hB:Below W0.heap.size W0 w) (hn:0 < n) (hn2:n≤1024) (h:bkD out kk 0 (List.replicate n (-1)) [starts]=some r) :
  Calls Try.prog 31 #[.agg #[.int .i64 (n:Int), .func (.func g) #[] lb], .slice A starts.length c] w fun e w'=>∃ v,e = .returned v∧(Kd.int .i64).R 3 w' W0.heap.size (fun _=>True) v r∧Below W0.heap.size W0 w':=by
 have hu:=Try.underlying46
 have hue:=Try.underlying76
 have hinfoR:=am' (show (Try.prog.info? 22).map (fun i=>(i.zero,i.size,i.bytes))=some (some (.slice none 0 0),1,24) by kernel_rfl)
 have hinfoI:=am' (show (Try.prog.info? 3).map (fun i=>(i.zero,i.size,i.bytes))=some (some (.int .i64 0),1,8) by kernel_rfl)
 have HO:=am' hO
 have HPP:=am' hP
 have HVV:=am' hV
 have HS:=am' hS
 have HB:=am' hB
 have HR:=am' h
 have HN:=am' hn
 have HN2:=am' hn2
 have HB0:=am' (two_blocks w (.cells #[.int .i64 (n:Int), .func (.func g) #[] lb] 46) (.cells #[.int .i64 (-1)] 3))
 clear hO hP hV hS hB h hn hn2;go_enter Try.func31,Try.ntmps31
 have y0:((w.alloc (.cells #[.int .i64 (n:Int), .func (.func g) #[] lb] 46)).alloc (.cells #[.int .i64 (-1)] 3)).cell? ⟨w.heap.size,0,none⟩=some (.int .i64 (n:Int)):=(bc' HB0.out.1 0).trans rfl
 go_wp2_with (go_at_call 59;refine (repeat_callsI (some ⟨w.heap.size+1,0,none⟩) 1 (-1) n HN2.out _ (C_one HB0.out.2.1)).mono ?_;rintro e w2 ⟨vd,rfl,hR2,hB2⟩;obtain ⟨gd,cd,hv,hgb,hgl,_⟩:=Kd.R_form hR2 (by rw[List.length_replicate];exact HN.out);rw[List.length_replicate] at hv;subst hv;have HR2:=am' hR2;have HB2:=am' hB2;have HGB:=am' hgb;have HGL:=am' hgl;clear hR2 hB2 hgb hgl y0)
 have HSZ:=am' (show ((w.alloc (.cells #[.int .i64 (n:Int), .func (.func g) #[] lb] 46)).alloc (.cells #[.int .i64 (-1)] 3)).heap.size=w.heap.size+2 by rw[World.size_alloc,World.size_alloc])
 have HLW:=am' HB.out.size
 have HBW:=am' (bt' HB.out (bt' HB0.out.2.2 HB2.out))
 have HBX:=am' (bb' HB0.out.1 HB2.out)
 have HFW:FrW W0 V0 P n gd cd w.heap.size (.cells #[.int .i64 (n:Int), .func (.func g) #[] lb] 46 (0,0)) (List.replicate n (-1)) [starts] (.slice (some ⟨w2.heap.size,0,none⟩) 1 1) (fun k=>k≠gd∧k≠w.heap.size∧¬ P k) (w2.alloc (.cells #[.slice A starts.length c] 22)):=by
  have hsz:=HSZ.out;have hgb:=HGB.out;have hgl:=HGL.out;have hlw:=HLW.out;rw[hsz] at hgb;have hba:Below w2.heap.size w2 (w2.alloc (.cells #[.slice A starts.length c] 22)):=ba' (Below.refl _ _) _;refine ⟨rb' (Kd.R_lower (Kd.R_tight rfl HR2.out |> fun h=>Kd.R_mono h (fun k hk=>by simpa [Value.ownBlock,eq_comm] using hk)) (by omega)) hba,?_,bb' HBX.out hba,bt' HBW.out hba,HVV.out.below (bt' (bt' HB0.out.2.2 HB2.out) hba),fun k hk=>hk,fun q=>by have:=HPP.out _ q;omega⟩;refine S_single (heap_alloc_new w2 _) (by have:=HBW.out.size;omega) ⟨by omega,by omega,fun q=>by have:=HPP.out _ q;omega⟩ (okp:=fun k=>k < w.heap.size∧¬ P k) (rb' (rb' (Kd.R_mono (Kd.R_bound HS.out) (fun k hk=>⟨hk.2.2.1,hk.1⟩)) (bt' HB0.out.2.2 HB2.out)) hba) (fun k hk=>⟨⟨by omega,by omega,hk.2⟩,by omega⟩)
 have HFW:=am' HFW
 have HNE:=am' (show gd≠w.heap.size by have h1:=HSZ.out;have h2:=HGB.out;rw[h1] at h2;omega)
 have HPS:=am' (show ∀ k,P k→k < w.heap.size from HPP.out)
 clear HPP HVV;clear HBX HBW HR2 HB2 HS HB0 HSZ;generalize w2.alloc (.cells #[.slice A starts.length c] 22)=W3 at HFW ⊢
 generalize hpb:w.heap.size=pb at HFW HGB HNE HPS ⊢
 clear hpb HGB HGL HLW;go_loopg [6,7] kk (fun gg v6 v7 wr=>∃ (d:Nat) (dist:List Int) (wt:List (List Int)) (Aw:Option Addr) (cw:Nat),v6 = .slice Aw wt.length cw∧v7 = .int .i64 (d:Int)∧Aside0 (bkD out gg d dist wt=some r)∧Aside0 (FrW W0 V0 P n gd cd pb (.cells #[.int .i64 (n:Int), .func (.func g) #[] lb] 46 (0,0)) dist wt (.slice Aw wt.length cw) (fun k=>k≠gd∧k≠pb∧¬ P k) wr))
 case atStart=>exact ⟨0,_,[starts],_,_,rfl,rfl,HR,HFW⟩
 case round =>
  obtain ⟨d,dist,wt,Aw,cw,rfl,rfl,HD,HF⟩:=hrel;clear HR HFW;cases gk with
  | zero=>exact absurd HD.out (by simp[bkD])
  | succ g1 =>
  have hD:=HD.out;rw[bkD] at hD;clear HD;by_cases hlt:d < wt.length
  ·
   rw[if_pos hlt] at hD;by_cases hlim:d < bkLim
   ·
    rw[if_pos hlim] at hD;obtain ⟨⟨dist',wt'⟩,hI,hD⟩:=Option.bind_eq_some_iff.mp hD;have HD:=am' hD;have HI:=am' hI;have HLIM:=am' hlim;have HLT:=am' hlt;have hlz:(d:Int) < (wt.length:Int):=by omega
    have hdz:=dt' hlz;clear hD hI hlim hlt;go_wp2;go_loopg [6,8] g1 (fun gg v6 v8 wr=>∃ (i:Nat) (dist:List Int) (wt:List (List Int)) (Aw:Option Addr) (cw:Nat),v6 = .slice Aw wt.length cw∧v8 = .int .i64 (i:Int)∧Aside0 (d < wt.length)∧Aside0 (bkI out d gg i dist wt=some (dist',wt'))∧Aside0 (FrW W0 V0 P n gd cd pb (.cells #[.int .i64 (n:Int), .func (.func g) #[] lb] 46 (0,0)) dist wt (.slice Aw wt.length cw) (fun k=>k≠gd∧k≠pb∧¬ P k) wr))
    case atStart=>exact ⟨0,_,_,_,_,rfl,rfl,HLT,HI,HF⟩
    case round =>
     clear HF HI HLT hlz hdz;obtain ⟨i,dist,wt,Aw,cw,rfl,rfl,HLT,HI,HF⟩:=hrel;cases gk with
     | zero=>exact absurd HI.out (by simp[bkI])
     | succ g2 =>
     have hI:=HI.out;rw[bkI] at hI;clear HI;obtain ⟨gw,oki,Ar,cr,hA,hx0, -, -,hR, -, -, -⟩:=HF.out.row d HLT.out;subst hA;have hld:(d:Int) < (wt.length:Int):=by have:=HLT.out;omega
     have hC:=(Kd.R_reads' hR).2.2;have hbig:=hC.2.1;obtain ⟨row,hrow⟩:∃ row,row=rw_ wt d:=⟨_,rfl⟩
     change (if i < (rw_ wt d).length then _ else _)=_ at hI
     rw[← hrow] at hx0 hC hI hbig;have HROW:=am' hrow;clear hrow hR;by_cases hi:i < row.length
     ·
      rw[if_pos hi] at hI;by_cases hs:0≤rd row (i:Nat)∧rd row (i:Nat) < (dist.length:Int)
      ·
       rw[if_pos hs] at hI;have hiz:(i:Int) < (row.length:Int):=by omega
       have hidz:=dt' hiz;obtain ⟨ad,e0,hx1⟩:=Kd.at_int hC (i:Int) (by omega) hiz;cases e0;rw[Int.toNat_natCast] at hx1;obtain ⟨sn,hsn⟩:∃ sn:Nat,rd row (i:Nat)=(sn:Int):=⟨_,(Int.toNat_of_nonneg hs.1).symm⟩
       rw[hsn] at hx1 hI hs;have hsl:=hs.2;rw[← HF.out.len] at hsl;have hsl2:sn < n:=by omega
       obtain ⟨hx2,hf2⟩:=HF.out.at sn hsl2;have HSN:=am' hsn;rw[Int.toNat_natCast] at hI;clear hsn hs hC;obtain ⟨dv,hdv⟩:∃ dv,dv=rd dist (sn:Int):=⟨_,rfl⟩
       rw[← hdv] at hx2 hI;have HDV:=am' hdv;clear hdv;by_cases hv:0≤dv
       ·
        rw[if_pos hv] at hI;have hvz:=dt' hv;have HI:=am' hI;clear hI;go_wp2;go_roundg g2
        case measure=>omega
        case rel=>exact ⟨i+1,dist,wt,_,cw,rfl,by go_num,HLT,HI,HF⟩
       ·
        rw[if_neg hv] at hI;have hvz:=df' hv;obtain ⟨es,hes,hI⟩:=Option.bind_eq_some_iff.mp hI;obtain ⟨wt1,hE,hI⟩:=Option.bind_eq_some_iff.mp hI;have HF2:=am' (HF.out.put sn hsl2 HNE.out (d:Int));have y1:(wr.setCell ⟨gd,sn,none⟩ (.int .i64 (d:Int))).cell? ⟨pb,1,none⟩=some (.func (.func g) #[] lb):=(bc' HF2.out.box 1).trans rfl;have HC:=am' (HO.out _ HF2.out.bel HF2.out.inv (sn:Int) es hes);have HI:=am' hI;have HE:=am' hE;clear hI hE hes;go_wp2_with fail;refine HC.out.mono ?_
        rintro e w4 ⟨v,rfl,hS4,hb4⟩
        obtain ⟨Ae,ce,rfl⟩:=Kd.S_slice hS4;have HFB:=HF2.out.below hb4;generalize hw1:wr.setCell ⟨gd,sn,none⟩ (.int .i64 (d:Int))=w1 at hS4 hb4 HFB
        have HEC:=am' (EdgCells.of_S hS4);have HFE:=am' (HFB.weaken (ok1:=fun k=>(k≠gd∧k≠pb∧¬ P k)∧¬ (w1.heap.size≤k∧k < w4.heap.size)) (fun k hk=>⟨hk.1,by omega⟩) (fun k hk=>hk.1));have HSZ4:=am' hb4.size;have hebig:=(Kd.S_reads' hS4).2.2.2.1;have hel:=(Kd.S_reads' hS4).1;have HROWB:=am' HFE.out.bel.size;generalize w1.heap.size=N1 at HEC HFE HSZ4
        generalize hN2:w4.heap.size=N2 at HEC HFE HSZ4
        have HN4:=am' hN2;clear HF HF2 HFB hw1 hS4 hb4 y1 hN2 HC;obtain ⟨dist2,hd2⟩:∃ x,x=dist.set sn (d:Int):=⟨_,rfl⟩
        rw[← hd2] at HFE HE HI;have hdl:n=dist2.length:=HFE.out.len;have HDL:=am' hdl;clear hd2 hdl hx0 hx1 hx2 hf2 HDV HSN HROW;go_wp2;go_loopg [6,54] es.length (fun gg v6 v54 wr=>∃ (j:Nat) (wt:List (List Int)) (Aw:Option Addr) (cw:Nat),v6 = .slice Aw wt.length cw∧v54 = .int .i64 (j:Int)∧Aside0 (d < wt.length)∧Aside0 (j≤es.length)∧Aside0 (es.length - j≤gg)∧Aside0 (bkE d dist2 (es.drop j) wt=some wt1)∧Aside0 (FrW W0 V0 P n gd cd pb (.cells #[.int .i64 (n:Int), .func (.func g) #[] lb] 46 (0,0)) dist2 wt (.slice Aw wt.length cw) (fun k=>(k≠gd∧k≠pb∧¬ P k)∧¬ (N1≤k∧k < N2)) wr)∧Aside0 (EdgCells wr Ae es N1 N2)∧Aside0 (N2≤wr.heap.size))
        case atStart=>exact ⟨0,_,_,_,rfl,rfl,HLT,⟨Nat.zero_le _⟩,⟨by omega⟩,HE,HFE,HEC,⟨Nat.le_of_eq HN4.out.symm⟩⟩
        case round =>
         obtain ⟨j,wt,Aw,cw,rfl,rfl,HLT,HJ,HG,HE,HF,HEC,HN4⟩:=hrel;by_cases hj:j < es.length
         ·
          have hjz:(j:Int) < (es.length:Int):=by omega
          have hjdz:=dt' hjz;obtain ⟨⟨tv,cs,by_⟩,hej⟩:∃ e,es[j]? = some e:=⟨_,List.getElem?_eq_getElem hj⟩
          obtain ⟨ge,hA,hg1,hg2,hc0,hc1,Ab,nb,cb,hc2⟩:=HEC.out j _ hej;subst hA;have hE:=HE.out;rw[List.drop_eq_getElem_cons hj,(List.getElem?_eq_some_iff.1 hej).2,bkE] at hE;clear HE hej;dsimp only at hc0 hc1 hE
          by_cases ht:0≤tv∧tv < (dist2.length:Int)
          ·
           rw[if_pos ht] at hE;obtain ⟨tn,rfl⟩:∃ tn:Nat,tv=(tn:Int):=⟨_,(Int.toNat_of_nonneg ht.1).symm⟩
           have htl:(tn:Int) < (n:Int):=by have:=HDL.out;omega
           have htl2:tn < n:=by omega
           clear ht;have hba:=ba' (Below.refl wr.heap.size wr) (.cells #[.int .i64 (tn:Int), .int .i64 cs, .slice Ab nb cb] 76);have HF5:=am' (HF.out.below hba);have HEC5:=am' (HEC.out.kept (Kept.of_below hba (fun _=>False)) (fun k q=>q.elim));have HPE:=am' (heap_alloc_new wr (.cells #[.int .i64 (tn:Int), .int .i64 cs, .slice Ab nb cb] 76));have HSZ5:=am' hba.size;have hxd:=(HF5.out.at tn htl2).1;clear hba;have hE:(if 0≤rd dist2 (tn:Int) then bkE d dist2 (es.drop (j+1)) wt else if 0≤cs∧cs < (bkLim:Int) then if (rw_ wt (d+cs.toNat)).length < bkLim then bkE d dist2 (es.drop (j+1)) (bkPut wt (d+cs.toNat) (tn:Int)) else none else none)=some wt1:=hE;obtain ⟨dv2,hdv2⟩:∃ x,x=rd dist2 (tn:Int):=⟨_,rfl⟩
           rw[← hdv2] at hE hxd;clear hdv2;by_cases hv2:0≤dv2
           ·
            rw[if_pos hv2] at hE;have hv2z:=dt' hv2;have HE:=am' hE;clear hE;go_wp2;go_roundg (es.length - (j+1))
            case measure=>have:=HG.out;omega
            case rel =>
             refine ⟨j+1,wt,Aw,cw,rfl,by go_num,HLT,⟨by omega⟩,⟨Nat.le_refl _⟩,HE,⟨HF5.out.weaken (fun k hk=>hk.1) (fun k hk=>hk.1)⟩,HEC5,⟨Nat.le_trans HN4.out HSZ5.out⟩⟩
           ·
            rw[if_neg hv2] at hE;have hv2z:=df' hv2;by_cases hcs:0≤cs∧cs < (bkLim:Int)
            ·
             rw[if_pos hcs] at hE;obtain ⟨cn,rfl⟩:∃ cn:Nat,cs=(cn:Int):=⟨_,(Int.toNat_of_nonneg hcs.1).symm⟩
             have hcl:cn < bkLim:=by omega
             rw[Int.toNat_natCast] at hE;by_cases hrl:(rw_ wt (d+cn)).length < bkLim
             ·
              rw[if_pos hrl] at hE;obtain ⟨tg,htg⟩:∃ tg,tg=d+cn:=⟨_,rfl⟩
              rw[← htg] at hE hrl;obtain ⟨hadd,htg2,htd⟩:=bk_add HLIM.out hcl htg;have hadd2:IntKind.i64.wrap ((d:Int)+(cn:Int))=(tg:Int):=(i64_w _).trans hadd;have HTG:=am' htg2;have HTD:=am' htd;clear htg2 htd;have HE:=am' hE;have HRL:=am' hrl;have HF6:=am' (HF5.out.weaken (ok1:=fun k=>((k≠gd∧k≠pb∧¬ P k)∧¬ (N1≤k∧k < N2))∧k≠wr.heap.size) (fun k hk=>⟨hk.1,by omega⟩) (fun k hk=>hk.1.1));clear hE hrl htg hcs hcl HF5 HF HEC;go_wp2;generalize wr.alloc (.cells #[.int .i64 (tn:Int), .int .i64 (cn:Int), .slice Ab nb cb] 76)=W5 at HF6 HEC5 HPE hxd HSZ5 ⊢
              generalize wr.heap.size=pe at HF6 HPE HSZ5 HN4 ⊢
              have HN5:=am' (Nat.le_trans HN4.out HSZ5.out);clear HN4 HSZ5 hxd hc0 hc1 hc2;go_loopg [6] (tg+1) (fun gg v6 wr=>∃ (m:Nat) (wtm:List (List Int)) (Aw:Option Addr) (cw:Nat),v6 = .slice Aw wtm.length cw∧Aside0 (wtm=wt ++ List.replicate m [])∧Aside0 (tg+1 - wtm.length≤gg)∧Aside0 (m=0∨wtm.length≤tg+1)∧Aside0 (FrW W0 V0 P n gd cd pb (.cells #[.int .i64 (n:Int), .func (.func g) #[] lb] 46 (0,0)) dist2 wtm (.slice Aw wtm.length cw) (fun k=>((k≠gd∧k≠pb∧¬ P k)∧¬ (N1≤k∧k < N2))∧k≠pe) wr)∧Aside0 (EdgCells wr (some ⟨ge,0,none⟩) es N1 N2)∧Aside0 (wr.heap[pe]? = some (.cells #[.int .i64 (tn:Int), .int .i64 (cn:Int), .slice Ab nb cb] 76 (0,0)))∧Aside0 (N2≤wr.heap.size))
              case atStart=>exact ⟨0,wt,_,_,rfl,⟨by simp⟩,⟨by omega⟩,⟨.inl rfl⟩,HF6,HEC5,HPE,HN5⟩
              case round =>
               clear HF6 HEC5 HPE HN5;obtain ⟨m,wtm,Aw,cw,rfl,HWM,HM,HM2,HF,HEC,HPE,HN5⟩:=hrel;have z1:wr.cell? ⟨pe,1,none⟩=some (.int .i64 (cn:Int)):=(bc' HPE.out 1).trans rfl
               have HFR:=am' (show ∀ k,wr.heap.size≤k→((k≠gd∧k≠pb∧¬ P k)∧¬ (N1≤k∧k < N2))∧k≠pe from fun k hk=>by
                have h1:=Kd.R_lt HF.out.dst gd (by simp[Value.ownBlock]);have h2:=blk_lt HF.out.box;have h3:=blk_lt HPE.out;have h4:=HN5.out;refine ⟨⟨⟨by omega,by omega,fun q=>by have h5:=HPS.out k q;omega⟩,by omega⟩,by omega⟩)
               have HOK:=am' (show ∀ k,(Value.slice Aw wtm.length cw).ownBlock=some k→((k≠gd∧k≠pb∧¬ P k)∧¬ (N1≤k∧k < N2))∧k≠pe from by obtain ⟨f,h0,_⟩:=HF.out.wai;exact h0);by_cases hle:wtm.length≤tg
               ·
                have hlez:(wtm.length:Int)≤(tg:Int):=by omega
                have hlezd:=dt' hlez;have HLE:=am' hle;clear hle;go_wp2_with ((with_reducible refine gate_builtin (b := .append) (xs:=#[.tmp 71, .tmp 72]) rfl ?_);at_builtin;refine Kd.S_append RowsK (w0:=W0) W0.heap.size rfl (.tmp 71) (.tmp 72) 68 22 (.slice none 0 0) 24 rfl Try.underlying68 hinfoR.out rfl (by decide) (by omega) (.slice Aw wtm.length cw) wtm [] [.slice none 0 0] (fun k=>((k≠gd∧k≠pb∧¬ P k)∧¬ (N1≤k∧k < N2))∧k≠pe) (fun _=>False) rfl rfl ⟨_,rfl,Kd.R_nil _ _ _ _ _⟩ (fun _ h=>h.elim) HFR.out (Kd.S_mono HF.out.wai (fun k hk=>⟨hk,fun q=>q⟩)) HF.out.bel HF.out.bel.size ?aL ?_;(case aL=>have h1:=HLE.out;have h2:=HTG.out;omega);intro v1 w1 ho hb hg hat;obtain ⟨A1,c1,e1⟩:=Kd.S_slice ho;subst e1;have HO1:=am' ho;have HB1:=am' hb;have HG1:=am' hg;clear ho hb hg hat);go_roundg (tg+1 - (wtm ++ [[]]).length)
                case measure=>have h1:=HM.out;have h2:=HLE.out;simp only[List.length_append,List.length_singleton];omega
                case rel =>
                 have hk1:Kept wr w1 (fun k=>((k≠gd∧k≠pb∧¬ P k)∧¬ (N1≤k∧k < N2))∧k≠pe):=Kept.of_grown HG1.out (Kept.refl wr _) (fun k hk => .inl (HOK.out k hk));refine ⟨m+1,wtm ++ [[]],A1,c1,by rw[List.length_append,List.length_singleton],⟨?_⟩,⟨Nat.le_refl _⟩,⟨.inr ?_⟩,⟨HF.out.step hk1 HB1.out HO1.out HF.out.nd⟩,⟨HEC.out.kept hk1 (fun k hk=>hk.1.2)⟩,⟨blk_kept HPE.out hk1 (fun q=>q.2 rfl)⟩,⟨Nat.le_trans HN5.out hk1.1⟩⟩
                 ·
                  rw[HWM.out,List.append_assoc,List.replicate_succ']
                 ·
                  have h2:=HLE.out;simp only[List.length_append,List.length_singleton];omega
               ·
                have hlez:¬ (wtm.length:Int)≤(tg:Int):=by omega
                have hlezd:=df' hlez
                have hml:m=tg+1 - wt.length:=by
                 have h1:=HWM.out;have h2:=HM2.out;rw[h1,List.length_append,List.length_replicate] at hle h2;omega
                have HML:=am' hml;clear hml;have htl3:tg < wtm.length:=by omega
                have htgz:(tg:Int) < (wtm.length:Int):=by omega
                obtain ⟨gw,oki,Ar,cr,hA,hx0,⟨cells,hgc⟩,hgb,hR,hoki,hog,hH⟩:=HF.out.row tg htl3;subst hA;have hrw:rw_ wtm tg=rw_ wt tg:=by rw[HWM.out];exact rw_app wt m tg
                rw[hrw] at hx0 hR hH;obtain ⟨ro,hro⟩:∃ x,x=rw_ wt tg:=⟨_,rfl⟩
                have HRL2:=HRL.out;rw[← hro] at hx0 hR hH HRL2;have HRLEN:=am' HRL2;have HRO:=am' hro;have HRR:=am' hR;have HH:=am' hH;have HOKI:=am' hoki;have HGC:=am' hgc;have HGB:=am' hgb;have HOG:=am' hog;have HHB:=am' (Below.refl wr.heap.size wr);have z0:wr.cell? ⟨pe,0,none⟩=some (.int .i64 (tn:Int)):=(bc' HPE.out 0).trans rfl;have hx0a:(wr.alloc (.cells #[.int .i64 (tn:Int)] 3)).cell? ⟨gw,tg,none⟩=some (.slice Ar ro.length cr):=((ba' (Below.refl wr.heap.size wr) _).cell (bl' wr _ hx0)).trans hx0;clear hro hR hH hoki hgc hgb hog hrw HRL2 htl3 hle;go_wp2_with fail;have za0:(wr.alloc (.cells #[.int .i64 (tn:Int)] 3)).cell? ⟨pe,0,none⟩=some (.int .i64 (tn:Int)):=((ba' (Below.refl wr.heap.size wr) _).cell (bl' wr _ z0)).trans z0;have za1:(wr.alloc (.cells #[.int .i64 (tn:Int)] 3)).cell? ⟨pe,1,none⟩=some (.int .i64 (cn:Int)):=((ba' (Below.refl wr.heap.size wr) _).cell (bl' wr _ z1)).trans z1;refine start_ (n:=18) (S:=fun w'=>w'.cell? ⟨pe,0,none⟩=some (.int .i64 (tn:Int))∧w'.cell? ⟨pe,1,none⟩=some (.int .i64 (cn:Int))∧w'.cell? ⟨gw,tg,none⟩=some (.slice Ar ro.length cr)) (ds:=[17]) #[false,false,false,false,false,false,false,false,false,false,false,false,false,false,false,false,false,false] xk' rfl rfl ⟨z0,z1,hx0⟩ (fun hHeld=>?_);refine pure_ (i:=0) (N:=some 74) (v:=?_) (a':=?_) #[true,false,false,false,false,false,false,false,false,false,false,false,false,false,false,false,false,false] rfl rfl xk' (fun _ _ _ h=>h) (Or.inl ⟨by rfl,?_⟩) ?_ ?_
                rotate_left
                ·
                 intro w';go_simp;with_reducible rfl
                rotate_left
                ·
                 simp only[Act.put,sa',sb',sc',i64_w,i32_w];rfl
                refine pure_ (i:=1) (N:=some 75) (v:=?_) (a':=?_) #[true,true,false,false,false,false,false,false,false,false,false,false,false,false,false,false,false,false] rfl rfl xk' (fun _ _ _ h=>h) (Or.inl ⟨by rfl,?_⟩) ?_ ?_
                rotate_left
                ·
                 intro w';go_simp;with_reducible rfl
                rotate_left
                ·
                 simp only[Act.put,sa',sb',sc',i64_w,i32_w];rfl
                refine pure_ (i:=2) (N:=some 76) (v:=?_) (a':=?_) #[true,true,true,false,false,false,false,false,false,false,false,false,false,false,false,false,false,false] rfl rfl xk' (fun _ _ _ h=>h) (Or.inl ⟨by rfl,?_⟩) ?_ ?_
                rotate_left
                ·
                 intro w';go_simp;with_reducible rfl
                rotate_left
                ·
                 simp only[Act.put,sa',sb',sc',i64_w,i32_w];rfl
                refine take_ (i:=3) (N:=some 77) (v:=?_) (a':=?_) #[true,true,true,true,false,false,false,false,false,false,false,false,false,false,false,false,false,false] rfl rfl xk' (fun _ _ _ h=>h) (Or.inl ⟨by rfl,?_⟩) hHeld ?_ ?_
                rotate_left
                ·
                 rintro w' ⟨s0_,s1_,s2_⟩
                 go_simp;with_reducible rfl
                rotate_left
                ·
                 simp only[Act.put,sa',sb',sc',i64_w,i32_w];rfl
                refine pure_ (i:=4) (N:=some 78) (v:=?_) (a':=?_) #[true,true,true,true,true,false,false,false,false,false,false,false,false,false,false,false,false,false] rfl rfl xk' (fun _ _ _ h=>h) (Or.inl ⟨by rfl,?_⟩) ?_ ?_
                rotate_left
                ·
                 intro w';go_simp;with_reducible rfl
                rotate_left
                ·
                 simp only[Act.put,sa',sb',sc',i64_w,i32_w];rfl
                refine pure_ (i:=5) (N:=some 79) (v:=?_) (a':=?_) #[true,true,true,true,true,true,false,false,false,false,false,false,false,false,false,false,false,false] rfl rfl xk' (fun _ _ _ h=>h) (Or.inl ⟨by rfl,?_⟩) ?_ ?_
                rotate_left
                ·
                 intro w';go_simp;with_reducible rfl
                rotate_left
                ·
                 simp only[Act.put,sa',sb',sc',i64_w,i32_w];rfl
                refine pure_ (i:=6) (N:=some 80) (v:=?_) (a':=?_) #[true,true,true,true,true,true,true,false,false,false,false,false,false,false,false,false,false,false] rfl rfl xk' (fun _ _ _ h=>h) (Or.inl ⟨by rfl,?_⟩) ?_ ?_
                rotate_left
                ·
                 intro w';go_simp;with_reducible rfl
                rotate_left
                ·
                 simp only[Act.put,sa',sb',sc',i64_w,i32_w];rfl
                refine pure_ (i:=7) (N:=some 81) (v:=?_) (a':=?_) #[true,true,true,true,true,true,true,true,false,false,false,false,false,false,false,false,false,false] rfl rfl xk' (fun _ _ _ h=>h) (Or.inl ⟨by rfl,?_⟩) ?_ ?_
                rotate_left
                ·
                 intro w';go_simp;with_reducible rfl
                rotate_left
                ·
                 simp only[Act.put,sa',sb',sc',i64_w,i32_w];rfl
                refine take_ (i:=8) (N:=some 82) (v:=?_) (a':=?_) #[true,true,true,true,true,true,true,true,true,false,false,false,false,false,false,false,false,false] rfl rfl xk' (fun _ _ _ h=>h) (Or.inl ⟨by rfl,?_⟩) hHeld ?_ ?_
                rotate_left
                ·
                 rintro w' ⟨s0_,s1_,s2_⟩
                 go_simp;with_reducible rfl
                rotate_left
                ·
                 simp only[Act.put,sa',sb',sc',i64_w,i32_w];rfl
                refine pure_ (i:=9) (N:=some 83) (v:=?_) (a':=?_) #[true,true,true,true,true,true,true,true,true,true,false,false,false,false,false,false,false,false] rfl rfl xk' (fun _ _ _ h=>h) (Or.inl ⟨by rfl,?_⟩) ?_ ?_
                rotate_left
                ·
                 intro w';go_simp;with_reducible rfl
                rotate_left
                ·
                 simp only[Act.put,sa',sb',sc',i64_w,i32_w];rfl
                refine pure_ (i:=10) (N:=some 84) (v:=?_) (a':=?_) #[true,true,true,true,true,true,true,true,true,true,true,false,false,false,false,false,false,false] rfl rfl xk' (fun _ _ _ h=>h) (Or.inl ⟨by rfl,?_⟩) ?_ ?_
                rotate_left
                ·
                 intro w';go_simp;with_reducible rfl
                rotate_left
                ·
                 simp only[Act.put,sa',sb',sc',i64_w,i32_w];rfl
                refine take_ (i:=11) (N:=some 85) (v:=?_) (a':=?_) #[true,true,true,true,true,true,true,true,true,true,true,true,false,false,false,false,false,false] rfl rfl xk' (fun _ _ _ h=>h) (Or.inl ⟨by rfl,?_⟩) hHeld ?_ ?_
                rotate_left
                ·
                 rintro w' ⟨s0_,s1_,s2_⟩
                 go_simp;with_reducible rfl
                rotate_left
                ·
                 simp only[Act.put,sa',sb',sc',i64_w,i32_w];rfl
                refine pure_ (i:=12) (N:=some 86) (v:=?_) (a':=?_) #[true,true,true,true,true,true,true,true,true,true,true,true,true,false,false,false,false,false] rfl rfl xk' (fun _ _ _ h=>h) (Or.inl ⟨by rfl,?_⟩) ?_ ?_
                rotate_left
                ·
                 intro w';go_simp;with_reducible rfl
                rotate_left
                ·
                 simp only[Act.put,sa',sb',sc',i64_w,i32_w];rfl
                refine take_ (i:=13) (N:=some 87) (v:=?_) (a':=?_) #[true,true,true,true,true,true,true,true,true,true,true,true,true,true,false,false,false,false] rfl rfl xk' (fun _ _ _ h=>h) (Or.inl ⟨by rfl,?_⟩) hHeld ?_ ?_
                rotate_left
                ·
                 rintro w' ⟨s0_,s1_,s2_⟩
                 go_simp;with_reducible rfl
                rotate_left
                ·
                 simp only[Act.put,sa',sb',sc',i64_w,i32_w];rfl
                refine one_ (i:=14) (N:=some 88) #[true,true,true,true,true,true,true,true,true,true,true,true,true,true,true,false,false,false] rfl rfl xk' (by decide) (fun K hK=>?_);refine value_ (v := .slice (some ⟨wr.heap.size,0,none⟩) 1 1) (w1:=(wr.alloc (.cells #[.int .i64 (tn:Int)] 3)).drew) (by rfl) rfl ?_ ?_
                ·
                 go_simp
                refine hK.out _ _ ⟨za0,za1,hx0a⟩ (fun hHeld=>?_);clear hK K;refine norm_ (a':=?_) ?_ ?_
                rotate_left
                ·
                 show Act.put _ (some 88) _=_
                 simp only[Act.put,sa',sb',sc',i64_w,i32_w];rfl
                refine one_ (i:=15) (N:=some 89) #[true,true,true,true,true,true,true,true,true,true,true,true,true,true,true,true,false,false] rfl rfl xk' (by decide) (fun K hK=>?_);refine Kd.R_append_rows_step (Kd.int .i64) (w0:=W0) W0.heap.size (by rfl) (.tmp 85) (.tmp 88) 22 3 (.int .i64 0) 8 (by rfl) Try.underlying22 hinfoI.out rfl (by decide) (by omega) (.slice Ar ro.length cr) ro [(tn:Int)] (some ⟨_,0,none⟩) 1 1 (fun k=>oki k∨(((k≠gd∧k≠pb∧¬ P k)∧¬ (N1≤k∧k < N2))∧k≠pe)∧wr.heap.size≤k) (fun _=>False) (by rfl) (by rfl) ?aO ?aR (fun _ _ h=>h) (fun _ h=>h.elim) ?aF ?aB ?aS ?aL ?_
                (case aR=>exact C_one (heap_alloc_new _ _))
                (case aO=>(with_reducible repeat (first|apply ra'|apply rn'|apply rw'));exact Kd.R_mono HRR.out (fun k hk => .inl hk))
                (case aF=>intro k hk;exact .inr ⟨HFR.out k (Nat.le_trans (bz' (by repeat (first|(with_reducible first|exact HHB.out|apply ba'|apply bd'|apply be')|exact HHB.out))) hk),Nat.le_trans (bz' (by repeat (first|(with_reducible first|exact HHB.out|apply ba'|apply bd'|apply be')|exact HHB.out))) hk⟩)
                (case aB=>repeat (first|(with_reducible first|exact HF.out.bel|apply ba'|apply bd'|apply be')|exact HF.out.bel))
                (case aS=>exact Nat.le_trans HF.out.bel.size (bz' (show Below wr.heap.size wr _ by repeat (first|(with_reducible first|exact HHB.out|apply ba'|apply bd'|apply be')|exact HHB.out))))
                (case aL=>have h1:=HRLEN.out;rw[bkLim_val] at h1;omega)
                intro v3 w3 ho hb hg hat;obtain ⟨A3,c3,e3⟩:=Kd.R_slice ho;rw[List.length_append,List.length_singleton] at e3;subst e3;have HG3:=am' (World.grownBy.trans (grown_of_below (show Below wr.heap.size wr _ by repeat (first|(with_reducible first|exact HHB.out|apply ba'|apply bd'|apply be')|exact HHB.out)) _) hg);have HO3:=am' ho;have HB3:=am' hb;clear ho hb hg hat;have HK3:=am' (show Kept wr w3 oki from Kept.of_grown HG3.out (Kept.refl wr _) (fun k hk => .inl (HRR.out.1 k hk)));have q0:=cell_kept z0 HK3.out (fun q=>(HOKI.out _ q).1.2 rfl);have q1:=cell_kept z1 HK3.out (fun q=>(HOKI.out _ q).1.2 rfl);have q2:=cell_kept hx0 HK3.out (fun q=>(HOKI.out _ q).2 rfl);have HK4:=am' (show Kept wr (w3.setCell ⟨gw,tg,none⟩ (.slice A3 (ro.length+1) c3)) (fun k=>((k≠gd∧k≠pb∧¬ P k)∧¬ (N1≤k∧k < N2))∧k≠pe) from Kept.setCell (Kept.mono HK3.out (fun k hk=>(HOKI.out k hk).1)) (.inl HOG.out) _);have q3:=bf' (blk_kept HGC.out HK3.out (fun q=>(HOKI.out _ q).2 rfl)) tg;refine hK.out _ _ ⟨q0,q1,q2⟩ (fun hHeld=>?_);clear hK K;refine norm_ (a':=?_) ?_ ?_
                rotate_left
                ·
                 show Act.put _ (some 89) _=_
                 simp only[Act.put,sa',sb',sc',i64_w,i32_w];rfl
                refine pure_ (i:=16) (N:=some 90) (v:=?_) (a':=?_) #[true,true,true,true,true,true,true,true,true,true,true,true,true,true,true,true,true,false] rfl rfl xk' (fun _ _ _ h=>h) (Or.inl ⟨by rfl,?_⟩) ?_ ?_
                rotate_left
                ·
                 intro w';go_simp;with_reducible rfl
                rotate_left
                ·
                 simp only[Act.put,sa',sb',sc',i64_w,i32_w];rfl
                refine last_ (i:=17) (N:=none) #[true,true,true,true,true,true,true,true,true,true,true,true,true,true,true,true,true,true] rfl rfl xk' (by decide) (fun K hK=>?_);refine skip_ (w1:=?_) (by rfl) rfl ?_ ?_
                rotate_left
                ·
                 go_simp;rfl
                refine hK.out _ _ ?_
                clear hK K;refine done_ xk' ?_
                all_goals
                 have HPUT:=S_push HH.out (by omega) HG3.out HRR.out.1 HO3.out;go_wp2;go_roundg (es.length - (j+1))
                 case measure=>have h1:=HG.out;omega
                 case rel =>
                  refine ⟨j+1,wtm.set tg (ro ++ [(tn:Int)]),_,cw,by rw[List.length_set],by go_num,⟨?_⟩,⟨by omega⟩,⟨Nat.le_refl _⟩,⟨?_⟩,⟨?_⟩,⟨HEC.out.kept HK4.out (fun k hk=>hk.1.2)⟩,⟨Nat.le_trans HN5.out HK4.out.1⟩⟩
                  ·
                   rw[List.length_set];have h1:=HTD.out;omega
                  ·
                   rw[HWM.out,HML.out,HRO.out];exact HE.out
                  ·
                   refine (HF.out.step HK4.out (bs' HB3.out HGB.out) (vw1 := .slice (some ⟨gw,0,none⟩) (wtm.set tg (ro ++ [(tn:Int)])).length cw) (ok1:=(fun k=>((k≠gd∧k≠pb∧¬ P k)∧¬ (N1≤k∧k < N2))∧k≠pe)) ?_ HF.out.nd).weaken (fun k hk=>hk.1) (fun k hk=>hk.1);rw[List.length_set];exact HPUT
             ·
              rw[if_neg hrl] at hE;cases hE
            ·
             rw[if_neg hcs] at hE;cases hE
          ·
           rw[if_neg ht] at hE;cases hE
         ·
          have hjz:¬ (j:Int) < (es.length:Int):=by omega
          have hjdz:=df' hjz;have hE:=HE.out;rw[List.drop_eq_nil_of_le (by omega),bkE] at hE;cases hE;go_wp2;go_roundg g2
          case measure=>omega
          case rel=>exact ⟨i+1,dist2,_,_,cw,rfl,by go_num,HLT,HI,⟨HF.out.weaken (fun k hk=>hk.1) (fun k hk=>hk)⟩⟩
      ·
       rw[if_neg hs] at hI;cases hI
     ·
      rw[if_neg hi] at hI;obtain ⟨rfl,rfl⟩:=Prod.mk.inj (os' hI);have hiz:¬ (i:Int) < (row.length:Int):=by omega
      have hidz:=df' hiz;clear hi hI hC;go_wp2;go_roundg g1
      case measure=>omega
      case rel=>exact ⟨d+1,dist,wt,_,cw,rfl,by have hl_:=HLIM.out;rw[bkLim_val] at hl_;show Value.int _ _=Value.int _ _;congr 1;first|exact (i64_w _).trans ((wr_id (by omega) (by omega)).trans (by omega))|exact (wr_id (by omega) (by omega)).trans (by omega),HD,HF⟩
   ·
    rw[if_neg hlim] at hD;cases hD
  ·
   rw[if_neg hlt] at hD;cases hD;have hlz:¬ (d:Int) < (wt.length:Int):=by omega
   have hdz:=df' hlz;clear hlt;go_wp2;go_ret
   exact ⟨_,rfl,Kd.R_mono HF.out.dst (fun _ _=>trivial),HF.out.bel⟩
theorem from_any (g:Nat) (lb:Array Value) (out:Int→Option (List Edg)) (kk:Nat) (n:Nat) (starts r:List Int) (W0 w:World) (eg:∀ args w,(callFunc g args).run Try.prog w = .ok (.enter g args) w) (hO:OutOk g lb out W0)
  (A:Option Addr) (c:Nat) (hS:(Kd.int .i64).R 3 w W0.heap.size (fun _=>True) (.slice A starts.length c) starts) (hB:Below W0.heap.size W0 w) (hn:0 < n) (hn2:n≤1024) (h:bkD out kk 0 (List.replicate n (-1)) [starts]=some r) :
  Calls Try.prog 31 #[.agg #[.int .i64 (n:Int), .func (.func g) #[] lb], .slice A starts.length c] w fun e w'=>∃ v,e = .returned v∧(Kd.int .i64).R 3 w' W0.heap.size (fun _=>True) v r∧Below W0.heap.size W0 w' :=
 from_anyP g lb out kk n starts r W0 W0 w (fun k=>k < W0.heap.size) (fun k hk=>Nat.lt_of_lt_of_le hk hB.size) eg (fun W hb _=>hO W hb) ⟨hB.size,fun k hk hn=>hB.block k hk⟩ A c (Kd.R_mono (Kd.R_bound hS) (fun k hk=>by have:=hk.2.1;omega)) hB hn hn2 h
def impl_last.f (a0:Int):Option (Int):=if 0≤(wrap64 (a0+1)) then (some (wrap64 ((shl .i64 1 (wrap64 (a0+1))) - 1))) else (none)
set_option maxHeartbeats 8000000 in
set_option maxRecDepth 100000 in
theorem impl_last.calls (a0:Int) (r:Int) (w:World) (h:impl_last.f a0=some r) :
  Calls Try.prog 47 #[.int .i64 a0] w fun e w'=>e = .returned (.int .i64 r)∧Drawn0 w w':=by
 have H:(if 0≤(wrap64 (a0+1)) then (some (wrap64 ((shl .i64 1 (wrap64 (a0+1))) - 1))) else (none))=some r:=h
 clear h;obtain ⟨ji2,hji2⟩:∃ j_:Int,(wrap64 (a0+1))=j_:=⟨_,rfl⟩
 replace H:(if 0≤(ji2) then (some (wrap64 ((shl .i64 1 (ji2)) - 1))) else (none))=some r:=by first|(rw[hji2] at H;exact H)|(simp only[hji2] at H ⊢;exact H)
 have hji2w:(IntKind.i64.wrap (a0+1))=ji2:=(i64_w _).trans hji2
 by_cases c3:0≤(ji2)
 ·
  rw[if_pos c3] at H;have c3b0:=eq_true c3;have c3b1:decide (0≤(ji2))=true:=dt' c3;clear c3;obtain ⟨ji4,hji4⟩:∃ j_:Int,(shl .i64 1 (ji2))=j_:=⟨_,rfl⟩
  replace H:(some (wrap64 ((ji4) - 1)))=some r:=by first|(rw[hji4] at H;exact H)|(simp only[hji4] at H ⊢;exact H)
  have hji4_:(IntKind.i64.wrap (1 * 2 ^ min (ji2).toNat 64))=ji4:=hji4;have hji4z:(ji2)≤64→(IntKind.i64.wrap (1 * 2 ^ (ji2).toNat))=ji4:=shl_small hji4;have hji4u:(IntKind.i64.wrap (2 ^ min (ji2).toNat 64))=ji4:=by have h_:=hji4_;rw[Int.one_mul] at h_;exact h_
  have hji4v:(ji2)≤64→(IntKind.i64.wrap (2 ^ (ji2).toNat))=ji4:=fun hle_=>by have h_:=hji4z hle_;rw[Int.one_mul] at h_;exact h_
  have hji4y:(wrap64 (1 * 2 ^ min (ji2).toNat 64))=ji4:=(i64_w _).symm.trans hji4_;have hji4x:(ji2)≤64→(wrap64 (1 * 2 ^ (ji2).toNat))=ji4:=fun h_=>(i64_w _).symm.trans (hji4z h_)
  obtain rfl:=os' H;go_enter Try.func47,Try.ntmps47;go_wp2;go_ret
  exact ⟨by first|rfl|(simp;done)|(simp only[← hji2,← hji4] <;> (first|rfl|simp))|(simp[*];done),by repeat (first|exact Drawn0.refl _|apply Drawn0.step)⟩
 ·
  rw[if_neg c3] at H;exact absurd H (by simp)
end Go.Proofs.Ytihieplobgehaaa.C2
