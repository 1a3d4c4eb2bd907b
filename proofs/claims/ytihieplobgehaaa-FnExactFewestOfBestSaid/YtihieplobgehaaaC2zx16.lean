import Derived.Test.YtihieplobgehaaaC2zx0
import Derived.Test.YtihieplobgehaaaC2zAl
namespace Go.Proofs.Ytihieplobgehaaa.C2
open Go.RowKit Go.Proofs.YtihieplobgehaaaW.PrintWords Go.Proofs.YtihieplobgehaaaW.PrintLast Go.Proofs.YtihieplobgehaaaW.PrintMore Go.Proofs.Ytihieplobgehaaa.H
attribute [local go_sem] max2_int min2_int max_two min_two max_three min_three max_four min_four
set_option linter.unusedVariables false
set_option linter.unusedSimpArgs false
abbrev RowE:=Int × Int × Value
def TC (W:World) (g:Nat) (rows:List RowE):Prop:=∀ (j:Nat) (e:RowE),rows[j]? = some e→W.cell? ⟨g,j * 3,none⟩=some (.int .i64 e.1)∧W.cell? ⟨g,j * 3+1,none⟩=some (.int .i64 e.2.1)∧W.cell? ⟨g,j * 3+2,none⟩=some e.2.2
def aggE (e:RowE):Value := .agg #[.int .i64 e.1, .int .i64 e.2.1,e.2.2]
def PredE (g:Nat) (lb:Array Value) (p:RowE→Bool) (xs:List RowE) (w:World) (O:Nat→Prop):Prop :=
 ∀ x,x ∈ xs→∀ W:World,Kept w W O→Calls Try.prog g (#[aggE x] ++ lb) W fun e w'=>e = .returned (.bool (p x))∧Below W.heap.size W w'
def idxE (p:RowE→Bool) (xs:List RowE):Int:=if xs.findIdx p < xs.length then (xs.findIdx p:Nat) else -1
theorem TC.cell {w W:World} {g:Nat} {rows:List RowE} (h:TC w g rows) (hb:Below w.heap.size w W):TC W g rows:=fun j e hj=>by
 obtain ⟨h0,h1,h2⟩:=h j e hj
 exact ⟨(hb.cell (bl' w _ h0)).trans h0,(hb.cell (bl' w _ h1)).trans h1,(hb.cell (bl' w _ h2)).trans h2⟩
set_option maxHeartbeats 4000000 in
set_option maxRecDepth 100000 in
theorem IndexE_any (g:Nat) (lb:Array Value) (p:RowE→Bool) (eg:∀ args w,(callFunc g args).run Try.prog w = .ok (.enter g args) w) (gb:Nat) (A0:Option Addr) (c0:Nat) (xs:List RowE) (w:World) (O:Nat→Prop) (hA:0 < xs.length→A0=some ⟨gb,0,none⟩) (hr:TC w gb xs) (hl:xs.length≤c0) (hbig:xs.length≤1048576)
  (hp:PredE g lb p xs w O) :
  Calls Try.prog 79 #[.slice A0 xs.length c0, .func (.func g) #[] lb] w fun e w'=>e = .returned (.int .i64 (idxE p xs))∧Below w.heap.size w w':=by
 have hue:=Try.underlying76
 have HP:=am' hp
 have HR:=am' hr
 have HBG:=am' hbig
 clear hp hr;go_enter Try.func79,Try.ntmps79
 go_wp2
 go_loopg [5,8] xs.length (fun gg _ s8 wr=>∃ kk:Nat,kk≤xs.length∧xs.length - kk≤gg∧s8 = .int .i64 (kk:Int)∧Aside0 (Below w.heap.size w wr)∧Aside0 (∀ j (e:RowE),j < kk→xs[j]? = some e→p e=false))
 case atStart=>exact ⟨0,Nat.zero_le _,by omega,rfl,⟨Below.refl _ w⟩,⟨fun j e hj=>absurd hj (Nat.not_lt_zero _)⟩⟩
 case round =>
  obtain ⟨kk,hkk,hg,rfl,BW,AA⟩:=hrel;by_cases hlt:kk < xs.length
  ·
   have hltz:(kk:Int) < (xs.length:Int):=by omega
   obtain rfl:=hA (by omega);obtain ⟨x,hx⟩:∃ x,xs[kk]? = some x:=⟨_,List.getElem?_eq_getElem hlt⟩
   have HX:=am' hx;obtain ⟨hx0,hx1,hx2⟩:=TC.cell HR.out BW.out kk x hx;have hcall:=HP.out x (List.mem_of_getElem? hx) wr (Kept.of_below BW.out O);clear hx;cases hq:p x with
   | true =>
    have HQ:=am' hq;rw[hq] at hcall;clear hq;unfold aggE at hcall
    go_wp2_with fail;refine hcall.mono ?_
    rintro e w' ⟨rfl,hb'⟩
    have HB2:=am' (bt' BW.out hb');clear hcall hx0 hx1 hx2 hb';go_wp2;go_ret
    refine ⟨?_,HB2.out⟩
    have hfi:xs.findIdx p=kk:=by
     rw[List.findIdx_eq hlt];obtain ⟨h1,h2⟩:=List.getElem?_eq_some_iff.1 HX.out
     refine ⟨by rw[h2];exact HQ.out,fun j hj=>?_⟩;exact AA.out j _ hj (List.getElem?_eq_getElem (by omega))
    unfold idxE
    rw[hfi,if_pos hlt];rfl
   | false =>
    have HQ:=am' hq;rw[hq] at hcall;clear hq;unfold aggE at hcall
    go_wp2_with fail;refine hcall.mono ?_
    rintro e w' ⟨rfl,hb'⟩
    have HB2:=am' (bt' BW.out hb');clear hcall hx0 hx1 hx2 hb';go_wp2;go_roundg (xs.length - (kk+1))
    case measure=>omega
    case rel =>
     refine ⟨kk+1,by omega,by omega,by have hb_:=HBG.out;first|rfl|exact nxt (by omega)|exact nxt2 (by omega),HB2,⟨fun j e hj he=>?_⟩⟩;by_cases q:j=kk
     ·
      subst q;rw[HX.out] at he;obtain rfl:=os' he;exact HQ.out
     ·
      exact AA.out j e (by omega) he
  ·
   have hltz:¬ (kk:Int) < (xs.length:Int):=by omega
   have:kk=xs.length:=by omega
   subst this;go_wp2;go_ret
   refine ⟨?_,BW.out⟩
   have hfi:¬ xs.findIdx p < xs.length:=by
    intro q;have h1:=List.findIdx_getElem (p:=p) (w:=q);have h2:=AA.out _ _ q (List.getElem?_eq_getElem q);rw[h1] at h2;cases h2
   unfold idxE
   rw[if_neg hfi];rfl
def BlkE (W:World) (g n:Nat):Prop:=∃ cells,W.heap[g]? = some (.cells cells 76 (0,0))∧n * 3≤cells.size
theorem BlkE.cell {W:World} {g n:Nat} (h:BlkE W g n) (o:Nat) (ho:o < n * 3):(∃ v,W.cell? ⟨g,o,none⟩=some v)∧W.frozen? ⟨g,o,none⟩=false:=by
 obtain ⟨cells,hb,hs⟩:=h
 have hlt:o < cells.size:=by omega
 refine ⟨⟨cells[o],?_⟩,?_⟩
 ·
  simp[World.cell?,hb,Array.getElem?_eq_getElem hlt]
 ·
  simp[World.frozen?,hb]
theorem BlkE.put {W:World} {g n:Nat} (h:BlkE W g n) (o:Nat) (v:Value):BlkE (W.setCell ⟨g,o,none⟩ v) g n:=by
 obtain ⟨cells,hb,hs⟩:=h
 exact ⟨cells.setIfInBounds o v,blk_put hb o v rfl,by simpa using hs⟩
theorem BlkE.kept {W W1:World} {g n:Nat} {O:Nat→Prop} (h:BlkE W g n) (hk:Kept W W1 O) (hg:¬ O g):BlkE W1 g n:=by
 obtain ⟨cells,hb,hs⟩:=h
 exact ⟨cells,blk_kept hb hk hg,hs⟩
theorem BlkE.below {W W1:World} {g n:Nat} (h:BlkE W g n) (hb':Below W.heap.size W W1):BlkE W1 g n:=by
 obtain ⟨cells,hb,hs⟩:=h
 exact ⟨cells,bb' hb hb',hs⟩
theorem put_same {W:World} {g n:Nat} (h:BlkE W g n) (o:Nat) (ho:o < n * 3) (v:Value):(W.setCell ⟨g,o,none⟩ v).cell? ⟨g,o,none⟩=some v:=by
 obtain ⟨cells,hb,hs⟩:=h
 have h2:=blk_put hb o v rfl
 have hlt:o < cells.size:=by omega
 simp[World.cell?,h2,hlt]
theorem put_other (W:World) (g o o2:Nat) (h:o2≠o) (v:Value):(W.setCell ⟨g,o,none⟩ v).cell? ⟨g,o2,none⟩=W.cell? ⟨g,o2,none⟩:=World.cell?_setCell_other _ _ _ _ (fun e=>h (by injection e with _ q _;exact q.symm))
theorem TC.put {W:World} {g:Nat} {rows:List RowE} (h:TC W g rows) {n:Nat} (hb:BlkE W g n) (i:Nat) (hi:i < n) (e:RowE):TC (((W.setCell ⟨g,i * 3,none⟩ (.int .i64 e.1)).setCell ⟨g,i * 3+1,none⟩ (.int .i64 e.2.1)).setCell ⟨g,i * 3+2,none⟩ e.2.2) g (rows.set i e):=by
 intro j x hj;rw[List.getElem?_set] at hj
 by_cases q:i=j
 ·
  subst q;rw[if_pos rfl] at hj;split at hj
  ·
   obtain rfl:=os' hj;refine ⟨?_,?_,?_⟩
   ·
    rw[put_other _ _ _ _ (by omega),put_other _ _ _ _ (by omega)];exact put_same hb _ (by omega) _
   ·
    rw[put_other _ _ _ _ (by omega)];exact put_same (hb.put _ _) _ (by omega) _
   ·
    exact put_same ((hb.put _ _).put _ _) _ (by omega) _
  ·
   cases hj
 ·
  rw[if_neg q] at hj;obtain ⟨h0,h1,h2⟩:=h j x hj;refine ⟨?_,?_,?_⟩ <;> rw [put_other _ _ _ _ (by omega),put_other _ _ _ _ (by omega),put_other _ _ _ _ (by omega)] <;> assumption
theorem zeroC (z:Array Value) (n:Nat) (v:Value) (h:v ∈ (Builtin.zeroCells z n).toList) (h1:∀ x ∈ z,x.oneCell'=true) (hz:0 < z.size):v.oneCell'=true:=by
 unfold Builtin.zeroCells at h
 simp only[Array.toList_map,List.mem_map] at h
 obtain ⟨i,_,rfl⟩:=h
 have hlt:i % z.size < z.size:=Nat.mod_lt _ hz
 rw[getElem!_pos z _ hlt]
 exact h1 _ (Array.getElem_mem hlt)
theorem run_clear3 (w:World) (t e ty:TypeId) (z:Value) (ht:Try.prog.underlying t=some (.slice e)) (hv:∀ w,(zeroValue e).run Try.prog w = .ok z w) (hz3:z.cells.size=3) (h1:∀ x ∈ z.cells,x.oneCell'=true) (b o n c:Nat) (hn:0 < n)
  (hc:∀ j,j < n * 3→(w.cell? ⟨b,o+j,none⟩).isSome=true) (hf:∀ j,j < n * 3→w.frozen? ⟨b,o+j,none⟩=false) :
  (Builtin.clear_ #[t] ty #[.slice (some ⟨b,o,none⟩) n c]).run Try.prog w = .ok (.tuple #[]) (w.setCells b o (Builtin.zeroCells z.cells n).toList):=by
 have hlen:(Builtin.zeroCells z.cells n).toList.length=n * 3:=by simp[Builtin.zeroCells,hz3]
 have hst:=run_storeCells_cells (P:=Try.prog) b o (Builtin.zeroCells z.cells n).toList 0 w (by rw[hlen];simpa using hc) (by rw[hlen];simpa using hf) (fun v hv'=>zeroC _ _ v hv' h1 (by omega))
 simp only[Nat.add_zero] at hst
 obtain ⟨m,rfl⟩:∃ m,n=m+1:=⟨n - 1,by omega⟩
 simp[Builtin.clear_,run_underlying ht,hv,hst]
theorem put3E {W:World} {g n:Nat} (h:BlkE W g n) (o:Nat) (ho:o+2 < n * 3) (v0 v1 v2:Value):(∃ u0 u1 u2,W.cell? ⟨g,o,none⟩=some u0∧W.frozen? ⟨g,o,none⟩=false∧(W.setCell ⟨g,o,none⟩ v0).cell? ⟨g,o+1,none⟩=some u1∧(W.setCell ⟨g,o,none⟩ v0).frozen? ⟨g,o+1,none⟩=false∧((W.setCell ⟨g,o,none⟩ v0).setCell ⟨g,o+1,none⟩ v1).cell? ⟨g,o+2,none⟩=some u2∧((W.setCell ⟨g,o,none⟩ v0).setCell ⟨g,o+1,none⟩ v1).frozen? ⟨g,o+2,none⟩=false) ∧
  ((((W.setCell ⟨g,o,none⟩ v0).setCell ⟨g,o+1,none⟩ v1).setCell ⟨g,o+2,none⟩ v2).cell? ⟨g,o,none⟩=some v0∧(((W.setCell ⟨g,o,none⟩ v0).setCell ⟨g,o+1,none⟩ v1).setCell ⟨g,o+2,none⟩ v2).cell? ⟨g,o+1,none⟩=some v1∧(((W.setCell ⟨g,o,none⟩ v0).setCell ⟨g,o+1,none⟩ v1).setCell ⟨g,o+2,none⟩ v2).cell? ⟨g,o+2,none⟩=some v2):=by
 obtain ⟨⟨u0,h0⟩,f0⟩:=h.cell o (by omega)
 obtain ⟨⟨u1,h1⟩,f1⟩:=(h.put o v0).cell (o+1) (by omega)
 obtain ⟨⟨u2,h2⟩,f2⟩:=((h.put o v0).put (o+1) v1).cell (o+2) (by omega)
 refine ⟨⟨u0,u1,u2,h0,f0,h1,f1,h2,f2⟩,?_,?_,?_⟩
 ·
  rw[put_other _ _ _ _ (by omega),put_other _ _ _ _ (by omega)];exact put_same h _ (by omega) _
 ·
  rw[put_other _ _ _ _ (by omega)];exact put_same (h.put _ _) _ (by omega) _
 ·
  exact put_same ((h.put _ _).put _ _) _ (by omega) _
theorem kept_setCells {w:World} {S:Nat→Prop} (b:Nat) (hS:S b):∀ (vs:List Value) (o:Nat) (W:World),Kept w W S→Kept w (W.setCells b o vs) S:=by
 intro vs;induction vs with
 | nil=>intro o W h;exact h
 | cons v r ih=>intro o W h;exact ih (o+1) _ (h.setCell (.inl hS) v)
theorem below_setB {B:Nat} {w W:World} (h:Below B w W) {p:Addr} (hp:B≤p.block) (v:Value):Below B w (W.setCell p v) :=
 ⟨h.os,h.tape,h.output,by rw[World.size_setCell];exact h.size,fun k hk=>(Below.heap_setCell _ _ _ _ (by omega)).trans (h.block k hk)⟩
theorem below_setCells {w:World} {B:Nat} (b:Nat) (hb:B≤b):∀ (vs:List Value) (o:Nat) (W:World),Below B w W→Below B w (W.setCells b o vs):=by
 intro vs;induction vs with
 | nil=>intro o W h;exact h
 | cons v r ih=>intro o W h;exact ih (o+1) _ (below_setB h hb v)
structure DelInv (p:RowE→Bool) (xs cur:List RowE) (i j:Nat):Prop where
 len:cur.length=xs.length
 lt:i < j
 le:j≤xs.length
 tk:cur.take i=(xs.take j).filter (fun x => !(p x))
 dr:cur.drop j=xs.drop j
theorem DelInv.start {p:RowE→Bool} {xs:List RowE} {i0:Nat} (h:i0=xs.findIdx p) (hf:i0 < xs.length):DelInv p xs xs i0 (i0+1):=by
 have hq:=(List.findIdx_eq hf).1 h.symm
 have h1:(xs.take i0).filter (fun x => !(p x))=xs.take i0:=by
  rw[List.filter_eq_self];intro x hx;obtain ⟨n,hn,rfl⟩:=List.mem_iff_getElem.1 hx;rw[List.getElem_take];rw[List.length_take] at hn;rw[hq.2 n (by omega)];rfl
 refine ⟨rfl,Nat.lt_succ_self _,hf,?_,rfl⟩
 rw[List.take_add_one,List.filter_append,h1,List.getElem?_eq_getElem hf]
 simp[hq.1]
theorem DelInv.at {p:RowE→Bool} {xs cur:List RowE} {i j:Nat} (h:DelInv p xs cur i j) {x:RowE} (hx:xs[j]? = some x):cur[j]? = some x:=by
 have h1:(cur.drop j)[0]? = (xs.drop j)[0]? := by rw[h.dr]
 rw[List.getElem?_drop,List.getElem?_drop,Nat.add_zero] at h1
 rw[h1,hx]
theorem drop_succ_eq {α:Type} {a b:List α} {j:Nat} (h:a.drop j=b.drop j):a.drop (j+1)=b.drop (j+1):=by
 have:=congrArg (List.drop 1) h
 rwa [List.drop_drop,List.drop_drop] at this
theorem DelInv.skip {p:RowE→Bool} {xs cur:List RowE} {i j:Nat} (h:DelInv p xs cur i j) {x:RowE} (hx:xs[j]? = some x) (hp:p x=true):DelInv p xs cur i (j+1):=by
 have hj:=(List.getElem?_eq_some_iff.1 hx).1
 refine ⟨h.len,by have:=h.lt;omega,hj,?_,drop_succ_eq h.dr⟩
 rw[List.take_add_one,List.filter_append,hx,← h.tk]
 simp[hp]
theorem DelInv.keep {p:RowE→Bool} {xs cur:List RowE} {i j:Nat} (h:DelInv p xs cur i j) {x:RowE} (hx:xs[j]? = some x) (hp:p x=false):DelInv p xs (cur.set i x) (i+1) (j+1):=by
 have hj:=(List.getElem?_eq_some_iff.1 hx).1
 have hl:=h.len
 have hlt:=h.lt
 refine ⟨by simpa using h.len,by omega,hj,?_,?_⟩
 ·
  rw[List.take_add_one,List.take_set_of_le (Nat.le_refl i),List.getElem?_set_self (by omega),h.tk,List.take_add_one,List.filter_append,hx];simp[hp]
 ·
  rw[List.drop_set_of_lt (by omega)];exact drop_succ_eq h.dr
theorem DelInv.done {p:RowE→Bool} {xs cur:List RowE} {i:Nat} (h:DelInv p xs cur i xs.length):cur.take i=xs.filter (fun x => !(p x))∧i=(xs.filter (fun x => !(p x))).length:=by
 have h1:=h.tk
 rw[List.take_length] at h1
 refine ⟨h1,?_⟩
 rw[← h1,List.length_take]
 have:=h.len
 have:=h.lt
 omega
set_option maxHeartbeats 4000000 in
set_option maxRecDepth 100000 in
theorem DeleteE_any (B:Nat) (g:Nat) (lb:Array Value) (p:RowE→Bool) (eg:∀ args w,(callFunc g args).run Try.prog w = .ok (.enter g args) w) (gb:Nat) (A0:Option Addr) (c0:Nat) (xs:List RowE) (w:World) (hA:0 < xs.length→A0=some ⟨gb,0,none⟩) (hr:TC w gb xs) (hk:0 < xs.length→BlkE w gb xs.length) (hl:xs.length≤c0) (hbig:xs.length≤1048576)
  (hsl:∀ x ∈ xs,∃ A n c,x.2.2 = .slice A n c) (hp:PredE g lb p xs w (fun k=>k=gb)) (hBg:B≤gb) (hBw:B≤w.heap.size) :
  Calls Try.prog 74 #[.slice A0 xs.length c0, .func (.func g) #[] lb] w fun e w'=>e = .returned (.slice A0 (xs.filter (fun x => !(p x))).length c0)∧TC w' gb (xs.filter (fun x => !(p x)))∧Kept w w' (fun k=>k=gb)∧Below B w w':=by
 have HBG':=am' hBg
 have HBW':=am' hBw
 clear hBg hBw;have hue:=Try.underlying76
 have hus:=Try.underlying80
 have HI:=am' (IndexE_any g lb p eg gb A0 c0 xs w _ hA hr hl hbig hp)
 have HP:=am' hp
 have HSL:=am' hsl
 clear hsl;have HR:=am' hr
 have HK:=am' hk
 have HBG:=am' hbig
 have HLC:=am' hl
 clear hp hr hk hl hbig;go_enter Try.func74,Try.ntmps74
 go_wp2_with fail
 go_at_call 79
 refine HI.out.mono ?_
 rintro e w1 ⟨rfl,hb1⟩
 have HB1:=am' hb1
 clear HI hb1;unfold idxE
 by_cases hf:xs.findIdx p < xs.length
 ·
  rw[if_pos hf];obtain rfl:=hA (by omega);obtain ⟨i0,hi0⟩:∃ i0,i0=xs.findIdx p:=⟨_,rfl⟩
  have HI0:=am' hi0;rw[← hi0] at hf ⊢;clear hi0;have hne:((i0:Int) == -1)=false:=beq_eq_false_iff_ne.2 (by omega);go_wp2_with fail;go_loopg [5,6,7] xs.length (fun gg v5 v6 _ wr=>∃ (i j:Nat) (cur:List RowE),v5 = .int .i64 (i:Int)∧v6 = .int .i64 (j:Int)∧Aside0 (xs.length - j≤gg)∧Aside0 (DelInv p xs cur i j)∧Aside0 (TC wr gb cur)∧Aside0 (BlkE wr gb xs.length)∧Aside0 (Kept w wr (fun k=>k=gb))∧Aside0 (w.heap.size≤wr.heap.size)∧Aside0 (Below B w wr))
  case atStart=>exact ⟨i0,i0+1,xs,rfl,by have hb_:=HBG.out;first|rfl|exact nxt (by omega)|exact nxt2 (by omega),⟨by omega⟩,⟨DelInv.start HI0.out hf⟩,⟨TC.cell HR.out HB1.out⟩,⟨(HK.out (by omega)).below HB1.out⟩,⟨Kept.of_below HB1.out _⟩,⟨HB1.out.size⟩,⟨HB1.out.mono HBW'.out⟩⟩
  case round =>
   obtain ⟨i,j,cur,rfl,rfl,HG,HD,HT,HBK,HKP,HSZ,HBB⟩:=hrel;clear HB1 HI0 hf hne;by_cases hj:j < xs.length
   ·
    have hjz:(j:Int) < (xs.length:Int):=by omega
    obtain ⟨x,hx⟩:∃ x,xs[j]? = some x:=⟨_,List.getElem?_eq_getElem hj⟩
    have HX:=am' hx;obtain ⟨hx0,hx1,hx2⟩:=HT.out j x (HD.out.at hx);have HJ:=am' hj;clear hx hj;obtain ⟨Ab,nb,cb,hv⟩:=HSL.out x (List.mem_of_getElem? HX.out);obtain ⟨x0,x1,xv⟩:=x;dsimp only at hv hx0 hx1 hx2
    subst hv;have HBX:=am' (heap_alloc_new wr (.cells #[.int .i64 x0, .int .i64 x1, .slice Ab nb cb] 76));have HBA:=am' (ba' (Below.refl wr.heap.size wr) (.cells #[.int .i64 x0, .int .i64 x1, .slice Ab nb cb] 76));have hcall:=HP.out (x0,x1, .slice Ab nb cb) (List.mem_of_getElem? HX.out) (wr.alloc (.cells #[.int .i64 x0, .int .i64 x1, .slice Ab nb cb] 76)) (HKP.out.alloc _);unfold aggE at hcall
    have HBK1:=am' (HBK.out.below HBA.out);have HT1:=am' (HT.out.cell HBA.out);clear hx0 hx1 hx2;cases hq:p (x0,x1, .slice Ab nb cb) with
    | true =>
     have HQ:=am' hq;rw[hq] at hcall;clear hq;have hx0:=(HT.out.cell (Below.refl _ _) j _ (HD.out.at HX.out)).1;have hx1:=(HT.out.cell (Below.refl _ _) j _ (HD.out.at HX.out)).2.1;have hx2:=(HT.out.cell (Below.refl _ _) j _ (HD.out.at HX.out)).2.2;dsimp only at hx0 hx1 hx2
     go_wp2_with fail;refine hcall.mono ?_
     rintro e w2 ⟨rfl,hb2⟩
     have HB2:=am' hb2;clear hcall hx0 hx1 hx2 hb2;go_wp2;go_roundg (xs.length - (j+1))
     case measure=>have h1:=HG.out;have h2:=HJ.out;omega
     case rel=>exact ⟨i,j+1,cur,rfl,by have hb_:=HBG.out;have h2:=HJ.out;first|rfl|exact nxt (by omega)|exact nxt2 (by omega),⟨Nat.le_refl _⟩,⟨HD.out.skip HX.out HQ.out⟩,⟨HT1.out.cell HB2.out⟩,⟨HBK1.out.below HB2.out⟩,⟨(HKP.out.alloc _).below HB2.out⟩,⟨by have h1:=HSZ.out;have h2:=HBA.out.size;have h3:=HB2.out.size;omega⟩,⟨(HBB.out.trans (HBA.out.mono (by have h1:=HSZ.out;have h2:=HBW'.out;omega))).trans (HB2.out.mono (by have h1:=HSZ.out;have h2:=HBW'.out;have h3:=HBA.out.size;omega))⟩⟩
    | false =>
     have HQ:=am' hq;rw[hq] at hcall;clear hq;have hx0:=(HT.out.cell (Below.refl _ _) j _ (HD.out.at HX.out)).1;have hx1:=(HT.out.cell (Below.refl _ _) j _ (HD.out.at HX.out)).2.1;have hx2:=(HT.out.cell (Below.refl _ _) j _ (HD.out.at HX.out)).2.2;dsimp only at hx0 hx1 hx2
     go_wp2_with fail;refine hcall.mono ?_
     rintro e w2 ⟨rfl,hb2⟩
     have HB2:=am' hb2;have y0:w2.cell? ⟨wr.heap.size,0,none⟩=some (.int .i64 x0):=(bc' (bb' HBX.out hb2) 0).trans rfl;have y1:w2.cell? ⟨wr.heap.size,1,none⟩=some (.int .i64 x1):=(bc' (bb' HBX.out hb2) 1).trans rfl;have y2:w2.cell? ⟨wr.heap.size,2,none⟩=some (.slice Ab nb cb):=(bc' (bb' HBX.out hb2) 2).trans rfl;have HBK2:=am' (HBK1.out.below HB2.out);have hil:i < xs.length:=by have h1:=HD.out.lt;have h2:=HJ.out;omega
     have HIL:=am' hil;have hilz:(i:Int) < (xs.length:Int):=by omega
     obtain ⟨⟨u0,u1,u2,q0,f0,q1,f1,q2,f2⟩,_⟩:=put3E HBK2.out (i * 3) (by omega) (.int .i64 x0) (.int .i64 x1) (.slice Ab nb cb);clear hcall hx0 hx1 hx2 hb2 hil;go_wp2_with fail;go_roundg (xs.length - (j+1))
     case measure=>have h1:=HG.out;have h2:=HJ.out;omega
     case rel =>
      have HTP:=HT1.out.cell HB2.out;exact ⟨i+1,j+1,cur.set i (x0,x1, .slice Ab nb cb),by have hb_:=HBG.out;have h2:=HIL.out;first|rfl|exact nxt (by omega)|exact nxt2 (by omega),by have hb_:=HBG.out;have h2:=HJ.out;first|rfl|exact nxt (by omega)|exact nxt2 (by omega),⟨Nat.le_refl _⟩,⟨HD.out.keep HX.out HQ.out⟩,⟨HTP.put HBK2.out i HIL.out (x0,x1, .slice Ab nb cb)⟩,⟨((HBK2.out.put _ _).put _ _).put _ _⟩,⟨((((HKP.out.alloc _).below HB2.out).setCell (.inl rfl) _).setCell (.inl rfl) _).setCell (.inl rfl) _⟩,⟨by have h1:=HSZ.out;have h2:=HBA.out.size;have h3:=HB2.out.size;simp only[World.size_setCell];omega⟩,⟨below_setB (below_setB (below_setB ((HBB.out.trans (HBA.out.mono (by have h1:=HSZ.out;have h2:=HBW'.out;omega))).trans (HB2.out.mono (by have h1:=HSZ.out;have h2:=HBW'.out;have h3:=HBA.out.size;omega))) HBG'.out _) HBG'.out _) HBG'.out _⟩⟩
   ·
    have hjz:¬ (j:Int) < (xs.length:Int):=by omega
    have hje:j=xs.length:=by have:=HD.out.le;omega
    subst hje;obtain ⟨hd1,hd2⟩:=HD.out.done;have hil:=HD.out.lt;have HD1:=am' hd1;have HD2:=am' hd2;have hlc:=HLC.out;have hic:(i:Int)≤(xs.length:Int):=by omega
    have hic0:(i:Int)≤(c0:Int):=by omega
    have hcl:∀ ty,(Builtin.clear_ #[80] ty #[.slice (some ⟨gb,i * 3,none⟩) (xs.length - i) (c0 - i)]).run Try.prog wr = .ok (.tuple #[]) (wr.setCells gb (i * 3) (Builtin.zeroCells (Value.agg #[.int .i64 0, .int .i64 0, .slice none 0 0]).cells (xs.length - i)).toList) :=
     fun ty=>run_clear3 wr _ _ ty (.agg #[.int .i64 0, .int .i64 0, .slice none 0 0]) hus (fun W=>by kernel_rfl) (by decide) (by decide) gb (i * 3) _ _ (by omega) (fun k hk=>by obtain ⟨⟨v,hv⟩,_⟩:=HBK.out.cell (i * 3+k) (by omega);rw[hv];rfl) (fun k hk=>(HBK.out.cell (i * 3+k) (by omega)).2)
    clear hd1 hd2;go_wp2;go_ret
    refine ⟨?_,?_,kept_setCells (S:=fun k=>k=gb) gb rfl _ _ _ HKP.out,below_setCells gb HBG'.out _ _ _ HBB.out⟩
    ·
     have hq:=HD2.out;generalize (xs.filter (fun x => !(p x))).length=q at hq ⊢;subst hq;rfl
    ·
     intro k e he;rw[← HD1.out,List.getElem?_take] at he;split at he
     ·
      rename_i hk
      obtain ⟨h0,h1,h2⟩:=HT.out k e he;refine ⟨?_,?_,?_⟩
      ·
       rw[World.cell?_setCells_out _ _ _ _ _ (fun _ _ => .inl (by dsimp only;omega))];exact h0
      ·
       rw[World.cell?_setCells_out _ _ _ _ _ (fun _ _ => .inl (by dsimp only;omega))];exact h1
      ·
       rw[World.cell?_setCells_out _ _ _ _ _ (fun _ _ => .inl (by dsimp only;omega))];exact h2
     ·
      cases he
 ·
  rw[if_neg hf];go_wp2;go_ret
  have hall:xs.filter (fun x => !(p x))=xs:=by
   rw[List.filter_eq_self];intro x hx;have h1:¬ ∃ y ∈ xs,p y=true:=fun q=>hf (List.findIdx_lt_length.2 q)
   cases hq:p x with
   | true=>exact absurd ⟨x,hx,hq⟩ h1
   | false=>rfl
  rw[hall];exact ⟨rfl,TC.cell HR.out HB1.out,Kept.of_below HB1.out _,HB1.out.mono HBW'.out⟩
end Go.Proofs.Ytihieplobgehaaa.C2
