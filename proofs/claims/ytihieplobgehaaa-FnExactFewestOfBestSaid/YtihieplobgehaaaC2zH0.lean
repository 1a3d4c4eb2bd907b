import Derived.Test.YtihieplobgehaaaC2zWWords
import Derived.Test.YtihieplobgehaaaC2zWLast
import Derived.Test.YtihieplobgehaaaC2zWTab
import Derived.Test.YtihieplobgehaaaC2zWFour
import Derived.Test.YtihieplobgehaaaC2zWQPut
import Derived.Test.YtihieplobgehaaaC2zWApart
import Derived.Test.YtihieplobgehaaaC2zWArr
import Derived.Test.YtihieplobgehaaaC2zWZeros
import Derived.Test.YtihieplobgehaaaC2zWFoot
import Derived.Test.YtihieplobgehaaaC2zWKept
import Derived.Test.YtihieplobgehaaaC2zWShare
import Derived.Test.YtihieplobgehaaaC2zWN
import Derived.Test.YtihieplobgehaaaC2zWFootNe
import Derived.Test.YtihieplobgehaaaC2zWAt
import Derived.Test.YtihieplobgehaaaC2zWEqStruct
import Derived.Test.YtihieplobgehaaaC2zWRepsOne
import Derived.Test.YtihieplobgehaaaC2zWInv
import Derived.Test.YtihieplobgehaaaC2zWInvWords
import Derived.Test.YtihieplobgehaaaC2zWGuard
import Derived.Test.YtihieplobgehaaaC2zWNEv
import Derived.Test.YtihieplobgehaaaC2zWMore
import Derived.Test.YtihieplobgehaaaC2zHG
import Derived.Shelf.Abstract
import Derived.WalkSpells
import Derived.Laws.CopyOwn
namespace Go.Proofs.Ytihieplobgehaaa.H
open Go.RowKit Go.Proofs.YtihieplobgehaaaW.PrintWords Go.Proofs.YtihieplobgehaaaW.PrintLast Go.Proofs.YtihieplobgehaaaW.PrintMore
attribute [local go_sem] max2_int min2_int max_two min_two max_three min_three max_four min_four
set_option linter.unusedVariables false
set_option linter.unusedSimpArgs false
namespace Kd
section
variable {α:Type} {d:Kd α} {e:Nat} {W w:World} {base:Nat} {ok D:Nat→Prop} {v:Value} {xs:List α}
end
end Kd
theorem after_alloc {w w':World} {o:Obj} (hb:Below (w.alloc o).heap.size (w.alloc o) w'):Below w.heap.size w w'∧w'.heap[w.heap.size]? = some o :=
 ⟨below_step ((Below.refl _ _).alloc (Nat.le_refl _) _) hb,(hb.block _ (by rw[World.size_alloc];omega)).trans (heap_alloc_new w o)⟩
theorem any_not_all {α:Type} (p:α→Bool) (xs:List α):(!xs.any fun x => !p x)=xs.all p:=by
 induction xs with
 | nil=>rfl
 | cons x xs ih=>simp only[List.any_cons,List.all_cons,Bool.not_or,Bool.not_not,ih]
def idxF (p:Int→Bool) (xs:List Int):Int:=match xs.findIdx? p with|some i=>(i:Int)|none => -1
theorem idxF_hit (p:Int→Bool) (xs:List Int) (k:Nat) (hk:k < xs.length) (hp:p (rd xs k)=true) (hm:∀ j,j < k→p (rd xs j)=false):idxF p xs=k:=by
 unfold idxF
 have:xs.findIdx? p=some k:=by
  rw[List.findIdx?_eq_some_iff_getElem]
  refine ⟨hk,?_,fun j hj=>?_⟩
  ·
   simpa [rd,List.getD_eq_getElem?_getD,List.getElem?_eq_getElem hk] using hp
  ·
   have:=hm j hj
   simpa [rd,List.getD_eq_getElem?_getD,List.getElem?_eq_getElem (show j < xs.length by omega)] using this
 rw[this]
theorem idxF_miss (p:Int→Bool) (xs:List Int) (hm:∀ j,j < xs.length→p (rd xs (j:Nat))=false):idxF p xs = -1:=by
 unfold idxF
 have:xs.findIdx? p=none:=by
  rw[List.findIdx?_eq_none_iff]
  intro x hx
  obtain ⟨j,hj,rfl⟩:=List.getElem_of_mem hx
  have:=hm j hj
  simpa [rd,List.getD_eq_getElem?_getD,List.getElem?_eq_getElem hj] using this
 rw[this]
theorem idxF_any (p:Int→Bool) (xs:List Int):decide (0≤idxF p xs)=xs.any p:=by
 unfold idxF
 cases h:xs.findIdx? p with
 | none =>
  rw[List.findIdx?_eq_none_iff] at h
  have:xs.any p=false:=by rw[List.any_eq_false];intro x hx;simp[h x hx]
  rw[this];rfl
 | some i =>
  rw[List.findIdx?_eq_some_iff_getElem] at h
  obtain ⟨hi,hp,_⟩:=h
  have:xs.any p=true:=List.any_eq_true.2 ⟨xs[i],List.getElem_mem _,hp⟩
  rw[this]
  simp
theorem rd_mem (xs:List Int) (k:Nat) (h:k < xs.length):rd xs k ∈ xs:=by
 simp[rd,List.getD_eq_getElem?_getD,List.getElem?_eq_getElem h]
def inB (lo hi x:Int):Bool:=decide (lo≤x) && decide (x≤hi)
theorem rd_mid (pre:List Int) (x:Int) (r:List Int):rd (pre ++ x :: r) (pre.length:Int)=x:=by simp[rd]
theorem rdOf_mid {α:Type} (d:α) (pre:List α) (x:α) (r:List α):rdOf d (pre ++ x :: r) (pre.length:Int)=x:=by simp[rdOf]
theorem set_mid {α:Type} (pre:List α) (x y:α) (r:List α):(pre ++ x :: r).set ((pre.length:Int)).toNat y=pre ++ y :: r:=by simp
theorem lt_mid {α:Type} (pre:List α) (x:α) (r:List α):(pre.length:Int) < ((pre ++ x :: r).length:Int):=by simp;omega
theorem nlt_end {α:Type} (pre:List α):¬ (pre.length:Int) < ((pre ++ ([]:List α)).length:Int):=by simp
theorem zle (n:Nat):(0:Int)≤(n:Int):=Int.natCast_nonneg n
theorem wr_id {a:Int} (h0 : -9223372036854775808≤a) (h1:a≤9223372036854775807):wrap64 a=a:=by unfold wrap64;omega
theorem wr_mid {α:Type} (pre:List α) (x:α) (r:List α) (h:(pre ++ x :: r).length≤9223372036854775807):wrap64 ((pre.length:Int)+1)=((pre ++ [x]).length:Int):=by
 rw[wr_id (by omega) (by simp at h;omega)]
 simp
theorem app_mid {α:Type} (pre:List α) (x:α) (r:List α):pre ++ x :: r=(pre ++ [x]) ++ r:=by simp
theorem ev_eq {α:Type} {g:Nat→Option α} {a b:α} (h:Ev g a) (e:a=b):Ev g b:=e ▸ h
theorem ev_some {α:Type} {o:Option α} {r:α} (h:o=some r):Ev (fun _=>o) r:=⟨0,fun _ _=>h⟩
theorem C_one {w:World} {b:Nat} {x:Int} {e:Nat} (h:w.heap[b]? = some (.cells #[.int .i64 x] e (0,0))):Kd.C (Kd.int .i64) w (some ⟨b,0,none⟩) 1 [x]:=by
 refine ⟨rfl,by simp,fun _=>⟨_,rfl,fun j p hj=>?_⟩⟩
 cases j with
 | zero =>
  cases hj
  exact ⟨[.int .i64 x],rfl,rfl,fun i u hu=>by
   cases i with
   | zero=>cases hu;exact (blk_cell h 0).trans rfl
   | succ i=>simp at hu⟩
 | succ j=>simp at hj
theorem four_blocks (w:World) (o0 o1 o2 o3:Obj):((((w.alloc o0).alloc o1).alloc o2).alloc o3).heap[w.heap.size]? = some o0∧((((w.alloc o0).alloc o1).alloc o2).alloc o3).heap[w.heap.size+1]? = some o1∧((((w.alloc o0).alloc o1).alloc o2).alloc o3).heap[w.heap.size+1+1]? = some o2∧((((w.alloc o0).alloc o1).alloc o2).alloc o3).heap[w.heap.size+1+1+1]? = some o3∧Below w.heap.size w ((((w.alloc o0).alloc o1).alloc o2).alloc o3):=by
 have s1:=World.size_alloc w o0
 have s2:=World.size_alloc (w.alloc o0) o1
 have s3:=World.size_alloc ((w.alloc o0).alloc o1) o2
 refine ⟨blk_alloc (blk_alloc (blk_alloc (heap_alloc_new w o0) _) _) _,?_,?_,?_,below_alloc (below_alloc (below_alloc (below_alloc (Below.refl _ _) _) _) _) _⟩
 ·
  have:=blk_alloc (blk_alloc (heap_alloc_new (w.alloc o0) o1) o2) o3
  rwa [s1] at this
 ·
  have:=blk_alloc (heap_alloc_new ((w.alloc o0).alloc o1) o2) o3
  rwa [s2,s1] at this
 ·
  have:=heap_alloc_new (((w.alloc o0).alloc o1).alloc o2) o3
  rwa [s3,s2,s1] at this
theorem S_empty {α:Type} (d:Kd α) {e base b:Nat} {W:World} {ok:Nat→Prop} (h:W.heap[b]? = some (.cells #[] e (0,0))) (hB:base≤b) (ho:ok b):Kd.S d e W base ok (.slice (some ⟨b,0,none⟩) 0 0) [] :=
 ⟨fun _=>0,fun k hk=>by cases hk;exact ho,[],⟨by simp, .inr ⟨b,0,#[],rfl,hB,h,Nat.le_refl _,by decide,by simp,by simp⟩⟩,Reps.none _ _⟩
theorem two_blocks (w:World) (o0 o1:Obj):((w.alloc o0).alloc o1).heap[w.heap.size]? = some o0∧((w.alloc o0).alloc o1).heap[w.heap.size+1]? = some o1∧Below w.heap.size w ((w.alloc o0).alloc o1):=by
 have s1:=World.size_alloc w o0
 refine ⟨blk_alloc (heap_alloc_new w o0) _,?_,below_alloc (below_alloc (Below.refl _ _) _) _⟩
 have:=heap_alloc_new (w.alloc o0) o1
 rwa [s1] at this
section
variable {W:World} {g t:Nat} {x0 x1:Value}
theorem put2 (h:W.heap[g]? = some (.cells #[x0,x1] t (0,0))) (v0 v1:Value):W.cell? ⟨g,0,none⟩=some x0∧W.frozen? ⟨g,0,none⟩=false∧(W.setCell ⟨g,0,none⟩ v0).cell? ⟨g,1,none⟩=some x1∧(W.setCell ⟨g,0,none⟩ v0).frozen? ⟨g,1,none⟩=false :=
 ⟨(blk_cell h 0).trans rfl,blk_frozen h 0,(blk_cell (blk_put h 0 v0 rfl) 1).trans rfl,blk_frozen (blk_put h 0 v0 rfl) 1⟩
theorem put2_blk (h:W.heap[g]? = some (.cells #[x0,x1] t (0,0))) (v0 v1:Value):((W.setCell ⟨g,0,none⟩ v0).setCell ⟨g,1,none⟩ v1).heap[g]? = some (.cells #[v0,v1] t (0,0)):=blk_put (blk_put h 0 v0 rfl) 1 v1 rfl
theorem put2_kept (W:World) (g:Nat) (v0 v1:Value):Kept W ((W.setCell ⟨g,0,none⟩ v0).setCell ⟨g,1,none⟩ v1) (fun k=>k=g):=by
 have s:∀ (w:World) (a:Addr) (v:Value),(w.setCell a v).heap.size=w.heap.size:=World.size_setCell
 refine ⟨by rw[s,s];exact Nat.le_refl _,fun i _ hn=>?_⟩
 rw[Below.heap_setCell _ _ _ i (by exact hn),Below.heap_setCell _ _ _ i (by exact hn)]
end
namespace Kd
section
variable {α:Type} {d:Kd α} {e base:Nat} {W:World} {ok:Nat→Prop} {v:Value} {xs:List α}
end
end Kd
theorem nxt {k:Nat} (h:k < 9223372036854775807):Value.int .i64 (wrap64 ((k:Int)+1))=Value.int .i64 ((k+1:Nat):Int):=by rw[wr_id (by omega) (by omega)];rfl
theorem nxt2 {k:Nat} (h:k < 9223372036854775807):Value.int .i64 (IntKind.i64.wrap ((k:Int)+1))=Value.int .i64 ((k+1:Nat):Int):=by rw[Go.Proofs.YtihieplobgehaaaW.PrintLast.i64_w];exact nxt h
end Go.Proofs.Ytihieplobgehaaa.H
