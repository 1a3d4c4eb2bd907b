import Derived.Test.YtabhhkiipilghaaC1zWWords
import Derived.Test.YtabhhkiipilghaaC1zWLast
import Derived.Test.YtabhhkiipilghaaC1zWTab
import Derived.Test.YtabhhkiipilghaaC1zWFour
import Derived.Test.YtabhhkiipilghaaC1zWQPut
import Derived.Test.YtabhhkiipilghaaC1zWApart
import Derived.Test.YtabhhkiipilghaaC1zWArr
import Derived.Test.YtabhhkiipilghaaC1zWZeros
import Derived.Test.YtabhhkiipilghaaC1zWFoot
import Derived.Test.YtabhhkiipilghaaC1zWKept
import Derived.Test.YtabhhkiipilghaaC1zWShare
import Derived.Test.YtabhhkiipilghaaC1zWN
import Derived.Test.YtabhhkiipilghaaC1zWFootNe
import Derived.Test.YtabhhkiipilghaaC1zWAt
import Derived.Test.YtabhhkiipilghaaC1zWEqStruct
import Derived.Test.YtabhhkiipilghaaC1zWRepsOne
import Derived.Test.YtabhhkiipilghaaC1zWInv
import Derived.Test.YtabhhkiipilghaaC1zWInvWords
import Derived.Test.YtabhhkiipilghaaC1zWGuard
import Derived.Test.YtabhhkiipilghaaC1zWNEv
import Derived.Test.YtabhhkiipilghaaC1zWMore
import Derived.Test.YtabhhkiipilghaaC1zHG
import Derived.Shelf.Abstract
import Derived.WalkSpells
import Derived.Laws.CopyOwn
namespace Go.Proofs.Ytabhhkiipilghaa.H
open Go.RowKit Go.Proofs.YtabhhkiipilghaaW.PrintWords Go.Proofs.YtabhhkiipilghaaW.PrintLast Go.Proofs.YtabhhkiipilghaaW.PrintMore
attribute [local go_sem] max2_int min2_int max_two min_two max_three min_three max_four min_four
set_option linter.unusedVariables false
set_option linter.unusedSimpArgs false
theorem dlt_of {W W2:World} (_:Below W.heap.size W W2):∃ D:Nat→Prop,(∀ k,k < W.heap.size→D k)∧∀ k,W.heap.size≤k→¬ D k :=
 ⟨fun k=>k < W.heap.size,fun _ h=>h,fun _ h=>Nat.not_lt.2 h⟩
namespace Kd
section
variable {α:Type} {d:Kd α} {e:Nat} {W w:World} {base:Nat} {ok D:Nat→Prop} {v:Value} {xs:List α}
theorem S_dlt (h:Kd.S d e W base ok v xs) (hD:∀ k,k < W.heap.size→D k):Kd.S d e W base (fun k=>ok k∧D k) v xs :=
 Kd.S_mono (Kd.S_bound h) (fun k hk=>⟨hk.1,hD k hk.2.2.1⟩)
theorem S_dge (h:Kd.S d e w base ok v xs) (hD:∀ k,base≤k→¬ D k):Kd.S d e w base (fun k=>ok k∧¬ D k) v xs :=
 Kd.S_mono (Kd.S_bound h) (fun k hk=>⟨hk.1,hD k hk.2.1⟩)
end
end Kd
theorem rd_mid (pre:List Int) (x:Int) (r:List Int):rd (pre ++ x :: r) (pre.length:Int)=x:=by simp[rd]
theorem set_mid {α:Type} (pre:List α) (x y:α) (r:List α):(pre ++ x :: r).set ((pre.length:Int)).toNat y=pre ++ y :: r:=by simp
theorem lt_mid {α:Type} (pre:List α) (x:α) (r:List α):(pre.length:Int) < ((pre ++ x :: r).length:Int):=by simp;omega
theorem zle (n:Nat):(0:Int)≤(n:Int):=Int.natCast_nonneg n
theorem wr_id {a:Int} (h0 : -9223372036854775808≤a) (h1:a≤9223372036854775807):wrap64 a=a:=by unfold wrap64;omega
theorem app_mid {α:Type} (pre:List α) (x:α) (r:List α):pre ++ x :: r=(pre ++ [x]) ++ r:=by simp
theorem C_one {w:World} {b:Nat} {x:Int} {e:Nat} (h:w.heap[b]? = some (.cells #[.int .i64 x] e (0,0))):Kd.C (Kd.int .i64) w (some ⟨b,0,none⟩) 1 [x]:=by
 refine ⟨rfl,by simp,fun _=>⟨_,rfl,fun j p hj=>?_⟩⟩
 cases j with
 | zero =>
  cases hj
  exact ⟨[.int .i64 x],rfl,rfl,fun i u hu=>by
   cases i with
   | zero=>cases hu;exact (blk_cell h 0).trans rfl
   | succ i=>simp at hu⟩
 | succ j=>simp at hj
theorem S_empty {α:Type} (d:Kd α) {e base b:Nat} {W:World} {ok:Nat→Prop} (h:W.heap[b]? = some (.cells #[] e (0,0))) (hB:base≤b) (ho:ok b):Kd.S d e W base ok (.slice (some ⟨b,0,none⟩) 0 0) [] :=
 ⟨fun _=>0,fun k hk=>by cases hk;exact ho,[],⟨by simp, .inr ⟨b,0,#[],rfl,hB,h,Nat.le_refl _,by decide,by simp,by simp⟩⟩,Reps.none _ _⟩
theorem two_blocks (w:World) (o0 o1:Obj):((w.alloc o0).alloc o1).heap[w.heap.size]? = some o0∧((w.alloc o0).alloc o1).heap[w.heap.size+1]? = some o1∧Below w.heap.size w ((w.alloc o0).alloc o1):=by
 have s1:=World.size_alloc w o0
 refine ⟨blk_alloc (heap_alloc_new w o0) _,?_,below_alloc (below_alloc (Below.refl _ _) _) _⟩
 have:=heap_alloc_new (w.alloc o0) o1
 rwa [s1] at this
section
variable {W:World} {g t:Nat} {x0 x1:Value}
theorem put2 (h:W.heap[g]? = some (.cells #[x0,x1] t (0,0))) (v0 v1:Value):W.cell? ⟨g,0,none⟩=some x0∧W.frozen? ⟨g,0,none⟩=false∧(W.setCell ⟨g,0,none⟩ v0).cell? ⟨g,1,none⟩=some x1∧(W.setCell ⟨g,0,none⟩ v0).frozen? ⟨g,1,none⟩=false :=
 ⟨(blk_cell h 0).trans rfl,blk_frozen h 0,(blk_cell (blk_put h 0 v0 rfl) 1).trans rfl,blk_frozen (blk_put h 0 v0 rfl) 1⟩
theorem put2_blk (h:W.heap[g]? = some (.cells #[x0,x1] t (0,0))) (v0 v1:Value):((W.setCell ⟨g,0,none⟩ v0).setCell ⟨g,1,none⟩ v1).heap[g]? = some (.cells #[v0,v1] t (0,0)):=blk_put (blk_put h 0 v0 rfl) 1 v1 rfl
theorem put2_kept (W:World) (g:Nat) (v0 v1:Value):Kept W ((W.setCell ⟨g,0,none⟩ v0).setCell ⟨g,1,none⟩ v1) (fun k=>k=g):=by
 have s:∀ (w:World) (a:Addr) (v:Value),(w.setCell a v).heap.size=w.heap.size:=World.size_setCell
 refine ⟨by rw[s,s];exact Nat.le_refl _,fun i _ hn=>?_⟩
 rw[Below.heap_setCell _ _ _ i (by exact hn),Below.heap_setCell _ _ _ i (by exact hn)]
end
namespace Kd
section
variable {α:Type} {d:Kd α} {e base:Nat} {W:World} {ok:Nat→Prop} {v:Value} {xs:List α}
end
end Kd
theorem nxt {k:Nat} (h:k < 9223372036854775807):Value.int .i64 (wrap64 ((k:Int)+1))=Value.int .i64 ((k+1:Nat):Int):=by rw[wr_id (by omega) (by omega)];rfl
theorem nxt2 {k:Nat} (h:k < 9223372036854775807):Value.int .i64 (IntKind.i64.wrap ((k:Int)+1))=Value.int .i64 ((k+1:Nat):Int):=by rw[Go.Proofs.YtabhhkiipilghaaW.PrintLast.i64_w];exact nxt h
end Go.Proofs.Ytabhhkiipilghaa.H
