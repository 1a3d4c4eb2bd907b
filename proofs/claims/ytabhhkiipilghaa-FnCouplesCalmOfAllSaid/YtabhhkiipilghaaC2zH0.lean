import Derived.Test.YtabhhkiipilghaaC2zWWords
import Derived.Test.YtabhhkiipilghaaC2zWLast
import Derived.Test.YtabhhkiipilghaaC2zWTab
import Derived.Test.YtabhhkiipilghaaC2zWFour
import Derived.Test.YtabhhkiipilghaaC2zWQPut
import Derived.Test.YtabhhkiipilghaaC2zWApart
import Derived.Test.YtabhhkiipilghaaC2zWArr
import Derived.Test.YtabhhkiipilghaaC2zWZeros
import Derived.Test.YtabhhkiipilghaaC2zWFoot
import Derived.Test.YtabhhkiipilghaaC2zWKept
import Derived.Test.YtabhhkiipilghaaC2zWShare
import Derived.Test.YtabhhkiipilghaaC2zWN
import Derived.Test.YtabhhkiipilghaaC2zWFootNe
import Derived.Test.YtabhhkiipilghaaC2zWAt
import Derived.Test.YtabhhkiipilghaaC2zWEqStruct
import Derived.Test.YtabhhkiipilghaaC2zWRepsOne
import Derived.Test.YtabhhkiipilghaaC2zWInv
import Derived.Test.YtabhhkiipilghaaC2zWInvWords
import Derived.Test.YtabhhkiipilghaaC2zWGuard
import Derived.Test.YtabhhkiipilghaaC2zWNEv
import Derived.Test.YtabhhkiipilghaaC2zWMore
import Derived.Test.YtabhhkiipilghaaC2zHG
import Derived.Shelf.Abstract
import Derived.WalkSpells
import Derived.Laws.CopyOwn
namespace Go.Proofs.Ytabhhkiipilghaa.H
open Go.RowKit Go.Proofs.YtabhhkiipilghaaW.PrintWords Go.Proofs.YtabhhkiipilghaaW.PrintLast Go.Proofs.YtabhhkiipilghaaW.PrintMore
attribute [local go_sem] max2_int min2_int max_two min_two max_three min_three max_four min_four
set_option linter.unusedVariables false
set_option linter.unusedSimpArgs false
theorem dlt_of {W W2:World} (_:Below W.heap.size W W2):∃ D:Nat→Prop,(∀ k,k < W.heap.size→D k)∧∀ k,W.heap.size≤k→¬ D k :=
 ⟨fun k=>k < W.heap.size,fun _ h=>h,fun _ h=>Nat.not_lt.2 h⟩
namespace Kd
section
variable {α:Type} {d:Kd α} {e:Nat} {W w:World} {base:Nat} {ok D:Nat→Prop} {v:Value} {xs:List α}
theorem R_dlt (h:d.R e W base ok v xs) (hD:∀ k,k < W.heap.size→D k):d.R e W base (fun k=>ok k∧D k) v xs :=
 Kd.R_mono (Kd.R_bound h) (fun k hk=>⟨hk.1,hD k hk.2.2.1⟩)
theorem S_dlt (h:Kd.S d e W base ok v xs) (hD:∀ k,k < W.heap.size→D k):Kd.S d e W base (fun k=>ok k∧D k) v xs :=
 Kd.S_mono (Kd.S_bound h) (fun k hk=>⟨hk.1,hD k hk.2.2.1⟩)
theorem R_dge (h:d.R e w base ok v xs) (hD:∀ k,base≤k→¬ D k):d.R e w base (fun k=>ok k∧¬ D k) v xs :=
 Kd.R_mono (Kd.R_bound h) (fun k hk=>⟨hk.1,hD k hk.2.1⟩)
theorem S_dge (h:Kd.S d e w base ok v xs) (hD:∀ k,base≤k→¬ D k):Kd.S d e w base (fun k=>ok k∧¬ D k) v xs :=
 Kd.S_mono (Kd.S_bound h) (fun k hk=>⟨hk.1,hD k hk.2.1⟩)
end
end Kd
theorem after_alloc {w w':World} {o:Obj} (hb:Below (w.alloc o).heap.size (w.alloc o) w'):Below w.heap.size w w'∧w'.heap[w.heap.size]? = some o :=
 ⟨below_step ((Below.refl _ _).alloc (Nat.le_refl _) _) hb,(hb.block _ (by rw[World.size_alloc];omega)).trans (heap_alloc_new w o)⟩
theorem any_not_all {α:Type} (p:α→Bool) (xs:List α):(!xs.any fun x => !p x)=xs.all p:=by
 induction xs with
 | nil=>rfl
 | cons x xs ih=>simp only[List.any_cons,List.all_cons,Bool.not_or,Bool.not_not,ih]
def idxF (p:Int→Bool) (xs:List Int):Int:=match xs.findIdx? p with|some i=>(i:Int)|none => -1
theorem idxF_hit (p:Int→Bool) (xs:List Int) (k:Nat) (hk:k < xs.length) (hp:p (rd xs k)=true) (hm:∀ j,j < k→p (rd xs j)=false):idxF p xs=k:=by
 unfold idxF
 have:xs.findIdx? p=some k:=by
  rw[List.findIdx?_eq_some_iff_getElem]
  refine ⟨hk,?_,fun j hj=>?_⟩
  ·
   simpa [rd,List.getD_eq_getElem?_getD,List.getElem?_eq_getElem hk] using hp
  ·
   have:=hm j hj
   simpa [rd,List.getD_eq_getElem?_getD,List.getElem?_eq_getElem (show j < xs.length by omega)] using this
 rw[this]
theorem idxF_miss (p:Int→Bool) (xs:List Int) (hm:∀ j,j < xs.length→p (rd xs (j:Nat))=false):idxF p xs = -1:=by
 unfold idxF
 have:xs.findIdx? p=none:=by
  rw[List.findIdx?_eq_none_iff]
  intro x hx
  obtain ⟨j,hj,rfl⟩:=List.getElem_of_mem hx
  have:=hm j hj
  simpa [rd,List.getD_eq_getElem?_getD,List.getElem?_eq_getElem hj] using this
 rw[this]
theorem idxF_any (p:Int→Bool) (xs:List Int):decide (0≤idxF p xs)=xs.any p:=by
 unfold idxF
 cases h:xs.findIdx? p with
 | none =>
  rw[List.findIdx?_eq_none_iff] at h
  have:xs.any p=false:=by rw[List.any_eq_false];intro x hx;simp[h x hx]
  rw[this];rfl
 | some i =>
  rw[List.findIdx?_eq_some_iff_getElem] at h
  obtain ⟨hi,hp,_⟩:=h
  have:xs.any p=true:=List.any_eq_true.2 ⟨xs[i],List.getElem_mem _,hp⟩
  rw[this]
  simp
theorem rd_mem (xs:List Int) (k:Nat) (h:k < xs.length):rd xs k ∈ xs:=by
 simp[rd,List.getD_eq_getElem?_getD,List.getElem?_eq_getElem h]
def inB (lo hi x:Int):Bool:=decide (lo≤x) && decide (x≤hi)
theorem rd_mid (pre:List Int) (x:Int) (r:List Int):rd (pre ++ x :: r) (pre.length:Int)=x:=by simp[rd]
theorem rdOf_mid {α:Type} (d:α) (pre:List α) (x:α) (r:List α):rdOf d (pre ++ x :: r) (pre.length:Int)=x:=by simp[rdOf]
theorem lt_mid {α:Type} (pre:List α) (x:α) (r:List α):(pre.length:Int) < ((pre ++ x :: r).length:Int):=by simp;omega
theorem nlt_end {α:Type} (pre:List α):¬ (pre.length:Int) < ((pre ++ ([]:List α)).length:Int):=by simp
theorem zle (n:Nat):(0:Int)≤(n:Int):=Int.natCast_nonneg n
theorem wr_id {a:Int} (h0 : -9223372036854775808≤a) (h1:a≤9223372036854775807):wrap64 a=a:=by unfold wrap64;omega
theorem wr_mid {α:Type} (pre:List α) (x:α) (r:List α) (h:(pre ++ x :: r).length≤9223372036854775807):wrap64 ((pre.length:Int)+1)=((pre ++ [x]).length:Int):=by
 rw[wr_id (by omega) (by simp at h;omega)]
 simp
theorem app_mid {α:Type} (pre:List α) (x:α) (r:List α):pre ++ x :: r=(pre ++ [x]) ++ r:=by simp
theorem ev_eq {α:Type} {g:Nat→Option α} {a b:α} (h:Ev g a) (e:a=b):Ev g b:=e ▸ h
theorem cell_two (w:World) (o1:Obj) (v:Value) (t:TypeId):((w.alloc o1).alloc (.cells #[v] t)).cell? ⟨w.heap.size+1,0,none⟩=some v:=by
 have h:((w.alloc o1).alloc (.cells #[v] t)).cell? ⟨(w.alloc o1).heap.size,0,none⟩=some v:=(blk_cell (heap_alloc_new (w.alloc o1) (.cells #[v] t)) 0).trans rfl
 rwa [World.size_alloc] at h
theorem C_one {w:World} {b:Nat} {x:Int} {e:Nat} (h:w.heap[b]? = some (.cells #[.int .i64 x] e (0,0))):Kd.C (Kd.int .i64) w (some ⟨b,0,none⟩) 1 [x]:=by
 refine ⟨rfl,by simp,fun _=>⟨_,rfl,fun j p hj=>?_⟩⟩
 cases j with
 | zero =>
  cases hj
  exact ⟨[.int .i64 x],rfl,rfl,fun i u hu=>by
   cases i with
   | zero=>cases hu;exact (blk_cell h 0).trans rfl
   | succ i=>simp at hu⟩
 | succ j=>simp at hj
theorem four_blocks (w:World) (o0 o1 o2 o3:Obj):((((w.alloc o0).alloc o1).alloc o2).alloc o3).heap[w.heap.size]? = some o0∧((((w.alloc o0).alloc o1).alloc o2).alloc o3).heap[w.heap.size+1]? = some o1∧((((w.alloc o0).alloc o1).alloc o2).alloc o3).heap[w.heap.size+1+1]? = some o2∧((((w.alloc o0).alloc o1).alloc o2).alloc o3).heap[w.heap.size+1+1+1]? = some o3∧Below w.heap.size w ((((w.alloc o0).alloc o1).alloc o2).alloc o3):=by
 have s1:=World.size_alloc w o0
 have s2:=World.size_alloc (w.alloc o0) o1
 have s3:=World.size_alloc ((w.alloc o0).alloc o1) o2
 refine ⟨blk_alloc (blk_alloc (blk_alloc (heap_alloc_new w o0) _) _) _,?_,?_,?_,below_alloc (below_alloc (below_alloc (below_alloc (Below.refl _ _) _) _) _) _⟩
 ·
  have:=blk_alloc (blk_alloc (heap_alloc_new (w.alloc o0) o1) o2) o3
  rwa [s1] at this
 ·
  have:=blk_alloc (heap_alloc_new ((w.alloc o0).alloc o1) o2) o3
  rwa [s2,s1] at this
 ·
  have:=heap_alloc_new (((w.alloc o0).alloc o1).alloc o2) o3
  rwa [s3,s2,s1] at this
theorem S_empty {α:Type} (d:Kd α) {e base b:Nat} {W:World} {ok:Nat→Prop} (h:W.heap[b]? = some (.cells #[] e (0,0))) (hB:base≤b) (ho:ok b):Kd.S d e W base ok (.slice (some ⟨b,0,none⟩) 0 0) [] :=
 ⟨fun _=>0,fun k hk=>by cases hk;exact ho,[],⟨by simp, .inr ⟨b,0,#[],rfl,hB,h,Nat.le_refl _,by decide,by simp,by simp⟩⟩,Reps.none _ _⟩
theorem foldlM_leO {σ α:Type} {f g:σ→α→Option σ} (h:∀ s x,LeO (f s x) (g s x)):∀ (xs:List α) (s:σ),LeO (xs.foldlM f s) (xs.foldlM g s):=by
 intro xs
 induction xs with
 | nil=>intro s;exact LeO.refl _
 | cons x xs ih =>
  intro s
  rw[List.foldlM_cons,List.foldlM_cons]
  exact LeO.bind (h s x) (fun t=>ih t)
section
variable {W:World} {g t:Nat} {x0 x1:Value}
end
namespace Kd
section
variable {α:Type} {d:Kd α} {e base:Nat} {W:World} {ok:Nat→Prop} {v:Value} {xs:List α}
end
end Kd
theorem nxt {k:Nat} (h:k < 9223372036854775807):Value.int .i64 (wrap64 ((k:Int)+1))=Value.int .i64 ((k+1:Nat):Int):=by rw[wr_id (by omega) (by omega)];rfl
theorem nxt2 {k:Nat} (h:k < 9223372036854775807):Value.int .i64 (IntKind.i64.wrap ((k:Int)+1))=Value.int .i64 ((k+1:Nat):Int):=by rw[Go.Proofs.YtabhhkiipilghaaW.PrintLast.i64_w];exact nxt h
end Go.Proofs.Ytabhhkiipilghaa.H
