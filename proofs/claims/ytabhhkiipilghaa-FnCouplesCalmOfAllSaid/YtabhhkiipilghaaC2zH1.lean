import Derived.Test.YtabhhkiipilghaaC2zWWords
import Derived.Test.YtabhhkiipilghaaC2zWMore
import Derived.Test.YtabhhkiipilghaaC2zWLast
import Derived.Deep.Slices
import Derived.ChangeArms
import Derived.WalkKit
namespace Go.Proofs.Ytabhhkiipilghaa.H
open Go.RowKit Go.Proofs.YtabhhkiipilghaaW.PrintWords Go.Proofs.YtabhhkiipilghaaW.PrintLast Go.Proofs.YtabhhkiipilghaaW.PrintMore
attribute [local go_sem] max2_int min2_int max_two min_two max_three min_three max_four min_four
set_option linter.unusedVariables false
set_option linter.unusedSimpArgs false
def Opens (P:Program) (w:World) (t:TypeId) {α:Type} (d:Kd α) (good:α→Prop):Prop :=
 ∀ (H:Type) (enc:TypeId × Value→H) (fuel:Nat) (cs:List Value) (x:DataW H × List MemPlace),DataW.trod enc P w 0 (fun _=>true) true fuel t cs=some x→∃ y,d.K w y cs∧good y
def goodI (n:Int):Prop := -9223372036854775808≤n∧n≤9223372036854775807
def goodL {α:Type} (good:α→Prop) (l:List α):Prop:=l.length≤9223372036854775807∧∀ x ∈ l,good x
theorem goodI_of_wf {n:Int} (h:(Lit.int .i64 n).wf=true):goodI n:=by
 simp[Lit.wf,IntKind.min,IntKind.max,IntKind.signed,IntKind.bits] at h
 unfold goodI
 omega
theorem opens_int {P:Program} {w:World} {t:TypeId} (ht:P.underlying t=some (.int .i64)):Opens P w t (Kd.int .i64) goodI:=by
 intro H enc fuel cs x h
 obtain ⟨n,rfl,_,hw⟩:=DataW.trod_int ht h
 exact ⟨n,rfl,goodI_of_wf hw⟩
theorem opens_bool {P:Program} {w:World} {t:TypeId} (ht:P.underlying t=some .bool):Opens P w t Kd.bool (fun _=>True):=by
 intro H enc fuel cs x h
 obtain ⟨b,rfl,_⟩:=DataW.trod_bool ht h
 exact ⟨b,rfl,trivial⟩
theorem opens_slice {P:Program} {w:World} {t e:TypeId} {α:Type} {d:Kd α} {good:α→Prop} (ht:P.underlying t=some (.slice e)) (hc:P.cellsOf e=1) (hd:d.sz=1) (ho:Opens P w e d good):Opens P w t (Kd.slice e d) (goodL good):=by
 intro H enc fuel cs x h
 rcases Deep.open_slice1 ht hc h with ⟨rfl,_⟩|⟨a,len,cap,m,n,V,D,Pl,rfl,hb,hl,hm,hmm,_,hx⟩
 ·
  exact ⟨[],⟨none,0,rfl,Nat.le_refl _,rfl,by simp,fun hn=>absurd hn (by simp)⟩,by simp,fun x hx=>absurd hx (by simp)⟩
 simp only[if_true] at hmm
 subst hmm
 have each:∀ i,i < len→∃ y:α,d.K w y [V i]∧good y:=fun i hi=>ho H enc n [V i] (D i,Pl i) (hx i (by omega)).2
 obtain ⟨Y,hY⟩:∃ Y:Nat→Option α,∀ i,i < len→∃ y,Y i=some y∧d.K w y [V i]∧good y:=by
  refine ⟨fun i=>if hi:i < len then some (Classical.choose (each i hi)) else none,fun i hi=>?_⟩
  exact ⟨_,by simp only[hi,dite_true],Classical.choose_spec (each i hi)⟩
 have hm':m≤9223372036854775807:=by unfold maxLen at hm;omega
 have hlen:∀ k,k≤len→((List.range k).filterMap Y).length=k∧∀ i,i < k→((List.range k).filterMap Y)[i]? = Y i:=by
  intro k
  induction k with
  | zero=>intro _;simp
  | succ k ih =>
   intro hk
   obtain ⟨h1,h2⟩:=ih (by omega)
   obtain ⟨y,hy,_⟩:=hY k (by omega)
   rw[List.range_succ,List.filterMap_append]
   have e1:List.filterMap Y [k]=[y]:=by simp[hy]
   rw[e1]
   refine ⟨by simp[h1],fun i hi=>?_⟩
   by_cases e:i=k
   ·
    subst e
    rw[List.getElem?_append_right (by omega),h1,hy];simp
   ·
    rw[List.getElem?_append_left (by omega)];exact h2 i (by omega)
 obtain ⟨h1,h2⟩:=hlen len (Nat.le_refl _)
 refine ⟨(List.range len).filterMap Y,⟨some a,m,by rw[h1],by rw[h1];exact hl,rfl,by rw[h1];omega,fun hn=>⟨a,rfl,fun j p hp=>?_⟩⟩,by rw[h1];omega,fun y hy=>?_⟩
 ·
  have hj:j < len:=by rw[← h1];exact (List.getElem?_eq_some_iff.1 hp).1
  obtain ⟨y,hy,hK,_⟩:=hY j hj
  rw[h2 j hj,hy] at hp
  cases hp
  refine ⟨[V j],hd.symm,hK,fun i u hu=>?_⟩
  cases i with
  | zero=>cases hu;rw[hd,Nat.mul_one,Nat.add_zero];exact (hx j (by omega)).1
  | succ i=>simp at hu
 ·
  obtain ⟨i,hi,rfl⟩:=List.getElem_of_mem hy
  obtain ⟨z,hz,_,hg⟩:=hY i (by omega)
  have:=h2 i (by omega)
  rw[List.getElem?_eq_getElem hi,hz] at this
  cases this
  exact hg
theorem open_row {P:Program} {w:World} {t e:TypeId} {α:Type} {d:Kd α} {good:List α→Prop} {H:Type} {enc:TypeId × Value→H} {fuel:Nat} {v:Value} {x:DataW H × List MemPlace} (ho:Opens P w t (Kd.slice e d) good) (h:DataW.trod enc P w 0 (fun _=>true) true fuel t [v]=some x) :
  ∃ (A:Option Addr) (c:Nat) (l:List α),v = .slice A l.length c∧l.length≤c∧d.C w A l.length l∧good l:=by
 obtain ⟨l,⟨A,c,hv,hl,hC⟩,hg⟩:=ho H enc fuel [v] x h
 exact ⟨A,c,l,by simpa using hv,hl,hC,hg⟩
theorem open_one {P:Program} {w:World} {t:TypeId} {H:Type} {enc:TypeId × Value→H} {fuel:Nat} {v:Value} {x:DataW H × List MemPlace} (ht:P.underlying t=some (.int .i64)) (h:DataW.trod enc P w 0 (fun _=>true) true fuel t [v]=some x):∃ n:Int,v = .int .i64 n∧goodI n:=by
 obtain ⟨n,hv,hg⟩:=opens_int ht H enc fuel [v] x h
 exact ⟨n,by simpa [Kd.int,Kd.scalar] using hv,hg⟩
theorem open_oneb {P:Program} {w:World} {t:TypeId} {H:Type} {enc:TypeId × Value→H} {fuel:Nat} {v:Value} {x:DataW H × List MemPlace} (ht:P.underlying t=some .bool) (h:DataW.trod enc P w 0 (fun _=>true) true fuel t [v]=some x):∃ n:Bool,v = .bool n:=by
 obtain ⟨n,hv,_⟩:=opens_bool ht H enc fuel [v] x h
 exact ⟨n,by simpa [Kd.bool,Kd.scalar] using hv⟩
end Go.Proofs.Ytabhhkiipilghaa.H
