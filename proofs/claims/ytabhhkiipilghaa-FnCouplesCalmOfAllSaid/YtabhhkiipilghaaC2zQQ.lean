import Derived.Test.YtabhhkiipilghaaC2zx0
import Derived.Test.YtabhhkiipilghaaC2zH0
import Derived.Test.YtabhhkiipilghaaC2zH1
import Derived.Test.YtabhhkiipilghaaC2zx1
import Derived.Test.YtabhhkiipilghaaC2zx10
import Derived.Test.YtabhhkiipilghaaC2zx3
import Derived.Test.YtabhhkiipilghaaC2zx11
import Derived.Test.YtabhhkiipilghaaC2zx2
import Derived.Test.YtabhhkiipilghaaC2zx4
import Derived.Test.YtabhhkiipilghaaC2zx12
import Derived.Test.YtabhhkiipilghaaC2zx14
import Derived.Test.YtabhhkiipilghaaC2zx5
import Derived.Test.YtabhhkiipilghaaC2zx9
import Derived.Test.YtabhhkiipilghaaC2zx15
import Derived.Test.YtabhhkiipilghaaC2zx16
namespace Go.Proofs.Ytabhhkiipilghaa.Pure
open Go.RowKit Go.Proofs.Ytabhhkiipilghaa.C2 Go.Proofs.Ytabhhkiipilghaa.H Go.Proofs.YtabhhkiipilghaaW.PrintWords Go.Proofs.YtabhhkiipilghaaW.PrintLast Go.Proofs.YtabhhkiipilghaaW.PrintMore
set_option linter.unusedVariables false
set_option linter.unusedSimpArgs false
def szSum {α:Type} (f:α→Nat):List α→Nat
 | []=>0
 | x :: l=>f x+szSum f l
def n2 (l:List (List Int)):Nat:=l.length+szSum List.length l
def n3 (l:List (List (List Int))):Nat:=l.length+szSum n2 l
theorem szSum_bound {α:Type} (f:α→Nat) (l:List α) {B:Nat} (h:l.length+szSum f l≤B):l.length≤B∧∀ x ∈ l,f x≤B:=by
 refine ⟨by omega,?_⟩
 have h2:szSum f l≤B:=by omega
 clear h
 induction l with
 | nil=>intro x hx;cases hx
 | cons y l ih =>
  simp only[szSum] at h2
  intro x hx
  rcases List.mem_cons.1 hx with rfl|hx
  ·
   omega
  ·
   exact ih (by omega) x hx
end Go.Proofs.Ytabhhkiipilghaa.Pure

namespace Go.Proofs.Ytabhhkiipilghaa.Pure
open Go.RowKit Go.Proofs.Ytabhhkiipilghaa.C2 Go.Proofs.Ytabhhkiipilghaa.H Go.Proofs.YtabhhkiipilghaaW.PrintWords Go.Proofs.YtabhhkiipilghaaW.PrintLast Go.Proofs.YtabhhkiipilghaaW.PrintMore
set_option linter.unusedVariables false
set_option linter.unusedSimpArgs false
end Go.Proofs.Ytabhhkiipilghaa.Pure

namespace Go.Proofs.Ytabhhkiipilghaa.Pure
open Go.RowKit Go.Proofs.Ytabhhkiipilghaa.C2 Go.Proofs.Ytabhhkiipilghaa.H Go.Proofs.YtabhhkiipilghaaW.PrintWords Go.Proofs.YtabhhkiipilghaaW.PrintLast Go.Proofs.YtabhhkiipilghaaW.PrintMore
set_option linter.unusedVariables false
set_option linter.unusedSimpArgs false
theorem in_eq (a b c:Int):impl_in.f a b c=some (inB b c a):=by
 unfold impl_in.f inB
 by_cases h:b≤a <;> simp [h]
theorem l1In_eq (a b c:Int):spec_l1In.f a b c=some (inB b c a):=by
 unfold spec_l1In.f inB
 by_cases h:b≤a <;> simp [h]
theorem areIn_eq (l:List Int) (a b c d:Int):impl_areIn.f l a b c d=some (inB c d (l.length:Int) && l.all (inB a b)):=rfl
end Go.Proofs.Ytabhhkiipilghaa.Pure

namespace Go.Proofs.Ytabhhkiipilghaa.Pure
open Go.RowKit Go.Proofs.Ytabhhkiipilghaa.C2 Go.Proofs.Ytabhhkiipilghaa.H Go.Proofs.YtabhhkiipilghaaW.PrintWords Go.Proofs.YtabhhkiipilghaaW.PrintLast Go.Proofs.YtabhhkiipilghaaW.PrintMore
set_option linter.unusedVariables false
set_option linter.unusedSimpArgs false
def risF (p:Int):List Int→Bool
 | []=>true
 | y :: r=>decide (p < y) && risF y r
def risP:List Int→Bool
 | []=>true
 | x :: r=>risF x r
theorem rd_mid1 (pre:List Int) (p y:Int) (r:List Int):rd (pre ++ p :: y :: r) ((pre.length:Int)+1)=y:=by
 have h:((pre.length:Int)+1).toNat=pre.length+1:=by omega
 simp[rd,h]
theorem lt_mid1 (pre:List Int) (p y:Int) (r:List Int):(pre.length:Int)+1 < ((pre ++ p :: y :: r).length:Int):=by simp;omega
theorem nlt_end1 (pre:List Int) (p:Int):¬ (pre.length:Int)+1 < ((pre ++ p :: ([]:List Int)).length:Int):=by simp
theorem wr_mid1 (pre:List Int) (p y:Int) (r:List Int) (h:(pre ++ p :: y :: r).length≤9223372036854775807):wrap64 ((pre.length:Int)+1+1)=((pre ++ [p]).length:Int)+1:=by
 simp only[List.length_append,List.length_cons] at h
 rw[wr_id (by omega) (by omega)]
 simp
theorem wr_pred (pre:List Int) (h:pre.length≤9223372036854775806):wrap64 ((pre.length:Int)+1 - 1)=(pre.length:Int):=by
 rw[wr_id (by omega) (by omega)]
 omega
theorem rising_cat (pre:List Int) (p:Int) (r:List Int):pre ++ p :: r=(pre ++ [p]) ++ r:=by simp
theorem rises_loop:∀ (r pre:List Int) (p:Int),(pre ++ p :: r).length≤9223372036854775807→Ev (fun k=>impl_rises.l0 k (pre ++ p :: r) ((pre.length:Int)+1)) (risF p r):=by
 intro r
 induction r with
 | nil =>
  intro pre p hl
  refine Ev.step (f:=fun _=>some true) (fun k=>?_) (Ev.now _)
  simp only[impl_rises.l0]
  rw[if_neg (nlt_end1 pre p)]
 | cons y r ih =>
  intro pre p hl
  have hl':=hl
  simp only[List.length_append,List.length_cons] at hl'
  by_cases c:p < y
  ·
   refine Ev.step (fun k=>?_) (ev_eq (ih (pre ++ [p]) y (by simpa using hl)) (by simp[risF,c]))
   simp only[impl_rises.l0]
   rw[if_pos (lt_mid1 pre p y r),if_pos (by omega),wr_pred pre (by omega),if_pos (zle _),if_pos (lt_mid pre p (y :: r)),rd_mid1,rd_mid,if_neg (by omega),wr_mid1 pre p y r hl,rising_cat pre p (y :: r)]
  ·
   refine Ev.step (f:=fun _=>some false) (fun k=>?_) (ev_eq (Ev.now _) (by simp[risF,c]))
   simp only[impl_rises.l0]
   rw[if_pos (lt_mid1 pre p y r),if_pos (by omega),wr_pred pre (by omega),if_pos (zle _),if_pos (lt_mid pre p (y :: r)),rd_mid1,rd_mid,if_pos (by omega)]
theorem rises_ev (l:List Int) (hl:l.length≤9223372036854775807):Ev (fun k=>impl_rises.f k l) (risP l):=by
 cases l with
 | nil =>
  refine Ev.step (f:=fun _=>some true) (fun k=>?_) (Ev.now _)
  simp[impl_rises.f,impl_rises.l0]
 | cons x r=>exact rises_loop r [] x hl
theorem l1Rising_loop (lo hi:Int):∀ (r pre:List Int) (p:Int),(pre ++ p :: r).length≤9223372036854775807→Ev (fun k=>spec_l1Rising.l0 k (pre ++ p :: r) lo hi (pre ++ p :: r) ((pre ++ p :: r).length:Int) ((pre.length:Int)+1)) (r.all (inB lo hi) && risF p r):=by
 intro r
 induction r with
 | nil =>
  intro pre p hl
  refine Ev.step (f:=fun _=>some true) (fun k=>?_) (Ev.now _)
  simp only[spec_l1Rising.l0]
  rw[if_neg (nlt_end1 pre p)]
 | cons y r ih =>
  intro pre p hl
  have hl':=hl
  simp only[List.length_append,List.length_cons] at hl'
  cases hy:inB lo hi y with
  | false =>
   refine Ev.step (f:=fun _=>some false) (fun k=>?_) (ev_eq (Ev.now _) (by simp[hy]))
   simp only[spec_l1Rising.l0]
   rw[if_pos (lt_mid1 pre p y r),if_pos (by omega),if_pos (lt_mid1 pre p y r),rd_mid1,l1In_eq,hy,Option.bind_some,if_neg (by simp)]
  | true =>
   by_cases c:p < y
   ·
    refine Ev.step (fun k=>?_) (ev_eq (ih (pre ++ [p]) y (by simpa using hl)) (by simp[risF,c,hy]))
    simp only[spec_l1Rising.l0]
    rw[if_pos (lt_mid1 pre p y r),if_pos (by omega),if_pos (lt_mid1 pre p y r),rd_mid1,l1In_eq,hy,Option.bind_some,if_pos rfl,if_pos (by omega),wr_pred pre (by omega),if_pos (zle _),if_pos (lt_mid pre p (y :: r)),rd_mid,if_neg (by omega),wr_mid1 pre p y r hl,rising_cat pre p (y :: r)]
   ·
    refine Ev.step (f:=fun _=>some false) (fun k=>?_) (ev_eq (Ev.now _) (by simp[risF,c]))
    simp only[spec_l1Rising.l0]
    rw[if_pos (lt_mid1 pre p y r),if_pos (by omega),if_pos (lt_mid1 pre p y r),rd_mid1,l1In_eq,hy,Option.bind_some,if_pos rfl,if_pos (by omega),wr_pred pre (by omega),if_pos (zle _),if_pos (lt_mid pre p (y :: r)),rd_mid,if_pos (by omega)]
theorem l1Rising_ev (l:List Int) (lo hi:Int) (hl:l.length≤9223372036854775807):Ev (fun k=>spec_l1Rising.f k l lo hi) (l.all (inB lo hi) && risP l):=by
 cases l with
 | nil =>
  refine Ev.step (f:=fun _=>some true) (fun k=>?_) (Ev.now _)
  simp[spec_l1Rising.f,spec_l1Rising.l0]
 | cons x r =>
  cases hx:inB lo hi x with
  | false =>
   refine Ev.step (f:=fun _=>some false) (fun k=>?_) (ev_eq (Ev.now _) (by simp[hx]))
   simp only[spec_l1Rising.f,spec_l1Rising.l0]
   rw[if_pos (show (0:Int) < ((x :: r).length:Int) by simp only[List.length_cons];omega),if_pos (Int.le_refl _),if_pos (show (0:Int) < ((x :: r).length:Int) by simp only[List.length_cons];omega),show rd (x :: r) 0=x from rfl,l1In_eq,hx,Option.bind_some,if_neg (by simp)]
  | true =>
   refine Ev.step (fun k=>?_) (ev_eq (l1Rising_loop lo hi r [] x hl) (by simp[hx,risP]))
   simp only[spec_l1Rising.f,spec_l1Rising.l0]
   rw[if_pos (show (0:Int) < ((x :: r).length:Int) by simp only[List.length_cons];omega),if_pos (Int.le_refl _),if_pos (show (0:Int) < ((x :: r).length:Int) by simp only[List.length_cons];omega),show rd (x :: r) 0=x from rfl,l1In_eq,hx,Option.bind_some,if_pos rfl,if_neg (by omega),show wrap64 (0+1)=((([]:List Int).length:Int)+1) from wr_id (by omega) (by omega)]
   rfl
end Go.Proofs.Ytabhhkiipilghaa.Pure

namespace Go.Proofs.Ytabhhkiipilghaa.Pure
open Go.RowKit Go.Proofs.Ytabhhkiipilghaa.C2 Go.Proofs.Ytabhhkiipilghaa.H Go.Proofs.YtabhhkiipilghaaW.PrintWords Go.Proofs.YtabhhkiipilghaaW.PrintLast Go.Proofs.YtabhhkiipilghaaW.PrintMore
set_option linter.unusedVariables false
set_option linter.unusedSimpArgs false
def mv (v:Bool):List Int→List Bool→List Bool
 | [],o=>o
 | x :: r,o=>mv v r (o.set x.toNat v)
end Go.Proofs.Ytabhhkiipilghaa.Pure

namespace Go.Proofs.Ytabhhkiipilghaa.Pure
open Go.RowKit Go.Proofs.Ytabhhkiipilghaa.C2 Go.Proofs.Ytabhhkiipilghaa.H Go.Proofs.YtabhhkiipilghaaW.PrintWords Go.Proofs.YtabhhkiipilghaaW.PrintLast Go.Proofs.YtabhhkiipilghaaW.PrintMore
set_option linter.unusedVariables false
set_option linter.unusedSimpArgs false
end Go.Proofs.Ytabhhkiipilghaa.Pure

namespace Go.Proofs.Ytabhhkiipilghaa.Pure
open Go.RowKit Go.Proofs.Ytabhhkiipilghaa.C2 Go.Proofs.Ytabhhkiipilghaa.H Go.Proofs.YtabhhkiipilghaaW.PrintWords Go.Proofs.YtabhhkiipilghaaW.PrintLast Go.Proofs.YtabhhkiipilghaaW.PrintMore
set_option linter.unusedVariables false
set_option linter.unusedSimpArgs false
end Go.Proofs.Ytabhhkiipilghaa.Pure

namespace Go.Proofs.Ytabhhkiipilghaa.Pure
open Go.RowKit Go.Proofs.Ytabhhkiipilghaa.C2 Go.Proofs.Ytabhhkiipilghaa.H Go.Proofs.YtabhhkiipilghaaW.PrintWords Go.Proofs.YtabhhkiipilghaaW.PrintLast Go.Proofs.YtabhhkiipilghaaW.PrintMore
set_option linter.unusedVariables false
set_option linter.unusedSimpArgs false
theorem ev_up {α:Type} {f:Nat→Option α} (hm:∀ k,LeO (f k) (f (k+1))) {K:Nat} {r:α} (h:f K=some r):Ev f r:=by
 refine ⟨K,fun k hk=>?_⟩
 induction k with
 | zero=>rw [show K=0 by omega] at h;exact h
 | succ k ih =>
  by_cases e:K=k+1
  ·
   rw[← e];exact h
  ·
   exact hm k r (ih (by omega))
theorem map_some {α β:Type} {o:Option α} {f:α→β} {b:β} (h:o.map f=some b):∃ a,o=some a∧f a=b:=by
 cases o with
 | none=>cases h
 | some a=>exact ⟨a,rfl,Option.some.inj h⟩
theorem cases4 {a:Int} (h0:1≤a) (h1:a≤4):a=1∨a=2∨a=3∨a=4:=by omega
def goodU (cn m:Int):Bool:=inB 1 4 cn && inB 1 4 m
theorem goodU_in {cn m:Int} (h:goodU cn m=true):(1≤cn∧cn≤4)∧1≤m∧m≤4:=by
 unfold goodU inB at h
 simp only[Bool.and_eq_true,decide_eq_true_eq] at h
 exact h
theorem cuGood_eq (cn m:Int):spec_cuGood.f cn m=some (goodU cn m):=by
 unfold spec_cuGood.f spec_l1In.f goodU inB
 by_cases h1:1≤cn <;> by_cases h2:cn≤4 <;> by_cases h3:1≤m <;> by_cases h4:m≤4 <;> simp [h1,h2,h3,h4]
theorem isCompany_eq (cn m:Int):impl_IsCompany.f cn m=some (goodU cn m):=by
 unfold impl_IsCompany.f impl_in.f goodU inB
 by_cases h1:1≤cn <;> by_cases h2:cn≤4 <;> by_cases h3:1≤m <;> by_cases h4:m≤4 <;> simp [h1,h2,h3,h4]
end Go.Proofs.Ytabhhkiipilghaa.Pure

namespace Go.Proofs.Ytabhhkiipilghaa.Pure
open Go.RowKit Go.Proofs.Ytabhhkiipilghaa.C2 Go.Proofs.Ytabhhkiipilghaa.H Go.Proofs.YtabhhkiipilghaaW.PrintWords Go.Proofs.YtabhhkiipilghaaW.PrintLast Go.Proofs.YtabhhkiipilghaaW.PrintMore
set_option linter.unusedVariables false
set_option linter.unusedSimpArgs false
def allB:Nat→List (List Bool)
 | 0=>[[]]
 | n+1=>(allB n).map (List.cons false) ++ (allB n).map (List.cons true)
theorem allB_mem:∀ (n:Nat) (l:List Bool),l.length=n→l ∈ allB n:=by
 intro n
 induction n with
 | zero =>
  intro l h
  rw[List.length_eq_zero_iff.1 h]
  exact List.mem_singleton.2 rfl
 | succ n ih =>
  intro l h
  cases l with
  | nil=>cases h
  | cons b l =>
   have:=ih l (by simpa using h)
   simp only[allB,List.mem_append,List.mem_map]
   cases b with
   | false=>exact .inl ⟨l,this,rfl⟩
   | true=>exact .inr ⟨l,this,rfl⟩
end Go.Proofs.Ytabhhkiipilghaa.Pure

namespace Go.Proofs.Ytabhhkiipilghaa.Pure
open Go.RowKit Go.Proofs.Ytabhhkiipilghaa.C2 Go.Proofs.Ytabhhkiipilghaa.H Go.Proofs.YtabhhkiipilghaaW.PrintWords Go.Proofs.YtabhhkiipilghaaW.PrintLast Go.Proofs.YtabhhkiipilghaaW.PrintMore
set_option linter.unusedVariables false
set_option linter.unusedSimpArgs false
def upL:Nat→Nat→List (List Int)
 | 0,_=>[[]]
 | c+1,i=>upL c (i+1) ++ (upL c (i+1)).map (List.cons (i:Int))
theorem upL_nil:∀ (c i:Nat),[] ∈ upL c i:=by
 intro c
 induction c with
 | zero=>intro i;exact List.mem_singleton.2 rfl
 | succ c ih=>intro i;exact List.mem_append.2 (.inl (ih (i+1)))
theorem upL_mem:∀ (c:Nat) (t:List Int) (i:Nat),(∀ x ∈ t,(i:Int)≤x∧x < ((i+c:Nat):Int))→t.Pairwise (· < ·)→t ∈ upL c i:=by
 intro c
 induction c with
 | zero =>
  intro t i h _
  cases t with
  | nil=>exact upL_nil 0 i
  | cons x r=>have:=h x (by simp);omega
 | succ c ih =>
  intro t i h hp
  cases t with
  | nil=>exact upL_nil (c+1) i
  | cons x r =>
   rw[List.pairwise_cons] at hp
   have hx:=h x (by simp)
   have hr:∀ y ∈ r,x < y∧y < ((i+(c+1):Nat):Int):=fun y hy=>⟨hp.1 y hy,(h y (by simp[hy])).2⟩
   simp only[upL,List.mem_append,List.mem_map]
   by_cases e:x=(i:Int)
   ·
    refine .inr ⟨r,ih r (i+1) (fun y hy=>?_) hp.2,by rw[e]⟩
    have:=hr y hy
    omega
   ·
    refine .inl (ih (x :: r) (i+1) (fun y hy=>?_) (List.pairwise_cons.2 hp))
    rcases List.mem_cons.1 hy with rfl|hy
    ·
     omega
    ·
     have:=hr y hy;omega
theorem ris_pw:∀ (r:List Int) (x:Int),risF x r=true→(x :: r).Pairwise (· < ·):=by
 intro r
 induction r with
 | nil=>intro x _;simp
 | cons y r ih =>
  intro x h
  simp only[risF,Bool.and_eq_true,decide_eq_true_eq] at h
  have h2:=ih y h.2
  rw[List.pairwise_cons] at h2 ⊢
  refine ⟨fun z hz=>?_,List.pairwise_cons.2 h2⟩
  rcases List.mem_cons.1 hz with rfl|hz
  ·
   exact h.1
  ·
   have:=h2.1 z hz;have:=h.1;omega
theorem risP_pw {t:List Int} (h:risP t=true):t.Pairwise (· < ·):=by
 cases t with
 | nil=>simp
 | cons x r=>exact ris_pw r x h
end Go.Proofs.Ytabhhkiipilghaa.Pure

namespace Go.Proofs.Ytabhhkiipilghaa.Pure
open Go.RowKit Go.Proofs.Ytabhhkiipilghaa.C2 Go.Proofs.Ytabhhkiipilghaa.H Go.Proofs.YtabhhkiipilghaaW.PrintWords Go.Proofs.YtabhhkiipilghaaW.PrintLast Go.Proofs.YtabhhkiipilghaaW.PrintMore
set_option linter.unusedVariables false
set_option linter.unusedSimpArgs false
def rowOk (cn m:Int) (ov:List Bool) (tr:Bool) (p:Option (List Int)) (t:List Int):Bool:=match impl_RowBoat.f 100000 cn m ov tr t with
 | some (o,b,true)=>decide (impl_IsCalm.f 100000 cn m o b=some (true,true)) && decide (impl_IsCalmGroup.f 100000 cn t=some (true,true)) && decide (impl_RowBoat.f 100000 cn m o b t=some (ov,tr,true)) && decide (laws_hState.f 100000 ov tr ov tr=some true) && decide (1≤t.length∧(t.length:Int)≤m) && (match p with|none=>true|some q=>decide (laws_hBefore.f 100000 q t=some true))
 | _=>false
def rowsOk (cn m:Int) (ov:List Bool) (tr:Bool):Option (List Int)→List (List Int)→Bool
 | _,[]=>true
 | p,t :: r=>rowOk cn m ov tr p t && rowsOk cn m ov tr (some t) r
def tripOk (cn m:Int) (ov:List Bool) (tr ok:Bool) (rows:List (List Int)) (t:List Int):Bool:=match impl_RowBoat.f 100000 cn m ov tr t with
 | some (o,b,three)=>decide (spec_RowBoat.f 100000 cn m ov tr t=some (o,b,three)∧laws_hState.f 100000 o b o b=some true) && (!three || (ok && rows.any (fun x=>decide (x=t)) && (b != tr)))
 | none=>false
def stOk (cn m:Int) (ov:List Bool) (tr:Bool):Option (Option (Bool × Int)):=match impl_Company_hasState.f 100000 cn m ov tr,spec_cuIs.f 100000 cn m ov tr with
 | some false,some false=>some none
 | some true,some true=>match impl_State_isCalm.f 100000 ov tr,spec_cuCode.f 100000 ov tr with
  | some q,some c=>if spec_cuQuiet.f 100000 cn m c=some q then some (some (q,c)) else none
  | _,_=>none
 | _,_=>none
def chkM (n:Nat) (cn m:Int) (ov:List Bool) (tr:Bool):Bool:=match stOk cn m ov tr with
 | none=>false
 | some none=>true
 | some (some (false,_))=>true
 | some (some (true,_))=>match impl_RowsOf.f 100000 cn m ov tr with
  | some (rows,true)=>decide (spec_RowsOf.f 100000 cn m ov tr=some (rows,true)) && decide (n2 rows≤1000000) && rowsOk cn m ov tr none rows && (upL n 0).all fun t => !(inB 1 m (t.length:Int)) || tripOk cn m ov tr true rows t
  | _=>false
theorem trip_off {cn m:Int} {n:Nat} (hn:wrap64 (wrap64 (2 * cn) - 1)=(n:Int) - 1) (ov:List Bool) (tr:Bool) (x:Int) (t:List Int) (ht:t.length≤1048576) (h:¬ (inB 1 m (t.length:Int)=true∧t.all (inB 0 ((n:Int) - 1))=true∧risP t=true)):Ev (fun k=>impl_Company_isRow.f k cn m ov tr t) false∧Ev (fun k=>spec_cuTrip.f k cn m x t) false:=by
 have e1:spec_l1In.f (t.length:Int) 1 m=some (inB 1 m (t.length:Int)):=by
  unfold spec_l1In.f inB
  by_cases h1:(1:Int)≤(t.length:Int) <;> by_cases h2:(t.length:Int)≤m <;> simp [h1,h2] <;> omega
 have hr:=rises_ev t (by omega)
 have hr2:=l1Rising_ev t 0 ((n:Int) - 1) (by omega)
 unfold impl_Company_isRow.f spec_cuTrip.f
 simp only[areIn_eq,e1,hn,Option.bind_some]
 cases a1:inB 1 m (t.length:Int) with
 | false=>exact ⟨by simp only[Bool.false_and,Bool.false_eq_true,if_false];exact Ev.now _,by simp only[Bool.false_eq_true,if_false];exact Ev.now _⟩
 | true =>
  cases a2:t.all (inB 0 ((n:Int) - 1)) with
  | false =>
   rw[a2] at hr2
   refine ⟨by simp only[Bool.and_false,Bool.false_eq_true,if_false];exact Ev.now _,?_⟩
   simp only[if_true]
   refine Ev.bind hr2 ?_
   simp only[Bool.false_and,Bool.false_eq_true,if_false]
   exact Ev.now _
  | true =>
   cases a3:risP t with
   | true=>exact absurd ⟨a1,a2,a3⟩ h
   | false =>
    rw[a3] at hr
    rw[a2,a3] at hr2
    refine ⟨?_,?_⟩
    ·
     simp only[Bool.and_self,if_true]
     refine Ev.bind hr ?_
     simp only[Bool.false_eq_true,if_false]
     exact Ev.now _
    ·
     simp only[if_true]
     refine Ev.bind hr2 ?_
     simp only[Bool.and_false,Bool.false_eq_true,if_false]
     exact Ev.now _
theorem hSt0:Ev (fun k=>laws_hState.f k [] false [] false) true:=ev_up (f:=fun k=>laws_hState.f k [] false [] false) (K:=20) (fun k=>laws_hState.mono _ _ _ _ _) (by decide)
structure CoFacts (cn m:Int) (ov:List Bool) (tr:Bool) (rows:List (List Int)) (ok calm one:Bool):Prop where
 ri:Ev (fun k=>impl_RowsOf.f k cn m ov tr) (rows,ok)
 rs:Ev (fun k=>spec_RowsOf.f k cn m ov tr) (rows,ok)
 ci:Ev (fun k=>impl_IsCalm.f k cn m ov tr) (calm,one)
 cs:Ev (fun k=>spec_IsCalm.f k cn m ov tr) (calm,one)
 eq:ok=(one && calm)
 good:one=true→goodU cn m=true
 sz:n2 rows≤1000000
 row:ok=true→rowsOk cn m ov tr none rows=true
 trip:∀ t:List Int,t.length≤1048576→∃ o b three,Ev (fun k=>impl_RowBoat.f k cn m ov tr t) (o,b,three)∧Ev (fun k=>spec_RowBoat.f k cn m ov tr t) (o,b,three)∧Ev (fun k=>laws_hState.f k o b o b) true∧(three=true→ok=true∧t ∈ rows∧b≠tr)
theorem co_off {cn m:Int} {ov:List Bool} {tr:Bool} (e1:Ev (fun k=>spec_cuIs.f k cn m ov tr) false) (e2:Ev (fun k=>impl_Company_hasState.f k cn m ov tr) false):CoFacts cn m ov tr [] false false false:=by
 refine ⟨?_,?_,?_,?_,rfl,fun h=>(by cases h),by decide,fun h=>(by cases h),fun t _=>⟨[],false,false,?_,?_,hSt0,fun h=>(by cases h)⟩⟩
 ·
  unfold impl_RowsOf.f
  refine Ev.bind e2 ?_
  simp only[Bool.false_eq_true,if_false]
  exact Ev.now _
 ·
  unfold spec_RowsOf.f
  refine Ev.bind e1 ?_
  simp only[Bool.false_eq_true,if_false]
  refine Ev.step (fun k=>spec_RowsOf.j0.eq_2 ..) ?_
  simp only[if_true]
  exact Ev.now _
 ·
  unfold impl_IsCalm.f
  refine Ev.bind e2 ?_
  simp only[Bool.false_eq_true,if_false]
  exact Ev.now _
 ·
  unfold spec_IsCalm.f
  refine Ev.bind e1 ?_
  simp only[Bool.false_eq_true,if_false]
  exact Ev.now _
 ·
  unfold impl_RowBoat.f
  refine Ev.bind e2 ?_
  simp only[Bool.false_eq_true,if_false]
  exact Ev.now _
 ·
  unfold spec_RowBoat.f
  refine Ev.bind e1 ?_
  simp only[Bool.false_eq_true,if_false]
  refine Ev.step (fun k=>spec_RowBoat.j0.eq_2 ..) ?_
  simp only[if_true]
  exact Ev.now _
theorem co_rough {cn m c:Int} {ov:List Bool} {tr:Bool} (hg:goodU cn m=true) (e1:Ev (fun k=>spec_cuIs.f k cn m ov tr) true) (e2:Ev (fun k=>impl_Company_hasState.f k cn m ov tr) true) (e3:Ev (fun k=>impl_State_isCalm.f k ov tr) false) (e4:Ev (fun k=>spec_cuCode.f k ov tr) c) (e5:Ev (fun k=>spec_cuQuiet.f k cn m c) false):CoFacts cn m ov tr [] false false true:=by
 refine ⟨?_,?_,?_,?_,rfl,fun _=>hg,by decide,fun h=>(by cases h),fun t _=>⟨[],false,false,?_,?_,hSt0,fun h=>(by cases h)⟩⟩
 ·
  unfold impl_RowsOf.f
  refine Ev.bind e2 ?_
  simp only[if_true]
  refine Ev.bind e3 ?_
  simp only[Bool.false_eq_true,if_false]
  exact Ev.now _
 ·
  unfold spec_RowsOf.f
  refine Ev.bind e1 ?_
  simp only[if_true]
  refine Ev.bind e4 (Ev.bind e5 ?_)
  refine Ev.step (fun k=>spec_RowsOf.j0.eq_2 ..) ?_
  simp only[Bool.not_false,if_true]
  exact Ev.now _
 ·
  unfold impl_IsCalm.f
  refine Ev.bind e2 ?_
  simp only[if_true]
  exact Ev.bind e3 (Ev.now _)
 ·
  unfold spec_IsCalm.f
  refine Ev.bind e1 ?_
  simp only[if_true]
  exact Ev.bind e4 (Ev.bind e5 (Ev.now _))
 ·
  unfold impl_RowBoat.f
  refine Ev.bind e2 ?_
  simp only[if_true]
  refine Ev.bind e3 ?_
  simp only[Bool.false_eq_true,if_false]
  exact Ev.now _
 ·
  unfold spec_RowBoat.f
  refine Ev.bind e1 ?_
  simp only[if_true]
  refine Ev.bind e4 (Ev.bind e5 ?_)
  simp only[Bool.false_eq_true,if_false]
  refine Ev.step (fun k=>spec_RowBoat.j0.eq_2 ..) ?_
  simp only[if_true]
  exact Ev.now _
theorem co_tab {cn m:Int} {n:Nat} (hg:goodU cn m=true) (hn:wrap64 (wrap64 (2 * cn) - 1)=(n:Int) - 1) {ov:List Bool} {tr:Bool} (h:chkM n cn m ov tr=true):∃ rows ok calm one,CoFacts cn m ov tr rows ok calm one:=by
 unfold chkM at h
 cases hs:stOk cn m ov tr with
 | none=>rw [hs] at h;cases h
 | some s =>
  rw[hs] at h
  unfold stOk at hs
  split at hs
  ·
   rename_i h1 h2
   exact ⟨[],false,false,false,co_off (ev_up (f:=fun k=>spec_cuIs.f k cn m ov tr) (fun k=>spec_cuIs.mono _ _ _ _ _) h2) (ev_up (f:=fun k=>impl_Company_hasState.f k cn m ov tr) (fun k=>impl_Company_hasState.mono _ _ _ _ _) h1)⟩
  ·
   rename_i h1 h2
   have e1:=ev_up (f:=fun k=>spec_cuIs.f k cn m ov tr) (fun k=>spec_cuIs.mono _ _ _ _ _) h2
   have e2:=ev_up (f:=fun k=>impl_Company_hasState.f k cn m ov tr) (fun k=>impl_Company_hasState.mono _ _ _ _ _) h1
   split at hs
   ·
    rename_i q c h3 h4
    have e3:=ev_up (f:=fun k=>impl_State_isCalm.f k ov tr) (fun k=>impl_State_isCalm.mono _ _ _) h3
    have e4:=ev_up (f:=fun k=>spec_cuCode.f k ov tr) (fun k=>spec_cuCode.mono _ _ _) h4
    split at hs
    ·
     rename_i h5
     have e5:=ev_up (f:=fun k=>spec_cuQuiet.f k cn m c) (fun k=>spec_cuQuiet.mono _ _ _ _) h5
     obtain rfl:=Option.some.inj hs
     cases q with
     | false=>exact ⟨[],false,false,true,co_rough hg e1 e2 e3 e4 e5⟩
     | true =>
      dsimp only at h
      split at h
      ·
       rename_i rows h6
       simp only[Bool.and_eq_true,decide_eq_true_eq] at h
       obtain ⟨⟨⟨g1,g2⟩,g3⟩,g4⟩:=h
       refine ⟨rows,true,true,true,ev_up (f:=fun k=>impl_RowsOf.f k cn m ov tr) (fun k=>impl_RowsOf.mono _ _ _ _ _) h6,ev_up (f:=fun k=>spec_RowsOf.f k cn m ov tr) (fun k=>spec_RowsOf.mono _ _ _ _ _) g1,?_,?_,rfl,fun _=>hg,g2,fun _=>g3,fun t ht=>?_⟩
       ·
        unfold impl_IsCalm.f
        refine Ev.bind e2 ?_
        simp only[if_true]
        exact Ev.bind e3 (Ev.now _)
       ·
        unfold spec_IsCalm.f
        refine Ev.bind e1 ?_
        simp only[if_true]
        exact Ev.bind e4 (Ev.bind e5 (Ev.now _))
       ·
        by_cases hin:inB 1 m (t.length:Int)=true∧t.all (inB 0 ((n:Int) - 1))=true∧risP t=true
        ·
         have hm:=upL_mem n t 0 (fun x hx=>by
          have:=List.all_eq_true.1 hin.2.1 x hx
          simp only[inB,Bool.and_eq_true,decide_eq_true_eq] at this
          omega) (risP_pw hin.2.2)
         have g5:=List.all_eq_true.1 g4 t hm
         rw[hin.1] at g5
         simp only[Bool.not_true,Bool.false_or] at g5
         unfold tripOk at g5
         split at g5
         ·
          rename_i o b three h7
          simp only[Bool.and_eq_true,decide_eq_true_eq] at g5
          refine ⟨o,b,three,ev_up (f:=fun k=>impl_RowBoat.f k cn m ov tr t) (fun k=>impl_RowBoat.mono _ _ _ _ _ _) h7,ev_up (f:=fun k=>spec_RowBoat.f k cn m ov tr t) (fun k=>spec_RowBoat.mono _ _ _ _ _ _) g5.1.1,ev_up (f:=fun k=>laws_hState.f k o b o b) (fun k=>laws_hState.mono _ _ _ _ _) g5.1.2,fun h3=>?_⟩
          have g6:=g5.2
          rw[h3] at g6
          simp only[Bool.not_true,Bool.false_or,Bool.true_and,Bool.and_eq_true,List.any_eq_true,decide_eq_true_eq,bne_iff_ne] at g6
          obtain ⟨⟨x,hx,rfl⟩,hb⟩:=g6
          exact ⟨rfl,hx,hb⟩
         ·
          cases g5
        ·
         obtain ⟨q1,q2⟩:=trip_off hn ov tr c t ht hin
         refine ⟨[],false,false,?_,?_,hSt0,fun h=>(by cases h)⟩
         ·
          unfold impl_RowBoat.f
          refine Ev.bind e2 ?_
          simp only[if_true]
          refine Ev.bind e3 ?_
          simp only[if_true]
          refine Ev.bind q1 ?_
          simp only[Bool.false_eq_true,if_false]
          exact Ev.now _
         ·
          unfold spec_RowBoat.f
          refine Ev.bind e1 ?_
          simp only[if_true]
          refine Ev.bind e4 (Ev.bind e5 ?_)
          simp only[if_true]
          refine Ev.bind e4 (Ev.bind q2 ?_)
          refine Ev.step (fun k=>spec_RowBoat.j0.eq_2 ..) ?_
          simp only[Bool.not_false,if_true]
          exact Ev.now _
      ·
       cases h
    ·
     cases hs
   ·
    cases hs
  ·
   cases hs
end Go.Proofs.Ytabhhkiipilghaa.Pure

namespace Go.Proofs.Ytabhhkiipilghaa.Pure
open Go.RowKit Go.Proofs.Ytabhhkiipilghaa.C2 Go.Proofs.Ytabhhkiipilghaa.H Go.Proofs.YtabhhkiipilghaaW.PrintWords Go.Proofs.YtabhhkiipilghaaW.PrintLast Go.Proofs.YtabhhkiipilghaaW.PrintMore
set_option linter.unusedVariables false
set_option linter.unusedSimpArgs false
set_option maxRecDepth 100000 in
theorem mvT11:(allB 2).all (fun ov=>chkM 2 1 1 ov false && chkM 2 1 1 ov true)=true:=by decide +kernel
set_option maxRecDepth 100000 in
theorem mvT12:(allB 2).all (fun ov=>chkM 2 1 2 ov false && chkM 2 1 2 ov true)=true:=by decide +kernel
set_option maxRecDepth 100000 in
theorem mvT13:(allB 2).all (fun ov=>chkM 2 1 3 ov false && chkM 2 1 3 ov true)=true:=by decide +kernel
set_option maxRecDepth 100000 in
theorem mvT14:(allB 2).all (fun ov=>chkM 2 1 4 ov false && chkM 2 1 4 ov true)=true:=by decide +kernel
set_option maxRecDepth 100000 in
theorem mvT21:(allB 4).all (fun ov=>chkM 4 2 1 ov false && chkM 4 2 1 ov true)=true:=by decide +kernel
set_option maxRecDepth 100000 in
theorem mvT22:(allB 4).all (fun ov=>chkM 4 2 2 ov false && chkM 4 2 2 ov true)=true:=by decide +kernel
set_option maxRecDepth 100000 in
theorem mvT23:(allB 4).all (fun ov=>chkM 4 2 3 ov false && chkM 4 2 3 ov true)=true:=by decide +kernel
set_option maxRecDepth 100000 in
theorem mvT24:(allB 4).all (fun ov=>chkM 4 2 4 ov false && chkM 4 2 4 ov true)=true:=by decide +kernel
set_option maxRecDepth 100000 in
theorem mvT31:(allB 6).all (fun ov=>chkM 6 3 1 ov false && chkM 6 3 1 ov true)=true:=by decide +kernel
set_option maxRecDepth 100000 in
theorem mvT32:(allB 6).all (fun ov=>chkM 6 3 2 ov false && chkM 6 3 2 ov true)=true:=by decide +kernel
set_option maxRecDepth 100000 in
theorem mvT33:(allB 6).all (fun ov=>chkM 6 3 3 ov false && chkM 6 3 3 ov true)=true:=by decide +kernel
set_option maxRecDepth 100000 in
theorem mvT34:(allB 6).all (fun ov=>chkM 6 3 4 ov false && chkM 6 3 4 ov true)=true:=by decide +kernel
end Go.Proofs.Ytabhhkiipilghaa.Pure

namespace Go.Proofs.Ytabhhkiipilghaa.Pure
open Go.RowKit Go.Proofs.Ytabhhkiipilghaa.C2 Go.Proofs.Ytabhhkiipilghaa.H Go.Proofs.YtabhhkiipilghaaW.PrintWords Go.Proofs.YtabhhkiipilghaaW.PrintLast Go.Proofs.YtabhhkiipilghaaW.PrintMore
set_option linter.unusedVariables false
set_option linter.unusedSimpArgs false
set_option maxRecDepth 100000 in
theorem mvT4100:(allB 6).all (fun ov=>chkM 8 4 1 (false :: false :: ov) false && chkM 8 4 1 (false :: false :: ov) true)=true:=by decide +kernel
set_option maxRecDepth 100000 in
theorem mvT4101:(allB 6).all (fun ov=>chkM 8 4 1 (false :: true :: ov) false && chkM 8 4 1 (false :: true :: ov) true)=true:=by decide +kernel
set_option maxRecDepth 100000 in
theorem mvT4110:(allB 6).all (fun ov=>chkM 8 4 1 (true :: false :: ov) false && chkM 8 4 1 (true :: false :: ov) true)=true:=by decide +kernel
set_option maxRecDepth 100000 in
theorem mvT4111:(allB 6).all (fun ov=>chkM 8 4 1 (true :: true :: ov) false && chkM 8 4 1 (true :: true :: ov) true)=true:=by decide +kernel
set_option maxRecDepth 100000 in
theorem mvT4200:(allB 6).all (fun ov=>chkM 8 4 2 (false :: false :: ov) false && chkM 8 4 2 (false :: false :: ov) true)=true:=by decide +kernel
set_option maxRecDepth 100000 in
theorem mvT4201:(allB 6).all (fun ov=>chkM 8 4 2 (false :: true :: ov) false && chkM 8 4 2 (false :: true :: ov) true)=true:=by decide +kernel
set_option maxRecDepth 100000 in
theorem mvT4210:(allB 6).all (fun ov=>chkM 8 4 2 (true :: false :: ov) false && chkM 8 4 2 (true :: false :: ov) true)=true:=by decide +kernel
set_option maxRecDepth 100000 in
theorem mvT4211:(allB 6).all (fun ov=>chkM 8 4 2 (true :: true :: ov) false && chkM 8 4 2 (true :: true :: ov) true)=true:=by decide +kernel
end Go.Proofs.Ytabhhkiipilghaa.Pure

namespace Go.Proofs.Ytabhhkiipilghaa.Pure
open Go.RowKit Go.Proofs.Ytabhhkiipilghaa.C2 Go.Proofs.Ytabhhkiipilghaa.H Go.Proofs.YtabhhkiipilghaaW.PrintWords Go.Proofs.YtabhhkiipilghaaW.PrintLast Go.Proofs.YtabhhkiipilghaaW.PrintMore
set_option linter.unusedVariables false
set_option linter.unusedSimpArgs false
set_option maxRecDepth 100000 in
theorem mvT4300:(allB 6).all (fun ov=>chkM 8 4 3 (false :: false :: ov) false && chkM 8 4 3 (false :: false :: ov) true)=true:=by decide +kernel
set_option maxRecDepth 100000 in
theorem mvT4301:(allB 6).all (fun ov=>chkM 8 4 3 (false :: true :: ov) false && chkM 8 4 3 (false :: true :: ov) true)=true:=by decide +kernel
set_option maxRecDepth 100000 in
theorem mvT4310:(allB 6).all (fun ov=>chkM 8 4 3 (true :: false :: ov) false && chkM 8 4 3 (true :: false :: ov) true)=true:=by decide +kernel
set_option maxRecDepth 100000 in
theorem mvT4311:(allB 6).all (fun ov=>chkM 8 4 3 (true :: true :: ov) false && chkM 8 4 3 (true :: true :: ov) true)=true:=by decide +kernel
end Go.Proofs.Ytabhhkiipilghaa.Pure

namespace Go.Proofs.Ytabhhkiipilghaa.Pure
open Go.RowKit Go.Proofs.Ytabhhkiipilghaa.C2 Go.Proofs.Ytabhhkiipilghaa.H Go.Proofs.YtabhhkiipilghaaW.PrintWords Go.Proofs.YtabhhkiipilghaaW.PrintLast Go.Proofs.YtabhhkiipilghaaW.PrintMore
set_option linter.unusedVariables false
set_option linter.unusedSimpArgs false
set_option maxRecDepth 100000 in
theorem mvT4400:(allB 6).all (fun ov=>chkM 8 4 4 (false :: false :: ov) false && chkM 8 4 4 (false :: false :: ov) true)=true:=by decide +kernel
set_option maxRecDepth 100000 in
theorem mvT4401:(allB 6).all (fun ov=>chkM 8 4 4 (false :: true :: ov) false && chkM 8 4 4 (false :: true :: ov) true)=true:=by decide +kernel
set_option maxRecDepth 100000 in
theorem mvT4410:(allB 6).all (fun ov=>chkM 8 4 4 (true :: false :: ov) false && chkM 8 4 4 (true :: false :: ov) true)=true:=by decide +kernel
set_option maxRecDepth 100000 in
theorem mvT4411:(allB 6).all (fun ov=>chkM 8 4 4 (true :: true :: ov) false && chkM 8 4 4 (true :: true :: ov) true)=true:=by decide +kernel
end Go.Proofs.Ytabhhkiipilghaa.Pure

namespace Go.Proofs.Ytabhhkiipilghaa.Pure
open Go.RowKit Go.Proofs.Ytabhhkiipilghaa.C2 Go.Proofs.Ytabhhkiipilghaa.H Go.Proofs.YtabhhkiipilghaaW.PrintWords Go.Proofs.YtabhhkiipilghaaW.PrintLast Go.Proofs.YtabhhkiipilghaaW.PrintMore
set_option linter.unusedVariables false
set_option linter.unusedSimpArgs false
theorem hSame_loop:∀ (r pre:List Int),(pre ++ r).length≤9223372036854775807→Ev (fun k=>laws_hSame.l0 k (pre ++ r) (pre ++ r) ((pre ++ r).length:Int) (pre.length:Int)) true:=by
 intro r
 induction r with
 | nil =>
  intro pre hl
  refine Ev.step (fun k=>laws_hSame.l0.eq_2 ..) ?_
  simp only[List.append_nil,if_neg (show ¬ (pre.length:Int) < (pre.length:Int) by omega)]
  exact Ev.now _
 | cons x r ih =>
  intro pre hl
  have hl':pre.length+(r.length+1)≤9223372036854775807:=by simpa using hl
  have hlt:(pre.length:Int) < ((pre ++ x :: r).length:Int):=by simp;omega
  refine Ev.step (fun k=>laws_hSame.l0.eq_2 ..) ?_
  rw[wr_id (a:=(pre.length:Int)+1) (by omega) (by omega)]
  simp only[if_pos hlt,if_pos (zle pre.length),if_true]
  have h:=ih (pre ++ [x]) (by simpa using hl)
  rw[List.append_assoc,show (((pre ++ [x]).length:Nat):Int)=(pre.length:Int)+1 by simp] at h
  exact h
theorem hSame_self (l:List Int) (hl:l.length≤1048576):Ev (fun k=>laws_hSame.f k l l) true:=by
 unfold laws_hSame.f
 simp only[if_true]
 have h:=hSame_loop l [] (by simp;omega)
 simpa using h
theorem hRows_loop:∀ (r pre:List (List Int)),(pre ++ r).length≤9223372036854775807→(∀ x ∈ r,List.length x≤1048576)→Ev (fun k=>laws_hRows.l0 k (pre ++ r) (pre ++ r) ((pre ++ r).length:Int) (pre.length:Int)) true:=by
 intro r
 induction r with
 | nil =>
  intro pre hl _
  refine Ev.step (fun k=>laws_hRows.l0.eq_2 ..) ?_
  simp only[List.append_nil,if_neg (show ¬ (pre.length:Int) < (pre.length:Int) by omega)]
  exact Ev.now _
 | cons x r ih =>
  intro pre hl hx
  have hl':pre.length+(r.length+1)≤9223372036854775807:=by simpa using hl
  have hlt:(pre.length:Int) < ((pre ++ x :: r).length:Int):=by simp;omega
  have hrd:rd_L1 (pre ++ x :: r) (pre.length:Int)=x:=by simp[rd_L1]
  refine Ev.step (fun k=>laws_hRows.l0.eq_2 ..) ?_
  rw[wr_id (a:=(pre.length:Int)+1) (by omega) (by omega),hrd]
  simp only[if_pos hlt,if_pos (zle pre.length)]
  refine Ev.bind (hSame_self x (hx x (List.mem_cons_self ..))) ?_
  simp only[if_true]
  have h:=ih (pre ++ [x]) (by simpa using hl) (fun y hy=>hx y (List.mem_cons_of_mem _ hy))
  rw[List.append_assoc,show (((pre ++ [x]).length:Nat):Int)=(pre.length:Int)+1 by simp] at h
  exact h
theorem hRows_self (l:List (List Int)) (hl:l.length≤1048576) (hx:∀ x ∈ l,List.length x≤1048576):Ev (fun k=>laws_hRows.f k l l) true:=by
 unfold laws_hRows.f
 simp only[if_true]
 have h:=hRows_loop l [] (by simp;omega) hx
 simpa using h
theorem hSame_loop2 (y:List Int):∀ (r s pre:List Int),r.length=s.length→(pre ++ r).length≤1048576→Ev (fun k=>laws_hSame.l0 k (pre ++ r) (pre ++ s) ((pre ++ r).length:Int) (pre.length:Int)) (decide (r=s)):=by
 intro r
 induction r with
 | nil =>
  intro s pre hl hb
  obtain rfl:=List.length_eq_zero_iff.1 hl.symm
  refine Ev.step (fun k=>laws_hSame.l0.eq_2 ..) ?_
  simp only[if_neg (nlt_end pre)]
  exact ev_eq (Ev.now _) (by simp)
 | cons x r ih =>
  intro s pre hl hb
  cases s with
  | nil=>cases hl
  | cons z s =>
   have hl2:(pre.length:Int) < ((pre ++ z :: s).length:Int):=lt_mid pre z s
   refine Ev.step (fun k=>laws_hSame.l0.eq_2 ..) ?_
   simp only[if_pos (lt_mid pre x r),if_pos (zle pre.length),if_pos hl2,rd_mid]
   by_cases e:x=z
   ·
    subst e
    simp only[if_pos (show x=x from rfl)]
    rw[wr_mid pre x r (by omega),app_mid pre x r,app_mid pre x s]
    exact ev_eq (ih s (pre ++ [x]) (by simpa using hl) (by simpa using hb)) (by simp)
   ·
    simp only[if_neg e]
    exact ev_eq (Ev.now _) (by simp[e])
theorem hSame_ev (x y:List Int) (hx:x.length≤1048576):Ev (fun k=>laws_hSame.f k x y) (decide (x=y)):=by
 unfold laws_hSame.f
 by_cases h:x.length=y.length
 ·
  simp only[if_pos (show (x.length:Int)=(y.length:Int) by omega)]
  exact hSame_loop2 y x y [] h (by simpa using hx)
 ·
  simp only[if_neg (show ¬ (x.length:Int)=(y.length:Int) by omega)]
  exact ev_eq (Ev.now _) (by
   have:x≠y:=fun e=>h (by rw[e])
   simp[this])
def chkG (a:Int) (t:List Int):Bool:=match impl_IsCalmGroup.f 100000 a t with
 | some (is,true)=>decide (spec_IsCalmGroup.f 100000 a t=some (is,true)) && decide (laws_FnCouplesCalmOfAll.l2 100000 t is true t (t.length:Int) 0=some true)
 | _=>false
set_option maxRecDepth 100000 in
theorem cgT1:(upL 2 0).all (chkG 1)=true:=by decide +kernel
set_option maxRecDepth 100000 in
theorem cgT2:(upL 4 0).all (chkG 2)=true:=by decide +kernel
set_option maxRecDepth 100000 in
theorem cgT3:(upL 6 0).all (chkG 3)=true:=by decide +kernel
set_option maxRecDepth 100000 in
theorem cgT4:(upL 8 0).all (chkG 4)=true:=by decide +kernel
theorem l2_mono (k:Nat) (a:List Int) (b c:Bool) (d:List Int) (e f:Int):LeO (laws_FnCouplesCalmOfAll.l2 k a b c d e f) (laws_FnCouplesCalmOfAll.l2 (k+1) a b c d e f):=by
 have h:=laws_FnCouplesCalmOfAll.mono_l k
 repeat' (first|exact h.1 _ _ _ _ _ _|exact h _ _ _ _ _ _|replace h:=h.2)
theorem grp_one {a:Int} {n:Nat} (ha:inB 1 4 a=true) (h2:wrap64 (2 * a)=(n:Int)) (h1:wrap64 ((n:Int) - 1)=(n:Int) - 1) (hT:(upL n 0).all (chkG a)=true) (t:List Int) (ht:t.length≤1048576):∃ is five,Ev (fun k=>impl_IsCalmGroup.f k a t) (is,five)∧Ev (fun k=>spec_IsCalmGroup.f k a t) (is,five)∧(five=true→Ev (fun k=>laws_FnCouplesCalmOfAll.l2 k t is true t (t.length:Int) 0) true):=by
 by_cases hin:t.all (inB 0 ((n:Int) - 1))=true∧risP t=true
 ·
  have hm:=upL_mem n t 0 (fun x hx=>by
   have:=List.all_eq_true.1 hin.1 x hx
   simp only[inB,Bool.and_eq_true,decide_eq_true_eq] at this
   omega) (risP_pw hin.2)
  have g:=List.all_eq_true.1 hT t hm
  unfold chkG at g
  split at g
  ·
   rename_i is h3
   simp only[Bool.and_eq_true,decide_eq_true_eq] at g
   exact ⟨is,true,ev_up (f:=fun k=>impl_IsCalmGroup.f k a t) (fun k=>impl_IsCalmGroup.mono _ _ _) h3,ev_up (f:=fun k=>spec_IsCalmGroup.f k a t) (fun k=>spec_IsCalmGroup.mono _ _ _) g.1,fun _=>ev_up (f:=fun k=>laws_FnCouplesCalmOfAll.l2 k t is true t (t.length:Int) 0) (fun k=>l2_mono _ _ _ _ _ _ _) g.2⟩
  ·
   cases g
 ·
  refine ⟨false,false,?_,?_,fun h=>(by cases h)⟩
  ·
   have hr:=rises_ev t (by omega)
   unfold impl_IsCalmGroup.f
   simp only[in_eq,ha,Option.bind_some,if_true,h2,h1,areIn_eq]
   cases a1:inB 0 (n:Int) (t.length:Int) with
   | false=>simp only[Bool.false_and,Bool.false_eq_true,if_false];exact Ev.now _
   | true =>
    cases a2:t.all (inB 0 ((n:Int) - 1)) with
    | false=>simp only[Bool.and_false,Bool.false_eq_true,if_false];exact Ev.now _
    | true =>
     cases a3:risP t with
     | true=>exact absurd ⟨a2,a3⟩ hin
     | false =>
      rw[a3] at hr
      simp only[Bool.and_self,if_true]
      refine Ev.bind hr ?_
      simp only[Bool.false_eq_true,if_false]
      exact Ev.now _
  ·
   have hr2:=l1Rising_ev t 0 ((n:Int) - 1) (by omega)
   have hf:(t.all (inB 0 ((n:Int) - 1)) && risP t)=false:=by
    cases a2:t.all (inB 0 ((n:Int) - 1)) <;> cases a3:risP t <;> first|rfl|exact absurd ⟨a2,a3⟩ hin
   rw[hf] at hr2
   unfold spec_IsCalmGroup.f
   simp only[l1In_eq,ha,Option.bind_some,if_true,h2,h1]
   refine Ev.bind hr2 ?_
   refine Ev.step (fun k=>spec_IsCalmGroup.j0.eq_2 ..) ?_
   simp only[Bool.not_false,if_true]
   exact Ev.now _
theorem grp_all (a:Int) (t:List Int) (ht:t.length≤1048576):∃ is five,Ev (fun k=>impl_IsCalmGroup.f k a t) (is,five)∧Ev (fun k=>spec_IsCalmGroup.f k a t) (is,five)∧(five=true→Ev (fun k=>laws_FnCouplesCalmOfAll.l2 k t is true t (t.length:Int) 0) true):=by
 cases ha:inB 1 4 a with
 | false =>
  refine ⟨false,false,?_,?_,fun h=>(by cases h)⟩
  ·
   unfold impl_IsCalmGroup.f
   simp only[in_eq,ha,Option.bind_some,Bool.false_eq_true,if_false]
   exact Ev.now _
  ·
   unfold spec_IsCalmGroup.f
   simp only[l1In_eq,ha,Option.bind_some,Bool.false_eq_true,if_false]
   refine Ev.step (fun k=>spec_IsCalmGroup.j0.eq_2 ..) ?_
   simp only[if_true]
   exact Ev.now _
 | true =>
  have hr:1≤a∧a≤4:=by
   simp only[inB,Bool.and_eq_true,decide_eq_true_eq] at ha
   omega
  rcases cases4 hr.1 hr.2 with rfl|rfl|rfl|rfl
  ·
   exact grp_one (n:=2) ha (by decide +kernel) (by decide +kernel) cgT1 t ht
  ·
   exact grp_one (n:=4) ha (by decide +kernel) (by decide +kernel) cgT2 t ht
  ·
   exact grp_one (n:=6) ha (by decide +kernel) (by decide +kernel) cgT3 t ht
  ·
   exact grp_one (n:=8) ha (by decide +kernel) (by decide +kernel) cgT4 t ht
end Go.Proofs.Ytabhhkiipilghaa.Pure

namespace Go.Proofs.Ytabhhkiipilghaa.Pure
open Go.RowKit Go.Proofs.Ytabhhkiipilghaa.C2 Go.Proofs.Ytabhhkiipilghaa.H Go.Proofs.YtabhhkiipilghaaW.PrintWords Go.Proofs.YtabhhkiipilghaaW.PrintLast Go.Proofs.YtabhhkiipilghaaW.PrintMore
set_option linter.unusedVariables false
set_option linter.unusedSimpArgs false
theorem co_sm {cn m:Int} {n:Nat} (hg:goodU cn m=true) (hn:wrap64 (wrap64 (2 * cn) - 1)=(n:Int) - 1) (hT:(allB n).all (fun ov=>chkM n cn m ov false && chkM n cn m ov true)=true) {ov:List Bool} {tr:Bool} (hl:ov.length=n):∃ rows ok calm one,CoFacts cn m ov tr rows ok calm one:=by
 have h:=List.all_eq_true.1 hT ov (allB_mem n ov hl)
 simp only[Bool.and_eq_true] at h
 cases tr with
 | false=>exact co_tab hg hn h.1
 | true=>exact co_tab hg hn h.2
theorem co_four {m:Int} (hg:goodU 4 m=true) (h0:(allB 6).all (fun ov=>chkM 8 4 m (false :: false :: ov) false && chkM 8 4 m (false :: false :: ov) true)=true) (h1:(allB 6).all (fun ov=>chkM 8 4 m (false :: true :: ov) false && chkM 8 4 m (false :: true :: ov) true)=true) (h2:(allB 6).all (fun ov=>chkM 8 4 m (true :: false :: ov) false && chkM 8 4 m (true :: false :: ov) true)=true) (h3:(allB 6).all (fun ov=>chkM 8 4 m (true :: true :: ov) false && chkM 8 4 m (true :: true :: ov) true)=true) {ov:List Bool} {tr:Bool} (hl:ov.length=8):∃ rows ok calm one,CoFacts 4 m ov tr rows ok calm one:=by
 match ov,hl with
 | a :: b :: ov,hl =>
  have hm:=allB_mem 6 ov (by simpa using hl)
  have g:chkM 8 4 m (a :: b :: ov) tr=true:=by
   cases a <;> cases b
   ·
    have h:=List.all_eq_true.1 h0 ov hm;simp only[Bool.and_eq_true] at h;cases tr;exact h.1;exact h.2
   ·
    have h:=List.all_eq_true.1 h1 ov hm;simp only[Bool.and_eq_true] at h;cases tr;exact h.1;exact h.2
   ·
    have h:=List.all_eq_true.1 h2 ov hm;simp only[Bool.and_eq_true] at h;cases tr;exact h.1;exact h.2
   ·
    have h:=List.all_eq_true.1 h3 ov hm;simp only[Bool.and_eq_true] at h;cases tr;exact h.1;exact h.2
  exact co_tab hg (n:=8) (by decide +kernel) g
theorem co_all (cn m:Int) (ov:List Bool) (tr:Bool):∃ rows ok calm one,CoFacts cn m ov tr rows ok calm one:=by
 by_cases hg:goodU cn m=true∧(ov.length:Int)=wrap64 (2 * cn)
 ·
  obtain ⟨hg,hl⟩:=hg
  obtain ⟨⟨h0,h1⟩,h2,h3⟩:=goodU_in hg
  rw[wr_id (by omega) (by omega)] at hl
  rcases cases4 h0 h1 with rfl|rfl|rfl|rfl <;> rcases cases4 h2 h3 with rfl|rfl|rfl|rfl
  ·
   exact co_sm hg (n:=2) (by decide +kernel) mvT11 (by omega)
  ·
   exact co_sm hg (n:=2) (by decide +kernel) mvT12 (by omega)
  ·
   exact co_sm hg (n:=2) (by decide +kernel) mvT13 (by omega)
  ·
   exact co_sm hg (n:=2) (by decide +kernel) mvT14 (by omega)
  ·
   exact co_sm hg (n:=4) (by decide +kernel) mvT21 (by omega)
  ·
   exact co_sm hg (n:=4) (by decide +kernel) mvT22 (by omega)
  ·
   exact co_sm hg (n:=4) (by decide +kernel) mvT23 (by omega)
  ·
   exact co_sm hg (n:=4) (by decide +kernel) mvT24 (by omega)
  ·
   exact co_sm hg (n:=6) (by decide +kernel) mvT31 (by omega)
  ·
   exact co_sm hg (n:=6) (by decide +kernel) mvT32 (by omega)
  ·
   exact co_sm hg (n:=6) (by decide +kernel) mvT33 (by omega)
  ·
   exact co_sm hg (n:=6) (by decide +kernel) mvT34 (by omega)
  ·
   exact co_four hg mvT4100 mvT4101 mvT4110 mvT4111 (by omega)
  ·
   exact co_four hg mvT4200 mvT4201 mvT4210 mvT4211 (by omega)
  ·
   exact co_four hg mvT4300 mvT4301 mvT4310 mvT4311 (by omega)
  ·
   exact co_four hg mvT4400 mvT4401 mvT4410 mvT4411 (by omega)
 ·
  have e1:Ev (fun k=>spec_cuIs.f k cn m ov tr) false:=by
   unfold spec_cuIs.f
   rw[cuGood_eq]
   cases hg':goodU cn m with
   | false=>simp only[Option.bind_some,Bool.false_eq_true,if_false];exact Ev.now _
   | true =>
    simp only[Option.bind_some,if_true,if_neg (show ¬ (ov.length:Int)=wrap64 (2 * cn) from fun q=>hg ⟨hg',q⟩)]
    exact Ev.now _
  have e2:Ev (fun k=>impl_Company_hasState.f k cn m ov tr) false:=by
   unfold impl_Company_hasState.f impl_isStateOf.f
   rw[isCompany_eq]
   cases hg':goodU cn m with
   | false=>simp only[Option.bind_some,Bool.false_eq_true,if_false];exact Ev.now _
   | true =>
    simp only[Option.bind_some,if_true,if_neg (show ¬ (ov.length:Int)=wrap64 (2 * cn) from fun q=>hg ⟨hg',q⟩)]
    exact Ev.now _
  exact ⟨[],false,false,false,co_off e1 e2⟩
theorem j9_ev {l6:List Int} {is five:Bool} (h:five=true→Ev (fun k=>laws_FnCouplesCalmOfAll.l2 k l6 is true l6 (l6.length:Int) 0) true):Ev (fun k=>laws_FnCouplesCalmOfAll.j9 k l6 is five) true:=by
 refine Ev.step (fun k=>laws_FnCouplesCalmOfAll.j9.eq_2 ..) ?_
 cases five with
 | true=>simp only[if_true];exact h rfl
 | false=>simp only[Bool.false_eq_true,if_false];exact Ev.now _
theorem l1_ev (l4 l6:List Int) (is five:Bool) (o0 o:List Bool) (tr b:Bool) (hne:b≠tr) (hj:Ev (fun k=>laws_FnCouplesCalmOfAll.j9 k l6 is five) true):∀ (r pre:List (List Int)) (found:Bool),(pre ++ r).length≤1048576→(∀ x ∈ r,x.length≤1048576)→(found=true∨l4 ∈ r)→Ev (fun k=>laws_FnCouplesCalmOfAll.l1 k l4 l6 is five true found (pre ++ r) ((pre ++ r).length:Int) (pre.length:Int) o0 tr o b) true:=by
 have hb:(b == tr)=false:=by simpa using hne
 intro r
 induction r with
 | nil =>
  intro pre found hl hx hf
  obtain rfl:found=true:=hf.elim id (fun h=>by cases h)
  refine Ev.step (fun k=>laws_FnCouplesCalmOfAll.l1.eq_2 ..) ?_
  simp only[if_neg (nlt_end pre),if_true,hb,Bool.false_eq_true,if_false]
  exact hj
 | cons x r ih =>
  intro pre found hl hx hf
  have hrd:rd_L1 (pre ++ x :: r) (pre.length:Int)=x:=rdOf_mid [] pre x r
  refine Ev.step (fun k=>laws_FnCouplesCalmOfAll.l1.eq_2 ..) ?_
  simp only[if_pos (lt_mid pre x r),if_pos (zle pre.length),hrd]
  rw[wr_mid pre x r (by omega),app_mid pre x r]
  have ih':=fun found'=>ih (pre ++ [x]) found' (by simpa using hl) (fun y hy=>hx y (by simp[hy]))
  cases found with
  | true=>simp only[if_true];exact ih' true (.inl rfl)
  | false =>
   simp only[Bool.false_eq_true,if_false]
   refine Ev.bind (hSame_ev x l4 (hx x (by simp))) ?_
   refine ih' _ ?_
   rcases hf with h|h
   ·
    cases h
   ·
    rcases List.mem_cons.1 h with rfl|h
    ·
     exact .inl (by simp)
    ·
     exact .inr h
theorem l0_ev (cn m:Int) (ov:List Bool) (tr:Bool) (rows:List (List Int)) (hrl:rows.length≤1048576) (l4:List Int) (a5:Int) (l6:List Int) (a2_0 a2_1:Int) (l3:List Bool) (a3:Bool) (hj:Ev (fun k=>laws_FnCouplesCalmOfAll.j5 k l4 a5 l6 a2_0 a2_1 l3 a3) true):∀ (r pre:List (List Int)) (p:Option (List Int)),rows=pre ++ r→p=pre.getLast? → rowsOk cn m ov tr p r=true→Ev (fun k=>laws_FnCouplesCalmOfAll.l0 k l4 a5 l6 rows rows (rows.length:Int) (pre.length:Int) cn m ov tr a2_0 a2_1 l3 a3) true:=by
 intro r
 induction r with
 | nil =>
  intro pre p e hp hr
  refine Ev.step (fun k=>laws_FnCouplesCalmOfAll.l0.eq_2 ..) ?_
  simp only[if_neg (show ¬ (pre.length:Int) < (rows.length:Int) by rw[e];simp)]
  exact hj
 | cons t r ih =>
  intro pre p e hp hr
  simp only[rowsOk,Bool.and_eq_true] at hr
  obtain ⟨h1,h2⟩:=hr
  have hlt:(pre.length:Int) < (rows.length:Int):=by rw[e];exact lt_mid pre t r
  have hrd:rd_L1 rows (pre.length:Int)=t:=by rw[e];exact rdOf_mid [] pre t r
  have hw:wrap64 ((pre.length:Int)+1)=((pre ++ [t]).length:Int):=by rw[wr_id (by omega) (by omega)];simp
  have hnext:=ih (pre ++ [t]) (some t) (by rw[e];simp) (by simp) h2
  unfold rowOk at h1
  split at h1
  ·
   rename_i o b h7
   simp only[Bool.and_eq_true,decide_eq_true_eq] at h1
   obtain ⟨⟨⟨⟨⟨g1,g2⟩,g3⟩,g4⟩,g5⟩,g6⟩:=h1
   refine Ev.step (fun k=>laws_FnCouplesCalmOfAll.l0.eq_2 ..) ?_
   simp only[if_pos hlt,if_pos (zle pre.length),hrd,hw]
   refine Ev.bind (ev_up (f:=fun k=>impl_RowBoat.f k cn m ov tr t) (fun k=>impl_RowBoat.mono _ _ _ _ _ _) h7) ?_
   dsimp only
   refine Ev.bind (ev_up (f:=fun k=>impl_IsCalm.f k cn m o b) (fun k=>impl_IsCalm.mono _ _ _ _ _) g1) ?_
   refine Ev.bind (ev_up (f:=fun k=>impl_IsCalmGroup.f k cn t) (fun k=>impl_IsCalmGroup.mono _ _ _) g2) ?_
   refine Ev.bind (ev_up (f:=fun k=>impl_RowBoat.f k cn m o b t) (fun k=>impl_RowBoat.mono _ _ _ _ _ _) g3) ?_
   simp only[if_true]
   refine Ev.bind (ev_up (f:=fun k=>laws_hState.f k ov tr ov tr) (fun k=>laws_hState.mono _ _ _ _ _) g4) ?_
   simp only[if_true,if_neg (show ¬ (t.length:Int) < 1 by omega),if_neg (show ¬ (t.length:Int) > m by omega)]
   by_cases hp0:pre=[]
   ·
    subst hp0
    simp only[if_neg (show ¬ (([]:List (List Int)).length:Int) > 0 by simp)]
    exact hnext
   ·
    obtain ⟨q,y,rfl⟩:∃ q y,pre=q ++ [y]:=⟨pre.dropLast,pre.getLast hp0,(List.dropLast_concat_getLast _).symm⟩
    have hpy:p=some y:=by rw[hp];simp
    rw[hpy] at g6
    simp only[decide_eq_true_eq] at g6
    have hlen:(q ++ [y]).length=q.length+1:=by simp
    have hw2:wrap64 (((q ++ [y]).length:Int) - 1)=(q.length:Int):=by rw[wr_id (by omega) (by omega)];omega
    have hrd2:rd_L1 rows (q.length:Int)=y:=by rw[e,List.append_assoc];exact rdOf_mid [] q y (t :: r)
    simp only[if_pos (show ((q ++ [y]).length:Int) > 0 by omega),hw2,if_pos (zle q.length),if_pos (show (q.length:Int) < (rows.length:Int) by omega),hrd2]
    refine Ev.bind (ev_up (f:=fun k=>laws_hBefore.f k y t) (fun k=>laws_hBefore.mono _ _ _) g6) ?_
    simp only[if_true]
    exact hnext
  ·
   cases h1
theorem n2_sizes {l:List (List Int)} (h:n2 l≤1000000):l.length≤1048576∧∀ x ∈ l,x.length≤1048576:=by
 have h1:=szSum_bound List.length l (by simpa only [n2] using h)
 exact ⟨by omega,fun x hx=>by have:=h1.2 x hx;omega⟩
theorem j5_ev (l4:List Int) (h4:l4.length≤10000) (a5:Int) (l6:List Int) (h6:l6.length≤10000) (cn m:Int) (ov:List Bool) (tr:Bool):Ev (fun k=>laws_FnCouplesCalmOfAll.j5 k l4 a5 l6 cn m ov tr) true:=by
 obtain ⟨rows,ok,calm,one,F⟩:=co_all cn m ov tr
 obtain ⟨o,b,three,t1,t2,t3,t4⟩:=F.trip l4 (by omega)
 obtain ⟨is,five,g1,g2,g3⟩:=grp_all a5 l6 (by omega)
 have hj:=j9_ev g3
 refine Ev.step (fun k=>laws_FnCouplesCalmOfAll.j5.eq_2 ..) ?_
 refine Ev.bind t1 (Ev.bind t2 (Ev.bind g1 (Ev.bind g2 ?_)))
 simp only[bne_self_eq_false,Bool.false_eq_true,if_false]
 refine Ev.bind t3 ?_
 simp only[if_true]
 refine Ev.step (fun k=>laws_FnCouplesCalmOfAll.j6.eq_2 ..) ?_
 simp only[Bool.false_eq_true,if_false]
 refine Ev.step (fun k=>laws_FnCouplesCalmOfAll.j7.eq_2 ..) ?_
 cases three with
 | false=>simp only[Bool.false_eq_true,if_false];exact hj
 | true =>
  obtain ⟨q1,q2,q3⟩:=t4 rfl
  simp only[if_true]
  refine Ev.bind F.ri ?_
  rw[q1]
  have hs:=n2_sizes F.sz
  exact l1_ev l4 l6 is five ov o tr b q3 hj rows [] false (by simpa using hs.1) hs.2 (.inr q2)
theorem FnCouplesCalmOfAll_core (cn m:Int) (ov:List Bool) (tr:Bool) (dn dm:Int) (ov2:List Bool) (tr2:Bool) (l4:List Int) (a5:Int) (l6:List Int):Ev (fun k=>laws_FnCouplesCalmOfAll.f k cn m ov tr dn dm ov2 tr2 l4 a5 l6) true:=by
 have hj1:l4.length≤10000→l6.length≤10000→Ev (fun k=>laws_FnCouplesCalmOfAll.j1 k l4 a5 l6 cn m ov tr dn dm ov2 tr2) true:=by
  intro h4 h6
  have hj5:=j5_ev l4 h4 a5 l6 h6 dn dm ov2 tr2
  obtain ⟨rows,ok,calm,one,F⟩:=co_all cn m ov tr
  have hs:=n2_sizes F.sz
  have hj2:Ev (fun k=>laws_FnCouplesCalmOfAll.j2 k l4 a5 l6 rows ok false cn m ov tr dn dm ov2 tr2) true:=by
   refine Ev.step (fun k=>laws_FnCouplesCalmOfAll.j2.eq_2 ..) ?_
   simp only[Bool.false_eq_true,if_false]
   refine Ev.step (fun k=>laws_FnCouplesCalmOfAll.j3.eq_2 ..) ?_
   cases ok with
   | false=>simp only[Bool.false_eq_true,if_false];exact hj5
   | true =>
    simp only[if_true]
    exact l0_ev cn m ov tr rows hs.1 l4 a5 l6 dn dm ov2 tr2 hj5 rows [] none rfl rfl (F.row rfl)
  have hsc:spec_IsCompany.f cn m=some (goodU cn m):=by
   unfold spec_IsCompany.f
   rw[cuGood_eq]
   rfl
  refine Ev.step (fun k=>laws_FnCouplesCalmOfAll.j1.eq_2 ..) ?_
  refine Ev.bind F.ri (Ev.bind F.rs (Ev.bind F.ci (Ev.bind F.cs ?_)))
  simp only[bne_self_eq_false,Bool.false_eq_true,if_false]
  refine Ev.bind (hRows_self rows hs.1 hs.2) ?_
  simp only[if_true]
  have heq:=F.eq
  cases one with
  | true =>
   rw[Bool.true_and] at heq
   subst heq
   simp only[if_true,bne_self_eq_false,Bool.false_eq_true,if_false,isCompany_eq,hsc,Option.bind_some,F.good rfl]
   exact hj2
  | false =>
   rw[Bool.false_and] at heq
   subst heq
   simp only[Bool.false_eq_true,if_false,bne_self_eq_false,isCompany_eq,hsc,Option.bind_some]
   exact hj2
 unfold laws_FnCouplesCalmOfAll.f
 by_cases h4:(l4.length:Int) > 10000
 ·
  simp only[if_pos h4]
  refine Ev.step (fun k=>laws_FnCouplesCalmOfAll.j0.eq_2 ..) ?_
  simp only[if_true]
  exact Ev.now _
 ·
  simp only[if_neg h4]
  refine Ev.step (fun k=>laws_FnCouplesCalmOfAll.j0.eq_2 ..) ?_
  by_cases h6:(l6.length:Int) > 10000
  ·
   simp only[decide_eq_true h6,if_true]
   exact Ev.now _
  ·
   simp only[decide_eq_false h6,Bool.false_eq_true,if_false]
   exact hj1 (by omega) (by omega)
theorem FnCouplesCalmOfAll_pure:∀ (a0_0 a0_1:Int) (l1_0:List Bool) (a1_1:Bool) (a2_0 a2_1:Int) (l3_0:List Bool) (a3_1:Bool) (l4:List Int) (a5:Int) (l6:List Int),goodI a0_0→goodI a0_1→goodL (fun _=>True) l1_0→goodI a2_0→goodI a2_1→goodL (fun _=>True) l3_0→goodL goodI l4→goodI a5→goodL goodI l6→∃ k,laws_FnCouplesCalmOfAll.f k a0_0 a0_1 l1_0 a1_1 a2_0 a2_1 l3_0 a3_1 l4 a5 l6=some true:=by
 intro a0_0 a0_1 l1_0 a1_1 a2_0 a2_1 l3_0 a3_1 l4 a5 l6 _ _ _ _ _ _ _ _ _
 exact Ev.rounds (FnCouplesCalmOfAll_core a0_0 a0_1 l1_0 a1_1 a2_0 a2_1 l3_0 a3_1 l4 a5 l6)
end Go.Proofs.Ytabhhkiipilghaa.Pure
