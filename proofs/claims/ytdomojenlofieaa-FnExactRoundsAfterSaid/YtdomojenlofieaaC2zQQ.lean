import Derived.Test.YtdomojenlofieaaC2zx0
import Derived.Test.YtdomojenlofieaaC2zH0
import Derived.Test.YtdomojenlofieaaC2zH1
import Derived.Test.YtdomojenlofieaaC2zx1
import Derived.Test.YtdomojenlofieaaC2zx11
import Derived.Test.YtdomojenlofieaaC2zx12
import Derived.Test.YtdomojenlofieaaC2zx13
import Derived.Test.YtdomojenlofieaaC2zx5
import Derived.Test.YtdomojenlofieaaC2zx6
import Derived.Test.YtdomojenlofieaaC2zx8
import Derived.Test.YtdomojenlofieaaC2zx2
import Derived.Test.YtdomojenlofieaaC2zx10
import Derived.Test.YtdomojenlofieaaC2zx3
import Derived.Test.YtdomojenlofieaaC2zx9
import Derived.Test.YtdomojenlofieaaC2zx4
import Derived.Test.YtdomojenlofieaaC2zx7
import Derived.Test.YtdomojenlofieaaC2zH2
import Derived.Test.YtdomojenlofieaaC2zS
namespace Go.Proofs.Ytdomojenlofieaa.Pure
open Go.RowKit Go.Proofs.Ytdomojenlofieaa.C2 Go.Proofs.Ytdomojenlofieaa.H Go.Proofs.YtdomojenlofieaaW.PrintWords Go.Proofs.YtdomojenlofieaaW.PrintLast Go.Proofs.YtdomojenlofieaaW.PrintMore
set_option linter.unusedVariables false
set_option linter.unusedSimpArgs false
def szSum {α:Type} (f:α→Nat):List α→Nat
 | []=>0
 | x :: l=>f x+szSum f l
def n2 (l:List (List Int)):Nat:=l.length+szSum List.length l
def n3 (l:List (List (List Int))):Nat:=l.length+szSum n2 l
theorem szSum_bound {α:Type} (f:α→Nat) (l:List α) {B:Nat} (h:l.length+szSum f l≤B):l.length≤B∧∀ x ∈ l,f x≤B:=by
 refine ⟨by omega,?_⟩
 have h2:szSum f l≤B:=by omega
 clear h
 induction l with
 | nil=>intro x hx;cases hx
 | cons y l ih =>
  simp only[szSum] at h2
  intro x hx
  rcases List.mem_cons.1 hx with rfl|hx
  ·
   omega
  ·
   exact ih (by omega) x hx
theorem mkS_bound (l:List Int):∀ a:Int,0≤a→a+l.length≤1000000000000000→a≤(mkS l a).1∧(mkS l a).1≤a+l.length:=by
 induction l with
 | nil=>intro a _ _;simp[mkS]
 | cons x l ih =>
  intro a h0 h1
  simp only[List.length_cons] at h1
  simp only[mkS]
  rw[wr_id (by omega) (by omega)]
  have:=ih (a+1) (by omega) (by omega)
  simp only[List.length_cons]
  omega
theorem mkB_bound (l:List Bool):∀ a:Int,0≤a→a+l.length≤1000000000000000→a≤(mkB l a).1∧(mkB l a).1≤a+l.length:=by
 induction l with
 | nil=>intro a _ _;simp[mkB]
 | cons x l ih =>
  intro a h0 h1
  simp only[List.length_cons] at h1
  simp only[mkB]
  rw[wr_id (by omega) (by omega)]
  have:=ih (a+1) (by omega) (by omega)
  simp only[List.length_cons]
  omega
theorem mkB_len (l:List Bool):∀ a:Int,(mkB l a).2.length=l.length:=by
 induction l with
 | nil=>intro a;rfl
 | cons x l ih=>intro a;simp only[mkB,List.length_cons];rw[ih]
theorem mkSS_bound' (l:List (List Int)):∀ a:Int,0≤a→a+szSum List.length l≤1000000000000000→a≤(mkSS l a).1∧(mkSS l a).1≤a+szSum List.length l:=by
 induction l with
 | nil=>intro a _ _;simp[mkSS,szSum]
 | cons x l ih =>
  intro a h0 h1
  simp only[szSum] at h1
  have h2:=mkS_bound x a h0 (by omega)
  have:=ih (mkS x a).1 (by omega) (by omega)
  simp only[mkSS,szSum]
  omega
theorem mkSS_bound (l:List (List Int)) (a:Int) (h0:0≤a) (ha:a+n2 l≤1000000000000000):a≤(mkSS l a).1∧(mkSS l a).1≤a+n2 l:=by
 simp only[n2] at ha ⊢
 have:=mkSS_bound' l a h0 (by omega)
 omega
end Go.Proofs.Ytdomojenlofieaa.Pure

namespace Go.Proofs.Ytdomojenlofieaa.Pure
open Go.RowKit Go.Proofs.Ytdomojenlofieaa.C2 Go.Proofs.Ytdomojenlofieaa.H Go.Proofs.YtdomojenlofieaaW.PrintWords Go.Proofs.YtdomojenlofieaaW.PrintLast Go.Proofs.YtdomojenlofieaaW.PrintMore
set_option linter.unusedVariables false
set_option linter.unusedSimpArgs false
def goodIntS (l:List Int):Prop:=l.length≤9223372036854775807
theorem szIntS_cases (l:List Int) (a:Int) (h0:0≤a) (ha:a≤1048576) (hg:goodIntS l):∃ t,laws_szIntS.f l a=some t∧(t < 0∨(0≤t∧t+(l.length:Int)≤a)):=by
 have hl:l.length≤9223372036854775807:=hg
 unfold laws_szIntS.f
 rw[wr_id (by omega) (by omega)]
 by_cases h:a - (l.length:Int) < 0
 ·
  exact ⟨-1,by rw[if_pos h], .inl (by omega)⟩
 ·
  exact ⟨_,by rw[if_neg h], .inr ⟨by omega,by omega⟩⟩
theorem toIntS_loop (x0:List Int):∀ (r pre suf:List Int),x0=pre ++ r→suf.length=r.length→x0.length≤9223372036854775807→Ev (fun k=>laws_toIntS.l0 k x0 (pre ++ suf) (pre.length:Int)) x0:=by
 intro r
 induction r with
 | nil =>
  intro pre suf e hs hl
  obtain rfl:suf=[]:=List.eq_nil_of_length_eq_zero hs
  subst e
  refine Ev.step (f:=fun _=>some _) (fun k=>?_) (Ev.now _)
  simp only[laws_toIntS.l0]
  rw[if_neg (nlt_end pre)]
 | cons x r ih =>
  intro pre suf e hs hl
  match suf,hs with
  | y :: suf,hs =>
   subst e
   refine Ev.step (fun k=>?_) (ev_eq (ih (pre ++ [x]) suf (by simp) (by simpa using hs) hl) rfl)
   simp only[laws_toIntS.l0]
   rw[if_pos (lt_mid pre x r),if_pos (zle _),if_pos (lt_mid pre y suf),rd_mid,set_mid,wr_mid pre x r hl,app_mid pre x suf]
theorem toIntS_ev (l:List Int) (hl:l.length≤1048576):Ev (fun k=>laws_toIntS.f k l) l:=by
 unfold laws_toIntS.f
 simp only[if_pos (zle l.length),if_pos (show ((l.length:Int)).toNat≤35184372088832 by omega)]
 exact toIntS_loop l l [] _ rfl (by simp) (by omega)
theorem markIntS_loop:∀ (r pre:List Int) (a:Int),(pre ++ r).length≤9223372036854775807→Ev (fun k=>laws_markIntS.l0 k (pre ++ r) a (pre.length:Int)) ((mkS r a).1,pre ++ (mkS r a).2):=by
 intro r
 induction r with
 | nil =>
  intro pre a hl
  refine Ev.step (f:=fun _=>some _) (fun k=>?_) (Ev.now _)
  simp only[laws_markIntS.l0]
  rw[if_neg (nlt_end pre)]
  rfl
 | cons x r ih =>
  intro pre a hl
  refine Ev.step (fun k=>?_) (ev_eq (ih (pre ++ [a]) (wrap64 (a+1)) (by simpa using hl)) (by simp[mkS]))
  simp only[laws_markIntS.l0]
  rw[if_pos (lt_mid pre x r),if_pos (zle _),set_mid,wr_mid pre x r hl,app_mid pre (a) r]
  simp
theorem markIntS_ev (l:List Int) (a:Int) (hl:l.length≤1048576):Ev (fun k=>laws_markIntS.f k l a) (mkS l a):=markIntS_loop l [] a (by simp;omega)
theorem eqIntS_loop:∀ (r s pre qre:List Int),pre.length=qre.length→r.length=s.length→(pre ++ r).length≤9223372036854775807→Ev (fun k=>laws_eqIntS.l0 k (pre ++ r) (qre ++ s) (pre.length:Int)) (decide (r=s)):=by
 intro r
 induction r with
 | nil =>
  intro s pre qre hp hs hl
  obtain rfl:s=[]:=List.eq_nil_of_length_eq_zero hs.symm
  refine Ev.step (f:=fun _=>some _) (fun k=>?_) (Ev.now _)
  simp only[laws_eqIntS.l0]
  rw[if_neg (nlt_end pre)]
  rfl
 | cons x r ih =>
  intro s pre qre hp hs hl
  match s,hs with
  | y :: s,hs =>
   by_cases e:x=y
   ·
    subst e
    refine Ev.step (fun k=>?_) (ev_eq (ih s (pre ++ [x]) (qre ++ [x]) (by simp[hp]) (by simpa using hs) (by simpa using hl)) (by simp))
    simp only[laws_eqIntS.l0]
    rw[if_pos (lt_mid pre x r),if_pos (zle _),if_pos (by rw[hp];exact lt_mid qre x s),rd_mid,hp,rd_mid,if_pos rfl,← hp,wr_mid pre x r hl,app_mid pre x r,app_mid qre x s]
   ·
    refine Ev.step (f:=fun _=>some _) (fun k=>?_) (Ev.now _)
    simp only[laws_eqIntS.l0]
    rw[if_pos (lt_mid pre x r),if_pos (zle _),if_pos (by rw[hp];exact lt_mid qre y s),rd_mid,hp,rd_mid,if_neg e]
    simp[e]
theorem eqIntS_ev (l s:List Int) (hl:l.length≤1048576):Ev (fun k=>laws_eqIntS.f k l s) (decide (l=s)):=by
 unfold laws_eqIntS.f
 by_cases h:l.length=s.length
 ·
  simp only[if_pos (show (l.length:Int)=(s.length:Int) by omega)]
  exact eqIntS_loop l s [] [] rfl h (by simp;omega)
 ·
  simp only[if_neg (show ¬ (l.length:Int)=(s.length:Int) by omega)]
  refine ev_eq (Ev.now _) ?_
  have:l≠s:=fun e=>h (by rw[e])
  simp[this]
def goodBoolS (l:List Bool):Prop:=l.length≤9223372036854775807
theorem szBoolS_cases (l:List Bool) (a:Int) (h0:0≤a) (ha:a≤1048576) (hg:goodBoolS l):∃ t,laws_szBoolS.f l a=some t∧(t < 0∨(0≤t∧t+(l.length:Int)≤a)):=by
 have hl:l.length≤9223372036854775807:=hg
 unfold laws_szBoolS.f
 rw[wr_id (by omega) (by omega)]
 by_cases h:a - (l.length:Int) < 0
 ·
  exact ⟨-1,by rw[if_pos h], .inl (by omega)⟩
 ·
  exact ⟨_,by rw[if_neg h], .inr ⟨by omega,by omega⟩⟩
theorem toBoolS_loop (x0:List Bool):∀ (r pre suf:List Bool),x0=pre ++ r→suf.length=r.length→x0.length≤9223372036854775807→Ev (fun k=>laws_toBoolS.l0 k x0 (pre ++ suf) (pre.length:Int)) x0:=by
 intro r
 induction r with
 | nil =>
  intro pre suf e hs hl
  obtain rfl:suf=[]:=List.eq_nil_of_length_eq_zero hs
  subst e
  refine Ev.step (f:=fun _=>some _) (fun k=>?_) (Ev.now _)
  simp only[laws_toBoolS.l0]
  rw[if_neg (nlt_end pre)]
 | cons x r ih =>
  intro pre suf e hs hl
  match suf,hs with
  | y :: suf,hs =>
   subst e
   refine Ev.step (fun k=>?_) (ev_eq (ih (pre ++ [x]) suf (by simp) (by simpa using hs) hl) rfl)
   simp only[laws_toBoolS.l0]
   rw[if_pos (lt_mid pre x r),if_pos (zle _),if_pos (lt_mid pre y suf),rdOf_mid,set_mid,wr_mid pre x r hl,app_mid pre x suf]
theorem toBoolS_ev (l:List Bool) (hl:l.length≤1048576):Ev (fun k=>laws_toBoolS.f k l) l:=by
 unfold laws_toBoolS.f
 simp only[if_pos (zle l.length),if_pos (show ((l.length:Int)).toNat≤281474976710656 by omega)]
 exact toBoolS_loop l l [] _ rfl (by simp) (by omega)
theorem markBoolS_loop:∀ (r pre:List Bool) (a:Int),(pre ++ r).length≤9223372036854775807→Ev (fun k=>laws_markBoolS.l0 k (pre ++ r) a (pre.length:Int)) ((mkB r a).1,pre ++ (mkB r a).2):=by
 intro r
 induction r with
 | nil =>
  intro pre a hl
  refine Ev.step (f:=fun _=>some _) (fun k=>?_) (Ev.now _)
  simp only[laws_markBoolS.l0]
  rw[if_neg (nlt_end pre)]
  rfl
 | cons x r ih =>
  intro pre a hl
  refine Ev.step (fun k=>?_) (ev_eq (ih (pre ++ [Int.tmod a 3 == 0]) (wrap64 (a+1)) (by simpa using hl)) (by simp[mkB]))
  simp only[laws_markBoolS.l0]
  rw[if_pos (lt_mid pre x r),if_pos (zle _),set_mid,wr_mid pre x r hl,app_mid pre (Int.tmod a 3 == 0) r]
  simp
theorem markBoolS_ev (l:List Bool) (a:Int) (hl:l.length≤1048576):Ev (fun k=>laws_markBoolS.f k l a) (mkB l a):=markBoolS_loop l [] a (by simp;omega)
theorem eqBoolS_loop:∀ (r s pre qre:List Bool),pre.length=qre.length→r.length=s.length→(pre ++ r).length≤9223372036854775807→Ev (fun k=>laws_eqBoolS.l0 k (pre ++ r) (qre ++ s) (pre.length:Int)) (decide (r=s)):=by
 intro r
 induction r with
 | nil =>
  intro s pre qre hp hs hl
  obtain rfl:s=[]:=List.eq_nil_of_length_eq_zero hs.symm
  refine Ev.step (f:=fun _=>some _) (fun k=>?_) (Ev.now _)
  simp only[laws_eqBoolS.l0]
  rw[if_neg (nlt_end pre)]
  rfl
 | cons x r ih =>
  intro s pre qre hp hs hl
  match s,hs with
  | y :: s,hs =>
   by_cases e:x=y
   ·
    subst e
    refine Ev.step (fun k=>?_) (ev_eq (ih s (pre ++ [x]) (qre ++ [x]) (by simp[hp]) (by simpa using hs) (by simpa using hl)) (by simp))
    simp only[laws_eqBoolS.l0]
    rw[if_pos (lt_mid pre x r),if_pos (zle _),if_pos (by rw[hp];exact lt_mid qre x s),rdOf_mid,hp,rdOf_mid,if_neg (by simp),← hp,wr_mid pre x r hl,app_mid pre x r,app_mid qre x s]
   ·
    refine Ev.step (f:=fun _=>some _) (fun k=>?_) (Ev.now _)
    simp only[laws_eqBoolS.l0]
    rw[if_pos (lt_mid pre x r),if_pos (zle _),if_pos (by rw[hp];exact lt_mid qre y s),rdOf_mid,hp,rdOf_mid,if_pos (by simpa using e)]
    simp[e]
theorem eqBoolS_ev (l s:List Bool) (hl:l.length≤1048576):Ev (fun k=>laws_eqBoolS.f k l s) (decide (l=s)):=by
 unfold laws_eqBoolS.f
 by_cases h:l.length=s.length
 ·
  simp only[if_pos (show (l.length:Int)=(s.length:Int) by omega)]
  exact eqBoolS_loop l s [] [] rfl h (by simp;omega)
 ·
  simp only[if_neg (show ¬ (l.length:Int)=(s.length:Int) by omega)]
  refine ev_eq (Ev.now _) ?_
  have:l≠s:=fun e=>h (by rw[e])
  simp[this]
theorem heldBoolS_loop:∀ (r pre:List Bool) (a:Int),(pre ++ r).length≤9223372036854775807→Ev (fun k=>laws_heldBoolS.l0 k (pre ++ (mkB r a).2) a (pre.length:Int)) (mkB r a).1:=by
 intro r
 induction r with
 | nil =>
  intro pre a hl
  refine Ev.step (f:=fun _=>some a) (fun k=>?_) (Ev.now _)
  show laws_heldBoolS.l0 (k+1) (pre ++ []) a (pre.length:Int)=some a
  simp only[laws_heldBoolS.l0]
  rw[if_neg (nlt_end pre)]
 | cons x r ih =>
  intro pre a hl
  refine Ev.step (fun k=>?_) (ev_eq (ih (pre ++ [Int.tmod a 3 == 0]) (wrap64 (a+1)) (by simpa using hl)) (by simp[mkB]))
  show laws_heldBoolS.l0 (k+1) (pre ++ (Int.tmod a 3 == 0) :: (mkB r (wrap64 (a+1))).2) a (pre.length:Int)=_
  simp only[laws_heldBoolS.l0]
  rw[if_pos (lt_mid pre (Int.tmod a 3 == 0) _),if_pos (zle _),rdOf_mid,if_neg (by simp),wr_mid pre (Int.tmod a 3 == 0) _ (by simp[mkB_len] at hl ⊢;omega),app_mid pre (Int.tmod a 3 == 0)]
theorem heldBoolS_ev (l:List Bool) (a:Int) (h0:0≤a) (ha:a+l.length≤1000000000000000) (hl:l.length≤1048576):Ev (fun k=>laws_heldBoolS.f k (mkB l a).2 a) (mkB l a).1:=heldBoolS_loop l [] a (by simp;omega)
theorem rd_L2_mid (pre:List (List Int)) (x:List Int) (r:List (List Int)):rd_L2 (pre ++ x :: r) (pre.length:Int)=x:=by simp[rd_L2]
theorem szIntSS_loop:∀ (r pre:List (List Int)) (a:Int),0≤a→a≤1048576→(pre ++ r).length≤9223372036854775807→(∀ x ∈ r,goodIntS x)→∃ t,Ev (fun k=>laws_szIntSS.l0 k (pre ++ r) a (pre.length:Int)) t∧(t < 0∨(0≤t∧t+(szSum List.length r:Int)≤a)):=by
 intro r
 induction r with
 | nil =>
  intro pre a h0 ha hl hg
  refine ⟨a,?_, .inr ⟨h0,by simp[szSum]⟩⟩
  refine Ev.step (f:=fun _=>some a) (fun k=>?_) (Ev.now _)
  simp only[laws_szIntSS.l0]
  rw[if_neg (nlt_end pre)]
 | cons x r ih =>
  intro pre a h0 ha hl hg
  obtain ⟨t,ht,hc⟩:=szIntS_cases x a h0 ha (hg x (by simp))
  have hE:Ev (fun k=>laws_szIntS.f x a) t:=ev_some ht
  rcases hc with hc|⟨hc0,hc1⟩
  ·
   refine ⟨-1,Ev.step (f:=fun k=>(laws_szIntS.f x a).bind fun t=>if t < 0 then some (-1) else laws_szIntSS.l0 k (pre ++ x :: r) t (wrap64 ((pre.length:Int)+1))) (fun k=>?_) (Ev.bind hE ?_), .inl (by omega)⟩
   ·
    simp only[laws_szIntSS.l0]
    rw[if_pos (lt_mid pre x r),if_pos (zle _),rd_L2_mid]
   ·
    simp only[if_pos hc]
    exact Ev.now _
  ·
   obtain ⟨t2,ht2,h2⟩:=ih (pre ++ [x]) t hc0 (by omega) (by simpa using hl) (fun y hy=>hg y (by simp[hy]))
   refine ⟨t2,Ev.step (f:=fun k=>(laws_szIntS.f x a).bind fun t=>if t < 0 then some (-1) else laws_szIntSS.l0 k (pre ++ x :: r) t (wrap64 ((pre.length:Int)+1))) (fun k=>?_) (Ev.bind hE ?_),?_⟩
   ·
    simp only[laws_szIntSS.l0]
    rw[if_pos (lt_mid pre x r),if_pos (zle _),rd_L2_mid]
   ·
    simp only[if_neg (show ¬ t < 0 by omega)]
    rw[wr_mid pre x r hl,app_mid pre x r]
    exact ht2
   ·
    rcases h2 with h2|⟨h2,h3⟩
    ·
     exact .inl h2
    ·
     exact .inr ⟨h2,by simp only[szSum];omega⟩
def goodIntSS (l:List (List Int)):Prop:=l.length≤9223372036854775807∧∀ x ∈ l,goodIntS x
theorem szIntSS_cases (l:List (List Int)) (a:Int) (h0:0≤a) (ha:a≤1048576) (hg:goodIntSS l):∃ t,Ev (fun k=>laws_szIntSS.f k l a) t∧(t < 0∨(0≤t∧t+(n2 l:Int)≤a)):=by
 have hl:=hg.1
 unfold laws_szIntSS.f
 rw[wr_id (by omega) (by omega)]
 by_cases h:a - (l.length:Int) < 0
 ·
  exact ⟨-1,by simp only[if_pos h];exact Ev.now _, .inl (by omega)⟩
 ·
  obtain ⟨t,ht,hc⟩:=szIntSS_loop l [] (a - l.length) (by omega) (by omega) hl hg.2
  refine ⟨t,by simp only[if_neg h];exact ht,?_⟩
  rcases hc with hc|⟨h1,h2⟩
  ·
   exact .inl hc
  ·
   exact .inr ⟨h1,by simp only[n2];omega⟩
theorem toIntSS_loop (x0:List (List Int)) (hx:∀ x ∈ x0,List.length x≤1048576):∀ (r pre suf:List (List Int)),x0=pre ++ r→suf.length=r.length→x0.length≤9223372036854775807→Ev (fun k=>laws_toIntSS.l0 k x0 (pre ++ suf) (pre.length:Int)) x0:=by
 intro r
 induction r with
 | nil =>
  intro pre suf e hs hl
  obtain rfl:suf=[]:=List.eq_nil_of_length_eq_zero hs
  subst e
  refine Ev.step (f:=fun _=>some _) (fun k=>?_) (Ev.now _)
  simp only[laws_toIntSS.l0]
  rw[if_neg (nlt_end pre)]
 | cons x r ih =>
  intro pre suf e hs hl
  match suf,hs with
  | y :: suf,hs =>
   subst e
   refine Ev.step (f:=fun k=>(laws_toIntS.f k x).bind fun t=>if (pre.length:Int) < ((pre ++ y :: suf).length:Int) then laws_toIntSS.l0 k (pre ++ x :: r) ((pre ++ y :: suf).set ((pre.length:Int)).toNat t) (wrap64 ((pre.length:Int)+1)) else none) (fun k=>?_) (Ev.bind (toIntS_ev x (hx x (by simp))) ?_)
   ·
    simp only[laws_toIntSS.l0]
    rw[if_pos (lt_mid pre x r),if_pos (zle _),rd_L2_mid]
   ·
    simp only[if_pos (lt_mid pre y suf)]
    rw[set_mid,wr_mid pre x r hl,app_mid pre x suf]
    exact ih (pre ++ [x]) suf (by simp) (by simpa using hs) hl
theorem toIntSS_ev (l:List (List Int)) (hl:n2 l≤1048576):Ev (fun k=>laws_toIntSS.f k l) l:=by
 have h1:=szSum_bound List.length l (by simpa only [n2] using hl)
 unfold laws_toIntSS.f
 simp only[if_pos (zle l.length),if_pos (show ((l.length:Int)).toNat≤11728124029610 by omega)]
 exact toIntSS_loop l h1.2 l [] _ rfl (by simp) (by omega)
theorem eqIntSS_loop:∀ (r s pre qre:List (List Int)),pre.length=qre.length→r.length=s.length→(pre ++ r).length≤9223372036854775807→(∀ x ∈ r,List.length x≤1048576)→Ev (fun k=>laws_eqIntSS.l0 k (pre ++ r) (qre ++ s) (pre.length:Int)) (decide (r=s)):=by
 intro r
 induction r with
 | nil =>
  intro s pre qre hp hs hl hx
  obtain rfl:s=[]:=List.eq_nil_of_length_eq_zero hs.symm
  refine Ev.step (f:=fun _=>some _) (fun k=>?_) (Ev.now _)
  simp only[laws_eqIntSS.l0]
  rw[if_neg (nlt_end pre)]
  rfl
 | cons x r ih =>
  intro s pre qre hp hs hl hx
  match s,hs with
  | y :: s,hs =>
   refine Ev.step (f:=fun k=>(laws_eqIntS.f k x y).bind fun t=>if t=true then laws_eqIntSS.l0 k (pre ++ x :: r) (qre ++ y :: s) (wrap64 ((pre.length:Int)+1)) else some false) (fun k=>?_) (Ev.bind (eqIntS_ev x y (hx x (by simp))) ?_)
   ·
    simp only[laws_eqIntSS.l0]
    rw[if_pos (lt_mid pre x r),if_pos (zle _),if_pos (by rw[hp];exact lt_mid qre y s),rd_L2_mid,hp,rd_L2_mid,← hp]
   ·
    by_cases e:x=y
    ·
     subst e
     simp only[decide_true,if_true]
     rw[wr_mid pre x r hl,app_mid pre x r,app_mid qre x s]
     exact ev_eq (ih s (pre ++ [x]) (qre ++ [x]) (by simp[hp]) (by simpa using hs) (by simpa using hl) (fun y hy=>hx y (by simp[hy]))) (by simp)
    ·
     simp only[decide_eq_false e,if_neg Bool.false_ne_true]
     exact ev_eq (Ev.now _) (by simp[e])
theorem eqIntSS_ev (l s:List (List Int)) (hl:n2 l≤1048576):Ev (fun k=>laws_eqIntSS.f k l s) (decide (l=s)):=by
 have h1:=szSum_bound List.length l (by simpa only [n2] using hl)
 unfold laws_eqIntSS.f
 by_cases h:l.length=s.length
 ·
  simp only[if_pos (show (l.length:Int)=(s.length:Int) by omega)]
  exact eqIntSS_loop l s [] [] rfl h (by simp;omega) h1.2
 ·
  simp only[if_neg (show ¬ (l.length:Int)=(s.length:Int) by omega)]
  refine ev_eq (Ev.now _) ?_
  have:l≠s:=fun e=>h (by rw[e])
  simp[this]
theorem rd_L3_mid (pre:List (List (List Int))) (x:List (List Int)) (r:List (List (List Int))):rd_L3 (pre ++ x :: r) (pre.length:Int)=x:=by simp[rd_L3]
theorem szIntSSS_loop:∀ (r pre:List (List (List Int))) (a:Int),0≤a→a≤1048576→(pre ++ r).length≤9223372036854775807→(∀ x ∈ r,goodIntSS x)→∃ t,Ev (fun k=>laws_szIntSSS.l0 k (pre ++ r) a (pre.length:Int)) t∧(t < 0∨(0≤t∧t+(szSum n2 r:Int)≤a)):=by
 intro r
 induction r with
 | nil =>
  intro pre a h0 ha hl hg
  refine ⟨a,?_, .inr ⟨h0,by simp[szSum]⟩⟩
  refine Ev.step (f:=fun _=>some a) (fun k=>?_) (Ev.now _)
  simp only[laws_szIntSSS.l0]
  rw[if_neg (nlt_end pre)]
 | cons x r ih =>
  intro pre a h0 ha hl hg
  obtain ⟨t,hE,hc⟩:=szIntSS_cases x a h0 ha (hg x (by simp))
  rcases hc with hc|⟨hc0,hc1⟩
  ·
   refine ⟨-1,Ev.step (f:=fun k=>(laws_szIntSS.f k x a).bind fun t=>if t < 0 then some (-1) else laws_szIntSSS.l0 k (pre ++ x :: r) t (wrap64 ((pre.length:Int)+1))) (fun k=>?_) (Ev.bind hE ?_), .inl (by omega)⟩
   ·
    simp only[laws_szIntSSS.l0]
    rw[if_pos (lt_mid pre x r),if_pos (zle _),rd_L3_mid]
   ·
    simp only[if_pos hc]
    exact Ev.now _
  ·
   obtain ⟨t2,ht2,h2⟩:=ih (pre ++ [x]) t hc0 (by omega) (by simpa using hl) (fun y hy=>hg y (by simp[hy]))
   refine ⟨t2,Ev.step (f:=fun k=>(laws_szIntSS.f k x a).bind fun t=>if t < 0 then some (-1) else laws_szIntSSS.l0 k (pre ++ x :: r) t (wrap64 ((pre.length:Int)+1))) (fun k=>?_) (Ev.bind hE ?_),?_⟩
   ·
    simp only[laws_szIntSSS.l0]
    rw[if_pos (lt_mid pre x r),if_pos (zle _),rd_L3_mid]
   ·
    simp only[if_neg (show ¬ t < 0 by omega)]
    rw[wr_mid pre x r hl,app_mid pre x r]
    exact ht2
   ·
    rcases h2 with h2|⟨h2,h3⟩
    ·
     exact .inl h2
    ·
     exact .inr ⟨h2,by simp only[szSum];omega⟩
def goodIntSSS (l:List (List (List Int))):Prop:=l.length≤9223372036854775807∧∀ x ∈ l,goodIntSS x
theorem szIntSSS_cases (l:List (List (List Int))) (a:Int) (h0:0≤a) (ha:a≤1048576) (hg:goodIntSSS l):∃ t,Ev (fun k=>laws_szIntSSS.f k l a) t∧(t < 0∨(0≤t∧t+(n3 l:Int)≤a)):=by
 have hl:=hg.1
 unfold laws_szIntSSS.f
 rw[wr_id (by omega) (by omega)]
 by_cases h:a - (l.length:Int) < 0
 ·
  exact ⟨-1,by simp only[if_pos h];exact Ev.now _, .inl (by omega)⟩
 ·
  obtain ⟨t,ht,hc⟩:=szIntSSS_loop l [] (a - l.length) (by omega) (by omega) hl hg.2
  refine ⟨t,by simp only[if_neg h];exact ht,?_⟩
  rcases hc with hc|⟨h1,h2⟩
  ·
   exact .inl hc
  ·
   exact .inr ⟨h1,by simp only[n3];omega⟩
theorem eqIntSSS_loop:∀ (r s pre qre:List (List (List Int))),pre.length=qre.length→r.length=s.length→(pre ++ r).length≤9223372036854775807→(∀ x ∈ r,n2 x≤1048576)→Ev (fun k=>laws_eqIntSSS.l0 k (pre ++ r) (qre ++ s) (pre.length:Int)) (decide (r=s)):=by
 intro r
 induction r with
 | nil =>
  intro s pre qre hp hs hl hx
  obtain rfl:s=[]:=List.eq_nil_of_length_eq_zero hs.symm
  refine Ev.step (f:=fun _=>some _) (fun k=>?_) (Ev.now _)
  simp only[laws_eqIntSSS.l0]
  rw[if_neg (nlt_end pre)]
  rfl
 | cons x r ih =>
  intro s pre qre hp hs hl hx
  match s,hs with
  | y :: s,hs =>
   refine Ev.step (f:=fun k=>(laws_eqIntSS.f k x y).bind fun t=>if t=true then laws_eqIntSSS.l0 k (pre ++ x :: r) (qre ++ y :: s) (wrap64 ((pre.length:Int)+1)) else some false) (fun k=>?_) (Ev.bind (eqIntSS_ev x y (hx x (by simp))) ?_)
   ·
    simp only[laws_eqIntSSS.l0]
    rw[if_pos (lt_mid pre x r),if_pos (zle _),if_pos (by rw[hp];exact lt_mid qre y s),rd_L3_mid,hp,rd_L3_mid,← hp]
   ·
    by_cases e:x=y
    ·
     subst e
     simp only[decide_true,if_true]
     rw[wr_mid pre x r hl,app_mid pre x r,app_mid qre x s]
     exact ev_eq (ih s (pre ++ [x]) (qre ++ [x]) (by simp[hp]) (by simpa using hs) (by simpa using hl) (fun y hy=>hx y (by simp[hy]))) (by simp)
    ·
     simp only[decide_eq_false e,if_neg Bool.false_ne_true]
     exact ev_eq (Ev.now _) (by simp[e])
theorem eqIntSSS_ev (l s:List (List (List Int))) (hl:n3 l≤1048576):Ev (fun k=>laws_eqIntSSS.f k l s) (decide (l=s)):=by
 have h1:=szSum_bound n2 l (by simpa only [n3] using hl)
 unfold laws_eqIntSSS.f
 by_cases h:l.length=s.length
 ·
  simp only[if_pos (show (l.length:Int)=(s.length:Int) by omega)]
  exact eqIntSSS_loop l s [] [] rfl h (by simp;omega) h1.2
 ·
  simp only[if_neg (show ¬ (l.length:Int)=(s.length:Int) by omega)]
  refine ev_eq (Ev.now _) ?_
  have:l≠s:=fun e=>h (by rw[e])
  simp[this]
theorem good2 {l:List (List Int)} (h:goodL (goodL goodI) l):goodIntSS l:=⟨h.1,fun x hx=>(h.2 x hx).1⟩
theorem good3 {l:List (List (List Int))} (h:goodL (goodL (goodL goodI)) l):goodIntSSS l:=⟨h.1,fun x hx=>good2 (h.2 x hx)⟩
theorem szNight_cases (f0:List Int) (f1:Int) (f2:Int) (a:Int) (h0:0≤a) (ha:a≤1048576) (g0:goodIntS f0):∃ t,laws_szNight.f f0 f1 f2 a=some t∧(t < 0∨(0≤t∧t+(List.length f0:Int)≤a)):=by
 unfold laws_szNight.f
 obtain ⟨t0,e0,hc⟩:=szIntS_cases f0 a h0 ha g0
 rcases hc with hc|⟨b0,c0⟩
 ·
  exact ⟨-1,by simp[e0,hc], .inl (by omega)⟩
 exact ⟨t0,by simp[e0,show ¬ t0 < 0 by omega], .inr ⟨b0,by omega⟩⟩
theorem toNight_ev (f0:List Int) (f1:Int) (f2:Int) (h0:List.length f0≤1048576):Ev (fun k=>laws_toNight.f k f0 f1 f2) (f0,f1,f2):=Ev.bind (toIntS_ev f0 h0) (Ev.now _)
theorem eqNight_ev (f0:List Int) (f1:Int) (f2:Int) (s0:List Int) (s1:Int) (s2:Int) (h0:List.length f0≤1048576):Ev (fun k=>laws_eqNight.f k f0 f1 f2 s0 s1 s2) (decide ((f0,f1,f2)=(s0,s1,s2))):=by
 obtain ⟨K0,e0⟩:=eqIntS_ev f0 s0 h0
 refine ⟨K0,fun k hk=>?_⟩
 unfold laws_eqNight.f
 simp only[e0 k (by omega),Option.bind_some]
 by_cases q0:f0=s0 <;> try simp only[q0,decide_true,decide_false,if_true,if_false,Bool.false_eq_true,beq_self_eq_true]
 by_cases q1:f1=s1 <;> try simp only[q1,decide_true,decide_false,if_true,if_false,Bool.false_eq_true,beq_self_eq_true]
 by_cases q2:f2=s2 <;> try simp only[q2,decide_true,decide_false,if_true,if_false,Bool.false_eq_true,beq_self_eq_true]
 all_goals simp_all
theorem markNight_ev (f0:List Int) (f1:Int) (f2:Int) (a:Int) (h0:List.length f0≤1048576):Ev (fun k=>laws_markNight.f k f0 f1 f2 a) ((mkS f0 (a)).1,(mkS f0 (a)).2):=Ev.bind (markIntS_ev f0 (a) h0) (Ev.now _)
theorem szCamp_cases (f0:List Bool) (f1:Int) (a:Int) (h0:0≤a) (ha:a≤1048576) (g0:goodBoolS f0):∃ t,laws_szCamp.f f0 f1 a=some t∧(t < 0∨(0≤t∧t+(List.length f0:Int)≤a)):=by
 unfold laws_szCamp.f
 obtain ⟨t0,e0,hc⟩:=szBoolS_cases f0 a h0 ha g0
 rcases hc with hc|⟨b0,c0⟩
 ·
  exact ⟨-1,by simp[e0,hc], .inl (by omega)⟩
 exact ⟨t0,by simp[e0,show ¬ t0 < 0 by omega], .inr ⟨b0,by omega⟩⟩
theorem toCamp_ev (f0:List Bool) (f1:Int) (h0:List.length f0≤1048576):Ev (fun k=>laws_toCamp.f k f0 f1) (f0,f1):=Ev.bind (toBoolS_ev f0 h0) (Ev.now _)
theorem eqCamp_ev (f0:List Bool) (f1:Int) (s0:List Bool) (s1:Int) (h0:List.length f0≤1048576):Ev (fun k=>laws_eqCamp.f k f0 f1 s0 s1) (decide ((f0,f1)=(s0,s1))):=by
 obtain ⟨K0,e0⟩:=eqBoolS_ev f0 s0 h0
 refine ⟨K0,fun k hk=>?_⟩
 unfold laws_eqCamp.f
 simp only[e0 k (by omega),Option.bind_some]
 by_cases q0:f0=s0 <;> try simp only[q0,decide_true,decide_false,if_true,if_false,Bool.false_eq_true,beq_self_eq_true]
 by_cases q1:f1=s1 <;> try simp only[q1,decide_true,decide_false,if_true,if_false,Bool.false_eq_true,beq_self_eq_true]
 all_goals simp_all
theorem markCamp_ev (f0:List Bool) (f1:Int) (a:Int) (h0:List.length f0≤1048576):Ev (fun k=>laws_markCamp.f k f0 f1 a) ((mkB f0 (a)).1,(mkB f0 (a)).2):=Ev.bind (markBoolS_ev f0 (a) h0) (Ev.now _)
theorem heldCamp_ev (f0:List Bool) (f1:Int) (a:Int) (h0:0≤a) (ha:a≤1000000000) (h0:List.length f0≤1048576):Ev (fun k=>laws_heldCamp.f k (mkB f0 (a)).2 f1 a) ((mkB f0 (a)).1):=by
 have b0:=mkB_bound f0 (a) (by omega) (by have:=h0;omega)
 unfold laws_heldCamp.f
 refine Ev.bind (heldBoolS_ev f0 (a) (by omega) (by have:=h0;omega) h0) ?_
 simp only[if_neg (show ¬ (mkB f0 (a)).1 < 0 by omega)]
 exact Ev.now _
end Go.Proofs.Ytdomojenlofieaa.Pure

namespace Go.Proofs.Ytdomojenlofieaa.Pure
open Go.RowKit Go.Proofs.Ytdomojenlofieaa.C2 Go.Proofs.Ytdomojenlofieaa.H Go.Proofs.YtdomojenlofieaaW.PrintWords Go.Proofs.YtdomojenlofieaaW.PrintLast Go.Proofs.YtdomojenlofieaaW.PrintMore
set_option linter.unusedVariables false
set_option linter.unusedSimpArgs false
theorem in_eq (a b c:Int):impl_in.f a b c=some (inB b c a):=by
 unfold impl_in.f inB
 by_cases h:b≤a <;> simp [h]
theorem l1In_eq (a b c:Int):spec_l1In.f a b c=some (inB b c a):=by
 unfold spec_l1In.f inB
 by_cases h:b≤a <;> simp [h]
theorem areIn_eq (l:List Int) (a b c d:Int):impl_areIn.f l a b c d=some (inB c d (l.length:Int) && l.all (inB a b)):=rfl
theorem l1All_loop (a b:Int):∀ (r pre:List Int),(pre ++ r).length≤9223372036854775807→Ev (fun k=>spec_l1All.l0 k a b (pre ++ r) ((pre ++ r).length:Int) (pre.length:Int)) (r.all (inB a b)):=by
 intro r
 induction r with
 | nil =>
  intro pre hl
  refine Ev.step (f:=fun _=>some true) (fun k=>?_) (Ev.now _)
  simp only[spec_l1All.l0]
  rw[if_neg (nlt_end pre)]
 | cons x r ih =>
  intro pre hl
  cases hx:inB a b x with
  | true =>
   refine Ev.step (fun k=>?_) (ev_eq (ih (pre ++ [x]) (by simpa using hl)) (by simp[hx]))
   simp only[spec_l1All.l0]
   rw[if_pos (lt_mid pre x r),if_pos (zle _),if_pos (lt_mid pre x r),rd_mid,l1In_eq,hx,Option.bind_some,if_pos rfl,wr_mid pre x r hl,app_mid pre x r]
  | false =>
   refine Ev.step (f:=fun _=>some false) (fun k=>?_) (ev_eq (Ev.now _) (by simp[hx]))
   simp only[spec_l1All.l0]
   rw[if_pos (lt_mid pre x r),if_pos (zle _),if_pos (lt_mid pre x r),rd_mid,l1In_eq,hx,Option.bind_some,if_neg (by simp)]
theorem l1All_ev (l:List Int) (a b:Int) (hl:l.length≤9223372036854775807):Ev (fun k=>spec_l1All.f k l a b) (l.all (inB a b)):=l1All_loop a b l [] hl
def goodN (l:List Int) (s t:Int):Bool:=inB 1 6 (l.length:Int) && l.all (inB 1 1000) && inB 1 3 s && inB 1 2 t
theorem isNight_eq (l:List Int) (s t:Int):impl_IsNight.f l s t=some (goodN l s t):=by
 unfold impl_IsNight.f goodN
 rw[areIn_eq,in_eq,in_eq]
 cases inB 1 6 (l.length:Int) <;> cases l.all (inB 1 1000) <;> cases inB 1 3 s <;> cases inB 1 2 t <;> rfl
theorem toGood_ev (l:List Int) (s t:Int) (hl:l.length≤1048576):Ev (fun k=>spec_toGood.f k l s t) (goodN l s t):=by
 obtain ⟨K,e⟩:=l1All_ev l 1 1000 (by omega)
 refine ⟨K,fun k hk=>?_⟩
 unfold spec_toGood.f goodN
 simp only[l1In_eq,e k hk,Option.bind_some]
 cases inB 1 6 (l.length:Int) <;> cases l.all (inB 1 1000) <;> cases inB 1 3 s <;> cases inB 1 2 t <;> rfl
end Go.Proofs.Ytdomojenlofieaa.Pure

namespace Go.Proofs.Ytdomojenlofieaa.Pure
open Go.RowKit Go.Proofs.Ytdomojenlofieaa.C2 Go.Proofs.Ytdomojenlofieaa.H Go.Proofs.YtdomojenlofieaaW.PrintWords Go.Proofs.YtdomojenlofieaaW.PrintLast Go.Proofs.YtdomojenlofieaaW.PrintMore
set_option linter.unusedVariables false
set_option linter.unusedSimpArgs false
def risF (p:Int):List Int→Bool
 | []=>true
 | y :: r=>decide (p < y) && risF y r
def risP:List Int→Bool
 | []=>true
 | x :: r=>risF x r
def tripP (n:Nat) (s:Int) (t:List Int):Bool:=inB 1 s (t.length:Int) && t.all (inB 0 ((n:Int) - 1)) && risP t
theorem rd_mid1 (pre:List Int) (p y:Int) (r:List Int):rd (pre ++ p :: y :: r) ((pre.length:Int)+1)=y:=by
 have h:((pre.length:Int)+1).toNat=pre.length+1:=by omega
 simp[rd,h]
theorem lt_mid1 (pre:List Int) (p y:Int) (r:List Int):(pre.length:Int)+1 < ((pre ++ p :: y :: r).length:Int):=by simp;omega
theorem nlt_end1 (pre:List Int) (p:Int):¬ (pre.length:Int)+1 < ((pre ++ p :: ([]:List Int)).length:Int):=by simp
theorem wr_mid1 (pre:List Int) (p y:Int) (r:List Int) (h:(pre ++ p :: y :: r).length≤9223372036854775807):wrap64 ((pre.length:Int)+1+1)=((pre ++ [p]).length:Int)+1:=by
 simp only[List.length_append,List.length_cons] at h
 rw[wr_id (by omega) (by omega)]
 simp
theorem wr_pred (pre:List Int) (h:pre.length≤9223372036854775806):wrap64 ((pre.length:Int)+1 - 1)=(pre.length:Int):=by
 rw[wr_id (by omega) (by omega)]
 omega
theorem wr_pred' (n:Nat) (h:n≤9223372036854775806):wrap64 ((n:Int)+1 - 1)=(n:Int):=by
 rw[wr_id (by omega) (by omega)]
 omega
theorem rising_cat (pre:List Int) (p:Int) (r:List Int):pre ++ p :: r=(pre ++ [p]) ++ r:=by simp
theorem rises_loop:∀ (r pre:List Int) (p:Int),(pre ++ p :: r).length≤9223372036854775807→Ev (fun k=>impl_rises.l0 k (pre ++ p :: r) ((pre.length:Int)+1)) (risF p r):=by
 intro r
 induction r with
 | nil =>
  intro pre p hl
  refine Ev.step (f:=fun _=>some true) (fun k=>?_) (Ev.now _)
  simp only[impl_rises.l0]
  rw[if_neg (nlt_end1 pre p)]
 | cons y r ih =>
  intro pre p hl
  have hl':=hl
  simp only[List.length_append,List.length_cons] at hl'
  by_cases c:p < y
  ·
   refine Ev.step (fun k=>?_) (ev_eq (ih (pre ++ [p]) y (by simpa using hl)) (by simp[risF,c]))
   simp only[impl_rises.l0]
   rw[if_pos (lt_mid1 pre p y r),if_pos (by omega),wr_pred pre (by omega),if_pos (zle _),if_pos (lt_mid pre p (y :: r)),rd_mid1,rd_mid,if_neg (by omega),wr_mid1 pre p y r hl,rising_cat pre p (y :: r)]
  ·
   refine Ev.step (f:=fun _=>some false) (fun k=>?_) (ev_eq (Ev.now _) (by simp[risF,c]))
   simp only[impl_rises.l0]
   rw[if_pos (lt_mid1 pre p y r),if_pos (by omega),wr_pred pre (by omega),if_pos (zle _),if_pos (lt_mid pre p (y :: r)),rd_mid1,rd_mid,if_pos (by omega)]
theorem rises_ev (l:List Int) (hl:l.length≤9223372036854775807):Ev (fun k=>impl_rises.f k l) (risP l):=by
 cases l with
 | nil =>
  refine Ev.step (f:=fun _=>some true) (fun k=>?_) (Ev.now _)
  simp[impl_rises.f,impl_rises.l0]
 | cons x r=>exact rises_loop r [] x hl
theorem l1Rising_loop (lo hi:Int):∀ (r pre:List Int) (p:Int),(pre ++ p :: r).length≤9223372036854775807→Ev (fun k=>spec_l1Rising.l0 k (pre ++ p :: r) lo hi (pre ++ p :: r) ((pre ++ p :: r).length:Int) ((pre.length:Int)+1)) (r.all (inB lo hi) && risF p r):=by
 intro r
 induction r with
 | nil =>
  intro pre p hl
  refine Ev.step (f:=fun _=>some true) (fun k=>?_) (Ev.now _)
  simp only[spec_l1Rising.l0]
  rw[if_neg (nlt_end1 pre p)]
 | cons y r ih =>
  intro pre p hl
  have hl':=hl
  simp only[List.length_append,List.length_cons] at hl'
  cases hy:inB lo hi y with
  | false =>
   refine Ev.step (f:=fun _=>some false) (fun k=>?_) (ev_eq (Ev.now _) (by simp[hy]))
   simp only[spec_l1Rising.l0]
   rw[if_pos (lt_mid1 pre p y r),if_pos (by omega),if_pos (lt_mid1 pre p y r),rd_mid1,l1In_eq,hy,Option.bind_some,if_neg (by simp)]
  | true =>
   by_cases c:p < y
   ·
    refine Ev.step (fun k=>?_) (ev_eq (ih (pre ++ [p]) y (by simpa using hl)) (by simp[risF,c,hy]))
    simp only[spec_l1Rising.l0]
    rw[if_pos (lt_mid1 pre p y r),if_pos (by omega),if_pos (lt_mid1 pre p y r),rd_mid1,l1In_eq,hy,Option.bind_some,if_pos rfl,if_pos (by omega),wr_pred pre (by omega),if_pos (zle _),if_pos (lt_mid pre p (y :: r)),rd_mid,if_neg (by omega),wr_mid1 pre p y r hl,rising_cat pre p (y :: r)]
   ·
    refine Ev.step (f:=fun _=>some false) (fun k=>?_) (ev_eq (Ev.now _) (by simp[risF,c]))
    simp only[spec_l1Rising.l0]
    rw[if_pos (lt_mid1 pre p y r),if_pos (by omega),if_pos (lt_mid1 pre p y r),rd_mid1,l1In_eq,hy,Option.bind_some,if_pos rfl,if_pos (by omega),wr_pred pre (by omega),if_pos (zle _),if_pos (lt_mid pre p (y :: r)),rd_mid,if_pos (by omega)]
theorem l1Rising_ev (l:List Int) (lo hi:Int) (hl:l.length≤9223372036854775807):Ev (fun k=>spec_l1Rising.f k l lo hi) (l.all (inB lo hi) && risP l):=by
 cases l with
 | nil =>
  refine Ev.step (f:=fun _=>some true) (fun k=>?_) (Ev.now _)
  simp[spec_l1Rising.f,spec_l1Rising.l0]
 | cons x r =>
  cases hx:inB lo hi x with
  | false =>
   refine Ev.step (f:=fun _=>some false) (fun k=>?_) (ev_eq (Ev.now _) (by simp[hx]))
   simp only[spec_l1Rising.f,spec_l1Rising.l0]
   rw[if_pos (show (0:Int) < ((x :: r).length:Int) by simp only[List.length_cons];omega),if_pos (Int.le_refl _),if_pos (show (0:Int) < ((x :: r).length:Int) by simp only[List.length_cons];omega),show rd (x :: r) 0=x from rfl,l1In_eq,hx,Option.bind_some,if_neg (by simp)]
  | true =>
   refine Ev.step (fun k=>?_) (ev_eq (l1Rising_loop lo hi r [] x hl) (by simp[hx,risP]))
   simp only[spec_l1Rising.f,spec_l1Rising.l0]
   rw[if_pos (show (0:Int) < ((x :: r).length:Int) by simp only[List.length_cons];omega),if_pos (Int.le_refl _),if_pos (show (0:Int) < ((x :: r).length:Int) by simp only[List.length_cons];omega),show rd (x :: r) 0=x from rfl,l1In_eq,hx,Option.bind_some,if_pos rfl,if_neg (by omega),show wrap64 (0+1)=((([]:List Int).length:Int)+1) from wr_id (by omega) (by omega)]
   rfl
end Go.Proofs.Ytdomojenlofieaa.Pure

namespace Go.Proofs.Ytdomojenlofieaa.Pure
open Go.RowKit Go.Proofs.Ytdomojenlofieaa.C2 Go.Proofs.Ytdomojenlofieaa.H Go.Proofs.YtdomojenlofieaaW.PrintWords Go.Proofs.YtdomojenlofieaaW.PrintLast Go.Proofs.YtdomojenlofieaaW.PrintMore
set_option linter.unusedVariables false
set_option linter.unusedSimpArgs false
theorem tripP_in {n:Nat} {s:Int} {t:List Int} (h:tripP n s t=true):∀ x ∈ t,0≤x∧x < (n:Int):=by
 unfold tripP at h
 simp only[Bool.and_eq_true,List.all_eq_true] at h
 intro x hx
 have:=h.1.2 x hx
 simp only[inB,Bool.and_eq_true,decide_eq_true_eq] at this
 omega
theorem are_eq (st:List Bool) (b:Bool) (t:List Int) (c:Bool) (h:∀ x ∈ t,0≤x∧x < (st.length:Int)):impl_State_are.f st b t c=some (t.all fun x=>rdOf false st x == c):=by
 unfold impl_State_are.f
 rw[if_pos]
 rw[List.all_eq_true]
 intro x hx
 have:=h x hx
 simp[this.1,this.2]
def mv (v:Bool):List Int→List Bool→List Bool
 | [],o=>o
 | x :: r,o=>mv v r (o.set x.toNat v)
end Go.Proofs.Ytdomojenlofieaa.Pure

namespace Go.Proofs.Ytdomojenlofieaa.Pure
open Go.RowKit Go.Proofs.Ytdomojenlofieaa.C2 Go.Proofs.Ytdomojenlofieaa.H Go.Proofs.YtdomojenlofieaaW.PrintWords Go.Proofs.YtdomojenlofieaaW.PrintLast Go.Proofs.YtdomojenlofieaaW.PrintMore
set_option linter.unusedVariables false
set_option linter.unusedSimpArgs false
theorem bits_and_n (a b:Nat) (ha:a < 4611686018427387904) (hb:b < 4611686018427387904):Go.bits .and .i64 (a:Int) (b:Int)=((a &&& b:Nat):Int):=by
 have hx:a &&& b < 2 ^ 62:=Nat.and_lt_two_pow _ (by omega)
 have h1:(BitVec.ofInt 64 (a:Int)).toNat=a:=by
  rw[BitVec.ofInt_natCast,BitVec.toNat_ofNat];exact Nat.mod_eq_of_lt (by omega)
 have h2:(BitVec.ofInt 64 (b:Int)).toNat=b:=by
  rw[BitVec.ofInt_natCast,BitVec.toNat_ofNat];exact Nat.mod_eq_of_lt (by omega)
 show IntKind.i64.wrap ((BitVec.ofInt 64 (a:Int) &&& BitVec.ofInt 64 (b:Int)).toNat:Int)=_
 rw[BitVec.toNat_and,h1,h2,i64_w,wr_id (by omega) (by omega)]
theorem bits_or_n (a b:Nat) (ha:a < 4611686018427387904) (hb:b < 4611686018427387904):Go.bits .or .i64 (a:Int) (b:Int)=((a ||| b:Nat):Int):=by
 have hx:a ||| b < 2 ^ 62:=Nat.or_lt_two_pow (by omega) (by omega)
 have h1:(BitVec.ofInt 64 (a:Int)).toNat=a:=by
  rw[BitVec.ofInt_natCast,BitVec.toNat_ofNat];exact Nat.mod_eq_of_lt (by omega)
 have h2:(BitVec.ofInt 64 (b:Int)).toNat=b:=by
  rw[BitVec.ofInt_natCast,BitVec.toNat_ofNat];exact Nat.mod_eq_of_lt (by omega)
 show IntKind.i64.wrap ((BitVec.ofInt 64 (a:Int) ||| BitVec.ofInt 64 (b:Int)).toNat:Int)=_
 rw[BitVec.toNat_or,h1,h2,i64_w,wr_id (by omega) (by omega)]
theorem shl_one (x:Int) (h0:0≤x) (h:x < 40):shl .i64 1 x=((2 ^ x.toNat:Nat):Int):=by
 have h2:2 ^ x.toNat < 2 ^ 40:=Nat.pow_lt_pow_right (by omega) (by omega)
 unfold shl
 rw[Nat.min_eq_left (show x.toNat≤IntKind.i64.bits by show x.toNat≤64;omega),i64_w,Int.one_mul]
 rw[show ((2:Int) ^ x.toNat)=((2 ^ x.toNat:Nat):Int) by simp]
 exact (show ∀ q:Nat,q < 2 ^ 40→wrap64 (q:Int)=q from fun q hq=>wr_id (by omega) (by omega)) _ h2
def bitsN:List Int→Nat→Nat
 | [],s=>s
 | x :: r,s=>bitsN r (s ||| 2 ^ x.toNat)
theorem bitsN_lt:∀ (r:List Int) (s:Nat),s < 2 ^ 40→(∀ x ∈ r,0≤x∧x < 40)→bitsN r s < 2 ^ 40:=by
 intro r
 induction r with
 | nil=>intro s h _;exact h
 | cons x r ih =>
  intro s h hi
  have hx:=hi x (by simp)
  exact ih _ (Nat.or_lt_two_pow h (Nat.pow_lt_pow_right (by omega) (by omega))) (fun y hy=>hi y (by simp[hy]))
theorem bitsN_test:∀ (r:List Int) (s i:Nat),(bitsN r s).testBit i=(s.testBit i || r.any fun x=>x.toNat == i):=by
 intro r
 induction r with
 | nil=>intro s i;simp[bitsN]
 | cons x r ih =>
  intro s i
  simp only[bitsN]
  rw[ih,Nat.testBit_or,Nat.testBit_two_pow,List.any_cons,Bool.or_assoc]
  congr 2
theorem cuBits_loop:∀ (r pre:List Int) (s:Nat),(pre ++ r).length≤9223372036854775807→s < 2 ^ 40→(∀ x ∈ r,0≤x∧x < 40)→Ev (fun k=>spec_cuBits.l0 k (s:Int) (pre ++ r) ((pre ++ r).length:Int) (pre.length:Int)) ((bitsN r s:Nat):Int):=by
 intro r
 induction r with
 | nil =>
  intro pre s hl hs hi
  refine Ev.step (f:=fun _=>some _) (fun k=>?_) (Ev.now _)
  simp only[spec_cuBits.l0]
  rw[if_neg (nlt_end pre)]
  rfl
 | cons x r ih =>
  intro pre s hl hs hi
  have hx:=hi x (by simp)
  have hp:2 ^ x.toNat < 2 ^ 40:=Nat.pow_lt_pow_right (by omega) (by omega)
  refine Ev.step (fun k=>?_) (ih (pre ++ [x]) (s ||| 2 ^ x.toNat) (by simpa using hl) (Nat.or_lt_two_pow hs hp) (fun y hy=>hi y (by simp[hy])))
  simp only[spec_cuBits.l0]
  rw[if_pos (lt_mid pre x r),if_pos (zle _),if_pos (lt_mid pre x r),rd_mid,if_pos hx.1,shl_one x hx.1 hx.2,bits_or_n s _ (by omega) (by omega),wr_mid pre x r hl,app_mid pre x r]
theorem cuBits_ev (g:List Int) (hl:g.length≤1048576) (hi:∀ x ∈ g,0≤x∧x < 40):Ev (fun k=>spec_cuBits.f k g) ((bitsN g 0:Nat):Int):=cuBits_loop g [] 0 (by simp;omega) (by decide) hi
def shareP (a b:List Int):Bool:=a.any fun x=>b.any fun y=>x == y
theorem share_bits (a b:List Int) (ha:∀ x ∈ a,0≤x) (hb:∀ x ∈ b,0≤x):(bitsN a 0 &&& bitsN b 0=0) ↔ shareP a b=false:=by
 constructor
 ·
  intro h
  cases hs:shareP a b with
  | false=>rfl
  | true =>
   exfalso
   unfold shareP at hs
   obtain ⟨x,hx,hy⟩:=List.any_eq_true.1 hs
   obtain ⟨y,hy,e⟩:=List.any_eq_true.1 hy
   have e:x=y:=by simpa using e
   subst e
   have:=congrArg (fun n=>Nat.testBit n x.toNat) h
   simp only[Nat.testBit_and,bitsN_test,Nat.zero_testBit,Bool.false_or] at this
   have h1:(a.any fun z=>z.toNat == x.toNat)=true:=List.any_eq_true.2 ⟨x,hx,by simp⟩
   have h2:(b.any fun z=>z.toNat == x.toNat)=true:=List.any_eq_true.2 ⟨x,hy,by simp⟩
   rw[h1,h2] at this
   cases this
 ·
  intro h
  apply Nat.eq_of_testBit_eq
  intro i
  simp only[Nat.testBit_and,bitsN_test,Nat.zero_testBit,Bool.false_or]
  cases h1:(a.any fun z=>z.toNat == i) with
  | false=>rfl
  | true =>
   cases h2:(b.any fun z=>z.toNat == i) with
   | false=>rfl
   | true =>
    exfalso
    obtain ⟨x,hx,e1⟩:=List.any_eq_true.1 h1
    obtain ⟨y,hy,e2⟩:=List.any_eq_true.1 h2
    have e1:x.toNat=i:=by simpa using e1
    have e2:y.toNat=i:=by simpa using e2
    have h3:=ha x hx
    have h4:=hb y hy
    have e:x=y:=by omega
    subst e
    have:shareP a b=true:=List.any_eq_true.2 ⟨x,hx,List.any_eq_true.2 ⟨x,hy,by simp⟩⟩
    rw[h] at this
    cases this
theorem share_eq (a b:List Int):impl_share.f a b=some (shareP a b):=rfl
def gOk (n:Nat) (s:Int):List (List Int)→Nat→Bool
 | [],_=>true
 | g :: r,b=>tripP n s g && (decide (b &&& bitsN g 0=0) && gOk n s r (b ||| bitsN g 0))
def rOk (n:Nat) (s:Int):Option (List Int)→List (List Int)→Bool
 | _,[]=>true
 | p,g :: r=>tripP n s g && ((match p with|none=>true|some q => !shareP q g) && rOk n s (some g) r)
theorem gOk_rOk (n:Nat) (s:Int) (R:List (List Int)) (h:R.length≤2):gOk n s R 0=rOk n s none R:=by
 match R,h with
 | [],_=>rfl
 | [g],_=>simp [gOk,rOk]
 | [g,q],_ =>
  simp only[gOk,rOk]
  cases hg:tripP n s g with
  | false=>rfl
  | true =>
   cases hq:tripP n s q with
   | false=>simp
   | true =>
    have:=share_bits g q (fun x hx=>(tripP_in hg x hx).1) (fun x hx=>(tripP_in hq x hx).1)
    simp only[Nat.zero_and,Nat.zero_or,decide_true,Bool.true_and,Bool.and_true]
    cases hs:shareP g q with
    | false=>simp [this.2 hs]
    | true =>
     have hn:¬ bitsN g 0 &&& bitsN q 0=0:=fun e=>by have:=this.1 e;rw[hs] at this;cases this
     simp[hn]
def grpP (n:Nat) (s t:Int) (R:List (List Int)):Bool:=inB 1 t (R.length:Int) && gOk n s R 0
theorem gOk_in {n:Nat} {s:Int}:∀ (R:List (List Int)) (b:Nat),gOk n s R b=true→∀ g ∈ R,tripP n s g=true:=by
 intro R
 induction R with
 | nil=>intro b h g hg;cases hg
 | cons g r ih =>
  intro b h
  simp only[gOk,Bool.and_eq_true] at h
  intro q hq
  rcases List.mem_cons.1 hq with rfl|hq
  ·
   exact h.1
  ·
   exact ih _ h.2.2 q hq
theorem toGroups_loop (l:List Int) (s t:Int) (hn:l.length≤40):∀ (r pre:List (List Int)) (b:Nat),(pre ++ r).length≤1048576→(∀ g ∈ r,g.length≤1048576)→b < 2 ^ 40→Ev (fun k=>spec_toGroups.l0 k (b:Int) (pre ++ r) ((pre ++ r).length:Int) (pre.length:Int) l s t) (gOk l.length s r b):=by
 intro r
 induction r with
 | nil =>
  intro pre b hl ht hb
  refine Ev.step (f:=fun _=>some true) (fun k=>?_) (Ev.now _)
  simp only[spec_toGroups.l0]
  rw[if_neg (nlt_end pre)]
 | cons g r ih =>
  intro pre b hl ht hb
  have hg:=ht g (by simp)
  obtain ⟨K1,e1⟩:=l1Rising_ev g 0 ((l.length:Int) - 1) (by omega)
  dsimp only at e1
  have hw:wrap64 ((l.length:Int) - 1)=(l.length:Int) - 1:=wr_id (by omega) (by omega)
  cases hi:inB 1 s (g.length:Int) with
  | false =>
   refine Ev.step (f:=fun _=>some false) (fun k=>?_) (ev_eq (Ev.now _) (by simp[gOk,tripP,hi]))
   simp only[spec_toGroups.l0]
   rw[if_pos (lt_mid pre g r),if_pos (zle _),if_pos (lt_mid pre g r),rd_L2_mid,l1In_eq,hi,Option.bind_some,if_neg (by simp)]
  | true =>
   cases hr:(g.all (inB 0 ((l.length:Int) - 1)) && risP g) with
   | false =>
    refine ⟨K1+1,fun k hk=>?_⟩
    obtain ⟨k,rfl⟩:∃ j,k=j+1:=⟨k - 1,by omega⟩
    have:gOk l.length s (g :: r) b=false:=by simp only[gOk,tripP,hi,Bool.true_and,hr,Bool.false_and]
    rw[this]
    simp only[spec_toGroups.l0]
    rw[if_pos (lt_mid pre g r),if_pos (zle _),if_pos (lt_mid pre g r),rd_L2_mid,l1In_eq,hi,Option.bind_some,if_pos rfl,hw,e1 k (by omega),hr,Option.bind_some,if_neg (by simp)]
   | true =>
    have htr:tripP l.length s g=true:=by unfold tripP;rw[hi,Bool.true_and];exact hr
    have hin:∀ x ∈ g,0≤x∧x < 40:=fun x hx=>by have:=tripP_in htr x hx;omega
    obtain ⟨K2,e2⟩:=cuBits_ev g hg hin
    dsimp only at e2
    have hbl:=bitsN_lt g 0 (by decide) hin
    by_cases hz:b &&& bitsN g 0=0
    ·
     obtain ⟨K3,e3⟩:=ih (pre ++ [g]) (b ||| bitsN g 0) (by simpa using hl) (fun y hy=>ht y (by simp[hy])) (Nat.or_lt_two_pow hb hbl)
     refine ⟨K1+K2+K3+1,fun k hk=>?_⟩
     obtain ⟨k,rfl⟩:∃ j,k=j+1:=⟨k - 1,by omega⟩
     have:gOk l.length s (g :: r) b=gOk l.length s r (b ||| bitsN g 0):=by simp[gOk,htr,hz]
     rw[this,← e3 k (by omega)]
     simp only[spec_toGroups.l0]
     rw[if_pos (lt_mid pre g r),if_pos (zle _),if_pos (lt_mid pre g r),rd_L2_mid,l1In_eq,hi,Option.bind_some,if_pos rfl,hw,e1 k (by omega),hr,Option.bind_some,if_pos rfl,e2 k (by omega),Option.bind_some,bits_and_n _ _ (by omega) (by omega),hz,if_pos (show ((0:Nat):Int)=0 from rfl),Option.bind_some,bits_or_n _ _ (by omega) (by omega),wr_mid pre g r (by omega),app_mid pre g r]
    ·
     refine ⟨K1+K2+1,fun k hk=>?_⟩
     obtain ⟨k,rfl⟩:∃ j,k=j+1:=⟨k - 1,by omega⟩
     have:gOk l.length s (g :: r) b=false:=by simp[gOk,hz]
     rw[this]
     simp only[spec_toGroups.l0]
     rw[if_pos (lt_mid pre g r),if_pos (zle _),if_pos (lt_mid pre g r),rd_L2_mid,l1In_eq,hi,Option.bind_some,if_pos rfl,hw,e1 k (by omega),hr,Option.bind_some,if_pos rfl,e2 k (by omega),Option.bind_some,bits_and_n _ _ (by omega) (by omega),if_neg (by omega)]
theorem toGroups_ev (l:List Int) (s t:Int) (R:List (List Int)) (hn:l.length≤40) (hR:R.length≤1048576) (ht:∀ g ∈ R,g.length≤1048576):Ev (fun k=>spec_toGroups.f k l s t R) (grpP l.length s t R):=by
 unfold spec_toGroups.f grpP
 refine Ev.bind (ev_some (l1In_eq _ _ _)) ?_
 cases inB 1 t (R.length:Int) with
 | false=>exact Ev.now _
 | true =>
  simp only[if_true,Bool.true_and]
  exact toGroups_loop l s t hn R [] 0 (by simpa using hR) ht (by decide)
theorem isGroup_ev (l:List Int) (s q:Int) (t:List Int) (hl:l.length≤1048576) (ht:t.length≤1048576):Ev (fun k=>impl_Night_isGroup.f k l s q t) (tripP l.length s t):=by
 obtain ⟨K,e⟩:=rises_ev t (by omega)
 refine ⟨K,fun k hk=>?_⟩
 unfold impl_Night_isGroup.f tripP
 simp only[areIn_eq,e k hk,Option.bind_some,wr_id (show -9223372036854775808≤(l.length:Int) - 1 by omega) (by omega)]
 cases inB 1 s (t.length:Int) <;> cases t.all (inB 0 ((l.length:Int) - 1)) <;> cases risP t <;> rfl
theorem goodN_len {l:List Int} {s t:Int} (h:goodN l s t=true):l.length≤6∧t≤2∧1≤t:=by
 unfold goodN at h
 simp only[Bool.and_eq_true] at h
 have h1:=h.1.1.1
 have h2:=h.2
 simp only[inB,Bool.and_eq_true,decide_eq_true_eq] at h1 h2
 omega
theorem trip_pos {n:Nat} {s:Int} {g:List Int} (h:tripP n s g=true):0 < g.length:=by
 unfold tripP at h
 simp only[Bool.and_eq_true] at h
 have:=h.1.1
 simp only[inB,Bool.and_eq_true,decide_eq_true_eq] at this
 omega
end Go.Proofs.Ytdomojenlofieaa.Pure

namespace Go.Proofs.Ytdomojenlofieaa.Pure
open Go.RowKit Go.Proofs.Ytdomojenlofieaa.C2 Go.Proofs.Ytdomojenlofieaa.H Go.Proofs.YtdomojenlofieaaW.PrintWords Go.Proofs.YtdomojenlofieaaW.PrintLast Go.Proofs.YtdomojenlofieaaW.PrintMore
set_option linter.unusedVariables false
set_option linter.unusedSimpArgs false
def cmpL:List Int→List Int→Int
 | [],[]=>0
 | [],_ :: _ => -1
 | _ :: _,[]=>1
 | x :: a,y :: b=>if x < y then -1 else if x > y then 1 else cmpL a b
def ltL:List Int→List Int→Bool
 | [],[]=>false
 | [],_ :: _=>true
 | _ :: _,[]=>false
 | x :: a,y :: b=>if x=y then ltL a b else decide (x < y)
theorem cmp_lt:∀ a b:List Int,decide (cmpL a b ≥ 0) = !ltL a b
 | [],[]=>rfl
 | [],_ :: _=>rfl
 | _ :: _,[]=>rfl
 | x :: a,y :: b=>by
  by_cases h:x < y
  ·
   have e1:cmpL (x :: a) (y :: b) = -1:=by simp only[cmpL];rw[if_pos h]
   have e2:ltL (x :: a) (y :: b)=true:=by simp only[ltL];rw[if_neg (by omega)];exact decide_eq_true h
   rw[e1,e2];rfl
  ·
   by_cases h2:x > y
   ·
    have e1:cmpL (x :: a) (y :: b)=1:=by simp only[cmpL];rw[if_neg h,if_pos h2]
    have e2:ltL (x :: a) (y :: b)=false:=by simp only[ltL];rw[if_neg (by omega)];exact decide_eq_false h
    rw[e1,e2];rfl
   ·
    have e1:cmpL (x :: a) (y :: b)=cmpL a b:=by simp only[cmpL];rw[if_neg h,if_neg h2]
    have e2:ltL (x :: a) (y :: b)=ltL a b:=by simp only[ltL];rw[if_pos (by omega)]
    rw[e1,e2];exact cmp_lt a b
theorem cmpC (x y:Int):cmp_Compare_int.f x y=some (if x < y then -1 else if x > y then 1 else 0):=by
 unfold cmp_Compare_int.f cmp_isNaN_int.f
 simp only[Option.bind_some,bne_self_eq_false,Bool.false_eq_true,if_false]
 split
 ·
  rfl
 ·
  split <;> rfl
theorem compare_loop (X Y:List Int) (hX:X.length≤1048576) (hY:Y.length≤1048576):∀ (a b p q:List Int),X=p ++ a→Y=q ++ b→p.length=q.length→Ev (fun k=>slices_Compare_int_int.l0 k X Y X (X.length:Int) (p.length:Int)) (cmpL a b):=by
 intro a
 induction a with
 | nil =>
  intro b p q e1 e2 hp
  refine Ev.step (f:=fun _=>some _) (fun k=>?_) (Ev.now _)
  simp only[slices_Compare_int_int.l0]
  rw[if_neg (by rw[e1];simp)]
  cases b with
  | nil=>rw [if_neg (by rw[e1,e2];simp;omega)];rfl
  | cons y b=>rw [if_pos (by rw[e1,e2];simp;omega)];rfl
 | cons x a ih =>
  intro b p q e1 e2 hp
  have h1:(p.length:Int) < (X.length:Int):=by rw[e1];exact lt_mid p x a
  have hx:rd X (p.length:Int)=x:=by rw[e1];exact rd_mid p x a
  cases b with
  | nil =>
   refine Ev.step (f:=fun _=>some _) (fun k=>?_) (Ev.now _)
   simp only[slices_Compare_int_int.l0]
   rw[if_pos h1,if_pos (zle _),if_pos h1,if_pos (by rw[e2];simp;omega)]
   rfl
  | cons y b =>
   have h2:(p.length:Int) < (Y.length:Int):=by rw[e2,hp];exact lt_mid q y b
   have hy:rd Y (p.length:Int)=y:=by rw[e2,hp];exact rd_mid q y b
   by_cases c1:x < y
   ·
    refine Ev.step (f:=fun _=>some _) (fun k=>?_) (Ev.now _)
    simp only[slices_Compare_int_int.l0]
    rw[if_pos h1,if_pos (zle _),if_pos h1,if_neg (by omega),if_pos h2,hx,hy,cmpC,if_pos c1,Option.bind_some,if_neg (by omega)]
    simp[cmpL,c1]
   ·
    by_cases c2:x > y
    ·
     refine Ev.step (f:=fun _=>some _) (fun k=>?_) (Ev.now _)
     simp only[slices_Compare_int_int.l0]
     rw[if_pos h1,if_pos (zle _),if_pos h1,if_neg (by omega),if_pos h2,hx,hy,cmpC,if_neg c1,if_pos c2,Option.bind_some,if_neg (by omega)]
     simp[cmpL,c1,c2]
    ·
     refine Ev.step (fun k=>?_) (ev_eq (ih b (p ++ [x]) (q ++ [y]) (by rw[e1];simp) (by rw[e2];simp) (by simp[hp])) (by simp only[cmpL];rw[if_neg c1,if_neg c2]))
     simp only[slices_Compare_int_int.l0]
     rw[if_pos h1,if_pos (zle _),if_pos h1,if_neg (by omega),if_pos h2,hx,hy,cmpC,if_neg c1,if_neg c2,Option.bind_some,if_pos rfl,wr_id (by omega) (by omega)]
     simp
theorem compare_ev (a b:List Int) (ha:a.length≤1048576) (hb:b.length≤1048576):Ev (fun k=>slices_Compare_int_int.f k a b) (cmpL a b):=compare_loop a b ha hb a b [] [] rfl rfl rfl
theorem before_loop (X Y:List Int) (hX:X.length≤1048576) (hY:Y.length≤1048576):∀ (a b p q:List Int),X=p ++ a→Y=q ++ b→p.length=q.length→Ev (fun k=>spec_cuBefore.l0 k X Y (p.length:Int)) (ltL a b):=by
 intro a
 induction a with
 | nil =>
  intro b p q e1 e2 hp
  refine Ev.step (f:=fun k=>spec_cuBefore.j1 k X Y (p.length:Int) false) (fun k=>?_) (Ev.step (f:=fun _=>some _) (fun k=>?_) (Ev.now _))
  ·
   simp only[spec_cuBefore.l0]
   rw[if_neg (by rw[e1];simp)]
  ·
   simp only[spec_cuBefore.j1]
   rw[if_neg (by simp),e1,e2]
   cases b with
   | nil=>simp [ltL];omega
   | cons y b=>simp [ltL];omega
 | cons x a ih =>
  intro b p q e1 e2 hp
  have h1:(p.length:Int) < (X.length:Int):=by rw[e1];exact lt_mid p x a
  have hx:rd X (p.length:Int)=x:=by rw[e1];exact rd_mid p x a
  cases b with
  | nil =>
   refine Ev.step (f:=fun k=>spec_cuBefore.j1 k X Y (p.length:Int) false) (fun k=>?_) (Ev.step (f:=fun _=>some _) (fun k=>?_) (Ev.now _))
   ·
    simp only[spec_cuBefore.l0]
    rw[if_pos h1,decide_eq_false (by rw[e2];simp;omega)]
   ·
    simp only[spec_cuBefore.j1]
    rw[if_neg (by simp),e1,e2]
    simp[ltL];omega
  | cons y b =>
   have h2:(p.length:Int) < (Y.length:Int):=by rw[e2,hp];exact lt_mid q y b
   have hy:rd Y (p.length:Int)=y:=by rw[e2,hp];exact rd_mid q y b
   refine Ev.step (f:=fun k=>spec_cuBefore.j1 k X Y (p.length:Int) true) (fun k=>?_) ?_
   ·
    simp only[spec_cuBefore.l0]
    rw[if_pos h1,decide_eq_true h2]
   ·
    by_cases c:x=y
    ·
     refine Ev.step (fun k=>?_) (ev_eq (ih b (p ++ [x]) (q ++ [y]) (by rw[e1];simp) (by rw[e2];simp) (by simp[hp])) (by simp only[ltL];rw[if_pos c]))
     simp only[spec_cuBefore.j1]
     rw[if_pos trivial,if_pos (zle _),if_pos h1,if_pos h2,hx,hy,if_pos c,wr_id (by omega) (by omega)]
     simp
    ·
     refine Ev.step (f:=fun _=>some _) (fun k=>?_) (ev_eq (Ev.now _) (by simp only[ltL];rw[if_neg c]))
     simp only[spec_cuBefore.j1]
     rw[if_pos trivial,if_pos (zle _),if_pos h1,if_pos h2,hx,hy,if_neg c]
theorem before_ev (a b:List Int) (ha:a.length≤1048576) (hb:b.length≤1048576):Ev (fun k=>spec_cuBefore.f k a b) (ltL a b):=before_loop a b ha hb a b [] [] rfl rfl rfl
def sideP (ov:List Bool) (g:List Int):Bool:=rdOf false ov (rd g 0)
def sameP (ov:List Bool) (g:List Int):Bool:=g.all fun x=>rdOf false ov x == sideP ov g
def prevP (f:List Int→List Int→Bool) (p:Option (List Int)) (g:List Int):Bool:=match p with|none=>true|some q=>f q g
def cS (ov:List Bool):Option (List Int)→Int→Int→List (List Int)→Bool
 | _,a,b,[]=>decide (a ≥ 0) && decide (b ≥ 0)
 | p,a,b,g :: r=>prevP ltL p g && (sameP ov g && if sideP ov g then cS ov (some g) a (wrap64 (b - 1)) r else cS ov (some g) (wrap64 (a - 1)) b r)
def torP (t:Int) (c:Int) (b:Bool):Int:=if b then c else wrap64 (t - c)
def togP (t:Int) (ov:List Bool) (c:Int) (p g:List Int):Bool := !shareP p g && ((sideP ov p != sideP ov g) || decide (torP t c (sideP ov p) > 1))
def cI (n:Nat) (s t:Int) (ov:List Bool) (c:Int):Option (List Int)→List (List Int)→Bool
 | _,[]=>true
 | p,g :: r=>tripP n s g && (!decide (torP t c (sideP ov g)=0) && (sameP ov g && (prevP (fun p g=>ltL p g && togP t ov c p g) p g && cI n s t ov c (some g) r)))
def campP (l:List Int) (s t:Int) (ov:List Bool) (c:Int):Bool:=goodN l s t && (decide (ov.length=l.length) && inB 0 t c)
def roundP (n:Nat) (s t:Int) (ov:List Bool) (c:Int) (R:List (List Int)):Bool:=inB 1 t (R.length:Int) && cI n s t ov c none R
theorem round_same (n:Nat) (s t:Int) (ov:List Bool) (c:Int) (R:List (List Int)) (ht:1≤t∧t≤2) (hc:0≤c∧c≤t):(grpP n s t R && cS ov none (wrap64 (t - c)) c R)=roundP n s t ov c R:=by
 unfold grpP roundP
 cases hi:inB 1 t (R.length:Int) with
 | false=>rfl
 | true =>
  simp only[Bool.true_and]
  have h2:1≤R.length∧R.length≤t:=by
   simp only[inB,Bool.and_eq_true,decide_eq_true_eq] at hi
   omega
  have hw:wrap64 (t - c)=t - c:=wr_id (by omega) (by omega)
  rw[gOk_rOk n s R (by omega),hw]
  match R,h2 with
  | [g],_ =>
   simp only[rOk,cS,cI,prevP,torP,hw,Bool.and_true,Bool.true_and]
   cases tripP n s g with
   | false=>rfl
   | true =>
    cases sameP ov g with
    | false=>simp
    | true =>
     cases sideP ov g with
     | true =>
      simp only[if_true,Bool.true_and,Bool.and_true]
      rw[wr_id (by omega) (by omega)]
      by_cases h0:c=0
      ·
       subst h0;simp
      ·
       simp[h0];omega
     | false =>
      simp only[Bool.false_eq_true,if_false,Bool.true_and,Bool.and_true]
      rw[wr_id (by omega) (by omega)]
      by_cases h0:t - c=0
      ·
       rw[h0];simp
      ·
       simp[h0];omega
  | [g,q],h =>
   obtain rfl:t=2:=by simp at h;omega
   simp only[rOk,cS,cI,prevP,torP,togP,hw,Bool.and_true,Bool.true_and]
   cases tripP n s g with
   | false=>rfl
   | true =>
    cases tripP n s q with
    | false=>simp
    | true =>
     cases shareP g q with
     | true=>simp
     | false =>
      cases ltL g q with
      | false=>simp
      | true =>
       cases sameP ov g with
       | false=>simp
       | true =>
        cases sameP ov q with
        | false=>simp
        | true =>
         obtain rfl|rfl|rfl:c=0∨c=1∨c=2:=by omega
         all_goals cases sideP ov g <;> cases sideP ov q <;> decide +kernel
  | _ :: _ :: _ :: _,h =>
   exfalso
   simp only[List.length_cons] at h
   omega
theorem toCan_in (X:List (List Int)) (a b i L:Int) (g:List Int) (ov:List Bool) (c:Int) (V:Bool) (hg:0 < g.length) (hi:∀ x ∈ g,0≤x∧x < (ov.length:Int)) (hl:g.length≤1048576):∀ (r pre:List Int),g=pre ++ r→((r.all fun x=>rdOf false ov x == sideP ov g)=true→Ev (fun k=>if sideP ov g=true then spec_toCan.l0 k X a (wrap64 (b - 1)) X L (wrap64 (i+1)) ov c else spec_toCan.l0 k X (wrap64 (a - 1)) b X L (wrap64 (i+1)) ov c) V)→Ev (fun k=>spec_toCan.l1 k X a b g X L i g (g.length:Int) (pre.length:Int) ov c) ((r.all fun x=>rdOf false ov x == sideP ov g) && V):=by
 have h0:0≤rd g 0∧rd g 0 < (ov.length:Int):=by
  match g,hg with
  | x :: g,_=>exact hi x (by simp)
 intro r
 induction r with
 | nil =>
  intro pre e hv
  refine ev_eq (Ev.step (fun k=>?_) (hv rfl)) (by simp)
  simp only[spec_toCan.l1]
  rw[if_neg (by rw[e];simp),if_pos (by omega),if_pos h0.1,if_pos h0.2]
  rfl
 | cons x r ih =>
  intro pre e hv
  have hx:=hi x (by rw[e];simp)
  have h1:(pre.length:Int) < (g.length:Int):=by rw[e];exact lt_mid pre x r
  have hr:rd g (pre.length:Int)=x:=by rw[e];exact rd_mid pre x r
  by_cases q:rdOf false ov x=sideP ov g
  ·
   refine ev_eq (Ev.step (fun k=>?_) (ih (pre ++ [x]) (by rw[e];simp) (fun h=>hv (by simp only[List.all_cons,q,beq_self_eq_true,Bool.true_and];exact h)))) (by simp[q])
   simp only[spec_toCan.l1]
   rw[if_pos h1,if_pos (zle _),if_pos h1,hr,if_pos hx.1,if_pos hx.2,if_pos (by omega),if_pos h0.1,if_pos h0.2,if_neg (by rw[q];simp[sideP]),wr_id (by omega) (by omega)]
   simp
  ·
   refine Ev.step (f:=fun _=>some false) (fun k=>?_) (ev_eq (Ev.now _) (by simp[q]))
   simp only[spec_toCan.l1]
   rw[if_pos h1,if_pos (zle _),if_pos h1,hr,if_pos hx.1,if_pos hx.2,if_pos (by omega),if_pos h0.1,if_pos h0.2,if_pos (by simpa [sideP] using q)]
theorem toCan_loop (n:Nat) (s:Int) (X:List (List Int)) (ov:List Bool) (c:Int) (hX:X.length≤1048576) (hn:n=ov.length) (ht:∀ g ∈ X,tripP n s g=true) (hs:∀ g ∈ X,g.length≤1048576):∀ (r q:List (List Int)) (p:Option (List Int)) (a b:Int),X=q ++ r→(match p with|none=>q=[]|some p=>∃ q',q=q' ++ [p])→Ev (fun k=>spec_toCan.l0 k X a b X (X.length:Int) (q.length:Int) ov c) (cS ov p a b r):=by
 intro r
 induction r with
 | nil =>
  intro q p a b e hp
  refine Ev.step (f:=fun _=>some _) (fun k=>?_) (Ev.now _)
  simp only[spec_toCan.l0]
  rw[if_neg (by rw[e];simp)]
  simp only[cS]
  by_cases h:a ≥ 0 <;> simp [h]
 | cons g r ih =>
  intro q p a b e hp
  have hgX:g ∈ X:=by rw[e];simp
  have h1:(q.length:Int) < (X.length:Int):=by rw[e];exact lt_mid q g r
  have hr:rd_L2 X (q.length:Int)=g:=by rw[e];exact rd_L2_mid q g r
  have htg:=ht g hgX
  have hin:∀ x ∈ g,0≤x∧x < (ov.length:Int):=by rw[← hn];exact tripP_in htg
  have hg0:0 < g.length:=by
   unfold tripP at htg
   simp only[Bool.and_eq_true] at htg
   have:=htg.1.1
   simp only[inB,Bool.and_eq_true,decide_eq_true_eq] at this
   omega
  have hw:wrap64 ((q.length:Int)+1)=((q ++ [g]).length:Int):=by rw[wr_id (by omega) (by omega)];simp
  have body:∀ o:Bool,Ev (fun k=>spec_toCan.j1 k X a b g X (X.length:Int) (q.length:Int) (!o) ov c) (o && (sameP ov g && if sideP ov g then cS ov (some g) a (wrap64 (b - 1)) r else cS ov (some g) (wrap64 (a - 1)) b r)):=by
   intro o
   cases o with
   | false=>exact Ev.step (f:=fun _=>some false) (fun k=>by simp only[spec_toCan.j1];rfl) (Ev.now _)
   | true =>
    refine Ev.step (f:=fun k=>spec_toCan.l1 k X a b g X (X.length:Int) (q.length:Int) g (g.length:Int) 0 ov c) (fun k=>by simp only[spec_toCan.j1];rfl) ?_
    rw[Bool.true_and]
    refine toCan_in X a b (q.length:Int) (X.length:Int) g ov c _ hg0 hin (hs g hgX) g [] rfl (fun _=>?_)
    rw[hw]
    cases hd:sideP ov g with
    | true=>simp only[if_true];exact ih (q ++ [g]) (some g) a _ (by rw[e];simp) ⟨q,rfl⟩
    | false=>simp only[Bool.false_eq_true,if_false];exact ih (q ++ [g]) (some g) _ b (by rw[e];simp) ⟨q,rfl⟩
  cases p with
  | none =>
   simp only at hp
   subst hp
   refine Ev.step (fun k=>?_) (ev_eq (body true) (by simp only[cS,prevP]))
   simp only[spec_toCan.l0]
   rw[if_pos h1,if_pos (zle _),if_pos h1,if_neg (by simp),hr]
   rfl
  | some p =>
   obtain ⟨q',rfl⟩:=hp
   have hl:((q' ++ [p]).length:Int)=(q'.length:Int)+1:=by simp
   have hr0:rd_L2 X (q'.length:Int)=p:=by rw[e,List.append_assoc];exact rd_L2_mid q' p _
   refine Ev.step (f:=fun k=>(spec_cuBefore.f k p g).bind fun t551=>spec_toCan.j1 k X a b g X (X.length:Int) ((q' ++ [p]).length:Int) (!t551) ov c) (fun k=>?_) (Ev.bind (before_ev p g (hs p (by rw[e];simp)) (hs g hgX)) (ev_eq (body _) (by simp only[cS,prevP])))
   simp only[spec_toCan.l0]
   rw[if_pos h1,if_pos (zle _),if_pos h1,if_pos (by rw[hl];omega),hr,show wrap64 (((q' ++ [p]).length:Int) - 1)=(q'.length:Int) by rw[hl];exact wr_pred' _ (by omega),if_pos (zle _),if_pos (by omega),hr0]
theorem toCan_ev (l:List Int) (s t:Int) (ov:List Bool) (c:Int) (R:List (List Int)) (hn:l.length≤40) (ho:ov.length=l.length) (hR:R.length≤1048576) (hg:∀ g ∈ R,g.length≤1048576) (ht:1≤t∧t≤2) (hc:0≤c∧c≤t):Ev (fun k=>spec_toCan.f k l s t ov c R) (roundP l.length s t ov c R):=by
 unfold spec_toCan.f
 rw[← round_same _ _ _ _ _ _ ht hc]
 refine Ev.bind (toGroups_ev l s t R hn hR hg) ?_
 cases hp:grpP l.length s t R with
 | false=>exact Ev.now _
 | true =>
  simp only[if_true,Bool.true_and]
  have hgk:gOk l.length s R 0=true:=by unfold grpP at hp;simp only[Bool.and_eq_true] at hp;exact hp.2
  exact toCan_loop l.length s R ov c hR ho.symm (gOk_in R 0 hgk) hg R [] none _ c rfl rfl
theorem together_eq (l:List Int) (s t:Int) (ov:List Bool) (c:Int) (p g:List Int) (hp:0 < p.length) (hg:0 < g.length) (hip:∀ x ∈ p,0≤x∧x < (ov.length:Int)) (hig:∀ x ∈ g,0≤x∧x < (ov.length:Int)):impl_Night_together.f l s t ov c p g=some (togP t ov c p g):=by
 have h1:0≤rd p 0∧rd p 0 < (ov.length:Int):=by
  match p,hp with
  | x :: p,_=>exact hip x (by simp)
 have h2:0≤rd g 0∧rd g 0 < (ov.length:Int):=by
  match g,hg with
  | x :: g,_=>exact hig x (by simp)
 unfold impl_Night_together.f togP
 rw[if_pos (by omega),if_pos h1.1,if_pos h1.2,share_eq,Option.bind_some]
 cases shareP p g with
 | true=>rfl
 | false =>
  rw[if_neg (by simp),if_pos (by omega),if_pos h2.1,if_pos h2.2]
  show (if (sideP ov p != sideP ov g)=true then some true else _)=_
  cases hq:(sideP ov p != sideP ov g) with
  | true=>rfl
  | false =>
   rw[if_neg (by simp)]
   show (impl_Night_torches.f l s t ov c (sideP ov p)).bind _=_
   unfold impl_Night_torches.f torP
   cases sideP ov p <;> rfl
theorem isRound_loop (l:List Int) (s t:Int) (X:List (List Int)) (ov:List Bool) (c:Int) (hl:l.length≤1048576) (hX:X.length≤1048576) (hn:ov.length=l.length) (hs:∀ g ∈ X,g.length≤1048576):∀ (r q:List (List Int)) (p:Option (List Int)),X=q ++ r→(match p with|none=>q=[]|some p=>∃ q',q=q' ++ [p]∧tripP l.length s p=true)→Ev (fun k=>impl_Night_isRound.l0 k X X (X.length:Int) (q.length:Int) l s t ov c) (cI l.length s t ov c p r):=by
 intro r
 induction r with
 | nil =>
  intro q p e hp
  refine Ev.step (f:=fun _=>some true) (fun k=>?_) (Ev.now _)
  simp only[impl_Night_isRound.l0]
  rw[if_neg (by rw[e];simp)]
 | cons g r ih =>
  intro q p e hp
  have hgX:g ∈ X:=by rw[e];simp
  have h1:(q.length:Int) < (X.length:Int):=by rw[e];exact lt_mid q g r
  have hr:rd_L2 X (q.length:Int)=g:=by rw[e];exact rd_L2_mid q g r
  have hw:wrap64 ((q.length:Int)+1)=((q ++ [g]).length:Int):=by rw[wr_id (by omega) (by omega)];simp
  refine Ev.step (f:=fun k=>(impl_Night_isGroup.f k l s t g).bind fun t599=>(if t599=true then (if 0 < (g.length:Int) then (if 0≤(rd g 0) then (if (rd g 0) < (ov.length:Int) then ((impl_Night_torches.f l s t ov c (rdOf false ov (rd g 0))).bind fun t602=>(if t602=0 then (impl_Night_isRound.j1 k X (q.length:Int) g X (X.length:Int) (q.length:Int) true l s t ov c) else ((impl_State_are.f ov false g (rdOf false ov (rd g 0))).bind fun t605=>(impl_Night_isRound.j1 k X (q.length:Int) g X (X.length:Int) (q.length:Int) (!t605) l s t ov c)))) else (none)) else (none)) else (none)) else (impl_Night_isRound.j1 k X (q.length:Int) g X (X.length:Int) (q.length:Int) true l s t ov c))) (fun k=>?_) (Ev.bind (isGroup_ev l s t g hl (hs g hgX)) ?_)
  ·
   simp only[impl_Night_isRound.l0]
   rw[if_pos h1,if_pos (zle _),if_pos h1,hr]
  have bad:Ev (fun k=>impl_Night_isRound.j1 k X (q.length:Int) g X (X.length:Int) (q.length:Int) true l s t ov c) false:=Ev.step (f:=fun _=>some false) (fun k=>by simp only[impl_Night_isRound.j1];rfl) (Ev.now _)
  cases htg:tripP l.length s g with
  | false =>
   simp only[Bool.false_eq_true,if_false]
   exact ev_eq bad (by simp only[cI,htg,Bool.false_and])
  | true =>
   have hin:∀ x ∈ g,0≤x∧x < (ov.length:Int):=by rw[hn];exact tripP_in htg
   have hg0:0 < g.length:=trip_pos htg
   have h0:0≤rd g 0∧rd g 0 < (ov.length:Int):=by
    match g,hg0,hin with
    | x :: g,_,hin=>exact hin x (by simp)
   have htor:impl_Night_torches.f l s t ov c (rdOf false ov (rd g 0))=some (torP t c (sideP ov g)):=by
    unfold impl_Night_torches.f torP
    show (if sideP ov g=true then _ else _)=_
    cases sideP ov g <;> rfl
   simp only[if_true,if_pos (show (0:Int) < (g.length:Int) by omega),if_pos h0.1,if_pos h0.2]
   refine Ev.bind (ev_some htor) ?_
   by_cases hz:torP t c (sideP ov g)=0
   ·
    simp only[if_pos hz]
    exact ev_eq bad (by simp only[cI,htg,hz,decide_true,Bool.not_true,Bool.false_and,Bool.and_false])
   ·
    simp only[if_neg hz]
    refine Ev.bind (ev_some (are_eq ov false g (rdOf false ov (rd g 0)) hin)) ?_
    cases hsm:sameP ov g with
    | false =>
     have hsm':(g.all fun x=>rdOf false ov x == rdOf false ov (rd g 0))=false:=hsm
     rw[hsm']
     exact ev_eq bad (by simp only[cI,hsm,Bool.false_and,Bool.and_false])
    | true =>
     have hsm':(g.all fun x=>rdOf false ov x == rdOf false ov (rd g 0))=true:=hsm
     rw[hsm']
     have h2:=ih (q ++ [g]) (some g) (by rw[e];simp) ⟨q,rfl,htg⟩
     cases p with
     | none =>
      simp only at hp
      subst hp
      refine ev_eq (Ev.step (fun k=>?_) h2) (by simp only[cI,htg,hsm,hz,prevP,decide_false,Bool.not_false,Bool.true_and])
      simp only[impl_Night_isRound.j1]
      rw[if_neg (by simp),if_neg (by simp),hw]
     | some p =>
      obtain ⟨q',rfl,htp⟩:=hp
      have hl':((q' ++ [p]).length:Int)=(q'.length:Int)+1:=by simp
      have hr0:rd_L2 X (q'.length:Int)=p:=by rw[e,List.append_assoc];exact rd_L2_mid q' p _
      have hval:cI l.length s t ov c (some p) (g :: r)=((ltL p g && togP t ov c p g) && cI l.length s t ov c (some g) r):=by simp only[cI,htg,hsm,hz,prevP,decide_false,Bool.not_false,Bool.true_and]
      rw[hval]
      refine Ev.step (f:=fun k=>(slices_Compare_int_int.f k p g).bind fun t607=>(if t607 ≥ 0 then (some false) else ((impl_Night_together.f l s t ov c p g).bind fun t609=>(if t609=true then (impl_Night_isRound.l0 k X X (X.length:Int) (wrap64 (((q' ++ [p]).length:Int)+1)) l s t ov c) else (some false))))) (fun k=>?_) (Ev.bind (compare_ev p g (hs p (by rw[e];simp)) (hs g hgX)) ?_)
      ·
       simp only[impl_Night_isRound.j1]
       rw[if_neg (by simp),if_pos (by rw[hl'];omega),show wrap64 (((q' ++ [p]).length:Int) - 1)=(q'.length:Int) by rw[hl'];exact wr_pred' _ (by omega),if_pos (zle _),if_pos (by omega),hr0]
      ·
       have hcl:=cmp_lt p g
       cases hlt:ltL p g with
       | false =>
        rw[hlt] at hcl
        simp only[if_pos (of_decide_eq_true hcl)]
        exact Ev.now _
       | true =>
        rw[hlt] at hcl
        simp only[if_neg (of_decide_eq_false hcl)]
        refine Ev.bind (ev_some (together_eq l s t ov c p g (trip_pos htp) hg0 (by rw[hn];exact tripP_in htp) hin)) ?_
        cases togP t ov c p g with
        | false=>exact Ev.now _
        | true =>
         simp only[if_true,Bool.true_and]
         rw[hw]
         exact h2
theorem isRound_ev (l:List Int) (s t:Int) (ov:List Bool) (c:Int) (R:List (List Int)) (hl:l.length≤1048576) (hn:ov.length=l.length) (hR:R.length≤1048576) (hs:∀ g ∈ R,g.length≤1048576):Ev (fun k=>impl_Night_isRound.f k l s t ov c R) (roundP l.length s t ov c R):=by
 unfold impl_Night_isRound.f roundP
 refine Ev.bind (ev_some (in_eq _ _ _)) ?_
 cases inB 1 t (R.length:Int) with
 | false=>exact Ev.now _
 | true =>
  simp only[if_true,Bool.true_and]
  exact isRound_loop l s t R ov c hl hR hn hs R [] none rfl rfl
theorem isCamp_eq (l:List Int) (s t:Int) (ov:List Bool) (c:Int):impl_IsCamp.f l s t ov c=some (campP l s t ov c):=by
 unfold impl_IsCamp.f campP
 rw[isNight_eq,Option.bind_some]
 cases goodN l s t with
 | false=>rfl
 | true =>
  rw[if_pos rfl]
  unfold impl_Night_hasCamp.f
  rw[in_eq]
  by_cases h:ov.length=l.length
  ·
   rw[if_pos (by omega),decide_eq_true h];rfl
  ·
   rw[if_neg (by omega),decide_eq_false h];rfl
theorem toCampG_ev (l:List Int) (s t:Int) (ov:List Bool) (c:Int) (hl:l.length≤1048576):Ev (fun k=>spec_toCamp.f k l s t ov c) (campP l s t ov c):=by
 unfold spec_toCamp.f campP
 refine Ev.bind (toGood_ev l s t hl) ?_
 cases goodN l s t with
 | false=>exact Ev.now _
 | true =>
  simp only[if_true,l1In_eq,Option.bind_some,Bool.true_and]
  by_cases h:ov.length=l.length
  ·
   simp only[if_pos (show (ov.length:Int)=(l.length:Int) by omega),decide_eq_true h,Bool.true_and];exact Ev.now _
  ·
   simp only[if_neg (show ¬ (ov.length:Int)=(l.length:Int) by omega),decide_eq_false h,Bool.false_and];exact Ev.now _
theorem campP_in {l:List Int} {s t:Int} {ov:List Bool} {c:Int} (h:campP l s t ov c=true):goodN l s t=true∧ov.length=l.length∧0≤c∧c≤t:=by
 unfold campP at h
 simp only[Bool.and_eq_true,decide_eq_true_eq,inB] at h
 exact ⟨h.1,h.2.1,h.2.2⟩
end Go.Proofs.Ytdomojenlofieaa.Pure

namespace Go.Proofs.Ytdomojenlofieaa.Pure
open Go.RowKit Go.Proofs.Ytdomojenlofieaa.C2 Go.Proofs.Ytdomojenlofieaa.H Go.Proofs.YtdomojenlofieaaW.PrintWords Go.Proofs.YtdomojenlofieaaW.PrintLast Go.Proofs.YtdomojenlofieaaW.PrintMore
set_option linter.unusedVariables false
set_option linter.unusedSimpArgs false
def aft1 (ov:List Bool):List Int→List Bool→List Bool
 | [],o=>o
 | x :: r,o=>aft1 ov r (o.set x.toNat (!rdOf false ov x))
def aft (ov:List Bool):List (List Int)→List Bool→List Bool
 | [],o=>o
 | g :: r,o=>aft ov r (aft1 ov g o)
def aftT (ov:List Bool):List (List Int)→Int→Int
 | [],c=>c
 | g :: r,c=>aftT ov r (if sideP ov g then wrap64 (c - 1) else wrap64 (c+1))
theorem aft1_len (ov:List Bool):∀ (g:List Int) (o:List Bool),(aft1 ov g o).length=o.length:=by
 intro g
 induction g with
 | nil=>intro o;rfl
 | cons x r ih=>intro o;simp only[aft1];rw[ih];simp
theorem aft_len (ov:List Bool):∀ (R:List (List Int)) (o:List Bool),(aft ov R o).length=o.length:=by
 intro R
 induction R with
 | nil=>intro o;rfl
 | cons x r ih=>intro o;simp only[aft];rw[ih,aft1_len]
theorem toAfter_in (X:List (List Int)) (L i:Int) (ov:List Bool) (c0 c:Int) (V:List Bool × Int):∀ (r pre:List Int) (o:List Bool),(pre ++ r).length≤1048576→(∀ x ∈ r,0≤x∧x < (ov.length:Int))→o.length=ov.length→Ev (fun k=>spec_toAfter.l0 k X L (wrap64 (i+1)) ov c0 (aft1 ov r o) c) V→Ev (fun k=>spec_toAfter.l1 k X L i (pre ++ r) ((pre ++ r).length:Int) (pre.length:Int) ov c0 o c) V:=by
 intro r
 induction r with
 | nil =>
  intro pre o hl hi ho hv
  refine Ev.step (fun k=>?_) hv
  simp only[spec_toAfter.l1]
  rw[if_neg (nlt_end pre)]
  rfl
 | cons x r ih =>
  intro pre o hl hi ho hv
  have hx:=hi x (by simp)
  refine Ev.step (fun k=>?_) (ih (pre ++ [x]) (o.set x.toNat (!rdOf false ov x)) (by simpa using hl) (fun y hy=>hi y (by simp[hy])) (by simpa using ho) hv)
  simp only[spec_toAfter.l1]
  rw[if_pos (lt_mid pre x r),if_pos (zle _),if_pos (lt_mid pre x r),rd_mid,if_pos hx.1,if_pos hx.2,if_pos (by rw[ho];exact hx.2),wr_mid pre x r (by omega),app_mid pre x r]
theorem toAfter_loop (ov:List Bool) (c0:Int):∀ (r pre:List (List Int)) (o:List Bool) (c:Int),(pre ++ r).length≤1048576→(∀ g ∈ r,0 < g.length∧g.length≤1048576∧∀ x ∈ g,0≤x∧x < (ov.length:Int))→o.length=ov.length→Ev (fun k=>spec_toAfter.l0 k (pre ++ r) ((pre ++ r).length:Int) (pre.length:Int) ov c0 o c) (aft ov r o,aftT ov r c):=by
 intro r
 induction r with
 | nil =>
  intro pre o c hl hg ho
  refine Ev.step (f:=fun _=>some _) (fun k=>?_) (Ev.now _)
  simp only[spec_toAfter.l0]
  rw[if_neg (nlt_end pre)]
  rfl
 | cons g r ih =>
  intro pre o c hl hg ho
  obtain ⟨h1,h2,h3⟩:=hg g (by simp)
  have h0:0≤rd g 0∧rd g 0 < (ov.length:Int):=by
   match g,h1,h3 with
   | x :: g,_,h3=>exact h3 x (by simp)
  have hn:=ih (pre ++ [g]) (aft1 ov g o) (if sideP ov g then wrap64 (c - 1) else wrap64 (c+1)) (by simpa using hl) (fun y hy=>hg y (by simp[hy])) (by rw[aft1_len];exact ho)
  refine Ev.step (f:=fun k=>spec_toAfter.j1 k g (pre ++ g :: r) ((pre ++ g :: r).length:Int) (pre.length:Int) ov c0 o (if sideP ov g then wrap64 (c - 1) else wrap64 (c+1))) (fun k=>?_) (Ev.step (fun k=>spec_toAfter.j1.eq_2 ..) (toAfter_in (pre ++ g :: r) _ (pre.length:Int) ov c0 _ _ g [] o (by simpa using h2) h3 ho ?_))
  ·
   simp only[spec_toAfter.l0]
   rw[if_pos (lt_mid pre g r),if_pos (zle _),if_pos (lt_mid pre g r),rd_L2_mid,if_pos (by omega),if_pos h0.1,if_pos h0.2]
   show (if sideP ov g=true then _ else _)=_
   cases sideP ov g <;> rfl
  ·
   rw[wr_mid pre g r (by omega),app_mid pre g r]
   exact hn
theorem toAfter_ev (ov:List Bool) (c:Int) (R:List (List Int)) (ho:ov.length≤1048576) (hR:R.length≤1048576) (hg:∀ g ∈ R,0 < g.length∧g.length≤1048576∧∀ x ∈ g,0≤x∧x < (ov.length:Int)):Ev (fun k=>spec_toAfter.f k ov c R) (aft ov R ov,aftT ov R c):=by
 unfold spec_toAfter.f
 simp only[Option.bind_some,List.nil_append,List.length_nil,Nat.zero_add,if_pos (show ov.length < 140737488355328 by omega)]
 exact toAfter_loop ov c R [] ov c (by simpa using hR) hg rfl
theorem after_in (X:List (List Int)) (L i:Int) (ov:List Bool) (c0 c:Int) (V:List Bool × Int):∀ (r pre:List Int) (o:List Bool),(pre ++ r).length≤1048576→(∀ x ∈ r,0≤x∧x < (ov.length:Int))→o.length=ov.length→Ev (fun k=>impl_Camp_after.l0 k X L (wrap64 (i+1)) ov c0 (aft1 ov r o) c) V→Ev (fun k=>impl_Camp_after.l1 k X L i (pre ++ r) ((pre ++ r).length:Int) (pre.length:Int) ov c0 o c) V:=by
 intro r
 induction r with
 | nil =>
  intro pre o hl hi ho hv
  refine Ev.step (fun k=>?_) hv
  simp only[impl_Camp_after.l1]
  rw[if_neg (nlt_end pre)]
  rfl
 | cons x r ih =>
  intro pre o hl hi ho hv
  have hx:=hi x (by simp)
  refine Ev.step (fun k=>?_) (ih (pre ++ [x]) (o.set x.toNat (!rdOf false ov x)) (by simpa using hl) (fun y hy=>hi y (by simp[hy])) (by simpa using ho) hv)
  simp only[impl_Camp_after.l1]
  rw[if_pos (lt_mid pre x r),if_pos (zle _),if_pos (lt_mid pre x r),rd_mid,if_pos hx.1,if_pos hx.2,if_pos (by rw[ho];exact hx.2),wr_mid pre x r (by omega),app_mid pre x r]
theorem after_loop (ov:List Bool) (c0:Int):∀ (r pre:List (List Int)) (o:List Bool) (c:Int),(pre ++ r).length≤1048576→(∀ g ∈ r,0 < g.length∧g.length≤1048576∧∀ x ∈ g,0≤x∧x < (ov.length:Int))→o.length=ov.length→Ev (fun k=>impl_Camp_after.l0 k (pre ++ r) ((pre ++ r).length:Int) (pre.length:Int) ov c0 o c) (aft ov r o,aftT ov r c):=by
 intro r
 induction r with
 | nil =>
  intro pre o c hl hg ho
  refine Ev.step (f:=fun _=>some _) (fun k=>?_) (Ev.now _)
  simp only[impl_Camp_after.l0]
  rw[if_neg (nlt_end pre)]
  rfl
 | cons g r ih =>
  intro pre o c hl hg ho
  obtain ⟨h1,h2,h3⟩:=hg g (by simp)
  have h0:0≤rd g 0∧rd g 0 < (ov.length:Int):=by
   match g,h1,h3 with
   | x :: g,_,h3=>exact h3 x (by simp)
  have hn:=ih (pre ++ [g]) (aft1 ov g o) (if sideP ov g then wrap64 (c - 1) else wrap64 (c+1)) (by simpa using hl) (fun y hy=>hg y (by simp[hy])) (by rw[aft1_len];exact ho)
  refine Ev.step (f:=fun k=>impl_Camp_after.l1 k (pre ++ g :: r) ((pre ++ g :: r).length:Int) (pre.length:Int) g (g.length:Int) 0 ov c0 o (if sideP ov g then wrap64 (c - 1) else wrap64 (c+1))) (fun k=>?_) (after_in (pre ++ g :: r) _ (pre.length:Int) ov c0 _ _ g [] o (by simpa using h2) h3 ho ?_)
  ·
   simp only[impl_Camp_after.l0]
   rw[if_pos (lt_mid pre g r),if_pos (zle _),if_pos (lt_mid pre g r),rd_L2_mid,if_pos (by omega),if_pos h0.1,if_pos h0.2]
   show (impl_bit.f (sideP ov g)).bind _=_
   unfold impl_bit.f
   cases sideP ov g
   ·
    rw[if_neg (by simp),Option.bind_some,show wrap64 (1 - wrap64 (2 * 0))=1 by decide +kernel];rfl
   ·
    rw[if_pos rfl,Option.bind_some,show wrap64 (1 - wrap64 (2 * 1)) = -1 by decide +kernel];rfl
  ·
   rw[wr_mid pre g r (by omega),app_mid pre g r]
   exact hn
theorem after_ev (ov:List Bool) (c:Int) (R:List (List Int)) (ho:ov.length≤1048576) (hR:R.length≤1048576) (hg:∀ g ∈ R,0 < g.length∧g.length≤1048576∧∀ x ∈ g,0≤x∧x < (ov.length:Int)):Ev (fun k=>impl_Camp_after.f k ov c R) (aft ov R ov,aftT ov R c):=by
 unfold impl_Camp_after.f
 refine Ev.bind (a:=ov) (ev_some (by unfold slices_Clone_bool_bool.f;rw[if_pos (by omega)])) ?_
 exact after_loop ov c R [] ov c (by simpa using hR) hg rfl
theorem cI_in {n:Nat} {s t:Int} {ov:List Bool} {c:Int}:∀ (R:List (List Int)) (p:Option (List Int)),cI n s t ov c p R=true→∀ g ∈ R,tripP n s g=true:=by
 intro R
 induction R with
 | nil=>intro p h g hg;cases hg
 | cons g r ih =>
  intro p h
  simp only[cI,Bool.and_eq_true] at h
  intro q hq
  rcases List.mem_cons.1 hq with rfl|hq
  ·
   exact h.1
  ·
   exact ih _ h.2.2.2.2 q hq
theorem roundP_in {n:Nat} {s t:Int} {ov:List Bool} {c:Int} {R:List (List Int)} (h:roundP n s t ov c R=true):∀ g ∈ R,tripP n s g=true:=by
 unfold roundP at h
 simp only[Bool.and_eq_true] at h
 exact cI_in R none h.2
theorem cS_fin (ov:List Bool):∀ (R:List (List Int)) (p:Option (List Int)) (a b x:Int) (N:Nat),cS ov p a b R=true → -(N:Int)≤a→a≤N → -(N:Int)≤b→b≤N → -(N:Int)≤x→x≤N→N+R.length≤1000→∃ fa fb,0≤fa∧fa≤a∧0≤fb∧fb≤b∧aftT ov R x=x+(a - fa) - (b - fb):=by
 intro R
 induction R with
 | nil =>
  intro p a b x N h _ _ _ _ _ _ _
  simp only[cS,Bool.and_eq_true,decide_eq_true_eq] at h
  exact ⟨a,b,h.1,Int.le_refl _,h.2,Int.le_refl _,by simp only[aftT];omega⟩
 | cons g r ih =>
  intro p a b x N h h1 h2 h3 h4 h5 h6 h7
  simp only[List.length_cons] at h7
  simp only[cS,Bool.and_eq_true] at h
  have h8:=h.2.2
  simp only[aftT]
  cases hd:sideP ov g with
  | true =>
   rw[hd] at h8
   simp only[if_true] at h8 ⊢
   rw[wr_id (by omega) (by omega)] at h8
   rw[wr_id (by omega) (by omega)]
   obtain ⟨fa,fb,k1,k2,k3,k4,k5⟩:=ih (some g) a (b - 1) (x - 1) (N+1) h8 (by omega) (by omega) (by omega) (by omega) (by omega) (by omega) (by omega)
   exact ⟨fa,fb,k1,k2,k3,by omega,by omega⟩
  | false =>
   rw[hd] at h8
   simp only[Bool.false_eq_true,if_false] at h8 ⊢
   rw[wr_id (by omega) (by omega)] at h8
   rw[wr_id (by omega) (by omega)]
   obtain ⟨fa,fb,k1,k2,k3,k4,k5⟩:=ih (some g) (a - 1) b (x+1) (N+1) h8 (by omega) (by omega) (by omega) (by omega) (by omega) (by omega) (by omega)
   exact ⟨fa,fb,k1,by omega,k3,k4,by omega⟩
theorem aftT_ok {n:Nat} {s t:Int} {ov:List Bool} {c:Int} {R:List (List Int)} (ht:1≤t∧t≤2) (hc:0≤c∧c≤t) (h:roundP n s t ov c R=true):0≤aftT ov R c∧aftT ov R c≤t:=by
 have h2:(R.length:Int)≤t:=by
  unfold roundP at h
  simp only[Bool.and_eq_true,inB,decide_eq_true_eq] at h
  omega
 rw[← round_same n s t ov c R ht hc] at h
 simp only[Bool.and_eq_true] at h
 have hw:wrap64 (t - c)=t - c:=wr_id (by omega) (by omega)
 rw[hw] at h
 obtain ⟨fa,fb,k1,k2,k3,k4,k5⟩:=cS_fin ov R none (t - c) c c 5 h.2 (by omega) (by omega) (by omega) (by omega) (by omega) (by omega) (by omega)
 omega
def playN (n:Nat) (s t:Int):List (List (List Int))→List Bool→Int→Option (List Bool × Int)
 | [],o,c=>some (o,c)
 | R :: rs,o,c=>if roundP n s t o c R then playN n s t rs (aft o R o) (aftT o R c) else none
theorem n3_in {Rs:List (List (List Int))} (h:n3 Rs≤1048576):Rs.length≤1048576∧∀ R ∈ Rs,R.length≤1048576∧∀ g ∈ R,g.length≤1048576:=by
 obtain ⟨h1,h2⟩:=szSum_bound n2 Rs (by simpa only [n3] using h)
 exact ⟨h1,fun R hR=>szSum_bound List.length R (by have:=h2 R hR;simpa only [n2] using this)⟩
theorem round_gs {n:Nat} {s t:Int} {ov:List Bool} {c:Int} {R:List (List Int)} (h:roundP n s t ov c R=true) (ho:ov.length=n) (hs:∀ g ∈ R,g.length≤1048576):∀ g ∈ R,0 < g.length∧g.length≤1048576∧∀ x ∈ g,0≤x∧x < (ov.length:Int):=by
 intro g hg
 have:=roundP_in h g hg
 exact ⟨trip_pos this,hs g hg,by rw[ho];exact tripP_in this⟩
theorem toPlay_loop (l:List Int) (s t:Int) (hl:l.length≤40) (ht:1≤t∧t≤2):∀ (r pre:List (List (List Int))) (o:List Bool) (c:Int),(pre ++ r).length≤1048576→(∀ R ∈ r,R.length≤1048576∧∀ g ∈ R,g.length≤1048576)→o.length=l.length→0≤c∧c≤t→∃ v,Ev (fun k=>spec_toPlay.l0 k (pre ++ r) ((pre ++ r).length:Int) (pre.length:Int) l s t o c) v∧(match playN l.length s t r o c with|none=>v.2.2=false|some (o,c)=>v=(o,c,true)):=by
 intro r
 induction r with
 | nil =>
  intro pre o c hn hr ho hc
  refine ⟨(o,c,true),Ev.step (f:=fun _=>some _) (fun k=>?_) (Ev.now _),rfl⟩
  simp only[spec_toPlay.l0]
  rw[if_neg (nlt_end pre)]
 | cons R r ih =>
  intro pre o c hn hr ho hc
  obtain ⟨h1,h2⟩:=hr R (by simp)
  have he:=toCan_ev l s t o c R hl ho h1 h2 ht hc
  have hu:∀ k,spec_toPlay.l0 (k+1) (pre ++ R :: r) ((pre ++ R :: r).length:Int) (pre.length:Int) l s t o c=(spec_toCan.f k l s t o c R).bind fun t696=>(if t696=true then ((spec_toAfter.f k o c R).bind fun bt697=>(spec_toPlay.l0 k (pre ++ R :: r) ((pre ++ R :: r).length:Int) (wrap64 ((pre.length:Int)+1)) l s t bt697.1 bt697.2)) else (some (o,c,false))):=by
   intro k
   simp only[spec_toPlay.l0]
   rw[if_pos (lt_mid pre R r),if_pos (zle _),if_pos (lt_mid pre R r),rd_L3_mid]
  cases q:roundP l.length s t o c R with
  | false =>
   rw[q] at he
   refine ⟨(o,c,false),Ev.step hu (Ev.bind he (Ev.now _)),?_⟩
   simp[playN,q]
  | true =>
   rw[q] at he
   have hgs:=round_gs q ho h2
   obtain ⟨v,hv,hm⟩:=ih (pre ++ [R]) (aft o R o) (aftT o R c) (by simpa using hn) (fun y hy=>hr y (by simp[hy])) (by rw[aft_len,ho]) (aftT_ok ht hc q)
   refine ⟨v,Ev.step hu (Ev.bind he ?_),?_⟩
   ·
    simp only[if_true]
    refine Ev.bind (toAfter_ev o c R (by omega) h1 hgs) ?_
    dsimp only
    rw[wr_mid pre R r (by omega),app_mid pre R r]
    exact hv
   ·
    simp only[playN,q,if_true];exact hm
theorem playN_len {n:Nat} {s t:Int}:∀ (Rs:List (List (List Int))) (o:List Bool) (c:Int) (o':List Bool) (c':Int),playN n s t Rs o c=some (o',c')→o'.length=o.length:=by
 intro Rs
 induction Rs with
 | nil=>intro o c o' c' h;cases h;rfl
 | cons R rs ih =>
  intro o c o' c' h
  simp only[playN] at h
  by_cases q:roundP n s t o c R=true
  ·
   rw[if_pos q] at h
   rw[ih _ _ _ _ h,aft_len]
  ·
   rw[if_neg q] at h;cases h
end Go.Proofs.Ytdomojenlofieaa.Pure

namespace Go.Proofs.Ytdomojenlofieaa.Pure
open Go.Proofs.Ytdomojenlofieaa.Walk Go.RowKit Go.Proofs.Ytdomojenlofieaa.C2 Go.Proofs.Ytdomojenlofieaa.H Go.Proofs.YtdomojenlofieaaW.PrintWords Go.Proofs.YtdomojenlofieaaW.PrintLast Go.Proofs.YtdomojenlofieaaW.PrintMore
set_option linter.unusedVariables false
set_option linter.unusedSimpArgs false
theorem played_none (l:List Int) (s t:Int) (hl:l.length≤40):∀ (r pre:List (List (List Int))) (o:List Bool) (c:Int),(pre ++ r).length≤1048576→(∀ R ∈ r,R.length≤1048576∧∀ g ∈ R,g.length≤1048576)→o.length=l.length→Ev (fun k=>impl_Night_played.l0 k (pre ++ r) ((pre ++ r).length:Int) (pre.length:Int) l s t o c) (match playN l.length s t r o c with|none=>([],0,false)|some (o,c)=>(o,c,true)):=by
 intro r
 induction r with
 | nil =>
  intro pre o c hn hr ho
  refine Ev.step (f:=fun _=>some _) (fun k=>?_) (Ev.now _)
  simp only[impl_Night_played.l0]
  rw[if_neg (nlt_end pre)]
  rfl
 | cons R r ih =>
  intro pre o c hn hr ho
  obtain ⟨h1,h2⟩:=hr R (by simp)
  have he:=isRound_ev l s t o c R (by omega) ho h1 h2
  have hu:∀ k,impl_Night_played.l0 (k+1) (pre ++ R :: r) ((pre ++ R :: r).length:Int) (pre.length:Int) l s t o c=(impl_Night_isRound.f k l s t o c R).bind fun t696=>(if t696=true then ((impl_Camp_after.f k o c R).bind fun bt697=>(impl_Night_played.l0 k (pre ++ R :: r) ((pre ++ R :: r).length:Int) (wrap64 ((pre.length:Int)+1)) l s t bt697.1 bt697.2)) else (some (([]:List Bool),0,false))):=by
   intro k
   simp only[impl_Night_played.l0]
   rw[if_pos (lt_mid pre R r),if_pos (zle _),if_pos (lt_mid pre R r),rd_L3_mid]
  cases q:roundP l.length s t o c R with
  | false =>
   rw[q] at he
   refine Ev.step hu (Ev.bind he ?_)
   simp only[playN,q,Bool.false_eq_true,if_false]
   exact Ev.now _
  | true =>
   rw[q] at he
   have hgs:=round_gs q ho h2
   have hv:=ih (pre ++ [R]) (aft o R o) (aftT o R c) (by simpa using hn) (fun y hy=>hr y (by simp[hy])) (by rw[aft_len,ho])
   refine Ev.step hu (Ev.bind he ?_)
   simp only[playN,q,if_true]
   refine Ev.bind (after_ev o c R (by omega) h1 hgs) ?_
   dsimp only
   rw[wr_mid pre R r (by omega),app_mid pre R r]
   exact hv
def FnExactRoundsAfter_val (l:List Int) (s t:Int) (ov:List Bool) (c:Int) (Rs:List (List (List Int))):List Bool × Int × Bool:=if campP l s t ov c then (if 30 < Rs.length then ([],0,false) else match playN l.length s t Rs ov c with|none=>([],0,false)|some (o,c)=>(o,c,true)) else ([],0,false)
theorem spec_FnExactRoundsAfter_ev (l:List Int) (s t:Int) (ov:List Bool) (c:Int) (Rs:List (List (List Int))) (hl:l.length≤1048576) (ho:ov.length≤1048576) (hn:n3 Rs≤1048576):Ev (fun k=>spec_RoundsAfter.f k l s t ov c Rs) (FnExactRoundsAfter_val l s t ov c Rs):=by
 obtain ⟨hn1,hn2⟩:=n3_in hn
 unfold spec_RoundsAfter.f FnExactRoundsAfter_val
 refine Ev.bind (toCampG_ev l s t ov c hl) ?_
 cases hg:campP l s t ov c with
 | false =>
  refine Ev.step (f:=fun _=>some ([],0,false)) (fun k=>?_) (Ev.now _)
  simp[spec_RoundsAfter.j0]
 | true =>
  obtain ⟨h1,h2,h3⟩:=campP_in hg
  have h6:=goodN_len h1
  simp only[if_true]
  by_cases q:30 < Rs.length
  ·
   refine Ev.step (f:=fun _=>some ([],0,false)) (fun k=>?_) (ev_eq (Ev.now _) (by rw[if_pos q]))
   simp only[spec_RoundsAfter.j0,decide_eq_true (show (Rs.length:Int) > 30 by omega),if_true]
  ·
   rw[if_neg q]
   obtain ⟨v,hv,hm⟩:=toPlay_loop l s t (by omega) ⟨h6.2.2,h6.2.1⟩ Rs [] ov c (by simpa using hn1) hn2 h2 h3
   have hf:Ev (fun k=>spec_toPlay.f k l s t ov c Rs) v:=by
    unfold spec_toPlay.f
    simp only[Option.bind_some,List.nil_append,List.length_nil,Nat.zero_add,if_pos (show ov.length < 140737488355328 by omega)]
    exact hv
   refine Ev.step (f:=fun k=>(spec_toPlay.f k l s t ov c Rs).bind fun bt417=>(if bt417.2.2=true then (some (bt417.1,bt417.2.1,true)) else (some (([]:List Bool),0,false)))) (fun k=>?_) (Ev.bind hf ?_)
   ·
    simp only[spec_RoundsAfter.j0,decide_eq_false (show ¬ (Rs.length:Int) > 30 by omega),Bool.false_eq_true,if_false]
   ·
    cases hp:playN l.length s t Rs ov c with
    | none =>
     rw[hp] at hm
     simp only at hm
     rw[hm]
     exact Ev.now _
    | some r =>
     obtain ⟨o,d⟩:=r
     rw[hp] at hm
     simp only at hm
     subst hm
     exact Ev.now _
theorem impl_FnExactRoundsAfter_ev (l:List Int) (s t:Int) (ov:List Bool) (c:Int) (Rs:List (List (List Int))) (hl:l.length≤1048576) (ho:ov.length≤1048576) (hn:n3 Rs≤1048576):Ev (fun k=>impl_RoundsAfter.f k l s t ov c Rs) (FnExactRoundsAfter_val l s t ov c Rs):=by
 obtain ⟨hn1,hn2⟩:=n3_in hn
 unfold impl_RoundsAfter.f FnExactRoundsAfter_val
 refine Ev.bind (ev_some (isCamp_eq l s t ov c)) ?_
 cases hg:campP l s t ov c with
 | false=>exact Ev.now _
 | true =>
  obtain ⟨h1,h2,h3⟩:=campP_in hg
  have h6:=goodN_len h1
  simp only[if_true]
  refine Ev.bind (a:=if 30 < Rs.length then ([],0,false) else match playN l.length s t Rs ov c with|none=>([],0,false)|some (o,c)=>(o,c,true)) ?_ (Ev.now _)
  unfold impl_Night_played.f
  by_cases q:30 < Rs.length
  ·
   simp only[if_pos q,if_pos (show (Rs.length:Int) > 30 by omega)]
   exact Ev.now _
  ·
   simp only[if_neg q,if_neg (show ¬ (Rs.length:Int) > 30 by omega)]
   refine Ev.bind (after_ev ov c [] ho (by simp) (by simp)) ?_
   have:=played_none l s t (by omega) Rs [] ov c (by simpa using hn1) hn2 h2
   exact this
theorem FnExactRoundsAfter_small (l:List Int) (s t:Int) (ov:List Bool) (c:Int) (Rs:List (List (List Int))) (hl:l.length≤1048576) (ho:ov.length≤1048576) (hn:n3 Rs≤1048576):(FnExactRoundsAfter_val l s t ov c Rs).1.length≤1048576:=by
 unfold FnExactRoundsAfter_val
 split
 ·
  split
  ·
   simp
  ·
   cases hp:playN l.length s t Rs ov c with
   | none=>simp
   | some r =>
    obtain ⟨o,d⟩:=r
    have:=playN_len Rs _ _ o d hp
    simp only
    omega
 ·
  simp
theorem mkSSS_bound' (l:List (List (List Int))):∀ a:Int,0≤a→a+szSum n2 l≤1000000000000000→a≤(mkSSS l a).1∧(mkSSS l a).1≤a+szSum n2 l:=by
 induction l with
 | nil=>intro a _ _;simp[mkSSS,szSum]
 | cons x l ih =>
  intro a h0 h1
  simp only[szSum] at h1
  have h2:=mkSS_bound x a h0 (by omega)
  have:=ih (mkSS x a).1 (by omega) (by omega)
  simp only[mkSSS,szSum]
  omega
theorem mkSSS_bound (l:List (List (List Int))) (a:Int) (h0:0≤a) (ha:a+n3 l≤1000000000000000):a≤(mkSSS l a).1∧(mkSSS l a).1≤a+n3 l:=by
 simp only[n3] at ha ⊢
 have:=mkSSS_bound' l a h0 (by omega)
 omega
theorem markIntSSS_ev (l:List (List (List Int))) (a:Int):laws_markIntSSS.f l a=some (mkSSS l a):=rfl
theorem toL_ev:∀ l:List (List (List Int)),(∀ x ∈ l,n2 x≤1048576)→Ev (fun k=>toL k l) l
 | [],_=>by simp only[toL];exact Ev.now _
 | x :: l,h=>by
  simp only[toL]
  exact Ev.bind (toIntSS_ev x (h x (by simp))) (Ev.bind (toL_ev l (fun y hy=>h y (by simp[hy]))) (Ev.now _))
theorem toIntSSS_ev (l:List (List (List Int))) (hl:n3 l≤1048576):Ev (fun k=>laws_toIntSSS.f k l) l:=by
 have h1:=szSum_bound n2 l (by simpa only [n3] using hl)
 unfold laws_toIntSSS.f
 simp only[if_pos (show l.length≤1000000000 by omega)]
 exact toL_ev l h1.2
theorem FnExactRoundsAfter_all (A0_0:Option Addr) (c0_0:Nat) (l0_0:List Int) (a0_1:Int) (a0_2:Int) (A1_0:Option Addr) (c1_0:Nat) (l1_0:List Bool) (a1_1:Int) (A2:Option Addr) (c2:Nat) (l2:List (List (List Int))) (w:World) (hr0_0:Kd.C (Kd.int .i64) w A0_0 l0_0.length l0_0) (hc0_0:l0_0.length≤c0_0) (hr1_0:Kd.C Kd.bool w A1_0 l1_0.length l1_0) (hc1_0:l1_0.length≤c1_0) (hr2:Kd.C (Kd.slice 22 (Kd.slice 3 (Kd.int .i64))) w A2 l2.length l2) (hc2:l2.length≤c2) (g0_0:goodL goodI l0_0) (g0_1:goodI a0_1) (g0_2:goodI a0_2) (g1_0:goodL (fun _=>True) l1_0) (g1_1:goodI a1_1) (g2:goodL (goodL (goodL goodI)) l2) :
  Calls Try.prog 3 #[.agg #[.slice A0_0 l0_0.length c0_0, .int .i64 a0_1, .int .i64 a0_2], .agg #[.slice A1_0 l1_0.length c1_0, .int .i64 a1_1], .slice A2 l2.length c2] w fun e w'=>e = .returned (.bool true)∧Below w.heap.size w w':=by
 obtain ⟨u0,hu0,hc⟩:=szNight_cases l0_0 a0_1 a0_2 1048576 (by omega) (by omega) g0_0.1
 replace hu0:=ev_some hu0
 rcases hc with hc|⟨b0,d0⟩
 ·
  obtain ⟨Kx,fx⟩:=hu0
  exact FnExactRoundsAfter_short0 _ _ _ _ _ _ _ _ _ _ _ _ w hr0_0 hc0_0 hr1_0 hc1_0 hr2 hc2  _ (fx _ (Nat.le_refl _)) hc
 have nu0:¬ u0 < 0:=by omega
 obtain ⟨u1,hu1,hc⟩:=szCamp_cases l1_0 a1_1 u0 b0 (by omega) g1_0.1
 replace hu1:=ev_some hu1
 rcases hc with hc|⟨b1,d1⟩
 ·
  obtain ⟨Ky0,fy0⟩:=hu0
  obtain ⟨Kx,fx⟩:=hu1
  exact FnExactRoundsAfter_short1 _ _ _ _ _ _ _ _ _ _ _ _ w hr0_0 hc0_0 hr1_0 hc1_0 hr2 hc2 _ (fy0 _ (Nat.le_refl _)) nu0 _ (fx _ (Nat.le_refl _)) hc
 have nu1:¬ u1 < 0:=by omega
 obtain ⟨u2,hu2,hc⟩:=szIntSSS_cases l2 u1 b1 (by omega) (good3 g2)
 rcases hc with hc|⟨b2,d2⟩
 ·
  obtain ⟨Ky0,fy0⟩:=hu0
  obtain ⟨Ky1,fy1⟩:=hu1
  obtain ⟨Kx,fx⟩:=hu2
  exact FnExactRoundsAfter_short2 _ _ _ _ _ _ _ _ _ _ _ _ w hr0_0 hc0_0 hr1_0 hc1_0 hr2 hc2 _ (fy0 _ (Nat.le_refl _)) nu0 _ (fy1 _ (Nat.le_refl _)) nu1 _ _ (fx _ (Nat.le_refl _)) hc
 have nu2:¬ u2 < 0:=by omega
 have z0_0:List.length l0_0≤1048576:=by omega
 have z1_0:List.length l1_0≤1048576:=by omega
 have z2:n3 l2≤1048576:=by omega
 have et0:=toNight_ev l0_0 a0_1 a0_2 z0_0
 have et1:=toCamp_ev l1_0 a1_1 z1_0
 have et2:=toIntSSS_ev l2 z2
 have es:=spec_FnExactRoundsAfter_ev l0_0 a0_1 a0_2 l1_0 a1_1 l2 z0_0 z1_0 z2
 have ei:=impl_FnExactRoundsAfter_ev l0_0 a0_1 a0_2 l1_0 a1_1 l2 z0_0 z1_0 z2
 have hsm:=FnExactRoundsAfter_small l0_0 a0_1 a0_2 l1_0 a1_1 l2 z0_0 z1_0 z2
 generalize FnExactRoundsAfter_val l0_0 a0_1 a0_2 l1_0 a1_1 l2=rr at *
 obtain ⟨r0_0,r0_1,r1⟩:=rr
 dsimp only at hsm
 have s0_0:=hsm
 have eq0:Ev (fun k=>laws_eqCamp.f k r0_0 r0_1 r0_0 r0_1) true:=ev_eq (eqCamp_ev r0_0 r0_1 r0_0 r0_1 s0_0) (decide_eq_true rfl)
 have ea0:Ev (fun k=>laws_eqNight.f k l0_0 a0_1 a0_2 l0_0 a0_1 a0_2) true:=ev_eq (eqNight_ev l0_0 a0_1 a0_2 l0_0 a0_1 a0_2 z0_0) (decide_eq_true rfl)
 have ea1:Ev (fun k=>laws_eqCamp.f k l1_0 a1_1 l1_0 a1_1) true:=ev_eq (eqCamp_ev l1_0 a1_1 l1_0 a1_1 z1_0) (decide_eq_true rfl)
 have ea2:Ev (fun k=>laws_eqIntSSS.f k l2 l2) true:=ev_eq (eqIntSSS_ev l2 l2 z2) (decide_eq_true rfl)
 have ema0:=markNight_ev l0_0 a0_1 a0_2 (1) z0_0
 have bma0_0:=mkS_bound l0_0 (1) (by omega) (by omega)
 have na0_0:¬ (mkS l0_0 (1)).1 < 0:=by omega
 have ema1:=markCamp_ev l1_0 a1_1 ((mkS l0_0 (1)).1) z1_0
 have bma1_0:=mkB_bound l1_0 ((mkS l0_0 (1)).1) (by omega) (by omega)
 have na1_0:¬ (mkB l1_0 ((mkS l0_0 (1)).1)).1 < 0:=by omega
 have ema2:=ev_some (markIntSSS_ev l2 ((mkB l1_0 ((mkS l0_0 (1)).1)).1))
 have bma2:=mkSSS_bound l2 ((mkB l1_0 ((mkS l0_0 (1)).1)).1) (by omega) (by omega)
 have na2:¬ (mkSSS l2 ((mkB l1_0 ((mkS l0_0 (1)).1)).1)).1 < 0:=by omega
 have emr0:=markCamp_ev r0_0 r0_1 (1) s0_0
 have bmr0_0:=mkB_bound r0_0 (1) (by omega) (by omega)
 have nr0_0:¬ (mkB r0_0 (1)).1 < 0:=by omega
 have eh0:=heldCamp_ev r0_0 r0_1 (1) (by omega) (by omega) s0_0
 clear bma0_0 bma1_0 bma2 bmr0_0
 obtain ⟨Khu0,fhu0⟩:=hu0
 obtain ⟨Khu1,fhu1⟩:=hu1
 obtain ⟨Khu2,fhu2⟩:=hu2
 obtain ⟨Ket0,fet0⟩:=et0
 obtain ⟨Ket1,fet1⟩:=et1
 obtain ⟨Ket2,fet2⟩:=et2
 obtain ⟨Kes,fes⟩:=es
 obtain ⟨Kei,fei⟩:=ei
 obtain ⟨Keq0,feq0⟩:=eq0
 obtain ⟨Kea0,fea0⟩:=ea0
 obtain ⟨Kea1,fea1⟩:=ea1
 obtain ⟨Kea2,fea2⟩:=ea2
 obtain ⟨Kema0,fema0⟩:=ema0
 obtain ⟨Kema1,fema1⟩:=ema1
 obtain ⟨Kema2,fema2⟩:=ema2
 obtain ⟨Kemr0,femr0⟩:=emr0
 obtain ⟨Keh0,feh0⟩:=eh0
 exact FnExactRoundsAfter_walk _ _ _ _ _ _ _ _ _ _ _ _ _ _ _ _ _ _ _ _ _ _ _ _ _ _ Khu2 Ket0 Ket1 Ket2 Kes Kei Keq0 Kea0 Kea1 Kea2 Kema0 Kema1 Kemr0 Keh0 w hr0_0 hc0_0 hr1_0 hc1_0 hr2 hc2  (fhu0 _ (Nat.le_refl _)) nu0 (fhu1 _ (Nat.le_refl _)) nu1 (fhu2 _ (Nat.le_refl _)) nu2 (fet0 _ (Nat.le_refl _)) (fet1 _ (Nat.le_refl _)) (fet2 _ (Nat.le_refl _)) (fes _ (Nat.le_refl _)) (fei _ (Nat.le_refl _)) (feq0 _ (Nat.le_refl _)) (fea0 _ (Nat.le_refl _)) (fea1 _ (Nat.le_refl _)) (fea2 _ (Nat.le_refl _)) (fema0 _ (Nat.le_refl _)) (fema1 _ (Nat.le_refl _)) (fema2 _ (Nat.le_refl _)) na2 (femr0 _ (Nat.le_refl _)) (feh0 _ (Nat.le_refl _)) nr0_0
end Go.Proofs.Ytdomojenlofieaa.Pure
