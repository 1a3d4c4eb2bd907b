import Derived.Test.YtikjdmiohpdnaaaC20zx0
import Derived.Test.YtikjdmiohpdnaaaC20zH0
import Derived.Test.YtikjdmiohpdnaaaC20zH1
import Derived.Test.YtikjdmiohpdnaaaC20zx1
import Derived.Test.YtikjdmiohpdnaaaC20zx2
import Derived.Test.YtikjdmiohpdnaaaC20zx13
import Derived.Test.YtikjdmiohpdnaaaC20zx5
import Derived.Test.YtikjdmiohpdnaaaC20zx14
import Derived.Test.YtikjdmiohpdnaaaC20zx4
import Derived.Test.YtikjdmiohpdnaaaC20zx3
import Derived.Test.YtikjdmiohpdnaaaC20zx15
import Derived.Test.YtikjdmiohpdnaaaC20zx6
import Derived.Test.YtikjdmiohpdnaaaC20zx7
import Derived.Test.YtikjdmiohpdnaaaC20zx8
import Derived.Test.YtikjdmiohpdnaaaC20zx9
import Derived.Test.YtikjdmiohpdnaaaC20zx17
import Derived.Test.YtikjdmiohpdnaaaC20zx18
import Derived.Test.YtikjdmiohpdnaaaC20zx10
import Derived.Test.YtikjdmiohpdnaaaC20zx11
import Derived.Test.YtikjdmiohpdnaaaC20zx12
import Derived.Test.YtikjdmiohpdnaaaC20zH2
import Derived.Test.YtikjdmiohpdnaaaC20zS
namespace Go.Proofs.Ytikjdmiohpdnaaa.Pure
open Go.RowKit Go.Proofs.Ytikjdmiohpdnaaa.C20 Go.Proofs.Ytikjdmiohpdnaaa.H Go.Proofs.YtikjdmiohpdnaaaW.PrintWords Go.Proofs.YtikjdmiohpdnaaaW.PrintLast Go.Proofs.YtikjdmiohpdnaaaW.PrintMore
set_option linter.unusedVariables false
set_option linter.unusedSimpArgs false
def szSum {α:Type} (f:α→Nat):List α→Nat
 | []=>0
 | x :: l=>f x+szSum f l
def n2 (l:List (List Int)):Nat:=l.length+szSum List.length l
def n3 (l:List (List (List Int))):Nat:=l.length+szSum n2 l
theorem szSum_bound {α:Type} (f:α→Nat) (l:List α) {B:Nat} (h:l.length+szSum f l≤B):l.length≤B∧∀ x ∈ l,f x≤B:=by
 refine ⟨by omega,?_⟩
 have h2:szSum f l≤B:=by omega
 clear h
 induction l with
 | nil=>intro x hx;cases hx
 | cons y l ih =>
  simp only[szSum] at h2
  intro x hx
  rcases List.mem_cons.1 hx with rfl|hx
  ·
   omega
  ·
   exact ih (by omega) x hx
theorem mkS_bound (l:List Int):∀ a:Int,0≤a→a+l.length≤1000000000000000→a≤(mkS l a).1∧(mkS l a).1≤a+l.length:=by
 induction l with
 | nil=>intro a _ _;simp[mkS]
 | cons x l ih =>
  intro a h0 h1
  simp only[List.length_cons] at h1
  simp only[mkS]
  rw[wr_id (by omega) (by omega)]
  have:=ih (a+1) (by omega) (by omega)
  simp only[List.length_cons]
  omega
theorem mkB_bound (l:List Bool):∀ a:Int,0≤a→a+l.length≤1000000000000000→a≤(mkB l a).1∧(mkB l a).1≤a+l.length:=by
 induction l with
 | nil=>intro a _ _;simp[mkB]
 | cons x l ih =>
  intro a h0 h1
  simp only[List.length_cons] at h1
  simp only[mkB]
  rw[wr_id (by omega) (by omega)]
  have:=ih (a+1) (by omega) (by omega)
  simp only[List.length_cons]
  omega
theorem mkS_len (l:List Int):∀ a:Int,(mkS l a).2.length=l.length:=by
 induction l with
 | nil=>intro a;rfl
 | cons x l ih=>intro a;simp only[mkS,List.length_cons];rw[ih]
theorem mkSS_len (l:List (List Int)):∀ a:Int,(mkSS l a).2.length=l.length:=by
 induction l with
 | nil=>intro a;rfl
 | cons x l ih=>intro a;simp only[mkSS,List.length_cons];rw[ih]
theorem mkSS_bound' (l:List (List Int)):∀ a:Int,0≤a→a+szSum List.length l≤1000000000000000→a≤(mkSS l a).1∧(mkSS l a).1≤a+szSum List.length l:=by
 induction l with
 | nil=>intro a _ _;simp[mkSS,szSum]
 | cons x l ih =>
  intro a h0 h1
  simp only[szSum] at h1
  have h2:=mkS_bound x a h0 (by omega)
  have:=ih (mkS x a).1 (by omega) (by omega)
  simp only[mkSS,szSum]
  omega
theorem mkSS_bound (l:List (List Int)) (a:Int) (h0:0≤a) (ha:a+n2 l≤1000000000000000):a≤(mkSS l a).1∧(mkSS l a).1≤a+n2 l:=by
 simp only[n2] at ha ⊢
 have:=mkSS_bound' l a h0 (by omega)
 omega
end Go.Proofs.Ytikjdmiohpdnaaa.Pure

namespace Go.Proofs.Ytikjdmiohpdnaaa.Pure
open Go.RowKit Go.Proofs.Ytikjdmiohpdnaaa.C20 Go.Proofs.Ytikjdmiohpdnaaa.H Go.Proofs.YtikjdmiohpdnaaaW.PrintWords Go.Proofs.YtikjdmiohpdnaaaW.PrintLast Go.Proofs.YtikjdmiohpdnaaaW.PrintMore
set_option linter.unusedVariables false
set_option linter.unusedSimpArgs false
def goodIntS (l:List Int):Prop:=l.length≤9223372036854775807
theorem szIntS_cases (l:List Int) (a:Int) (h0:0≤a) (ha:a≤1048576) (hg:goodIntS l):∃ t,laws_szIntS.f l a=some t∧(t < 0∨(0≤t∧t+(l.length:Int)≤a)):=by
 have hl:l.length≤9223372036854775807:=hg
 unfold laws_szIntS.f
 rw[wr_id (by omega) (by omega)]
 by_cases h:a - (l.length:Int) < 0
 ·
  exact ⟨-1,by rw[if_pos h], .inl (by omega)⟩
 ·
  exact ⟨_,by rw[if_neg h], .inr ⟨by omega,by omega⟩⟩
theorem toIntS_loop (x0:List Int):∀ (r pre suf:List Int),x0=pre ++ r→suf.length=r.length→x0.length≤9223372036854775807→Ev (fun k=>laws_toIntS.l0 k x0 (pre ++ suf) (pre.length:Int)) x0:=by
 intro r
 induction r with
 | nil =>
  intro pre suf e hs hl
  obtain rfl:suf=[]:=List.eq_nil_of_length_eq_zero hs
  subst e
  refine Ev.step (f:=fun _=>some _) (fun k=>?_) (Ev.now _)
  simp only[laws_toIntS.l0]
  rw[if_neg (nlt_end pre)]
 | cons x r ih =>
  intro pre suf e hs hl
  match suf,hs with
  | y :: suf,hs =>
   subst e
   refine Ev.step (fun k=>?_) (ev_eq (ih (pre ++ [x]) suf (by simp) (by simpa using hs) hl) rfl)
   simp only[laws_toIntS.l0]
   rw[if_pos (lt_mid pre x r),if_pos (zle _),if_pos (lt_mid pre y suf),rd_mid,set_mid,wr_mid pre x r hl,app_mid pre x suf]
theorem toIntS_ev (l:List Int) (hl:l.length≤1048576):Ev (fun k=>laws_toIntS.f k l) l:=by
 unfold laws_toIntS.f
 simp only[if_pos (zle l.length),if_pos (show ((l.length:Int)).toNat≤35184372088832 by omega)]
 exact toIntS_loop l l [] _ rfl (by simp) (by omega)
theorem markIntS_loop:∀ (r pre:List Int) (a:Int),(pre ++ r).length≤9223372036854775807→Ev (fun k=>laws_markIntS.l0 k (pre ++ r) a (pre.length:Int)) ((mkS r a).1,pre ++ (mkS r a).2):=by
 intro r
 induction r with
 | nil =>
  intro pre a hl
  refine Ev.step (f:=fun _=>some _) (fun k=>?_) (Ev.now _)
  simp only[laws_markIntS.l0]
  rw[if_neg (nlt_end pre)]
  rfl
 | cons x r ih =>
  intro pre a hl
  refine Ev.step (fun k=>?_) (ev_eq (ih (pre ++ [a]) (wrap64 (a+1)) (by simpa using hl)) (by simp[mkS]))
  simp only[laws_markIntS.l0]
  rw[if_pos (lt_mid pre x r),if_pos (zle _),set_mid,wr_mid pre x r hl,app_mid pre (a) r]
  simp
theorem markIntS_ev (l:List Int) (a:Int) (hl:l.length≤1048576):Ev (fun k=>laws_markIntS.f k l a) (mkS l a):=markIntS_loop l [] a (by simp;omega)
theorem eqIntS_loop:∀ (r s pre qre:List Int),pre.length=qre.length→r.length=s.length→(pre ++ r).length≤9223372036854775807→Ev (fun k=>laws_eqIntS.l0 k (pre ++ r) (qre ++ s) (pre.length:Int)) (decide (r=s)):=by
 intro r
 induction r with
 | nil =>
  intro s pre qre hp hs hl
  obtain rfl:s=[]:=List.eq_nil_of_length_eq_zero hs.symm
  refine Ev.step (f:=fun _=>some _) (fun k=>?_) (Ev.now _)
  simp only[laws_eqIntS.l0]
  rw[if_neg (nlt_end pre)]
  rfl
 | cons x r ih =>
  intro s pre qre hp hs hl
  match s,hs with
  | y :: s,hs =>
   by_cases e:x=y
   ·
    subst e
    refine Ev.step (fun k=>?_) (ev_eq (ih s (pre ++ [x]) (qre ++ [x]) (by simp[hp]) (by simpa using hs) (by simpa using hl)) (by simp))
    simp only[laws_eqIntS.l0]
    rw[if_pos (lt_mid pre x r),if_pos (zle _),if_pos (by rw[hp];exact lt_mid qre x s),rd_mid,hp,rd_mid,if_pos rfl,← hp,wr_mid pre x r hl,app_mid pre x r,app_mid qre x s]
   ·
    refine Ev.step (f:=fun _=>some _) (fun k=>?_) (Ev.now _)
    simp only[laws_eqIntS.l0]
    rw[if_pos (lt_mid pre x r),if_pos (zle _),if_pos (by rw[hp];exact lt_mid qre y s),rd_mid,hp,rd_mid,if_neg e]
    simp[e]
theorem eqIntS_ev (l s:List Int) (hl:l.length≤1048576):Ev (fun k=>laws_eqIntS.f k l s) (decide (l=s)):=by
 unfold laws_eqIntS.f
 by_cases h:l.length=s.length
 ·
  simp only[if_pos (show (l.length:Int)=(s.length:Int) by omega)]
  exact eqIntS_loop l s [] [] rfl h (by simp;omega)
 ·
  simp only[if_neg (show ¬ (l.length:Int)=(s.length:Int) by omega)]
  refine ev_eq (Ev.now _) ?_
  have:l≠s:=fun e=>h (by rw[e])
  simp[this]
theorem heldIntS_loop:∀ (r pre:List Int) (a:Int),(pre ++ r).length≤9223372036854775807→Ev (fun k=>laws_heldIntS.l0 k (pre ++ (mkS r a).2) a (pre.length:Int)) (mkS r a).1:=by
 intro r
 induction r with
 | nil =>
  intro pre a hl
  refine Ev.step (f:=fun _=>some a) (fun k=>?_) (Ev.now _)
  show laws_heldIntS.l0 (k+1) (pre ++ []) a (pre.length:Int)=some a
  simp only[laws_heldIntS.l0]
  rw[if_neg (nlt_end pre)]
 | cons x r ih =>
  intro pre a hl
  refine Ev.step (fun k=>?_) (ev_eq (ih (pre ++ [a]) (wrap64 (a+1)) (by simpa using hl)) (by simp[mkS]))
  show laws_heldIntS.l0 (k+1) (pre ++ (a) :: (mkS r (wrap64 (a+1))).2) a (pre.length:Int)=_
  simp only[laws_heldIntS.l0]
  rw[if_pos (lt_mid pre (a) _),if_pos (zle _),rd_mid,if_pos rfl,wr_mid pre (a) _ (by simp[mkS_len] at hl ⊢;omega),app_mid pre (a)]
theorem heldIntS_ev (l:List Int) (a:Int) (h0:0≤a) (ha:a+l.length≤1000000000000000) (hl:l.length≤1048576):Ev (fun k=>laws_heldIntS.f k (mkS l a).2 a) (mkS l a).1:=heldIntS_loop l [] a (by simp;omega)
def goodBoolS (l:List Bool):Prop:=l.length≤9223372036854775807
theorem szBoolS_cases (l:List Bool) (a:Int) (h0:0≤a) (ha:a≤1048576) (hg:goodBoolS l):∃ t,laws_szBoolS.f l a=some t∧(t < 0∨(0≤t∧t+(l.length:Int)≤a)):=by
 have hl:l.length≤9223372036854775807:=hg
 unfold laws_szBoolS.f
 rw[wr_id (by omega) (by omega)]
 by_cases h:a - (l.length:Int) < 0
 ·
  exact ⟨-1,by rw[if_pos h], .inl (by omega)⟩
 ·
  exact ⟨_,by rw[if_neg h], .inr ⟨by omega,by omega⟩⟩
theorem toBoolS_loop (x0:List Bool):∀ (r pre suf:List Bool),x0=pre ++ r→suf.length=r.length→x0.length≤9223372036854775807→Ev (fun k=>laws_toBoolS.l0 k x0 (pre ++ suf) (pre.length:Int)) x0:=by
 intro r
 induction r with
 | nil =>
  intro pre suf e hs hl
  obtain rfl:suf=[]:=List.eq_nil_of_length_eq_zero hs
  subst e
  refine Ev.step (f:=fun _=>some _) (fun k=>?_) (Ev.now _)
  simp only[laws_toBoolS.l0]
  rw[if_neg (nlt_end pre)]
 | cons x r ih =>
  intro pre suf e hs hl
  match suf,hs with
  | y :: suf,hs =>
   subst e
   refine Ev.step (fun k=>?_) (ev_eq (ih (pre ++ [x]) suf (by simp) (by simpa using hs) hl) rfl)
   simp only[laws_toBoolS.l0]
   rw[if_pos (lt_mid pre x r),if_pos (zle _),if_pos (lt_mid pre y suf),rdOf_mid,set_mid,wr_mid pre x r hl,app_mid pre x suf]
theorem toBoolS_ev (l:List Bool) (hl:l.length≤1048576):Ev (fun k=>laws_toBoolS.f k l) l:=by
 unfold laws_toBoolS.f
 simp only[if_pos (zle l.length),if_pos (show ((l.length:Int)).toNat≤281474976710656 by omega)]
 exact toBoolS_loop l l [] _ rfl (by simp) (by omega)
theorem markBoolS_loop:∀ (r pre:List Bool) (a:Int),(pre ++ r).length≤9223372036854775807→Ev (fun k=>laws_markBoolS.l0 k (pre ++ r) a (pre.length:Int)) ((mkB r a).1,pre ++ (mkB r a).2):=by
 intro r
 induction r with
 | nil =>
  intro pre a hl
  refine Ev.step (f:=fun _=>some _) (fun k=>?_) (Ev.now _)
  simp only[laws_markBoolS.l0]
  rw[if_neg (nlt_end pre)]
  rfl
 | cons x r ih =>
  intro pre a hl
  refine Ev.step (fun k=>?_) (ev_eq (ih (pre ++ [Int.tmod a 3 == 0]) (wrap64 (a+1)) (by simpa using hl)) (by simp[mkB]))
  simp only[laws_markBoolS.l0]
  rw[if_pos (lt_mid pre x r),if_pos (zle _),set_mid,wr_mid pre x r hl,app_mid pre (Int.tmod a 3 == 0) r]
  simp
theorem markBoolS_ev (l:List Bool) (a:Int) (hl:l.length≤1048576):Ev (fun k=>laws_markBoolS.f k l a) (mkB l a):=markBoolS_loop l [] a (by simp;omega)
theorem eqBoolS_loop:∀ (r s pre qre:List Bool),pre.length=qre.length→r.length=s.length→(pre ++ r).length≤9223372036854775807→Ev (fun k=>laws_eqBoolS.l0 k (pre ++ r) (qre ++ s) (pre.length:Int)) (decide (r=s)):=by
 intro r
 induction r with
 | nil =>
  intro s pre qre hp hs hl
  obtain rfl:s=[]:=List.eq_nil_of_length_eq_zero hs.symm
  refine Ev.step (f:=fun _=>some _) (fun k=>?_) (Ev.now _)
  simp only[laws_eqBoolS.l0]
  rw[if_neg (nlt_end pre)]
  rfl
 | cons x r ih =>
  intro s pre qre hp hs hl
  match s,hs with
  | y :: s,hs =>
   by_cases e:x=y
   ·
    subst e
    refine Ev.step (fun k=>?_) (ev_eq (ih s (pre ++ [x]) (qre ++ [x]) (by simp[hp]) (by simpa using hs) (by simpa using hl)) (by simp))
    simp only[laws_eqBoolS.l0]
    rw[if_pos (lt_mid pre x r),if_pos (zle _),if_pos (by rw[hp];exact lt_mid qre x s),rdOf_mid,hp,rdOf_mid,if_neg (by simp),← hp,wr_mid pre x r hl,app_mid pre x r,app_mid qre x s]
   ·
    refine Ev.step (f:=fun _=>some _) (fun k=>?_) (Ev.now _)
    simp only[laws_eqBoolS.l0]
    rw[if_pos (lt_mid pre x r),if_pos (zle _),if_pos (by rw[hp];exact lt_mid qre y s),rdOf_mid,hp,rdOf_mid,if_pos (by simpa using e)]
    simp[e]
theorem eqBoolS_ev (l s:List Bool) (hl:l.length≤1048576):Ev (fun k=>laws_eqBoolS.f k l s) (decide (l=s)):=by
 unfold laws_eqBoolS.f
 by_cases h:l.length=s.length
 ·
  simp only[if_pos (show (l.length:Int)=(s.length:Int) by omega)]
  exact eqBoolS_loop l s [] [] rfl h (by simp;omega)
 ·
  simp only[if_neg (show ¬ (l.length:Int)=(s.length:Int) by omega)]
  refine ev_eq (Ev.now _) ?_
  have:l≠s:=fun e=>h (by rw[e])
  simp[this]
theorem rd_L2_mid (pre:List (List Int)) (x:List Int) (r:List (List Int)):rd_L2 (pre ++ x :: r) (pre.length:Int)=x:=by simp[rd_L2]
theorem eqIntSS_loop:∀ (r s pre qre:List (List Int)),pre.length=qre.length→r.length=s.length→(pre ++ r).length≤9223372036854775807→(∀ x ∈ r,List.length x≤1048576)→Ev (fun k=>laws_eqIntSS.l0 k (pre ++ r) (qre ++ s) (pre.length:Int)) (decide (r=s)):=by
 intro r
 induction r with
 | nil =>
  intro s pre qre hp hs hl hx
  obtain rfl:s=[]:=List.eq_nil_of_length_eq_zero hs.symm
  refine Ev.step (f:=fun _=>some _) (fun k=>?_) (Ev.now _)
  simp only[laws_eqIntSS.l0]
  rw[if_neg (nlt_end pre)]
  rfl
 | cons x r ih =>
  intro s pre qre hp hs hl hx
  match s,hs with
  | y :: s,hs =>
   refine Ev.step (f:=fun k=>(laws_eqIntS.f k x y).bind fun t=>if t=true then laws_eqIntSS.l0 k (pre ++ x :: r) (qre ++ y :: s) (wrap64 ((pre.length:Int)+1)) else some false) (fun k=>?_) (Ev.bind (eqIntS_ev x y (hx x (by simp))) ?_)
   ·
    simp only[laws_eqIntSS.l0]
    rw[if_pos (lt_mid pre x r),if_pos (zle _),if_pos (by rw[hp];exact lt_mid qre y s),rd_L2_mid,hp,rd_L2_mid,← hp]
   ·
    by_cases e:x=y
    ·
     subst e
     simp only[decide_true,if_true]
     rw[wr_mid pre x r hl,app_mid pre x r,app_mid qre x s]
     exact ev_eq (ih s (pre ++ [x]) (qre ++ [x]) (by simp[hp]) (by simpa using hs) (by simpa using hl) (fun y hy=>hx y (by simp[hy]))) (by simp)
    ·
     simp only[decide_eq_false e,if_neg Bool.false_ne_true]
     exact ev_eq (Ev.now _) (by simp[e])
theorem eqIntSS_ev (l s:List (List Int)) (hl:n2 l≤1048576):Ev (fun k=>laws_eqIntSS.f k l s) (decide (l=s)):=by
 have h1:=szSum_bound List.length l (by simpa only [n2] using hl)
 unfold laws_eqIntSS.f
 by_cases h:l.length=s.length
 ·
  simp only[if_pos (show (l.length:Int)=(s.length:Int) by omega)]
  exact eqIntSS_loop l s [] [] rfl h (by simp;omega) h1.2
 ·
  simp only[if_neg (show ¬ (l.length:Int)=(s.length:Int) by omega)]
  refine ev_eq (Ev.now _) ?_
  have:l≠s:=fun e=>h (by rw[e])
  simp[this]
theorem heldIntSS_loop:∀ (r pre:List (List Int)) (a:Int),0≤a→a+szSum List.length r≤1000000000000000→(pre ++ r).length≤9223372036854775807→(∀ x ∈ r,List.length x≤1048576)→Ev (fun k=>laws_heldIntSS.l0 k (pre ++ (mkSS r a).2) a (pre.length:Int)) (mkSS r a).1:=by
 intro r
 induction r with
 | nil =>
  intro pre a h0 ha hl hx
  refine Ev.step (f:=fun _=>some a) (fun k=>?_) (Ev.now _)
  show laws_heldIntSS.l0 (k+1) (pre ++ []) a (pre.length:Int)=some a
  simp only[laws_heldIntSS.l0]
  rw[if_neg (nlt_end pre)]
 | cons x r ih =>
  intro pre a h0 ha hl hx
  simp only[szSum] at ha
  have hb:=mkS_bound x a h0 (by omega)
  refine Ev.step (f:=fun k=>(laws_heldIntS.f k (mkS x a).2 a).bind fun t=>if t < 0 then some (-1) else laws_heldIntSS.l0 k (pre ++ (mkS x a).2 :: (mkSS r (mkS x a).1).2) t (wrap64 ((pre.length:Int)+1))) (fun k=>?_) (Ev.bind (heldIntS_ev x a h0 (by omega) (hx x (by simp))) ?_)
  ·
   show laws_heldIntSS.l0 (k+1) (pre ++ (mkS x a).2 :: (mkSS r (mkS x a).1).2) a (pre.length:Int)=_
   simp only[laws_heldIntSS.l0]
   rw[if_pos (lt_mid pre _ _),if_pos (zle _),rd_L2_mid]
  ·
   simp only[if_neg (show ¬ (mkS x a).1 < 0 by omega)]
   rw[wr_mid pre _ _ (by simp[mkSS_len] at hl ⊢;omega),app_mid pre]
   exact ih (pre ++ [_]) _ (by omega) (by omega) (by simpa using hl) (fun y hy=>hx y (by simp[hy]))
theorem heldIntSS_ev (l:List (List Int)) (a:Int) (h0:0≤a) (ha:a+n2 l≤1000000000000000) (hl:n2 l≤1048576):Ev (fun k=>laws_heldIntSS.f k (mkSS l a).2 a) (mkSS l a).1:=by
 have h1:=szSum_bound List.length l (by simpa only [n2] using hl)
 exact heldIntSS_loop l [] a h0 (by simp only[n2] at ha;omega) (by simp;omega) h1.2
theorem markIntSS_ev (l:List (List Int)) (a:Int):laws_markIntSS.f l a=some (mkSS l a):=rfl
theorem szCrew_cases (f0:List Int) (f1:List Bool) (f2:Int) (a:Int) (h0:0≤a) (ha:a≤1048576) (g0:goodIntS f0) (g1:goodBoolS f1):∃ t,laws_szCrew.f f0 f1 f2 a=some t∧(t < 0∨(0≤t∧t+(List.length f0:Int)+(List.length f1:Int)≤a)):=by
 unfold laws_szCrew.f
 obtain ⟨t0,e0,hc⟩:=szIntS_cases f0 a h0 ha g0
 rcases hc with hc|⟨b0,c0⟩
 ·
  exact ⟨-1,by simp[e0,hc], .inl (by omega)⟩
 obtain ⟨t1,e1,hc⟩:=szBoolS_cases f1 t0 (by omega) (by omega) g1
 rcases hc with hc|⟨b1,c1⟩
 ·
  exact ⟨-1,by simp[e0,e1,show ¬ t0 < 0 by omega,hc], .inl (by omega)⟩
 exact ⟨t1,by simp[e0,e1,show ¬ t0 < 0 by omega,show ¬ t1 < 0 by omega], .inr ⟨b1,by omega⟩⟩
theorem toCrew_ev (f0:List Int) (f1:List Bool) (f2:Int) (h0:List.length f0≤1048576) (h1:List.length f1≤1048576):Ev (fun k=>laws_toCrew.f k f0 f1 f2) (f0,f1,f2):=Ev.bind (toIntS_ev f0 h0) (Ev.bind (toBoolS_ev f1 h1) (Ev.now _))
theorem eqCrew_ev (f0:List Int) (f1:List Bool) (f2:Int) (s0:List Int) (s1:List Bool) (s2:Int) (h0:List.length f0≤1048576) (h1:List.length f1≤1048576):Ev (fun k=>laws_eqCrew.f k f0 f1 f2 s0 s1 s2) (decide ((f0,f1,f2)=(s0,s1,s2))):=by
 obtain ⟨K0,e0⟩:=eqIntS_ev f0 s0 h0
 obtain ⟨K1,e1⟩:=eqBoolS_ev f1 s1 h1
 refine ⟨K0+K1,fun k hk=>?_⟩
 unfold laws_eqCrew.f
 simp only[e0 k (by omega),e1 k (by omega),Option.bind_some]
 by_cases q0:f0=s0 <;> try simp only[q0,decide_true,decide_false,if_true,if_false,Bool.false_eq_true,beq_self_eq_true]
 by_cases q1:f1=s1 <;> try simp only[q1,decide_true,decide_false,if_true,if_false,Bool.false_eq_true,beq_self_eq_true]
 by_cases q2:f2=s2 <;> try simp only[q2,decide_true,decide_false,if_true,if_false,Bool.false_eq_true,beq_self_eq_true]
 all_goals simp_all
theorem markCrew_ev (f0:List Int) (f1:List Bool) (f2:Int) (a:Int) (h0:List.length f0≤1048576) (h1:List.length f1≤1048576):Ev (fun k=>laws_markCrew.f k f0 f1 f2 a) ((mkB f1 ((mkS f0 (a)).1)).1,(mkS f0 (a)).2,(mkB f1 ((mkS f0 (a)).1)).2):=Ev.bind (markIntS_ev f0 (a) h0) (Ev.bind (markBoolS_ev f1 ((mkS f0 (a)).1) h1) (Ev.now _))
end Go.Proofs.Ytikjdmiohpdnaaa.Pure

namespace Go.Proofs.Ytikjdmiohpdnaaa.Pure
open Go.RowKit Go.Proofs.Ytikjdmiohpdnaaa.C20 Go.Proofs.Ytikjdmiohpdnaaa.H Go.Proofs.YtikjdmiohpdnaaaW.PrintWords Go.Proofs.YtikjdmiohpdnaaaW.PrintLast Go.Proofs.YtikjdmiohpdnaaaW.PrintMore
set_option linter.unusedVariables false
set_option linter.unusedSimpArgs false
theorem in_eq (a b c:Int):impl_in.f a b c=some (inB b c a):=by
 unfold impl_in.f inB
 by_cases h:b≤a <;> simp [h]
theorem l1In_eq (a b c:Int):spec_l1In.f a b c=some (inB b c a):=by
 unfold spec_l1In.f inB
 by_cases h:b≤a <;> simp [h]
theorem areIn_eq (l:List Int) (a b c d:Int):impl_areIn.f l a b c d=some (inB c d (l.length:Int) && l.all (inB a b)):=rfl
theorem l1All_loop (a b:Int):∀ (r pre:List Int),(pre ++ r).length≤9223372036854775807→Ev (fun k=>spec_l1All.l0 k a b (pre ++ r) ((pre ++ r).length:Int) (pre.length:Int)) (r.all (inB a b)):=by
 intro r
 induction r with
 | nil =>
  intro pre hl
  refine Ev.step (f:=fun _=>some true) (fun k=>?_) (Ev.now _)
  simp only[spec_l1All.l0]
  rw[if_neg (nlt_end pre)]
 | cons x r ih =>
  intro pre hl
  cases hx:inB a b x with
  | true =>
   refine Ev.step (fun k=>?_) (ev_eq (ih (pre ++ [x]) (by simpa using hl)) (by simp[hx]))
   simp only[spec_l1All.l0]
   rw[if_pos (lt_mid pre x r),if_pos (zle _),if_pos (lt_mid pre x r),rd_mid,l1In_eq,hx,Option.bind_some,if_pos rfl,wr_mid pre x r hl,app_mid pre x r]
  | false =>
   refine Ev.step (f:=fun _=>some false) (fun k=>?_) (ev_eq (Ev.now _) (by simp[hx]))
   simp only[spec_l1All.l0]
   rw[if_pos (lt_mid pre x r),if_pos (zle _),if_pos (lt_mid pre x r),rd_mid,l1In_eq,hx,Option.bind_some,if_neg (by simp)]
theorem l1All_ev (l:List Int) (a b:Int) (hl:l.length≤9223372036854775807):Ev (fun k=>spec_l1All.f k l a b) (l.all (inB a b)):=l1All_loop a b l [] hl
end Go.Proofs.Ytikjdmiohpdnaaa.Pure

namespace Go.Proofs.Ytikjdmiohpdnaaa.Pure
open Go.RowKit Go.Proofs.Ytikjdmiohpdnaaa.C20 Go.Proofs.Ytikjdmiohpdnaaa.H Go.Proofs.YtikjdmiohpdnaaaW.PrintWords Go.Proofs.YtikjdmiohpdnaaaW.PrintLast Go.Proofs.YtikjdmiohpdnaaaW.PrintMore
set_option linter.unusedVariables false
set_option linter.unusedSimpArgs false
def risF (p:Int):List Int→Bool
 | []=>true
 | y :: r=>decide (p < y) && risF y r
def risP:List Int→Bool
 | []=>true
 | x :: r=>risF x r
theorem rd_mid1 (pre:List Int) (p y:Int) (r:List Int):rd (pre ++ p :: y :: r) ((pre.length:Int)+1)=y:=by
 have h:((pre.length:Int)+1).toNat=pre.length+1:=by omega
 simp[rd,h]
theorem lt_mid1 (pre:List Int) (p y:Int) (r:List Int):(pre.length:Int)+1 < ((pre ++ p :: y :: r).length:Int):=by simp;omega
theorem nlt_end1 (pre:List Int) (p:Int):¬ (pre.length:Int)+1 < ((pre ++ p :: ([]:List Int)).length:Int):=by simp
theorem wr_mid1 (pre:List Int) (p y:Int) (r:List Int) (h:(pre ++ p :: y :: r).length≤9223372036854775807):wrap64 ((pre.length:Int)+1+1)=((pre ++ [p]).length:Int)+1:=by
 simp only[List.length_append,List.length_cons] at h
 rw[wr_id (by omega) (by omega)]
 simp
theorem wr_pred (pre:List Int) (h:pre.length≤9223372036854775806):wrap64 ((pre.length:Int)+1 - 1)=(pre.length:Int):=by
 rw[wr_id (by omega) (by omega)]
 omega
theorem rising_cat (pre:List Int) (p:Int) (r:List Int):pre ++ p :: r=(pre ++ [p]) ++ r:=by simp
theorem l1Rising_loop (lo hi:Int):∀ (r pre:List Int) (p:Int),(pre ++ p :: r).length≤9223372036854775807→Ev (fun k=>spec_l1Rising.l0 k (pre ++ p :: r) lo hi (pre ++ p :: r) ((pre ++ p :: r).length:Int) ((pre.length:Int)+1)) (r.all (inB lo hi) && risF p r):=by
 intro r
 induction r with
 | nil =>
  intro pre p hl
  refine Ev.step (f:=fun _=>some true) (fun k=>?_) (Ev.now _)
  simp only[spec_l1Rising.l0]
  rw[if_neg (nlt_end1 pre p)]
 | cons y r ih =>
  intro pre p hl
  have hl':=hl
  simp only[List.length_append,List.length_cons] at hl'
  cases hy:inB lo hi y with
  | false =>
   refine Ev.step (f:=fun _=>some false) (fun k=>?_) (ev_eq (Ev.now _) (by simp[hy]))
   simp only[spec_l1Rising.l0]
   rw[if_pos (lt_mid1 pre p y r),if_pos (by omega),if_pos (lt_mid1 pre p y r),rd_mid1,l1In_eq,hy,Option.bind_some,if_neg (by simp)]
  | true =>
   by_cases c:p < y
   ·
    refine Ev.step (fun k=>?_) (ev_eq (ih (pre ++ [p]) y (by simpa using hl)) (by simp[risF,c,hy]))
    simp only[spec_l1Rising.l0]
    rw[if_pos (lt_mid1 pre p y r),if_pos (by omega),if_pos (lt_mid1 pre p y r),rd_mid1,l1In_eq,hy,Option.bind_some,if_pos rfl,if_pos (by omega),wr_pred pre (by omega),if_pos (zle _),if_pos (lt_mid pre p (y :: r)),rd_mid,if_neg (by omega),wr_mid1 pre p y r hl,rising_cat pre p (y :: r)]
   ·
    refine Ev.step (f:=fun _=>some false) (fun k=>?_) (ev_eq (Ev.now _) (by simp[risF,c]))
    simp only[spec_l1Rising.l0]
    rw[if_pos (lt_mid1 pre p y r),if_pos (by omega),if_pos (lt_mid1 pre p y r),rd_mid1,l1In_eq,hy,Option.bind_some,if_pos rfl,if_pos (by omega),wr_pred pre (by omega),if_pos (zle _),if_pos (lt_mid pre p (y :: r)),rd_mid,if_pos (by omega)]
theorem l1Rising_ev (l:List Int) (lo hi:Int) (hl:l.length≤9223372036854775807):Ev (fun k=>spec_l1Rising.f k l lo hi) (l.all (inB lo hi) && risP l):=by
 cases l with
 | nil =>
  refine Ev.step (f:=fun _=>some true) (fun k=>?_) (Ev.now _)
  simp[spec_l1Rising.f,spec_l1Rising.l0]
 | cons x r =>
  cases hx:inB lo hi x with
  | false =>
   refine Ev.step (f:=fun _=>some false) (fun k=>?_) (ev_eq (Ev.now _) (by simp[hx]))
   simp only[spec_l1Rising.f,spec_l1Rising.l0]
   rw[if_pos (show (0:Int) < ((x :: r).length:Int) by simp only[List.length_cons];omega),if_pos (Int.le_refl _),if_pos (show (0:Int) < ((x :: r).length:Int) by simp only[List.length_cons];omega),show rd (x :: r) 0=x from rfl,l1In_eq,hx,Option.bind_some,if_neg (by simp)]
  | true =>
   refine Ev.step (fun k=>?_) (ev_eq (l1Rising_loop lo hi r [] x hl) (by simp[hx,risP]))
   simp only[spec_l1Rising.f,spec_l1Rising.l0]
   rw[if_pos (show (0:Int) < ((x :: r).length:Int) by simp only[List.length_cons];omega),if_pos (Int.le_refl _),if_pos (show (0:Int) < ((x :: r).length:Int) by simp only[List.length_cons];omega),show rd (x :: r) 0=x from rfl,l1In_eq,hx,Option.bind_some,if_pos rfl,if_neg (by omega),show wrap64 (0+1)=((([]:List Int).length:Int)+1) from wr_id (by omega) (by omega)]
   rfl
end Go.Proofs.Ytikjdmiohpdnaaa.Pure

namespace Go.Proofs.Ytikjdmiohpdnaaa.Pure
open Go.RowKit Go.Proofs.Ytikjdmiohpdnaaa.C20 Go.Proofs.Ytikjdmiohpdnaaa.H Go.Proofs.YtikjdmiohpdnaaaW.PrintWords Go.Proofs.YtikjdmiohpdnaaaW.PrintLast Go.Proofs.YtikjdmiohpdnaaaW.PrintMore
set_option linter.unusedVariables false
set_option linter.unusedSimpArgs false
def mv (v:Bool):List Int→List Bool→List Bool
 | [],o=>o
 | x :: r,o=>mv v r (o.set x.toNat v)
theorem mv_len (v:Bool) (t:List Int):∀ o:List Bool,(mv v t o).length=o.length:=by
 induction t with
 | nil=>intro o;rfl
 | cons x r ih=>intro o;simp only[mv];rw[ih];simp
theorem moved_loop (v:Bool):∀ (r pre:List Int) (o:List Bool),(pre ++ r).length≤9223372036854775807→(∀ x ∈ r,0≤x∧x < (o.length:Int))→Ev (fun k=>impl_State_moved.l0 k (pre ++ r) ((pre ++ r).length:Int) (pre.length:Int) o v) (mv v r o,v):=by
 intro r
 induction r with
 | nil =>
  intro pre o hl hi
  refine Ev.step (f:=fun _=>some _) (fun k=>?_) (Ev.now _)
  simp only[impl_State_moved.l0]
  rw[if_neg (nlt_end pre)]
  rfl
 | cons x r ih =>
  intro pre o hl hi
  have hx:=hi x (by simp)
  refine Ev.step (fun k=>?_) (ih (pre ++ [x]) (o.set x.toNat v) (by simpa using hl) (fun y hy=>by have:=hi y (by simp[hy]);simpa using this))
  simp only[impl_State_moved.l0]
  rw[if_pos (lt_mid pre x r),if_pos (zle _),if_pos (lt_mid pre x r),rd_mid,if_pos hx.1,if_pos hx.2,wr_mid pre x r hl,app_mid pre x r]
theorem moved_ev (st:List Bool) (b:Bool) (t:List Int) (hs:st.length≤1048576) (ht:t.length≤1048576) (hi:∀ x ∈ t,0≤x∧x < (st.length:Int)):Ev (fun k=>impl_State_moved.f k st b t) (mv (!b) t st,!b):=by
 unfold impl_State_moved.f
 refine Ev.bind (a:=st) (ev_some (by unfold slices_Clone_bool_bool.f;rw[if_pos (by omega)])) ?_
 exact moved_loop (!b) t [] st (by simp;omega) hi
theorem paCross_loop (st:List Bool) (b c:Bool):∀ (r pre:List Int) (o:List Bool),(pre ++ r).length≤9223372036854775807→(∀ x ∈ r,0≤x∧x < (st.length:Int))→(∀ x ∈ r,rdOf false st x=b)→o.length=st.length→Ev (fun k=>spec_paCross.l0 k (pre ++ r) ((pre ++ r).length:Int) (pre.length:Int) st b o c) (mv (!b) r o,c):=by
 intro r
 induction r with
 | nil =>
  intro pre o hl hi hb ho
  refine Ev.step (f:=fun _=>some _) (fun k=>?_) (Ev.now _)
  simp only[spec_paCross.l0]
  rw[if_neg (nlt_end pre)]
  rfl
 | cons x r ih =>
  intro pre o hl hi hb ho
  have hx:=hi x (by simp)
  have hbx:=hb x (by simp)
  refine Ev.step (fun k=>?_) (ih (pre ++ [x]) (o.set x.toNat (!b)) (by simpa using hl) (fun y hy=>hi y (by simp[hy])) (fun y hy=>hb y (by simp[hy])) (by simpa using ho))
  simp only[spec_paCross.l0]
  rw[if_pos (lt_mid pre x r),if_pos (zle _),if_pos (lt_mid pre x r),rd_mid,if_pos hx.1,if_pos hx.2,if_pos (by rw[ho];exact hx.2),hbx,wr_mid pre x r hl,app_mid pre x r]
theorem paCross_ev (st:List Bool) (b:Bool) (t:List Int) (hs:st.length≤1048576) (ht:t.length≤1048576) (hi:∀ x ∈ t,0≤x∧x < (st.length:Int)) (hb:∀ x ∈ t,rdOf false st x=b):Ev (fun k=>spec_paCross.f k st b t) (mv (!b) t st,!b):=by
 unfold spec_paCross.f
 simp only[Option.bind_some,List.nil_append,List.length_nil,Nat.zero_add,if_pos (show st.length < 140737488355328 by omega)]
 exact paCross_loop st b (!b) t [] st (by simp;omega) hi hb rfl
theorem paLast_loop (l:List Int):∀ (j i:Nat) (o:List Bool),i+j=l.length→l.length≤1048576→o=List.replicate i true→Ev (fun k=>spec_paLast.l0 k (l.length:Int) (i:Int) o true) (List.replicate l.length true,true):=by
 intro j
 induction j with
 | zero =>
  intro i o h hl ho
  refine Ev.step (f:=fun _=>some _) (fun k=>?_) (Ev.now _)
  simp only[spec_paLast.l0]
  rw[if_neg (by omega),ho,show i=l.length by omega]
 | succ j ih =>
  intro i o h hl ho
  refine Ev.step (fun k=>?_) (ih (i+1) (o ++ [true]) (by omega) hl (by rw[ho,List.replicate_succ']))
  simp only[spec_paLast.l0]
  rw[if_pos (by omega),if_pos (by rw[ho];simp;omega),wr_id (by omega) (by omega)]
  rfl
end Go.Proofs.Ytikjdmiohpdnaaa.Pure

namespace Go.Proofs.Ytikjdmiohpdnaaa.Pure
open Go.RowKit Go.Proofs.Ytikjdmiohpdnaaa.C20 Go.Proofs.Ytikjdmiohpdnaaa.H Go.Proofs.YtikjdmiohpdnaaaW.PrintWords Go.Proofs.YtikjdmiohpdnaaaW.PrintLast Go.Proofs.YtikjdmiohpdnaaaW.PrintMore
set_option linter.unusedVariables false
set_option linter.unusedSimpArgs false
theorem shl_one (x:Int) (h0:0≤x) (h:x < 40):shl .i64 1 x=((2 ^ x.toNat:Nat):Int):=by
 have h2:2 ^ x.toNat < 2 ^ 40:=Nat.pow_lt_pow_right (by omega) (by omega)
 unfold shl
 rw[Nat.min_eq_left (show x.toNat≤IntKind.i64.bits by show x.toNat≤64;omega),i64_w,Int.one_mul]
 rw[show ((2:Int) ^ x.toNat)=((2 ^ x.toNat:Nat):Int) by simp]
 exact (show ∀ q:Nat,q < 2 ^ 40→wrap64 (q:Int)=q from fun q hq=>wr_id (by omega) (by omega)) _ h2
end Go.Proofs.Ytikjdmiohpdnaaa.Pure

namespace Go.Proofs.Ytikjdmiohpdnaaa.Pure
open Go.RowKit Go.Proofs.Ytikjdmiohpdnaaa.C20 Go.Proofs.Ytikjdmiohpdnaaa.H Go.Proofs.YtikjdmiohpdnaaaW.PrintWords Go.Proofs.YtikjdmiohpdnaaaW.PrintLast Go.Proofs.YtikjdmiohpdnaaaW.PrintMore
set_option linter.unusedVariables false
set_option linter.unusedSimpArgs false
def goodC (l:List Int) (rw:List Bool) (m:Int):Bool:=inB 1 7 (l.length:Int) && l.all (inB 1 500) && (decide (rw.length=l.length) && inB 0 2000 m)
theorem goodC_in {l:List Int} {rw:List Bool} {m:Int} (h:goodC l rw m=true):1≤l.length∧l.length≤7∧rw.length=l.length:=by
 unfold goodC at h
 simp only[Bool.and_eq_true,inB,decide_eq_true_eq] at h
 omega
theorem isCrew_eq (l:List Int) (rw:List Bool) (m:Int):impl_IsCrew.f l rw m=some (goodC l rw m):=by
 unfold impl_IsCrew.f goodC
 rw[areIn_eq,in_eq]
 by_cases h:rw.length=l.length
 ·
  rw[if_pos (show (rw.length:Int)=(l.length:Int) by omega),decide_eq_true h]
  cases inB 1 7 (l.length:Int) <;> cases l.all (inB 1 500) <;> cases inB 0 2000 m <;> rfl
 ·
  rw[if_neg (show ¬ (rw.length:Int)=(l.length:Int) by omega),decide_eq_false h]
  cases inB 1 7 (l.length:Int) <;> cases l.all (inB 1 500) <;> cases inB 0 2000 m <;> rfl
theorem loGood_ev (l:List Int) (rw:List Bool) (m:Int) (hl:l.length≤1048576):Ev (fun k=>spec_loGood.f k l rw m) (goodC l rw m):=by
 obtain ⟨K,e⟩:=l1All_ev l 1 500 (by omega)
 dsimp only at e
 refine ⟨K,fun k hk=>?_⟩
 unfold spec_loGood.f goodC
 simp only[l1In_eq,e k hk,Option.bind_some]
 by_cases h:rw.length=l.length
 ·
  rw[if_pos (show (rw.length:Int)=(l.length:Int) by omega),decide_eq_true h]
  cases inB 1 7 (l.length:Int) <;> cases l.all (inB 1 500) <;> cases inB 0 2000 m <;> rfl
 ·
  rw[if_neg (show ¬ (rw.length:Int)=(l.length:Int) by omega),decide_eq_false h]
  cases inB 1 7 (l.length:Int) <;> cases l.all (inB 1 500) <;> cases inB 0 2000 m <;> rfl
def grpC (n:Nat) (g:List Int):Bool:=g.all (inB 0 ((n:Int) - 1)) && risP g
theorem grpC_in {n:Nat} {g:List Int} (h:grpC n g=true):∀ x ∈ g,0≤x∧x < (n:Int):=by
 unfold grpC at h
 simp only[Bool.and_eq_true,List.all_eq_true] at h
 intro x hx
 have:=h.1 x hx
 simp only[inB,Bool.and_eq_true,decide_eq_true_eq] at this
 omega
def loadP (l:List Int):List Int→Int→Int
 | [],a=>a
 | x :: r,a=>loadP l r (wrap64 (a+rd l x))
theorem load_loop (l:List Int) (rw:List Bool) (m:Int):∀ (r pre:List Int) (a:Int),(pre ++ r).length≤1048576→(∀ x ∈ r,0≤x∧x < (l.length:Int))→Ev (fun k=>impl_Crew_load.l0 k a (pre ++ r) ((pre ++ r).length:Int) (pre.length:Int) l rw m) (loadP l r a):=by
 intro r
 induction r with
 | nil =>
  intro pre a hl hi
  refine Ev.step (f:=fun _=>some _) (fun k=>?_) (Ev.now _)
  simp only[impl_Crew_load.l0]
  rw[if_neg (nlt_end pre)]
  rfl
 | cons x r ih =>
  intro pre a hl hi
  have hx:=hi x (by simp)
  refine Ev.step (fun k=>?_) (ih (pre ++ [x]) (wrap64 (a+rd l x)) (by simpa using hl) (fun y hy=>hi y (by simp[hy])))
  simp only[impl_Crew_load.l0]
  rw[if_pos (lt_mid pre x r),if_pos (zle _),if_pos (lt_mid pre x r),rd_mid,if_pos hx.1,if_pos hx.2,wr_mid pre x r (by omega),app_mid pre x r]
theorem load_ev (l:List Int) (rw:List Bool) (m:Int) (g:List Int) (hg:g.length≤1048576) (hi:∀ x ∈ g,0≤x∧x < (l.length:Int)):Ev (fun k=>impl_Crew_load.f k l rw m g) (loadP l g 0):=load_loop l rw m g [] 0 (by simpa using hg) hi
theorem loLoad_loop (l:List Int) (rw:List Bool) (m:Int):∀ (r pre:List Int) (a:Int),(pre ++ r).length≤1048576→(∀ x ∈ r,0≤x∧x < (l.length:Int))→Ev (fun k=>spec_loLoad.l0 k a (pre ++ r) ((pre ++ r).length:Int) (pre.length:Int) l rw m) (loadP l r a):=by
 intro r
 induction r with
 | nil =>
  intro pre a hl hi
  refine Ev.step (f:=fun _=>some _) (fun k=>?_) (Ev.now _)
  simp only[spec_loLoad.l0]
  rw[if_neg (nlt_end pre)]
  rfl
 | cons x r ih =>
  intro pre a hl hi
  have hx:=hi x (by simp)
  refine Ev.step (fun k=>?_) (ih (pre ++ [x]) (wrap64 (a+rd l x)) (by simpa using hl) (fun y hy=>hi y (by simp[hy])))
  simp only[spec_loLoad.l0]
  rw[if_pos (lt_mid pre x r),if_pos (zle _),if_pos (lt_mid pre x r),rd_mid,if_pos hx.1,if_pos hx.2,wr_mid pre x r (by omega),app_mid pre x r]
theorem loLoad_ev (l:List Int) (rw:List Bool) (m:Int) (g:List Int) (hg:g.length≤1048576) (hi:∀ x ∈ g,0≤x∧x < (l.length:Int)):Ev (fun k=>spec_loLoad.f k l rw m g) (loadP l g 0):=loLoad_loop l rw m g [] 0 (by simpa using hg) hi
end Go.Proofs.Ytikjdmiohpdnaaa.Pure

namespace Go.Proofs.Ytikjdmiohpdnaaa.Pure
open Go.RowKit Go.Proofs.Ytikjdmiohpdnaaa.C20 Go.Proofs.Ytikjdmiohpdnaaa.H Go.Proofs.YtikjdmiohpdnaaaW.PrintWords Go.Proofs.YtikjdmiohpdnaaaW.PrintLast Go.Proofs.YtikjdmiohpdnaaaW.PrintMore
set_option linter.unusedVariables false
set_option linter.unusedSimpArgs false
def rideC (l:List Int) (rw:List Bool) (m:Int) (st:List Bool) (b:Bool) (g:List Int):Bool:=grpC l.length g && ((g.all fun x=>rdOf false st x == b) && (decide (loadP l g 0≤m) && g.any fun x=>rdOf false rw x))
theorem carries_ev (l:List Int) (rw:List Bool) (m:Int) (g:List Int) (hg:g.length≤1048576) (hi:∀ x ∈ g,0≤x∧x < (l.length:Int)) (hr:rw.length=l.length):Ev (fun k=>impl_Crew_carries.f k l rw m g) (decide (loadP l g 0≤m) && g.any fun x=>rdOf false rw x):=by
 unfold impl_Crew_carries.f
 refine Ev.bind (load_ev l rw m g hg hi) ?_
 by_cases c:loadP l g 0≤m
 ·
  simp only[if_pos c,decide_eq_true c,Bool.true_and]
  refine ev_some ?_
  rw[if_pos]
  rw[List.all_eq_true]
  intro x hx
  have:=hi x hx
  simp[this.1,hr,this.2]
 ·
  simp only[if_neg c,decide_eq_false c,Bool.false_and]
  exact Ev.now _
theorem loCan_loop (l:List Int) (rw:List Bool) (m:Int) (st:List Bool) (b:Bool):∀ (r pre:List Int) (acc:Bool),(pre ++ r).length≤1048576→(∀ x ∈ r,0≤x∧x < (st.length:Int)∧x < (rw.length:Int))→Ev (fun k=>spec_loCan.l0 k acc (pre ++ r) ((pre ++ r).length:Int) (pre.length:Int) l rw m st b) ((r.all fun x=>rdOf false st x == b) && (acc || r.any fun x=>rdOf false rw x)):=by
 intro r
 induction r with
 | nil =>
  intro pre acc hl hi
  refine Ev.step (f:=fun _=>some acc) (fun k=>?_) (ev_eq (Ev.now _) (by simp))
  simp only[spec_loCan.l0]
  rw[if_neg (nlt_end pre)]
 | cons x r ih =>
  intro pre acc hl hi
  have hx:=hi x (by simp)
  by_cases c:rdOf false st x=b
  ·
   cases acc with
   | true =>
    refine Ev.step (fun k=>?_) (ev_eq (ih (pre ++ [x]) true (by simpa using hl) (fun y hy=>hi y (by simp[hy]))) (by simp[c]))
    simp only[spec_loCan.l0]
    rw[if_pos (lt_mid pre x r),if_pos (zle _),if_pos (lt_mid pre x r),rd_mid,if_pos hx.1,if_pos hx.2.1,if_neg (by simp[c]),wr_mid pre x r (by omega),app_mid pre x r]
    simp only[if_true]
   | false =>
    refine Ev.step (fun k=>?_) (ev_eq (ih (pre ++ [x]) (rdOf false rw x) (by simpa using hl) (fun y hy=>hi y (by simp[hy]))) (by simp[c]))
    simp only[spec_loCan.l0]
    rw[if_pos (lt_mid pre x r),if_pos (zle _),if_pos (lt_mid pre x r),rd_mid,if_pos hx.1,if_pos hx.2.1,if_neg (by simp[c]),wr_mid pre x r (by omega),app_mid pre x r]
    simp only[Bool.false_eq_true,if_false,if_pos hx.2.2]
  ·
   refine Ev.step (f:=fun _=>some false) (fun k=>?_) (ev_eq (Ev.now _) (by simp[c]))
   simp only[spec_loCan.l0]
   rw[if_pos (lt_mid pre x r),if_pos (zle _),if_pos (lt_mid pre x r),rd_mid,if_pos hx.1,if_pos hx.2.1,if_pos (by simpa using c)]
theorem loCan_ev (l:List Int) (rw:List Bool) (m:Int) (st:List Bool) (b:Bool) (g:List Int) (hl:l.length≤1048576) (hg:g.length≤1048576) (hr:rw.length=l.length) (hs:st.length=l.length):Ev (fun k=>spec_loCan.f k l rw m st b g) (rideC l rw m st b g):=by
 unfold spec_loCan.f
 have bad:Ev (fun k=>spec_loCan.j0 k g true l rw m st b) false:=Ev.step (f:=fun _=>some false) (fun k=>by simp only[spec_loCan.j0];rfl) (Ev.now _)
 by_cases h0:g=[]
 ·
  subst h0
  simp only[List.length_nil,if_pos (show ((0:Nat):Int)=0 from rfl)]
  exact ev_eq bad (by simp[rideC])
 ·
  have hpos:¬ (g.length:Int)=0:=by
   intro e
   exact h0 (List.eq_nil_of_length_eq_zero (by omega))
  simp only[if_neg hpos,wr_id (show -9223372036854775808≤(l.length:Int) - 1 by omega) (by omega)]
  refine Ev.bind (l1Rising_ev g 0 ((l.length:Int) - 1) (by omega)) ?_
  show Ev (fun k=>if grpC l.length g=true then _ else _) _
  cases hq:grpC l.length g with
  | false =>
   simp only[Bool.false_eq_true,if_false]
   exact ev_eq bad (by simp[rideC,hq])
  | true =>
   have hin:=grpC_in hq
   simp only[if_true]
   refine Ev.bind (loLoad_ev l rw m g hg hin) ?_
   by_cases c:loadP l g 0≤m
   ·
    simp only[decide_eq_false (show ¬ loadP l g 0 > m by omega)]
    refine Ev.step (f:=fun k=>spec_loCan.l0 k false g (g.length:Int) 0 l rw m st b) (fun k=>by simp only[spec_loCan.j0];rfl) ?_
    refine ev_eq (loCan_loop l rw m st b g [] false (by simpa using hg) (fun x hx=>⟨(hin x hx).1,by rw[hs];exact (hin x hx).2,by rw[hr];exact (hin x hx).2⟩)) ?_
    simp[rideC,hq,c]
   ·
    simp only[decide_eq_true (show loadP l g 0 > m by omega)]
    exact ev_eq bad (by simp[rideC,hq,c])
theorem last_eq (n:Nat) (h:n < 39):impl_last.f (n:Int)=some (((2 ^ (n+1) - 1:Nat)):Int):=by
 unfold impl_last.f
 have hw:wrap64 ((n:Int)+1)=((n+1:Nat):Int):=by rw[wr_id (by omega) (by omega)];rfl
 have h1:2 ^ (n+1) < 2 ^ 40:=Nat.pow_lt_pow_right (by omega) (by omega)
 have h2:0 < 2 ^ (n+1):=Nat.pow_pos (by omega)
 rw[hw,if_pos (zle _),shl_one _ (zle _) (by omega),Int.toNat_natCast]
 generalize 2 ^ (n+1)=q at *
 rw[wr_id (by omega) (by omega)]
 congr 1
 omega
end Go.Proofs.Ytikjdmiohpdnaaa.Pure

namespace Go.Proofs.Ytikjdmiohpdnaaa.Pure
open Go.RowKit Go.Proofs.Ytikjdmiohpdnaaa.C20 Go.Proofs.Ytikjdmiohpdnaaa.H Go.Proofs.YtikjdmiohpdnaaaW.PrintWords Go.Proofs.YtikjdmiohpdnaaaW.PrintLast Go.Proofs.YtikjdmiohpdnaaaW.PrintMore
set_option linter.unusedVariables false
set_option linter.unusedSimpArgs false
end Go.Proofs.Ytikjdmiohpdnaaa.Pure

namespace Go.Proofs.Ytikjdmiohpdnaaa.Pure
open Go.RowKit Go.Proofs.Ytikjdmiohpdnaaa.C20 Go.Proofs.Ytikjdmiohpdnaaa.H Go.Proofs.YtikjdmiohpdnaaaW.PrintWords Go.Proofs.YtikjdmiohpdnaaaW.PrintLast Go.Proofs.YtikjdmiohpdnaaaW.PrintMore
set_option linter.unusedVariables false
set_option linter.unusedSimpArgs false
def sideP (b:Bool):List Bool→Nat→List Int
 | [],_=>[]
 | x :: r,i=>if x == b then (i:Int) :: sideP b r (i+1) else sideP b r (i+1)
theorem sideP_len (b:Bool):∀ (r:List Bool) (i:Nat),(sideP b r i).length≤r.length:=by
 intro r
 induction r with
 | nil=>intro i;simp[sideP]
 | cons x r ih =>
  intro i
  have:=ih (i+1)
  simp only[sideP]
  split <;> simp only[List.length_cons] <;> omega
theorem side_loop (b:Bool):∀ (r pre:List Bool) (acc:List Int),(pre ++ r).length≤1048576→acc.length+r.length≤1048576→Ev (fun k=>impl_State_side.l0 k b acc (pre ++ r) ((pre ++ r).length:Int) (pre.length:Int)) (acc ++ sideP b r pre.length):=by
 intro r
 induction r with
 | nil =>
  intro pre acc hl ha
  refine Ev.step (f:=fun _=>some _) (fun k=>?_) (Ev.now _)
  simp only[impl_State_side.l0]
  rw[if_neg (nlt_end pre)]
  simp[sideP]
 | cons x r ih =>
  intro pre acc hl ha
  simp only[List.length_cons] at ha
  cases hx:x == b with
  | true =>
   refine Ev.step (fun k=>?_) (ev_eq (ih (pre ++ [x]) (acc ++ [(pre.length:Int)]) (by simpa using hl) (by simp;omega)) (by simp[sideP,hx]))
   simp only[impl_State_side.l0]
   rw[if_pos (lt_mid pre x r),if_pos (zle _),if_pos (lt_mid pre x r),rdOf_mid,hx,if_pos rfl,if_pos (by omega),wr_mid pre x r (by omega),app_mid pre x r]
  | false =>
   refine Ev.step (fun k=>?_) (ev_eq (ih (pre ++ [x]) acc (by simpa using hl) (by omega)) (by simp[sideP,hx]))
   simp only[impl_State_side.l0]
   rw[if_pos (lt_mid pre x r),if_pos (zle _),if_pos (lt_mid pre x r),rdOf_mid,hx,if_neg (by simp),wr_mid pre x r (by omega),app_mid pre x r]
theorem side_ev (st:List Bool) (t b:Bool) (hs:st.length≤1048576):Ev (fun k=>impl_State_side.f k st t b) (sideP b st 0):=side_loop b st [] [] (by simpa using hs) (by simpa using hs)
def begP:List Int→List (List Int)
 | []=>[]
 | x :: l=>[x :: l]
theorem begP_len (l:List Int):(begP l).length≤1:=by cases l <;> simp [begP]
theorem l1Own_eq (l:List Int) (h:l.length≤1048576):spec_l1Own.f l=some l:=by
 unfold spec_l1Own.f
 rw[Option.bind_some,if_pos (by simp;omega)]
 simp
theorem grp_loop (lo:Nat) (m:Int) (ps:List Int) (hp:ps.length≤20) (l:List Int) (hl:l.length≤20) (hm:(l.length:Int) < m)
  (IH:∀ (from_:Nat) (l':List Int),lo < from_→from_≤ps.length→l'.length=l.length+1→Ev (fun k=>spec_paGroups.f k ps l' (from_:Int) m) (begP l' ++ grpsF m (ps.drop from_) l')) :
  ∀ (d i:Nat) (acc:List (List Int)),ps.length - i=d→i≤ps.length→lo≤i→acc.length+2 ^ d≤4194304→Ev (fun k=>spec_paGroups.l0 k ps l m acc (i:Int)) (acc ++ grpsF m (ps.drop i) l):=by
 intro d
 induction d with
 | zero =>
  intro i acc hd hi hlo ha
  have:i=ps.length:=by omega
  subst this
  refine Ev.step (f:=fun _=>some _) (fun k=>?_) (Ev.now _)
  simp only[spec_paGroups.l0]
  rw[if_neg (by omega)]
  simp[grpsF]
 | succ d ih =>
  intro i acc hd hi hlo ha
  have hlt:i < ps.length:=by omega
  have hdr:ps.drop i=rd ps (i:Nat) :: ps.drop (i+1):=by
   rw[List.drop_eq_getElem_cons hlt]
   simp[rd,List.getD_eq_getElem?_getD,List.getElem?_eq_getElem hlt]
  have hg:=IH (i+1) (l ++ [rd ps (i:Nat)]) (by omega) (by omega) (by simp)
  have hlen:(begP (l ++ [rd ps (i:Nat)]) ++ grpsF m (ps.drop (i+1)) (l ++ [rd ps (i:Nat)])).length≤2 ^ d:=by
   have h1:=grpsF_len m (ps.drop (i+1)) (l ++ [rd ps (i:Nat)])
   have h2:=begP_len (l ++ [rd ps (i:Nat)])
   rw[List.length_drop,show ps.length - (i+1)=d by omega] at h1
   rw[List.length_append]
   omega
  rw[Nat.pow_succ] at ha
  have hb:begP (l ++ [rd ps (i:Nat)])=[l ++ [rd ps (i:Nat)]]:=by cases l <;> rfl
  have he:acc ++ grpsF m (ps.drop i) l=(acc ++ (begP (l ++ [rd ps (i:Nat)]) ++ grpsF m (ps.drop (i+1)) (l ++ [rd ps (i:Nat)]))) ++ grpsF m (ps.drop (i+1)) l:=by
   rw[hdr,grpsF,if_pos hm,hb]
   simp
  rw[he]
  refine Ev.step (f:=fun k=>(spec_paGroups.f k ps (l ++ [rd ps (i:Nat)]) ((i+1:Nat):Int) m).bind fun t=>(if acc.length+t.length < 5864062014805 then (spec_paGroups.l0 k ps l m (acc ++ t) ((i+1:Nat):Int)) else (none))) (fun k=>?_) (Ev.bind hg ?_)
  ·
   simp only[spec_paGroups.l0]
   rw[if_pos (by omega),show spec_l1Own.f l=some l from l1Own_eq l (by omega),Option.bind_some,if_pos (zle _),Option.bind_some,if_pos (by simp;omega),show wrap64 ((i:Int)+1)=((i+1:Nat):Int) from wr_id (by omega) (by omega)]
  ·
   try dsimp only
   have hc:acc.length+(begP (l ++ [rd ps (i:Nat)]) ++ grpsF m (ps.drop (i+1)) (l ++ [rd ps (i:Nat)])).length < 5864062014805:=by
    have:0 < 2 ^ d:=Nat.pow_pos (by omega)
    omega
   simp only[if_pos hc]
   exact ih (i+1) _ (by omega) (by omega) (by omega) (by rw[List.length_append];omega)
theorem paGroups_ev (m:Int) (ps:List Int) (hp:ps.length≤20):∀ (d from_:Nat) (l:List Int),ps.length - from_=d→from_≤ps.length→l.length+d≤20→(l.length:Int)≤m→Ev (fun k=>spec_paGroups.f k ps l (from_:Int) m) (begP l ++ grpsF m (ps.drop from_) l):=by
 intro d
 induction d using Nat.strongRecOn with
 | ind d ih =>
 intro from_ l hd hf hl hm
 have hj:∀ acc:List (List Int),acc.length≤1→Ev (fun k=>spec_paGroups.j0 k ps l (from_:Int) m acc) (acc ++ grpsF m (ps.drop from_) l):=by
  intro acc ha
  by_cases hc:(l.length:Int)=m
  ·
   refine Ev.step (f:=fun _=>some acc) (fun k=>?_) (ev_eq (Ev.now _) ?_)
   ·
    simp only[spec_paGroups.j0]
    rw[if_pos hc]
   ·
    cases ps.drop from_ with
    | nil=>simp [grpsF]
    | cons x r=>rw [grpsF,if_neg (by omega)];simp
  ·
   refine Ev.step (f:=fun k=>spec_paGroups.l0 k ps l m acc (from_:Int)) (fun k=>?_) ?_
   ·
    simp only[spec_paGroups.j0]
    rw[if_neg hc]
   ·
    refine grp_loop from_ m ps hp l (by omega) (by omega) (fun f' l' h0 h1 h2=>?_) d from_ acc hd hf (Nat.le_refl _) ?_
    ·
     exact ih (ps.length - f') (by omega) f' l' rfl h1 (by omega) (by omega)
    ·
     have:2 ^ d≤2 ^ 20:=Nat.pow_le_pow_right (by omega) (by omega)
     omega
 cases l with
 | nil =>
  refine Ev.step (f:=fun k=>spec_paGroups.j0 k ps [] (from_:Int) m []) (fun k=>?_) (hj [] (by simp))
  simp[spec_paGroups.f]
 | cons x l =>
  refine Ev.step (f:=fun k=>spec_paGroups.j0 k ps (x :: l) (from_:Int) m [x :: l]) (fun k=>?_) (hj [x :: l] (by simp))
  simp only[spec_paGroups.f]
  rw[if_pos (by simp only[List.length_cons];omega),show spec_l1Own.f (x :: l)=some (x :: l) from l1Own_eq _ (by omega),Option.bind_some,Option.bind_some,if_pos (by simp)]
  simp
theorem szSum_le (B:Nat):∀ l:List (List Int),(∀ x ∈ l,x.length≤B)→szSum List.length l≤l.length * B:=by
 intro l
 induction l with
 | nil=>intro _;simp[szSum]
 | cons x l ih =>
  intro h
  have h1:=h x (by simp)
  have h2:=ih (fun y hy=>h y (by simp[hy]))
  simp only[szSum,List.length_cons,Nat.add_mul,Nat.one_mul]
  omega
theorem n2_le (B:Nat) (l:List (List Int)) (h:∀ x ∈ l,x.length≤B):n2 l≤l.length+l.length * B:=by
 have:=szSum_le B l h
 simp only[n2]
 omega
def tripsP (s:Int) (st:List Bool) (b:Bool):List (List Int):=grpsF s (sideP b st 0) []
theorem grpsF_elem (m:Int):∀ (r l:List Int),∀ g ∈ grpsF m r l,g.length≤l.length+r.length:=by
 intro r
 induction r with
 | nil=>intro l g hg;simp[grpsF] at hg
 | cons x r ih =>
  intro l g hg
  simp only[grpsF] at hg
  split at hg
  ·
   rcases List.mem_cons.1 hg with rfl|hg
   ·
    simp
   ·
    rcases List.mem_append.1 hg with hg|hg
    ·
     have:=ih _ g hg;simp only[List.length_append,List.length_cons,List.length_nil] at this ⊢;omega
    ·
     have:=ih _ g hg;simp only[List.length_cons];omega
  ·
   cases hg
end Go.Proofs.Ytikjdmiohpdnaaa.Pure

namespace Go.Proofs.Ytikjdmiohpdnaaa.Pure
open Go.RowKit Go.Proofs.Ytikjdmiohpdnaaa.C20 Go.Proofs.Ytikjdmiohpdnaaa.H Go.Proofs.YtikjdmiohpdnaaaW.PrintWords Go.Proofs.YtikjdmiohpdnaaaW.PrintLast Go.Proofs.YtikjdmiohpdnaaaW.PrintMore
set_option linter.unusedVariables false
set_option linter.unusedSimpArgs false
theorem grpsF_most {m m':Int}:∀ (r l:List Int),(l.length:Int)+r.length≤m→(l.length:Int)+r.length≤m'→grpsF m r l=grpsF m' r l:=by
 intro r
 induction r with
 | nil=>intro l _ _;rfl
 | cons x r ih =>
  intro l h h'
  simp only[List.length_cons] at h h'
  simp only[grpsF]
  rw[if_pos (by omega),if_pos (by omega),ih (l ++ [x]) (by simp;omega) (by simp;omega),ih l (by omega) (by omega)]
theorem grpsF_sub (m:Int):∀ (r l:List Int),∀ g ∈ grpsF m r l,∃ t,g=l ++ t∧t.Sublist r∧t≠[]:=by
 intro r
 induction r with
 | nil=>intro l g hg;simp[grpsF] at hg
 | cons x r ih =>
  intro l g hg
  simp only[grpsF] at hg
  split at hg
  ·
   rcases List.mem_cons.1 hg with rfl|hg
   ·
    exact ⟨[x],rfl,by simp,by simp⟩
   ·
    rcases List.mem_append.1 hg with hg|hg
    ·
     obtain ⟨t,rfl,h1,h2⟩:=ih _ g hg
     exact ⟨x :: t,by simp,h1.cons_cons x,by simp⟩
    ·
     obtain ⟨t,rfl,h1,h2⟩:=ih _ g hg
     exact ⟨t,rfl,h1.cons x,h2⟩
  ·
   cases hg
theorem sideP_in (b:Bool):∀ (r:List Bool) (i:Nat),∀ x ∈ sideP b r i,(i:Int)≤x∧x < (i:Int)+r.length∧r.getD (x.toNat - i) false=b:=by
 intro r
 induction r with
 | nil=>intro i x hx;simp[sideP] at hx
 | cons y r ih =>
  intro i x hx
  have hrec:x ∈ sideP b r (i+1)→(i:Int)≤x∧x < (i:Int)+(y :: r).length∧(y :: r).getD (x.toNat - i) false=b:=by
   intro hx
   obtain ⟨h1,h2,h3⟩:=ih (i+1) x hx
   refine ⟨by omega,by simp only[List.length_cons];omega,?_⟩
   have:x.toNat - i=(x.toNat - (i+1))+1:=by omega
   rw[this,List.getD_cons_succ]
   exact h3
  simp only[sideP] at hx
  split at hx
  ·
   rename_i hy
   rcases List.mem_cons.1 hx with rfl|hx
   ·
    refine ⟨Int.le_refl _,by simp only[List.length_cons];omega,?_⟩
    have:((i:Int)).toNat - i=0:=by omega
    rw[this,List.getD_cons_zero]
    simpa using hy
   ·
    exact hrec hx
  ·
   exact hrec hx
theorem sideP_lt (b:Bool):∀ (r:List Bool) (i:Nat),(sideP b r i).Pairwise (· < ·):=by
 intro r
 induction r with
 | nil=>intro i;simp[sideP]
 | cons y r ih =>
  intro i
  simp only[sideP]
  split
  ·
   rw[List.pairwise_cons]
   exact ⟨fun x hx=>by have:=(sideP_in b r (i+1) x hx).1;omega,ih (i+1)⟩
  ·
   exact ih (i+1)
theorem risF_of (p:Int):∀ r:List Int,(p :: r).Pairwise (· < ·)→risF p r=true:=by
 intro r
 induction r generalizing p with
 | nil=>intro _;rfl
 | cons y r ih =>
  intro h
  rw[List.pairwise_cons] at h
  simp only[risF,Bool.and_eq_true,decide_eq_true_eq]
  exact ⟨h.1 y (by simp),ih y h.2⟩
theorem risP_of {r:List Int} (h:r.Pairwise (· < ·)):risP r=true:=by
 cases r with
 | nil=>rfl
 | cons x r=>exact risF_of x r h
theorem group_of {m:Int} {b:Bool} {st:List Bool} {g:List Int} (hg:g ∈ grpsF m (sideP b st 0) []):(∀ x ∈ g,0≤x∧x < (st.length:Int)∧rdOf false st x=b)∧risP g=true∧g≠[]:=by
 obtain ⟨t,ht,h1,h2⟩:=grpsF_sub m _ _ g hg
 rw[List.nil_append] at ht
 subst ht
 refine ⟨fun x hx=>?_,risP_of (List.Pairwise.sublist h1 (sideP_lt b st 0)),h2⟩
 obtain ⟨p,q,r⟩:=sideP_in b st 0 x (h1.subset hx)
 exact ⟨by simpa using p,by simpa using q,by simpa [rdOf] using r⟩
theorem ev_list {α β:Type} {f:Nat→α→Option β} {p:α→β}:∀ gs:List α,(∀ g ∈ gs,Ev (fun k=>f k g) (p g))→∃ K,∀ k,K≤k→∀ g ∈ gs,f k g=some (p g):=by
 intro gs
 induction gs with
 | nil=>intro _;exact ⟨0,fun _ _ g hg=>by cases hg⟩
 | cons g gs ih =>
  intro h
  obtain ⟨K1,e1⟩:=h g (by simp)
  obtain ⟨K2,e2⟩:=ih (fun x hx=>h x (by simp[hx]))
  refine ⟨K1+K2,fun k hk x hx=>?_⟩
  rcases List.mem_cons.1 hx with rfl|hx
  ·
   exact e1 k (by omega)
  ·
   exact e2 k (by omega) x hx
end Go.Proofs.Ytikjdmiohpdnaaa.Pure

namespace Go.Proofs.Ytikjdmiohpdnaaa.Pure
open Go.RowKit Go.Proofs.Ytikjdmiohpdnaaa.C20 Go.Proofs.Ytikjdmiohpdnaaa.H Go.Proofs.YtikjdmiohpdnaaaW.PrintWords Go.Proofs.YtikjdmiohpdnaaaW.PrintLast Go.Proofs.YtikjdmiohpdnaaaW.PrintMore
set_option linter.unusedVariables false
set_option linter.unusedSimpArgs false
theorem rdL2_midO (pre:List (List Int)) (x:List Int) (r:List (List Int)):rd_L2 (pre ++ x :: r) (pre.length:Int)=x:=rdOf_mid [] pre x r
def takes (l:List Int) (rw:List Bool) (m:Int) (g:List Int):Bool:=decide (loadP l g 0≤m) && g.any fun x=>rdOf false rw x
def ridesP (l:List Int) (rw:List Bool) (m:Int) (st:List Bool) (b:Bool):List (List Int):=(grpsF (l.length:Int) (sideP b st 0) []).filter (takes l rw m)
theorem crewS_fold (l:List Int) (rw:List Bool) (m:Int) (k:Nat):∀ (gs s:List (List Int)),(∀ g ∈ gs,impl_Crew_carries.f k l rw m g=some (takes l rw m g))→s.length+gs.length < 1099511627776→gs.foldlM (crewS k l rw m) s=some (s ++ gs.filter (takes l rw m)):=by
 intro gs
 induction gs with
 | nil=>intro s _ _;simp
 | cons g gs ih =>
  intro s h hl
  simp only[List.length_cons] at hl
  rw[List.foldlM_cons]
  have h1:crewS k l rw m s g=some (if takes l rw m g then s ++ [g] else s):=by
   unfold crewS
   rw[h g (by simp),Option.bind_some]
   cases takes l rw m g with
   | true=>simp only[if_true];unfold pushS;rw[if_pos (by omega)]
   | false=>rfl
  rw[h1]
  show List.foldlM (crewS k l rw m) _ gs=_
  rw[ih _ (fun x hx=>h x (by simp[hx])) (by split <;> (try simp only[List.length_append,List.length_cons,List.length_nil]) <;> omega)]
  cases ht:takes l rw m g <;> simp [List.filter_cons,ht]
theorem ride_take {l:List Int} {rw:List Bool} {m:Int} {st:List Bool} {b:Bool} {mm:Int} {g:List Int} (hs:st.length=l.length) (hg:g ∈ grpsF mm (sideP b st 0) []):rideC l rw m st b g=takes l rw m g:=by
 obtain ⟨h1,h2,_⟩:=group_of hg
 unfold rideC takes grpC
 have e1:g.all (inB 0 ((l.length:Int) - 1))=true:=List.all_eq_true.2 fun x hx=>by
  have:=h1 x hx
  simp only[inB,Bool.and_eq_true,decide_eq_true_eq]
  omega
 have e2:(g.all fun x=>rdOf false st x == b)=true:=List.all_eq_true.2 fun x hx=>by simp[(h1 x hx).2.2]
 rw[e1,h2,e2]
 simp
theorem crewRides_ev (l:List Int) (rw:List Bool) (m:Int) (st:List Bool) (b:Bool) (hl:l.length≤7) (hr:rw.length=l.length) (hs:st.length=l.length):Ev (fun k=>impl_Crew_rides.f k l rw m st b) (ridesP l rw m st b):=by
 unfold impl_Crew_rides.f
 have h3:=sideP_len b st 0
 refine Ev.bind (side_ev st b b (by omega)) ?_
 simp only[if_pos (show (sideP b st 0).length≤20 by omega)]
 obtain ⟨K,e⟩:=ev_list (f:=fun k g=>impl_Crew_carries.f k l rw m g) (p:=takes l rw m) (grpsF (l.length:Int) (sideP b st 0) []) (fun g hg=>carries_ev l rw m g (by have:=grpsF_elem _ _ _ g hg;simp at this;omega) (fun x hx=>by have:=(group_of hg).1 x hx;omega) hr)
 refine ⟨K,fun k hk=>?_⟩
 have:=crewS_fold l rw m k (grpsF (l.length:Int) (sideP b st 0) []) [] (e k hk) (by
  have h4:=grpsF_len (l.length:Int) (sideP b st 0) []
  have h6:2 ^ (sideP b st 0).length≤2 ^ 7:=Nat.pow_le_pow_right (by omega) (by omega)
  simp;omega)
 unfold ridesP
 simpa using this
theorem loRides_loop1 (l:List Int) (rw:List Bool) (m:Int) (st:List Bool) (b:Bool) (hl:l.length≤7) (hr:rw.length=l.length) (hs:st.length=l.length):∀ (r pre acc:List (List Int)),(pre ++ r).length≤1048576→acc.length+r.length≤1048576→(∀ g ∈ r,g.length≤1048576)→Ev (fun k=>spec_loRides.l1 k acc (pre ++ r) ((pre ++ r).length:Int) (pre.length:Int) l rw m st b) (acc ++ r.filter (rideC l rw m st b)):=by
 intro r
 induction r with
 | nil =>
  intro pre acc hn ha hg
  refine Ev.step (f:=fun _=>some _) (fun k=>?_) (Ev.now _)
  simp only[spec_loRides.l1]
  rw[if_neg (nlt_end pre)]
  simp
 | cons g r ih =>
  intro pre acc hn ha hg
  simp only[List.length_cons] at ha
  have he:=loCan_ev l rw m st b g (by omega) (hg g (by simp)) hr hs
  have hu:∀ k,spec_loRides.l1 (k+1) acc (pre ++ g :: r) ((pre ++ g :: r).length:Int) (pre.length:Int) l rw m st b=(spec_loCan.f k l rw m st b g).bind fun t=>(if t=true then (if acc.length < 5864062014805 then (spec_loRides.l1 k (acc ++ [g]) (pre ++ g :: r) ((pre ++ g :: r).length:Int) (wrap64 ((pre.length:Int)+1)) l rw m st b) else (none)) else (spec_loRides.l1 k acc (pre ++ g :: r) ((pre ++ g :: r).length:Int) (wrap64 ((pre.length:Int)+1)) l rw m st b)):=by
   intro k
   simp only[spec_loRides.l1]
   rw[if_pos (lt_mid pre g r),if_pos (zle _),if_pos (lt_mid pre g r),rdL2_midO]
  refine Ev.step hu (Ev.bind he ?_)
  rw[wr_mid pre g r (by omega),app_mid pre g r]
  cases q:rideC l rw m st b g with
  | true =>
   simp only[if_true,if_pos (show acc.length < 5864062014805 by omega)]
   exact ev_eq (ih (pre ++ [g]) (acc ++ [g]) (by simpa using hn) (by simp;omega) (fun y hy=>hg y (by simp[hy]))) (by simp[List.filter_cons,q])
  | false =>
   simp only[Bool.false_eq_true,if_false]
   exact ev_eq (ih (pre ++ [g]) acc (by simpa using hn) (by omega) (fun y hy=>hg y (by simp[hy]))) (by simp[List.filter_cons,q])
theorem loRides_loop0 (l:List Int) (rw:List Bool) (m:Int) (st:List Bool) (b:Bool) (hl:l.length≤7) (hr:rw.length=l.length) (hs:st.length=l.length):∀ (r pre:List Bool) (acc:List Int),pre ++ r=st→acc=sideP b pre 0→acc ++ sideP b r pre.length=sideP b st 0→Ev (fun k=>spec_loRides.l0 k acc (pre ++ r) ((pre ++ r).length:Int) (pre.length:Int) l rw m st b) (ridesP l rw m st b):=by
 intro r
 induction r with
 | nil =>
  intro pre acc hp _ ha
  simp only[sideP,List.append_nil] at ha
  have h3:=sideP_len b st 0
  have hg:=paGroups_ev (acc.length:Int) acc (by rw[ha];omega) acc.length 0 [] (by omega) (by omega) (by rw[ha];simp;omega) (by simp)
  have he:begP [] ++ grpsF (acc.length:Int) (acc.drop 0) []=grpsF (l.length:Int) (sideP b st 0) []:=by
   simp only[begP,List.nil_append,List.drop_zero]
   rw[ha]
   exact grpsF_most _ _ (by simp) (by simp;omega)
  rw[he] at hg
  have h4:=grpsF_len (l.length:Int) (sideP b st 0) []
  have h6:2 ^ (sideP b st 0).length≤2 ^ 7:=Nat.pow_le_pow_right (by omega) (by omega)
  refine Ev.step (f:=fun k=>(spec_paGroups.f k acc ([]:List Int) ((0:Nat):Int) (acc.length:Int)).bind fun t391=>(spec_loRides.l1 k ([]:List (List Int)) t391 (t391.length:Int) 0 l rw m st b)) (fun k=>?_) (Ev.bind hg ?_)
  ·
   simp only[spec_loRides.l0]
   rw[if_neg (nlt_end pre)]
   rfl
  ·
   refine ev_eq (loRides_loop1 l rw m st b hl hr hs (grpsF (l.length:Int) (sideP b st 0) []) [] [] (by simp;omega) (by simp;omega) (fun g hg=>by have:=grpsF_elem _ _ _ g hg;simp at this;omega)) ?_
   unfold ridesP
   rw[List.nil_append]
   exact List.filter_congr fun g hg=>ride_take hs hg
 | cons x r ih =>
  intro pre acc hp hacc ha
  have hpl:(pre ++ x :: r).length≤1048576:=by rw[hp];omega
  have hal:acc.length≤7:=by
   have:=sideP_len b pre 0
   have:pre.length≤st.length:=by rw[← hp];simp
   rw[hacc];omega
  have hsn:sideP b (pre ++ [x]) 0=sideP b pre 0 ++ (if x == b then [(pre.length:Int)] else []):=by
   have gen:∀ (q:List Bool) (i:Nat),sideP b (q ++ [x]) i=sideP b q i ++ (if x == b then [((i+q.length:Nat):Int)] else []):=by
    intro q
    induction q with
    | nil=>intro i;simp only[List.nil_append,sideP];split <;> simp
    | cons y q ihq =>
     intro i
     simp only[List.cons_append,sideP,ihq (i+1),List.length_cons]
     rw[show i+1+q.length=i+(q.length+1) by omega]
     split <;> simp
   have:=gen pre 0
   simpa using this
  cases hx:x == b with
  | true =>
   rw[hx] at hsn
   have ha2:(acc ++ [(pre.length:Int)]) ++ sideP b r (pre ++ [x]).length=sideP b st 0:=by
    rw[← ha]
    simp only[sideP,hx,if_true,List.length_append,List.length_cons,List.length_nil,List.append_assoc,List.singleton_append]
   refine Ev.step (fun k=>?_) (ih (pre ++ [x]) (acc ++ [(pre.length:Int)]) (by rw[← hp];simp) (by rw[hsn,hacc];rfl) ha2)
   simp only[spec_loRides.l0]
   rw[if_pos (lt_mid pre x r),if_pos (zle _),if_pos (lt_mid pre x r),rdOf_mid,hx,if_pos rfl,if_pos (by omega),wr_mid pre x r (by omega),app_mid pre x r]
  | false =>
   rw[hx] at hsn
   have ha2:acc ++ sideP b r (pre ++ [x]).length=sideP b st 0:=by
    rw[← ha]
    simp[sideP,hx]
   refine Ev.step (fun k=>?_) (ih (pre ++ [x]) acc (by rw[← hp];simp) (by rw[hsn,hacc];simp) ha2)
   simp only[spec_loRides.l0]
   rw[if_pos (lt_mid pre x r),if_pos (zle _),if_pos (lt_mid pre x r),rdOf_mid,hx,if_neg (by simp),wr_mid pre x r (by omega),app_mid pre x r]
theorem loRides_ev (l:List Int) (rw:List Bool) (m:Int) (st:List Bool) (b:Bool) (hl:l.length≤7) (hr:rw.length=l.length) (hs:st.length=l.length):Ev (fun k=>spec_loRides.f k l rw m st b) (ridesP l rw m st b):=loRides_loop0 l rw m st b hl hr hs st [] [] rfl rfl rfl
end Go.Proofs.Ytikjdmiohpdnaaa.Pure

namespace Go.Proofs.Ytikjdmiohpdnaaa.Pure
open Go.RowKit Go.Proofs.Ytikjdmiohpdnaaa.C20 Go.Proofs.Ytikjdmiohpdnaaa.H Go.Proofs.YtikjdmiohpdnaaaW.PrintWords Go.Proofs.YtikjdmiohpdnaaaW.PrintLast Go.Proofs.YtikjdmiohpdnaaaW.PrintMore
set_option linter.unusedVariables false
set_option linter.unusedSimpArgs false
def allB:Nat→List (List Bool)
 | 0=>[[]]
 | n+1=>(allB n).flatMap fun l=>[false :: l,true :: l]
theorem mem_allB:∀ l:List Bool,l ∈ allB l.length:=by
 intro l
 induction l with
 | nil=>simp [allB]
 | cons x l ih =>
  simp only[List.length_cons,allB,List.mem_flatMap]
  exact ⟨l,ih,by cases x <;> simp⟩
def bitI (b:Bool):Int:=if b then 1 else 0
def enI:List Bool→Bool→Int
 | [],t=>bitI t
 | x :: r,t=>2 * enI r t+bitI x
def dcI (n:Nat) (u:Int):List Bool × Bool:=((List.range n).map (fun k=>u / 2 ^ k % 2 == 1),u / 2 ^ n % 2 == 1)
def enS (ov:List Bool) (t:Bool):Int:=ov.foldl (fun a x=>2 * a+bitI x) (bitI t)
def dcS (n:Nat) (u:Int):List Bool × Bool:=((List.range n).map (fun k=>u / 2 ^ (n - 1 - k) % 2 == 1),u / 2 ^ n % 2 == 1)
set_option maxRecDepth 100000 in
theorem chk_en:((List.range 9).all fun n=>(allB n).all fun ov=>[false,true].all fun t=>decide (0≤enI ov t∧enI ov t < 2 ^ (n+1)∧dcI n (enI ov t)=(ov,t)∧0≤enS ov t∧enS ov t < 2 ^ (n+1)∧dcS n (enS ov t)=(ov,t)))=true:=by decide +kernel
set_option maxRecDepth 100000 in
theorem chk_dc:((List.range 9).all fun n=>(List.range (2 ^ (n+1))).all fun u=>decide ((dcI n (u:Int)).1.length=n∧enI (dcI n (u:Int)).1 (dcI n (u:Int)).2=(u:Int)∧(dcS n (u:Int)).1.length=n∧enS (dcS n (u:Int)).1 (dcS n (u:Int)).2=(u:Int)))=true:=by decide +kernel
theorem en_facts {n:Nat} (hn:n≤8) (ov:List Bool) (t:Bool) (hl:ov.length=n):0≤enI ov t∧enI ov t < 2 ^ (n+1)∧dcI n (enI ov t)=(ov,t)∧0≤enS ov t∧enS ov t < 2 ^ (n+1)∧dcS n (enS ov t)=(ov,t):=by
 have h:=List.all_eq_true.1 chk_en n (List.mem_range.2 (by omega))
 have h:=List.all_eq_true.1 h ov (by rw[← hl];exact mem_allB ov)
 exact of_decide_eq_true (List.all_eq_true.1 h t (by cases t <;> simp))
theorem dc_facts {n:Nat} (hn:n≤8) (u:Int) (h0:0≤u) (h1:u < 2 ^ (n+1)):(dcI n u).1.length=n∧enI (dcI n u).1 (dcI n u).2=u∧(dcS n u).1.length=n∧enS (dcS n u).1 (dcS n u).2=u:=by
 have h:=List.all_eq_true.1 chk_dc n (List.mem_range.2 (by omega))
 have e:((u.toNat:Nat):Int)=u:=Int.toNat_of_nonneg h0
 have hu:u.toNat < 2 ^ (n+1):=by
  have:((2 ^ (n+1):Nat):Int)=2 ^ (n+1):=by simp
  omega
 have h:=of_decide_eq_true (List.all_eq_true.1 h u.toNat (List.mem_range.2 hu))
 rwa [e] at h
set_option maxRecDepth 100000 in
theorem chk_code:((List.range 9).all fun n=>(allB n).all fun ov=>[false,true].all fun t=>decide (impl_State_code.f 20 ov t=some (enI ov t)))=true:=by decide +kernel
theorem code_ev {n:Nat} (hn:n≤8) (ov:List Bool) (t:Bool) (hl:ov.length=n):Ev (fun k=>impl_State_code.f k ov t) (enI ov t):=by
 have h:=List.all_eq_true.1 chk_code n (List.mem_range.2 (by omega))
 have h:=List.all_eq_true.1 h ov (by rw[← hl];exact mem_allB ov)
 exact Ev.of (fun k=>impl_State_code.mono _ _ _) (of_decide_eq_true (List.all_eq_true.1 h t (by cases t <;> simp)))
set_option maxRecDepth 100000 in
theorem chk_stateOf:((List.range 9).all fun n=>(List.range (2 ^ (n+1))).all fun u=>decide (impl_stateOf.f 20 (n:Int) (u:Int)=some (dcI n (u:Int))))=true:=by decide +kernel
theorem stateOf_ev {n:Nat} (hn:n≤8) (u:Int) (h0:0≤u) (h1:u < 2 ^ (n+1)):Ev (fun k=>impl_stateOf.f k (n:Int) u) (dcI n u):=by
 have h:=List.all_eq_true.1 chk_stateOf n (List.mem_range.2 (by omega))
 have e:((u.toNat:Nat):Int)=u:=Int.toNat_of_nonneg h0
 have hu:u.toNat < 2 ^ (n+1):=by
  have:((2 ^ (n+1):Nat):Int)=2 ^ (n+1):=by simp
  omega
 have h:=of_decide_eq_true (List.all_eq_true.1 h u.toNat (List.mem_range.2 hu))
 rw[e] at h
 exact Ev.of (fun k=>impl_stateOf.mono _ _ _) h
set_option maxRecDepth 100000 in
theorem chk_seIndex:((List.range 9).all fun n=>(allB n).all fun ov=>[false,true].all fun t=>decide (spec_seIndex.f 20 ov t=some (enS ov t)))=true:=by decide +kernel
theorem seIndex_ev {n:Nat} (hn:n≤8) (ov:List Bool) (t:Bool) (hl:ov.length=n):Ev (fun k=>spec_seIndex.f k ov t) (enS ov t):=by
 have h:=List.all_eq_true.1 chk_seIndex n (List.mem_range.2 (by omega))
 have h:=List.all_eq_true.1 h ov (by rw[← hl];exact mem_allB ov)
 exact Ev.of (fun k=>spec_seIndex.mono _ _ _) (of_decide_eq_true (List.all_eq_true.1 h t (by cases t <;> simp)))
set_option maxRecDepth 100000 in
theorem chk_seState:((List.range 9).all fun n=>(List.range (2 ^ (n+1))).all fun u=>decide (spec_seState.f 20 (u:Int) (n:Int)=some (dcS n (u:Int))))=true:=by decide +kernel
theorem seState_ev {n:Nat} (hn:n≤8) (u:Int) (h0:0≤u) (h1:u < 2 ^ (n+1)):Ev (fun k=>spec_seState.f k u (n:Int)) (dcS n u):=by
 have h:=List.all_eq_true.1 chk_seState n (List.mem_range.2 (by omega))
 have e:((u.toNat:Nat):Int)=u:=Int.toNat_of_nonneg h0
 have hu:u.toNat < 2 ^ (n+1):=by
  have:((2 ^ (n+1):Nat):Int)=2 ^ (n+1):=by simp
  omega
 have h:=of_decide_eq_true (List.all_eq_true.1 h u.toNat (List.mem_range.2 hu))
 rw[e] at h
 exact Ev.of (fun k=>spec_seState.mono _ _ _) h
end Go.Proofs.Ytikjdmiohpdnaaa.Pure

namespace Go.Proofs.Ytikjdmiohpdnaaa.Pure
open Go.RowKit Go.Proofs.Ytikjdmiohpdnaaa.C20 Go.Proofs.Ytikjdmiohpdnaaa.H Go.Proofs.YtikjdmiohpdnaaaW.PrintWords Go.Proofs.YtikjdmiohpdnaaaW.PrintLast Go.Proofs.YtikjdmiohpdnaaaW.PrintMore
set_option linter.unusedVariables false
set_option linter.unusedSimpArgs false
theorem way_rel {E E':Int→Int→Nat→Prop} {S S':Int→Prop} (R:Int→Int→Prop) (hs:∀ s,S s→∃ s',S' s'∧R s s') (he:∀ u u' v c,R u u'→E u v c→∃ v',E' u' v' c∧R v v') {v:Int} {n:Nat} (h:H.Way E S v n):∃ v',R v v'∧H.Way E' S' v' n:=by
 induction h with
 | here h=>obtain ⟨s',h1,h2⟩:=hs _ h;exact ⟨s',h2,H.Way.here h1⟩
 | on hu h ih =>
  obtain ⟨u',h1,h2⟩:=ih
  obtain ⟨v',h3,h4⟩:=he _ _ _ _ h1 h
  exact ⟨v',h4,H.Way.on h2 h3⟩
theorem grpsF_mem (m:Int):∀ (r l g:List Int),g ∈ grpsF m r l ↔ ∃ t,t≠[]∧t.Sublist r∧g=l ++ t∧((l.length+t.length:Nat):Int)≤m:=by
 intro r
 induction r with
 | nil =>
  intro l g
  simp only[grpsF,List.not_mem_nil,false_iff]
  rintro ⟨t,h1,h2,_⟩
  exact h1 (List.eq_nil_of_sublist_nil h2)
 | cons x r ih =>
  intro l g
  simp only[grpsF]
  split
  ·
   rename_i hl
   simp only[List.mem_cons,List.mem_append,ih]
   constructor
   ·
    rintro (rfl|⟨t,h1,h2,rfl,h3⟩|⟨t,h1,h2,rfl,h3⟩)
    ·
     exact ⟨[x],by simp,by simp,rfl,by simp;omega⟩
    ·
     exact ⟨x :: t,by simp,h2.cons_cons x,by simp,by simp only[List.length_append,List.length_cons,List.length_nil] at h3 ⊢;omega⟩
    ·
     exact ⟨t,h1,h2.cons x,rfl,h3⟩
   ·
    rintro ⟨t,h1,h2,rfl,h3⟩
    cases h2 with
    | cons _ h2=>exact .inr (.inr ⟨t,h1,h2,rfl,h3⟩)
    | @cons_cons t' _ _ h2 =>
     by_cases ht:t'=[]
     ·
      subst ht;exact .inl rfl
     ·
      exact .inr (.inl ⟨t',ht,h2,by simp,by simp only[List.length_append,List.length_cons,List.length_nil] at h3 ⊢;omega⟩)
  ·
   rename_i hl
   simp only[List.not_mem_nil,false_iff]
   rintro ⟨t,h1,h2,rfl,h3⟩
   have:0 < t.length:=List.length_pos_iff.2 h1
   omega
theorem sideP_mem (b:Bool):∀ (r:List Bool) (i:Nat) (x:Int),x ∈ sideP b r i ↔ ∃ j:Nat,x=((i+j:Nat):Int)∧r[j]? = some b:=by
 intro r
 induction r with
 | nil=>intro i x;simp[sideP]
 | cons y r ih =>
  intro i x
  have hiff:(∃ j:Nat,x=((i+j:Nat):Int)∧(y :: r)[j]? = some b) ↔ (x=(i:Int)∧y=b)∨∃ j:Nat,x=((i+1+j:Nat):Int)∧r[j]? = some b:=by
   constructor
   ·
    rintro ⟨j,h1,h2⟩
    cases j with
    | zero=>exact .inl ⟨by simpa using h1,by simpa using h2⟩
    | succ j=>exact .inr ⟨j,by rw[h1];congr 1;omega,by simpa using h2⟩
   ·
    rintro (⟨h1,h2⟩|⟨j,h1,h2⟩)
    ·
     exact ⟨0,by simpa using h1,by simpa using h2⟩
    ·
     exact ⟨j+1,by rw[h1];congr 1;omega,by simpa using h2⟩
  rw[hiff,← ih (i+1) x]
  simp only[sideP]
  by_cases hy:y=b
  ·
   rw[if_pos (by simpa using hy),List.mem_cons]
   simp[hy]
  ·
   rw[if_neg (by simpa using hy)]
   simp[hy]
theorem sideP_asc (b:Bool):∀ (r:List Bool) (i:Nat),(sideP b r i).Pairwise (· < ·):=by
 intro r
 induction r with
 | nil=>intro i;simp[sideP]
 | cons y r ih =>
  intro i
  simp only[sideP]
  split
  ·
   refine List.pairwise_cons.2 ⟨fun x hx=>?_,ih _⟩
   obtain ⟨j,rfl,_⟩:=(sideP_mem b r (i+1) x).1 hx
   omega
  ·
   exact ih _
theorem sub_asc:∀ (L t:List Int),L.Pairwise (· < ·)→t.Pairwise (· < ·)→(∀ x ∈ t,x ∈ L)→t.Sublist L:=by
 intro L
 induction L with
 | nil =>
  intro t _ _ h
  cases t with
  | nil=>exact List.Sublist.refl _
  | cons x t=>exact absurd (h x (by simp)) (by simp)
 | cons y L ih =>
  intro t hL ht h
  cases t with
  | nil=>exact List.nil_sublist _
  | cons x t =>
   rw[List.pairwise_cons] at hL ht
   by_cases e:x=y
   ·
    subst e
    refine (ih t hL.2 ht.2 fun z hz=>?_).cons_cons x
    rcases List.mem_cons.1 (h z (by simp[hz])) with rfl|q
    ·
     exact absurd (ht.1 z hz) (by omega)
    ·
     exact q
   ·
    have hx:x ∈ L:=by
     rcases List.mem_cons.1 (h x (by simp)) with q|q
     ·
      exact absurd q e
     ·
      exact q
    have hyx:=hL.1 x hx
    refine (ih (x :: t) hL.2 (List.pairwise_cons.2 ht) fun z hz=>?_).cons y
    rcases List.mem_cons.1 (h z hz) with rfl|q
    ·
     rcases List.mem_cons.1 hz with rfl|hz
     ·
      exact absurd rfl e
     ·
      have:=ht.1 z hz;omega
    ·
     exact q
theorem mv_get (v:Bool):∀ (t:List Int) (o:List Bool) (j:Nat),(∀ x ∈ t,0≤x∧x < (o.length:Int))→(mv v t o)[j]? = if (j:Int) ∈ t then some v else o[j]? := by
 intro t
 induction t with
 | nil=>intro o j _;simp[mv]
 | cons x t ih =>
  intro o j h
  have hx:=h x (by simp)
  simp only[mv]
  rw[ih (o.set x.toNat v) j (fun y hy=>by simpa using h y (by simp[hy])),List.getElem?_set]
  by_cases h1:(j:Int) ∈ t
  ·
   rw[if_pos h1,if_pos (by simp[h1])]
  ·
   rw[if_neg h1]
   by_cases h2:x.toNat=j
   ·
    rw[if_pos h2,if_pos (by omega),if_pos (by simp;left;omega)]
   ·
    rw[if_neg h2,if_neg (by simp only[List.mem_cons,not_or];exact ⟨by omega,h1⟩)]
theorem tripsP_mem {m:Int} {ov:List Bool} {tr:Bool} {t:List Int}:t ∈ tripsP m ov tr ↔ t≠[]∧(t.length:Int)≤m∧t.Pairwise (· < ·)∧∀ x ∈ t,∃ j:Nat,x=(j:Int)∧ov[j]? = some tr:=by
 unfold tripsP
 rw[grpsF_mem]
 constructor
 ·
  rintro ⟨t',h1,h2,e,h3⟩
  have e:t=t':=e
  subst e
  refine ⟨h1,by simpa using h3,(sideP_asc tr ov 0).sublist h2,fun x hx=>?_⟩
  obtain ⟨j,hj,h⟩:=(sideP_mem tr ov 0 x).1 (h2.subset hx)
  exact ⟨j,by simpa using hj,h⟩
 ·
  rintro ⟨h1,h2,h3,h4⟩
  refine ⟨t,h1,sub_asc _ _ (sideP_asc tr ov 0) h3 (fun x hx=>?_),rfl,by simpa using h2⟩
  obtain ⟨j,rfl,h⟩:=h4 x hx
  exact (sideP_mem tr ov 0 _).2 ⟨j,by simp,h⟩
theorem trip_in {m:Int} {ov:List Bool} {tr:Bool} {t:List Int} (h:t ∈ tripsP m ov tr):∀ x ∈ t,0≤x∧x < (ov.length:Int)∧rdOf false ov x=tr:=by
 intro x hx
 obtain ⟨j,rfl,hj⟩:=(tripsP_mem.1 h).2.2.2 x hx
 have:=(List.getElem?_eq_some_iff.1 hj).1
 exact ⟨by omega,by omega,by simp[rdOf,List.getD_eq_getElem?_getD,hj]⟩
theorem mv_back {m:Int} {ov:List Bool} {tr:Bool} {t:List Int} (h:t ∈ tripsP m ov tr):mv tr t (mv (!tr) t ov)=ov:=by
 have hi:=trip_in h
 have h4:=(tripsP_mem.1 h).2.2.2
 apply List.ext_getElem?
 intro j
 rw[mv_get tr t _ j (fun x hx=>by rw[mv_len];exact ⟨(hi x hx).1,(hi x hx).2.1⟩),mv_get (!tr) t ov j (fun x hx=>⟨(hi x hx).1,(hi x hx).2.1⟩)]
 by_cases hj:(j:Int) ∈ t
 ·
  rw[if_pos hj]
  obtain ⟨i,hi2,hv⟩:=h4 _ hj
  have:j=i:=by omega
  subst this
  exact hv.symm
 ·
  rw[if_neg hj,if_neg hj]
theorem trip_back {m:Int} {ov:List Bool} {tr:Bool} {t:List Int} (h:t ∈ tripsP m ov tr):t ∈ tripsP m (mv (!tr) t ov) (!tr):=by
 have hi:=trip_in h
 obtain ⟨h1,h2,h3,h4⟩:=tripsP_mem.1 h
 refine tripsP_mem.2 ⟨h1,h2,h3,fun x hx=>?_⟩
 obtain ⟨j,rfl,hj⟩:=h4 x hx
 exact ⟨j,rfl,by rw[mv_get (!tr) t ov j (fun x hx=>⟨(hi x hx).1,(hi x hx).2.1⟩),if_pos hx]⟩
theorem rd_in (l:List Int) (x:Int) (h0:0≤x) (h1:x < (l.length:Int)):rd l x ∈ l:=by
 have:x.toNat < l.length:=by omega
 simp[rd,List.getD_eq_getElem?_getD,List.getElem?_eq_getElem this]
theorem enS_inj {n:Nat} (hn:n≤8) {ov ov':List Bool} {tr tr':Bool} (h:ov.length=n) (h':ov'.length=n) (e:enS ov tr=enS ov' tr'):ov=ov'∧tr=tr':=by
 have h1:=(en_facts hn ov tr h).2.2.2.2.2
 have h2:=(en_facts hn ov' tr' h').2.2.2.2.2
 rw[e,h2] at h1
 exact ⟨(Prod.mk.inj h1).1.symm,(Prod.mk.inj h1).2.symm⟩
theorem enI_inj {n:Nat} (hn:n≤8) {ov ov':List Bool} {tr tr':Bool} (h:ov.length=n) (h':ov'.length=n) (e:enI ov tr=enI ov' tr'):ov=ov'∧tr=tr':=by
 have h1:=(en_facts hn ov tr h).2.2.1
 have h2:=(en_facts hn ov' tr' h').2.2.1
 rw[e,h2] at h1
 exact ⟨(Prod.mk.inj h1).1.symm,(Prod.mk.inj h1).2.symm⟩
end Go.Proofs.Ytikjdmiohpdnaaa.Pure

namespace Go.Proofs.Ytikjdmiohpdnaaa.Pure
open Go.RowKit Go.Proofs.Ytikjdmiohpdnaaa.C20 Go.Proofs.Ytikjdmiohpdnaaa.H Go.Proofs.YtikjdmiohpdnaaaW.PrintWords Go.Proofs.YtikjdmiohpdnaaaW.PrintLast Go.Proofs.YtikjdmiohpdnaaaW.PrintMore
set_option linter.unusedVariables false
set_option linter.unusedSimpArgs false
structure TripsOk (n:Nat) (ok:List Bool→Bool→Prop) (tps:List Bool→Bool→List (List Int)) (cst:List Int→Int) (C M:Nat):Prop where
 n8:n≤8
 cnt:∀ ov tr,ov.length=n→(tps ov tr).length≤M
 cost:∀ ov tr,ov.length=n→∀ t ∈ tps ov tr,1≤cst t∧cst t≤(C:Int)
 tgt:∀ ov tr,ov.length=n→∀ t ∈ tps ov tr,ok (mv (!tr) t ov) (!tr)
 back:∀ ov tr,ov.length=n→ok ov tr→∀ t ∈ tps ov tr,t ∈ tps (mv (!tr) t ov) (!tr)∧mv tr t (mv (!tr) t ov)=ov
def EdgT (en:List Bool→Bool→Int) (n:Nat) (tps:List Bool→Bool→List (List Int)) (cst:List Int→Int) (u v:Int) (c:Nat):Prop:=∃ ov tr t,ov.length=n∧u=en ov tr∧t ∈ tps ov tr∧v=en (mv (!tr) t ov) (!tr)∧(c:Int)=cst t
def EdgR (en:List Bool→Bool→Int) (n:Nat) (ok:List Bool→Bool→Prop) (tps:List Bool→Bool→List (List Int)) (cst:List Int→Int) (u v:Int) (c:Nat):Prop:=∃ ov tr t,ov.length=n∧ok ov tr∧u=en ov tr∧t ∈ tps ov tr∧v=en (mv (!tr) t ov) (!tr)∧(c:Int)=cst t
def InjE (en:List Bool→Bool→Int) (n:Nat):Prop:=∀ (ov ov':List Bool) (tr tr':Bool),ov.length=n→ov'.length=n→en ov tr=en ov' tr'→ov=ov'∧tr=tr'
theorem injI {n:Nat} (h:n≤8):InjE enI n:=fun _ _ _ _ a b e=>enI_inj h a b e
theorem injS {n:Nat} (h:n≤8):InjE enS n:=fun _ _ _ _ a b e=>enS_inj h a b e
section
variable {n:Nat} {ok:List Bool→Bool→Prop} {tps:List Bool→Bool→List (List Int)} {cst:List Int→Int} {C M:Nat}
theorem EdgR_sym (h:TripsOk n ok tps cst C M) (en:List Bool→Bool→Int):∀ u v c,EdgR en n ok tps cst u v c→EdgR en n ok tps cst v u c:=by
 rintro u v c ⟨ov,tr,t,hl,ho,rfl,ht,rfl,hc⟩
 obtain ⟨h1,h2⟩:=h.back ov tr hl ho t ht
 exact ⟨mv (!tr) t ov,!tr,t,by rw[mv_len];exact hl,h.tgt ov tr hl t ht,rfl,h1,by rw[Bool.not_not,h2],hc⟩
theorem way_TR (h:TripsOk n ok tps cst C M) {en:List Bool→Bool→Int} (hi:InjE en n) {ov:List Bool} {tr:Bool} (hl:ov.length=n) (ho:ok ov tr) (v:Int) (k:Nat) :
  H.Way (EdgT en n tps cst) (fun x=>x=en ov tr) v k ↔ H.Way (EdgR en n ok tps cst) (fun x=>x=en ov tr) v k:=by
 constructor
 ·
  intro hw
  have:(∃ o b,o.length=n∧ok o b∧v=en o b)∧H.Way (EdgR en n ok tps cst) (fun x=>x=en ov tr) v k:=by
   induction hw with
   | here hs=>exact ⟨⟨ov,tr,hl,ho,hs⟩,H.Way.here hs⟩
   | @on u v m c hu he ih =>
    obtain ⟨⟨o,b,h1,h2,rfl⟩,hw⟩:=ih
    obtain ⟨o',b',t,h3,e,ht,rfl,hc⟩:=he
    obtain ⟨rfl,rfl⟩:=hi _ _ _ _ h1 h3 e
    exact ⟨⟨_,_,by rw[mv_len];exact h1,h.tgt _ _ h1 t ht,rfl⟩,H.Way.on hw ⟨_,_,t,h1,h2,rfl,ht,rfl,hc⟩⟩
  exact this.2
 ·
  refine H.Way.imp_ (fun u v c he=>?_) (fun s hs=>hs)
  obtain ⟨o,b,t,h1,_,h3,h4,h5,h6⟩:=he
  exact ⟨o,b,t,h1,h3,h4,h5,h6⟩
theorem way_conv {en en':List Bool→Bool→Int} (hi:InjE en n) (ov ov':List Bool) (tr tr':Bool) (hl:ov.length=n) (hl':ov'.length=n) (k:Nat) (hw:H.Way (EdgR en n ok tps cst) (fun v=>v=en ov tr) (en ov' tr') k):H.Way (EdgR en' n ok tps cst) (fun v=>v=en' ov tr) (en' ov' tr') k:=by
 obtain ⟨v',⟨o,b,ho,e,rfl⟩,hw'⟩:=way_rel (E':=EdgR en' n ok tps cst) (S':=fun v=>v=en' ov tr) (fun u u'=>∃ ov tr,ov.length=n∧u=en ov tr∧u'=en' ov tr) (fun s hs=>⟨en' ov tr,rfl,ov,tr,hl,hs,rfl⟩) (by
  rintro u u' v c ⟨o,b,ho,rfl,rfl⟩ ⟨o2,b2,t,ho2,hk,e,ht,rfl,hc⟩
  obtain ⟨rfl,rfl⟩:=hi _ _ _ _ ho ho2 e
  exact ⟨_,⟨o,b,t,ho,hk,rfl,ht,rfl,hc⟩,_,_,by rw[mv_len];exact ho,rfl,rfl⟩) hw
 obtain ⟨rfl,rfl⟩:=hi _ _ _ _ hl' ho e
 exact hw'
theorem way_ISR (h:TripsOk n ok tps cst C M) (ov ov':List Bool) (tr tr':Bool) (hl:ov.length=n) (hl':ov'.length=n) (k:Nat) :
  H.Way (EdgR enS n ok tps cst) (fun v=>v=enS ov tr) (enS ov' tr') k ↔ H.Way (EdgR enI n ok tps cst) (fun v=>v=enI ov tr) (enI ov' tr') k :=
 ⟨way_conv (injS h.n8) ov ov' tr tr' hl hl' k,way_conv (injI h.n8) ov ov' tr tr' hl hl' k⟩
theorem edgT_bounded (h:TripsOk n ok tps cst C M) (N:Nat) (hN:(N:Int)=2 ^ (n+1)) (s:Int) (hs:0≤s∧s < (N:Int)):Bounded (EdgT enS n tps cst) (fun v=>v=s) N:=by
 refine ⟨?_,fun v hv=>by subst hv;exact hs⟩
 rintro u v c ⟨ov,tr,t,hl,rfl,ht,rfl,hc⟩
 have h1:=en_facts h.n8 ov tr hl
 have h2:=en_facts h.n8 (mv (!tr) t ov) (!tr) (by rw[mv_len];exact hl)
 have h3:=h.cost ov tr hl t ht
 omega
def ndT (tps:List Bool→Bool→List (List Int)) (cst:List Int→Int) (ov:List Bool) (tr:Bool):List (Int × Int):=(tps ov tr).map fun t=>(enS (mv (!tr) t ov) (!tr),cst t)
theorem ndT_iff (h:n≤8) (ov:List Bool) (tr:Bool) (hl:ov.length=n) (v:Int) (c:Nat):EdgT enS n tps cst (enS ov tr) v c ↔ (v,(c:Int)) ∈ ndT tps cst ov tr:=by
 unfold ndT
 rw[List.mem_map]
 constructor
 ·
  rintro ⟨ov',tr',t,hl',e,ht,rfl,hc⟩
  obtain ⟨rfl,rfl⟩:=enS_inj h hl hl' e
  exact ⟨t,ht,by rw[hc]⟩
 ·
  rintro ⟨t,ht,e⟩
  obtain ⟨e1,e2⟩:=Prod.mk.inj e
  exact ⟨ov,tr,t,hl,rfl,ht,e1.symm,e2.symm⟩
def esT (n:Nat) (tps:List Bool→Bool→List (List Int)) (cst:List Int→Int) (u:Int):List Edg:=(tps (dcI n u).1 (dcI n u).2).map fun t=>(enI (mv (!(dcI n u).2) t (dcI n u).1) (!(dcI n u).2),cst t,t)
theorem pow_natK (n:Nat):((2 ^ (n+1):Nat):Int)=2 ^ (n+1):=by simp
theorem pow_leK {n:Nat} (h:n≤8):0 < 2 ^ (n+1)∧2 ^ (n+1)≤512:=by
 have:2 ^ (n+1)≤2 ^ 9:=Nat.pow_le_pow_right (by omega) (by omega)
 exact ⟨Nat.pow_pos (by omega),this⟩
theorem ev_allK {α:Type} (f:Nat→Nat→Option α) (r:Nat→α):∀ (N:Nat),(∀ u,u < N→Ev (fun k=>f k u) (r u))→∃ K,∀ k,K≤k→∀ u,u < N→f k u=some (r u):=by
 intro N
 induction N with
 | zero=>intro _;exact ⟨0,fun k _ u hu=>absurd hu (Nat.not_lt_zero _)⟩
 | succ N ih =>
  intro h
  obtain ⟨K1,h1⟩:=ih (fun u hu=>h u (by omega))
  obtain ⟨K2,h2⟩:=h N (by omega)
  refine ⟨max K1 K2,fun k hk u hu=>?_⟩
  by_cases e:u=N
  ·
   subst e;exact h2 k (by omega)
  ·
   exact h1 k (by omega) u (by omega)
theorem from_t (h:TripsOk n ok tps cst C M) (hC:C≤4000) (hM:M≤1000) (out:Nat→Int→Option (List Edg)) (hout:∀ u,0≤u→u < 2 ^ (n+1)→Ev (fun k=>out k u) (esT n tps cst u)) (st:Int) (s0:0≤st) (s1:st < 2 ^ (n+1)) :
  ∃ r,Ev (fun k=>bkD (out k) k 0 (List.replicate (2 ^ (n+1)) (-1)) [[st]]) r∧r.length=2 ^ (n+1)∧∀ v,0≤v→v < 2 ^ (n+1)→IsLeast (H.Way (EdgT enI n tps cst) (fun v=>v=st) v) (rd r v):=by
 have hn:=h.n8
 have hp2:=(pow_leK hn).2
 have hpi:=pow_natK n
 obtain ⟨N,hN⟩:∃ N,N=2 ^ (n+1):=⟨_,rfl⟩
 rw[← hN] at hp2 hpi ⊢
 rw[← hpi] at s1 hout ⊢
 obtain ⟨o1,ho1⟩:∃ o1:Int→Option (List Edg),o1=fun u=>if 0≤u∧u < (N:Int) then some (esT n tps cst u) else none:=⟨_,rfl⟩
 have ho1':∀ u,0≤u→u < (N:Int)→o1 u=some (esT n tps cst u):=fun u u0 u1=>by rw[ho1];exact if_pos ⟨u0,u1⟩
 have hmem:∀ u,0≤u→u < (N:Int)→∀ v (c:Nat),(∃ e ∈ esT n tps cst u,e.1=v∧e.2.1=(c:Int)) ↔ EdgT enI n tps cst u v c:=by
  intro u u0 u1 v c
  have hd:=dc_facts hn u u0 (by rw[← hpi];exact u1)
  unfold esT
  generalize hst:dcI n u=sst at hd ⊢
  obtain ⟨ov,tr⟩:=sst
  dsimp only at hd ⊢
  constructor
  ·
   rintro ⟨e,he,rfl,hc⟩
   obtain ⟨t,ht,rfl⟩:=List.mem_map.1 he
   exact ⟨ov,tr,t,hd.1,hd.2.1.symm,ht,rfl,hc.symm⟩
  ·
   rintro ⟨ov2,tr2,t,hl2,e,ht,rfl,hc⟩
   obtain ⟨rfl,rfl⟩:=enI_inj hn hd.1 hl2 (hd.2.1.trans e)
   exact ⟨_,List.mem_map.2 ⟨t,ht,rfl⟩,rfl,hc.symm⟩
 have hok:Okay o1 N C M:=by
  intro u u0 u1
  have hd:=dc_facts hn u u0 (by rw[← hpi];exact u1)
  refine ⟨_,ho1' u u0 u1,?_,fun e he=>?_⟩
  ·
   unfold esT
   rw[List.length_map]
   exact h.cnt _ _ hd.1
  ·
   unfold esT at he
   obtain ⟨t,ht,rfl⟩:=List.mem_map.1 he
   have h2:=en_facts hn (mv (!(dcI n u).2) t (dcI n u).1) (!(dcI n u).2) (by rw[mv_len];exact hd.1)
   have h3:=h.cost _ _ hd.1 t ht
   exact ⟨h2.1,by rw[hpi];exact h2.2.1,h3.1,h3.2⟩
 have hMN:M * N≤1000 * 512:=Nat.mul_le_mul hM hp2
 have hCN:C * N≤4000 * 512:=Nat.mul_le_mul hC hp2
 obtain ⟨K,r,r1,r2,r3⟩:=from_ok (starts:=[st]) hok (by omega) (by unfold bkLim;omega) (by simp[bkLim];omega) (by simp[bkLim];omega) (by
  intro s hs
  have:s=st:=by simpa using hs
  subst this
  exact ⟨s0,s1⟩)
 obtain ⟨K2,hK2⟩:=ev_allK (fun k u=>out k ((u:Nat):Int)) (fun u=>esT n tps cst ((u:Nat):Int)) N (fun u hu=>hout u (by omega) (by omega))
 refine ⟨r,⟨max K K2+1,fun k hk=>?_⟩,r2,fun v v0 v1=>(r3 v v0 v1).iff (fun n=>?_)⟩
 ·
  obtain ⟨k,rfl⟩:∃ j,k=j+1:=⟨k - 1,by omega⟩
  have hr:=r1 k (by omega)
  unfold fromF at hr
  rw[if_pos (by omega),Int.toNat_natCast] at hr
  refine bkD_up (o1:=o1) (o2:=out (k+1)) (fun s es hs=>?_) k 0 _ _ r hr
  rw[ho1] at hs
  dsimp only at hs
  split at hs
  ·
   rename_i hr2
   have:=hK2 (k+1) (by omega) s.toNat (by omega)
   rw[show ((s.toNat:Nat):Int)=s from Int.toNat_of_nonneg hr2.1] at this
   rw[this]
   exact hs
  ·
   cases hs
 ·
  constructor
  ·
   refine H.Way.imp_ (fun u v c he=>?_) (fun s hs=>by simpa using hs)
   obtain ⟨u0,u1,es,e,he1,he2,he3,he4⟩:=he
   rw[ho1' u u0 u1] at he1
   obtain rfl:=Option.some.inj he1
   exact (hmem u u0 u1 v c).1 ⟨e,he2,he3,he4⟩
  ·
   refine H.Way.imp_ (fun u v c he=>?_) (fun s hs=>by simpa using hs)
   have hub:0≤u∧u < (N:Int):=by
    obtain ⟨ov,tr,t,hl,rfl,_⟩:=he
    have:=en_facts hn ov tr hl
    exact ⟨this.1,by rw[hpi];exact this.2.1⟩
   obtain ⟨e,e1,e2,e3⟩:=(hmem u hub.1 hub.2 v c).2 he
   exact ⟨hub.1,hub.2,_,e,ho1' u hub.1 hub.2,e1,e2,e3⟩
end
theorem last_enK {n:Nat} (h:n≤8):impl_last.f (n:Int)=some (enI (List.replicate n true) true)∧enI (List.replicate n false) false=0:=by
 have:n=0∨n=1∨n=2∨n=3∨n=4∨n=5∨n=6∨n=7∨n=8:=by omega
 rcases this with rfl|rfl|rfl|rfl|rfl|rfl|rfl|rfl|rfl <;> exact ⟨by decide +kernel,by decide +kernel⟩
end Go.Proofs.Ytikjdmiohpdnaaa.Pure

namespace Go.Proofs.Ytikjdmiohpdnaaa.Pure
open Go.RowKit Go.Proofs.Ytikjdmiohpdnaaa.C20 Go.Proofs.Ytikjdmiohpdnaaa.H Go.Proofs.YtikjdmiohpdnaaaW.PrintWords Go.Proofs.YtikjdmiohpdnaaaW.PrintLast Go.Proofs.YtikjdmiohpdnaaaW.PrintMore
set_option linter.unusedVariables false
set_option linter.unusedSimpArgs false
theorem DInv_congr {E:Int→Int→Nat→Prop} {S:Int→Prop} {n:Nat} {far:List Int} {dn dn':Int→Bool} (h:DInv E S n far dn) (hb:Bounded E S n) (he:∀ v,0≤v→v < (n:Int)→dn v=dn' v):DInv E S n far dn' :=
 ⟨h.len,h.range,fun v h0 h1 hd=>h.pos v h0 h1 ((he v h0 h1).trans hd),fun v h0 h1 hd=>h.least v h0 h1 ((he v h0 h1).trans hd),fun v h0 h1 hd u u0 u1 hu=>h.order v h0 h1 ((he v h0 h1).trans hd) u u0 u1 ((he u u0 u1).trans hu),fun u h0 h1 hd=>h.edges u h0 h1 ((he u h0 h1).trans hd),h.start⟩
def selP (far:List Int) (dl:List Bool):Nat→Int→Int→Int
 | 0,_,a=>a
 | r+1,i,a=>selP far dl r (i+1) (if rdOf false dl i=true then a else if 0≤rd far i then (if a < 0 then i else if rd far i < rd far a then i else a) else a)
theorem selP_ok (far:List Int) (dl:List Bool) (N:Int):∀ (r:Nat) (i a:Int),0≤i→i+r=N→(a = -1∨0≤a∧a < N∧rdOf false dl a=false∧0≤rd far a)→(∀ u,0≤u→u < i→rdOf false dl u=false→0≤rd far u→0≤a∧rd far a≤rd far u) →
  (selP far dl r i a = -1∨0≤selP far dl r i a∧selP far dl r i a < N∧rdOf false dl (selP far dl r i a)=false∧0≤rd far (selP far dl r i a))∧∀ u,0≤u→u < N→rdOf false dl u=false→0≤rd far u→0≤selP far dl r i a∧rd far (selP far dl r i a)≤rd far u:=by
 intro r
 induction r with
 | zero=>intro i a _ hi ha h;exact ⟨ha,fun u u0 u1=>h u u0 (by omega)⟩
 | succ r ih =>
  intro i a h0 hi ha h
  simp only[selP]
  apply ih (i+1) _ (by omega) (by omega)
  ·
   cases hd:rdOf false dl i with
   | true=>simpa using ha
   | false =>
    simp only[Bool.false_eq_true,if_false]
    by_cases hf:0≤rd far i
    ·
     rw[if_pos hf]
     split
     ·
      exact .inr ⟨h0,by omega,hd,hf⟩
     ·
      split
      ·
       exact .inr ⟨h0,by omega,hd,hf⟩
      ·
       exact ha
    ·
     rw[if_neg hf];exact ha
  ·
   intro u u0 u1 hu hfu
   by_cases e:u=i
   ·
    subst e
    rw[if_neg (by rw[hu];decide),if_pos hfu]
    split
    ·
     exact ⟨u0,Int.le_refl _⟩
    ·
     split
     ·
      exact ⟨u0,Int.le_refl _⟩
     ·
      exact ⟨by omega,by omega⟩
   ·
    have hh:=h u u0 (by omega) hu hfu
    cases hd:rdOf false dl i with
    | true=>simpa using hh
    | false =>
     simp only[Bool.false_eq_true,if_false]
     split
     ·
      split
      ·
       omega
      ·
       split
       ·
        exact ⟨h0,by omega⟩
       ·
        exact hh
     ·
      exact hh
theorem dk_keep (b:Int) (n:Nat) (B:Int) (a:Int) (a0:0≤a) (a1:a < (n:Int)) (hb0:0≤b):∀ (L:List (Int × Int)) (far:List Int),far.length=n→(∀ e ∈ L,0≤e.1∧e.1 < (n:Int)∧1≤e.2∧b+e.2≤B)→rd far a=b→(∀ v,0≤v→v < (n:Int)→rd far v≤B) →
  (dkRelax b L far).length=n∧rd (dkRelax b L far) a=b∧∀ v,0≤v→v < (n:Int)→rd (dkRelax b L far) v≤B:=by
 intro L
 induction L with
 | nil=>intro far hl _ ha h;exact ⟨hl,ha,h⟩
 | cons e L ih =>
  intro far hl hL ha h
  obtain ⟨e0,e1,e2,e3⟩:=hL e (by simp)
  have hs:=fun v (hv:0≤v)=>rd_set far e.1 v (b+e.2) e0 (by omega) hv
  simp only[dkRelax]
  split
  ·
   rename_i hc
   refine ih _ (by simpa using hl) (fun x hx=>hL x (by simp[hx])) ?_ (fun v v0 v1=>?_)
   ·
    rw[hs a a0,if_neg (by rintro rfl;omega)];exact ha
   ·
    rw[hs v v0]
    split
    ·
     exact e3
    ·
     exact h v v0 v1
  ·
   exact ih far hl (fun x hx=>hL x (by simp[hx])) ha h
theorem cnt_true_set:∀ (dl:List Bool) (a:Nat),a < dl.length→rdOf false dl (a:Int)=false→(dl.set a true).countP (fun x => !x)+1=dl.countP (fun x => !x):=by
 intro dl
 induction dl with
 | nil=>intro a h;simp at h
 | cons x dl ih =>
  intro a h hx
  cases a with
  | zero =>
   have:x=false:=by simpa [rdOf] using hx
   subst this
   simp[List.countP_cons]
  | succ a =>
   have:=ih a (by simpa using h) (by simpa [rdOf] using hx)
   simp only[List.set_cons_succ,List.countP_cons]
   omega
theorem rdB_set (dl:List Bool) (a v:Int) (a0:0≤a) (a1:a < (dl.length:Int)) (v0:0≤v):rdOf false (dl.set a.toNat true) v=(decide (v=a) || rdOf false dl v):=by
 unfold rdOf
 rw[List.getD_eq_getElem?_getD,List.getD_eq_getElem?_getD,List.getElem?_set]
 by_cases e:v=a
 ·
  subst e
  rw[if_pos rfl,if_pos (by omega)]
  simp
 ·
  rw[if_neg (by omega),decide_eq_false e,Bool.false_or]
theorem shl2 {n:Nat} (h:n≤8):shl .i64 2 (n:Int)=((2 ^ (n+1):Nat):Int):=by
 have:n=0∨n=1∨n=2∨n=3∨n=4∨n=5∨n=6∨n=7∨n=8:=by omega
 rcases this with rfl|rfl|rfl|rfl|rfl|rfl|rfl|rfl|rfl <;> decide +kernel
theorem pow_nat (n:Nat):((2 ^ (n+1):Nat):Int)=2 ^ (n+1):=by simp
theorem paFirst_eq (l:List Int) (m:Int) (hl:l.length≤1048576):spec_paFirst.f l m=some (List.replicate l.length false,false):=by
 unfold spec_paFirst.f
 rw[if_pos (zle _),if_pos (show ((l.length:Int)).toNat≤281474976710656 by omega),Int.toNat_natCast]
theorem paLast_ev (l:List Int) (m:Int) (hl:l.length≤1048576):Ev (fun k=>spec_paLast.f k l m) (List.replicate l.length true,true):=paLast_loop l l.length 0 [] (by omega) hl rfl
end Go.Proofs.Ytikjdmiohpdnaaa.Pure

namespace Go.Proofs.Ytikjdmiohpdnaaa.Pure
open Go.RowKit Go.Proofs.Ytikjdmiohpdnaaa.C20 Go.Proofs.Ytikjdmiohpdnaaa.H Go.Proofs.YtikjdmiohpdnaaaW.PrintWords Go.Proofs.YtikjdmiohpdnaaaW.PrintLast Go.Proofs.YtikjdmiohpdnaaaW.PrintMore
set_option linter.unusedVariables false
set_option linter.unusedSimpArgs false
theorem loadP_bnd (l:List Int) (hx:∀ x ∈ l,1≤x∧x≤500):∀ (t:List Int) (a:Int),(∀ x ∈ t,0≤x∧x < (l.length:Int))→0≤a→a+500 * (t.length:Int)≤1000000→a+(t.length:Int)≤loadP l t a∧loadP l t a≤a+500 * (t.length:Int):=by
 intro t
 induction t with
 | nil=>intro a _ _ _;simp[loadP]
 | cons y t ih =>
  intro a hi h0 h1
  have hy:=hi y (by simp)
  have hv:=hx _ (rd_in l y hy.1 hy.2)
  simp only[List.length_cons] at h1 ⊢
  simp only[loadP]
  rw[wr_id (by omega) (by omega)]
  have:=ih (a+rd l y) (fun x hx=>hi x (by simp[hx])) (by omega) (by omega)
  omega
def cstC (ld:Bool) (l t:List Int):Int:=if ld=true then loadP l t 0 else 1
theorem goodC_all {l:List Int} {rw:List Bool} {m:Int} (h:goodC l rw m=true):1≤l.length∧l.length≤7∧rw.length=l.length∧∀ x ∈ l,1≤x∧x≤500:=by
 obtain ⟨h1,h2,h3⟩:=goodC_in h
 refine ⟨h1,h2,h3,fun x hx=>?_⟩
 unfold goodC at h
 simp only[Bool.and_eq_true,List.all_eq_true] at h
 have:=h.1.2 x hx
 unfold inB at this
 simp only[Bool.and_eq_true,decide_eq_true_eq] at this
 exact this
theorem ride_trip {l:List Int} {rw:List Bool} {m:Int} {ov:List Bool} {tr:Bool} {t:List Int} (h:t ∈ ridesP l rw m ov tr):t ∈ tripsP (l.length:Int) ov tr∧takes l rw m t=true:=by
 unfold ridesP at h
 rw[List.mem_filter] at h
 exact h
section
variable {l:List Int} {rw:List Bool} {m:Int}
theorem crew_trips (h:goodC l rw m=true) (ld:Bool):TripsOk l.length (fun _ _=>True) (ridesP l rw m) (cstC ld l) 3500 256:=by
 obtain ⟨h1,h2,h3,h4⟩:=goodC_all h
 refine ⟨by omega,fun ov tr ho=>?_,fun ov tr ho t ht=>?_,fun _ _ _ _ _=>trivial,fun ov tr ho _ t ht=>?_⟩
 ·
  have hsl:=sideP_len tr ov 0
  have hgl:=grpsF_len (l.length:Int) (sideP tr ov 0) []
  have hpw:2 ^ (sideP tr ov 0).length≤2 ^ 8:=Nat.pow_le_pow_right (by omega) (by omega)
  have hf:=List.length_filter_le (takes l rw m) (grpsF (l.length:Int) (sideP tr ov 0) [])
  unfold ridesP
  omega
 ·
  obtain ⟨ht1,_⟩:=ride_trip ht
  have hi:=trip_in ht1
  have hne:=tripsP_mem.1 ht1
  have hlen:t.length≤l.length:=by have:=hne.2.1;omega
  have hpos:0 < t.length:=List.length_pos_iff.2 hne.1
  unfold cstC
  split
  ·
   have:=loadP_bnd l h4 t 0 (fun x hx=>⟨(hi x hx).1,by rw[← ho];exact (hi x hx).2.1⟩) (by omega) (by omega)
   omega
  ·
   omega
 ·
  obtain ⟨ht1,ht2⟩:=ride_trip ht
  refine ⟨?_,mv_back ht1⟩
  unfold ridesP
  rw[List.mem_filter]
  exact ⟨trip_back ht1,ht2⟩
theorem loCost_ev (ld:Bool) (t:List Int) (ht:t.length≤1048576) (hi:∀ x ∈ t,0≤x∧x < (l.length:Int)):Ev (fun k=>spec_loCost.f k l rw m t ld) (cstC ld l t):=by
 unfold spec_loCost.f cstC
 cases ld with
 | false=>simp only[Bool.false_eq_true,if_false];exact Ev.now _
 | true=>simp only[if_true];exact Ev.bind (loLoad_ev l rw m t ht hi) (Ev.now _)
theorem loFar_l3 (h:goodC l rw m=true) (ld:Bool) (N:Nat) (hN:(N:Int)=2 ^ (l.length+1)) (a b B:Int) (a0:0≤a) (a1:a < (N:Int)) (hb0:0≤b) (hB:b+3500≤B) (hB2:B≤1000000000) (dl:List Bool) (ov:List Bool) (tr:Bool) (hl:ov.length=l.length) (ts:List (List Int)) (hts:ts.length≤1048576) (hti:∀ t ∈ ts,t ∈ ridesP l rw m ov tr) :
  ∀ (r pre:List (List Int)) (far ways:List Int),ts=pre ++ r→far.length=N→ways.length=N→rd far a=b→(∀ v,0≤v→v < (N:Int)→rd far v≤B) →
   ∃ ways',ways'.length=N∧∀ (R:List Int × List Int),Ev (fun k=>spec_loFar.l1 k ld (l.length:Int) (dkRelax b (r.map fun t=>(enS (mv (!tr) t ov) (!tr),cstC ld l t)) far) ways' dl l rw m) R →
   Ev (fun k=>spec_loFar.l3 k ld (l.length:Int) far ways dl a ts (ts.length:Int) (pre.length:Int) l rw m ov tr) R:=by
 obtain ⟨_,hn7,hrw,hx⟩:=goodC_all h
 have hn:l.length≤8:=by omega
 have hT:=crew_trips h ld
 intro r
 induction r with
 | nil =>
  intro pre far ways e hl' hw' ha hf
  refine ⟨ways,hw',fun R hc=>?_⟩
  subst e
  refine Ev.step (fun k=>spec_loFar.l3.eq_2 ..) ?_
  simp only[if_neg (nlt_end pre)]
  exact hc
 | cons t r ih =>
  intro pre far ways e hl' hw' ha hf
  have ht:=hti t (by rw[e];simp)
  obtain ⟨ht1,_⟩:=ride_trip ht
  have hi:=trip_in ht1
  have htl:t.length≤1048576:=by have:=(tripsP_mem.1 ht1).2.1;omega
  have hen:=en_facts hn (mv (!tr) t ov) (!tr) (by rw[mv_len];exact hl)
  have hcb:=hT.cost ov tr hl t ht
  have hcost:=loCost_ev (l:=l) (rw:=rw) (m:=m) ld t htl (fun x hx=>⟨(hi x hx).1,by rw[← hl];exact (hi x hx).2.1⟩)
  obtain ⟨c,hcd⟩:∃ c,c=cstC ld l t:=⟨_,rfl⟩
  rw[← hcd] at hcb hcost
  have hv:∃ v,v=enS (mv (!tr) t ov) (!tr):=⟨_,rfl⟩
  obtain ⟨v,hv⟩:=hv
  have hs:=fun u (hu:0≤u)=>rd_set far v u (b+c) (by rw[hv];exact hen.2.2.2.1) (by rw[hl',hN,hv];exact hen.2.2.2.2.1) hu
  have hv0:0≤v:=by rw[hv];exact hen.2.2.2.1
  have hv1:v < (N:Int):=by rw[hN,hv];exact hen.2.2.2.2.1
  have hset:∀ (u:Int),0≤u→u < (N:Int)→rd (far.set v.toNat (b+c)) u≤B:=fun u u0 u1=>by
   rw[hs u u0]
   split
   ·
    omega
   ·
    exact hf u u0 u1
  have hseta:rd far v < 0∨b+c < rd far v→rd (far.set v.toNat (b+c)) a=b:=fun q=>by
   rw[hs a a0,if_neg (by rintro rfl;omega)];exact ha
  have hhead:∀ R,(rd far v < 0∨b+c < rd far v→Ev (fun k=>spec_loFar.j4 k ld (l.length:Int) far ways dl a v (b+c) ts (ts.length:Int) (pre.length:Int) true l rw m ov tr) R)→(¬ (rd far v < 0∨b+c < rd far v)→Ev (fun k=>spec_loFar.j4 k ld (l.length:Int) far ways dl a v (b+c) ts (ts.length:Int) (pre.length:Int) false l rw m ov tr) R)→Ev (fun k=>spec_loFar.l3 k ld (l.length:Int) far ways dl a ts (ts.length:Int) (pre.length:Int) l rw m ov tr) R:=by
   intro R h1 h2
   subst e
   refine Ev.step (fun k=>spec_loFar.l3.eq_2 ..) ?_
   have hrd:rd_L2 (pre ++ t :: r) (pre.length:Int)=t:=rdOf_mid [] pre t r
   rw[hrd]
   simp only[if_pos (lt_mid pre t r),if_pos (zle pre.length),if_pos a0,if_pos (show a < (far.length:Int) by omega)]
   refine Ev.bind (paCross_ev ov tr t (by omega) htl (fun x hx=>⟨(hi x hx).1,(hi x hx).2.1⟩) (fun x hx=>(hi x hx).2.2)) ?_
   dsimp only
   refine Ev.bind (seIndex_ev hn (mv (!tr) t ov) (!tr) (by rw[mv_len];exact hl)) ?_
   refine Ev.bind hcost ?_
   rw[ha,wr_id (a:=b+c) (by omega) (by omega),← hv]
   simp only[if_pos hv0,if_pos (show v < (far.length:Int) by omega)]
   by_cases q:rd far v < 0
   ·
    simp only[if_pos q];exact h1 (.inl q)
   ·
    simp only[if_neg q]
    by_cases q2:b+c < rd far v
    ·
     rw[decide_eq_true q2];exact h1 (.inr q2)
    ·
     rw[decide_eq_false q2];exact h2 (by omega)
  have hwr:wrap64 ((pre.length:Int)+1)=((pre ++ [t]).length:Int):=by subst e;exact wr_mid pre t r (by omega)
  by_cases q:rd far v < 0∨b+c < rd far v
  ·
   obtain ⟨w1,hw1⟩:∃ w1,w1=(ways.set v.toNat 0).set v.toNat (wrap64 (rd (ways.set v.toNat 0) v+rd (ways.set v.toNat 0) a)):=⟨_,rfl⟩
   obtain ⟨ways',e1,e2⟩:=ih (pre ++ [t]) (far.set v.toNat (b+c)) w1 (by rw[e];simp) (by simpa using hl') (by rw[hw1];simpa using hw') (hseta q) hset
   refine ⟨ways',e1,fun R hc=>hhead R (fun _=>?_) (fun q2=>absurd q q2)⟩
   simp only[List.map_cons,dkRelax,← hv,← hcd] at hc
   rw[if_pos q] at hc
   refine Ev.step (fun k=>spec_loFar.j4.eq_2 ..) ?_
   have hself:rd (far.set v.toNat (b+c)) v=b+c:=by rw[hs v hv0,if_pos rfl]
   simp only[if_true,if_pos hv0,if_pos (show v < (far.length:Int) by omega),Option.bind_some,if_pos (show v < (ways.length:Int) by omega),hself,if_pos a0,List.length_set,if_pos (show a < (ways.length:Int) by omega)]
   rw[hwr,← hw1]
   exact e2 R hc
  ·
   obtain ⟨ways',e1,e2⟩:∃ ways',ways'.length=N∧∀ R,Ev (fun k=>spec_loFar.l1 k ld (l.length:Int) (dkRelax b (r.map fun t=>(enS (mv (!tr) t ov) (!tr),cstC ld l t)) far) ways' dl l rw m) R→Ev (fun k=>spec_loFar.j4 k ld (l.length:Int) far ways dl a v (b+c) ts (ts.length:Int) (pre.length:Int) false l rw m ov tr) R:=by
    by_cases q3:b+c=rd far v
    ·
     obtain ⟨ways',e1,e2⟩:=ih (pre ++ [t]) far (ways.set v.toNat (wrap64 (rd ways v+rd ways a))) (by rw[e];simp) hl' (by simpa using hw') ha hf
     refine ⟨ways',e1,fun R hc=>?_⟩
     refine Ev.step (fun k=>spec_loFar.j4.eq_2 ..) ?_
     simp only[Bool.false_eq_true,if_false,if_pos hv0,if_pos (show v < (far.length:Int) by omega),if_pos q3,if_pos (show v < (ways.length:Int) by omega),if_pos a0,if_pos (show a < (ways.length:Int) by omega)]
     rw[hwr]
     exact e2 R hc
    ·
     obtain ⟨ways',e1,e2⟩:=ih (pre ++ [t]) far ways (by rw[e];simp) hl' hw' ha hf
     refine ⟨ways',e1,fun R hc=>?_⟩
     refine Ev.step (fun k=>spec_loFar.j4.eq_2 ..) ?_
     simp only[Bool.false_eq_true,if_false,if_pos hv0,if_pos (show v < (far.length:Int) by omega),if_neg q3]
     rw[hwr]
     exact e2 R hc
   refine ⟨ways',e1,fun R hc=>hhead R (fun q2=>absurd q2 q) (fun _=>?_)⟩
   simp only[List.map_cons,dkRelax,← hv,← hcd] at hc
   rw[if_neg q] at hc
   exact e2 R hc
theorem loFar_l2 (ld:Bool) (N:Nat) (hN2:N≤1000) (far ways:List Int) (dl:List Bool) (hl:far.length=N) (hd:dl.length=N) (R:List Int × List Int):∀ (r:Nat) (i:Nat) (a:Int),i+r=N→(a = -1∨0≤a∧a < (N:Int)) →
  Ev (fun k=>if selP far dl r (i:Int) a < 0 then (some (far,ways)) else (if 0≤selP far dl r (i:Int) a then (if selP far dl r (i:Int) a < (dl.length:Int) then ((spec_seState.f k (selP far dl r (i:Int) a) (l.length:Int)).bind fun bt204=>((spec_loRides.f k l rw m bt204.1 bt204.2).bind fun t209=>(spec_loFar.l3 k ld (l.length:Int) far ways (dl.set (selP far dl r (i:Int) a).toNat true) (selP far dl r (i:Int) a) t209 (t209.length:Int) 0 l rw m bt204.1 bt204.2))) else (none)) else (none))) R →
  Ev (fun k=>spec_loFar.l2 k ld (l.length:Int) far ways dl a far (N:Int) (i:Int) l rw m) R:=by
 intro r
 induction r with
 | zero =>
  intro i a hi ha h
  refine Ev.step (fun k=>spec_loFar.l2.eq_2 ..) ?_
  simp only[if_neg (show ¬ (i:Int) < (N:Int) by omega)]
  exact h
 | succ r ih =>
  intro i a hi ha h
  refine Ev.step (fun k=>spec_loFar.l2.eq_2 ..) ?_
  rw[wr_id (a:=(i:Int)+1) (by omega) (by omega)]
  simp only[if_pos (show (i:Int) < (N:Int) by omega),if_pos (zle i),if_pos (show (i:Int) < (far.length:Int) by omega),if_pos (show (i:Int) < (dl.length:Int) by omega)]
  simp only[selP] at h
  have go:=ih (i+1)
  rw[show ((i+1:Nat):Int)=(i:Int)+1 by omega] at go
  cases hdn:rdOf false dl (i:Int) with
  | true =>
   simp only[hdn,if_true] at h ⊢
   exact go a (by omega) ha h
  | false =>
   simp only[hdn,Bool.false_eq_true,if_false] at h ⊢
   by_cases hf:0≤rd far (i:Int)
   ·
    simp only[if_pos hf] at h
    simp only[if_pos (show rd far (i:Int) ≥ 0 from hf)]
    by_cases ha0:a < 0
    ·
     simp only[if_pos ha0] at h ⊢
     exact go i (by omega) (.inr ⟨by omega,by omega⟩) h
    ·
     simp only[if_neg ha0] at h ⊢
     simp only[if_pos (show 0≤a by omega),if_pos (show a < (far.length:Int) by omega)]
     by_cases hlt:rd far (i:Int) < rd far a
     ·
      simp only[if_pos hlt] at h ⊢
      exact go i (by omega) (.inr ⟨by omega,by omega⟩) h
     ·
      simp only[if_neg hlt] at h ⊢
      exact go a (by omega) ha h
   ·
    simp only[if_neg hf] at h
    simp only[if_neg (show ¬ rd far (i:Int) ≥ 0 from hf)]
    exact go a (by omega) ha h
theorem loFar_l1 (h:goodC l rw m=true) (ld:Bool) (N:Nat) (hN:(N:Int)=2 ^ (l.length+1)) (hN2:N≤512) (s:Int) (hs:0≤s∧s < (N:Int)) :
  ∀ (g:Nat) (far ways:List Int) (dl:List Bool),dl.countP (fun x => !x)≤g→g≤512→dl.length=N→ways.length=N→DInv (EdgT enS l.length (ridesP l rw m) (cstC ld l)) (fun v=>v=s) N far (fun v=>rdOf false dl v)→(∀ v,0≤v→v < (N:Int)→rd far v≤3500 * (512 - (g:Int))) →
   ∃ far' ways',Ev (fun k=>spec_loFar.l1 k ld (l.length:Int) far ways dl l rw m) (far',ways')∧far'.length=N∧(∀ v,0≤v→v < (N:Int)→rd far' v≤3500 * 512)∧∀ v,0≤v→v < (N:Int)→IsLeast (H.Way (EdgT enS l.length (ridesP l rw m) (cstC ld l)) (fun v=>v=s) v) (rd far' v):=by
 have hT:=crew_trips h ld
 have hB:=edgT_bounded hT N hN s hs
 obtain ⟨hn1,hn7,hrw,hx⟩:=goodC_all h
 have hn:=hT.n8
 intro g
 induction g with
 | zero =>
  intro far ways dl hg hg2 hdl hwl hI hle
  have hall:∀ v,0≤v→v < (N:Int)→rdOf false dl v=true:=by
   intro v v0 v1
   have:dl.countP (fun x => !x)=0:=by omega
   rw[List.countP_eq_zero] at this
   have hv:v.toNat < dl.length:=by omega
   have:=this (dl[v.toNat]) (List.getElem_mem hv)
   simpa [rdOf,List.getD_eq_getElem?_getD,List.getElem?_eq_getElem hv] using this
  obtain ⟨s1,s2⟩:=selP_ok far dl (N:Int) N 0 (-1) (by omega) (by omega) (.inl rfl) (fun u u0 u1=>by omega)
  have hsel:selP far dl N 0 (-1) = -1:=by
   rcases s1 with q|⟨q0,q1,q2,_⟩
   ·
    exact q
   ·
    rw[hall _ q0 q1] at q2;cases q2
  refine ⟨far,ways,?_,hI.len,fun v v0 v1=>by have:=hle v v0 v1;omega,hI.fin hB (fun v v0 v1 hd=>by rw[hall v v0 v1] at hd;cases hd)⟩
  refine Ev.step (fun k=>spec_loFar.l1.eq_2 ..) ?_
  rw[hI.len]
  refine loFar_l2 ld N (by omega) far ways dl hI.len hdl (far,ways) N 0 (-1) (by omega) (.inl rfl) ?_
  rw[show ((0:Nat):Int)=0 from rfl,hsel]
  simp only[if_pos (show (-1:Int) < 0 by omega)]
  exact Ev.now _
 | succ g ih =>
  intro far ways dl hg hg2 hdl hwl hI hle
  obtain ⟨s1,s2⟩:=selP_ok far dl (N:Int) N 0 (-1) (by omega) (by omega) (.inl rfl) (fun u u0 u1=>by omega)
  rcases s1 with hsel|⟨a0,a1,a2,a3⟩
  ·
   refine ⟨far,ways,?_,hI.len,fun v v0 v1=>by have:=hle v v0 v1;omega,hI.fin hB (fun v v0 v1 hd=>?_)⟩
   ·
    refine Ev.step (fun k=>spec_loFar.l1.eq_2 ..) ?_
    rw[hI.len]
    refine loFar_l2 ld N (by omega) far ways dl hI.len hdl (far,ways) N 0 (-1) (by omega) (.inl rfl) ?_
    rw[show ((0:Nat):Int)=0 from rfl,hsel]
    simp only[if_pos (show (-1:Int) < 0 by omega)]
    exact Ev.now _
   ·
    by_cases hf:0≤rd far v
    ·
     have:=(s2 v v0 v1 hd hf).1;omega
    ·
     omega
  ·
   generalize hsel:selP far dl N 0 (-1)=a at a0 a1 a2 a3 s2
   obtain ⟨q1,q2,q3,q4⟩:=dc_facts hn a a0 (by rw[← hN];exact a1)
   have hst:=seState_ev hn a a0 (by rw[← hN];exact a1)
   obtain ⟨ov,tr,hds⟩:∃ ov tr,dcS l.length a=(ov,tr):=⟨_,_,rfl⟩
   rw[hds] at q3 q4 hst
   dsimp only at q3 q4
   subst q4
   have hlt:=hle _ a0 a1
   have hL2:∀ e ∈ ndT (ridesP l rw m) (cstC ld l) ov tr,0≤e.1∧e.1 < (N:Int)∧1≤e.2∧e.2≤3500:=by
    intro e he
    unfold ndT at he
    obtain ⟨t,ht,rfl⟩:=List.mem_map.1 he
    have h2:=en_facts hn (mv (!tr) t ov) (!tr) (by rw[mv_len];exact q3)
    have h3:=hT.cost ov tr q3 t ht
    exact ⟨h2.2.2.2.1,by rw[hN];exact h2.2.2.2.2.1,h3.1,h3.2⟩
   have hstep:=hI.step hB a0 a1 a2 a3 (fun u u0 u1 hu hf=>(s2 u u0 u1 hu hf).2) (ndT (ridesP l rw m) (cstC ld l) ov tr) (fun v c=>ndT_iff hn ov tr q3 v c) (fun e he=>by have:=hL2 e he;omega)
   obtain ⟨k1,k2,k3⟩:=dk_keep (rd far (enS ov tr)) N (3500 * (512 - (g:Int))) (enS ov tr) a0 a1 a3 (ndT (ridesP l rw m) (cstC ld l) ov tr) far hI.len (fun e he=>by have:=hL2 e he;omega) rfl (fun v v0 v1=>by have:=hle v v0 v1;omega)
   have hI':=DInv_congr (dn':=fun v=>rdOf false (dl.set (enS ov tr).toNat true) v) hstep hB (fun v v0 v1=>(rdB_set dl (enS ov tr) v a0 (by omega) v0).symm)
   have hcnt:=cnt_true_set dl (enS ov tr).toNat (by omega) (by rw[Int.toNat_of_nonneg a0];exact a2)
   have hcl:=hT.cnt ov tr q3
   obtain ⟨ways1,e0,e4⟩:=loFar_l3 h ld N hN (enS ov tr) (rd far (enS ov tr)) (3500 * (512 - (g:Int))) a0 a1 a3 (by omega) (by omega) (dl.set (enS ov tr).toNat true) ov tr q3 (ridesP l rw m ov tr) (by omega) (fun t ht=>ht) (ridesP l rw m ov tr) [] far ways rfl hI.len hwl rfl (fun v v0 v1=>by have:=hle v v0 v1;omega)
   obtain ⟨far',ways',e1,e2,e3,e5⟩:=ih (dkRelax (rd far (enS ov tr)) (ndT (ridesP l rw m) (cstC ld l) ov tr) far) ways1 (dl.set (enS ov tr).toNat true) (by omega) (by omega) (by simpa using hdl) e0 hI' k3
   refine ⟨far',ways',?_,e2,e3,e5⟩
   refine Ev.step (fun k=>spec_loFar.l1.eq_2 ..) ?_
   rw[hI.len]
   refine loFar_l2 ld N (by omega) far ways dl hI.len hdl (far',ways') N 0 (-1) (by omega) (.inl rfl) ?_
   rw[show ((0:Nat):Int)=0 from rfl,hsel]
   simp only[if_neg (show ¬ enS ov tr < 0 by omega),if_pos a0,if_pos (show enS ov tr < (dl.length:Int) by omega)]
   refine Ev.bind hst ?_
   dsimp only
   refine Ev.bind (loRides_ev l rw m ov tr hn7 hrw q3) ?_
   exact e4 _ e1
theorem loFar_fill (ld:Bool) (ways:List Int) (dl:List Bool) (R:List Int × List Int):∀ (n:Nat) (pre:List Int),(∀ v ∈ pre,v = -1)→pre.length+n≤1000→Ev (fun k=>(spec_loParty.f l rw m).bind fun bt251=>((spec_paLast.f k bt251.1 bt251.2).bind fun bt255=>((spec_seIndex.f k bt255.1 bt255.2).bind fun t259=>(if 0≤t259 then (if t259 < ((List.replicate (pre.length+n) (-1:Int)).length:Int) then (if t259 < (ways.length:Int) then (spec_loFar.l1 k ld (l.length:Int) ((List.replicate (pre.length+n) (-1:Int)).set (t259:Int).toNat 0) (ways.set (t259:Int).toNat 1) dl l rw m) else (none)) else (none)) else (none))))) R →
  Ev (fun k=>spec_loFar.l0 k ld (l.length:Int) (pre ++ List.replicate n 0) ways dl ((pre.length+n:Nat):Int) (pre.length:Int) l rw m) R:=by
 intro n
 induction n with
 | zero =>
  intro pre hp hl h
  have e:pre=List.replicate (pre.length+0) (-1):=List.eq_replicate_iff.2 ⟨by simp,hp⟩
  refine Ev.step (fun k=>spec_loFar.l0.eq_2 ..) ?_
  rw[show pre ++ List.replicate 0 0=pre by simp]
  rw[← e] at h
  simp only[if_neg (show ¬ (pre.length:Int) < ((pre.length+0:Nat):Int) by omega)]
  exact h
 | succ n ih =>
  intro pre hp hl h
  refine Ev.step (fun k=>spec_loFar.l0.eq_2 ..) ?_
  rw[List.replicate_succ,set_mid,wr_id (a:=(pre.length:Int)+1) (by omega) (by omega)]
  simp only[if_pos (show (pre.length:Int) < ((pre.length+(n+1):Nat):Int) by omega),if_pos (zle pre.length),if_pos (lt_mid pre (0:Int) (List.replicate n 0))]
  rw[app_mid]
  have:=ih (pre ++ [-1]) (fun v hv=>by
   rcases List.mem_append.1 hv with hv|hv
   ·
    exact hp v hv
   ·
    simpa using hv) (by simp;omega) (by rw[show (pre ++ [(-1:Int)]).length+n=pre.length+(n+1) by simp;omega];exact h)
  rw[show ((pre ++ [(-1:Int)]).length+n:Nat)=pre.length+(n+1) by simp;omega,show (((pre ++ [(-1:Int)]).length:Nat):Int)=(pre.length:Int)+1 by simp] at this
  exact this
theorem loFar_ok (h:goodC l rw m=true) (ld:Bool):∃ far ways,Ev (fun k=>spec_loFar.f k l rw m ld) (far,ways)∧far.length=2 ^ (l.length+1)∧(∀ v,0≤v→v < (far.length:Int)→rd far v≤3500 * 512)∧∀ v,0≤v→v < (far.length:Int)→IsLeast (H.Way (EdgT enS l.length (ridesP l rw m) (cstC ld l)) (fun v=>v=enS (List.replicate l.length true) true) v) (rd far v):=by
 have hT:=crew_trips h ld
 have hn:=hT.n8
 have hp2:=(pow_leK hn).2
 obtain ⟨N,hN⟩:∃ N,N=2 ^ (l.length+1):=⟨_,rfl⟩
 have hNi:(N:Int)=2 ^ (l.length+1):=by rw[hN];exact pow_nat _
 have hlT:(List.replicate l.length true).length=l.length:=by simp
 have hs:=en_facts hn (List.replicate l.length true) true hlT
 have hs':0≤enS (List.replicate l.length true) true∧enS (List.replicate l.length true) true < (N:Int):=⟨hs.2.2.2.1,by rw[hNi];exact hs.2.2.2.2.1⟩
 have hB:=edgT_bounded hT N hNi _ hs'
 have hI:=DInv.init hB (enS (List.replicate l.length true) true) (fun x=>Iff.rfl)
 have hrep:∀ v,0≤v→v < (N:Int)→rdOf false (List.replicate N false) v=false:=fun v v0 v1=>by
  unfold rdOf
  rw[List.getD_eq_getElem?_getD,List.getElem?_replicate]
  split <;> rfl
 have hI:=DInv_congr (dn':=fun v=>rdOf false (List.replicate N false) v) hI hB (fun v v0 v1=>(hrep v v0 v1).symm)
 obtain ⟨far,ways,e1,e2,e3,e4⟩:=loFar_l1 h ld N hNi (by omega) _ hs' 512 _ ((List.replicate N 0).set (enS (List.replicate l.length true) true).toNat 1) (List.replicate N false) (Nat.le_trans List.countP_le_length (by rw[List.length_replicate];omega)) (by omega) (by simp) (by simp) hI (fun v v0 v1=>by
  rw[rd_set _ _ v 0 hs'.1 (by simpa using hs'.2) v0]
  split
  ·
   omega
  ·
   rw[rd_rep N (-1) v v0 v1];omega)
 refine ⟨far,ways,?_,by rw[e2,hN],by rw[e2];exact e3,by rw[e2];exact e4⟩
 unfold spec_loFar.f
 rw[shl2 hn,← hN,Int.toNat_natCast]
 simp only[if_pos (zle N),if_pos (show N≤35184372088832 by omega),Option.bind_some,List.length_replicate,Int.toNat_natCast,if_pos (show N≤281474976710656 by omega)]
 have hfl:=loFar_fill (l:=l) (rw:=rw) (m:=m) ld (List.replicate N 0) (List.replicate N false) (far,ways) N [] (by simp) (by simp;omega) (by
  have hp:spec_loParty.f l rw m=some (l,0):=rfl
  simp only[hp,Option.bind_some]
  refine Ev.bind (paLast_ev l 0 (by omega)) ?_
  dsimp only
  refine Ev.bind (seIndex_ev hn _ true hlT) ?_
  simp only[List.length_nil,Nat.zero_add,List.length_replicate]
  simp only[if_pos hs'.1,if_pos hs'.2]
  exact e1)
 simpa using hfl
end
end Go.Proofs.Ytikjdmiohpdnaaa.Pure

namespace Go.Proofs.Ytikjdmiohpdnaaa.Pure
open Go.RowKit Go.Proofs.Ytikjdmiohpdnaaa.C20 Go.Proofs.Ytikjdmiohpdnaaa.H Go.Proofs.YtikjdmiohpdnaaaW.PrintWords Go.Proofs.YtikjdmiohpdnaaaW.PrintLast Go.Proofs.YtikjdmiohpdnaaaW.PrintMore
set_option linter.unusedVariables false
set_option linter.unusedSimpArgs false
section
variable {l:List Int} {rw:List Bool} {m:Int}
theorem crewStep_ev (h:goodC l rw m=true) (ld:Bool) {ov:List Bool} {tr:Bool} (hl:ov.length=l.length) (s:List Edg) {t:List Int} (ht:t ∈ ridesP l rw m ov tr):Ev (fun k=>crewStep k ld l rw m ov tr s t) (s ++ [(enI (mv (!tr) t ov) (!tr),cstC ld l t,t)]):=by
 obtain ⟨_,hn7,hrw,hx⟩:=goodC_all h
 obtain ⟨ht1,_⟩:=ride_trip ht
 have hi:=trip_in ht1
 have htl:t.length≤1048576:=by have:=(tripsP_mem.1 ht1).2.1;omega
 unfold crewStep crewCost cstC
 have hc:Ev (fun k=>if ld=true then impl_Crew_load.f k l rw m t else some 1) (if ld=true then loadP l t 0 else 1):=by
  cases ld with
  | false=>exact Ev.now _
  | true=>exact load_ev l rw m t htl (fun x hx=>⟨(hi x hx).1,by rw[← hl];exact (hi x hx).2.1⟩)
 refine Ev.bind hc (Ev.bind (moved_ev ov tr t (by omega) htl (fun x hx=>⟨(hi x hx).1,(hi x hx).2.1⟩)) ?_)
 dsimp only
 refine Ev.bind (code_ev (n:=l.length) (by omega) (mv (!tr) t ov) (!tr) (by rw[mv_len];exact hl)) ?_
 exact Ev.now _
theorem crewFold_ev (h:goodC l rw m=true) (ld:Bool) {ov:List Bool} {tr:Bool} (hl:ov.length=l.length):∀ (gs:List (List Int)) (s:List Edg),(∀ t ∈ gs,t ∈ ridesP l rw m ov tr)→Ev (fun k=>gs.foldlM (crewStep k ld l rw m ov tr) s) (s ++ gs.map fun t=>(enI (mv (!tr) t ov) (!tr),cstC ld l t,t)):=by
 intro gs
 induction gs with
 | nil=>intro s _;simp only[List.foldlM_nil,List.map_nil,List.append_nil];exact Ev.now _
 | cons t gs ih =>
  intro s hg
  simp only[List.foldlM_cons,List.map_cons]
  have:=ih (s ++ [(enI (mv (!tr) t ov) (!tr),cstC ld l t,t)]) (fun x hx=>hg x (by simp[hx]))
  rw[List.append_assoc] at this
  exact Ev.bind (crewStep_ev h ld hl s (hg t (by simp))) this
theorem crewOut_ev (h:goodC l rw m=true) (ld:Bool) (u:Int) (u0:0≤u) (u1:u < 2 ^ (l.length+1)):Ev (fun k=>crewOut k ld l rw m u) (esT l.length (ridesP l rw m) (cstC ld l) u):=by
 obtain ⟨_,hn7,hrw,hx⟩:=goodC_all h
 have hT:=crew_trips h ld
 have hd:=dc_facts hT.n8 u u0 u1
 unfold crewOut
 refine Ev.bind (stateOf_ev hT.n8 u u0 u1) ?_
 unfold esT
 generalize dcI l.length u=st at hd ⊢
 obtain ⟨ov,tr⟩:=st
 dsimp only at hd ⊢
 refine Ev.bind (crewRides_ev l rw m ov tr hn7 hrw hd.1) ?_
 have hc:=hT.cnt ov tr hd.1
 simp only[if_pos (show (ridesP l rw m ov tr).length≤1048576 by omega)]
 have:=crewFold_ev h ld hd.1 (ridesP l rw m ov tr) [] (fun t ht=>ht)
 simp only[List.nil_append] at this
 exact this
theorem crewFrom (h:goodC l rw m=true) (ld:Bool) (st:Int) (s0:0≤st) (s1:st < 2 ^ (l.length+1)):∃ r,Ev (fun k=>bkD (crewOut k ld l rw m) k 0 (List.replicate (2 ^ (l.length+1)) (-1)) [[st]]) r∧r.length=2 ^ (l.length+1)∧∀ v,0≤v→v < 2 ^ (l.length+1)→IsLeast (H.Way (EdgT enI l.length (ridesP l rw m) (cstC ld l)) (fun v=>v=st) v) (rd r v) :=
 from_t (crew_trips h ld) (by omega) (by omega) (fun k u=>crewOut k ld l rw m u) (fun u u0 u1=>crewOut_ev h ld u u0 u1) st s0 s1
theorem least_signK {P:Nat→Prop} {x:Int} (h:IsLeast P x):x = -1∨0≤x:=by
 rcases h with ⟨q,_⟩|⟨k,q,_⟩ <;> omega
theorem loStart_ev (hl:l.length≤8):Ev (fun k=>spec_loStart.f k l rw m) (enS (List.replicate l.length false) false):=by
 unfold spec_loStart.f
 have hp:spec_loParty.f l rw m=some (l,0):=rfl
 simp only[hp,Option.bind_some,paFirst_eq l 0 (by omega)]
 exact Ev.bind (seIndex_ev hl _ false (by simp)) (Ev.now _)
theorem crew_both (h:goodC l rw m=true) (ld:Bool):∃ far ways r,Ev (fun k=>spec_loFar.f k l rw m ld) (far,ways)∧far.length=2 ^ (l.length+1)∧Ev (fun k=>impl_Crew_costs.f k l rw m ld) (r,decide (0≤rd r 0))∧r.length=2 ^ (l.length+1)∧(∀ ov tr,ov.length=l.length→rd far (enS ov tr)=rd r (enI ov tr))∧(∀ v,0≤v→v < 2 ^ (l.length+1) → -1≤rd r v∧rd r v≤3500 * 512) ∧
  ∀ v,0≤v→v < 2 ^ (l.length+1)→IsLeast (H.Way (EdgR enI l.length (fun _ _=>True) (ridesP l rw m) (cstC ld l)) (fun v=>v=enI (List.replicate l.length true) true) v) (rd r v):=by
 have hT:=crew_trips h ld
 have hn:=hT.n8
 have hlT:(List.replicate l.length true).length=l.length:=by simp
 have hE:=en_facts hn (List.replicate l.length true) true hlT
 obtain ⟨far,ways,f1,f2,f3,f4⟩:=loFar_ok h ld
 obtain ⟨r,r1,r2,r3⟩:=crewFrom h ld (enI (List.replicate l.length true) true) hE.1 hE.2.1
 have hfl:(far.length:Int)=2 ^ (l.length+1):=by rw[f2];exact pow_natK _
 have heq:∀ ov tr,ov.length=l.length→rd far (enS ov tr)=rd r (enI ov tr):=fun ov tr ho=>by
  have hv:=en_facts hn ov tr ho
  have e1:=f4 (enS ov tr) hv.2.2.2.1 (by rw[hfl];exact hv.2.2.2.2.1)
  have e2:=r3 (enI ov tr) hv.1 hv.2.1
  refine IsLeast.uniq (e1.iff (fun k=>?_)) e2
  rw[way_TR hT (injS hn) hlT trivial,way_TR hT (injI hn) hlT trivial]
  exact way_ISR hT _ _ _ _ hlT ho k
 refine ⟨far,ways,r,f1,f2,?_,r2,heq,fun v v0 v1=>?_,fun v v0 v1=>(r3 v v0 v1).iff (fun k=>way_TR hT (injI hn) hlT trivial v k)⟩
 ·
  unfold impl_Crew_costs.f
  simp only[if_pos hn,(last_enK hn).1,Option.bind_some]
  refine Ev.bind r1 ?_
  simp only[if_pos r2]
  exact Ev.now _
 ·
  have hd:=dc_facts hn v v0 v1
  have e:=heq (dcI l.length v).1 (dcI l.length v).2 hd.1
  rw[hd.2.1] at e
  have hs:=least_signK (r3 v v0 v1)
  have hv:=en_facts hn (dcI l.length v).1 (dcI l.length v).2 hd.1
  have:=f3 _ hv.2.2.2.1 (by rw[hfl];exact hv.2.2.2.2.1)
  omega
theorem loLeast_both (h:goodC l rw m=true) (ld:Bool):∃ r,Ev (fun k=>impl_Crew_costs.f k l rw m ld) (r,decide (0≤rd r 0))∧Ev (fun k=>spec_loLeast.f k l rw m ld) (rd r 0)∧(rd r 0 = -1∨0≤rd r 0):=by
 have hT:=crew_trips h ld
 have hn:=hT.n8
 have hlF:(List.replicate l.length false).length=l.length:=by simp
 have hF:=en_facts hn (List.replicate l.length false) false hlF
 obtain ⟨far,ways,r,f1,f2,r1,r2,heq,_,hle⟩:=crew_both h ld
 have hfl:(far.length:Int)=2 ^ (l.length+1):=by rw[f2];exact pow_natK _
 have e:=heq _ false hlF
 rw[(last_enK hn).2] at e
 refine ⟨r,r1,?_,least_signK (hle 0 (by omega) (by rw[← pow_natK];have:=(pow_leK hn).1;omega))⟩
 unfold spec_loLeast.f
 refine Ev.bind f1 (Ev.bind (loStart_ev hn) ?_)
 simp only[if_pos hF.2.2.2.1,if_pos (show enS (List.replicate l.length false) false < (far.length:Int) by rw[hfl];exact hF.2.2.2.2.1),e]
 exact Ev.now _
end
end Go.Proofs.Ytikjdmiohpdnaaa.Pure

namespace Go.Proofs.Ytikjdmiohpdnaaa.Pure
open Go.RowKit Go.Proofs.Ytikjdmiohpdnaaa.C20 Go.Proofs.Ytikjdmiohpdnaaa.H Go.Proofs.YtikjdmiohpdnaaaW.PrintWords Go.Proofs.YtikjdmiohpdnaaaW.PrintLast Go.Proofs.YtikjdmiohpdnaaaW.PrintMore
set_option linter.unusedVariables false
set_option linter.unusedSimpArgs false
def pth (tps:List Bool→Bool→List (List Int)) (cst:List Int→Int) (h:List Bool→Bool→Int):Nat→List Bool→Bool→List (List Int)
 | 0,_,_=>[]
 | k+1,ov,tr=>if 0 < h ov tr then (match (tps ov tr).find? (fun t=>decide (0≤h (mv (!tr) t ov) (!tr)) && decide (h (mv (!tr) t ov) (!tr)+cst t=h ov tr)) with
  | none=>[]
  | some t=>t :: pth tps cst h k (mv (!tr) t ov) (!tr)) else []
section
variable {n:Nat} {ok:List Bool→Bool→Prop} {tps:List Bool→Bool→List (List Int)} {cst:List Int→Int} {C M:Nat}
theorem head_filter_map {α β:Type} (f:α→β) (p:β→Bool) (l:List α):((l.map f).filter p)=(l.filter (fun a=>p (f a))).map f:=by
 induction l with
 | nil=>rfl
 | cons a l ih =>
  simp only[List.map_cons,List.filter_cons]
  cases p (f a) <;> simp [ih]
theorem filter_find {α:Type} (p:α→Bool) (l:List α):(l.filter p).head? = l.find? p:=by
 induction l with
 | nil=>rfl
 | cons a l ih =>
  simp only[List.filter_cons,List.find?_cons]
  cases p a <;> simp [ih]
theorem step_back {E:Int→Int→Nat→Prop} {S:Int→Prop} (hs:∀ u v c,E u v c→E v u c) (r:List Int) (hpos:∀ u v c,E u v c→1≤c) (v:Int) (hv:IsLeast (H.Way E S v) (rd r v)) (hu:∀ u c,E v u c→IsLeast (H.Way E S u) (rd r u)) (h0:0 < rd r v):∃ u c,E v u c∧0≤rd r u∧rd r u+(c:Int)=rd r v:=by
 rcases hv with ⟨q,_⟩|⟨m,q,hw,hm⟩
 ·
  omega
 ·
  cases hw with
  | here hS=>omega
  | @on u _ a c hw he =>
   have hb:=hs u v c he
   refine ⟨u,c,hb,?_⟩
   rcases hu u c hb with ⟨_,q2⟩|⟨m2,q2,hw2,hm2⟩
   ·
    exact absurd hw (q2 a)
   ·
    have h1:=hm2 a hw
    have h2:=hm _ (H.Way.on hw2 he)
    omega
theorem cnt_lt (r:List Int) (y a:Int) (hy:y ∈ r) (ha:y < a):r.countP (fun x=>decide (x < y))+1≤r.countP (fun x=>decide (x < a)):=by
 induction r with
 | nil=>cases hy
 | cons x r ih =>
  have hmono:r.countP (fun x=>decide (x < y))≤r.countP (fun x=>decide (x < a)):=List.countP_mono_left (fun x _ h=>by simp only[decide_eq_true_eq] at h ⊢;omega)
  simp only[List.countP_cons]
  rcases List.mem_cons.1 hy with rfl|hy
  ·
   simp only[Int.lt_irrefl,decide_false,Bool.false_eq_true,if_false,decide_eq_true ha,if_true];omega
  ·
   have:=ih hy
   by_cases h1:x < y
   ·
    simp only[decide_eq_true h1,decide_eq_true (show x < a by omega),if_true];omega
   ·
    by_cases h2:x < a
    ·
     simp only[decide_eq_false h1,decide_eq_true h2,Bool.false_eq_true,if_false,if_true];omega
    ·
     simp only[decide_eq_false h1,decide_eq_false h2,Bool.false_eq_true,if_false];omega
theorem firstF_t (h:TripsOk n ok tps cst C M) (hC:C≤4000) (hM:M≤1000) (o1:Int→Option (List Edg)) (ho1:∀ u,0≤u→u < 2 ^ (n+1)→o1 u=some (esT n tps cst u)) (dist:List Int) (hd:dist.length=2 ^ (n+1)) (hl:∀ u,0≤u→u < 2 ^ (n+1) → -1≤rd dist u∧rd dist u≤1000000000)
  (hh:List Bool→Bool→Int) (hhd:∀ ov tr,ov.length=n→hh ov tr=rd dist (enI ov tr)) (hst:∀ ov tr,ov.length=n→0 < hh ov tr→∃ t ∈ tps ov tr,0≤hh (mv (!tr) t ov) (!tr)∧hh (mv (!tr) t ov) (!tr)+cst t=hh ov tr) :
  ∀ (m:Nat) (ov:List Bool) (tr:Bool) (acc:List (List Int)),ov.length=n→dist.countP (fun x=>decide (x < hh ov tr))≤m→acc.length+m≤1048575→∀ k,m < k→firstF o1 dist k (enI ov tr) acc=some (acc ++ pth tps cst hh m ov tr):=by
 have hdi:(dist.length:Int)=2 ^ (n+1):=by rw[hd];simp
 have hin:∀ ov tr,ov.length=n→hh ov tr ∈ dist:=fun ov tr ho=>by
  have he:=en_facts h.n8 ov tr ho
  rw[hhd ov tr ho]
  exact rd_in dist _ he.1 (by rw[hdi];exact he.2.1)
 intro m
 induction m with
 | zero =>
  intro ov tr acc ho hle _ k hk
  obtain ⟨k,rfl⟩:∃ j,k=j+1:=⟨k - 1,by omega⟩
  have he:=en_facts h.n8 ov tr ho
  have hz:¬ 0 < hh ov tr:=fun hp=>by
   obtain ⟨t,ht,h1,h2⟩:=hst ov tr ho hp
   have hc:=h.cost ov tr ho t ht
   have:=cnt_lt dist _ (hh ov tr) (hin (mv (!tr) t ov) (!tr) (by rw[mv_len];exact ho)) (by omega)
   omega
  rw[firstF,if_pos ⟨he.1,by rw[hdi];exact he.2.1⟩,if_neg (by rw[← hhd ov tr ho];exact hz)]
  simp[pth]
 | succ m ih =>
  intro ov tr acc ho hle hacc k hk
  obtain ⟨k,rfl⟩:∃ j,k=j+1:=⟨k - 1,by omega⟩
  have he:=en_facts h.n8 ov tr ho
  rw[firstF,if_pos ⟨he.1,by rw[hdi];exact he.2.1⟩]
  by_cases hp:0 < hh ov tr
  ·
   rw[if_pos (by rw[← hhd ov tr ho];exact hp)]
   have hes:o1 (enI ov tr)=some ((tps ov tr).map fun t=>(enI (mv (!tr) t ov) (!tr),cst t,t)):=by
    rw[ho1 _ he.1 he.2.1]
    unfold esT
    rw[he.2.2.1]
   have hbest:bestF o1 dist (enI ov tr)=some (((tps ov tr).filter (fun t=>decide (0≤hh (mv (!tr) t ov) (!tr)) && decide (hh (mv (!tr) t ov) (!tr)+cst t=hh ov tr))).map fun t=>(enI (mv (!tr) t ov) (!tr),cst t,t)):=by
    unfold bestF
    rw[if_pos ⟨he.1,by rw[hdi];exact he.2.1⟩,hes,Option.bind_some,if_pos ⟨by rw[List.length_map];have:=h.cnt ov tr ho;omega,by
     rw[List.all_eq_true]
     intro e hm
     obtain ⟨t,ht,rfl⟩:=List.mem_map.1 hm
     have e2:=en_facts h.n8 (mv (!tr) t ov) (!tr) (by rw[mv_len];exact ho)
     have e3:=h.cost ov tr ho t ht
     have e4:=hl _ e2.1 e2.2.1
     unfold edgOk
     simp only[Bool.and_eq_true,decide_eq_true_eq]
     rw[hdi]
     exact ⟨⟨⟨e2.1,e2.2.1⟩,by omega,by omega⟩,by omega,by omega⟩⟩]
    rw[head_filter_map]
    congr 2
    refine List.filter_congr fun t ht=>?_
    unfold onB
    rw[hhd _ _ (show (mv (!tr) t ov).length=n by rw[mv_len];exact ho),hhd ov tr ho]
   rw[hbest,Option.bind_some]
   have hf:=filter_find (fun t=>decide (0≤hh (mv (!tr) t ov) (!tr)) && decide (hh (mv (!tr) t ov) (!tr)+cst t=hh ov tr)) (tps ov tr)
   simp only[pth,if_pos hp]
   cases hq:(tps ov tr).filter (fun t=>decide (0≤hh (mv (!tr) t ov) (!tr)) && decide (hh (mv (!tr) t ov) (!tr)+cst t=hh ov tr)) with
   | nil =>
    obtain ⟨t,ht,h1,h2⟩:=hst ov tr ho hp
    have:t ∈ (tps ov tr).filter (fun t=>decide (0≤hh (mv (!tr) t ov) (!tr)) && decide (hh (mv (!tr) t ov) (!tr)+cst t=hh ov tr)):=by
     rw[List.mem_filter]
     refine ⟨ht,?_⟩
     simp only[Bool.and_eq_true,decide_eq_true_eq]
     exact ⟨h1,h2⟩
    rw[hq] at this
    cases this
   | cons t ts =>
    rw[hq] at hf
    rw[← hf]
    have ht:t ∈ (tps ov tr).filter (fun t=>decide (0≤hh (mv (!tr) t ov) (!tr)) && decide (hh (mv (!tr) t ov) (!tr)+cst t=hh ov tr)):=by rw[hq];simp
    rw[List.mem_filter] at ht
    simp only[Bool.and_eq_true,decide_eq_true_eq] at ht
    have hc:=h.cost ov tr ho t ht.1
    simp only[List.map_cons,List.head?_cons]
    rw[if_pos (by omega)]
    have hcn:=cnt_lt dist _ (hh ov tr) (hin (mv (!tr) t ov) (!tr) (by rw[mv_len];exact ho)) (by omega)
    have:=ih (mv (!tr) t ov) (!tr) (acc ++ [t]) (by rw[mv_len];exact ho) (by omega) (by simp;omega) k (by omega)
    rw[this]
    simp
  ·
   rw[if_neg (by rw[← hhd ov tr ho];exact hp)]
   simp[pth,hp]
theorem first_t (h:TripsOk n ok tps cst C M) (hC:C≤4000) (hM:M≤1000) (out:Nat→Int→Option (List Edg)) (hout:∀ u,0≤u→u < 2 ^ (n+1)→Ev (fun k=>out k u) (esT n tps cst u)) (dist:List Int) (hd:dist.length=2 ^ (n+1)) (hl:∀ u,0≤u→u < 2 ^ (n+1) → -1≤rd dist u∧rd dist u≤1000000000)
  (hh:List Bool→Bool→Int) (hhd:∀ ov tr,ov.length=n→hh ov tr=rd dist (enI ov tr)) (hst:∀ ov tr,ov.length=n→0 < hh ov tr→∃ t ∈ tps ov tr,0≤hh (mv (!tr) t ov) (!tr)∧hh (mv (!tr) t ov) (!tr)+cst t=hh ov tr)
  (ov:List Bool) (tr:Bool) (ho:ov.length=n) (m:Nat) (hm:dist.countP (fun x=>decide (x < hh ov tr))≤m) (hm2:m≤1048575):Ev (fun k=>firstF (out k) dist k (enI ov tr) []) (pth tps cst hh m ov tr):=by
 obtain ⟨N,hN⟩:∃ N,N=2 ^ (n+1):=⟨_,rfl⟩
 have hpi:=pow_natK n
 obtain ⟨o1,ho1⟩:∃ o1:Int→Option (List Edg),o1=fun u=>if 0≤u∧u < (N:Int) then some (esT n tps cst u) else none:=⟨_,rfl⟩
 have ho1':∀ u,0≤u→u < 2 ^ (n+1)→o1 u=some (esT n tps cst u):=fun u u0 u1=>by rw[ho1];exact if_pos ⟨u0,by rw[hN,hpi];exact u1⟩
 obtain ⟨K2,hK2⟩:=ev_allK (fun k u=>out k ((u:Nat):Int)) (fun u=>esT n tps cst ((u:Nat):Int)) N (fun u hu=>hout u (by omega) (by rw[← hpi,← hN];omega))
 refine ⟨max (m+1) K2+1,fun k hk=>?_⟩
 obtain ⟨k,rfl⟩:∃ j,k=j+1:=⟨k - 1,by omega⟩
 have hr:=firstF_t h hC hM o1 ho1' dist hd hl hh hhd hst m ov tr [] ho hm (by simpa using hm2) k (by omega)
 rw[List.nil_append] at hr
 refine firstF_up (o1:=o1) (o2:=out (k+1)) (fun s es hs=>?_) dist k _ _ _ hr
 rw[ho1] at hs
 dsimp only at hs
 split at hs
 ·
  rename_i hr2
  have:=hK2 (k+1) (by omega) s.toNat (by omega)
  rw[show ((s.toNat:Nat):Int)=s from Int.toNat_of_nonneg hr2.1] at this
  rw[this]
  exact hs
 ·
  cases hs
theorem pth_len (h:TripsOk n ok tps cst C M) (r:List Int) (hh:List Bool→Bool→Int) (hm:∀ ov tr,ov.length=n→hh ov tr ∈ r):∀ (m:Nat) (ov:List Bool) (tr:Bool),ov.length=n→(pth tps cst hh m ov tr).length≤r.countP (fun x=>decide (x < hh ov tr)):=by
 intro m
 induction m with
 | zero=>intro ov tr _;simp[pth]
 | succ m ih =>
  intro ov tr ho
  simp only[pth]
  split
  ·
   split
   ·
    simp
   ·
    rename_i t hq
    have hp:=List.find?_some hq
    have hmem:=List.mem_of_find?_eq_some hq
    simp only[Bool.and_eq_true,decide_eq_true_eq] at hp
    have hc:=h.cost ov tr ho t hmem
    have h1:=ih (mv (!tr) t ov) (!tr) (by rw[mv_len];exact ho)
    have h2:=cnt_lt r _ (hh ov tr) (hm (mv (!tr) t ov) (!tr) (by rw[mv_len];exact ho)) (by omega)
    simp only[List.length_cons]
    omega
  ·
   simp
theorem pth_mem (hh:List Bool→Bool→Int):∀ (m:Nat) (ov:List Bool) (tr:Bool),ov.length=n→∀ t ∈ pth tps cst hh m ov tr,∃ ov tr,ov.length=n∧t ∈ tps ov tr:=by
 intro m
 induction m with
 | zero=>intro ov tr _ t ht;simp[pth] at ht
 | succ m ih =>
  intro ov tr ho t ht
  simp only[pth] at ht
  split at ht
  ·
   split at ht
   ·
    cases ht
   ·
    rename_i t' hq
    rcases List.mem_cons.1 ht with rfl|ht
    ·
     exact ⟨ov,tr,ho,List.mem_of_find?_eq_some hq⟩
    ·
     exact ih (mv (!tr) t' ov) (!tr) (by rw[mv_len];exact ho) t ht
  ·
   cases ht
end
end Go.Proofs.Ytikjdmiohpdnaaa.Pure

namespace Go.Proofs.Ytikjdmiohpdnaaa.Pure
open Go.Proofs.Ytikjdmiohpdnaaa.Walk Go.RowKit Go.Proofs.Ytikjdmiohpdnaaa.C20 Go.Proofs.Ytikjdmiohpdnaaa.H Go.Proofs.YtikjdmiohpdnaaaW.PrintWords Go.Proofs.YtikjdmiohpdnaaaW.PrintLast Go.Proofs.YtikjdmiohpdnaaaW.PrintMore
set_option linter.unusedVariables false
set_option linter.unusedSimpArgs false
section
variable {l:List Int} {rw:List Bool} {m:Int}
theorem loFirst_l1 (h:goodC l rw m=true) (ld:Bool) (far:List Int) (hfl:(far.length:Int)=2 ^ (l.length+1)) (hf:∀ v,0≤v→v < (far.length:Int) → -1≤rd far v∧rd far v≤10000000) (ov:List Bool) (tr:Bool) (hl:ov.length=l.length) (acc:List (List Int)) (hacc:acc.length≤1048576) (ts:List (List Int)) (hts:ts.length≤1048576) (hti:∀ t ∈ ts,t ∈ ridesP l rw m ov tr) (R:List (List Int)) (t0:List Int) :
  ∀ (r pre:List (List Int)),ts=pre ++ r→r.find? (fun t=>decide (0≤rd far (enS (mv (!tr) t ov) (!tr))) && decide (rd far (enS (mv (!tr) t ov) (!tr))+cstC ld l t=rd far (enS ov tr)))=some t0 →
   Ev (fun k=>spec_loFirst.l0 k ld far (acc ++ [t0]) l rw m (mv (!tr) t0 ov) (!tr)) R →
   Ev (fun k=>spec_loFirst.l1 k ld far acc ts (ts.length:Int) (pre.length:Int) l rw m ov tr) R:=by
 have hT:=crew_trips h ld
 have hn:=hT.n8
 intro r
 induction r with
 | nil=>intro pre e hq;cases hq
 | cons t r ih =>
  intro pre e hq hR
  have ht:=hti t (by rw[e];simp)
  obtain ⟨ht1,_⟩:=ride_trip ht
  have hi:=trip_in ht1
  have htl:t.length≤1048576:=by have:=(tripsP_mem.1 ht1).2.1;omega
  have hen:=en_facts hn (mv (!tr) t ov) (!tr) (by rw[mv_len];exact hl)
  have heo:=en_facts hn ov tr hl
  have hcb:=hT.cost ov tr hl t ht
  have hfv:=hf _ hen.2.2.2.1 (by rw[hfl];exact hen.2.2.2.2.1)
  subst e
  refine Ev.step (fun k=>spec_loFirst.l1.eq_2 ..) ?_
  have hrd:rd_L2 (pre ++ t :: r) (pre.length:Int)=t:=rdOf_mid [] pre t r
  rw[hrd,wr_mid pre t r (by omega)]
  simp only[if_pos (lt_mid pre t r),if_pos (zle pre.length)]
  refine Ev.bind (paCross_ev ov tr t (by omega) htl (fun x hx=>⟨(hi x hx).1,(hi x hx).2.1⟩) (fun x hx=>(hi x hx).2.2)) ?_
  dsimp only
  refine Ev.bind (seIndex_ev hn (mv (!tr) t ov) (!tr) (by rw[mv_len];exact hl)) ?_
  have htm:Ev (fun k=>spec_loCost.f k l rw m t ld) (cstC ld l t):=loCost_ev ld t htl (fun x hx=>⟨(hi x hx).1,by rw[← hl];exact (hi x hx).2.1⟩)
  simp only[List.find?_cons] at hq
  generalize hv:enS (mv (!tr) t ov) (!tr)=v at hen hfv hq ⊢
  simp only[if_pos hen.2.2.2.1,if_pos (show v < (far.length:Int) by rw[hfl];exact hen.2.2.2.2.1)]
  by_cases h1:0≤rd far v
  ·
   simp only[decide_eq_true h1,Bool.true_and] at hq
   simp only[if_pos (show rd far v ≥ 0 from h1)]
   refine Ev.bind htm (Ev.bind (seIndex_ev hn ov tr hl) ?_)
   rw[wr_id (a:=rd far v+cstC ld l t) (by omega) (by omega)]
   simp only[if_pos heo.2.2.2.1,if_pos (show enS ov tr < (far.length:Int) by rw[hfl];exact heo.2.2.2.2.1)]
   by_cases h2:rd far v+cstC ld l t=rd far (enS ov tr)
   ·
    simp only[decide_eq_true h2] at hq
    obtain rfl:=Option.some.inj hq
    simp only[if_pos h2,if_pos (show acc.length < 5864062014805 by omega)]
    exact hR
   ·
    simp only[decide_eq_false h2] at hq
    simp only[if_neg h2]
    exact ih (pre ++ [t]) (by simp) hq hR
  ·
   simp only[decide_eq_false h1,Bool.false_and] at hq
   simp only[if_neg (show ¬ rd far v ≥ 0 from h1)]
   exact ih (pre ++ [t]) (by simp) hq hR
theorem loFirst_loop (h:goodC l rw m=true) (ld:Bool) (far:List Int) (hfl:(far.length:Int)=2 ^ (l.length+1)) (hf:∀ v,0≤v→v < (far.length:Int) → -1≤rd far v∧rd far v≤10000000) (hst:∀ ov tr,ov.length=l.length→0 < rd far (enS ov tr)→∃ t ∈ ridesP l rw m ov tr,0≤rd far (enS (mv (!tr) t ov) (!tr))∧rd far (enS (mv (!tr) t ov) (!tr))+cstC ld l t=rd far (enS ov tr)) :
  ∀ (n:Nat) (ov:List Bool) (tr:Bool) (acc:List (List Int)),ov.length=l.length→far.countP (fun x=>decide (x < rd far (enS ov tr)))≤n→acc.length+n≤1048576→Ev (fun k=>spec_loFirst.l0 k ld far acc l rw m ov tr) (acc ++ pth (ridesP l rw m) (cstC ld l) (fun ov tr=>rd far (enS ov tr)) n ov tr):=by
 have hT:=crew_trips h ld
 have hn:=hT.n8
 have hg:=goodC_all h
 have hin:∀ ov tr,ov.length=l.length→rd far (enS ov tr) ∈ far:=fun ov tr ho=>by
  have he:=en_facts hn ov tr ho
  exact rd_in far _ he.2.2.2.1 (by rw[hfl];exact he.2.2.2.2.1)
 intro n
 induction n with
 | zero =>
  intro ov tr acc ho hle _
  have he:=en_facts hn ov tr ho
  have hz:¬ 0 < rd far (enS ov tr):=fun hp=>by
   obtain ⟨t,ht,h1,h2⟩:=hst ov tr ho hp
   have hc:=hT.cost ov tr ho t ht
   have:=cnt_lt far _ (rd far (enS ov tr)) (hin (mv (!tr) t ov) (!tr) (by rw[mv_len];exact ho)) (by omega)
   omega
  refine Ev.step (fun k=>spec_loFirst.l0.eq_2 ..) ?_
  refine Ev.bind (seIndex_ev hn ov tr ho) ?_
  simp only[if_pos he.2.2.2.1,if_pos (show enS ov tr < (far.length:Int) by rw[hfl];exact he.2.2.2.2.1),if_neg (show ¬ rd far (enS ov tr) > 0 from hz),pth,List.append_nil]
  exact Ev.now _
 | succ n ih =>
  intro ov tr acc ho hle hacc
  have he:=en_facts hn ov tr ho
  refine Ev.step (fun k=>spec_loFirst.l0.eq_2 ..) ?_
  refine Ev.bind (seIndex_ev hn ov tr ho) ?_
  simp only[if_pos he.2.2.2.1,if_pos (show enS ov tr < (far.length:Int) by rw[hfl];exact he.2.2.2.2.1)]
  by_cases hp:0 < rd far (enS ov tr)
  ·
   simp only[if_pos (show rd far (enS ov tr) > 0 from hp)]
   refine Ev.bind (loRides_ev l rw m ov tr (by omega) hg.2.2.1 ho) ?_
   simp only[pth,if_pos hp]
   obtain ⟨t,ht,h1,h2⟩:=hst ov tr ho hp
   cases hq:(ridesP l rw m ov tr).find? (fun t=>decide (0≤rd far (enS (mv (!tr) t ov) (!tr))) && decide (rd far (enS (mv (!tr) t ov) (!tr))+cstC ld l t=rd far (enS ov tr))) with
   | none =>
    have:=List.find?_eq_none.1 hq t ht
    simp only[Bool.and_eq_true,decide_eq_true_eq] at this
    exact absurd ⟨h1,h2⟩ this
   | some t0 =>
    have hq1:=List.find?_some hq
    have hq2:=List.mem_of_find?_eq_some hq
    simp only[Bool.and_eq_true,decide_eq_true_eq] at hq1
    have hc:=hT.cost ov tr ho t0 hq2
    have hcn:=cnt_lt far _ (rd far (enS ov tr)) (hin (mv (!tr) t0 ov) (!tr) (by rw[mv_len];exact ho)) (by omega)
    have hR:=ih (mv (!tr) t0 ov) (!tr) (acc ++ [t0]) (by rw[mv_len];exact ho) (by omega) (by simp;omega)
    rw[List.append_assoc] at hR
    have hcnt:=hT.cnt ov tr ho
    exact loFirst_l1 h ld far hfl hf ov tr ho acc (by omega) (ridesP l rw m ov tr) (by omega) (fun t ht=>ht) _ t0 (ridesP l rw m ov tr) [] (by simp) hq hR
  ·
   simp only[if_neg (show ¬ rd far (enS ov tr) > 0 from hp),pth,if_neg hp,List.append_nil]
   exact Ev.now _
theorem crew_step (h:goodC l rw m=true) (ld:Bool) {r:List Int} (hle:∀ v,0≤v→v < 2 ^ (l.length+1)→IsLeast (H.Way (EdgR enI l.length (fun _ _=>True) (ridesP l rw m) (cstC ld l)) (fun v=>v=enI (List.replicate l.length true) true) v) (rd r v)) (hh:List Bool→Bool→Int) (hhd:∀ ov tr,ov.length=l.length→hh ov tr=rd r (enI ov tr)) :
  ∀ ov tr,ov.length=l.length→0 < hh ov tr→∃ t ∈ ridesP l rw m ov tr,0≤hh (mv (!tr) t ov) (!tr)∧hh (mv (!tr) t ov) (!tr)+cstC ld l t=hh ov tr:=by
 have hT:=crew_trips h ld
 have hn:=hT.n8
 intro ov tr ho hp
 have he:=en_facts hn ov tr ho
 rw[hhd ov tr ho] at hp ⊢
 obtain ⟨u,c,h1,h2,h3⟩:=step_back (EdgR_sym hT enI) r (fun u v c hc=>by
  obtain ⟨o,b,t,hl,_,_,ht,_,hq⟩:=hc
  have:=hT.cost _ _ hl t ht
  omega) (enI ov tr) (hle _ he.1 he.2.1) (fun u c hc=>by
  obtain ⟨o,b,t,hl,_,_,ht,rfl,hq⟩:=hc
  have:=en_facts hn (mv (!b) t o) (!b) (by rw[mv_len];exact hl)
  exact hle _ this.1 this.2.1) hp
 obtain ⟨o,b,t,hl,_,e,ht,rfl,hq⟩:=h1
 obtain ⟨rfl,rfl⟩:=enI_inj hn ho hl e
 have hlm:(mv (!tr) t ov).length=l.length:=by rw[mv_len];exact hl
 exact ⟨t,ht,by rw[hhd _ _ hlm];exact h2,by rw[hhd _ _ hlm];omega⟩
end
theorem FnExactFirstCarried_both (l:List Int) (rw:List Bool) (m:Int) (hl:l.length≤1048576) (hrw:rw.length≤1048576):∃ rr:List (List Int) × Bool,Ev (fun k=>spec_FirstCarried.f k l rw m) rr∧Ev (fun k=>impl_FirstCarried.f k l rw m) rr∧n2 rr.1≤1048576:=by
 unfold spec_FirstCarried.f impl_FirstCarried.f impl_Crew_firstOf.f
 rw[isCrew_eq]
 cases hg:goodC l rw m with
 | false =>
  refine ⟨([],false),Ev.bind (loGood_ev l rw m hl) ?_,?_,by decide⟩
  ·
   rw[hg];simp only[Bool.false_eq_true,if_false];exact Ev.now _
  ·
   simp only[Option.bind_some,Bool.false_eq_true,if_false];exact Ev.now _
 | true =>
  have hT:=crew_trips hg true
  have hn:=hT.n8
  have hga:=goodC_all hg
  obtain ⟨far,ways,r,f1,f2,r1,r2,heq,hrb,hle⟩:=crew_both hg true
  obtain ⟨d,d1,d2,_⟩:=loLeast_both hg true
  have e2:d=r:=by
   obtain ⟨K1,h1⟩:=d1
   obtain ⟨K2,h2⟩:=r1
   have e1:=h1 (max K1 K2) (by omega)
   have e2:=h2 (max K1 K2) (by omega)
   rw[e1] at e2
   exact (Prod.mk.inj (Option.some.inj e2)).1
  subst e2
  have hlF:(List.replicate l.length false).length=l.length:=by simp
  have hz:=(last_enK hn).2
  have hfl:(far.length:Int)=2 ^ (l.length+1):=by rw[f2];exact pow_natK _
  have hdl:(d.length:Int)=2 ^ (l.length+1):=by rw[r2];exact pow_natK _
  have hp9:=(pow_leK hn).2
  obtain ⟨hh,hhe⟩:∃ hh:List Bool→Bool→Int,hh=fun ov tr=>rd far (enS ov tr):=⟨_,rfl⟩
  have hhd:∀ ov tr,ov.length=l.length→hh ov tr=rd d (enI ov tr):=fun ov tr ho=>by rw[hhe];exact heq ov tr ho
  have hst:=crew_step hg true hle hh hhd
  have hfb:∀ v,0≤v→v < (far.length:Int) → -1≤rd far v∧rd far v≤10000000:=fun v v0 v1=>by
   have hd:=(dc_facts hn v v0 (by rw[← hfl];exact v1)).2.2
   have e:=heq (dcS l.length v).1 (dcS l.length v).2 hd.1
   rw[hd.2] at e
   have hv:=en_facts hn (dcS l.length v).1 (dcS l.length v).2 hd.1
   have:=hrb _ hv.1 hv.2.1
   omega
  have hP:=first_t hT (by omega) (by omega) (crewOut · true l rw m) (fun u u0 u1=>crewOut_ev hg true u u0 u1) d r2 (fun v v0 v1=>by have:=hrb v v0 v1;omega) hh hhd hst (List.replicate l.length false) false hlF 512 (Nat.le_trans List.countP_le_length (by omega)) (by omega)
  rw[hz] at hP
  have hS:=loFirst_loop hg true far hfl hfb (fun ov tr ho hp=>by have:=hst ov tr ho (by rw[hhe];exact hp);rw[hhe] at this;exact this) 512 (List.replicate l.length false) false [] hlF (Nat.le_trans List.countP_le_length (by omega)) (by simp)
  rw[List.nil_append] at hS
  have hlen:=pth_len hT d hh (fun ov tr ho=>by
   have he:=en_facts hn ov tr ho
   rw[hhd ov tr ho]
   exact rd_in d _ he.1 (by rw[hdl];exact he.2.1)) 512 (List.replicate l.length false) false hlF
  have hcl:d.countP (fun x=>decide (x < hh (List.replicate l.length false) false))≤512:=Nat.le_trans List.countP_le_length (by omega)
  rw[hhe] at hlen hP hcl
  by_cases h0:rd d 0 < 0
  ·
   refine ⟨([],false),Ev.bind (loGood_ev l rw m hl) ?_,?_,by decide⟩
   ·
    rw[hg];simp only[if_true]
    refine Ev.bind d2 ?_
    simp only[if_pos h0];exact Ev.now _
   ·
    simp only[Option.bind_some,if_true]
    have hI:Ev (fun k=>(impl_Crew_costs.f k l rw m true).bind fun p=>if p.2=true then (firstF (crewOut k true l rw m) p.1 k 0 []).bind fun r=>some (r,true) else some ([],false)) (([]:List (List Int)),false):=by
     refine Ev.bind d1 ?_
     simp only[decide_eq_false (show ¬ 0≤rd d 0 by omega),Bool.false_eq_true,if_false];exact Ev.now _
    exact Ev.bind hI (Ev.now _)
  ·
   refine ⟨(pth (ridesP l rw m) (cstC true l) (fun ov tr=>rd far (enS ov tr)) 512 (List.replicate l.length false) false,true),Ev.bind (loGood_ev l rw m hl) ?_,?_,?_⟩
   ·
    rw[hg];simp only[if_true]
    refine Ev.bind d2 ?_
    simp only[if_neg h0]
    have hB:Ev (fun k=>spec_loFirst.f k l rw m true) (pth (ridesP l rw m) (cstC true l) (fun ov tr=>rd far (enS ov tr)) 512 (List.replicate l.length false) false):=by
     unfold spec_loFirst.f
     refine Ev.bind f1 ?_
     have hp:spec_loParty.f l rw m=some (l,0):=rfl
     simp only[hp,Option.bind_some,paFirst_eq l 0 hl]
     exact hS
    exact Ev.bind hB (Ev.now _)
   ·
    simp only[Option.bind_some,if_true]
    have hI:Ev (fun k=>(impl_Crew_costs.f k l rw m true).bind fun p=>if p.2=true then (firstF (crewOut k true l rw m) p.1 k 0 []).bind fun r=>some (r,true) else some ([],false)) (pth (ridesP l rw m) (cstC true l) (fun ov tr=>rd far (enS ov tr)) 512 (List.replicate l.length false) false,true):=by
     refine Ev.bind d1 ?_
     simp only[decide_eq_true (show 0≤rd d 0 by omega),if_true]
     exact Ev.bind hP (Ev.now _)
    exact Ev.bind hI (Ev.now _)
   ·
    have h5:=n2_le 8 (pth (ridesP l rw m) (cstC true l) (fun ov tr=>rd far (enS ov tr)) 512 (List.replicate l.length false) false) (fun t ht=>by
     obtain ⟨ov,tr,_,hm2⟩:=pth_mem (n:=l.length) (fun ov tr=>rd far (enS ov tr)) 512 _ _ hlF t ht
     have:=(tripsP_mem.1 (ride_trip hm2).1).2.1
     omega)
    dsimp only
    omega
theorem FnExactFirstCarried_all (A0_0:Option Addr) (c0_0:Nat) (l0_0:List Int) (A0_1:Option Addr) (c0_1:Nat) (l0_1:List Bool) (a0_2:Int) (w:World) (hr0_0:Kd.C (Kd.int .i64) w A0_0 l0_0.length l0_0) (hc0_0:l0_0.length≤c0_0) (hr0_1:Kd.C Kd.bool w A0_1 l0_1.length l0_1) (hc0_1:l0_1.length≤c0_1) (g0_0:goodL goodI l0_0) (g0_1:goodL (fun _=>True) l0_1) (g0_2:goodI a0_2) :
  Calls Try.prog 8 #[.agg #[.slice A0_0 l0_0.length c0_0, .slice A0_1 l0_1.length c0_1, .int .i64 a0_2]] w fun e w'=>e = .returned (.bool true)∧Below w.heap.size w w':=by
 obtain ⟨u0,hu0,hc⟩:=szCrew_cases l0_0 l0_1 a0_2 1048576 (by omega) (by omega) g0_0.1 g0_1.1
 replace hu0:=ev_some hu0
 rcases hc with hc|⟨b0,d0⟩
 ·
  obtain ⟨Kx,fx⟩:=hu0
  exact FnExactFirstCarried_short0 _ _ _ _ _ _ _ w hr0_0 hc0_0 hr0_1 hc0_1  _ (fx _ (Nat.le_refl _)) hc
 have nu0:¬ u0 < 0:=by omega
 have z0_0:List.length l0_0≤1048576:=by omega
 have z0_1:List.length l0_1≤1048576:=by omega
 have et0:=toCrew_ev l0_0 l0_1 a0_2 z0_0 z0_1
 obtain ⟨rr,es,ei,hsm⟩:=FnExactFirstCarried_both l0_0 l0_1 a0_2 z0_0 z0_1
 obtain ⟨r0,r1⟩:=rr
 dsimp only at hsm
 have s0:=hsm
 have eq0:Ev (fun k=>laws_eqIntSS.f k r0 r0) true:=ev_eq (eqIntSS_ev r0 r0 s0) (decide_eq_true rfl)
 have ea0:Ev (fun k=>laws_eqCrew.f k l0_0 l0_1 a0_2 l0_0 l0_1 a0_2) true:=ev_eq (eqCrew_ev l0_0 l0_1 a0_2 l0_0 l0_1 a0_2 z0_0 z0_1) (decide_eq_true rfl)
 have ema0:=markCrew_ev l0_0 l0_1 a0_2 (1) z0_0 z0_1
 have bma0_0:=mkS_bound l0_0 (1) (by omega) (by omega)
 have na0_0:¬ (mkS l0_0 (1)).1 < 0:=by omega
 have bma0_1:=mkB_bound l0_1 ((mkS l0_0 (1)).1) (by omega) (by omega)
 have na0_1:¬ (mkB l0_1 ((mkS l0_0 (1)).1)).1 < 0:=by omega
 have emr0:=ev_some (markIntSS_ev r0 (1))
 have bmr0:=mkSS_bound r0 (1) (by omega) (by omega)
 have nr0:¬ (mkSS r0 (1)).1 < 0:=by omega
 have eh0:=heldIntSS_ev r0 (1) (by omega) (by omega) s0
 clear bma0_0 bma0_1 bmr0
 obtain ⟨Khu0,fhu0⟩:=hu0
 obtain ⟨Ket0,fet0⟩:=et0
 obtain ⟨Kes,fes⟩:=es
 obtain ⟨Kei,fei⟩:=ei
 obtain ⟨Keq0,feq0⟩:=eq0
 obtain ⟨Kea0,fea0⟩:=ea0
 obtain ⟨Kema0,fema0⟩:=ema0
 obtain ⟨Kemr0,femr0⟩:=emr0
 obtain ⟨Keh0,feh0⟩:=eh0
 exact FnExactFirstCarried_walk _ _ _ _ _ _ _ _ _ _ _ _ _ _ _ Ket0 Kes Kei Keq0 Kea0 Kema0 Keh0 w hr0_0 hc0_0 hr0_1 hc0_1  (fhu0 _ (Nat.le_refl _)) nu0 (fet0 _ (Nat.le_refl _)) (fes _ (Nat.le_refl _)) (fei _ (Nat.le_refl _)) (feq0 _ (Nat.le_refl _)) (fea0 _ (Nat.le_refl _)) (fema0 _ (Nat.le_refl _)) na0_1 (femr0 _ (Nat.le_refl _)) (feh0 _ (Nat.le_refl _)) nr0
end Go.Proofs.Ytikjdmiohpdnaaa.Pure
