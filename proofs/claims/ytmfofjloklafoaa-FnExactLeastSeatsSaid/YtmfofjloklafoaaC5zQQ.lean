import Derived.Test.YtmfofjloklafoaaC5zx0
import Derived.Test.YtmfofjloklafoaaC5zH0
import Derived.Test.YtmfofjloklafoaaC5zH1
import Derived.Test.YtmfofjloklafoaaC5zx1
import Derived.Test.YtmfofjloklafoaaC5zx2
import Derived.Test.YtmfofjloklafoaaC5zx11
import Derived.Test.YtmfofjloklafoaaC5zx13
import Derived.Test.YtmfofjloklafoaaC5zx3
import Derived.Test.YtmfofjloklafoaaC5zx4
import Derived.Test.YtmfofjloklafoaaC5zx15
import Derived.Test.YtmfofjloklafoaaC5zx8
import Derived.Test.YtmfofjloklafoaaC5zx9
import Derived.Test.YtmfofjloklafoaaC5zx12
import Derived.Test.YtmfofjloklafoaaC5zx14
import Derived.Test.YtmfofjloklafoaaC5zx5
import Derived.Test.YtmfofjloklafoaaC5zx6
import Derived.Test.YtmfofjloklafoaaC5zx7
import Derived.Test.YtmfofjloklafoaaC5zx16
import Derived.Test.YtmfofjloklafoaaC5zx17
import Derived.Test.YtmfofjloklafoaaC5zx10
import Derived.Test.YtmfofjloklafoaaC5zx18
namespace Go.Proofs.Ytmfofjloklafoaa.Pure
open Go.RowKit Go.Proofs.Ytmfofjloklafoaa.C5 Go.Proofs.Ytmfofjloklafoaa.H Go.Proofs.YtmfofjloklafoaaW.PrintWords Go.Proofs.YtmfofjloklafoaaW.PrintLast Go.Proofs.YtmfofjloklafoaaW.PrintMore
set_option linter.unusedVariables false
set_option linter.unusedSimpArgs false
def szSum {α:Type} (f:α→Nat):List α→Nat
 | []=>0
 | x :: l=>f x+szSum f l
def n2 (l:List (List Int)):Nat:=l.length+szSum List.length l
def n3 (l:List (List (List Int))):Nat:=l.length+szSum n2 l
theorem szSum_bound {α:Type} (f:α→Nat) (l:List α) {B:Nat} (h:l.length+szSum f l≤B):l.length≤B∧∀ x ∈ l,f x≤B:=by
 refine ⟨by omega,?_⟩
 have h2:szSum f l≤B:=by omega
 clear h
 induction l with
 | nil=>intro x hx;cases hx
 | cons y l ih =>
  simp only[szSum] at h2
  intro x hx
  rcases List.mem_cons.1 hx with rfl|hx
  ·
   omega
  ·
   exact ih (by omega) x hx
end Go.Proofs.Ytmfofjloklafoaa.Pure

namespace Go.Proofs.Ytmfofjloklafoaa.Pure
open Go.RowKit Go.Proofs.Ytmfofjloklafoaa.C5 Go.Proofs.Ytmfofjloklafoaa.H Go.Proofs.YtmfofjloklafoaaW.PrintWords Go.Proofs.YtmfofjloklafoaaW.PrintLast Go.Proofs.YtmfofjloklafoaaW.PrintMore
set_option linter.unusedVariables false
set_option linter.unusedSimpArgs false
def goodIntS (l:List Int):Prop:=l.length≤9223372036854775807
theorem szIntS_cases (l:List Int) (a:Int) (h0:0≤a) (ha:a≤1048576) (hg:goodIntS l):∃ t,laws_szIntS.f l a=some t∧(t < 0∨(0≤t∧t+(l.length:Int)≤a)):=by
 have hl:l.length≤9223372036854775807:=hg
 unfold laws_szIntS.f
 rw[wr_id (by omega) (by omega)]
 by_cases h:a - (l.length:Int) < 0
 ·
  exact ⟨-1,by rw[if_pos h], .inl (by omega)⟩
 ·
  exact ⟨_,by rw[if_neg h], .inr ⟨by omega,by omega⟩⟩
theorem toIntS_loop (x0:List Int):∀ (r pre suf:List Int),x0=pre ++ r→suf.length=r.length→x0.length≤9223372036854775807→Ev (fun k=>laws_toIntS.l0 k x0 (pre ++ suf) (pre.length:Int)) x0:=by
 intro r
 induction r with
 | nil =>
  intro pre suf e hs hl
  obtain rfl:suf=[]:=List.eq_nil_of_length_eq_zero hs
  subst e
  refine Ev.step (f:=fun _=>some _) (fun k=>?_) (Ev.now _)
  simp only[laws_toIntS.l0]
  rw[if_neg (nlt_end pre)]
 | cons x r ih =>
  intro pre suf e hs hl
  match suf,hs with
  | y :: suf,hs =>
   subst e
   refine Ev.step (fun k=>?_) (ev_eq (ih (pre ++ [x]) suf (by simp) (by simpa using hs) hl) rfl)
   simp only[laws_toIntS.l0]
   rw[if_pos (lt_mid pre x r),if_pos (zle _),if_pos (lt_mid pre y suf),rd_mid,set_mid,wr_mid pre x r hl,app_mid pre x suf]
theorem toIntS_ev (l:List Int) (hl:l.length≤1048576):Ev (fun k=>laws_toIntS.f k l) l:=by
 unfold laws_toIntS.f
 simp only[if_pos (zle l.length),if_pos (show ((l.length:Int)).toNat≤35184372088832 by omega)]
 exact toIntS_loop l l [] _ rfl (by simp) (by omega)
theorem eqIntS_loop:∀ (r s pre qre:List Int),pre.length=qre.length→r.length=s.length→(pre ++ r).length≤9223372036854775807→Ev (fun k=>laws_eqIntS.l0 k (pre ++ r) (qre ++ s) (pre.length:Int)) (decide (r=s)):=by
 intro r
 induction r with
 | nil =>
  intro s pre qre hp hs hl
  obtain rfl:s=[]:=List.eq_nil_of_length_eq_zero hs.symm
  refine Ev.step (f:=fun _=>some _) (fun k=>?_) (Ev.now _)
  simp only[laws_eqIntS.l0]
  rw[if_neg (nlt_end pre)]
  rfl
 | cons x r ih =>
  intro s pre qre hp hs hl
  match s,hs with
  | y :: s,hs =>
   by_cases e:x=y
   ·
    subst e
    refine Ev.step (fun k=>?_) (ev_eq (ih s (pre ++ [x]) (qre ++ [x]) (by simp[hp]) (by simpa using hs) (by simpa using hl)) (by simp))
    simp only[laws_eqIntS.l0]
    rw[if_pos (lt_mid pre x r),if_pos (zle _),if_pos (by rw[hp];exact lt_mid qre x s),rd_mid,hp,rd_mid,if_pos rfl,← hp,wr_mid pre x r hl,app_mid pre x r,app_mid qre x s]
   ·
    refine Ev.step (f:=fun _=>some _) (fun k=>?_) (Ev.now _)
    simp only[laws_eqIntS.l0]
    rw[if_pos (lt_mid pre x r),if_pos (zle _),if_pos (by rw[hp];exact lt_mid qre y s),rd_mid,hp,rd_mid,if_neg e]
    simp[e]
theorem eqIntS_ev (l s:List Int) (hl:l.length≤1048576):Ev (fun k=>laws_eqIntS.f k l s) (decide (l=s)):=by
 unfold laws_eqIntS.f
 by_cases h:l.length=s.length
 ·
  simp only[if_pos (show (l.length:Int)=(s.length:Int) by omega)]
  exact eqIntS_loop l s [] [] rfl h (by simp;omega)
 ·
  simp only[if_neg (show ¬ (l.length:Int)=(s.length:Int) by omega)]
  refine ev_eq (Ev.now _) ?_
  have:l≠s:=fun e=>h (by rw[e])
  simp[this]
theorem rd_L2_mid (pre:List (List Int)) (x:List Int) (r:List (List Int)):rd_L1 (pre ++ x :: r) (pre.length:Int)=x:=by simp[rd_L1]
theorem szIntSS_loop:∀ (r pre:List (List Int)) (a:Int),0≤a→a≤1048576→(pre ++ r).length≤9223372036854775807→(∀ x ∈ r,goodIntS x)→∃ t,Ev (fun k=>laws_szIntSS.l0 k (pre ++ r) a (pre.length:Int)) t∧(t < 0∨(0≤t∧t+(szSum List.length r:Int)≤a)):=by
 intro r
 induction r with
 | nil =>
  intro pre a h0 ha hl hg
  refine ⟨a,?_, .inr ⟨h0,by simp[szSum]⟩⟩
  refine Ev.step (f:=fun _=>some a) (fun k=>?_) (Ev.now _)
  simp only[laws_szIntSS.l0]
  rw[if_neg (nlt_end pre)]
 | cons x r ih =>
  intro pre a h0 ha hl hg
  obtain ⟨t,ht,hc⟩:=szIntS_cases x a h0 ha (hg x (by simp))
  have hE:Ev (fun k=>laws_szIntS.f x a) t:=ev_some ht
  rcases hc with hc|⟨hc0,hc1⟩
  ·
   refine ⟨-1,Ev.step (f:=fun k=>(laws_szIntS.f x a).bind fun t=>if t < 0 then some (-1) else laws_szIntSS.l0 k (pre ++ x :: r) t (wrap64 ((pre.length:Int)+1))) (fun k=>?_) (Ev.bind hE ?_), .inl (by omega)⟩
   ·
    simp only[laws_szIntSS.l0]
    rw[if_pos (lt_mid pre x r),if_pos (zle _),rd_L2_mid]
   ·
    simp only[if_pos hc]
    exact Ev.now _
  ·
   obtain ⟨t2,ht2,h2⟩:=ih (pre ++ [x]) t hc0 (by omega) (by simpa using hl) (fun y hy=>hg y (by simp[hy]))
   refine ⟨t2,Ev.step (f:=fun k=>(laws_szIntS.f x a).bind fun t=>if t < 0 then some (-1) else laws_szIntSS.l0 k (pre ++ x :: r) t (wrap64 ((pre.length:Int)+1))) (fun k=>?_) (Ev.bind hE ?_),?_⟩
   ·
    simp only[laws_szIntSS.l0]
    rw[if_pos (lt_mid pre x r),if_pos (zle _),rd_L2_mid]
   ·
    simp only[if_neg (show ¬ t < 0 by omega)]
    rw[wr_mid pre x r hl,app_mid pre x r]
    exact ht2
   ·
    rcases h2 with h2|⟨h2,h3⟩
    ·
     exact .inl h2
    ·
     exact .inr ⟨h2,by simp only[szSum];omega⟩
def goodIntSS (l:List (List Int)):Prop:=l.length≤9223372036854775807∧∀ x ∈ l,goodIntS x
theorem szIntSS_cases (l:List (List Int)) (a:Int) (h0:0≤a) (ha:a≤1048576) (hg:goodIntSS l):∃ t,Ev (fun k=>laws_szIntSS.f k l a) t∧(t < 0∨(0≤t∧t+(n2 l:Int)≤a)):=by
 have hl:=hg.1
 unfold laws_szIntSS.f
 rw[wr_id (by omega) (by omega)]
 by_cases h:a - (l.length:Int) < 0
 ·
  exact ⟨-1,by simp only[if_pos h];exact Ev.now _, .inl (by omega)⟩
 ·
  obtain ⟨t,ht,hc⟩:=szIntSS_loop l [] (a - l.length) (by omega) (by omega) hl hg.2
  refine ⟨t,by simp only[if_neg h];exact ht,?_⟩
  rcases hc with hc|⟨h1,h2⟩
  ·
   exact .inl hc
  ·
   exact .inr ⟨h1,by simp only[n2];omega⟩
theorem toIntSS_loop (x0:List (List Int)) (hx:∀ x ∈ x0,List.length x≤1048576):∀ (r pre suf:List (List Int)),x0=pre ++ r→suf.length=r.length→x0.length≤9223372036854775807→Ev (fun k=>laws_toIntSS.l0 k x0 (pre ++ suf) (pre.length:Int)) x0:=by
 intro r
 induction r with
 | nil =>
  intro pre suf e hs hl
  obtain rfl:suf=[]:=List.eq_nil_of_length_eq_zero hs
  subst e
  refine Ev.step (f:=fun _=>some _) (fun k=>?_) (Ev.now _)
  simp only[laws_toIntSS.l0]
  rw[if_neg (nlt_end pre)]
 | cons x r ih =>
  intro pre suf e hs hl
  match suf,hs with
  | y :: suf,hs =>
   subst e
   refine Ev.step (f:=fun k=>(laws_toIntS.f k x).bind fun t=>if (pre.length:Int) < ((pre ++ y :: suf).length:Int) then laws_toIntSS.l0 k (pre ++ x :: r) ((pre ++ y :: suf).set ((pre.length:Int)).toNat t) (wrap64 ((pre.length:Int)+1)) else none) (fun k=>?_) (Ev.bind (toIntS_ev x (hx x (by simp))) ?_)
   ·
    simp only[laws_toIntSS.l0]
    rw[if_pos (lt_mid pre x r),if_pos (zle _),rd_L2_mid]
   ·
    simp only[if_pos (lt_mid pre y suf)]
    rw[set_mid,wr_mid pre x r hl,app_mid pre x suf]
    exact ih (pre ++ [x]) suf (by simp) (by simpa using hs) hl
theorem toIntSS_ev (l:List (List Int)) (hl:n2 l≤1048576):Ev (fun k=>laws_toIntSS.f k l) l:=by
 have h1:=szSum_bound List.length l (by simpa only [n2] using hl)
 unfold laws_toIntSS.f
 simp only[if_pos (zle l.length),if_pos (show ((l.length:Int)).toNat≤11728124029610 by omega)]
 exact toIntSS_loop l h1.2 l [] _ rfl (by simp) (by omega)
theorem eqIntSS_loop:∀ (r s pre qre:List (List Int)),pre.length=qre.length→r.length=s.length→(pre ++ r).length≤9223372036854775807→(∀ x ∈ r,List.length x≤1048576)→Ev (fun k=>laws_eqIntSS.l0 k (pre ++ r) (qre ++ s) (pre.length:Int)) (decide (r=s)):=by
 intro r
 induction r with
 | nil =>
  intro s pre qre hp hs hl hx
  obtain rfl:s=[]:=List.eq_nil_of_length_eq_zero hs.symm
  refine Ev.step (f:=fun _=>some _) (fun k=>?_) (Ev.now _)
  simp only[laws_eqIntSS.l0]
  rw[if_neg (nlt_end pre)]
  rfl
 | cons x r ih =>
  intro s pre qre hp hs hl hx
  match s,hs with
  | y :: s,hs =>
   refine Ev.step (f:=fun k=>(laws_eqIntS.f k x y).bind fun t=>if t=true then laws_eqIntSS.l0 k (pre ++ x :: r) (qre ++ y :: s) (wrap64 ((pre.length:Int)+1)) else some false) (fun k=>?_) (Ev.bind (eqIntS_ev x y (hx x (by simp))) ?_)
   ·
    simp only[laws_eqIntSS.l0]
    rw[if_pos (lt_mid pre x r),if_pos (zle _),if_pos (by rw[hp];exact lt_mid qre y s),rd_L2_mid,hp,rd_L2_mid,← hp]
   ·
    by_cases e:x=y
    ·
     subst e
     simp only[decide_true,if_true]
     rw[wr_mid pre x r hl,app_mid pre x r,app_mid qre x s]
     exact ev_eq (ih s (pre ++ [x]) (qre ++ [x]) (by simp[hp]) (by simpa using hs) (by simpa using hl) (fun y hy=>hx y (by simp[hy]))) (by simp)
    ·
     simp only[decide_eq_false e,if_neg Bool.false_ne_true]
     exact ev_eq (Ev.now _) (by simp[e])
theorem eqIntSS_ev (l s:List (List Int)) (hl:n2 l≤1048576):Ev (fun k=>laws_eqIntSS.f k l s) (decide (l=s)):=by
 have h1:=szSum_bound List.length l (by simpa only [n2] using hl)
 unfold laws_eqIntSS.f
 by_cases h:l.length=s.length
 ·
  simp only[if_pos (show (l.length:Int)=(s.length:Int) by omega)]
  exact eqIntSS_loop l s [] [] rfl h (by simp;omega) h1.2
 ·
  simp only[if_neg (show ¬ (l.length:Int)=(s.length:Int) by omega)]
  refine ev_eq (Ev.now _) ?_
  have:l≠s:=fun e=>h (by rw[e])
  simp[this]
theorem good2 {l:List (List Int)} (h:goodL (goodL goodI) l):goodIntSS l:=⟨h.1,fun x hx=>(h.2 x hx).1⟩
theorem szKeep_cases (f0:Int) (f1:List (List Int)) (f2:Int) (a:Int) (h0:0≤a) (ha:a≤1048576) (g1:goodIntSS f1):∃ t,Ev (fun k=>laws_szKeep.f k f0 f1 f2 a) t∧(t < 0∨(0≤t∧t+(n2 f1:Int)≤a)):=by
 obtain ⟨t,ht,hc⟩:=szIntSS_cases f1 a h0 ha g1
 refine ⟨if t < 0 then -1 else t,Ev.bind ht (by by_cases h:t < 0 <;> simp only[h,if_true,if_false] <;> exact Ev.now _),?_⟩
 rcases hc with hc|⟨hc,h2⟩
 ·
  exact .inl (by rw[if_pos hc];omega)
 ·
  rw[if_neg (by omega)];exact .inr ⟨hc,h2⟩
theorem toKeep_ev (f0:Int) (f1:List (List Int)) (f2:Int) (h1:n2 f1≤1048576):Ev (fun k=>laws_toKeep.f k f0 f1 f2) (f0,f1,f2):=Ev.bind (toIntSS_ev f1 h1) (Ev.now _)
theorem eqKeep_ev (f0:Int) (f1:List (List Int)) (f2:Int) (s0:Int) (s1:List (List Int)) (s2:Int) (h1:n2 f1≤1048576):Ev (fun k=>laws_eqKeep.f k f0 f1 f2 s0 s1 s2) (decide ((f0,f1,f2)=(s0,s1,s2))):=by
 obtain ⟨K1,e1⟩:=eqIntSS_ev f1 s1 h1
 refine ⟨K1,fun k hk=>?_⟩
 unfold laws_eqKeep.f
 simp only[e1 k (by omega),Option.bind_some]
 by_cases q0:f0=s0 <;> try simp only[q0,decide_true,decide_false,if_true,if_false,Bool.false_eq_true,beq_self_eq_true]
 by_cases q1:f1=s1 <;> try simp only[q1,decide_true,decide_false,if_true,if_false,Bool.false_eq_true,beq_self_eq_true]
 by_cases q2:f2=s2 <;> try simp only[q2,decide_true,decide_false,if_true,if_false,Bool.false_eq_true,beq_self_eq_true]
 all_goals simp_all
end Go.Proofs.Ytmfofjloklafoaa.Pure

namespace Go.Proofs.Ytmfofjloklafoaa.Pure
open Go.RowKit Go.Proofs.Ytmfofjloklafoaa.C5 Go.Proofs.Ytmfofjloklafoaa.H Go.Proofs.YtmfofjloklafoaaW.PrintWords Go.Proofs.YtmfofjloklafoaaW.PrintLast Go.Proofs.YtmfofjloklafoaaW.PrintMore
set_option linter.unusedVariables false
set_option linter.unusedSimpArgs false
theorem in_eq (a b c:Int):impl_in.f a b c=some (inB b c a):=by
 unfold impl_in.f inB
 by_cases h:b≤a <;> simp [h]
theorem l1In_eq (a b c:Int):spec_l1In.f a b c=some (inB b c a):=by
 unfold spec_l1In.f inB
 by_cases h:b≤a <;> simp [h]
theorem areIn_eq (l:List Int) (a b c d:Int):impl_areIn.f l a b c d=some (inB c d (l.length:Int) && l.all (inB a b)):=rfl
end Go.Proofs.Ytmfofjloklafoaa.Pure

namespace Go.Proofs.Ytmfofjloklafoaa.Pure
open Go.RowKit Go.Proofs.Ytmfofjloklafoaa.C5 Go.Proofs.Ytmfofjloklafoaa.H Go.Proofs.YtmfofjloklafoaaW.PrintWords Go.Proofs.YtmfofjloklafoaaW.PrintLast Go.Proofs.YtmfofjloklafoaaW.PrintMore
set_option linter.unusedVariables false
set_option linter.unusedSimpArgs false
def risF (p:Int):List Int→Bool
 | []=>true
 | y :: r=>decide (p < y) && risF y r
def risP:List Int→Bool
 | []=>true
 | x :: r=>risF x r
theorem rd_mid1 (pre:List Int) (p y:Int) (r:List Int):rd (pre ++ p :: y :: r) ((pre.length:Int)+1)=y:=by
 have h:((pre.length:Int)+1).toNat=pre.length+1:=by omega
 simp[rd,h]
theorem lt_mid1 (pre:List Int) (p y:Int) (r:List Int):(pre.length:Int)+1 < ((pre ++ p :: y :: r).length:Int):=by simp;omega
theorem nlt_end1 (pre:List Int) (p:Int):¬ (pre.length:Int)+1 < ((pre ++ p :: ([]:List Int)).length:Int):=by simp
theorem wr_mid1 (pre:List Int) (p y:Int) (r:List Int) (h:(pre ++ p :: y :: r).length≤9223372036854775807):wrap64 ((pre.length:Int)+1+1)=((pre ++ [p]).length:Int)+1:=by
 simp only[List.length_append,List.length_cons] at h
 rw[wr_id (by omega) (by omega)]
 simp
theorem wr_pred (pre:List Int) (h:pre.length≤9223372036854775806):wrap64 ((pre.length:Int)+1 - 1)=(pre.length:Int):=by
 rw[wr_id (by omega) (by omega)]
 omega
theorem rising_cat (pre:List Int) (p:Int) (r:List Int):pre ++ p :: r=(pre ++ [p]) ++ r:=by simp
theorem l1Rising_loop (lo hi:Int):∀ (r pre:List Int) (p:Int),(pre ++ p :: r).length≤9223372036854775807→Ev (fun k=>spec_l1Rising.l0 k (pre ++ p :: r) lo hi (pre ++ p :: r) ((pre ++ p :: r).length:Int) ((pre.length:Int)+1)) (r.all (inB lo hi) && risF p r):=by
 intro r
 induction r with
 | nil =>
  intro pre p hl
  refine Ev.step (f:=fun _=>some true) (fun k=>?_) (Ev.now _)
  simp only[spec_l1Rising.l0]
  rw[if_neg (nlt_end1 pre p)]
 | cons y r ih =>
  intro pre p hl
  have hl':=hl
  simp only[List.length_append,List.length_cons] at hl'
  cases hy:inB lo hi y with
  | false =>
   refine Ev.step (f:=fun _=>some false) (fun k=>?_) (ev_eq (Ev.now _) (by simp[hy]))
   simp only[spec_l1Rising.l0]
   rw[if_pos (lt_mid1 pre p y r),if_pos (by omega),if_pos (lt_mid1 pre p y r),rd_mid1,l1In_eq,hy,Option.bind_some,if_neg (by simp)]
  | true =>
   by_cases c:p < y
   ·
    refine Ev.step (fun k=>?_) (ev_eq (ih (pre ++ [p]) y (by simpa using hl)) (by simp[risF,c,hy]))
    simp only[spec_l1Rising.l0]
    rw[if_pos (lt_mid1 pre p y r),if_pos (by omega),if_pos (lt_mid1 pre p y r),rd_mid1,l1In_eq,hy,Option.bind_some,if_pos rfl,if_pos (by omega),wr_pred pre (by omega),if_pos (zle _),if_pos (lt_mid pre p (y :: r)),rd_mid,if_neg (by omega),wr_mid1 pre p y r hl,rising_cat pre p (y :: r)]
   ·
    refine Ev.step (f:=fun _=>some false) (fun k=>?_) (ev_eq (Ev.now _) (by simp[risF,c]))
    simp only[spec_l1Rising.l0]
    rw[if_pos (lt_mid1 pre p y r),if_pos (by omega),if_pos (lt_mid1 pre p y r),rd_mid1,l1In_eq,hy,Option.bind_some,if_pos rfl,if_pos (by omega),wr_pred pre (by omega),if_pos (zle _),if_pos (lt_mid pre p (y :: r)),rd_mid,if_pos (by omega)]
theorem l1Rising_ev (l:List Int) (lo hi:Int) (hl:l.length≤9223372036854775807):Ev (fun k=>spec_l1Rising.f k l lo hi) (l.all (inB lo hi) && risP l):=by
 cases l with
 | nil =>
  refine Ev.step (f:=fun _=>some true) (fun k=>?_) (Ev.now _)
  simp[spec_l1Rising.f,spec_l1Rising.l0]
 | cons x r =>
  cases hx:inB lo hi x with
  | false =>
   refine Ev.step (f:=fun _=>some false) (fun k=>?_) (ev_eq (Ev.now _) (by simp[hx]))
   simp only[spec_l1Rising.f,spec_l1Rising.l0]
   rw[if_pos (show (0:Int) < ((x :: r).length:Int) by simp only[List.length_cons];omega),if_pos (Int.le_refl _),if_pos (show (0:Int) < ((x :: r).length:Int) by simp only[List.length_cons];omega),show rd (x :: r) 0=x from rfl,l1In_eq,hx,Option.bind_some,if_neg (by simp)]
  | true =>
   refine Ev.step (fun k=>?_) (ev_eq (l1Rising_loop lo hi r [] x hl) (by simp[hx,risP]))
   simp only[spec_l1Rising.f,spec_l1Rising.l0]
   rw[if_pos (show (0:Int) < ((x :: r).length:Int) by simp only[List.length_cons];omega),if_pos (Int.le_refl _),if_pos (show (0:Int) < ((x :: r).length:Int) by simp only[List.length_cons];omega),show rd (x :: r) 0=x from rfl,l1In_eq,hx,Option.bind_some,if_pos rfl,if_neg (by omega),show wrap64 (0+1)=((([]:List Int).length:Int)+1) from wr_id (by omega) (by omega)]
   rfl
end Go.Proofs.Ytmfofjloklafoaa.Pure

namespace Go.Proofs.Ytmfofjloklafoaa.Pure
open Go.RowKit Go.Proofs.Ytmfofjloklafoaa.C5 Go.Proofs.Ytmfofjloklafoaa.H Go.Proofs.YtmfofjloklafoaaW.PrintWords Go.Proofs.YtmfofjloklafoaaW.PrintLast Go.Proofs.YtmfofjloklafoaaW.PrintMore
set_option linter.unusedVariables false
set_option linter.unusedSimpArgs false
def mv (v:Bool):List Int→List Bool→List Bool
 | [],o=>o
 | x :: r,o=>mv v r (o.set x.toNat v)
theorem mv_len (v:Bool) (t:List Int):∀ o:List Bool,(mv v t o).length=o.length:=by
 induction t with
 | nil=>intro o;rfl
 | cons x r ih=>intro o;simp only[mv];rw[ih];simp
theorem moved_loop (v:Bool):∀ (r pre:List Int) (o:List Bool),(pre ++ r).length≤9223372036854775807→(∀ x ∈ r,0≤x∧x < (o.length:Int))→Ev (fun k=>impl_State_moved.l0 k (pre ++ r) ((pre ++ r).length:Int) (pre.length:Int) o v) (mv v r o,v):=by
 intro r
 induction r with
 | nil =>
  intro pre o hl hi
  refine Ev.step (f:=fun _=>some _) (fun k=>?_) (Ev.now _)
  simp only[impl_State_moved.l0]
  rw[if_neg (nlt_end pre)]
  rfl
 | cons x r ih =>
  intro pre o hl hi
  have hx:=hi x (by simp)
  refine Ev.step (fun k=>?_) (ih (pre ++ [x]) (o.set x.toNat v) (by simpa using hl) (fun y hy=>by have:=hi y (by simp[hy]);simpa using this))
  simp only[impl_State_moved.l0]
  rw[if_pos (lt_mid pre x r),if_pos (zle _),if_pos (lt_mid pre x r),rd_mid,if_pos hx.1,if_pos hx.2,wr_mid pre x r hl,app_mid pre x r]
theorem moved_ev (st:List Bool) (b:Bool) (t:List Int) (hs:st.length≤1048576) (ht:t.length≤1048576) (hi:∀ x ∈ t,0≤x∧x < (st.length:Int)):Ev (fun k=>impl_State_moved.f k st b t) (mv (!b) t st,!b):=by
 unfold impl_State_moved.f
 refine Ev.bind (a:=st) (ev_some (by unfold slices_Clone_bool_bool.f;rw[if_pos (by omega)])) ?_
 exact moved_loop (!b) t [] st (by simp;omega) hi
end Go.Proofs.Ytmfofjloklafoaa.Pure

namespace Go.Proofs.Ytmfofjloklafoaa.Pure
open Go.RowKit Go.Proofs.Ytmfofjloklafoaa.C5 Go.Proofs.Ytmfofjloklafoaa.H Go.Proofs.YtmfofjloklafoaaW.PrintWords Go.Proofs.YtmfofjloklafoaaW.PrintLast Go.Proofs.YtmfofjloklafoaaW.PrintMore
set_option linter.unusedVariables false
set_option linter.unusedSimpArgs false
end Go.Proofs.Ytmfofjloklafoaa.Pure

namespace Go.Proofs.Ytmfofjloklafoaa.Pure
open Go.RowKit Go.Proofs.Ytmfofjloklafoaa.C5 Go.Proofs.Ytmfofjloklafoaa.H Go.Proofs.YtmfofjloklafoaaW.PrintWords Go.Proofs.YtmfofjloklafoaaW.PrintLast Go.Proofs.YtmfofjloklafoaaW.PrintMore
set_option linter.unusedVariables false
set_option linter.unusedSimpArgs false
end Go.Proofs.Ytmfofjloklafoaa.Pure

namespace Go.Proofs.Ytmfofjloklafoaa.Pure
open Go.RowKit Go.Proofs.Ytmfofjloklafoaa.C5 Go.Proofs.Ytmfofjloklafoaa.H Go.Proofs.YtmfofjloklafoaaW.PrintWords Go.Proofs.YtmfofjloklafoaaW.PrintLast Go.Proofs.YtmfofjloklafoaaW.PrintMore
set_option linter.unusedVariables false
set_option linter.unusedSimpArgs false
def sideP (b:Bool):List Bool→Nat→List Int
 | [],_=>[]
 | x :: r,i=>if x == b then (i:Int) :: sideP b r (i+1) else sideP b r (i+1)
theorem sideP_len (b:Bool):∀ (r:List Bool) (i:Nat),(sideP b r i).length≤r.length:=by
 intro r
 induction r with
 | nil=>intro i;simp[sideP]
 | cons x r ih =>
  intro i
  have:=ih (i+1)
  simp only[sideP]
  split <;> simp only[List.length_cons] <;> omega
theorem side_loop (b:Bool):∀ (r pre:List Bool) (acc:List Int),(pre ++ r).length≤1048576→acc.length+r.length≤1048576→Ev (fun k=>impl_State_side.l0 k b acc (pre ++ r) ((pre ++ r).length:Int) (pre.length:Int)) (acc ++ sideP b r pre.length):=by
 intro r
 induction r with
 | nil =>
  intro pre acc hl ha
  refine Ev.step (f:=fun _=>some _) (fun k=>?_) (Ev.now _)
  simp only[impl_State_side.l0]
  rw[if_neg (nlt_end pre)]
  simp[sideP]
 | cons x r ih =>
  intro pre acc hl ha
  simp only[List.length_cons] at ha
  cases hx:x == b with
  | true =>
   refine Ev.step (fun k=>?_) (ev_eq (ih (pre ++ [x]) (acc ++ [(pre.length:Int)]) (by simpa using hl) (by simp;omega)) (by simp[sideP,hx]))
   simp only[impl_State_side.l0]
   rw[if_pos (lt_mid pre x r),if_pos (zle _),if_pos (lt_mid pre x r),rdOf_mid,hx,if_pos rfl,if_pos (by omega),wr_mid pre x r (by omega),app_mid pre x r]
  | false =>
   refine Ev.step (fun k=>?_) (ev_eq (ih (pre ++ [x]) acc (by simpa using hl) (by omega)) (by simp[sideP,hx]))
   simp only[impl_State_side.l0]
   rw[if_pos (lt_mid pre x r),if_pos (zle _),if_pos (lt_mid pre x r),rdOf_mid,hx,if_neg (by simp),wr_mid pre x r (by omega),app_mid pre x r]
theorem side_ev (st:List Bool) (t b:Bool) (hs:st.length≤1048576):Ev (fun k=>impl_State_side.f k st t b) (sideP b st 0):=side_loop b st [] [] (by simpa using hs) (by simpa using hs)
def begP:List Int→List (List Int)
 | []=>[]
 | x :: l=>[x :: l]
theorem begP_len (l:List Int):(begP l).length≤1:=by cases l <;> simp [begP]
theorem l1Own_eq (l:List Int) (h:l.length≤1048576):spec_l1Own.f l=some l:=by
 unfold spec_l1Own.f
 rw[Option.bind_some,if_pos (by simp;omega)]
 simp
theorem grp_loop (lo:Nat) (m:Int) (ps:List Int) (hp:ps.length≤20) (l:List Int) (hl:l.length≤20) (hm:(l.length:Int) < m)
  (IH:∀ (from_:Nat) (l':List Int),lo < from_→from_≤ps.length→l'.length=l.length+1→Ev (fun k=>spec_paGroups.f k ps l' (from_:Int) m) (begP l' ++ grpsF m (ps.drop from_) l')) :
  ∀ (d i:Nat) (acc:List (List Int)),ps.length - i=d→i≤ps.length→lo≤i→acc.length+2 ^ d≤4194304→Ev (fun k=>spec_paGroups.l0 k ps l m acc (i:Int)) (acc ++ grpsF m (ps.drop i) l):=by
 intro d
 induction d with
 | zero =>
  intro i acc hd hi hlo ha
  have:i=ps.length:=by omega
  subst this
  refine Ev.step (f:=fun _=>some _) (fun k=>?_) (Ev.now _)
  simp only[spec_paGroups.l0]
  rw[if_neg (by omega)]
  simp[grpsF]
 | succ d ih =>
  intro i acc hd hi hlo ha
  have hlt:i < ps.length:=by omega
  have hdr:ps.drop i=rd ps (i:Nat) :: ps.drop (i+1):=by
   rw[List.drop_eq_getElem_cons hlt]
   simp[rd,List.getD_eq_getElem?_getD,List.getElem?_eq_getElem hlt]
  have hg:=IH (i+1) (l ++ [rd ps (i:Nat)]) (by omega) (by omega) (by simp)
  have hlen:(begP (l ++ [rd ps (i:Nat)]) ++ grpsF m (ps.drop (i+1)) (l ++ [rd ps (i:Nat)])).length≤2 ^ d:=by
   have h1:=grpsF_len m (ps.drop (i+1)) (l ++ [rd ps (i:Nat)])
   have h2:=begP_len (l ++ [rd ps (i:Nat)])
   rw[List.length_drop,show ps.length - (i+1)=d by omega] at h1
   rw[List.length_append]
   omega
  rw[Nat.pow_succ] at ha
  have hb:begP (l ++ [rd ps (i:Nat)])=[l ++ [rd ps (i:Nat)]]:=by cases l <;> rfl
  have he:acc ++ grpsF m (ps.drop i) l=(acc ++ (begP (l ++ [rd ps (i:Nat)]) ++ grpsF m (ps.drop (i+1)) (l ++ [rd ps (i:Nat)]))) ++ grpsF m (ps.drop (i+1)) l:=by
   rw[hdr,grpsF,if_pos hm,hb]
   simp
  rw[he]
  refine Ev.step (f:=fun k=>(spec_paGroups.f k ps (l ++ [rd ps (i:Nat)]) ((i+1:Nat):Int) m).bind fun t=>(if acc.length+t.length < 5864062014805 then (spec_paGroups.l0 k ps l m (acc ++ t) ((i+1:Nat):Int)) else (none))) (fun k=>?_) (Ev.bind hg ?_)
  ·
   simp only[spec_paGroups.l0]
   rw[if_pos (by omega),show spec_l1Own.f l=some l from l1Own_eq l (by omega),Option.bind_some,if_pos (zle _),Option.bind_some,if_pos (by simp;omega),show wrap64 ((i:Int)+1)=((i+1:Nat):Int) from wr_id (by omega) (by omega)]
  ·
   try dsimp only
   have hc:acc.length+(begP (l ++ [rd ps (i:Nat)]) ++ grpsF m (ps.drop (i+1)) (l ++ [rd ps (i:Nat)])).length < 5864062014805:=by
    have:0 < 2 ^ d:=Nat.pow_pos (by omega)
    omega
   simp only[if_pos hc]
   exact ih (i+1) _ (by omega) (by omega) (by omega) (by rw[List.length_append];omega)
theorem paGroups_ev (m:Int) (ps:List Int) (hp:ps.length≤20):∀ (d from_:Nat) (l:List Int),ps.length - from_=d→from_≤ps.length→l.length+d≤20→(l.length:Int)≤m→Ev (fun k=>spec_paGroups.f k ps l (from_:Int) m) (begP l ++ grpsF m (ps.drop from_) l):=by
 intro d
 induction d using Nat.strongRecOn with
 | ind d ih =>
 intro from_ l hd hf hl hm
 have hj:∀ acc:List (List Int),acc.length≤1→Ev (fun k=>spec_paGroups.j0 k ps l (from_:Int) m acc) (acc ++ grpsF m (ps.drop from_) l):=by
  intro acc ha
  by_cases hc:(l.length:Int)=m
  ·
   refine Ev.step (f:=fun _=>some acc) (fun k=>?_) (ev_eq (Ev.now _) ?_)
   ·
    simp only[spec_paGroups.j0]
    rw[if_pos hc]
   ·
    cases ps.drop from_ with
    | nil=>simp [grpsF]
    | cons x r=>rw [grpsF,if_neg (by omega)];simp
  ·
   refine Ev.step (f:=fun k=>spec_paGroups.l0 k ps l m acc (from_:Int)) (fun k=>?_) ?_
   ·
    simp only[spec_paGroups.j0]
    rw[if_neg hc]
   ·
    refine grp_loop from_ m ps hp l (by omega) (by omega) (fun f' l' h0 h1 h2=>?_) d from_ acc hd hf (Nat.le_refl _) ?_
    ·
     exact ih (ps.length - f') (by omega) f' l' rfl h1 (by omega) (by omega)
    ·
     have:2 ^ d≤2 ^ 20:=Nat.pow_le_pow_right (by omega) (by omega)
     omega
 cases l with
 | nil =>
  refine Ev.step (f:=fun k=>spec_paGroups.j0 k ps [] (from_:Int) m []) (fun k=>?_) (hj [] (by simp))
  simp[spec_paGroups.f]
 | cons x l =>
  refine Ev.step (f:=fun k=>spec_paGroups.j0 k ps (x :: l) (from_:Int) m [x :: l]) (fun k=>?_) (hj [x :: l] (by simp))
  simp only[spec_paGroups.f]
  rw[if_pos (by simp only[List.length_cons];omega),show spec_l1Own.f (x :: l)=some (x :: l) from l1Own_eq _ (by omega),Option.bind_some,Option.bind_some,if_pos (by simp)]
  simp
def tripsP (s:Int) (st:List Bool) (b:Bool):List (List Int):=grpsF s (sideP b st 0) []
theorem grpsF_elem (m:Int):∀ (r l:List Int),∀ g ∈ grpsF m r l,g.length≤l.length+r.length:=by
 intro r
 induction r with
 | nil=>intro l g hg;simp[grpsF] at hg
 | cons x r ih =>
  intro l g hg
  simp only[grpsF] at hg
  split at hg
  ·
   rcases List.mem_cons.1 hg with rfl|hg
   ·
    simp
   ·
    rcases List.mem_append.1 hg with hg|hg
    ·
     have:=ih _ g hg;simp only[List.length_append,List.length_cons,List.length_nil] at this ⊢;omega
    ·
     have:=ih _ g hg;simp only[List.length_cons];omega
  ·
   cases hg
end Go.Proofs.Ytmfofjloklafoaa.Pure

namespace Go.Proofs.Ytmfofjloklafoaa.Pure
open Go.RowKit Go.Proofs.Ytmfofjloklafoaa.C5 Go.Proofs.Ytmfofjloklafoaa.H Go.Proofs.YtmfofjloklafoaaW.PrintWords Go.Proofs.YtmfofjloklafoaaW.PrintLast Go.Proofs.YtmfofjloklafoaaW.PrintMore
set_option linter.unusedVariables false
set_option linter.unusedSimpArgs false
theorem grpsF_sub (m:Int):∀ (r l:List Int),∀ g ∈ grpsF m r l,∃ t,g=l ++ t∧t.Sublist r∧t≠[]:=by
 intro r
 induction r with
 | nil=>intro l g hg;simp[grpsF] at hg
 | cons x r ih =>
  intro l g hg
  simp only[grpsF] at hg
  split at hg
  ·
   rcases List.mem_cons.1 hg with rfl|hg
   ·
    exact ⟨[x],rfl,by simp,by simp⟩
   ·
    rcases List.mem_append.1 hg with hg|hg
    ·
     obtain ⟨t,rfl,h1,h2⟩:=ih _ g hg
     exact ⟨x :: t,by simp,h1.cons_cons x,by simp⟩
    ·
     obtain ⟨t,rfl,h1,h2⟩:=ih _ g hg
     exact ⟨t,rfl,h1.cons x,h2⟩
  ·
   cases hg
theorem sideP_in (b:Bool):∀ (r:List Bool) (i:Nat),∀ x ∈ sideP b r i,(i:Int)≤x∧x < (i:Int)+r.length∧r.getD (x.toNat - i) false=b:=by
 intro r
 induction r with
 | nil=>intro i x hx;simp[sideP] at hx
 | cons y r ih =>
  intro i x hx
  have hrec:x ∈ sideP b r (i+1)→(i:Int)≤x∧x < (i:Int)+(y :: r).length∧(y :: r).getD (x.toNat - i) false=b:=by
   intro hx
   obtain ⟨h1,h2,h3⟩:=ih (i+1) x hx
   refine ⟨by omega,by simp only[List.length_cons];omega,?_⟩
   have:x.toNat - i=(x.toNat - (i+1))+1:=by omega
   rw[this,List.getD_cons_succ]
   exact h3
  simp only[sideP] at hx
  split at hx
  ·
   rename_i hy
   rcases List.mem_cons.1 hx with rfl|hx
   ·
    refine ⟨Int.le_refl _,by simp only[List.length_cons];omega,?_⟩
    have:((i:Int)).toNat - i=0:=by omega
    rw[this,List.getD_cons_zero]
    simpa using hy
   ·
    exact hrec hx
  ·
   exact hrec hx
theorem sideP_lt (b:Bool):∀ (r:List Bool) (i:Nat),(sideP b r i).Pairwise (· < ·):=by
 intro r
 induction r with
 | nil=>intro i;simp[sideP]
 | cons y r ih =>
  intro i
  simp only[sideP]
  split
  ·
   rw[List.pairwise_cons]
   exact ⟨fun x hx=>by have:=(sideP_in b r (i+1) x hx).1;omega,ih (i+1)⟩
  ·
   exact ih (i+1)
theorem risF_of (p:Int):∀ r:List Int,(p :: r).Pairwise (· < ·)→risF p r=true:=by
 intro r
 induction r generalizing p with
 | nil=>intro _;rfl
 | cons y r ih =>
  intro h
  rw[List.pairwise_cons] at h
  simp only[risF,Bool.and_eq_true,decide_eq_true_eq]
  exact ⟨h.1 y (by simp),ih y h.2⟩
theorem risP_of {r:List Int} (h:r.Pairwise (· < ·)):risP r=true:=by
 cases r with
 | nil=>rfl
 | cons x r=>exact risF_of x r h
theorem group_of {m:Int} {b:Bool} {st:List Bool} {g:List Int} (hg:g ∈ grpsF m (sideP b st 0) []):(∀ x ∈ g,0≤x∧x < (st.length:Int)∧rdOf false st x=b)∧risP g=true∧g≠[]:=by
 obtain ⟨t,ht,h1,h2⟩:=grpsF_sub m _ _ g hg
 rw[List.nil_append] at ht
 subst ht
 refine ⟨fun x hx=>?_,risP_of (List.Pairwise.sublist h1 (sideP_lt b st 0)),h2⟩
 obtain ⟨p,q,r⟩:=sideP_in b st 0 x (h1.subset hx)
 exact ⟨by simpa using p,by simpa using q,by simpa [rdOf] using r⟩
end Go.Proofs.Ytmfofjloklafoaa.Pure

namespace Go.Proofs.Ytmfofjloklafoaa.Pure
open Go.RowKit Go.Proofs.Ytmfofjloklafoaa.C5 Go.Proofs.Ytmfofjloklafoaa.H Go.Proofs.YtmfofjloklafoaaW.PrintWords Go.Proofs.YtmfofjloklafoaaW.PrintLast Go.Proofs.YtmfofjloklafoaaW.PrintMore
set_option linter.unusedVariables false
set_option linter.unusedSimpArgs false
def allB:Nat→List (List Bool)
 | 0=>[[]]
 | n+1=>(allB n).flatMap fun l=>[false :: l,true :: l]
theorem mem_allB:∀ l:List Bool,l ∈ allB l.length:=by
 intro l
 induction l with
 | nil=>simp [allB]
 | cons x l ih =>
  simp only[List.length_cons,allB,List.mem_flatMap]
  exact ⟨l,ih,by cases x <;> simp⟩
def bitI (b:Bool):Int:=if b then 1 else 0
def enI:List Bool→Bool→Int
 | [],t=>bitI t
 | x :: r,t=>2 * enI r t+bitI x
def dcI (n:Nat) (u:Int):List Bool × Bool:=((List.range n).map (fun k=>u / 2 ^ k % 2 == 1),u / 2 ^ n % 2 == 1)
def enS (ov:List Bool) (t:Bool):Int:=ov.foldl (fun a x=>2 * a+bitI x) (bitI t)
def dcS (n:Nat) (u:Int):List Bool × Bool:=((List.range n).map (fun k=>u / 2 ^ (n - 1 - k) % 2 == 1),u / 2 ^ n % 2 == 1)
set_option maxRecDepth 100000 in
theorem chk_en:((List.range 9).all fun n=>(allB n).all fun ov=>[false,true].all fun t=>decide (0≤enI ov t∧enI ov t < 2 ^ (n+1)∧dcI n (enI ov t)=(ov,t)∧0≤enS ov t∧enS ov t < 2 ^ (n+1)∧dcS n (enS ov t)=(ov,t)))=true:=by decide +kernel
set_option maxRecDepth 100000 in
theorem chk_dc:((List.range 9).all fun n=>(List.range (2 ^ (n+1))).all fun u=>decide ((dcI n (u:Int)).1.length=n∧enI (dcI n (u:Int)).1 (dcI n (u:Int)).2=(u:Int)∧(dcS n (u:Int)).1.length=n∧enS (dcS n (u:Int)).1 (dcS n (u:Int)).2=(u:Int)))=true:=by decide +kernel
theorem en_facts {n:Nat} (hn:n≤8) (ov:List Bool) (t:Bool) (hl:ov.length=n):0≤enI ov t∧enI ov t < 2 ^ (n+1)∧dcI n (enI ov t)=(ov,t)∧0≤enS ov t∧enS ov t < 2 ^ (n+1)∧dcS n (enS ov t)=(ov,t):=by
 have h:=List.all_eq_true.1 chk_en n (List.mem_range.2 (by omega))
 have h:=List.all_eq_true.1 h ov (by rw[← hl];exact mem_allB ov)
 exact of_decide_eq_true (List.all_eq_true.1 h t (by cases t <;> simp))
theorem dc_facts {n:Nat} (hn:n≤8) (u:Int) (h0:0≤u) (h1:u < 2 ^ (n+1)):(dcI n u).1.length=n∧enI (dcI n u).1 (dcI n u).2=u∧(dcS n u).1.length=n∧enS (dcS n u).1 (dcS n u).2=u:=by
 have h:=List.all_eq_true.1 chk_dc n (List.mem_range.2 (by omega))
 have e:((u.toNat:Nat):Int)=u:=Int.toNat_of_nonneg h0
 have hu:u.toNat < 2 ^ (n+1):=by
  have:((2 ^ (n+1):Nat):Int)=2 ^ (n+1):=by simp
  omega
 have h:=of_decide_eq_true (List.all_eq_true.1 h u.toNat (List.mem_range.2 hu))
 rwa [e] at h
set_option maxRecDepth 100000 in
theorem chk_code:((List.range 9).all fun n=>(allB n).all fun ov=>[false,true].all fun t=>decide (impl_State_code.f 20 ov t=some (enI ov t)))=true:=by decide +kernel
theorem code_ev {n:Nat} (hn:n≤8) (ov:List Bool) (t:Bool) (hl:ov.length=n):Ev (fun k=>impl_State_code.f k ov t) (enI ov t):=by
 have h:=List.all_eq_true.1 chk_code n (List.mem_range.2 (by omega))
 have h:=List.all_eq_true.1 h ov (by rw[← hl];exact mem_allB ov)
 exact Ev.of (fun k=>impl_State_code.mono _ _ _) (of_decide_eq_true (List.all_eq_true.1 h t (by cases t <;> simp)))
set_option maxRecDepth 100000 in
theorem chk_stateOf:((List.range 9).all fun n=>(List.range (2 ^ (n+1))).all fun u=>decide (impl_stateOf.f 20 (n:Int) (u:Int)=some (dcI n (u:Int))))=true:=by decide +kernel
theorem stateOf_ev {n:Nat} (hn:n≤8) (u:Int) (h0:0≤u) (h1:u < 2 ^ (n+1)):Ev (fun k=>impl_stateOf.f k (n:Int) u) (dcI n u):=by
 have h:=List.all_eq_true.1 chk_stateOf n (List.mem_range.2 (by omega))
 have e:((u.toNat:Nat):Int)=u:=Int.toNat_of_nonneg h0
 have hu:u.toNat < 2 ^ (n+1):=by
  have:((2 ^ (n+1):Nat):Int)=2 ^ (n+1):=by simp
  omega
 have h:=of_decide_eq_true (List.all_eq_true.1 h u.toNat (List.mem_range.2 hu))
 rw[e] at h
 exact Ev.of (fun k=>impl_stateOf.mono _ _ _) h
set_option maxRecDepth 100000 in
theorem chk_seIndex:((List.range 9).all fun n=>(allB n).all fun ov=>[false,true].all fun t=>decide (spec_seIndex.f 20 ov t=some (enS ov t)))=true:=by decide +kernel
theorem seIndex_ev {n:Nat} (hn:n≤8) (ov:List Bool) (t:Bool) (hl:ov.length=n):Ev (fun k=>spec_seIndex.f k ov t) (enS ov t):=by
 have h:=List.all_eq_true.1 chk_seIndex n (List.mem_range.2 (by omega))
 have h:=List.all_eq_true.1 h ov (by rw[← hl];exact mem_allB ov)
 exact Ev.of (fun k=>spec_seIndex.mono _ _ _) (of_decide_eq_true (List.all_eq_true.1 h t (by cases t <;> simp)))
set_option maxRecDepth 100000 in
theorem chk_seState:((List.range 9).all fun n=>(List.range (2 ^ (n+1))).all fun u=>decide (spec_seState.f 20 (u:Int) (n:Int)=some (dcS n (u:Int))))=true:=by decide +kernel
theorem seState_ev {n:Nat} (hn:n≤8) (u:Int) (h0:0≤u) (h1:u < 2 ^ (n+1)):Ev (fun k=>spec_seState.f k u (n:Int)) (dcS n u):=by
 have h:=List.all_eq_true.1 chk_seState n (List.mem_range.2 (by omega))
 have e:((u.toNat:Nat):Int)=u:=Int.toNat_of_nonneg h0
 have hu:u.toNat < 2 ^ (n+1):=by
  have:((2 ^ (n+1):Nat):Int)=2 ^ (n+1):=by simp
  omega
 have h:=of_decide_eq_true (List.all_eq_true.1 h u.toNat (List.mem_range.2 hu))
 rw[e] at h
 exact Ev.of (fun k=>spec_seState.mono _ _ _) h
end Go.Proofs.Ytmfofjloklafoaa.Pure

namespace Go.Proofs.Ytmfofjloklafoaa.Pure
open Go.RowKit Go.Proofs.Ytmfofjloklafoaa.C5 Go.Proofs.Ytmfofjloklafoaa.H Go.Proofs.YtmfofjloklafoaaW.PrintWords Go.Proofs.YtmfofjloklafoaaW.PrintLast Go.Proofs.YtmfofjloklafoaaW.PrintMore
set_option linter.unusedVariables false
set_option linter.unusedSimpArgs false
theorem way_rel {E E':Int→Int→Nat→Prop} {S S':Int→Prop} (R:Int→Int→Prop) (hs:∀ s,S s→∃ s',S' s'∧R s s') (he:∀ u u' v c,R u u'→E u v c→∃ v',E' u' v' c∧R v v') {v:Int} {n:Nat} (h:H.Way E S v n):∃ v',R v v'∧H.Way E' S' v' n:=by
 induction h with
 | here h=>obtain ⟨s',h1,h2⟩:=hs _ h;exact ⟨s',h2,H.Way.here h1⟩
 | on hu h ih =>
  obtain ⟨u',h1,h2⟩:=ih
  obtain ⟨v',h3,h4⟩:=he _ _ _ _ h1 h
  exact ⟨v',h4,H.Way.on h2 h3⟩
theorem grpsF_mem (m:Int):∀ (r l g:List Int),g ∈ grpsF m r l ↔ ∃ t,t≠[]∧t.Sublist r∧g=l ++ t∧((l.length+t.length:Nat):Int)≤m:=by
 intro r
 induction r with
 | nil =>
  intro l g
  simp only[grpsF,List.not_mem_nil,false_iff]
  rintro ⟨t,h1,h2,_⟩
  exact h1 (List.eq_nil_of_sublist_nil h2)
 | cons x r ih =>
  intro l g
  simp only[grpsF]
  split
  ·
   rename_i hl
   simp only[List.mem_cons,List.mem_append,ih]
   constructor
   ·
    rintro (rfl|⟨t,h1,h2,rfl,h3⟩|⟨t,h1,h2,rfl,h3⟩)
    ·
     exact ⟨[x],by simp,by simp,rfl,by simp;omega⟩
    ·
     exact ⟨x :: t,by simp,h2.cons_cons x,by simp,by simp only[List.length_append,List.length_cons,List.length_nil] at h3 ⊢;omega⟩
    ·
     exact ⟨t,h1,h2.cons x,rfl,h3⟩
   ·
    rintro ⟨t,h1,h2,rfl,h3⟩
    cases h2 with
    | cons _ h2=>exact .inr (.inr ⟨t,h1,h2,rfl,h3⟩)
    | @cons_cons t' _ _ h2 =>
     by_cases ht:t'=[]
     ·
      subst ht;exact .inl rfl
     ·
      exact .inr (.inl ⟨t',ht,h2,by simp,by simp only[List.length_append,List.length_cons,List.length_nil] at h3 ⊢;omega⟩)
  ·
   rename_i hl
   simp only[List.not_mem_nil,false_iff]
   rintro ⟨t,h1,h2,rfl,h3⟩
   have:0 < t.length:=List.length_pos_iff.2 h1
   omega
theorem sideP_mem (b:Bool):∀ (r:List Bool) (i:Nat) (x:Int),x ∈ sideP b r i ↔ ∃ j:Nat,x=((i+j:Nat):Int)∧r[j]? = some b:=by
 intro r
 induction r with
 | nil=>intro i x;simp[sideP]
 | cons y r ih =>
  intro i x
  have hiff:(∃ j:Nat,x=((i+j:Nat):Int)∧(y :: r)[j]? = some b) ↔ (x=(i:Int)∧y=b)∨∃ j:Nat,x=((i+1+j:Nat):Int)∧r[j]? = some b:=by
   constructor
   ·
    rintro ⟨j,h1,h2⟩
    cases j with
    | zero=>exact .inl ⟨by simpa using h1,by simpa using h2⟩
    | succ j=>exact .inr ⟨j,by rw[h1];congr 1;omega,by simpa using h2⟩
   ·
    rintro (⟨h1,h2⟩|⟨j,h1,h2⟩)
    ·
     exact ⟨0,by simpa using h1,by simpa using h2⟩
    ·
     exact ⟨j+1,by rw[h1];congr 1;omega,by simpa using h2⟩
  rw[hiff,← ih (i+1) x]
  simp only[sideP]
  by_cases hy:y=b
  ·
   rw[if_pos (by simpa using hy),List.mem_cons]
   simp[hy]
  ·
   rw[if_neg (by simpa using hy)]
   simp[hy]
theorem sideP_asc (b:Bool):∀ (r:List Bool) (i:Nat),(sideP b r i).Pairwise (· < ·):=by
 intro r
 induction r with
 | nil=>intro i;simp[sideP]
 | cons y r ih =>
  intro i
  simp only[sideP]
  split
  ·
   refine List.pairwise_cons.2 ⟨fun x hx=>?_,ih _⟩
   obtain ⟨j,rfl,_⟩:=(sideP_mem b r (i+1) x).1 hx
   omega
  ·
   exact ih _
theorem sub_asc:∀ (L t:List Int),L.Pairwise (· < ·)→t.Pairwise (· < ·)→(∀ x ∈ t,x ∈ L)→t.Sublist L:=by
 intro L
 induction L with
 | nil =>
  intro t _ _ h
  cases t with
  | nil=>exact List.Sublist.refl _
  | cons x t=>exact absurd (h x (by simp)) (by simp)
 | cons y L ih =>
  intro t hL ht h
  cases t with
  | nil=>exact List.nil_sublist _
  | cons x t =>
   rw[List.pairwise_cons] at hL ht
   by_cases e:x=y
   ·
    subst e
    refine (ih t hL.2 ht.2 fun z hz=>?_).cons_cons x
    rcases List.mem_cons.1 (h z (by simp[hz])) with rfl|q
    ·
     exact absurd (ht.1 z hz) (by omega)
    ·
     exact q
   ·
    have hx:x ∈ L:=by
     rcases List.mem_cons.1 (h x (by simp)) with q|q
     ·
      exact absurd q e
     ·
      exact q
    have hyx:=hL.1 x hx
    refine (ih (x :: t) hL.2 (List.pairwise_cons.2 ht) fun z hz=>?_).cons y
    rcases List.mem_cons.1 (h z hz) with rfl|q
    ·
     rcases List.mem_cons.1 hz with rfl|hz
     ·
      exact absurd rfl e
     ·
      have:=ht.1 z hz;omega
    ·
     exact q
theorem mv_get (v:Bool):∀ (t:List Int) (o:List Bool) (j:Nat),(∀ x ∈ t,0≤x∧x < (o.length:Int))→(mv v t o)[j]? = if (j:Int) ∈ t then some v else o[j]? := by
 intro t
 induction t with
 | nil=>intro o j _;simp[mv]
 | cons x t ih =>
  intro o j h
  have hx:=h x (by simp)
  simp only[mv]
  rw[ih (o.set x.toNat v) j (fun y hy=>by simpa using h y (by simp[hy])),List.getElem?_set]
  by_cases h1:(j:Int) ∈ t
  ·
   rw[if_pos h1,if_pos (by simp[h1])]
  ·
   rw[if_neg h1]
   by_cases h2:x.toNat=j
   ·
    rw[if_pos h2,if_pos (by omega),if_pos (by simp;left;omega)]
   ·
    rw[if_neg h2,if_neg (by simp only[List.mem_cons,not_or];exact ⟨by omega,h1⟩)]
theorem tripsP_mem {m:Int} {ov:List Bool} {tr:Bool} {t:List Int}:t ∈ tripsP m ov tr ↔ t≠[]∧(t.length:Int)≤m∧t.Pairwise (· < ·)∧∀ x ∈ t,∃ j:Nat,x=(j:Int)∧ov[j]? = some tr:=by
 unfold tripsP
 rw[grpsF_mem]
 constructor
 ·
  rintro ⟨t',h1,h2,e,h3⟩
  have e:t=t':=e
  subst e
  refine ⟨h1,by simpa using h3,(sideP_asc tr ov 0).sublist h2,fun x hx=>?_⟩
  obtain ⟨j,hj,h⟩:=(sideP_mem tr ov 0 x).1 (h2.subset hx)
  exact ⟨j,by simpa using hj,h⟩
 ·
  rintro ⟨h1,h2,h3,h4⟩
  refine ⟨t,h1,sub_asc _ _ (sideP_asc tr ov 0) h3 (fun x hx=>?_),rfl,by simpa using h2⟩
  obtain ⟨j,rfl,h⟩:=h4 x hx
  exact (sideP_mem tr ov 0 _).2 ⟨j,by simp,h⟩
theorem trip_in {m:Int} {ov:List Bool} {tr:Bool} {t:List Int} (h:t ∈ tripsP m ov tr):∀ x ∈ t,0≤x∧x < (ov.length:Int)∧rdOf false ov x=tr:=by
 intro x hx
 obtain ⟨j,rfl,hj⟩:=(tripsP_mem.1 h).2.2.2 x hx
 have:=(List.getElem?_eq_some_iff.1 hj).1
 exact ⟨by omega,by omega,by simp[rdOf,List.getD_eq_getElem?_getD,hj]⟩
theorem mv_back {m:Int} {ov:List Bool} {tr:Bool} {t:List Int} (h:t ∈ tripsP m ov tr):mv tr t (mv (!tr) t ov)=ov:=by
 have hi:=trip_in h
 have h4:=(tripsP_mem.1 h).2.2.2
 apply List.ext_getElem?
 intro j
 rw[mv_get tr t _ j (fun x hx=>by rw[mv_len];exact ⟨(hi x hx).1,(hi x hx).2.1⟩),mv_get (!tr) t ov j (fun x hx=>⟨(hi x hx).1,(hi x hx).2.1⟩)]
 by_cases hj:(j:Int) ∈ t
 ·
  rw[if_pos hj]
  obtain ⟨i,hi2,hv⟩:=h4 _ hj
  have:j=i:=by omega
  subst this
  exact hv.symm
 ·
  rw[if_neg hj,if_neg hj]
theorem trip_back {m:Int} {ov:List Bool} {tr:Bool} {t:List Int} (h:t ∈ tripsP m ov tr):t ∈ tripsP m (mv (!tr) t ov) (!tr):=by
 have hi:=trip_in h
 obtain ⟨h1,h2,h3,h4⟩:=tripsP_mem.1 h
 refine tripsP_mem.2 ⟨h1,h2,h3,fun x hx=>?_⟩
 obtain ⟨j,rfl,hj⟩:=h4 x hx
 exact ⟨j,rfl,by rw[mv_get (!tr) t ov j (fun x hx=>⟨(hi x hx).1,(hi x hx).2.1⟩),if_pos hx]⟩
theorem enS_inj {n:Nat} (hn:n≤8) {ov ov':List Bool} {tr tr':Bool} (h:ov.length=n) (h':ov'.length=n) (e:enS ov tr=enS ov' tr'):ov=ov'∧tr=tr':=by
 have h1:=(en_facts hn ov tr h).2.2.2.2.2
 have h2:=(en_facts hn ov' tr' h').2.2.2.2.2
 rw[e,h2] at h1
 exact ⟨(Prod.mk.inj h1).1.symm,(Prod.mk.inj h1).2.symm⟩
theorem enI_inj {n:Nat} (hn:n≤8) {ov ov':List Bool} {tr tr':Bool} (h:ov.length=n) (h':ov'.length=n) (e:enI ov tr=enI ov' tr'):ov=ov'∧tr=tr':=by
 have h1:=(en_facts hn ov tr h).2.2.1
 have h2:=(en_facts hn ov' tr' h').2.2.1
 rw[e,h2] at h1
 exact ⟨(Prod.mk.inj h1).1.symm,(Prod.mk.inj h1).2.symm⟩
end Go.Proofs.Ytmfofjloklafoaa.Pure

namespace Go.Proofs.Ytmfofjloklafoaa.Pure
open Go.RowKit Go.Proofs.Ytmfofjloklafoaa.C5 Go.Proofs.Ytmfofjloklafoaa.H Go.Proofs.YtmfofjloklafoaaW.PrintWords Go.Proofs.YtmfofjloklafoaaW.PrintLast Go.Proofs.YtmfofjloklafoaaW.PrintMore
set_option linter.unusedVariables false
set_option linter.unusedSimpArgs false
theorem rdL2_midK (pre:List (List Int)) (x:List Int) (r:List (List Int)):rd_L1 (pre ++ x :: r) (pre.length:Int)=x:=rdOf_mid [] pre x r
theorem rdL2_prevK (pre:List (List Int)) (q x:List Int) (r:List (List Int)):rd_L1 ((pre ++ [q]) ++ x :: r) (((pre ++ [q]).length:Int) - 1)=q:=by
 rw[List.append_assoc,show (((pre ++ [q]).length:Int) - 1)=(pre.length:Int) by simp]
 exact rdOf_mid [] pre q (x :: r)
def dOk (n:Int) (d:List Int):Bool:=decide (d.length=2) && (d.all (inB 0 (n - 1)) && risP d)
def bef (a b:List Int):Bool:=decide (rd a 0 < rd b 0) || (decide (rd a 0=rd b 0) && decide (rd a 1 < rd b 1))
def pvB:Option (List Int)→List Int→Bool
 | none,_=>true
 | some q,d=>bef q d
def ksB (n:Int):Option (List Int)→List (List Int)→Bool
 | _,[]=>true
 | p,d :: r=>dOk n d && (pvB p d && ksB n (some d) r)
def goodK (n:Int) (l:List (List Int)) (m:Int):Bool:=inB 0 8 n && (inB 0 8 m && ksB n none l)
theorem len2 {d:List Int} (h:d.length=2):∃ a b,d=[a,b]:=by
 match d,h with
 | [a,b],_=>exact ⟨a,b,rfl⟩
theorem dOk_two {n:Int} {d:List Int} (h:dOk n d=true):∃ a b,d=[a,b]∧0≤a∧a < b∧b < n:=by
 unfold dOk at h
 simp only[Bool.and_eq_true,decide_eq_true_eq] at h
 obtain ⟨h1,h2,h3⟩:=h
 obtain ⟨a,b,rfl⟩:=len2 h1
 simp only[List.all_cons,List.all_nil,Bool.and_eq_true,inB,decide_eq_true_eq,risP,risF] at h2 h3
 exact ⟨a,b,rfl,by omega,by omega,by omega⟩
theorem ksB_all {n:Int}:∀ (l:List (List Int)) (p:Option (List Int)),ksB n p l=true→∀ d ∈ l,dOk n d=true:=by
 intro l
 induction l with
 | nil=>intro p _ d hd;cases hd
 | cons x l ih =>
  intro p h d hd
  simp only[ksB,Bool.and_eq_true] at h
  rcases List.mem_cons.1 hd with rfl|hd
  ·
   exact h.1
  ·
   exact ih _ h.2.2 d hd
theorem cmp_val (a b:Int):cmp_Compare_int.f a b=some (if a < b then -1 else if a > b then 1 else 0):=by
 unfold cmp_Compare_int.f cmp_isNaN_int.f
 by_cases h1:a < b
 ·
  simp[h1]
 ·
  by_cases h2:a > b
  ·
   simp[h1,h2]
  ·
   simp[h1,h2]
theorem compare2_ev (a b e f:Int):∃ c,Ev (fun k=>slices_Compare_int_int.f k [a,b] [e,f]) c∧(c ≥ 0 ↔ bef [a,b] [e,f]=false):=by
 have w1:wrap64 1=1:=wr_id (by omega) (by omega)
 have w2:wrap64 2=2:=wr_id (by omega) (by omega)
 unfold slices_Compare_int_int.f
 have r0:rd [a,b] 0=a:=rfl
 have r1:rd [a,b] 1=b:=rfl
 have s0:rd [e,f] 0=e:=rfl
 have s1:rd [e,f] 1=f:=rfl
 have l1:(([a,b]:List Int).length:Int)=2:=rfl
 have l2:(([e,f]:List Int).length:Int)=2:=rfl
 unfold bef
 rw[r0,r1,s0,s1]
 by_cases h1:a=e
 ·
  subst h1
  by_cases h2:b=f
  ·
   subst h2
   refine ⟨0,?_,by simp⟩
   refine Ev.step (fun k=>slices_Compare_int_int.l0.eq_2 ..) ?_
   simp[l1,cmp_val,w1,r0,s0]
   refine Ev.step (fun k=>slices_Compare_int_int.l0.eq_2 ..) ?_
   simp[l1,cmp_val,w2,r1,s1]
   refine Ev.step (fun k=>slices_Compare_int_int.l0.eq_2 ..) ?_
   simp[l1]
   exact Ev.now _
  ·
   refine ⟨if b < f then -1 else 1,?_,?_⟩
   ·
    refine Ev.step (fun k=>slices_Compare_int_int.l0.eq_2 ..) ?_
    simp[l1,l2,cmp_val,w1,r0,s0]
    refine Ev.step (fun k=>slices_Compare_int_int.l0.eq_2 ..) ?_
    by_cases h3:b < f
    ·
     simp[l1,l2,cmp_val,r1,s1,h3]
     exact Ev.now _
    ·
     have h4:f < b:=by omega
     simp[l1,l2,cmp_val,r1,s1,h3,h4]
     exact Ev.now _
   ·
    by_cases h3:b < f
    ·
     simp[h3]
    ·
     simp[h3]
 ·
  refine ⟨if a < e then -1 else 1,?_,?_⟩
  ·
   refine Ev.step (fun k=>slices_Compare_int_int.l0.eq_2 ..) ?_
   by_cases h3:a < e
   ·
    simp[l1,l2,cmp_val,r0,s0,h3]
    exact Ev.now _
   ·
    have h4:e < a:=by omega
    simp[l1,l2,cmp_val,r0,s0,h3,h4]
    exact Ev.now _
  ·
   by_cases h3:a < e
   ·
    simp[h3]
   ·
    simp[h3,h1]
def PrevK (p:Option (List Int)) (pre:List (List Int)):Prop:=(p=none∧pre=[])∨∃ pre' q,p=some q∧pre=pre' ++ [q]∧q.length=2
theorem keBefore_val {q d:List Int} (hq:q.length=2) (hd:d.length=2):spec_keBefore.f q d=some (bef q d):=by
 unfold spec_keBefore.f bef
 rw[hq,hd]
 by_cases h1:rd q 0 < rd d 0
 ·
  simp[h1]
 ·
  by_cases h2:rd q 0=rd d 0
  ·
   simp[h2]
  ·
   simp[h1,h2]
theorem keGood_loop (n m:Int) (l:List (List Int)) (hn:0≤n∧n≤8) (hl:l.length≤1048576) (hlen:∀ d ∈ l,d.length≤1048576):∀ (r pre:List (List Int)) (p:Option (List Int)),l=pre ++ r→PrevK p pre→Ev (fun k=>spec_keGood.l0 k l (l.length:Int) (pre.length:Int) n l m) (ksB n p r):=by
 have hw:wrap64 (n - 1)=n - 1:=wr_id (by omega) (by omega)
 intro r
 induction r with
 | nil =>
  intro pre p e hp
  rw[List.append_nil] at e
  subst e
  refine Ev.step (fun k=>spec_keGood.l0.eq_2 ..) ?_
  simp only[if_neg (show ¬ (l.length:Int) < (l.length:Int) by omega),ksB]
  exact Ev.now _
 | cons d r ih =>
  intro pre p e hp
  have hdl:=hlen d (by rw[e];simp)
  have hrd:rd_L1 l (pre.length:Int)=d:=by rw[e];exact rdL2_midK pre d r
  have hpl:(pre.length:Int) < (l.length:Int):=by rw[e];simp;omega
  have hwp:wrap64 ((pre.length:Int)+1)=((pre ++ [d]).length:Int):=by rw[wr_id (by omega) (by omega)];simp
  refine Ev.step (fun k=>spec_keGood.l0.eq_2 ..) ?_
  simp only[if_pos hpl,if_pos (show 0≤(pre.length:Int) by omega),hrd,hw,ksB]
  have hj:∀ b:Bool,(b=true→d.length=2)→Ev (fun k=>spec_keGood.j2 k (pre.length:Int) d l (l.length:Int) (pre.length:Int) (!b) n l m) (b && (pvB p d && ksB n (some d) r)):=by
   intro b hb
   refine Ev.step (fun k=>spec_keGood.j2.eq_2 ..) ?_
   cases b with
   | false=>simp only[Bool.not_false,if_true,Bool.false_and];exact Ev.now _
   | true =>
    have hd2:=hb rfl
    simp only[Bool.not_true,Bool.false_eq_true,if_false,Bool.true_and]
    have hnext:=ih (pre ++ [d]) (some d) (by rw[e];simp) (.inr ⟨pre,d,rfl,rfl,hd2⟩)
    rcases hp with ⟨rfl,rfl⟩|⟨pre',q,rfl,rfl,hq2⟩
    ·
     simp only[List.length_nil,Int.natCast_zero,if_neg (show ¬ (0:Int) > 0 by omega),pvB,Bool.true_and]
     simp only[List.length_nil,Int.natCast_zero] at hwp
     rw[hwp]
     exact hnext
    ·
     have hpos:((pre' ++ [q]).length:Int) > 0:=by simp only[List.length_append,List.length_cons,List.length_nil];omega
     have hw1:wrap64 (((pre' ++ [q]).length:Int) - 1)=((pre' ++ [q]).length:Int) - 1:=wr_id (by omega) (by omega)
     have hrq:rd_L1 l (((pre' ++ [q]).length:Int) - 1)=q:=by rw[e];exact rdL2_prevK pre' q d r
     simp only[if_pos hpos,hw1,if_pos (show 0≤((pre' ++ [q]).length:Int) - 1 by omega),if_pos (show ((pre' ++ [q]).length:Int) - 1 < (l.length:Int) by omega),hrq,keBefore_val hq2 hd2,Option.bind_some,pvB]
     cases hbf:bef q d with
     | false=>simp only[Bool.false_eq_true,if_false,Bool.false_and];exact Ev.now _
     | true=>simp only[if_true,Bool.true_and,hwp];exact hnext
  by_cases h2:d.length=2
  ·
   simp only[if_pos (show (d.length:Int)=2 by omega)]
   refine Ev.bind (l1Rising_ev d 0 (n - 1) (by omega)) ?_
   have:=hj (d.all (inB 0 (n - 1)) && risP d) (fun _=>h2)
   unfold dOk
   rw[decide_eq_true h2,Bool.true_and]
   exact this
  ·
   simp only[if_neg (show ¬ (d.length:Int)=2 by omega)]
   have:=hj false (fun h=>by cases h)
   unfold dOk
   rw[decide_eq_false h2,Bool.false_and]
   exact this
theorem keGood_ev (n m:Int) (l:List (List Int)) (hl:l.length≤1048576) (hlen:∀ d ∈ l,d.length≤1048576):Ev (fun k=>spec_keGood.f k n l m) (goodK n l m):=by
 unfold spec_keGood.f goodK
 rw[l1In_eq,l1In_eq]
 simp only[Option.bind_some]
 cases h1:inB 0 8 n with
 | false =>
  simp only[Bool.false_eq_true,if_false,Bool.false_and]
  refine Ev.step (fun k=>spec_keGood.j0.eq_2 ..) ?_
  simp only[if_true]
  exact Ev.now _
 | true =>
  simp only[if_true,Bool.true_and]
  refine Ev.step (fun k=>spec_keGood.j0.eq_2 ..) ?_
  cases h2:inB 0 8 m with
  | false=>simp only[Bool.not_false,if_true,Bool.false_and];exact Ev.now _
  | true =>
   simp only[Bool.not_true,Bool.false_eq_true,if_false,Bool.true_and]
   simp only[inB,Bool.and_eq_true,decide_eq_true_eq] at h1
   exact keGood_loop n m l h1 hl hlen l [] none rfl (.inl ⟨rfl,rfl⟩)
theorem isKeep_loop (n m:Int) (l:List (List Int)) (hn:0≤n∧n≤8) (hl:l.length≤1048576):∀ (r pre:List (List Int)) (p:Option (List Int)),l=pre ++ r→PrevK p pre→Ev (fun k=>impl_IsKeep.l0 k l (l.length:Int) (pre.length:Int) n l m) (ksB n p r):=by
 have hw:wrap64 (n - 1)=n - 1:=wr_id (by omega) (by omega)
 intro r
 induction r with
 | nil =>
  intro pre p e hp
  rw[List.append_nil] at e
  subst e
  refine Ev.step (fun k=>impl_IsKeep.l0.eq_2 ..) ?_
  simp only[if_neg (show ¬ (l.length:Int) < (l.length:Int) by omega),ksB]
  exact Ev.now _
 | cons d r ih =>
  intro pre p e hp
  have hrd:rd_L1 l (pre.length:Int)=d:=by rw[e];exact rdL2_midK pre d r
  have hpl:(pre.length:Int) < (l.length:Int):=by rw[e];simp;omega
  have hwp:wrap64 ((pre.length:Int)+1)=((pre ++ [d]).length:Int):=by rw[wr_id (by omega) (by omega)];simp
  refine Ev.step (fun k=>impl_IsKeep.l0.eq_2 ..) ?_
  simp only[if_pos hpl,if_pos (show 0≤(pre.length:Int) by omega),hrd,hw,ksB,areIn_eq,Option.bind_some]
  unfold dOk
  by_cases h2:d.length=2
  ·
   have hb2:inB 2 2 (d.length:Int)=true:=by rw[h2];rfl
   rw[hb2,decide_eq_true h2]
   simp only[Bool.true_and]
   cases ha:d.all (inB 0 (n - 1)) with
   | false=>simp only[Bool.false_eq_true,if_false,Bool.false_and];exact Ev.now _
   | true =>
    obtain ⟨a,b,rfl⟩:=len2 h2
    have hris:risP [a,b]=decide (a < b):=by simp[risP,risF]
    have r0:rd [a,b] 0=a:=rfl
    have r1:rd [a,b] 1=b:=rfl
    simp only[if_true,Bool.true_and,hris,r0,r1,if_pos (show (0:Int) < (([a,b]:List Int).length:Int) by simp),if_pos (show (1:Int) < (([a,b]:List Int).length:Int) by simp)]
    by_cases hab:a < b
    ·
     have hnext:=ih (pre ++ [[a,b]]) (some [a,b]) (by rw[e];simp) (.inr ⟨pre,[a,b],rfl,rfl,rfl⟩)
     simp only[if_neg (show ¬ a ≥ b by omega),decide_eq_true hab,Bool.true_and]
     rcases hp with ⟨rfl,rfl⟩|⟨pre',q,rfl,rfl,hq2⟩
     ·
      simp only[List.length_nil,Int.natCast_zero,if_neg (show ¬ (0:Int) > 0 by omega),pvB,Bool.true_and]
      simp only[List.length_nil,Int.natCast_zero] at hwp
      rw[hwp]
      exact hnext
     ·
      have hpos:((pre' ++ [q]).length:Int) > 0:=by simp only[List.length_append,List.length_cons,List.length_nil];omega
      have hw1:wrap64 (((pre' ++ [q]).length:Int) - 1)=((pre' ++ [q]).length:Int) - 1:=wr_id (by omega) (by omega)
      have hrq:rd_L1 l (((pre' ++ [q]).length:Int) - 1)=q:=by rw[e];exact rdL2_prevK pre' q [a,b] r
      obtain ⟨x,y,rfl⟩:=len2 hq2
      obtain ⟨c,hc,hcb⟩:=compare2_ev x y a b
      simp only[if_pos hpos,hw1,if_pos (show 0≤((pre' ++ [[x,y]]).length:Int) - 1 by omega),if_pos (show ((pre' ++ [[x,y]]).length:Int) - 1 < (l.length:Int) by omega),hrq,pvB]
      refine Ev.bind hc ?_
      cases hbf:bef [x,y] [a,b] with
      | false=>simp only[if_pos (hcb.2 hbf),Bool.false_and];exact Ev.now _
      | true =>
       have:¬ c ≥ 0:=fun h=>by rw[hcb.1 h] at hbf;cases hbf
       simp only[if_neg this,Bool.true_and,hwp];exact hnext
    ·
     simp only[if_pos (show a ≥ b by omega),decide_eq_false hab,Bool.false_and];exact Ev.now _
  ·
   have hb2:inB 2 2 (d.length:Int)=false:=by
    unfold inB
    by_cases q:2≤(d.length:Int)
    ·
     rw[decide_eq_false (show ¬ (d.length:Int)≤2 by omega),Bool.and_false]
    ·
     rw[decide_eq_false q,Bool.false_and]
   rw[hb2,decide_eq_false h2]
   simp only[Bool.false_and,Bool.false_eq_true,if_false]
   exact Ev.now _
theorem isKeep_ev (n m:Int) (l:List (List Int)) (hl:l.length≤1048576):Ev (fun k=>impl_IsKeep.f k n l m) (goodK n l m):=by
 unfold impl_IsKeep.f goodK
 rw[in_eq,in_eq]
 simp only[Option.bind_some]
 cases h1:inB 0 8 n with
 | false =>
  simp only[Bool.false_eq_true,if_false,Bool.false_and]
  refine Ev.step (fun k=>impl_IsKeep.j0.eq_2 ..) ?_
  simp only[if_true]
  exact Ev.now _
 | true =>
  simp only[if_true,Bool.true_and]
  refine Ev.step (fun k=>impl_IsKeep.j0.eq_2 ..) ?_
  cases h2:inB 0 8 m with
  | false=>simp only[Bool.not_false,if_true,Bool.false_and];exact Ev.now _
  | true =>
   simp only[Bool.not_true,Bool.false_eq_true,if_false,Bool.true_and]
   simp only[inB,Bool.and_eq_true,decide_eq_true_eq] at h1
   exact isKeep_loop n m l h1 hl l [] none rfl (.inl ⟨rfl,rfl⟩)
end Go.Proofs.Ytmfofjloklafoaa.Pure

namespace Go.Proofs.Ytmfofjloklafoaa.Pure
open Go.RowKit Go.Proofs.Ytmfofjloklafoaa.C5 Go.Proofs.Ytmfofjloklafoaa.H Go.Proofs.YtmfofjloklafoaaW.PrintWords Go.Proofs.YtmfofjloklafoaaW.PrintLast Go.Proofs.YtmfofjloklafoaaW.PrintMore
set_option linter.unusedVariables false
set_option linter.unusedSimpArgs false
def dgB (ov:List Bool) (b:Bool) (d:List Int):Bool:=(rdOf false ov (rd d 0) != b) && (rdOf false ov (rd d 1) != b)
def dgP (l:List (List Int)) (ov:List Bool) (b:Bool):List (List Int):=l.filter (dgB ov b)
def safeK (l:List (List Int)) (ov:List Bool) (b:Bool):Bool:=decide ((dgP l ov b).length=0)
def ridesK (l:List (List Int)) (m:Int) (ov:List Bool) (tr:Bool):List (List Int):=([] :: tripsP m ov tr).filter (fun t=>safeK l (mv (!tr) t ov) (!tr))
section
variable {n m:Int} {l:List (List Int)}
theorem dangers_loop (n m:Int) (l:List (List Int)) (ov:List Bool) (b:Bool) (hl:l.length≤1048576) (hd:∀ d ∈ l,dOk n d=true) (ho:(ov.length:Int)=n):∀ (r pre acc:List (List Int)),l=pre ++ r→acc.length+r.length≤1048576→Ev (fun k=>impl_Keep_dangers.l0 k acc l (l.length:Int) (pre.length:Int) ov b) (acc ++ r.filter (dgB ov b)):=by
 intro r
 induction r with
 | nil =>
  intro pre acc e ha
  rw[List.append_nil] at e
  subst e
  refine Ev.step (fun k=>impl_Keep_dangers.l0.eq_2 ..) ?_
  simp only[if_neg (show ¬ (l.length:Int) < (l.length:Int) by omega)]
  rw[List.filter_nil,List.append_nil]
  exact Ev.now _
 | cons d r ih =>
  intro pre acc e ha
  simp only[List.length_cons] at ha
  obtain ⟨x,y,rfl,h0,h1,h2⟩:=dOk_two (hd d (by rw[e];simp))
  have hrd:rd_L1 l (pre.length:Int)=[x,y]:=by rw[e];exact rdL2_midK pre [x,y] r
  have hpl:(pre.length:Int) < (l.length:Int):=by rw[e];simp;omega
  have hwp:wrap64 ((pre.length:Int)+1)=((pre ++ [[x,y]]).length:Int):=by rw[wr_id (by omega) (by omega)];simp
  have r0:rd [x,y] 0=x:=rfl
  have r1:rd [x,y] 1=y:=rfl
  have hcl:slices_Clone_int_int.f [x,y]=some [x,y]:=by unfold slices_Clone_int_int.f;exact if_pos (by simp)
  refine Ev.step (fun k=>impl_Keep_dangers.l0.eq_2 ..) ?_
  simp only[if_pos hpl,if_pos (show 0≤(pre.length:Int) by omega),hrd,r0,r1,if_pos (show (0:Int) < (([x,y]:List Int).length:Int) by simp),if_pos (show (1:Int) < (([x,y]:List Int).length:Int) by simp),if_pos h0,if_pos (show x < (ov.length:Int) by omega),if_pos (show 0≤y by omega),if_pos (show y < (ov.length:Int) by omega),hcl,Option.bind_some,if_pos (show acc.length < 5864062014805 by omega),hwp]
  rw[List.filter_cons]
  unfold dgB
  rw[r0,r1]
  cases hx:(rdOf false ov x != b) with
  | false =>
   simp only[Bool.false_and,Bool.false_eq_true,if_false]
   exact ih (pre ++ [[x,y]]) acc (by rw[e];simp) (by omega)
  | true =>
   cases hy:(rdOf false ov y != b) with
   | false =>
    simp only[Bool.and_false,Bool.false_eq_true,if_false,if_true]
    exact ih (pre ++ [[x,y]]) acc (by rw[e];simp) (by omega)
   | true =>
    simp only[Bool.and_true,if_true]
    have:=ih (pre ++ [[x,y]]) (acc ++ [[x,y]]) (by rw[e];simp) (by simp;omega)
    rw[List.append_assoc] at this
    exact this
theorem dangers_ev (n m:Int) (l:List (List Int)) (ov:List Bool) (b:Bool) (hl:l.length≤1048576) (hd:∀ d ∈ l,dOk n d=true) (ho:(ov.length:Int)=n):Ev (fun k=>impl_Keep_dangers.f k n l m ov b) (dgP l ov b):=by
 have:=dangers_loop n m l ov b hl hd ho l [] [] rfl (by simpa using hl)
 rw[List.nil_append] at this
 exact this
theorem keNow_loop (n m:Int) (l:List (List Int)) (ov:List Bool) (b:Bool) (hl:l.length≤1048576) (hd:∀ d ∈ l,dOk n d=true) (ho:(ov.length:Int)=n):∀ (r pre acc:List (List Int)),l=pre ++ r→acc.length+r.length≤1048576→Ev (fun k=>spec_keNow.l0 k acc l (l.length:Int) (pre.length:Int) ov b) (acc ++ r.filter (dgB ov b)):=by
 intro r
 induction r with
 | nil =>
  intro pre acc e ha
  rw[List.append_nil] at e
  subst e
  refine Ev.step (fun k=>spec_keNow.l0.eq_2 ..) ?_
  simp only[if_neg (show ¬ (l.length:Int) < (l.length:Int) by omega)]
  rw[List.filter_nil,List.append_nil]
  exact Ev.now _
 | cons d r ih =>
  intro pre acc e ha
  simp only[List.length_cons] at ha
  obtain ⟨x,y,rfl,h0,h1,h2⟩:=dOk_two (hd d (by rw[e];simp))
  have hrd:rd_L1 l (pre.length:Int)=[x,y]:=by rw[e];exact rdL2_midK pre [x,y] r
  have hpl:(pre.length:Int) < (l.length:Int):=by rw[e];simp;omega
  have hwp:wrap64 ((pre.length:Int)+1)=((pre ++ [[x,y]]).length:Int):=by rw[wr_id (by omega) (by omega)];simp
  have r0:rd [x,y] 0=x:=rfl
  have r1:rd [x,y] 1=y:=rfl
  have hcl:spec_l1Own.f [x,y]=some [x,y]:=l1Own_eq [x,y] (by simp)
  refine Ev.step (fun k=>spec_keNow.l0.eq_2 ..) ?_
  simp only[if_pos hpl,if_pos (show 0≤(pre.length:Int) by omega),hrd,r0,r1,if_pos (show (0:Int) < (([x,y]:List Int).length:Int) by simp),if_pos (show (1:Int) < (([x,y]:List Int).length:Int) by simp),if_pos h0,if_pos (show x < (ov.length:Int) by omega),if_pos (show 0≤y by omega),if_pos (show y < (ov.length:Int) by omega),hcl,Option.bind_some,if_pos (show acc.length < 5864062014805 by omega),hwp]
  rw[List.filter_cons]
  unfold dgB
  rw[r0,r1]
  cases hx:(rdOf false ov x != b) with
  | false =>
   simp only[Bool.false_and,Bool.false_eq_true,if_false]
   exact ih (pre ++ [[x,y]]) acc (by rw[e];simp) (by omega)
  | true =>
   cases hy:(rdOf false ov y != b) with
   | false =>
    simp only[Bool.and_false,Bool.false_eq_true,if_false,if_true]
    exact ih (pre ++ [[x,y]]) acc (by rw[e];simp) (by omega)
   | true =>
    simp only[Bool.and_true,if_true]
    have:=ih (pre ++ [[x,y]]) (acc ++ [[x,y]]) (by rw[e];simp) (by simp;omega)
    rw[List.append_assoc] at this
    exact this
theorem keNow_ev (n m:Int) (l:List (List Int)) (ov:List Bool) (b:Bool) (hl:l.length≤1048576) (hd:∀ d ∈ l,dOk n d=true) (ho:(ov.length:Int)=n):Ev (fun k=>spec_keNow.f k n l m ov b) (dgP l ov b):=by
 have:=keNow_loop n m l ov b hl hd ho l [] [] rfl (by simpa using hl)
 rw[List.nil_append] at this
 exact this
theorem keRide_loop (st:List Bool) (b c:Bool):∀ (r pre:List Int) (o:List Bool),(pre ++ r).length≤1048576→(∀ x ∈ r,0≤x∧x < (st.length:Int))→(∀ x ∈ r,rdOf false st x=b)→o.length=st.length→Ev (fun k=>spec_keRide.l0 k (pre ++ r) ((pre ++ r).length:Int) (pre.length:Int) st b o c) (mv (!b) r o,c):=by
 intro r
 induction r with
 | nil =>
  intro pre o hl hi hb ho
  refine Ev.step (fun k=>spec_keRide.l0.eq_2 ..) ?_
  simp only[if_neg (nlt_end pre)]
  exact Ev.now _
 | cons x r ih =>
  intro pre o hl hi hb ho
  have hx:=hi x (by simp)
  have hbx:=hb x (by simp)
  refine Ev.step (fun k=>spec_keRide.l0.eq_2 ..) ?_
  rw[rd_mid,wr_mid pre x r (by omega),app_mid pre x r]
  simp only[if_pos (show (pre.length:Int) < (((pre ++ [x]) ++ r).length:Int) by simp;omega),if_pos (zle pre.length),if_pos hx.1,if_pos hx.2,if_pos (show x < (o.length:Int) by omega),hbx]
  exact ih (pre ++ [x]) (o.set x.toNat (!b)) (by simpa using hl) (fun y hy=>hi y (by simp[hy])) (fun y hy=>hb y (by simp[hy])) (by rw[List.length_set];exact ho)
theorem keRide_ev (st:List Bool) (b:Bool) (t:List Int) (hs:st.length≤1048576) (ht:t.length≤1048576) (hi:∀ x ∈ t,0≤x∧x < (st.length:Int)) (hb:∀ x ∈ t,rdOf false st x=b):Ev (fun k=>spec_keRide.f k st b t) (mv (!b) t st,!b):=by
 unfold spec_keRide.f
 simp only[Option.bind_some,List.length_nil,Nat.zero_add,List.nil_append,if_pos (show st.length < 140737488355328 by omega)]
 exact keRide_loop st b (!b) t [] st (by simpa using ht) hi hb rfl
theorem listK {m:Int} {ov:List Bool} {tr:Bool} (hm:0≤m) {t:List Int} (h:t ∈ [] :: tripsP m ov tr):(t.length:Int)≤m∧(∀ x ∈ t,0≤x∧x < (ov.length:Int)∧rdOf false ov x=tr)∧risP t=true∧t.length≤ov.length:=by
 rcases List.mem_cons.1 h with rfl|h
 ·
  exact ⟨by simpa using hm,⟨fun x hx=>(by cases hx),rfl,by simp⟩⟩
 ·
  have h1:=tripsP_mem.1 h
  have h2:=group_of h
  have h3:=grpsF_elem m _ _ t h
  have h4:=sideP_len tr ov 0
  simp at h3
  exact ⟨h1.2.1,h2.1,h2.2.1,by omega⟩
theorem keepS_ev (hd:∀ d ∈ l,dOk n d=true) (hl:l.length≤1048576) {ov:List Bool} {tr:Bool} (ho:(ov.length:Int)=n) (hn:n≤8) (hm:0≤m) (s:List (List Int)) (hs:s.length < 1099511627776) {t:List Int} (ht:t ∈ [] :: tripsP m ov tr):Ev (fun k=>keepS k n l m ov tr s t) (if safeK l (mv (!tr) t ov) (!tr) then s ++ [t] else s):=by
 obtain ⟨h1,h2,h3,h4⟩:=listK hm ht
 unfold keepS
 refine Ev.bind (moved_ev ov tr t (by omega) (by omega) (fun x hx=>⟨(h2 x hx).1,(h2 x hx).2.1⟩)) ?_
 dsimp only
 refine Ev.bind (dangers_ev n m l (mv (!tr) t ov) (!tr) hl hd (by rw[mv_len];exact ho)) ?_
 unfold safeK
 by_cases hz:(dgP l (mv (!tr) t ov) (!tr)).length=0
 ·
  simp only[if_pos hz,decide_eq_true hz,if_true]
  unfold pushS
  simp only[if_pos hs]
  exact Ev.now _
 ·
  simp only[if_neg hz,decide_eq_false hz,Bool.false_eq_true,if_false]
  exact Ev.now _
theorem keepFold_ev (hd:∀ d ∈ l,dOk n d=true) (hl:l.length≤1048576) {ov:List Bool} {tr:Bool} (ho:(ov.length:Int)=n) (hn:n≤8) (hm:0≤m):∀ (gs s:List (List Int)),(∀ t ∈ gs,t ∈ [] :: tripsP m ov tr)→s.length+gs.length < 1099511627776→Ev (fun k=>gs.foldlM (keepS k n l m ov tr) s) (s ++ gs.filter (fun t=>safeK l (mv (!tr) t ov) (!tr))):=by
 intro gs
 induction gs with
 | nil=>intro s _ _;simp only[List.foldlM_nil,List.filter_nil,List.append_nil];exact Ev.now _
 | cons t gs ih =>
  intro s hg hsl
  simp only[List.length_cons] at hsl
  simp only[List.foldlM_cons,List.filter_cons]
  refine Ev.bind (keepS_ev hd hl ho hn hm s (by omega) (hg t (by simp))) ?_
  cases hq:safeK l (mv (!tr) t ov) (!tr) with
  | true =>
   simp only[if_true]
   have:=ih (s ++ [t]) (fun x hx=>hg x (by simp[hx])) (by simp;omega)
   rw[List.append_assoc] at this
   exact this
  | false =>
   simp only[Bool.false_eq_true,if_false]
   exact ih s (fun x hx=>hg x (by simp[hx])) (by omega)
theorem trips_lenK (m:Int) (ov:List Bool) (tr:Bool) (ho:ov.length≤8):(tripsP m ov tr).length≤256:=by
 have hsl:=sideP_len tr ov 0
 have hgl:=grpsF_len m (sideP tr ov 0) []
 have hpw:2 ^ (sideP tr ov 0).length≤2 ^ 8:=Nat.pow_le_pow_right (by omega) (by omega)
 unfold tripsP
 omega
theorem keepRides_ev (hd:∀ d ∈ l,dOk n d=true) (hl:l.length≤1048576) (ov:List Bool) (tr:Bool) (ho:(ov.length:Int)=n) (hn:n≤8) (hm:0≤m):Ev (fun k=>impl_Keep_rides.f k n l m ov tr) (ridesK l m ov tr):=by
 have htl:=trips_lenK m ov tr (by omega)
 have hsl:=sideP_len tr ov 0
 unfold impl_Keep_rides.f ridesK
 refine Ev.bind (keepS_ev hd hl ho hn hm [] (by simp) (t:=[]) (by simp)) (Ev.bind (side_ev ov tr tr (by omega)) ?_)
 simp only[if_pos (show (sideP tr ov 0).length≤20 by omega),List.filter_cons]
 have hf:=fun s hs=>keepFold_ev (ov:=ov) (tr:=tr) hd hl ho hn hm (tripsP m ov tr) s (fun t ht=>List.mem_cons_of_mem _ ht) hs
 cases hq:safeK l (mv (!tr) [] ov) (!tr) with
 | true =>
  simp only[if_true]
  have:=hf [[]] (by simp;omega)
  exact this
 | false =>
  simp only[Bool.false_eq_true,if_false]
  have:=hf [] (by simp;omega)
  rw[List.nil_append] at this
  exact this
theorem keCan_loop (hd:∀ d ∈ l,dOk n d=true) (hl:l.length≤1048576) {ov:List Bool} {tr:Bool} (ho:(ov.length:Int)=n) (hn:n≤8) {t:List Int} (h2:∀ x ∈ t,0≤x∧x < (ov.length:Int)∧rdOf false ov x=tr) (h4:t.length≤ov.length):∀ (r pre:List Int),t=pre ++ r→Ev (fun k=>spec_keCan.l0 k t t (t.length:Int) (pre.length:Int) n l m ov tr) (safeK l (mv (!tr) t ov) (!tr)):=by
 intro r
 induction r with
 | nil =>
  intro pre e
  rw[List.append_nil] at e
  subst e
  refine Ev.step (fun k=>spec_keCan.l0.eq_2 ..) ?_
  simp only[if_neg (show ¬ (t.length:Int) < (t.length:Int) by omega)]
  refine Ev.bind (keRide_ev ov tr t (by omega) (by omega) (fun x hx=>⟨(h2 x hx).1,(h2 x hx).2.1⟩) (fun x hx=>(h2 x hx).2.2)) ?_
  dsimp only
  refine Ev.bind (keNow_ev n m l (mv (!tr) t ov) (!tr) hl hd (by rw[mv_len];exact ho)) ?_
  unfold safeK
  refine ev_eq (Ev.now _) ?_
  by_cases hz:(dgP l (mv (!tr) t ov) (!tr)).length=0
  ·
   rw[decide_eq_true hz,hz];rfl
  ·
   rw[decide_eq_false hz,beq_eq_false_iff_ne];omega
 | cons x r ih =>
  intro pre e
  have hx:=h2 x (by rw[e];simp)
  have hrd:rd t (pre.length:Int)=x:=by rw[e];exact rd_mid pre x r
  have hpl:(pre.length:Int) < (t.length:Int):=by rw[e];simp;omega
  have hwp:wrap64 ((pre.length:Int)+1)=((pre ++ [x]).length:Int):=by rw[wr_id (by omega) (by omega)];simp
  refine Ev.step (fun k=>spec_keCan.l0.eq_2 ..) ?_
  simp only[if_pos hpl,if_pos (zle pre.length),hrd,if_pos hx.1,if_pos hx.2.1,hx.2.2,bne_self_eq_false,Bool.false_eq_true,if_false,hwp]
  exact ih (pre ++ [x]) (by rw[e];simp)
theorem keCan_ev (hd:∀ d ∈ l,dOk n d=true) (hl:l.length≤1048576) {ov:List Bool} {tr:Bool} (ho:(ov.length:Int)=n) (hn:n≤8) (hm:0≤m) {t:List Int} (ht:t ∈ [] :: tripsP m ov tr):Ev (fun k=>spec_keCan.f k n l m ov tr t) (safeK l (mv (!tr) t ov) (!tr)):=by
 obtain ⟨h1,h2,h3,h4⟩:=listK hm ht
 have hn0:0≤n:=by omega
 unfold spec_keCan.f
 rw[wr_id (a:=n - 1) (by omega) (by omega)]
 simp only[if_neg (show ¬ (t.length:Int) > m by omega)]
 have e1:t.all (inB 0 (n - 1))=true:=List.all_eq_true.2 fun x hx=>by
  have:=h2 x hx
  simp only[inB,Bool.and_eq_true,decide_eq_true_eq]
  omega
 have hr:=l1Rising_ev t 0 (n - 1) (by omega)
 rw[e1,h3] at hr
 refine Ev.bind hr ?_
 refine Ev.step (fun k=>spec_keCan.j0.eq_2 ..) ?_
 simp only[Bool.and_true,Bool.not_true,Bool.false_eq_true,if_false]
 exact keCan_loop hd hl ho hn h2 h4 t [] rfl
theorem keRides_loop1 (hd:∀ d ∈ l,dOk n d=true) (hl:l.length≤1048576) {ov:List Bool} {tr:Bool} (ho:(ov.length:Int)=n) (hn:n≤8) (hm:0≤m) (ts:List (List Int)) (hts:ts.length≤1000) (hti:∀ t ∈ ts,t ∈ [] :: tripsP m ov tr):∀ (r pre acc:List (List Int)),ts=pre ++ r→acc.length+r.length≤1000→Ev (fun k=>spec_keRides.l1 k acc ts (ts.length:Int) (pre.length:Int) n l m ov tr) (acc ++ r.filter (fun t=>safeK l (mv (!tr) t ov) (!tr))):=by
 intro r
 induction r with
 | nil =>
  intro pre acc e ha
  rw[List.append_nil] at e
  subst e
  refine Ev.step (fun k=>spec_keRides.l1.eq_2 ..) ?_
  simp only[if_neg (show ¬ (ts.length:Int) < (ts.length:Int) by omega)]
  rw[List.filter_nil,List.append_nil]
  exact Ev.now _
 | cons t r ih =>
  intro pre acc e ha
  simp only[List.length_cons] at ha
  have hrd:rd_L1 ts (pre.length:Int)=t:=by rw[e];exact rdL2_midK pre t r
  have hpl:(pre.length:Int) < (ts.length:Int):=by rw[e];simp;omega
  have hwp:wrap64 ((pre.length:Int)+1)=((pre ++ [t]).length:Int):=by rw[wr_id (by omega) (by omega)];simp
  refine Ev.step (fun k=>spec_keRides.l1.eq_2 ..) ?_
  simp only[if_pos hpl,if_pos (zle pre.length),hrd,hwp]
  refine Ev.bind (keCan_ev hd hl ho hn hm (hti t (by rw[e];simp))) ?_
  rw[List.filter_cons]
  cases hq:safeK l (mv (!tr) t ov) (!tr) with
  | true =>
   simp only[if_true,if_pos (show acc.length < 5864062014805 by omega)]
   have:=ih (pre ++ [t]) (acc ++ [t]) (by rw[e];simp) (by simp;omega)
   rw[List.append_assoc] at this
   exact this
  | false =>
   simp only[Bool.false_eq_true,if_false]
   exact ih (pre ++ [t]) acc (by rw[e];simp) (by omega)
theorem keRides_loop0 (hd:∀ d ∈ l,dOk n d=true) (hl:l.length≤1048576) {ov:List Bool} {tr:Bool} (ho:(ov.length:Int)=n) (hn:n≤8) (hm:0≤m):∀ (r pre:List Bool) (acc:List Int),ov=pre ++ r→acc ++ sideP tr r pre.length=sideP tr ov 0→acc.length+r.length≤8→Ev (fun k=>spec_keRides.l0 k acc ov (ov.length:Int) (pre.length:Int) n l m ov tr) (ridesK l m ov tr):=by
 have htl:=trips_lenK m ov tr (by omega)
 intro r
 induction r with
 | nil =>
  intro pre acc e ha hal
  rw[List.append_nil] at e
  simp only[sideP,List.append_nil] at ha
  rw[e] at ha
  subst e
  simp only[List.length_nil,Nat.add_zero] at hal
  refine Ev.step (fun k=>spec_keRides.l0.eq_2 ..) ?_
  simp only[if_neg (show ¬ (ov.length:Int) < (ov.length:Int) by omega),Option.bind_some]
  have hfin:∀ ts:List (List Int),ts=[] :: tripsP m ov tr→Ev (fun k=>spec_keRides.j1 k ts n l m ov tr) (ridesK l m ov tr):=by
   intro ts e
   subst e
   refine Ev.step (fun k=>spec_keRides.j1.eq_2 ..) ?_
   have:=keRides_loop1 hd hl ho hn hm ([] :: tripsP m ov tr) (by simp;omega) (fun t ht=>ht) ([] :: tripsP m ov tr) [] [] rfl (by simp;omega)
   rw[List.nil_append] at this
   exact this
  by_cases h0:m > 0
  ·
   simp only[if_pos h0]
   have hg:=paGroups_ev m acc (by omega) acc.length 0 [] (by omega) (by omega) (by simp;omega) (by simp;omega)
   have he:begP [] ++ grpsF m (acc.drop 0) []=tripsP m ov tr:=by
    simp only[begP,List.nil_append,List.drop_zero]
    rw[ha]
    rfl
   rw[he] at hg
   refine Ev.bind hg ?_
   simp only[if_pos (show ([([]:List Int)]:List (List Int)).length+(tripsP m ov tr).length < 5864062014805 by simp;omega)]
   exact hfin _ rfl
  ·
   simp only[if_neg h0]
   have hz:tripsP m ov tr=[]:=by
    unfold tripsP
    have:m=0:=by omega
    subst this
    cases sideP tr ov 0 with
    | nil=>rfl
    | cons x r=>simp [grpsF]
   exact hfin _ (by rw[hz])
 | cons x r ih =>
  intro pre acc e ha hal
  simp only[List.length_cons] at hal
  have hrd:rdOf false ov (pre.length:Int)=x:=by rw[e];exact rdOf_mid false pre x r
  have hpl:(pre.length:Int) < (ov.length:Int):=by rw[e];simp;omega
  have hwp:wrap64 ((pre.length:Int)+1)=((pre ++ [x]).length:Int):=by rw[wr_id (by omega) (by omega)];simp
  refine Ev.step (fun k=>spec_keRides.l0.eq_2 ..) ?_
  simp only[if_pos hpl,if_pos (zle pre.length),hrd,hwp]
  cases hx:x == tr with
  | true =>
   simp only[if_true,if_pos (show acc.length < 17592186044416 by omega)]
   exact ih (pre ++ [x]) (acc ++ [(pre.length:Int)]) (by rw[e];simp) (by rw[← ha];simp[sideP,hx]) (by simp;omega)
  | false =>
   simp only[Bool.false_eq_true,if_false]
   exact ih (pre ++ [x]) acc (by rw[e];simp) (by rw[← ha];simp[sideP,hx]) (by omega)
theorem keRides_ev (hd:∀ d ∈ l,dOk n d=true) (hl:l.length≤1048576) (ov:List Bool) (tr:Bool) (ho:(ov.length:Int)=n) (hn:n≤8) (hm:0≤m):Ev (fun k=>spec_keRides.f k n l m ov tr) (ridesK l m ov tr):=keRides_loop0 hd hl ho hn hm ov [] [] rfl (by simp) (by simp;omega)
end
end Go.Proofs.Ytmfofjloklafoaa.Pure

namespace Go.Proofs.Ytmfofjloklafoaa.Pure
open Go.RowKit Go.Proofs.Ytmfofjloklafoaa.C5 Go.Proofs.Ytmfofjloklafoaa.H Go.Proofs.YtmfofjloklafoaaW.PrintWords Go.Proofs.YtmfofjloklafoaaW.PrintLast Go.Proofs.YtmfofjloklafoaaW.PrintMore
set_option linter.unusedVariables false
set_option linter.unusedSimpArgs false
structure TripsOk (n:Nat) (ok:List Bool→Bool→Prop) (tps:List Bool→Bool→List (List Int)) (cst:List Int→Int) (C M:Nat):Prop where
 n8:n≤8
 cnt:∀ ov tr,ov.length=n→(tps ov tr).length≤M
 cost:∀ ov tr,ov.length=n→∀ t ∈ tps ov tr,1≤cst t∧cst t≤(C:Int)
 tgt:∀ ov tr,ov.length=n→∀ t ∈ tps ov tr,ok (mv (!tr) t ov) (!tr)
 back:∀ ov tr,ov.length=n→ok ov tr→∀ t ∈ tps ov tr,t ∈ tps (mv (!tr) t ov) (!tr)∧mv tr t (mv (!tr) t ov)=ov
def EdgT (en:List Bool→Bool→Int) (n:Nat) (tps:List Bool→Bool→List (List Int)) (cst:List Int→Int) (u v:Int) (c:Nat):Prop:=∃ ov tr t,ov.length=n∧u=en ov tr∧t ∈ tps ov tr∧v=en (mv (!tr) t ov) (!tr)∧(c:Int)=cst t
def EdgR (en:List Bool→Bool→Int) (n:Nat) (ok:List Bool→Bool→Prop) (tps:List Bool→Bool→List (List Int)) (cst:List Int→Int) (u v:Int) (c:Nat):Prop:=∃ ov tr t,ov.length=n∧ok ov tr∧u=en ov tr∧t ∈ tps ov tr∧v=en (mv (!tr) t ov) (!tr)∧(c:Int)=cst t
def InjE (en:List Bool→Bool→Int) (n:Nat):Prop:=∀ (ov ov':List Bool) (tr tr':Bool),ov.length=n→ov'.length=n→en ov tr=en ov' tr'→ov=ov'∧tr=tr'
theorem injI {n:Nat} (h:n≤8):InjE enI n:=fun _ _ _ _ a b e=>enI_inj h a b e
theorem injS {n:Nat} (h:n≤8):InjE enS n:=fun _ _ _ _ a b e=>enS_inj h a b e
section
variable {n:Nat} {ok:List Bool→Bool→Prop} {tps:List Bool→Bool→List (List Int)} {cst:List Int→Int} {C M:Nat}
theorem way_TR (h:TripsOk n ok tps cst C M) {en:List Bool→Bool→Int} (hi:InjE en n) {ov:List Bool} {tr:Bool} (hl:ov.length=n) (ho:ok ov tr) (v:Int) (k:Nat) :
  H.Way (EdgT en n tps cst) (fun x=>x=en ov tr) v k ↔ H.Way (EdgR en n ok tps cst) (fun x=>x=en ov tr) v k:=by
 constructor
 ·
  intro hw
  have:(∃ o b,o.length=n∧ok o b∧v=en o b)∧H.Way (EdgR en n ok tps cst) (fun x=>x=en ov tr) v k:=by
   induction hw with
   | here hs=>exact ⟨⟨ov,tr,hl,ho,hs⟩,H.Way.here hs⟩
   | @on u v m c hu he ih =>
    obtain ⟨⟨o,b,h1,h2,rfl⟩,hw⟩:=ih
    obtain ⟨o',b',t,h3,e,ht,rfl,hc⟩:=he
    obtain ⟨rfl,rfl⟩:=hi _ _ _ _ h1 h3 e
    exact ⟨⟨_,_,by rw[mv_len];exact h1,h.tgt _ _ h1 t ht,rfl⟩,H.Way.on hw ⟨_,_,t,h1,h2,rfl,ht,rfl,hc⟩⟩
  exact this.2
 ·
  refine H.Way.imp_ (fun u v c he=>?_) (fun s hs=>hs)
  obtain ⟨o,b,t,h1,_,h3,h4,h5,h6⟩:=he
  exact ⟨o,b,t,h1,h3,h4,h5,h6⟩
theorem way_conv {en en':List Bool→Bool→Int} (hi:InjE en n) (ov ov':List Bool) (tr tr':Bool) (hl:ov.length=n) (hl':ov'.length=n) (k:Nat) (hw:H.Way (EdgR en n ok tps cst) (fun v=>v=en ov tr) (en ov' tr') k):H.Way (EdgR en' n ok tps cst) (fun v=>v=en' ov tr) (en' ov' tr') k:=by
 obtain ⟨v',⟨o,b,ho,e,rfl⟩,hw'⟩:=way_rel (E':=EdgR en' n ok tps cst) (S':=fun v=>v=en' ov tr) (fun u u'=>∃ ov tr,ov.length=n∧u=en ov tr∧u'=en' ov tr) (fun s hs=>⟨en' ov tr,rfl,ov,tr,hl,hs,rfl⟩) (by
  rintro u u' v c ⟨o,b,ho,rfl,rfl⟩ ⟨o2,b2,t,ho2,hk,e,ht,rfl,hc⟩
  obtain ⟨rfl,rfl⟩:=hi _ _ _ _ ho ho2 e
  exact ⟨_,⟨o,b,t,ho,hk,rfl,ht,rfl,hc⟩,_,_,by rw[mv_len];exact ho,rfl,rfl⟩) hw
 obtain ⟨rfl,rfl⟩:=hi _ _ _ _ hl' ho e
 exact hw'
theorem way_ISR (h:TripsOk n ok tps cst C M) (ov ov':List Bool) (tr tr':Bool) (hl:ov.length=n) (hl':ov'.length=n) (k:Nat) :
  H.Way (EdgR enS n ok tps cst) (fun v=>v=enS ov tr) (enS ov' tr') k ↔ H.Way (EdgR enI n ok tps cst) (fun v=>v=enI ov tr) (enI ov' tr') k :=
 ⟨way_conv (injS h.n8) ov ov' tr tr' hl hl' k,way_conv (injI h.n8) ov ov' tr tr' hl hl' k⟩
theorem edgT_bounded (h:TripsOk n ok tps cst C M) (N:Nat) (hN:(N:Int)=2 ^ (n+1)) (s:Int) (hs:0≤s∧s < (N:Int)):Bounded (EdgT enS n tps cst) (fun v=>v=s) N:=by
 refine ⟨?_,fun v hv=>by subst hv;exact hs⟩
 rintro u v c ⟨ov,tr,t,hl,rfl,ht,rfl,hc⟩
 have h1:=en_facts h.n8 ov tr hl
 have h2:=en_facts h.n8 (mv (!tr) t ov) (!tr) (by rw[mv_len];exact hl)
 have h3:=h.cost ov tr hl t ht
 omega
def ndT (tps:List Bool→Bool→List (List Int)) (cst:List Int→Int) (ov:List Bool) (tr:Bool):List (Int × Int):=(tps ov tr).map fun t=>(enS (mv (!tr) t ov) (!tr),cst t)
theorem ndT_iff (h:n≤8) (ov:List Bool) (tr:Bool) (hl:ov.length=n) (v:Int) (c:Nat):EdgT enS n tps cst (enS ov tr) v c ↔ (v,(c:Int)) ∈ ndT tps cst ov tr:=by
 unfold ndT
 rw[List.mem_map]
 constructor
 ·
  rintro ⟨ov',tr',t,hl',e,ht,rfl,hc⟩
  obtain ⟨rfl,rfl⟩:=enS_inj h hl hl' e
  exact ⟨t,ht,by rw[hc]⟩
 ·
  rintro ⟨t,ht,e⟩
  obtain ⟨e1,e2⟩:=Prod.mk.inj e
  exact ⟨ov,tr,t,hl,rfl,ht,e1.symm,e2.symm⟩
def esT (n:Nat) (tps:List Bool→Bool→List (List Int)) (cst:List Int→Int) (u:Int):List Edg:=(tps (dcI n u).1 (dcI n u).2).map fun t=>(enI (mv (!(dcI n u).2) t (dcI n u).1) (!(dcI n u).2),cst t,t)
theorem pow_natK (n:Nat):((2 ^ (n+1):Nat):Int)=2 ^ (n+1):=by simp
theorem pow_leK {n:Nat} (h:n≤8):0 < 2 ^ (n+1)∧2 ^ (n+1)≤512:=by
 have:2 ^ (n+1)≤2 ^ 9:=Nat.pow_le_pow_right (by omega) (by omega)
 exact ⟨Nat.pow_pos (by omega),this⟩
theorem ev_allK {α:Type} (f:Nat→Nat→Option α) (r:Nat→α):∀ (N:Nat),(∀ u,u < N→Ev (fun k=>f k u) (r u))→∃ K,∀ k,K≤k→∀ u,u < N→f k u=some (r u):=by
 intro N
 induction N with
 | zero=>intro _;exact ⟨0,fun k _ u hu=>absurd hu (Nat.not_lt_zero _)⟩
 | succ N ih =>
  intro h
  obtain ⟨K1,h1⟩:=ih (fun u hu=>h u (by omega))
  obtain ⟨K2,h2⟩:=h N (by omega)
  refine ⟨max K1 K2,fun k hk u hu=>?_⟩
  by_cases e:u=N
  ·
   subst e;exact h2 k (by omega)
  ·
   exact h1 k (by omega) u (by omega)
theorem from_t (h:TripsOk n ok tps cst C M) (hC:C≤4000) (hM:M≤1000) (out:Nat→Int→Option (List Edg)) (hout:∀ u,0≤u→u < 2 ^ (n+1)→Ev (fun k=>out k u) (esT n tps cst u)) (st:Int) (s0:0≤st) (s1:st < 2 ^ (n+1)) :
  ∃ r,Ev (fun k=>bkD (out k) k 0 (List.replicate (2 ^ (n+1)) (-1)) [[st]]) r∧r.length=2 ^ (n+1)∧∀ v,0≤v→v < 2 ^ (n+1)→IsLeast (H.Way (EdgT enI n tps cst) (fun v=>v=st) v) (rd r v):=by
 have hn:=h.n8
 have hp2:=(pow_leK hn).2
 have hpi:=pow_natK n
 obtain ⟨N,hN⟩:∃ N,N=2 ^ (n+1):=⟨_,rfl⟩
 rw[← hN] at hp2 hpi ⊢
 rw[← hpi] at s1 hout ⊢
 obtain ⟨o1,ho1⟩:∃ o1:Int→Option (List Edg),o1=fun u=>if 0≤u∧u < (N:Int) then some (esT n tps cst u) else none:=⟨_,rfl⟩
 have ho1':∀ u,0≤u→u < (N:Int)→o1 u=some (esT n tps cst u):=fun u u0 u1=>by rw[ho1];exact if_pos ⟨u0,u1⟩
 have hmem:∀ u,0≤u→u < (N:Int)→∀ v (c:Nat),(∃ e ∈ esT n tps cst u,e.1=v∧e.2.1=(c:Int)) ↔ EdgT enI n tps cst u v c:=by
  intro u u0 u1 v c
  have hd:=dc_facts hn u u0 (by rw[← hpi];exact u1)
  unfold esT
  generalize hst:dcI n u=sst at hd ⊢
  obtain ⟨ov,tr⟩:=sst
  dsimp only at hd ⊢
  constructor
  ·
   rintro ⟨e,he,rfl,hc⟩
   obtain ⟨t,ht,rfl⟩:=List.mem_map.1 he
   exact ⟨ov,tr,t,hd.1,hd.2.1.symm,ht,rfl,hc.symm⟩
  ·
   rintro ⟨ov2,tr2,t,hl2,e,ht,rfl,hc⟩
   obtain ⟨rfl,rfl⟩:=enI_inj hn hd.1 hl2 (hd.2.1.trans e)
   exact ⟨_,List.mem_map.2 ⟨t,ht,rfl⟩,rfl,hc.symm⟩
 have hok:Okay o1 N C M:=by
  intro u u0 u1
  have hd:=dc_facts hn u u0 (by rw[← hpi];exact u1)
  refine ⟨_,ho1' u u0 u1,?_,fun e he=>?_⟩
  ·
   unfold esT
   rw[List.length_map]
   exact h.cnt _ _ hd.1
  ·
   unfold esT at he
   obtain ⟨t,ht,rfl⟩:=List.mem_map.1 he
   have h2:=en_facts hn (mv (!(dcI n u).2) t (dcI n u).1) (!(dcI n u).2) (by rw[mv_len];exact hd.1)
   have h3:=h.cost _ _ hd.1 t ht
   exact ⟨h2.1,by rw[hpi];exact h2.2.1,h3.1,h3.2⟩
 have hMN:M * N≤1000 * 512:=Nat.mul_le_mul hM hp2
 have hCN:C * N≤4000 * 512:=Nat.mul_le_mul hC hp2
 obtain ⟨K,r,r1,r2,r3⟩:=from_ok (starts:=[st]) hok (by omega) (by unfold bkLim;omega) (by simp[bkLim];omega) (by simp[bkLim];omega) (by
  intro s hs
  have:s=st:=by simpa using hs
  subst this
  exact ⟨s0,s1⟩)
 obtain ⟨K2,hK2⟩:=ev_allK (fun k u=>out k ((u:Nat):Int)) (fun u=>esT n tps cst ((u:Nat):Int)) N (fun u hu=>hout u (by omega) (by omega))
 refine ⟨r,⟨max K K2+1,fun k hk=>?_⟩,r2,fun v v0 v1=>(r3 v v0 v1).iff (fun n=>?_)⟩
 ·
  obtain ⟨k,rfl⟩:∃ j,k=j+1:=⟨k - 1,by omega⟩
  have hr:=r1 k (by omega)
  unfold fromF at hr
  rw[if_pos (by omega),Int.toNat_natCast] at hr
  refine bkD_up (o1:=o1) (o2:=out (k+1)) (fun s es hs=>?_) k 0 _ _ r hr
  rw[ho1] at hs
  dsimp only at hs
  split at hs
  ·
   rename_i hr2
   have:=hK2 (k+1) (by omega) s.toNat (by omega)
   rw[show ((s.toNat:Nat):Int)=s from Int.toNat_of_nonneg hr2.1] at this
   rw[this]
   exact hs
  ·
   cases hs
 ·
  constructor
  ·
   refine H.Way.imp_ (fun u v c he=>?_) (fun s hs=>by simpa using hs)
   obtain ⟨u0,u1,es,e,he1,he2,he3,he4⟩:=he
   rw[ho1' u u0 u1] at he1
   obtain rfl:=Option.some.inj he1
   exact (hmem u u0 u1 v c).1 ⟨e,he2,he3,he4⟩
  ·
   refine H.Way.imp_ (fun u v c he=>?_) (fun s hs=>by simpa using hs)
   have hub:0≤u∧u < (N:Int):=by
    obtain ⟨ov,tr,t,hl,rfl,_⟩:=he
    have:=en_facts hn ov tr hl
    exact ⟨this.1,by rw[hpi];exact this.2.1⟩
   obtain ⟨e,e1,e2,e3⟩:=(hmem u hub.1 hub.2 v c).2 he
   exact ⟨hub.1,hub.2,_,e,ho1' u hub.1 hub.2,e1,e2,e3⟩
end
theorem last_enK {n:Nat} (h:n≤8):impl_last.f (n:Int)=some (enI (List.replicate n true) true)∧enI (List.replicate n false) false=0:=by
 have:n=0∨n=1∨n=2∨n=3∨n=4∨n=5∨n=6∨n=7∨n=8:=by omega
 rcases this with rfl|rfl|rfl|rfl|rfl|rfl|rfl|rfl|rfl <;> exact ⟨by decide +kernel,by decide +kernel⟩
end Go.Proofs.Ytmfofjloklafoaa.Pure

namespace Go.Proofs.Ytmfofjloklafoaa.Pure
open Go.RowKit Go.Proofs.Ytmfofjloklafoaa.C5 Go.Proofs.Ytmfofjloklafoaa.H Go.Proofs.YtmfofjloklafoaaW.PrintWords Go.Proofs.YtmfofjloklafoaaW.PrintLast Go.Proofs.YtmfofjloklafoaaW.PrintMore
set_option linter.unusedVariables false
set_option linter.unusedSimpArgs false
theorem shl2K {n:Nat} (h:n≤8):shl .i64 2 (n:Int)=((2 ^ (n+1):Nat):Int):=by
 have:n=0∨n=1∨n=2∨n=3∨n=4∨n=5∨n=6∨n=7∨n=8:=by omega
 rcases this with rfl|rfl|rfl|rfl|rfl|rfl|rfl|rfl|rfl <;> decide +kernel
theorem rd_repK (n:Nat) (b:Bool) (x:Int) (h0:0≤x) (h1:x < (n:Int)):rdOf false (List.replicate n b) x=b:=by
 unfold rdOf
 rw[List.getD_eq_getElem?_getD,List.getElem?_replicate,if_pos (by omega)]
 rfl
section
variable {nn:Nat} {m:Int} {l:List (List Int)}
theorem safe_all (hd:∀ d ∈ l,dOk (nn:Int) d=true) (b:Bool):safeK l (List.replicate nn b) b=true:=by
 unfold safeK dgP
 rw[decide_eq_true_eq,List.length_eq_zero_iff,List.filter_eq_nil_iff]
 intro d hm
 obtain ⟨x,y,rfl,h0,h1,h2⟩:=dOk_two (hd d hm)
 unfold dgB
 rw[show rd [x,y] 0=x from rfl,rd_repK nn b x h0 (by omega)]
 simp
theorem keep_trips (hn:nn≤8) (l:List (List Int)) (m:Int):TripsOk nn (fun ov tr=>safeK l ov tr=true) (ridesK l m) (fun _=>1) 1 257:=by
 refine ⟨hn,fun ov tr ho=>?_,fun _ _ _ _ _=>⟨by omega,by omega⟩,fun ov tr ho t ht=>?_,fun ov tr ho hs t ht=>?_⟩
 ·
  have h1:=trips_lenK m ov tr (by omega)
  have h2:=List.length_filter_le (fun t=>safeK l (mv (!tr) t ov) (!tr)) ([] :: tripsP m ov tr)
  simp only[List.length_cons] at h2
  unfold ridesK
  omega
 ·
  exact (List.mem_filter.1 ht).2
 ·
  obtain ⟨h1,h2⟩:=List.mem_filter.1 ht
  rcases List.mem_cons.1 h1 with rfl|h1
  ·
   refine ⟨List.mem_filter.2 ⟨List.mem_cons_self,?_⟩,rfl⟩
   show safeK l (mv (!!tr) [] (mv (!tr) [] ov)) (!!tr)=true
   rw[Bool.not_not]
   exact hs
  ·
   refine ⟨List.mem_filter.2 ⟨List.mem_cons_of_mem _ (trip_back h1),?_⟩,mv_back h1⟩
   show safeK l (mv (!!tr) t (mv (!tr) t ov)) (!!tr)=true
   rw[Bool.not_not,mv_back h1]
   exact hs
theorem rideK_facts (hm:0≤m) {ov:List Bool} {tr:Bool} {t:List Int} (ht:t ∈ ridesK l m ov tr):(∀ x ∈ t,0≤x∧x < (ov.length:Int)∧rdOf false ov x=tr)∧t.length≤ov.length:=by
 have h:=listK hm (List.mem_filter.1 ht).1
 exact ⟨h.2.1,h.2.2.2⟩
theorem keepStep_ev (hn:nn≤8) (hm:0≤m) {ov:List Bool} {tr:Bool} (ho:ov.length=nn) (s:List Edg) {t:List Int} (ht:t ∈ ridesK l m ov tr):Ev (fun k=>keepStep k ov tr s t) (s ++ [(enI (mv (!tr) t ov) (!tr),1,t)]):=by
 obtain ⟨h2,h4⟩:=rideK_facts hm ht
 unfold keepStep
 refine Ev.bind (moved_ev ov tr t (by omega) (by omega) (fun x hx=>⟨(h2 x hx).1,(h2 x hx).2.1⟩)) ?_
 dsimp only
 refine Ev.bind (code_ev (n:=nn) hn (mv (!tr) t ov) (!tr) (by rw[mv_len];exact ho)) ?_
 exact Ev.now _
theorem keepOFold_ev (hn:nn≤8) (hm:0≤m) {ov:List Bool} {tr:Bool} (ho:ov.length=nn):∀ (gs:List (List Int)) (s:List Edg),(∀ t ∈ gs,t ∈ ridesK l m ov tr)→Ev (fun k=>gs.foldlM (keepStep k ov tr) s) (s ++ gs.map fun t=>(enI (mv (!tr) t ov) (!tr),1,t)):=by
 intro gs
 induction gs with
 | nil=>intro s _;simp only[List.foldlM_nil,List.map_nil,List.append_nil];exact Ev.now _
 | cons t gs ih =>
  intro s hg
  simp only[List.foldlM_cons,List.map_cons]
  have:=ih (s ++ [(enI (mv (!tr) t ov) (!tr),1,t)]) (fun x hx=>hg x (by simp[hx]))
  rw[List.append_assoc] at this
  exact Ev.bind (keepStep_ev hn hm ho s (hg t (by simp))) this
theorem keepOut_ev (hd:∀ d ∈ l,dOk (nn:Int) d=true) (hl:l.length≤1048576) (hn:nn≤8) (hm:0≤m) (u:Int) (u0:0≤u) (u1:u < 2 ^ (nn+1)):Ev (fun k=>keepOut k (nn:Int) l m u) (esT nn (ridesK l m) (fun _=>1) u):=by
 have hT:=keep_trips hn l m
 have hds:=dc_facts hn u u0 u1
 unfold keepOut
 refine Ev.bind (stateOf_ev hn u u0 u1) ?_
 unfold esT
 generalize dcI nn u=st at hds ⊢
 obtain ⟨ov,tr⟩:=st
 dsimp only at hds ⊢
 refine Ev.bind (keepRides_ev hd hl ov tr (by rw[hds.1]) (by omega) hm) ?_
 have hc:=hT.cnt ov tr hds.1
 simp only[if_pos (show (ridesK l m ov tr).length≤1048576 by omega)]
 have:=keepOFold_ev hn hm hds.1 (ridesK l m ov tr) [] (fun t ht=>ht)
 simp only[List.nil_append] at this
 exact this
theorem keepFrom (hd:∀ d ∈ l,dOk (nn:Int) d=true) (hl:l.length≤1048576) (hn:nn≤8) (hm:0≤m) (st:Int) (s0:0≤st) (s1:st < 2 ^ (nn+1)):∃ r,Ev (fun k=>bkD (keepOut k (nn:Int) l m) k 0 (List.replicate (2 ^ (nn+1)) (-1)) [[st]]) r∧r.length=2 ^ (nn+1)∧∀ v,0≤v→v < 2 ^ (nn+1)→IsLeast (H.Way (EdgT enI nn (ridesK l m) (fun _=>1)) (fun v=>v=st) v) (rd r v) :=
 from_t (keep_trips hn l m) (by omega) (by omega) (fun k u=>keepOut k (nn:Int) l m u) (fun u u0 u1=>keepOut_ev hd hl hn hm u u0 u1) st s0 s1
theorem keStart_val (hn:nn≤8) (l:List (List Int)) (m:Int):spec_keStart.f (nn:Int) l m=some (List.replicate nn false,false):=by
 unfold spec_keStart.f
 rw[if_pos (by omega),Int.toNat_natCast,if_pos (by omega)]
theorem keIndex_ev (hn:nn≤8) (ov:List Bool) (t:Bool) (ho:ov.length=nn):Ev (fun k=>spec_keIndex.f k ov t) (enS ov t):=by
 unfold spec_keIndex.f
 exact Ev.bind (seIndex_ev hn ov t ho) (Ev.now _)
theorem keBank_ev (hn:nn≤8) (u:Int) (h0:0≤u) (h1:u < 2 ^ (nn+1)):Ev (fun k=>spec_keBank.f k u (nn:Int)) (dcS nn u):=by
 unfold spec_keBank.f
 exact Ev.bind (seState_ev hn u h0 h1) (Ev.now _)
theorem keEnd_loop (hn:nn≤8) (l:List (List Int)) (m:Int):∀ (j i:Nat),i+j=nn→Ev (fun k=>spec_keEnd.l0 k (i:Int) (nn:Int) l m (List.replicate i true) true) (List.replicate nn true,true):=by
 intro j
 induction j with
 | zero =>
  intro i e
  obtain rfl:i=nn:=by omega
  refine Ev.step (fun k=>spec_keEnd.l0.eq_2 ..) ?_
  simp only[if_neg (show ¬ (i:Int) < (i:Int) by omega)]
  exact Ev.now _
 | succ j ih =>
  intro i e
  refine Ev.step (fun k=>spec_keEnd.l0.eq_2 ..) ?_
  have hw:wrap64 ((i:Int)+1)=((i+1:Nat):Int):=by rw[wr_id (by omega) (by omega)];rfl
  have hr:List.replicate i true ++ [true]=List.replicate (i+1) true:=by rw[List.replicate_succ']
  simp only[if_pos (show (i:Int) < (nn:Int) by omega),List.length_replicate,if_pos (show i < 140737488355328 by omega),hw,hr]
  exact ih (i+1) (by omega)
theorem keEnd_ev (hn:nn≤8) (l:List (List Int)) (m:Int):Ev (fun k=>spec_keEnd.f k (nn:Int) l m) (List.replicate nn true,true):=keEnd_loop hn l m nn 0 (by omega)
theorem keFar_l2 (hn:nn≤8) (hm:0≤m) (N:Nat) (hN:(N:Int)=2 ^ (nn+1)) (hN2:N≤512) (u b:Int) (u0:0≤u) (u1:u < (N:Int)) (b0:0≤b) (b1:b≤1000) (ov:List Bool) (tr:Bool) (ho:ov.length=nn) (idx:Nat) (ts:List (List Int)) (hts:ts.length≤1000) (hti:∀ t ∈ ts,t ∈ ridesK l m ov tr) :
  ∀ (r pre:List (List Int)) (far ways q:List Int),ts=pre ++ r→far.length=N→ways.length=N→idx < q.length→rd q (idx:Int)=u→rd far u=b→(∀ v,0≤v→v < (N:Int)→rd far v≤1001)→q.length+r.length≤1000000 →
   ∃ ways',ways'.length=N∧∀ (R:List Int × List Int),Ev (fun k=>spec_keFar.l1 k (bfRelax b (r.map fun t=>enS (mv (!tr) t ov) (!tr)) far q).1 ways' (bfRelax b (r.map fun t=>enS (mv (!tr) t ov) (!tr)) far q).2 (wrap64 ((idx:Int)+1)) (nn:Int) l m) R →
    Ev (fun k=>spec_keFar.l2 k far ways q (idx:Int) ts (ts.length:Int) (pre.length:Int) (nn:Int) l m ov tr) R:=by
 intro r
 induction r with
 | nil =>
  intro pre far ways q e hfl hwl hi hq hb hle hql
  rw[List.append_nil] at e
  subst e
  refine ⟨ways,hwl,fun R hR=>?_⟩
  refine Ev.step (fun k=>spec_keFar.l2.eq_2 ..) ?_
  simp only[if_neg (show ¬ (ts.length:Int) < (ts.length:Int) by omega)]
  exact hR
 | cons t r ih =>
  intro pre far ways q e hfl hwl hi hq hb hle hql
  simp only[List.length_cons] at hql
  have ht:=hti t (by rw[e];simp)
  obtain ⟨h2,h4⟩:=rideK_facts hm ht
  have hrd:rd_L1 ts (pre.length:Int)=t:=by rw[e];exact rdL2_midK pre t r
  have hpl:(pre.length:Int) < (ts.length:Int):=by rw[e];simp;omega
  have hwp:wrap64 ((pre.length:Int)+1)=((pre ++ [t]).length:Int):=by rw[wr_id (by omega) (by omega)];simp
  have hen:=en_facts hn (mv (!tr) t ov) (!tr) (by rw[mv_len];exact ho)
  simp only[List.map_cons,bfRelax]
  have hride:=keRide_ev ov tr t (by omega) (by omega) (fun x hx=>⟨(h2 x hx).1,(h2 x hx).2.1⟩) (fun x hx=>(h2 x hx).2.2)
  have hidx:=keIndex_ev hn (mv (!tr) t ov) (!tr) (by rw[mv_len];exact ho)
  generalize hv:enS (mv (!tr) t ov) (!tr)=v at hen hidx ⊢
  have v0:=hen.2.2.2.1
  have v1:v < (N:Int):=by rw[hN];exact hen.2.2.2.2.1
  have hwb:wrap64 (b+1)=b+1:=wr_id (by omega) (by omega)
  by_cases hf:rd far v < 0
  ·
   rw[if_pos hf]
   have hne:u≠v:=by rintro rfl;omega
   have hs:=fun w (hw:0≤w)=>rd_set far v w (b+1) v0 (by omega) hw
   have hqi:rd (q ++ [v]) (idx:Int)=u:=by
    rw[← hq]
    simp[rd,List.getElem?_append_left hi]
   obtain ⟨ways',w1,w2⟩:=ih (pre ++ [t]) (far.set v.toNat (b+1)) (ways.set v.toNat (wrap64 (rd ways v+rd ways u))) (q ++ [v]) (by rw[e];simp) (by simpa using hfl) (by simpa using hwl) (by simp;omega) hqi (by rw[hs u u0,if_neg hne];exact hb) (fun w w0 w1=>by
    rw[hs w w0]
    split
    ·
     omega
    ·
     exact hle w w0 w1) (by simp;omega)
   refine ⟨ways',w1,fun R hR=>?_⟩
   refine Ev.step (fun k=>spec_keFar.l2.eq_2 ..) ?_
   simp only[if_pos hpl,if_pos (zle pre.length),hrd]
   refine Ev.bind hride ?_
   dsimp only
   refine Ev.bind hidx ?_
   simp only[if_pos v0,if_pos (show v < (far.length:Int) by omega),if_pos hf,if_pos (show 0≤(idx:Int) by omega),if_pos (show (idx:Int) < (q.length:Int) by omega),hq,if_pos u0,if_pos (show u < (far.length:Int) by omega),Option.bind_some,if_pos (show q.length < 17592186044416 by omega),if_pos (show (idx:Int) < ((q ++ [v]).length:Int) by simp;omega),hqi,hb,hwb]
   have e1:rd (far.set v.toNat (b+1)) v=b+1:=by rw[hs v v0,if_pos rfl]
   have e2:rd (far.set v.toNat (b+1)) u=b:=by rw[hs u u0,if_neg hne];exact hb
   simp only[e1,e2,hwb,if_true,if_pos (show v < (ways.length:Int) by omega),if_pos (show u < (ways.length:Int) by omega),hwp]
   exact w2 R hR
  ·
   rw[if_neg hf]
   by_cases hg:rd far v=b+1
   ·
    obtain ⟨ways',w1,w2⟩:=ih (pre ++ [t]) far (ways.set v.toNat (wrap64 (rd ways v+rd ways u))) q (by rw[e];simp) hfl (by simpa using hwl) hi hq hb hle (by omega)
    refine ⟨ways',w1,fun R hR=>?_⟩
    refine Ev.step (fun k=>spec_keFar.l2.eq_2 ..) ?_
    simp only[if_pos hpl,if_pos (zle pre.length),hrd]
    refine Ev.bind hride ?_
    dsimp only
    refine Ev.bind hidx ?_
    simp only[if_pos v0,if_pos (show v < (far.length:Int) by omega),if_neg hf,if_pos (show 0≤(idx:Int) by omega),if_pos (show (idx:Int) < (q.length:Int) by omega),hq,if_pos u0,if_pos (show u < (far.length:Int) by omega),hb,hwb,if_pos hg,if_pos (show v < (ways.length:Int) by omega),if_pos (show u < (ways.length:Int) by omega),hwp]
    exact w2 R hR
   ·
    obtain ⟨ways',w1,w2⟩:=ih (pre ++ [t]) far ways q (by rw[e];simp) hfl hwl hi hq hb hle (by omega)
    refine ⟨ways',w1,fun R hR=>?_⟩
    refine Ev.step (fun k=>spec_keFar.l2.eq_2 ..) ?_
    simp only[if_pos hpl,if_pos (zle pre.length),hrd]
    refine Ev.bind hride ?_
    dsimp only
    refine Ev.bind hidx ?_
    simp only[if_pos v0,if_pos (show v < (far.length:Int) by omega),if_neg hf,if_pos (show 0≤(idx:Int) by omega),if_pos (show (idx:Int) < (q.length:Int) by omega),hq,if_pos u0,if_pos (show u < (far.length:Int) by omega),hb,hwb,if_neg hg,hwp]
    exact w2 R hR
theorem bf_keepK (b B:Int) (n:Nat) (hb:b+1≤B):∀ (L far q:List Int),far.length=n→(∀ v ∈ L,0≤v∧v < (n:Int))→(∀ v,0≤v→v < (n:Int)→rd far v≤B) →
  (∀ v,0≤v→v < (n:Int)→rd (bfRelax b L far q).1 v≤B):=by
 intro L
 induction L with
 | nil=>intro far q _ _ h;exact h
 | cons x L ih =>
  intro far q hl hL h
  obtain ⟨x0,x1⟩:=hL x (by simp)
  simp only[bfRelax]
  split
  ·
   have hs:=fun v (hv:0≤v)=>rd_set far x v (b+1) x0 (by omega) hv
   exact ih (far.set x.toNat (b+1)) (q ++ [x]) (by simpa using hl) (fun v hv=>hL v (by simp[hv])) (fun v v0 v1=>by
    rw[hs v v0]
    split
    ·
     exact hb
    ·
     exact h v v0 v1)
  ·
   exact ih far q hl (fun v hv=>hL v (by simp[hv])) h
theorem keFar_l1 (hd:∀ d ∈ l,dOk (nn:Int) d=true) (hl:l.length≤1048576) (hn:nn≤8) (hm:0≤m) (N:Nat) (hN:(N:Int)=2 ^ (nn+1)) (hN2:N≤512) (s:Int) (hs:0≤s∧s < (N:Int)) :
  ∀ (g:Nat) (far ways pre todo:List Int),N - pre.length≤g→ways.length=N→QInv (EdgT enS nn (ridesK l m) (fun _=>1)) (fun v=>v=s) N far pre todo→(∀ v,0≤v→v < (N:Int)→rd far v≤pre.length) →
   ∃ far' ways',Ev (fun k=>spec_keFar.l1 k far ways (pre ++ todo) (pre.length:Int) (nn:Int) l m) (far',ways')∧far'.length=N∧∀ v,0≤v→v < (N:Int)→IsLeast (H.Way (EdgT enS nn (ridesK l m) (fun _=>1)) (fun v=>v=s) v) (rd far' v):=by
 have hT:=keep_trips hn l m
 have hB:=edgT_bounded hT N hN s hs
 intro g
 induction g with
 | zero =>
  intro far ways pre todo hg hwl hI hle
  have hlen:=nodup_len (n:=N) hI.nodup (fun v hv=>⟨(hI.inn v hv).1,(hI.inn v hv).2.1⟩)
  have:todo=[]:=by
   cases todo with
   | nil=>rfl
   | cons x r=>simp at hlen;omega
  subst this
  refine ⟨far,ways,?_,hI.len,hI.fin hB⟩
  refine Ev.step (fun k=>spec_keFar.l1.eq_2 ..) ?_
  simp only[List.append_nil,if_neg (show ¬ (pre.length:Int) < (pre.length:Int) by omega)]
  exact Ev.now _
 | succ g ih =>
  intro far ways pre todo hg hwl hI hle
  have hlen:=nodup_len (n:=N) hI.nodup (fun v hv=>⟨(hI.inn v hv).1,(hI.inn v hv).2.1⟩)
  cases todo with
  | nil =>
   refine ⟨far,ways,?_,hI.len,hI.fin hB⟩
   refine Ev.step (fun k=>spec_keFar.l1.eq_2 ..) ?_
   simp only[List.append_nil,if_neg (show ¬ (pre.length:Int) < (pre.length:Int) by omega)]
   exact Ev.now _
  | cons u todo =>
   obtain ⟨u0,u1,mu,hmu,_⟩:=hI.inn u (by simp)
   have hu1:u < 2 ^ (nn+1):=by rw[← hN];exact u1
   have hds:=dc_facts hn u u0 hu1
   have hst:=keBank_ev hn u u0 hu1
   obtain ⟨ov,tr,hdq⟩:∃ ov tr,dcS nn u=(ov,tr):=⟨_,_,rfl⟩
   rw[hdq] at hds hst
   simp only[List.length_append,List.length_cons] at hlen
   have hub:=hle _ u0 u1
   have hL2:∀ v ∈ (ridesK l m ov tr).map (fun t=>enS (mv (!tr) t ov) (!tr)),0≤v∧v < (N:Int):=fun v hv=>by
    obtain ⟨t,ht,rfl⟩:=List.mem_map.1 hv
    have:=en_facts hn (mv (!tr) t ov) (!tr) (by rw[mv_len];exact hds.2.2.1)
    exact ⟨this.2.2.2.1,by rw[hN];exact this.2.2.2.2.1⟩
   obtain ⟨todo',e1,hI'⟩:=hI.step hB ((ridesK l m ov tr).map fun t=>enS (mv (!tr) t ov) (!tr)) (fun v c=>by
    rw[← hds.2.2.2]
    constructor
    ·
     intro hc
     have hm2:=(ndT_iff hn ov tr hds.2.2.1 v c).1 hc
     unfold ndT at hm2
     obtain ⟨t,ht,e⟩:=List.mem_map.1 hm2
     obtain ⟨e3,e4⟩:=Prod.mk.inj e
     have e5:(1:Int)=(c:Int):=e4
     exact ⟨by omega,List.mem_map.2 ⟨t,ht,e3⟩⟩
    ·
     rintro ⟨rfl,hv⟩
     obtain ⟨t,ht,rfl⟩:=List.mem_map.1 hv
     exact ⟨ov,tr,t,hds.2.2.1,rfl,ht,rfl,rfl⟩) hL2
   have hcl:=hT.cnt ov tr hds.2.2.1
   have hk:=bf_keepK (rd far u) ((pre.length:Int)+1) N (by omega) _ far (pre ++ u :: todo) hI.len hL2 (fun v v0 v1=>by have:=hle v v0 v1;omega)
   obtain ⟨ways2,w1,w2⟩:=keFar_l2 hn hm N hN hN2 u (rd far u) u0 u1 (by omega) (by omega) ov tr hds.2.2.1 pre.length (ridesK l m ov tr) (by omega) (fun t ht=>ht) (ridesK l m ov tr) [] far ways (pre ++ u :: todo) rfl hI.len hwl (by simp) (rd_mid pre u todo) rfl (fun v v0 v1=>by have:=hle v v0 v1;omega) (by simp;omega)
   obtain ⟨far',ways',h1,h2,h3⟩:=ih _ ways2 (pre ++ [u]) todo' (by simp;omega) w1 hI' (fun v v0 v1=>by have:=hk v v0 v1;simp;omega)
   refine ⟨far',ways',?_,h2,h3⟩
   refine Ev.step (fun k=>spec_keFar.l1.eq_2 ..) ?_
   rw[rd_mid]
   simp only[if_pos (lt_mid pre u todo),if_pos (zle pre.length)]
   refine Ev.bind hst ?_
   dsimp only
   refine Ev.bind (keRides_ev hd hl ov tr (by rw[hds.2.2.1]) (by omega) hm) ?_
   refine w2 (far',ways') ?_
   rw[e1,wr_mid pre u todo (by simp;omega)]
   exact h1
theorem keFar_fill (n:Int) (ways:List Int) (R:List Int × List Int):∀ (j:Nat) (pre:List Int),(∀ v ∈ pre,v = -1)→pre.length+j≤1000→Ev (fun k=>(spec_keEnd.f k n l m).bind fun bt269=>((spec_keIndex.f k bt269.1 bt269.2).bind fun t273=>(if 0≤t273 then (if t273 < ((List.replicate (pre.length+j) (-1:Int)).length:Int) then (if t273 < (ways.length:Int) then (spec_keFar.l1 k ((List.replicate (pre.length+j) (-1:Int)).set (t273:Int).toNat 0) (ways.set (t273:Int).toNat 1) (([t273]:List Int)) 0 n l m) else (none)) else (none)) else (none)))) R →
  Ev (fun k=>spec_keFar.l0 k (pre ++ List.replicate j 0) ways ((pre.length+j:Nat):Int) (pre.length:Int) n l m) R:=by
 intro j
 induction j with
 | zero =>
  intro pre hp hl h
  have e:pre=List.replicate (pre.length+0) (-1):=List.eq_replicate_iff.2 ⟨by simp,hp⟩
  refine Ev.step (fun k=>spec_keFar.l0.eq_2 ..) ?_
  rw[show pre ++ List.replicate 0 0=pre by simp]
  rw[← e] at h
  simp only[if_neg (show ¬ (pre.length:Int) < ((pre.length+0:Nat):Int) by omega)]
  exact h
 | succ j ih =>
  intro pre hp hl h
  refine Ev.step (fun k=>spec_keFar.l0.eq_2 ..) ?_
  rw[List.replicate_succ,set_mid,wr_id (a:=(pre.length:Int)+1) (by omega) (by omega)]
  simp only[if_pos (show (pre.length:Int) < ((pre.length+(j+1):Nat):Int) by omega),if_pos (zle pre.length),if_pos (lt_mid pre (0:Int) (List.replicate j 0))]
  rw[app_mid]
  have:=ih (pre ++ [-1]) (fun v hv=>by
   rcases List.mem_append.1 hv with hv|hv
   ·
    exact hp v hv
   ·
    simpa using hv) (by simp;omega) (by rw[show (pre ++ [(-1:Int)]).length+j=pre.length+(j+1) by simp;omega];exact h)
  rw[show ((pre ++ [(-1:Int)]).length+j:Nat)=pre.length+(j+1) by simp;omega,show (((pre ++ [(-1:Int)]).length:Nat):Int)=(pre.length:Int)+1 by simp] at this
  exact this
theorem keFar_ok (hd:∀ d ∈ l,dOk (nn:Int) d=true) (hl:l.length≤1048576) (hn:nn≤8) (hm:0≤m):∃ far ways,Ev (fun k=>spec_keFar.f k (nn:Int) l m) (far,ways)∧far.length=2 ^ (nn+1)∧∀ v,0≤v→v < (far.length:Int)→IsLeast (H.Way (EdgT enS nn (ridesK l m) (fun _=>1)) (fun v=>v=enS (List.replicate nn true) true) v) (rd far v):=by
 have hT:=keep_trips hn l m
 have hp2:=(pow_leK hn).2
 obtain ⟨N,hN⟩:∃ N,N=2 ^ (nn+1):=⟨_,rfl⟩
 have hNi:(N:Int)=2 ^ (nn+1):=by rw[hN];exact pow_natK _
 have hlT:(List.replicate nn true).length=nn:=by simp
 have hs:=en_facts hn (List.replicate nn true) true hlT
 have hs':0≤enS (List.replicate nn true) true∧enS (List.replicate nn true) true < (N:Int):=⟨hs.2.2.2.1,by rw[hNi];exact hs.2.2.2.2.1⟩
 have hB:=edgT_bounded hT N hNi _ hs'
 have hI:=QInv.init hB (enS (List.replicate nn true) true) (fun x=>Iff.rfl)
 obtain ⟨far,ways,h1,h2,h3⟩:=keFar_l1 hd hl hn hm N hNi (by omega) (enS (List.replicate nn true) true) hs' N _ ((List.replicate N 0).set (enS (List.replicate nn true) true).toNat 1) [] [enS (List.replicate nn true) true] (by simp) (by simp) hI (fun v v0 v1=>by
  rw[rd_set _ _ v 0 hs'.1 (by simpa using hs'.2) v0]
  split
  ·
   simp
  ·
   rw[rd_rep N (-1) v v0 v1];simp)
 refine ⟨far,ways,?_,by rw[h2,hN],by rw[h2];exact h3⟩
 unfold spec_keFar.f
 rw[shl2K hn,← hN,Int.toNat_natCast]
 simp only[if_pos (show 0≤(nn:Int) by omega),if_pos (show 0≤(N:Int) by omega),if_pos (show N≤35184372088832 by omega),Option.bind_some,List.length_replicate]
 have hf:=keFar_fill (l:=l) (m:=m) (nn:Int) (List.replicate N 0) (far,ways) N [] (by simp) (by simp;omega) (by
  refine Ev.bind (keEnd_ev hn l m) ?_
  dsimp only
  refine Ev.bind (keIndex_ev hn (List.replicate nn true) true hlT) ?_
  simp only[List.length_nil,Nat.zero_add,List.length_replicate,if_pos hs'.1,if_pos hs'.2]
  exact h1)
 simpa using hf
theorem keep_both (hd:∀ d ∈ l,dOk (nn:Int) d=true) (hl:l.length≤1048576) (hn:nn≤8) (hm:0≤m):∃ far ways r,Ev (fun k=>spec_keFar.f k (nn:Int) l m) (far,ways)∧(far.length:Int)=2 ^ (nn+1)∧Ev (fun k=>impl_Keep_costs.f k nn l m) (r,decide (0≤rd r 0))∧rd far (enS (List.replicate nn false) false)=rd r 0 ∧
  IsLeast (H.Way (EdgT enS nn (ridesK l m) (fun _=>1)) (fun v=>v=enS (List.replicate nn true) true) (enS (List.replicate nn false) false)) (rd r 0):=by
 have hT:=keep_trips hn l m
 have hlT:(List.replicate nn true).length=nn:=by simp
 have hlF:(List.replicate nn false).length=nn:=by simp
 have hE:=en_facts hn (List.replicate nn true) true hlT
 have hF:=en_facts hn (List.replicate nn false) false hlF
 obtain ⟨far,ways,f1,f2,f4⟩:=keFar_ok hd hl hn hm
 obtain ⟨r,r1,r2,r3⟩:=keepFrom hd hl hn hm (enI (List.replicate nn true) true) hE.1 hE.2.1
 have hfl:(far.length:Int)=2 ^ (nn+1):=by rw[f2];exact pow_natK _
 have hz:=(last_enK hn).2
 have e1:=f4 (enS (List.replicate nn false) false) hF.2.2.2.1 (by rw[hfl];exact hF.2.2.2.2.1)
 have e2:=r3 (enI (List.replicate nn false) false) hF.1 hF.2.1
 have hok:=safe_all hd true
 have heq:rd far (enS (List.replicate nn false) false)=rd r 0:=by
  rw[← hz]
  refine IsLeast.uniq (e1.iff (fun k=>?_)) e2
  rw[way_TR hT (injS hn) hlT hok,way_TR hT (injI hn) hlT hok]
  exact way_ISR hT _ _ _ _ hlT hlF k
 refine ⟨far,ways,r,f1,hfl,?_,heq,by rw[← heq];exact e1⟩
 unfold impl_Keep_costs.f
 simp only[if_pos hn,(last_enK hn).1,Option.bind_some]
 refine Ev.bind r1 ?_
 simp only[if_pos r2]
 exact Ev.now _
end
theorem goodK_all {n m:Int} {l:List (List Int)} (h:goodK n l m=true):∃ nn:Nat,n=(nn:Int)∧nn≤8∧0≤m∧m≤8∧∀ d ∈ l,dOk (nn:Int) d=true:=by
 unfold goodK at h
 simp only[Bool.and_eq_true,inB,decide_eq_true_eq] at h
 obtain ⟨⟨h0,h1⟩,⟨h2,h3⟩,h4⟩:=h
 obtain ⟨nn,rfl⟩:∃ nn:Nat,n=(nn:Int):=⟨n.toNat,by omega⟩
 exact ⟨nn,rfl,by omega,h2,h3,ksB_all l none h4⟩
end Go.Proofs.Ytmfofjloklafoaa.Pure

namespace Go.Proofs.Ytmfofjloklafoaa.Pure
open Go.RowKit Go.Proofs.Ytmfofjloklafoaa.C5 Go.Proofs.Ytmfofjloklafoaa.H Go.Proofs.YtmfofjloklafoaaW.PrintWords Go.Proofs.YtmfofjloklafoaaW.PrintLast Go.Proofs.YtmfofjloklafoaaW.PrintMore
set_option linter.unusedVariables false
set_option linter.unusedSimpArgs false
def fullK (nn:Nat):List Int:=(List.range nn).map fun i=>((i:Nat):Int)
set_option maxRecDepth 100000 in
theorem full_mem:∀ nn:Fin 9,fullK nn ∈ [] :: tripsP 8 (List.replicate nn true) true∧mv false (fullK nn) (List.replicate nn true)=List.replicate nn false:=by decide +kernel
theorem full_seats {nn:Nat} {l:List (List Int)} (hd:∀ d ∈ l,dOk (nn:Int) d=true) (hn:nn≤8) {x:Int} (h:IsLeast (H.Way (EdgT enS nn (ridesK l 8) (fun _=>1)) (fun v=>v=enS (List.replicate nn true) true) (enS (List.replicate nn false) false)) x):0≤x:=by
 obtain ⟨h1,h2⟩:=full_mem ⟨nn,by omega⟩
 dsimp only at h1 h2
 have hw:H.Way (EdgT enS nn (ridesK l 8) (fun _=>1)) (fun v=>v=enS (List.replicate nn true) true) (enS (List.replicate nn false) false) (0+1):=by
  refine H.Way.on (H.Way.here rfl) ⟨List.replicate nn true,true,fullK nn,by simp,rfl,List.mem_filter.2 ⟨h1,?_⟩,?_,rfl⟩
  ·
   show safeK l (mv (!true) (fullK nn) (List.replicate nn true)) (!true)=true
   rw[Bool.not_true,h2]
   exact safe_all hd false
  ·
   rw[Bool.not_true,h2]
 rcases h with ⟨_,q⟩|⟨k,q,_⟩
 ·
  exact absurd hw (q _)
 ·
  omega
theorem seats_loop {nn:Nat} {l:List (List Int)} (hd:∀ d ∈ l,dOk (nn:Int) d=true) (hl:l.length≤1048576) (hn:nn≤8) (m:Int):∀ (j:Nat) (s:Int),0≤s→s+j=8→∃ v:Int,Ev (fun k=>seatsK k nn l j s) v∧Ev (fun k=>spec_LeastSeats.l0 k s (nn:Int) l m) (v,true):=by
 have hlF:(List.replicate nn false).length=nn:=by simp
 have hF:=en_facts hn (List.replicate nn false) false hlF
 have hspec:∀ (s:Int) (far ways:List Int) (R:Int × Bool),Ev (fun k=>spec_keFar.f k (nn:Int) l s) (far,ways)→(far.length:Int)=2 ^ (nn+1)→(if rd far (enS (List.replicate nn false) false) ≥ 0 then R=(s,true) else Ev (fun k=>spec_LeastSeats.l0 k (wrap64 (s+1)) (nn:Int) l m) R)→Ev (fun k=>spec_LeastSeats.l0 k s (nn:Int) l m) R:=by
  intro s far ways R f1 f2 hR
  refine Ev.step (fun k=>spec_LeastSeats.l0.eq_2 ..) ?_
  refine Ev.bind f1 ?_
  simp only[keStart_val hn,Option.bind_some]
  refine Ev.bind (keIndex_ev hn (List.replicate nn false) false hlF) ?_
  simp only[if_pos hF.2.2.2.1,if_pos (show enS (List.replicate nn false) false < (far.length:Int) by rw[f2];exact hF.2.2.2.2.1)]
  by_cases h0:rd far (enS (List.replicate nn false) false) ≥ 0
  ·
   rw[if_pos h0] at hR
   simp only[if_pos h0,hR]
   exact Ev.now _
  ·
   rw[if_neg h0] at hR
   simp only[if_neg h0]
   exact hR
 intro j
 induction j with
 | zero =>
  intro s s0 e
  obtain rfl:s=8:=by omega
  obtain ⟨far,ways,r,f1,f2,r1,heq,hle⟩:=keep_both (m:=8) hd hl hn (by omega)
  have hp:=full_seats hd hn hle
  refine ⟨8,Ev.now _,hspec 8 far ways _ f1 f2 ?_⟩
  rw[heq,if_pos (show rd r 0 ≥ 0 from hp)]
 | succ j ih =>
  intro s s0 e
  obtain ⟨far,ways,r,f1,f2,r1,heq,hle⟩:=keep_both (m:=s) hd hl hn s0
  by_cases h0:0≤rd r 0
  ·
   refine ⟨s,?_,hspec s far ways _ f1 f2 ?_⟩
   ·
    simp only[seatsK]
    refine Ev.bind r1 ?_
    simp only[decide_eq_true h0,if_true]
    exact Ev.now _
   ·
    rw[heq,if_pos (show rd r 0 ≥ 0 from h0)]
  ·
   obtain ⟨v,h1,h2⟩:=ih (s+1) (by omega) (by omega)
   refine ⟨v,?_,hspec s far ways _ f1 f2 ?_⟩
   ·
    simp only[seatsK]
    refine Ev.bind r1 ?_
    simp only[decide_eq_false h0,Bool.false_eq_true,if_false]
    exact h1
   ·
    rw[heq,if_neg (show ¬ rd r 0 ≥ 0 from h0),wr_id (a:=s+1) (by omega) (by omega)]
    exact h2
theorem FnExactLeastSeats_both (n:Int) (l:List (List Int)) (m:Int) (hl:n2 l≤1048576):∃ rr:Int × Bool,Ev (fun k=>spec_LeastSeats.f k n l m) rr∧Ev (fun k=>impl_LeastSeats.f k n l m) rr∧True:=by
 have hll:l.length≤1048576:=by unfold n2 at hl;omega
 have hlen:=(szSum_bound List.length l hl).2
 unfold spec_LeastSeats.f impl_LeastSeats.f
 cases hg:goodK n l m with
 | false =>
  refine ⟨(0,false),Ev.bind (keGood_ev n m l hll hlen) ?_,Ev.bind (isKeep_ev n m l hll) ?_,trivial⟩
  ·
   rw[hg];simp only[Bool.false_eq_true,if_false];exact Ev.now _
  ·
   rw[hg];simp only[Bool.false_eq_true,if_false];exact Ev.now _
 | true =>
  obtain ⟨nn,rfl,hn,hm0,hm1,hd⟩:=goodK_all hg
  obtain ⟨v,h1,h2⟩:=seats_loop hd hll hn m 8 0 (by omega) (by omega)
  refine ⟨(v,true),Ev.bind (keGood_ev _ m l hll hlen) ?_,Ev.bind (isKeep_ev _ m l hll) ?_,trivial⟩
  ·
   rw[hg]
   simp only[if_true]
   exact h2
  ·
   rw[hg]
   simp only[if_true,if_pos (show 0≤(nn:Int)∧(nn:Int)≤8 by omega),Int.toNat_natCast]
   exact Ev.bind h1 (Ev.now _)
theorem FnExactLeastSeats_pure:∀ (a0_0:Int) (l0_1:List (List Int)) (a0_2:Int),goodI a0_0→goodL (goodL goodI) l0_1→goodI a0_2→∃ k,laws_FnExactLeastSeats.f k a0_0 l0_1 a0_2=some true:=by
 intro a0_0 l0_1 a0_2 g0_0 g0_1 g0_2
 obtain ⟨u0,hu0,hc⟩:=szKeep_cases a0_0 l0_1 a0_2 1048576 (by omega) (by omega) (good2 g0_1)
 rcases hc with hc|⟨b0,d0⟩
 ·
  refine Ev.rounds ?_
  unfold laws_FnExactLeastSeats.f
  repeat (first|exact Ev.now _|(refine Ev.bind (by assumption) ?_;try dsimp only)|(simp only[hc,if_true,if_false,bne_self_eq_false,Bool.false_eq_true])|refine Ev.step (fun k=>laws_FnExactLeastSeats.j0.eq_2 ..) ?_|refine Ev.step (fun k=>laws_FnExactLeastSeats.j1.eq_2 ..) ?_|refine Ev.step (fun k=>laws_FnExactLeastSeats.j2.eq_2 ..) ?_)
 have nu0:¬ u0 < 0:=by omega
 have z0_1:n2 l0_1≤1048576:=by omega
 have et0:=toKeep_ev a0_0 l0_1 a0_2 z0_1
 obtain ⟨rr,es,ei,hsm⟩:=FnExactLeastSeats_both a0_0 l0_1 a0_2 z0_1
 obtain ⟨r0,r1⟩:=rr
 have ea0:Ev (fun k=>laws_eqKeep.f k a0_0 l0_1 a0_2 a0_0 l0_1 a0_2) true:=ev_eq (eqKeep_ev a0_0 l0_1 a0_2 a0_0 l0_1 a0_2 z0_1) (decide_eq_true rfl)
 refine Ev.rounds ?_
 unfold laws_FnExactLeastSeats.f
 repeat (first|exact Ev.now _|(refine Ev.bind (by assumption) ?_;try dsimp only)|(simp only[nu0,if_true,if_false,bne_self_eq_false,Bool.false_eq_true])|refine Ev.step (fun k=>laws_FnExactLeastSeats.j0.eq_2 ..) ?_|refine Ev.step (fun k=>laws_FnExactLeastSeats.j1.eq_2 ..) ?_|refine Ev.step (fun k=>laws_FnExactLeastSeats.j2.eq_2 ..) ?_)
end Go.Proofs.Ytmfofjloklafoaa.Pure
