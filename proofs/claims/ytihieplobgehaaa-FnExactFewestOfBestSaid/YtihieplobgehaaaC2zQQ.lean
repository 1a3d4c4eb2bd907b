import Derived.Test.YtihieplobgehaaaC2zx0
import Derived.Test.YtihieplobgehaaaC2zH0
import Derived.Test.YtihieplobgehaaaC2zH1
import Derived.Test.YtihieplobgehaaaC2zx1
import Derived.Test.YtihieplobgehaaaC2zx10
import Derived.Test.YtihieplobgehaaaC2zx18
import Derived.Test.YtihieplobgehaaaC2zx12
import Derived.Test.YtihieplobgehaaaC2zx13
import Derived.Test.YtihieplobgehaaaC2zx3
import Derived.Test.YtihieplobgehaaaC2zx7
import Derived.Test.YtihieplobgehaaaC2zx11
import Derived.Test.YtihieplobgehaaaC2zx4
import Derived.Test.YtihieplobgehaaaC2zx2
import Derived.Test.YtihieplobgehaaaC2zx5
import Derived.Test.YtihieplobgehaaaC2zx6
import Derived.Test.YtihieplobgehaaaC2zx14
import Derived.Test.YtihieplobgehaaaC2zx15
import Derived.Test.YtihieplobgehaaaC2zx17
import Derived.Test.YtihieplobgehaaaC2zx8
import Derived.Test.YtihieplobgehaaaC2zx9
import Derived.Test.YtihieplobgehaaaC2zH2
import Derived.Test.YtihieplobgehaaaC2zS
namespace Go.Proofs.Ytihieplobgehaaa.Pure
open Go.RowKit Go.Proofs.Ytihieplobgehaaa.C2 Go.Proofs.Ytihieplobgehaaa.H Go.Proofs.YtihieplobgehaaaW.PrintWords Go.Proofs.YtihieplobgehaaaW.PrintLast Go.Proofs.YtihieplobgehaaaW.PrintMore
set_option linter.unusedVariables false
set_option linter.unusedSimpArgs false
def szSum {α:Type} (f:α→Nat):List α→Nat
 | []=>0
 | x :: l=>f x+szSum f l
def n2 (l:List (List Int)):Nat:=l.length+szSum List.length l
def n3 (l:List (List (List Int))):Nat:=l.length+szSum n2 l
end Go.Proofs.Ytihieplobgehaaa.Pure

namespace Go.Proofs.Ytihieplobgehaaa.Pure
open Go.RowKit Go.Proofs.Ytihieplobgehaaa.C2 Go.Proofs.Ytihieplobgehaaa.H Go.Proofs.YtihieplobgehaaaW.PrintWords Go.Proofs.YtihieplobgehaaaW.PrintLast Go.Proofs.YtihieplobgehaaaW.PrintMore
set_option linter.unusedVariables false
set_option linter.unusedSimpArgs false
def goodIntS (l:List Int):Prop:=l.length≤9223372036854775807
theorem szIntS_cases (l:List Int) (a:Int) (h0:0≤a) (ha:a≤1048576) (hg:goodIntS l):∃ t,laws_szIntS.f l a=some t∧(t < 0∨(0≤t∧t+(l.length:Int)≤a)):=by
 have hl:l.length≤9223372036854775807:=hg
 unfold laws_szIntS.f
 rw[wr_id (by omega) (by omega)]
 by_cases h:a - (l.length:Int) < 0
 ·
  exact ⟨-1,by rw[if_pos h], .inl (by omega)⟩
 ·
  exact ⟨_,by rw[if_neg h], .inr ⟨by omega,by omega⟩⟩
theorem toIntS_loop (x0:List Int):∀ (r pre suf:List Int),x0=pre ++ r→suf.length=r.length→x0.length≤9223372036854775807→Ev (fun k=>laws_toIntS.l0 k x0 (pre ++ suf) (pre.length:Int)) x0:=by
 intro r
 induction r with
 | nil =>
  intro pre suf e hs hl
  obtain rfl:suf=[]:=List.eq_nil_of_length_eq_zero hs
  subst e
  refine Ev.step (f:=fun _=>some _) (fun k=>?_) (Ev.now _)
  simp only[laws_toIntS.l0]
  rw[if_neg (nlt_end pre)]
 | cons x r ih =>
  intro pre suf e hs hl
  match suf,hs with
  | y :: suf,hs =>
   subst e
   refine Ev.step (fun k=>?_) (ev_eq (ih (pre ++ [x]) suf (by simp) (by simpa using hs) hl) rfl)
   simp only[laws_toIntS.l0]
   rw[if_pos (lt_mid pre x r),if_pos (zle _),if_pos (lt_mid pre y suf),rd_mid,set_mid,wr_mid pre x r hl,app_mid pre x suf]
theorem toIntS_ev (l:List Int) (hl:l.length≤1048576):Ev (fun k=>laws_toIntS.f k l) l:=by
 unfold laws_toIntS.f
 simp only[if_pos (zle l.length),if_pos (show ((l.length:Int)).toNat≤35184372088832 by omega)]
 exact toIntS_loop l l [] _ rfl (by simp) (by omega)
theorem eqIntS_loop:∀ (r s pre qre:List Int),pre.length=qre.length→r.length=s.length→(pre ++ r).length≤9223372036854775807→Ev (fun k=>laws_eqIntS.l0 k (pre ++ r) (qre ++ s) (pre.length:Int)) (decide (r=s)):=by
 intro r
 induction r with
 | nil =>
  intro s pre qre hp hs hl
  obtain rfl:s=[]:=List.eq_nil_of_length_eq_zero hs.symm
  refine Ev.step (f:=fun _=>some _) (fun k=>?_) (Ev.now _)
  simp only[laws_eqIntS.l0]
  rw[if_neg (nlt_end pre)]
  rfl
 | cons x r ih =>
  intro s pre qre hp hs hl
  match s,hs with
  | y :: s,hs =>
   by_cases e:x=y
   ·
    subst e
    refine Ev.step (fun k=>?_) (ev_eq (ih s (pre ++ [x]) (qre ++ [x]) (by simp[hp]) (by simpa using hs) (by simpa using hl)) (by simp))
    simp only[laws_eqIntS.l0]
    rw[if_pos (lt_mid pre x r),if_pos (zle _),if_pos (by rw[hp];exact lt_mid qre x s),rd_mid,hp,rd_mid,if_pos rfl,← hp,wr_mid pre x r hl,app_mid pre x r,app_mid qre x s]
   ·
    refine Ev.step (f:=fun _=>some _) (fun k=>?_) (Ev.now _)
    simp only[laws_eqIntS.l0]
    rw[if_pos (lt_mid pre x r),if_pos (zle _),if_pos (by rw[hp];exact lt_mid qre y s),rd_mid,hp,rd_mid,if_neg e]
    simp[e]
theorem eqIntS_ev (l s:List Int) (hl:l.length≤1048576):Ev (fun k=>laws_eqIntS.f k l s) (decide (l=s)):=by
 unfold laws_eqIntS.f
 by_cases h:l.length=s.length
 ·
  simp only[if_pos (show (l.length:Int)=(s.length:Int) by omega)]
  exact eqIntS_loop l s [] [] rfl h (by simp;omega)
 ·
  simp only[if_neg (show ¬ (l.length:Int)=(s.length:Int) by omega)]
  refine ev_eq (Ev.now _) ?_
  have:l≠s:=fun e=>h (by rw[e])
  simp[this]
theorem szParty_cases (f0:List Int) (f1:Int) (a:Int) (h0:0≤a) (ha:a≤1048576) (g0:goodIntS f0):∃ t,laws_szParty.f f0 f1 a=some t∧(t < 0∨(0≤t∧t+(List.length f0:Int)≤a)):=by
 unfold laws_szParty.f
 obtain ⟨t0,e0,hc⟩:=szIntS_cases f0 a h0 ha g0
 rcases hc with hc|⟨b0,c0⟩
 ·
  exact ⟨-1,by simp[e0,hc], .inl (by omega)⟩
 exact ⟨t0,by simp[e0,show ¬ t0 < 0 by omega], .inr ⟨b0,by omega⟩⟩
theorem toParty_ev (f0:List Int) (f1:Int) (h0:List.length f0≤1048576):Ev (fun k=>laws_toParty.f k f0 f1) (f0,f1):=Ev.bind (toIntS_ev f0 h0) (Ev.now _)
theorem eqParty_ev (f0:List Int) (f1:Int) (s0:List Int) (s1:Int) (h0:List.length f0≤1048576):Ev (fun k=>laws_eqParty.f k f0 f1 s0 s1) (decide ((f0,f1)=(s0,s1))):=by
 obtain ⟨K0,e0⟩:=eqIntS_ev f0 s0 h0
 refine ⟨K0,fun k hk=>?_⟩
 unfold laws_eqParty.f
 simp only[e0 k (by omega),Option.bind_some]
 by_cases q0:f0=s0 <;> try simp only[q0,decide_true,decide_false,if_true,if_false,Bool.false_eq_true,beq_self_eq_true]
 by_cases q1:f1=s1 <;> try simp only[q1,decide_true,decide_false,if_true,if_false,Bool.false_eq_true,beq_self_eq_true]
 all_goals simp_all
end Go.Proofs.Ytihieplobgehaaa.Pure

namespace Go.Proofs.Ytihieplobgehaaa.Pure
open Go.RowKit Go.Proofs.Ytihieplobgehaaa.C2 Go.Proofs.Ytihieplobgehaaa.H Go.Proofs.YtihieplobgehaaaW.PrintWords Go.Proofs.YtihieplobgehaaaW.PrintLast Go.Proofs.YtihieplobgehaaaW.PrintMore
set_option linter.unusedVariables false
set_option linter.unusedSimpArgs false
theorem in_eq (a b c:Int):impl_in.f a b c=some (inB b c a):=by
 unfold impl_in.f inB
 by_cases h:b≤a <;> simp [h]
theorem l1In_eq (a b c:Int):spec_l1In.f a b c=some (inB b c a):=by
 unfold spec_l1In.f inB
 by_cases h:b≤a <;> simp [h]
theorem areIn_eq (l:List Int) (a b c d:Int):impl_areIn.f l a b c d=some (inB c d (l.length:Int) && l.all (inB a b)):=rfl
theorem l1All_loop (a b:Int):∀ (r pre:List Int),(pre ++ r).length≤9223372036854775807→Ev (fun k=>spec_l1All.l0 k a b (pre ++ r) ((pre ++ r).length:Int) (pre.length:Int)) (r.all (inB a b)):=by
 intro r
 induction r with
 | nil =>
  intro pre hl
  refine Ev.step (f:=fun _=>some true) (fun k=>?_) (Ev.now _)
  simp only[spec_l1All.l0]
  rw[if_neg (nlt_end pre)]
 | cons x r ih =>
  intro pre hl
  cases hx:inB a b x with
  | true =>
   refine Ev.step (fun k=>?_) (ev_eq (ih (pre ++ [x]) (by simpa using hl)) (by simp[hx]))
   simp only[spec_l1All.l0]
   rw[if_pos (lt_mid pre x r),if_pos (zle _),if_pos (lt_mid pre x r),rd_mid,l1In_eq,hx,Option.bind_some,if_pos rfl,wr_mid pre x r hl,app_mid pre x r]
  | false =>
   refine Ev.step (f:=fun _=>some false) (fun k=>?_) (ev_eq (Ev.now _) (by simp[hx]))
   simp only[spec_l1All.l0]
   rw[if_pos (lt_mid pre x r),if_pos (zle _),if_pos (lt_mid pre x r),rd_mid,l1In_eq,hx,Option.bind_some,if_neg (by simp)]
theorem l1All_ev (l:List Int) (a b:Int) (hl:l.length≤9223372036854775807):Ev (fun k=>spec_l1All.f k l a b) (l.all (inB a b)):=l1All_loop a b l [] hl
end Go.Proofs.Ytihieplobgehaaa.Pure

namespace Go.Proofs.Ytihieplobgehaaa.Pure
open Go.RowKit Go.Proofs.Ytihieplobgehaaa.C2 Go.Proofs.Ytihieplobgehaaa.H Go.Proofs.YtihieplobgehaaaW.PrintWords Go.Proofs.YtihieplobgehaaaW.PrintLast Go.Proofs.YtihieplobgehaaaW.PrintMore
set_option linter.unusedVariables false
set_option linter.unusedSimpArgs false
end Go.Proofs.Ytihieplobgehaaa.Pure

namespace Go.Proofs.Ytihieplobgehaaa.Pure
open Go.RowKit Go.Proofs.Ytihieplobgehaaa.C2 Go.Proofs.Ytihieplobgehaaa.H Go.Proofs.YtihieplobgehaaaW.PrintWords Go.Proofs.YtihieplobgehaaaW.PrintLast Go.Proofs.YtihieplobgehaaaW.PrintMore
set_option linter.unusedVariables false
set_option linter.unusedSimpArgs false
def goodP (l:List Int) (s:Int):Bool:=inB 1 8 (l.length:Int) && l.all (inB 1 1000) && inB 1 3 s
theorem isParty_eq (l:List Int) (s:Int):impl_IsParty.f l s=some (goodP l s):=by
 unfold impl_IsParty.f goodP
 rw[areIn_eq,in_eq]
 cases inB 1 8 (l.length:Int) <;> cases l.all (inB 1 1000) <;> cases inB 1 3 s <;> rfl
theorem paGood_ev (l:List Int) (s:Int) (hl:l.length≤1048576):Ev (fun k=>spec_paGood.f k l s) (goodP l s):=by
 obtain ⟨K,e⟩:=l1All_ev l 1 1000 (by omega)
 refine ⟨K,fun k hk=>?_⟩
 unfold spec_paGood.f goodP
 simp only[l1In_eq,e k hk,Option.bind_some]
 cases inB 1 8 (l.length:Int) <;> cases l.all (inB 1 1000) <;> cases inB 1 3 s <;> rfl
def mv (v:Bool):List Int→List Bool→List Bool
 | [],o=>o
 | x :: r,o=>mv v r (o.set x.toNat v)
theorem mv_len (v:Bool) (t:List Int):∀ o:List Bool,(mv v t o).length=o.length:=by
 induction t with
 | nil=>intro o;rfl
 | cons x r ih=>intro o;simp only[mv];rw[ih];simp
theorem moved_loop (v:Bool):∀ (r pre:List Int) (o:List Bool),(pre ++ r).length≤9223372036854775807→(∀ x ∈ r,0≤x∧x < (o.length:Int))→Ev (fun k=>impl_State_moved.l0 k (pre ++ r) ((pre ++ r).length:Int) (pre.length:Int) o v) (mv v r o,v):=by
 intro r
 induction r with
 | nil =>
  intro pre o hl hi
  refine Ev.step (f:=fun _=>some _) (fun k=>?_) (Ev.now _)
  simp only[impl_State_moved.l0]
  rw[if_neg (nlt_end pre)]
  rfl
 | cons x r ih =>
  intro pre o hl hi
  have hx:=hi x (by simp)
  refine Ev.step (fun k=>?_) (ih (pre ++ [x]) (o.set x.toNat v) (by simpa using hl) (fun y hy=>by have:=hi y (by simp[hy]);simpa using this))
  simp only[impl_State_moved.l0]
  rw[if_pos (lt_mid pre x r),if_pos (zle _),if_pos (lt_mid pre x r),rd_mid,if_pos hx.1,if_pos hx.2,wr_mid pre x r hl,app_mid pre x r]
theorem moved_ev (st:List Bool) (b:Bool) (t:List Int) (hs:st.length≤1048576) (ht:t.length≤1048576) (hi:∀ x ∈ t,0≤x∧x < (st.length:Int)):Ev (fun k=>impl_State_moved.f k st b t) (mv (!b) t st,!b):=by
 unfold impl_State_moved.f
 refine Ev.bind (a:=st) (ev_some (by unfold slices_Clone_bool_bool.f;rw[if_pos (by omega)])) ?_
 exact moved_loop (!b) t [] st (by simp;omega) hi
theorem paCross_loop (st:List Bool) (b c:Bool):∀ (r pre:List Int) (o:List Bool),(pre ++ r).length≤9223372036854775807→(∀ x ∈ r,0≤x∧x < (st.length:Int))→(∀ x ∈ r,rdOf false st x=b)→o.length=st.length→Ev (fun k=>spec_paCross.l0 k (pre ++ r) ((pre ++ r).length:Int) (pre.length:Int) st b o c) (mv (!b) r o,c):=by
 intro r
 induction r with
 | nil =>
  intro pre o hl hi hb ho
  refine Ev.step (f:=fun _=>some _) (fun k=>?_) (Ev.now _)
  simp only[spec_paCross.l0]
  rw[if_neg (nlt_end pre)]
  rfl
 | cons x r ih =>
  intro pre o hl hi hb ho
  have hx:=hi x (by simp)
  have hbx:=hb x (by simp)
  refine Ev.step (fun k=>?_) (ih (pre ++ [x]) (o.set x.toNat (!b)) (by simpa using hl) (fun y hy=>hi y (by simp[hy])) (fun y hy=>hb y (by simp[hy])) (by simpa using ho))
  simp only[spec_paCross.l0]
  rw[if_pos (lt_mid pre x r),if_pos (zle _),if_pos (lt_mid pre x r),rd_mid,if_pos hx.1,if_pos hx.2,if_pos (by rw[ho];exact hx.2),hbx,wr_mid pre x r hl,app_mid pre x r]
theorem paCross_ev (st:List Bool) (b:Bool) (t:List Int) (hs:st.length≤1048576) (ht:t.length≤1048576) (hi:∀ x ∈ t,0≤x∧x < (st.length:Int)) (hb:∀ x ∈ t,rdOf false st x=b):Ev (fun k=>spec_paCross.f k st b t) (mv (!b) t st,!b):=by
 unfold spec_paCross.f
 simp only[Option.bind_some,List.nil_append,List.length_nil,Nat.zero_add,if_pos (show st.length < 140737488355328 by omega)]
 exact paCross_loop st b (!b) t [] st (by simp;omega) hi hb rfl
theorem paLast_loop (l:List Int):∀ (j i:Nat) (o:List Bool),i+j=l.length→l.length≤1048576→o=List.replicate i true→Ev (fun k=>spec_paLast.l0 k (l.length:Int) (i:Int) o true) (List.replicate l.length true,true):=by
 intro j
 induction j with
 | zero =>
  intro i o h hl ho
  refine Ev.step (f:=fun _=>some _) (fun k=>?_) (Ev.now _)
  simp only[spec_paLast.l0]
  rw[if_neg (by omega),ho,show i=l.length by omega]
 | succ j ih =>
  intro i o h hl ho
  refine Ev.step (fun k=>?_) (ih (i+1) (o ++ [true]) (by omega) hl (by rw[ho,List.replicate_succ']))
  simp only[spec_paLast.l0]
  rw[if_pos (by omega),if_pos (by rw[ho];simp;omega),wr_id (by omega) (by omega)]
  rfl
end Go.Proofs.Ytihieplobgehaaa.Pure

namespace Go.Proofs.Ytihieplobgehaaa.Pure
open Go.RowKit Go.Proofs.Ytihieplobgehaaa.C2 Go.Proofs.Ytihieplobgehaaa.H Go.Proofs.YtihieplobgehaaaW.PrintWords Go.Proofs.YtihieplobgehaaaW.PrintLast Go.Proofs.YtihieplobgehaaaW.PrintMore
set_option linter.unusedVariables false
set_option linter.unusedSimpArgs false
def mxs (l:List Int):List Int→Int→Int
 | [],m=>m
 | x :: r,m=>mxs l r (max m (rd l x))
theorem slowest_loop (l:List Int):∀ (r pre:List Int) (m:Int),(pre ++ r).length≤9223372036854775807→(∀ x ∈ r,0≤x∧x < (l.length:Int))→Ev (fun k=>impl_slowest.l0 k l m (pre ++ r) ((pre ++ r).length:Int) (pre.length:Int)) (mxs l r m):=by
 intro r
 induction r with
 | nil =>
  intro pre m hl hi
  refine Ev.step (f:=fun _=>some _) (fun k=>?_) (Ev.now _)
  simp only[impl_slowest.l0]
  rw[if_neg (nlt_end pre)]
  rfl
 | cons x r ih =>
  intro pre m hl hi
  have hx:=hi x (by simp)
  refine Ev.step (fun k=>?_) (ih (pre ++ [x]) (max m (rd l x)) (by simpa using hl) (fun y hy=>hi y (by simp[hy])))
  simp only[impl_slowest.l0]
  rw[if_pos (lt_mid pre x r),if_pos (zle _),if_pos (lt_mid pre x r),rd_mid,if_pos hx.1,if_pos hx.2,wr_mid pre x r hl,app_mid pre x r,show mx m (rd l x)=max m (rd l x) by unfold mx;split <;> omega]
theorem slowest_ev (l t:List Int) (ht:t.length≤1048576) (hi:∀ x ∈ t,0≤x∧x < (l.length:Int)):Ev (fun k=>impl_slowest.f k l t) (mxs l t 0):=slowest_loop l t [] 0 (by simp;omega) hi
end Go.Proofs.Ytihieplobgehaaa.Pure

namespace Go.Proofs.Ytihieplobgehaaa.Pure
open Go.RowKit Go.Proofs.Ytihieplobgehaaa.C2 Go.Proofs.Ytihieplobgehaaa.H Go.Proofs.YtihieplobgehaaaW.PrintWords Go.Proofs.YtihieplobgehaaaW.PrintLast Go.Proofs.YtihieplobgehaaaW.PrintMore
set_option linter.unusedVariables false
set_option linter.unusedSimpArgs false
end Go.Proofs.Ytihieplobgehaaa.Pure

namespace Go.Proofs.Ytihieplobgehaaa.Pure
open Go.RowKit Go.Proofs.Ytihieplobgehaaa.C2 Go.Proofs.Ytihieplobgehaaa.H Go.Proofs.YtihieplobgehaaaW.PrintWords Go.Proofs.YtihieplobgehaaaW.PrintLast Go.Proofs.YtihieplobgehaaaW.PrintMore
set_option linter.unusedVariables false
set_option linter.unusedSimpArgs false
def sideP (b:Bool):List Bool→Nat→List Int
 | [],_=>[]
 | x :: r,i=>if x == b then (i:Int) :: sideP b r (i+1) else sideP b r (i+1)
theorem sideP_len (b:Bool):∀ (r:List Bool) (i:Nat),(sideP b r i).length≤r.length:=by
 intro r
 induction r with
 | nil=>intro i;simp[sideP]
 | cons x r ih =>
  intro i
  have:=ih (i+1)
  simp only[sideP]
  split <;> simp only[List.length_cons] <;> omega
theorem side_loop (b:Bool):∀ (r pre:List Bool) (acc:List Int),(pre ++ r).length≤1048576→acc.length+r.length≤1048576→Ev (fun k=>impl_State_side.l0 k b acc (pre ++ r) ((pre ++ r).length:Int) (pre.length:Int)) (acc ++ sideP b r pre.length):=by
 intro r
 induction r with
 | nil =>
  intro pre acc hl ha
  refine Ev.step (f:=fun _=>some _) (fun k=>?_) (Ev.now _)
  simp only[impl_State_side.l0]
  rw[if_neg (nlt_end pre)]
  simp[sideP]
 | cons x r ih =>
  intro pre acc hl ha
  simp only[List.length_cons] at ha
  cases hx:x == b with
  | true =>
   refine Ev.step (fun k=>?_) (ev_eq (ih (pre ++ [x]) (acc ++ [(pre.length:Int)]) (by simpa using hl) (by simp;omega)) (by simp[sideP,hx]))
   simp only[impl_State_side.l0]
   rw[if_pos (lt_mid pre x r),if_pos (zle _),if_pos (lt_mid pre x r),rdOf_mid,hx,if_pos rfl,if_pos (by omega),wr_mid pre x r (by omega),app_mid pre x r]
  | false =>
   refine Ev.step (fun k=>?_) (ev_eq (ih (pre ++ [x]) acc (by simpa using hl) (by omega)) (by simp[sideP,hx]))
   simp only[impl_State_side.l0]
   rw[if_pos (lt_mid pre x r),if_pos (zle _),if_pos (lt_mid pre x r),rdOf_mid,hx,if_neg (by simp),wr_mid pre x r (by omega),app_mid pre x r]
theorem side_ev (st:List Bool) (t b:Bool) (hs:st.length≤1048576):Ev (fun k=>impl_State_side.f k st t b) (sideP b st 0):=side_loop b st [] [] (by simpa using hs) (by simpa using hs)
def begP:List Int→List (List Int)
 | []=>[]
 | x :: l=>[x :: l]
theorem begP_len (l:List Int):(begP l).length≤1:=by cases l <;> simp [begP]
theorem l1Own_eq (l:List Int) (h:l.length≤1048576):spec_l1Own.f l=some l:=by
 unfold spec_l1Own.f
 rw[Option.bind_some,if_pos (by simp;omega)]
 simp
theorem grp_loop (lo:Nat) (m:Int) (ps:List Int) (hp:ps.length≤20) (l:List Int) (hl:l.length≤20) (hm:(l.length:Int) < m)
  (IH:∀ (from_:Nat) (l':List Int),lo < from_→from_≤ps.length→l'.length=l.length+1→Ev (fun k=>spec_paGroups.f k ps l' (from_:Int) m) (begP l' ++ grpsF m (ps.drop from_) l')) :
  ∀ (d i:Nat) (acc:List (List Int)),ps.length - i=d→i≤ps.length→lo≤i→acc.length+2 ^ d≤4194304→Ev (fun k=>spec_paGroups.l0 k ps l m acc (i:Int)) (acc ++ grpsF m (ps.drop i) l):=by
 intro d
 induction d with
 | zero =>
  intro i acc hd hi hlo ha
  have:i=ps.length:=by omega
  subst this
  refine Ev.step (f:=fun _=>some _) (fun k=>?_) (Ev.now _)
  simp only[spec_paGroups.l0]
  rw[if_neg (by omega)]
  simp[grpsF]
 | succ d ih =>
  intro i acc hd hi hlo ha
  have hlt:i < ps.length:=by omega
  have hdr:ps.drop i=rd ps (i:Nat) :: ps.drop (i+1):=by
   rw[List.drop_eq_getElem_cons hlt]
   simp[rd,List.getD_eq_getElem?_getD,List.getElem?_eq_getElem hlt]
  have hg:=IH (i+1) (l ++ [rd ps (i:Nat)]) (by omega) (by omega) (by simp)
  have hlen:(begP (l ++ [rd ps (i:Nat)]) ++ grpsF m (ps.drop (i+1)) (l ++ [rd ps (i:Nat)])).length≤2 ^ d:=by
   have h1:=grpsF_len m (ps.drop (i+1)) (l ++ [rd ps (i:Nat)])
   have h2:=begP_len (l ++ [rd ps (i:Nat)])
   rw[List.length_drop,show ps.length - (i+1)=d by omega] at h1
   rw[List.length_append]
   omega
  rw[Nat.pow_succ] at ha
  have hb:begP (l ++ [rd ps (i:Nat)])=[l ++ [rd ps (i:Nat)]]:=by cases l <;> rfl
  have he:acc ++ grpsF m (ps.drop i) l=(acc ++ (begP (l ++ [rd ps (i:Nat)]) ++ grpsF m (ps.drop (i+1)) (l ++ [rd ps (i:Nat)]))) ++ grpsF m (ps.drop (i+1)) l:=by
   rw[hdr,grpsF,if_pos hm,hb]
   simp
  rw[he]
  refine Ev.step (f:=fun k=>(spec_paGroups.f k ps (l ++ [rd ps (i:Nat)]) ((i+1:Nat):Int) m).bind fun t=>(if acc.length+t.length < 5864062014805 then (spec_paGroups.l0 k ps l m (acc ++ t) ((i+1:Nat):Int)) else (none))) (fun k=>?_) (Ev.bind hg ?_)
  ·
   simp only[spec_paGroups.l0]
   rw[if_pos (by omega),show spec_l1Own.f l=some l from l1Own_eq l (by omega),Option.bind_some,if_pos (zle _),Option.bind_some,if_pos (by simp;omega),show wrap64 ((i:Int)+1)=((i+1:Nat):Int) from wr_id (by omega) (by omega)]
  ·
   try dsimp only
   have hc:acc.length+(begP (l ++ [rd ps (i:Nat)]) ++ grpsF m (ps.drop (i+1)) (l ++ [rd ps (i:Nat)])).length < 5864062014805:=by
    have:0 < 2 ^ d:=Nat.pow_pos (by omega)
    omega
   simp only[if_pos hc]
   exact ih (i+1) _ (by omega) (by omega) (by omega) (by rw[List.length_append];omega)
theorem paGroups_ev (m:Int) (ps:List Int) (hp:ps.length≤20):∀ (d from_:Nat) (l:List Int),ps.length - from_=d→from_≤ps.length→l.length+d≤20→(l.length:Int)≤m→Ev (fun k=>spec_paGroups.f k ps l (from_:Int) m) (begP l ++ grpsF m (ps.drop from_) l):=by
 intro d
 induction d using Nat.strongRecOn with
 | ind d ih =>
 intro from_ l hd hf hl hm
 have hj:∀ acc:List (List Int),acc.length≤1→Ev (fun k=>spec_paGroups.j0 k ps l (from_:Int) m acc) (acc ++ grpsF m (ps.drop from_) l):=by
  intro acc ha
  by_cases hc:(l.length:Int)=m
  ·
   refine Ev.step (f:=fun _=>some acc) (fun k=>?_) (ev_eq (Ev.now _) ?_)
   ·
    simp only[spec_paGroups.j0]
    rw[if_pos hc]
   ·
    cases ps.drop from_ with
    | nil=>simp [grpsF]
    | cons x r=>rw [grpsF,if_neg (by omega)];simp
  ·
   refine Ev.step (f:=fun k=>spec_paGroups.l0 k ps l m acc (from_:Int)) (fun k=>?_) ?_
   ·
    simp only[spec_paGroups.j0]
    rw[if_neg hc]
   ·
    refine grp_loop from_ m ps hp l (by omega) (by omega) (fun f' l' h0 h1 h2=>?_) d from_ acc hd hf (Nat.le_refl _) ?_
    ·
     exact ih (ps.length - f') (by omega) f' l' rfl h1 (by omega) (by omega)
    ·
     have:2 ^ d≤2 ^ 20:=Nat.pow_le_pow_right (by omega) (by omega)
     omega
 cases l with
 | nil =>
  refine Ev.step (f:=fun k=>spec_paGroups.j0 k ps [] (from_:Int) m []) (fun k=>?_) (hj [] (by simp))
  simp[spec_paGroups.f]
 | cons x l =>
  refine Ev.step (f:=fun k=>spec_paGroups.j0 k ps (x :: l) (from_:Int) m [x :: l]) (fun k=>?_) (hj [x :: l] (by simp))
  simp only[spec_paGroups.f]
  rw[if_pos (by simp only[List.length_cons];omega),show spec_l1Own.f (x :: l)=some (x :: l) from l1Own_eq _ (by omega),Option.bind_some,Option.bind_some,if_pos (by simp)]
  simp
def tripsP (s:Int) (st:List Bool) (b:Bool):List (List Int):=grpsF s (sideP b st 0) []
theorem paTrips_loop (s:Int) (st:List Bool) (b:Bool) (y0:List Int) (z0:List Bool) (hs1:1≤s):∀ (r pre:List Bool) (acc:List Int),(pre ++ r).length≤1048576→acc.length+r.length≤20→Ev (fun k=>spec_paTrips.l0 k acc (pre ++ r) ((pre ++ r).length:Int) (pre.length:Int) y0 s z0 b) (grpsF s (acc ++ sideP b r pre.length) []):=by
 intro r
 induction r with
 | nil =>
  intro pre acc hl ha
  simp only[List.length_nil,Nat.add_zero] at ha
  have hg:=paGroups_ev s acc ha acc.length 0 [] (by omega) (by omega) (by simpa using ha) (by simp;omega)
  refine Ev.step (f:=fun k=>(spec_paGroups.f k acc ([]:List Int) ((0:Nat):Int) s).bind fun t=>some t) (fun k=>?_) (ev_eq (Ev.bind hg (Ev.now _)) (by simp[begP,sideP]))
  simp only[spec_paTrips.l0]
  rw[if_neg (nlt_end pre)]
  rfl
 | cons x r ih =>
  intro pre acc hl ha
  simp only[List.length_cons] at ha
  cases hx:x == b with
  | true =>
   refine Ev.step (fun k=>?_) (ev_eq (ih (pre ++ [x]) (acc ++ [(pre.length:Int)]) (by simpa using hl) (by simp;omega)) (by simp[sideP,hx]))
   simp only[spec_paTrips.l0]
   rw[if_pos (lt_mid pre x r),if_pos (zle _),if_pos (lt_mid pre x r),rdOf_mid,hx,if_pos rfl,if_pos (by omega),wr_mid pre x r (by omega),app_mid pre x r]
  | false =>
   refine Ev.step (fun k=>?_) (ev_eq (ih (pre ++ [x]) acc (by simpa using hl) (by omega)) (by simp[sideP,hx]))
   simp only[spec_paTrips.l0]
   rw[if_pos (lt_mid pre x r),if_pos (zle _),if_pos (lt_mid pre x r),rdOf_mid,hx,if_neg (by simp),wr_mid pre x r (by omega),app_mid pre x r]
theorem paTrips_ev (l:List Int) (s:Int) (st:List Bool) (b:Bool) (hs1:1≤s) (hs:st.length≤20):Ev (fun k=>spec_paTrips.f k l s st b) (tripsP s st b):=paTrips_loop s st b l st hs1 st [] [] (by simp;omega) (by simpa using hs)
end Go.Proofs.Ytihieplobgehaaa.Pure

namespace Go.Proofs.Ytihieplobgehaaa.Pure
open Go.RowKit Go.Proofs.Ytihieplobgehaaa.C2 Go.Proofs.Ytihieplobgehaaa.H Go.Proofs.YtihieplobgehaaaW.PrintWords Go.Proofs.YtihieplobgehaaaW.PrintLast Go.Proofs.YtihieplobgehaaaW.PrintMore
set_option linter.unusedVariables false
set_option linter.unusedSimpArgs false
def allB:Nat→List (List Bool)
 | 0=>[[]]
 | n+1=>(allB n).flatMap fun l=>[false :: l,true :: l]
theorem mem_allB:∀ l:List Bool,l ∈ allB l.length:=by
 intro l
 induction l with
 | nil=>simp [allB]
 | cons x l ih =>
  simp only[List.length_cons,allB,List.mem_flatMap]
  exact ⟨l,ih,by cases x <;> simp⟩
def bitI (b:Bool):Int:=if b then 1 else 0
def enI:List Bool→Bool→Int
 | [],t=>bitI t
 | x :: r,t=>2 * enI r t+bitI x
def dcI (n:Nat) (u:Int):List Bool × Bool:=((List.range n).map (fun k=>u / 2 ^ k % 2 == 1),u / 2 ^ n % 2 == 1)
def enS (ov:List Bool) (t:Bool):Int:=ov.foldl (fun a x=>2 * a+bitI x) (bitI t)
def dcS (n:Nat) (u:Int):List Bool × Bool:=((List.range n).map (fun k=>u / 2 ^ (n - 1 - k) % 2 == 1),u / 2 ^ n % 2 == 1)
set_option maxRecDepth 100000 in
theorem chk_en:((List.range 9).all fun n=>(allB n).all fun ov=>[false,true].all fun t=>decide (0≤enI ov t∧enI ov t < 2 ^ (n+1)∧dcI n (enI ov t)=(ov,t)∧0≤enS ov t∧enS ov t < 2 ^ (n+1)∧dcS n (enS ov t)=(ov,t)))=true:=by decide +kernel
set_option maxRecDepth 100000 in
theorem chk_dc:((List.range 9).all fun n=>(List.range (2 ^ (n+1))).all fun u=>decide ((dcI n (u:Int)).1.length=n∧enI (dcI n (u:Int)).1 (dcI n (u:Int)).2=(u:Int)∧(dcS n (u:Int)).1.length=n∧enS (dcS n (u:Int)).1 (dcS n (u:Int)).2=(u:Int)))=true:=by decide +kernel
theorem en_facts {n:Nat} (hn:n≤8) (ov:List Bool) (t:Bool) (hl:ov.length=n):0≤enI ov t∧enI ov t < 2 ^ (n+1)∧dcI n (enI ov t)=(ov,t)∧0≤enS ov t∧enS ov t < 2 ^ (n+1)∧dcS n (enS ov t)=(ov,t):=by
 have h:=List.all_eq_true.1 chk_en n (List.mem_range.2 (by omega))
 have h:=List.all_eq_true.1 h ov (by rw[← hl];exact mem_allB ov)
 exact of_decide_eq_true (List.all_eq_true.1 h t (by cases t <;> simp))
theorem dc_facts {n:Nat} (hn:n≤8) (u:Int) (h0:0≤u) (h1:u < 2 ^ (n+1)):(dcI n u).1.length=n∧enI (dcI n u).1 (dcI n u).2=u∧(dcS n u).1.length=n∧enS (dcS n u).1 (dcS n u).2=u:=by
 have h:=List.all_eq_true.1 chk_dc n (List.mem_range.2 (by omega))
 have e:((u.toNat:Nat):Int)=u:=Int.toNat_of_nonneg h0
 have hu:u.toNat < 2 ^ (n+1):=by
  have:((2 ^ (n+1):Nat):Int)=2 ^ (n+1):=by simp
  omega
 have h:=of_decide_eq_true (List.all_eq_true.1 h u.toNat (List.mem_range.2 hu))
 rwa [e] at h
set_option maxRecDepth 100000 in
theorem chk_code:((List.range 9).all fun n=>(allB n).all fun ov=>[false,true].all fun t=>decide (impl_State_code.f 20 ov t=some (enI ov t)))=true:=by decide +kernel
theorem code_ev {n:Nat} (hn:n≤8) (ov:List Bool) (t:Bool) (hl:ov.length=n):Ev (fun k=>impl_State_code.f k ov t) (enI ov t):=by
 have h:=List.all_eq_true.1 chk_code n (List.mem_range.2 (by omega))
 have h:=List.all_eq_true.1 h ov (by rw[← hl];exact mem_allB ov)
 exact Ev.of (fun k=>impl_State_code.mono _ _ _) (of_decide_eq_true (List.all_eq_true.1 h t (by cases t <;> simp)))
set_option maxRecDepth 100000 in
theorem chk_stateOf:((List.range 9).all fun n=>(List.range (2 ^ (n+1))).all fun u=>decide (impl_stateOf.f 20 (n:Int) (u:Int)=some (dcI n (u:Int))))=true:=by decide +kernel
theorem stateOf_ev {n:Nat} (hn:n≤8) (u:Int) (h0:0≤u) (h1:u < 2 ^ (n+1)):Ev (fun k=>impl_stateOf.f k (n:Int) u) (dcI n u):=by
 have h:=List.all_eq_true.1 chk_stateOf n (List.mem_range.2 (by omega))
 have e:((u.toNat:Nat):Int)=u:=Int.toNat_of_nonneg h0
 have hu:u.toNat < 2 ^ (n+1):=by
  have:((2 ^ (n+1):Nat):Int)=2 ^ (n+1):=by simp
  omega
 have h:=of_decide_eq_true (List.all_eq_true.1 h u.toNat (List.mem_range.2 hu))
 rw[e] at h
 exact Ev.of (fun k=>impl_stateOf.mono _ _ _) h
set_option maxRecDepth 100000 in
theorem chk_seIndex:((List.range 9).all fun n=>(allB n).all fun ov=>[false,true].all fun t=>decide (spec_seIndex.f 20 ov t=some (enS ov t)))=true:=by decide +kernel
theorem seIndex_ev {n:Nat} (hn:n≤8) (ov:List Bool) (t:Bool) (hl:ov.length=n):Ev (fun k=>spec_seIndex.f k ov t) (enS ov t):=by
 have h:=List.all_eq_true.1 chk_seIndex n (List.mem_range.2 (by omega))
 have h:=List.all_eq_true.1 h ov (by rw[← hl];exact mem_allB ov)
 exact Ev.of (fun k=>spec_seIndex.mono _ _ _) (of_decide_eq_true (List.all_eq_true.1 h t (by cases t <;> simp)))
set_option maxRecDepth 100000 in
theorem chk_seState:((List.range 9).all fun n=>(List.range (2 ^ (n+1))).all fun u=>decide (spec_seState.f 20 (u:Int) (n:Int)=some (dcS n (u:Int))))=true:=by decide +kernel
theorem seState_ev {n:Nat} (hn:n≤8) (u:Int) (h0:0≤u) (h1:u < 2 ^ (n+1)):Ev (fun k=>spec_seState.f k u (n:Int)) (dcS n u):=by
 have h:=List.all_eq_true.1 chk_seState n (List.mem_range.2 (by omega))
 have e:((u.toNat:Nat):Int)=u:=Int.toNat_of_nonneg h0
 have hu:u.toNat < 2 ^ (n+1):=by
  have:((2 ^ (n+1):Nat):Int)=2 ^ (n+1):=by simp
  omega
 have h:=of_decide_eq_true (List.all_eq_true.1 h u.toNat (List.mem_range.2 hu))
 rw[e] at h
 exact Ev.of (fun k=>spec_seState.mono _ _ _) h
end Go.Proofs.Ytihieplobgehaaa.Pure

namespace Go.Proofs.Ytihieplobgehaaa.Pure
open Go.RowKit Go.Proofs.Ytihieplobgehaaa.C2 Go.Proofs.Ytihieplobgehaaa.H Go.Proofs.YtihieplobgehaaaW.PrintWords Go.Proofs.YtihieplobgehaaaW.PrintLast Go.Proofs.YtihieplobgehaaaW.PrintMore
set_option linter.unusedVariables false
set_option linter.unusedSimpArgs false
theorem way_rel {E E':Int→Int→Nat→Prop} {S S':Int→Prop} (R:Int→Int→Prop) (hs:∀ s,S s→∃ s',S' s'∧R s s') (he:∀ u u' v c,R u u'→E u v c→∃ v',E' u' v' c∧R v v') {v:Int} {n:Nat} (h:H.Way E S v n):∃ v',R v v'∧H.Way E' S' v' n:=by
 induction h with
 | here h=>obtain ⟨s',h1,h2⟩:=hs _ h;exact ⟨s',h2,H.Way.here h1⟩
 | on hu h ih =>
  obtain ⟨u',h1,h2⟩:=ih
  obtain ⟨v',h3,h4⟩:=he _ _ _ _ h1 h
  exact ⟨v',h4,H.Way.on h2 h3⟩
theorem grpsF_mem (m:Int):∀ (r l g:List Int),g ∈ grpsF m r l ↔ ∃ t,t≠[]∧t.Sublist r∧g=l ++ t∧((l.length+t.length:Nat):Int)≤m:=by
 intro r
 induction r with
 | nil =>
  intro l g
  simp only[grpsF,List.not_mem_nil,false_iff]
  rintro ⟨t,h1,h2,_⟩
  exact h1 (List.eq_nil_of_sublist_nil h2)
 | cons x r ih =>
  intro l g
  simp only[grpsF]
  split
  ·
   rename_i hl
   simp only[List.mem_cons,List.mem_append,ih]
   constructor
   ·
    rintro (rfl|⟨t,h1,h2,rfl,h3⟩|⟨t,h1,h2,rfl,h3⟩)
    ·
     exact ⟨[x],by simp,by simp,rfl,by simp;omega⟩
    ·
     exact ⟨x :: t,by simp,h2.cons_cons x,by simp,by simp only[List.length_append,List.length_cons,List.length_nil] at h3 ⊢;omega⟩
    ·
     exact ⟨t,h1,h2.cons x,rfl,h3⟩
   ·
    rintro ⟨t,h1,h2,rfl,h3⟩
    cases h2 with
    | cons _ h2=>exact .inr (.inr ⟨t,h1,h2,rfl,h3⟩)
    | @cons_cons t' _ _ h2 =>
     by_cases ht:t'=[]
     ·
      subst ht;exact .inl rfl
     ·
      exact .inr (.inl ⟨t',ht,h2,by simp,by simp only[List.length_append,List.length_cons,List.length_nil] at h3 ⊢;omega⟩)
  ·
   rename_i hl
   simp only[List.not_mem_nil,false_iff]
   rintro ⟨t,h1,h2,rfl,h3⟩
   have:0 < t.length:=List.length_pos_iff.2 h1
   omega
theorem sideP_mem (b:Bool):∀ (r:List Bool) (i:Nat) (x:Int),x ∈ sideP b r i ↔ ∃ j:Nat,x=((i+j:Nat):Int)∧r[j]? = some b:=by
 intro r
 induction r with
 | nil=>intro i x;simp[sideP]
 | cons y r ih =>
  intro i x
  have hiff:(∃ j:Nat,x=((i+j:Nat):Int)∧(y :: r)[j]? = some b) ↔ (x=(i:Int)∧y=b)∨∃ j:Nat,x=((i+1+j:Nat):Int)∧r[j]? = some b:=by
   constructor
   ·
    rintro ⟨j,h1,h2⟩
    cases j with
    | zero=>exact .inl ⟨by simpa using h1,by simpa using h2⟩
    | succ j=>exact .inr ⟨j,by rw[h1];congr 1;omega,by simpa using h2⟩
   ·
    rintro (⟨h1,h2⟩|⟨j,h1,h2⟩)
    ·
     exact ⟨0,by simpa using h1,by simpa using h2⟩
    ·
     exact ⟨j+1,by rw[h1];congr 1;omega,by simpa using h2⟩
  rw[hiff,← ih (i+1) x]
  simp only[sideP]
  by_cases hy:y=b
  ·
   rw[if_pos (by simpa using hy),List.mem_cons]
   simp[hy]
  ·
   rw[if_neg (by simpa using hy)]
   simp[hy]
theorem sideP_asc (b:Bool):∀ (r:List Bool) (i:Nat),(sideP b r i).Pairwise (· < ·):=by
 intro r
 induction r with
 | nil=>intro i;simp[sideP]
 | cons y r ih =>
  intro i
  simp only[sideP]
  split
  ·
   refine List.pairwise_cons.2 ⟨fun x hx=>?_,ih _⟩
   obtain ⟨j,rfl,_⟩:=(sideP_mem b r (i+1) x).1 hx
   omega
  ·
   exact ih _
theorem sub_asc:∀ (L t:List Int),L.Pairwise (· < ·)→t.Pairwise (· < ·)→(∀ x ∈ t,x ∈ L)→t.Sublist L:=by
 intro L
 induction L with
 | nil =>
  intro t _ _ h
  cases t with
  | nil=>exact List.Sublist.refl _
  | cons x t=>exact absurd (h x (by simp)) (by simp)
 | cons y L ih =>
  intro t hL ht h
  cases t with
  | nil=>exact List.nil_sublist _
  | cons x t =>
   rw[List.pairwise_cons] at hL ht
   by_cases e:x=y
   ·
    subst e
    refine (ih t hL.2 ht.2 fun z hz=>?_).cons_cons x
    rcases List.mem_cons.1 (h z (by simp[hz])) with rfl|q
    ·
     exact absurd (ht.1 z hz) (by omega)
    ·
     exact q
   ·
    have hx:x ∈ L:=by
     rcases List.mem_cons.1 (h x (by simp)) with q|q
     ·
      exact absurd q e
     ·
      exact q
    have hyx:=hL.1 x hx
    refine (ih (x :: t) hL.2 (List.pairwise_cons.2 ht) fun z hz=>?_).cons y
    rcases List.mem_cons.1 (h z hz) with rfl|q
    ·
     rcases List.mem_cons.1 hz with rfl|hz
     ·
      exact absurd rfl e
     ·
      have:=ht.1 z hz;omega
    ·
     exact q
theorem mv_get (v:Bool):∀ (t:List Int) (o:List Bool) (j:Nat),(∀ x ∈ t,0≤x∧x < (o.length:Int))→(mv v t o)[j]? = if (j:Int) ∈ t then some v else o[j]? := by
 intro t
 induction t with
 | nil=>intro o j _;simp[mv]
 | cons x t ih =>
  intro o j h
  have hx:=h x (by simp)
  simp only[mv]
  rw[ih (o.set x.toNat v) j (fun y hy=>by simpa using h y (by simp[hy])),List.getElem?_set]
  by_cases h1:(j:Int) ∈ t
  ·
   rw[if_pos h1,if_pos (by simp[h1])]
  ·
   rw[if_neg h1]
   by_cases h2:x.toNat=j
   ·
    rw[if_pos h2,if_pos (by omega),if_pos (by simp;left;omega)]
   ·
    rw[if_neg h2,if_neg (by simp only[List.mem_cons,not_or];exact ⟨by omega,h1⟩)]
theorem tripsP_mem {m:Int} {ov:List Bool} {tr:Bool} {t:List Int}:t ∈ tripsP m ov tr ↔ t≠[]∧(t.length:Int)≤m∧t.Pairwise (· < ·)∧∀ x ∈ t,∃ j:Nat,x=(j:Int)∧ov[j]? = some tr:=by
 unfold tripsP
 rw[grpsF_mem]
 constructor
 ·
  rintro ⟨t',h1,h2,e,h3⟩
  have e:t=t':=e
  subst e
  refine ⟨h1,by simpa using h3,(sideP_asc tr ov 0).sublist h2,fun x hx=>?_⟩
  obtain ⟨j,hj,h⟩:=(sideP_mem tr ov 0 x).1 (h2.subset hx)
  exact ⟨j,by simpa using hj,h⟩
 ·
  rintro ⟨h1,h2,h3,h4⟩
  refine ⟨t,h1,sub_asc _ _ (sideP_asc tr ov 0) h3 (fun x hx=>?_),rfl,by simpa using h2⟩
  obtain ⟨j,rfl,h⟩:=h4 x hx
  exact (sideP_mem tr ov 0 _).2 ⟨j,by simp,h⟩
theorem trip_in {m:Int} {ov:List Bool} {tr:Bool} {t:List Int} (h:t ∈ tripsP m ov tr):∀ x ∈ t,0≤x∧x < (ov.length:Int)∧rdOf false ov x=tr:=by
 intro x hx
 obtain ⟨j,rfl,hj⟩:=(tripsP_mem.1 h).2.2.2 x hx
 have:=(List.getElem?_eq_some_iff.1 hj).1
 exact ⟨by omega,by omega,by simp[rdOf,List.getD_eq_getElem?_getD,hj]⟩
theorem mv_back {m:Int} {ov:List Bool} {tr:Bool} {t:List Int} (h:t ∈ tripsP m ov tr):mv tr t (mv (!tr) t ov)=ov:=by
 have hi:=trip_in h
 have h4:=(tripsP_mem.1 h).2.2.2
 apply List.ext_getElem?
 intro j
 rw[mv_get tr t _ j (fun x hx=>by rw[mv_len];exact ⟨(hi x hx).1,(hi x hx).2.1⟩),mv_get (!tr) t ov j (fun x hx=>⟨(hi x hx).1,(hi x hx).2.1⟩)]
 by_cases hj:(j:Int) ∈ t
 ·
  rw[if_pos hj]
  obtain ⟨i,hi2,hv⟩:=h4 _ hj
  have:j=i:=by omega
  subst this
  exact hv.symm
 ·
  rw[if_neg hj,if_neg hj]
theorem trip_back {m:Int} {ov:List Bool} {tr:Bool} {t:List Int} (h:t ∈ tripsP m ov tr):t ∈ tripsP m (mv (!tr) t ov) (!tr):=by
 have hi:=trip_in h
 obtain ⟨h1,h2,h3,h4⟩:=tripsP_mem.1 h
 refine tripsP_mem.2 ⟨h1,h2,h3,fun x hx=>?_⟩
 obtain ⟨j,rfl,hj⟩:=h4 x hx
 exact ⟨j,rfl,by rw[mv_get (!tr) t ov j (fun x hx=>⟨(hi x hx).1,(hi x hx).2.1⟩),if_pos hx]⟩
def cstP (timed:Bool) (l t:List Int):Int:=if timed=true then mxs l t 0 else 1
def EdgP (en:List Bool→Bool→Int) (timed:Bool) (l:List Int) (m:Int) (u v:Int) (c:Nat):Prop:=∃ ov tr t,ov.length=l.length∧u=en ov tr∧t ∈ tripsP m ov tr∧v=en (mv (!tr) t ov) (!tr)∧(c:Int)=cstP timed l t
theorem EdgP_sym (en:List Bool→Bool→Int) (timed:Bool) (l:List Int) (m:Int):∀ u v c,EdgP en timed l m u v c→EdgP en timed l m v u c:=by
 rintro u v c ⟨ov,tr,t,hl,rfl,ht,rfl,hc⟩
 exact ⟨mv (!tr) t ov,!tr,t,by rw[mv_len];exact hl,rfl,trip_back ht,by rw[Bool.not_not,mv_back ht],hc⟩
theorem rd_in (l:List Int) (x:Int) (h0:0≤x) (h1:x < (l.length:Int)):rd l x ∈ l:=by
 have:x.toNat < l.length:=by omega
 simp[rd,List.getD_eq_getElem?_getD,List.getElem?_eq_getElem this]
theorem mxs_le (l:List Int) (B:Int):∀ (t:List Int) (k:Int),k≤B→(∀ x ∈ t,rd l x≤B)→mxs l t k≤B∧k≤mxs l t k∧∀ x ∈ t,rd l x≤mxs l t k:=by
 intro t
 induction t with
 | nil=>intro k hk _;exact ⟨hk,Int.le_refl _,by simp⟩
 | cons x t ih =>
  intro k hk h
  have hx:=h x (by simp)
  obtain ⟨h1,h2,h3⟩:=ih (max k (rd l x)) (by omega) (fun y hy=>h y (by simp[hy]))
  simp only[mxs]
  refine ⟨h1,by omega,fun y hy=>?_⟩
  rcases List.mem_cons.1 hy with rfl|hy
  ·
   omega
  ·
   exact h3 y hy
theorem goodP_times {l:List Int} {m:Int} (h:goodP l m=true):1≤l.length∧l.length≤8∧(∀ x ∈ l,1≤x∧x≤1000)∧1≤m∧m≤3:=by
 simp only[goodP,inB,Bool.and_eq_true,decide_eq_true_eq,List.all_eq_true] at h
 exact ⟨by omega,by omega,fun x hx=>by have:=h.1.2 x hx;omega,by omega,by omega⟩
theorem cst_bound {l:List Int} {m:Int} (h:goodP l m=true) (timed:Bool) {ov:List Bool} {tr:Bool} {t:List Int} (hl:ov.length=l.length) (ht:t ∈ tripsP m ov tr):1≤cstP timed l t∧cstP timed l t≤1000:=by
 obtain ⟨_,_,hx,_⟩:=goodP_times h
 have hi:=trip_in ht
 have h1:=(tripsP_mem.1 ht).1
 unfold cstP
 split
 ·
  have hb:∀ x ∈ t,1≤rd l x∧rd l x≤1000:=fun x hxt=>hx _ (rd_in l x (hi x hxt).1 (by rw[← hl];exact (hi x hxt).2.1))
  obtain ⟨q1,q2,q3⟩:=mxs_le l 1000 t 0 (by omega) (fun x hxt=>(hb x hxt).2)
  cases t with
  | nil=>exact absurd rfl h1
  | cons x t=>have:=q3 x (by simp);have:=hb x (by simp);omega
 ·
  omega
def rIS (n:Nat) (u u':Int):Prop:=∃ ov tr,ov.length=n∧u=enS ov tr∧u'=enI ov tr
theorem enS_inj {n:Nat} (hn:n≤8) {ov ov':List Bool} {tr tr':Bool} (h:ov.length=n) (h':ov'.length=n) (e:enS ov tr=enS ov' tr'):ov=ov'∧tr=tr':=by
 have h1:=(en_facts hn ov tr h).2.2.2.2.2
 have h2:=(en_facts hn ov' tr' h').2.2.2.2.2
 rw[e,h2] at h1
 exact ⟨(Prod.mk.inj h1).1.symm,(Prod.mk.inj h1).2.symm⟩
theorem enI_inj {n:Nat} (hn:n≤8) {ov ov':List Bool} {tr tr':Bool} (h:ov.length=n) (h':ov'.length=n) (e:enI ov tr=enI ov' tr'):ov=ov'∧tr=tr':=by
 have h1:=(en_facts hn ov tr h).2.2.1
 have h2:=(en_facts hn ov' tr' h').2.2.1
 rw[e,h2] at h1
 exact ⟨(Prod.mk.inj h1).1.symm,(Prod.mk.inj h1).2.symm⟩
theorem way_IS {l:List Int} {m:Int} (h:goodP l m=true) (timed:Bool) (ov ov':List Bool) (tr tr':Bool) (hl:ov.length=l.length) (hl':ov'.length=l.length) (k:Nat) :
  H.Way (EdgP enS timed l m) (fun v=>v=enS ov tr) (enS ov' tr') k ↔ H.Way (EdgP enI timed l m) (fun v=>v=enI ov tr) (enI ov' tr') k:=by
 have hn:=(goodP_times h).2.1
 constructor
 ·
  intro hw
  obtain ⟨v',⟨o,b,ho,e,rfl⟩,hw'⟩:=way_rel (E':=EdgP enI timed l m) (S':=fun v=>v=enI ov tr) (rIS l.length) (fun s hs=>⟨enI ov tr,rfl,ov,tr,hl,hs,rfl⟩) (by
   rintro u u' v c ⟨o,b,ho,rfl,rfl⟩ ⟨o2,b2,t,ho2,e,ht,rfl,hc⟩
   obtain ⟨rfl,rfl⟩:=enS_inj hn ho ho2 e
   exact ⟨_,⟨o,b,t,ho,rfl,ht,rfl,hc⟩,_,_,by rw[mv_len];exact ho,rfl,rfl⟩) hw
  obtain ⟨rfl,rfl⟩:=enS_inj hn hl' ho e
  exact hw'
 ·
  intro hw
  obtain ⟨v',⟨o,b,ho,rfl,e⟩,hw'⟩:=way_rel (E':=EdgP enS timed l m) (S':=fun v=>v=enS ov tr) (fun u' u=>rIS l.length u u') (fun s hs=>⟨enS ov tr,rfl,ov,tr,hl,rfl,hs⟩) (by
   rintro u' u v c ⟨o,b,ho,rfl,rfl⟩ ⟨o2,b2,t,ho2,e,ht,rfl,hc⟩
   obtain ⟨rfl,rfl⟩:=enI_inj hn ho ho2 e
   exact ⟨_,⟨o,b,t,ho,rfl,ht,rfl,hc⟩,_,_,by rw[mv_len];exact ho,rfl,rfl⟩) hw
  obtain ⟨rfl,rfl⟩:=enI_inj hn hl' ho e
  exact hw'
end Go.Proofs.Ytihieplobgehaaa.Pure

namespace Go.Proofs.Ytihieplobgehaaa.Pure
open Go.RowKit Go.Proofs.Ytihieplobgehaaa.C2 Go.Proofs.Ytihieplobgehaaa.H Go.Proofs.YtihieplobgehaaaW.PrintWords Go.Proofs.YtihieplobgehaaaW.PrintLast Go.Proofs.YtihieplobgehaaaW.PrintMore
set_option linter.unusedVariables false
set_option linter.unusedSimpArgs false
def timeP (l:List Int):List Int→Int→Int
 | [],m=>m
 | x :: r,m=>timeP l r (if m > rd l x then m else rd l x)
theorem paTime_loop (l:List Int) (s:Int):∀ (r pre:List Int) (m:Int),(pre ++ r).length≤9223372036854775807→(∀ x ∈ r,0≤x∧x < (l.length:Int))→Ev (fun k=>spec_paTime.l0 k m (pre ++ r) ((pre ++ r).length:Int) (pre.length:Int) l s) (timeP l r m):=by
 intro r
 induction r with
 | nil =>
  intro pre m hl hi
  refine Ev.step (f:=fun _=>some _) (fun k=>?_) (Ev.now _)
  simp only[spec_paTime.l0]
  rw[if_neg (nlt_end pre)]
  rfl
 | cons x r ih =>
  intro pre m hl hi
  have hx:=hi x (by simp)
  refine Ev.step (fun k=>?_) (ih (pre ++ [x]) (if m > rd l x then m else rd l x) (by simpa using hl) (fun y hy=>hi y (by simp[hy])))
  simp only[spec_paTime.l0]
  rw[if_pos (lt_mid pre x r),if_pos (zle _),if_pos (lt_mid pre x r),rd_mid,if_pos hx.1,if_pos hx.2,show spec_l1Most.f m (rd l x)=some (if m > rd l x then m else rd l x) by unfold spec_l1Most.f;split <;> rfl,Option.bind_some,wr_mid pre x r hl,app_mid pre x r]
end Go.Proofs.Ytihieplobgehaaa.Pure

namespace Go.Proofs.Ytihieplobgehaaa.Pure
open Go.RowKit Go.Proofs.Ytihieplobgehaaa.C2 Go.Proofs.Ytihieplobgehaaa.H Go.Proofs.YtihieplobgehaaaW.PrintWords Go.Proofs.YtihieplobgehaaaW.PrintLast Go.Proofs.YtihieplobgehaaaW.PrintMore
set_option linter.unusedVariables false
set_option linter.unusedSimpArgs false
theorem DInv_congr {E:Int→Int→Nat→Prop} {S:Int→Prop} {n:Nat} {far:List Int} {dn dn':Int→Bool} (h:DInv E S n far dn) (hb:Bounded E S n) (he:∀ v,0≤v→v < (n:Int)→dn v=dn' v):DInv E S n far dn' :=
 ⟨h.len,h.range,fun v h0 h1 hd=>h.pos v h0 h1 ((he v h0 h1).trans hd),fun v h0 h1 hd=>h.least v h0 h1 ((he v h0 h1).trans hd),fun v h0 h1 hd u u0 u1 hu=>h.order v h0 h1 ((he v h0 h1).trans hd) u u0 u1 ((he u u0 u1).trans hu),fun u h0 h1 hd=>h.edges u h0 h1 ((he u h0 h1).trans hd),h.start⟩
def selP (far:List Int) (dl:List Bool):Nat→Int→Int→Int
 | 0,_,a=>a
 | r+1,i,a=>selP far dl r (i+1) (if rdOf false dl i=true then a else if 0≤rd far i then (if a < 0 then i else if rd far i < rd far a then i else a) else a)
theorem selP_ok (far:List Int) (dl:List Bool) (N:Int):∀ (r:Nat) (i a:Int),0≤i→i+r=N→(a = -1∨0≤a∧a < N∧rdOf false dl a=false∧0≤rd far a)→(∀ u,0≤u→u < i→rdOf false dl u=false→0≤rd far u→0≤a∧rd far a≤rd far u) →
  (selP far dl r i a = -1∨0≤selP far dl r i a∧selP far dl r i a < N∧rdOf false dl (selP far dl r i a)=false∧0≤rd far (selP far dl r i a))∧∀ u,0≤u→u < N→rdOf false dl u=false→0≤rd far u→0≤selP far dl r i a∧rd far (selP far dl r i a)≤rd far u:=by
 intro r
 induction r with
 | zero=>intro i a _ hi ha h;exact ⟨ha,fun u u0 u1=>h u u0 (by omega)⟩
 | succ r ih =>
  intro i a h0 hi ha h
  simp only[selP]
  apply ih (i+1) _ (by omega) (by omega)
  ·
   cases hd:rdOf false dl i with
   | true=>simpa using ha
   | false =>
    simp only[Bool.false_eq_true,if_false]
    by_cases hf:0≤rd far i
    ·
     rw[if_pos hf]
     split
     ·
      exact .inr ⟨h0,by omega,hd,hf⟩
     ·
      split
      ·
       exact .inr ⟨h0,by omega,hd,hf⟩
      ·
       exact ha
    ·
     rw[if_neg hf];exact ha
  ·
   intro u u0 u1 hu hfu
   by_cases e:u=i
   ·
    subst e
    rw[if_neg (by rw[hu];decide),if_pos hfu]
    split
    ·
     exact ⟨u0,Int.le_refl _⟩
    ·
     split
     ·
      exact ⟨u0,Int.le_refl _⟩
     ·
      exact ⟨by omega,by omega⟩
   ·
    have hh:=h u u0 (by omega) hu hfu
    cases hd:rdOf false dl i with
    | true=>simpa using hh
    | false =>
     simp only[Bool.false_eq_true,if_false]
     split
     ·
      split
      ·
       omega
      ·
       split
       ·
        exact ⟨h0,by omega⟩
       ·
        exact hh
     ·
      exact hh
theorem dk_keep (b:Int) (n:Nat) (B:Int) (a:Int) (a0:0≤a) (a1:a < (n:Int)) (hb0:0≤b):∀ (L:List (Int × Int)) (far:List Int),far.length=n→(∀ e ∈ L,0≤e.1∧e.1 < (n:Int)∧1≤e.2∧b+e.2≤B)→rd far a=b→(∀ v,0≤v→v < (n:Int)→rd far v≤B) →
  (dkRelax b L far).length=n∧rd (dkRelax b L far) a=b∧∀ v,0≤v→v < (n:Int)→rd (dkRelax b L far) v≤B:=by
 intro L
 induction L with
 | nil=>intro far hl _ ha h;exact ⟨hl,ha,h⟩
 | cons e L ih =>
  intro far hl hL ha h
  obtain ⟨e0,e1,e2,e3⟩:=hL e (by simp)
  have hs:=fun v (hv:0≤v)=>rd_set far e.1 v (b+e.2) e0 (by omega) hv
  simp only[dkRelax]
  split
  ·
   rename_i hc
   refine ih _ (by simpa using hl) (fun x hx=>hL x (by simp[hx])) ?_ (fun v v0 v1=>?_)
   ·
    rw[hs a a0,if_neg (by rintro rfl;omega)];exact ha
   ·
    rw[hs v v0]
    split
    ·
     exact e3
    ·
     exact h v v0 v1
  ·
   exact ih far hl (fun x hx=>hL x (by simp[hx])) ha h
theorem timeP_mxs (l:List Int):∀ (r:List Int) (m:Int),timeP l r m=mxs l r m:=by
 intro r
 induction r with
 | nil=>intro m;rfl
 | cons x r ih=>intro m;simp only[timeP,mxs];rw[ih];congr 1;split <;> omega
section
variable {l:List Int} {m:Int}
def ndS (l:List Int) (m:Int) (ov:List Bool) (tr:Bool):List (Int × Int):=(tripsP m ov tr).map fun t=>(enS (mv (!tr) t ov) (!tr),mxs l t 0)
theorem far_l3 (h:goodP l m=true) (N:Nat) (hN:(N:Int)=2 ^ (l.length+1)) (a b B:Int) (a0:0≤a) (a1:a < (N:Int)) (hb0:0≤b) (hB:b+1000≤B) (hB2:B≤1000000000) (dl:List Bool) (ov:List Bool) (tr:Bool) (hl:ov.length=l.length) (R:List Int) (ts:List (List Int)) (hts:ts.length≤1048576) (hti:∀ t ∈ ts,t ∈ tripsP m ov tr) :
  ∀ (r pre:List (List Int)) (far:List Int),ts=pre ++ r→far.length=N→rd far a=b→(∀ v,0≤v→v < (N:Int)→rd far v≤B) →
   Ev (fun k=>spec_seFar.l1 k (dkRelax b (r.map fun t=>(enS (mv (!tr) t ov) (!tr),mxs l t 0)) far) dl l m) R →
   Ev (fun k=>spec_seFar.l3 k far dl a ts (ts.length:Int) (pre.length:Int) l m ov tr) R:=by
 obtain ⟨_,hn,hx,hm⟩:=goodP_times h
 intro r
 induction r with
 | nil =>
  intro pre far e hl' ha hf hc
  subst e
  refine Ev.step (fun k=>spec_seFar.l3.eq_2 ..) ?_
  simp only[if_neg (nlt_end pre)]
  exact hc
 | cons t r ih =>
  intro pre far e hl' ha hf hc
  have ht:=hti t (by rw[e];simp)
  have hi:=trip_in ht
  have htl:t.length≤1048576:=by have:=(tripsP_mem.1 ht).2.1;omega
  have hen:=en_facts hn (mv (!tr) t ov) (!tr) (by rw[mv_len];exact hl)
  have hcb:=cst_bound h true hl ht
  simp only[cstP,if_true] at hcb
  subst e
  refine Ev.step (fun k=>spec_seFar.l3.eq_2 ..) ?_
  have hrd:rd_L2 (pre ++ t :: r) (pre.length:Int)=t:=rdOf_mid [] pre t r
  rw[hrd,wr_mid pre t r (by omega)]
  simp only[if_pos (lt_mid pre t r),if_pos (zle pre.length),if_pos a0,if_pos (show a < (far.length:Int) by omega)]
  refine Ev.bind (paCross_ev ov tr t (by omega) htl (fun x hx=>⟨(hi x hx).1,(hi x hx).2.1⟩) (fun x hx=>(hi x hx).2.2)) ?_
  dsimp only
  refine Ev.bind (seIndex_ev hn (mv (!tr) t ov) (!tr) (by rw[mv_len];exact hl)) ?_
  have htm:Ev (fun k=>spec_paTime.f k l m t) (mxs l t 0):=by
   rw[← timeP_mxs]
   exact paTime_loop l m t [] 0 (by simp;omega) (fun x hx=>⟨(hi x hx).1,by rw[← hl];exact (hi x hx).2.1⟩)
  refine Ev.bind htm ?_
  rw[ha,wr_id (a:=b+mxs l t 0) (by omega) (by omega)]
  generalize hv:enS (mv (!tr) t ov) (!tr)=v at hen hc ⊢
  simp only[if_pos hen.2.2.2.1,if_pos (show v < (far.length:Int) by omega)]
  have hs:=fun u (hu:0≤u)=>rd_set far v u (b+mxs l t 0) hen.2.2.2.1 (by omega) hu
  simp only[List.map_cons,hv,dkRelax] at hc
  have hset:∀ (u:Int),0≤u→u < (N:Int)→rd (far.set v.toNat (b+mxs l t 0)) u≤B:=fun u u0 u1=>by
   rw[hs u u0]
   split
   ·
    omega
   ·
    exact hf u u0 u1
  by_cases h1:rd far v < 0
  ·
   rw[if_pos (.inl h1)] at hc
   simp only[if_pos h1]
   rw[show ((pre ++ [t]).length:Int)=((pre ++ [t]).length:Int) from rfl]
   refine ih (pre ++ [t]) _ (by simp) (by simpa using hl') ?_ hset hc
   rw[hs a a0,if_neg (by rintro rfl;omega)];exact ha
  ·
   simp only[if_neg h1]
   by_cases h2:b+mxs l t 0 < rd far v
   ·
    rw[if_pos (.inr h2)] at hc
    simp only[if_pos h2]
    refine ih (pre ++ [t]) _ (by simp) (by simpa using hl') ?_ hset hc
    rw[hs a a0,if_neg (by rintro rfl;omega)];exact ha
   ·
    rw[if_neg (by omega)] at hc
    simp only[if_neg h2]
    exact ih (pre ++ [t]) far (by simp) hl' ha hf hc
theorem far_l2 (N:Nat) (hN2:N≤1000) (far:List Int) (dl:List Bool) (hl:far.length=N) (hd:dl.length=N) (R:List Int):∀ (r:Nat) (i:Nat) (a:Int),i+r=N→(a = -1∨0≤a∧a < (N:Int)) →
  Ev (fun k=>if selP far dl r (i:Int) a < 0 then (some far) else (if 0≤selP far dl r (i:Int) a then (if selP far dl r (i:Int) a < (dl.length:Int) then ((spec_seState.f k (selP far dl r (i:Int) a) (l.length:Int)).bind fun bt204=>((spec_paTrips.f k l m bt204.1 bt204.2).bind fun t209=>(spec_seFar.l3 k far (dl.set (selP far dl r (i:Int) a).toNat true) (selP far dl r (i:Int) a) t209 (t209.length:Int) 0 l m bt204.1 bt204.2))) else (none)) else (none))) R →
  Ev (fun k=>spec_seFar.l2 k far dl a far (N:Int) (i:Int) l m) R:=by
 intro r
 induction r with
 | zero =>
  intro i a hi ha h
  refine Ev.step (fun k=>spec_seFar.l2.eq_2 ..) ?_
  simp only[if_neg (show ¬ (i:Int) < (N:Int) by omega)]
  exact h
 | succ r ih =>
  intro i a hi ha h
  refine Ev.step (fun k=>spec_seFar.l2.eq_2 ..) ?_
  rw[wr_id (a:=(i:Int)+1) (by omega) (by omega)]
  simp only[if_pos (show (i:Int) < (N:Int) by omega),if_pos (zle i),if_pos (show (i:Int) < (far.length:Int) by omega),if_pos (show (i:Int) < (dl.length:Int) by omega)]
  simp only[selP] at h
  have go:=ih (i+1)
  rw[show ((i+1:Nat):Int)=(i:Int)+1 by omega] at go
  cases hdn:rdOf false dl (i:Int) with
  | true =>
   simp only[hdn,if_true] at h ⊢
   exact go a (by omega) ha h
  | false =>
   simp only[hdn,Bool.false_eq_true,if_false] at h ⊢
   by_cases hf:0≤rd far (i:Int)
   ·
    simp only[if_pos hf] at h
    simp only[if_pos (show rd far (i:Int) ≥ 0 from hf)]
    by_cases ha0:a < 0
    ·
     simp only[if_pos ha0] at h ⊢
     exact go i (by omega) (.inr ⟨by omega,by omega⟩) h
    ·
     simp only[if_neg ha0] at h ⊢
     simp only[if_pos (show 0≤a by omega),if_pos (show a < (far.length:Int) by omega)]
     by_cases hlt:rd far (i:Int) < rd far a
     ·
      simp only[if_pos hlt] at h ⊢
      exact go i (by omega) (.inr ⟨by omega,by omega⟩) h
     ·
      simp only[if_neg hlt] at h ⊢
      exact go a (by omega) ha h
   ·
    simp only[if_neg hf] at h
    simp only[if_neg (show ¬ rd far (i:Int) ≥ 0 from hf)]
    exact go a (by omega) ha h
theorem edgP_bounded (h:goodP l m=true) (N:Nat) (hN:(N:Int)=2 ^ (l.length+1)) (s:Int) (hs:0≤s∧s < (N:Int)):Bounded (EdgP enS true l m) (fun v=>v=s) N:=by
 have hn:=(goodP_times h).2.1
 refine ⟨?_,fun v hv=>by subst hv;exact hs⟩
 rintro u v c ⟨ov,tr,t,hl,rfl,ht,rfl,hc⟩
 have h1:=en_facts hn ov tr hl
 have h2:=en_facts hn (mv (!tr) t ov) (!tr) (by rw[mv_len];exact hl)
 have h3:=cst_bound h true hl ht
 omega
theorem ndS_iff (h:goodP l m=true) (ov:List Bool) (tr:Bool) (hl:ov.length=l.length) (v:Int) (c:Nat):EdgP enS true l m (enS ov tr) v c ↔ (v,(c:Int)) ∈ ndS l m ov tr:=by
 have hn:=(goodP_times h).2.1
 unfold ndS
 rw[List.mem_map]
 constructor
 ·
  rintro ⟨ov',tr',t,hl',e,ht,rfl,hc⟩
  obtain ⟨rfl,rfl⟩:=enS_inj hn hl hl' e
  refine ⟨t,ht,?_⟩
  rw[hc]
  rfl
 ·
  rintro ⟨t,ht,e⟩
  obtain ⟨e1,e2⟩:=Prod.mk.inj e
  exact ⟨ov,tr,t,hl,rfl,ht,e1.symm,e2.symm⟩
theorem cnt_true_set:∀ (dl:List Bool) (a:Nat),a < dl.length→rdOf false dl (a:Int)=false→(dl.set a true).countP (fun x => !x)+1=dl.countP (fun x => !x):=by
 intro dl
 induction dl with
 | nil=>intro a h;simp at h
 | cons x dl ih =>
  intro a h hx
  cases a with
  | zero =>
   have:x=false:=by simpa [rdOf] using hx
   subst this
   simp[List.countP_cons]
  | succ a =>
   have:=ih a (by simpa using h) (by simpa [rdOf] using hx)
   simp only[List.set_cons_succ,List.countP_cons]
   omega
theorem rdB_set (dl:List Bool) (a v:Int) (a0:0≤a) (a1:a < (dl.length:Int)) (v0:0≤v):rdOf false (dl.set a.toNat true) v=(decide (v=a) || rdOf false dl v):=by
 unfold rdOf
 rw[List.getD_eq_getElem?_getD,List.getD_eq_getElem?_getD,List.getElem?_set]
 by_cases e:v=a
 ·
  subst e
  rw[if_pos rfl,if_pos (by omega)]
  simp
 ·
  rw[if_neg (by omega),decide_eq_false e,Bool.false_or]
theorem far_l1 (h:goodP l m=true) (N:Nat) (hN:(N:Int)=2 ^ (l.length+1)) (hN2:N≤512) (s:Int) (hs:0≤s∧s < (N:Int)) :
  ∀ (g:Nat) (far:List Int) (dl:List Bool),dl.countP (fun x => !x)≤g→g≤512→dl.length=N→DInv (EdgP enS true l m) (fun v=>v=s) N far (fun v=>rdOf false dl v)→(∀ v,0≤v→v < (N:Int)→rd far v≤1000 * (512 - (g:Int))) →
   ∃ far',Ev (fun k=>spec_seFar.l1 k far dl l m) far'∧far'.length=N∧(∀ v,0≤v→v < (N:Int)→rd far' v≤1000 * 512)∧∀ v,0≤v→v < (N:Int)→IsLeast (H.Way (EdgP enS true l m) (fun v=>v=s) v) (rd far' v):=by
 have hB:=edgP_bounded h N hN s hs
 obtain ⟨hn1,hn,hx,hm1,hm3⟩:=goodP_times h
 intro g
 induction g with
 | zero =>
  intro far dl hg hg2 hdl hI hle
  have hall:∀ v,0≤v→v < (N:Int)→rdOf false dl v=true:=by
   intro v v0 v1
   have:dl.countP (fun x => !x)=0:=by omega
   rw[List.countP_eq_zero] at this
   have hv:v.toNat < dl.length:=by omega
   have:=this (dl[v.toNat]) (List.getElem_mem hv)
   simpa [rdOf,List.getD_eq_getElem?_getD,List.getElem?_eq_getElem hv] using this
  obtain ⟨s1,s2⟩:=selP_ok far dl (N:Int) N 0 (-1) (by omega) (by omega) (.inl rfl) (fun u u0 u1=>by omega)
  have hsel:selP far dl N 0 (-1) = -1:=by
   rcases s1 with q|⟨q0,q1,q2,_⟩
   ·
    exact q
   ·
    rw[hall _ q0 q1] at q2;cases q2
  refine ⟨far,?_,hI.len,fun v v0 v1=>by have:=hle v v0 v1;omega,hI.fin hB (fun v v0 v1 hd=>by rw[hall v v0 v1] at hd;cases hd)⟩
  refine Ev.step (fun k=>spec_seFar.l1.eq_2 ..) ?_
  rw[hI.len]
  refine far_l2 N (by omega) far dl hI.len hdl far N 0 (-1) (by omega) (.inl rfl) ?_
  rw[show ((0:Nat):Int)=0 from rfl,hsel]
  simp only[if_pos (show (-1:Int) < 0 by omega)]
  exact Ev.now _
 | succ g ih =>
  intro far dl hg hg2 hdl hI hle
  obtain ⟨s1,s2⟩:=selP_ok far dl (N:Int) N 0 (-1) (by omega) (by omega) (.inl rfl) (fun u u0 u1=>by omega)
  rcases s1 with hsel|⟨a0,a1,a2,a3⟩
  ·
   refine ⟨far,?_,hI.len,fun v v0 v1=>by have:=hle v v0 v1;omega,hI.fin hB (fun v v0 v1 hd=>?_)⟩
   ·
    refine Ev.step (fun k=>spec_seFar.l1.eq_2 ..) ?_
    rw[hI.len]
    refine far_l2 N (by omega) far dl hI.len hdl far N 0 (-1) (by omega) (.inl rfl) ?_
    rw[show ((0:Nat):Int)=0 from rfl,hsel]
    simp only[if_pos (show (-1:Int) < 0 by omega)]
    exact Ev.now _
   ·
    by_cases hf:0≤rd far v
    ·
     have:=(s2 v v0 v1 hd hf).1;omega
    ·
     omega
  ·
   generalize hsel:selP far dl N 0 (-1)=a at a0 a1 a2 a3 s2
   obtain ⟨q1,q2,q3,q4⟩:=dc_facts hn a a0 (by rw[← hN];exact a1)
   have hst:=seState_ev hn a a0 (by rw[← hN];exact a1)
   obtain ⟨ov,tr,hds⟩:∃ ov tr,dcS l.length a=(ov,tr):=⟨_,_,rfl⟩
   rw[hds] at q3 q4 hst
   dsimp only at q3 q4
   subst q4
   have hlt:=hle _ a0 a1
   have hL2:∀ e ∈ ndS l m ov tr,0≤e.1∧e.1 < (N:Int)∧1≤e.2∧e.2≤1000:=by
    intro e he
    unfold ndS at he
    obtain ⟨t,ht,rfl⟩:=List.mem_map.1 he
    have h2:=en_facts hn (mv (!tr) t ov) (!tr) (by rw[mv_len];exact q3)
    have h3:=cst_bound h true q3 ht
    simp only[cstP,if_true] at h3
    exact ⟨h2.2.2.2.1,by rw[hN];exact h2.2.2.2.2.1,h3.1,h3.2⟩
   have hstep:=hI.step hB a0 a1 a2 a3 (fun u u0 u1 hu hf=>(s2 u u0 u1 hu hf).2) (ndS l m ov tr) (fun v c=>ndS_iff h ov tr q3 v c) (fun e he=>by have:=hL2 e he;omega)
   obtain ⟨k1,k2,k3⟩:=dk_keep (rd far (enS ov tr)) N (1000 * (512 - (g:Int))) (enS ov tr) a0 a1 a3 (ndS l m ov tr) far hI.len (fun e he=>by have:=hL2 e he;omega) rfl (fun v v0 v1=>by have:=hle v v0 v1;omega)
   have hI':=DInv_congr (dn':=fun v=>rdOf false (dl.set (enS ov tr).toNat true) v) hstep hB (fun v v0 v1=>(rdB_set dl (enS ov tr) v a0 (by omega) v0).symm)
   have hcnt:=cnt_true_set dl (enS ov tr).toNat (by omega) (by rw[Int.toNat_of_nonneg a0];exact a2)
   obtain ⟨far',e1,e2,e3,e4⟩:=ih _ (dl.set (enS ov tr).toNat true) (by omega) (by omega) (by simpa using hdl) hI' k3
   refine ⟨far',?_,e2,e3,e4⟩
   refine Ev.step (fun k=>spec_seFar.l1.eq_2 ..) ?_
   rw[hI.len]
   refine far_l2 N (by omega) far dl hI.len hdl far' N 0 (-1) (by omega) (.inl rfl) ?_
   rw[show ((0:Nat):Int)=0 from rfl,hsel]
   simp only[if_neg (show ¬ enS ov tr < 0 by omega),if_pos a0,if_pos (show enS ov tr < (dl.length:Int) by omega)]
   refine Ev.bind hst ?_
   dsimp only
   refine Ev.bind (paTrips_ev l m ov tr hm1 (by omega)) ?_
   have hgl:=grpsF_len m (sideP tr ov 0) []
   have hsl:=sideP_len tr ov 0
   have hpw:2 ^ (sideP tr ov 0).length≤2 ^ 8:=Nat.pow_le_pow_right (by omega) (by omega)
   refine far_l3 h N hN (enS ov tr) (rd far (enS ov tr)) (1000 * (512 - (g:Int))) a0 a1 a3 (by omega) (by omega) (dl.set (enS ov tr).toNat true) ov tr q3 far' (tripsP m ov tr) (by unfold tripsP;omega) (fun t ht=>ht) (tripsP m ov tr) [] far rfl hI.len rfl (fun v v0 v1=>by have:=hle v v0 v1;omega) ?_
   exact e1
end
end Go.Proofs.Ytihieplobgehaaa.Pure

namespace Go.Proofs.Ytihieplobgehaaa.Pure
open Go.RowKit Go.Proofs.Ytihieplobgehaaa.C2 Go.Proofs.Ytihieplobgehaaa.H Go.Proofs.YtihieplobgehaaaW.PrintWords Go.Proofs.YtihieplobgehaaaW.PrintLast Go.Proofs.YtihieplobgehaaaW.PrintMore
set_option linter.unusedVariables false
set_option linter.unusedSimpArgs false
theorem shl2 {n:Nat} (h:n≤8):shl .i64 2 (n:Int)=((2 ^ (n+1):Nat):Int):=by
 have:n=0∨n=1∨n=2∨n=3∨n=4∨n=5∨n=6∨n=7∨n=8:=by omega
 rcases this with rfl|rfl|rfl|rfl|rfl|rfl|rfl|rfl|rfl <;> decide +kernel
theorem pow_nat (n:Nat):((2 ^ (n+1):Nat):Int)=2 ^ (n+1):=by simp
theorem paFirst_eq (l:List Int) (m:Int) (hl:l.length≤1048576):spec_paFirst.f l m=some (List.replicate l.length false,false):=by
 unfold spec_paFirst.f
 rw[if_pos (zle _),if_pos (show ((l.length:Int)).toNat≤281474976710656 by omega),Int.toNat_natCast]
theorem paLast_ev (l:List Int) (m:Int) (hl:l.length≤1048576):Ev (fun k=>spec_paLast.f k l m) (List.replicate l.length true,true):=paLast_loop l l.length 0 [] (by omega) hl rfl
section
variable {l:List Int} {m:Int}
theorem far_fill (fo:List Bool) (ft:Bool) (dl:List Bool) (R:List Int):∀ (n:Nat) (pre:List Int),(∀ v ∈ pre,v = -1)→pre.length+n≤1000→Ev (fun k=>(spec_seIndex.f k fo ft).bind fun t198=>(if 0≤t198 then (if t198 < ((List.replicate (pre.length+n) (-1:Int)).length:Int) then (spec_seFar.l1 k ((List.replicate (pre.length+n) (-1:Int)).set (t198:Int).toNat 0) dl l m) else (none)) else (none))) R →
  Ev (fun k=>spec_seFar.l0 k (pre ++ List.replicate n 0) dl ((pre.length+n:Nat):Int) (pre.length:Int) l m fo ft) R:=by
 intro n
 induction n with
 | zero =>
  intro pre hp hl h
  have e:pre=List.replicate (pre.length+0) (-1):=List.eq_replicate_iff.2 ⟨by simp,hp⟩
  refine Ev.step (fun k=>spec_seFar.l0.eq_2 ..) ?_
  rw[show pre ++ List.replicate 0 0=pre by simp]
  rw[← e] at h
  simp only[if_neg (show ¬ (pre.length:Int) < ((pre.length+0:Nat):Int) by omega)]
  exact h
 | succ n ih =>
  intro pre hp hl h
  refine Ev.step (fun k=>spec_seFar.l0.eq_2 ..) ?_
  rw[List.replicate_succ,set_mid,wr_id (a:=(pre.length:Int)+1) (by omega) (by omega)]
  simp only[if_pos (show (pre.length:Int) < ((pre.length+(n+1):Nat):Int) by omega),if_pos (zle pre.length),if_pos (lt_mid pre (0:Int) (List.replicate n 0))]
  rw[app_mid]
  have:=ih (pre ++ [-1]) (fun v hv=>by
   rcases List.mem_append.1 hv with hv|hv
   ·
    exact hp v hv
   ·
    simpa using hv) (by simp;omega) (by rw[show (pre ++ [(-1:Int)]).length+n=pre.length+(n+1) by simp;omega];exact h)
  rw[show ((pre ++ [(-1:Int)]).length+n:Nat)=pre.length+(n+1) by simp;omega,show (((pre ++ [(-1:Int)]).length:Nat):Int)=(pre.length:Int)+1 by simp] at this
  exact this
theorem seFar_okB (h:goodP l m=true) (fo:List Bool) (ft:Bool) (hf:fo.length=l.length):∃ far,Ev (fun k=>spec_seFar.f k l m fo ft) far∧far.length=2 ^ (l.length+1)∧(∀ v,0≤v→v < (far.length:Int)→rd far v≤512000)∧∀ v,0≤v→v < (far.length:Int)→IsLeast (H.Way (EdgP enS true l m) (fun v=>v=enS fo ft) v) (rd far v):=by
 obtain ⟨_,hn,_⟩:=goodP_times h
 obtain ⟨hp0,hp1,_⟩:=pow_le8 hn
 have hp2:2 ^ (l.length+1)≤512:=by
  have:2 ^ (l.length+1)≤2 ^ 9:=Nat.pow_le_pow_right (by omega) (by omega)
  exact this
 obtain ⟨N,hN⟩:∃ N,N=2 ^ (l.length+1):=⟨_,rfl⟩
 have hNi:(N:Int)=2 ^ (l.length+1):=by rw[hN];exact pow_nat _
 have hs:=en_facts hn fo ft hf
 have hs':0≤enS fo ft∧enS fo ft < (N:Int):=⟨hs.2.2.2.1,by rw[hNi];exact hs.2.2.2.2.1⟩
 have hB:=edgP_bounded h N hNi (enS fo ft) hs'
 have hI:=DInv.init hB (enS fo ft) (fun x=>Iff.rfl)
 have hrep:∀ v,0≤v→v < (N:Int)→rdOf false (List.replicate N false) v=false:=fun v v0 v1=>by
  unfold rdOf
  rw[List.getD_eq_getElem?_getD,List.getElem?_replicate]
  split <;> rfl
 have hI:=DInv_congr (dn':=fun v=>rdOf false (List.replicate N false) v) hI hB (fun v v0 v1=>(hrep v v0 v1).symm)
 obtain ⟨far,e1,e2,e3,e4⟩:=far_l1 h N hNi (by omega) (enS fo ft) hs' 512 _ (List.replicate N false) (Nat.le_trans List.countP_le_length (by rw[List.length_replicate];omega)) (by omega) (by simp) hI (fun v v0 v1=>by
  rw[rd_set _ _ v 0 hs'.1 (by simpa using hs'.2) v0]
  split
  ·
   omega
  ·
   rw[rd_rep N (-1) v v0 v1];omega)
 refine ⟨far,?_,by rw[e2,hN],by rw[e2];intro v v0 v1;have:=e3 v v0 v1;omega,by rw[e2];exact e4⟩
 unfold spec_seFar.f
 rw[shl2 hn,← hN,Int.toNat_natCast]
 simp only[if_pos (zle N),if_pos (show N≤35184372088832 by omega),Option.bind_some,List.length_replicate,Int.toNat_natCast,if_pos (show N≤281474976710656 by omega)]
 have hfl:=far_fill (l:=l) (m:=m) fo ft (List.replicate N false) far N [] (by simp) (by simp;omega) (by
  refine Ev.bind (seIndex_ev hn fo ft hf) ?_
  simp only[List.length_nil,Nat.zero_add,List.length_replicate]
  simp only[if_pos hs'.1,if_pos hs'.2]
  exact e1)
 simpa using hfl
theorem seFar_ok (h:goodP l m=true) (fo:List Bool) (ft:Bool) (hf:fo.length=l.length):∃ far,Ev (fun k=>spec_seFar.f k l m fo ft) far∧far.length=2 ^ (l.length+1)∧∀ v,0≤v→v < (far.length:Int)→IsLeast (H.Way (EdgP enS true l m) (fun v=>v=enS fo ft) v) (rd far v):=by
 obtain ⟨far,f1,f2,_,f4⟩:=seFar_okB h fo ft hf
 exact ⟨far,f1,f2,f4⟩
def esP (timed:Bool) (l:List Int) (m:Int) (u:Int):List Edg:=(tripsP m (dcI l.length u).1 (dcI l.length u).2).map fun t=>(enI (mv (!(dcI l.length u).2) t (dcI l.length u).1) (!(dcI l.length u).2),cstP timed l t,t)
theorem ptyStep_ev (h:goodP l m=true) (timed:Bool) {ov:List Bool} {tr:Bool} (hl:ov.length=l.length) (s:List Edg) {t:List Int} (ht:t ∈ tripsP m ov tr) (hs:s.length < 1099511627776):Ev (fun k=>ptyStep k timed l ov tr s t) (s ++ [(enI (mv (!tr) t ov) (!tr),cstP timed l t,t)]):=by
 have hn:=(goodP_times h).2.1
 have hm:=(goodP_times h).2.2.2
 have hi:=trip_in ht
 have htl:t.length≤1048576:=by have:=(tripsP_mem.1 ht).2.1;omega
 unfold ptyStep ptyCost cstP
 have hc:Ev (fun k=>if timed=true then impl_slowest.f k l t else some 1) (if timed=true then mxs l t 0 else 1):=by
  cases timed with
  | false=>exact Ev.now _
  | true=>exact slowest_ev l t htl (fun x hx=>⟨(hi x hx).1,by rw[← hl];exact (hi x hx).2.1⟩)
 refine Ev.bind hc (Ev.bind (moved_ev ov tr t (by omega) htl (fun x hx=>⟨(hi x hx).1,(hi x hx).2.1⟩)) ?_)
 dsimp only
 refine Ev.bind (code_ev hn (mv (!tr) t ov) (!tr) (by rw[mv_len];exact hl)) ?_
 simp only[if_pos hs]
 exact Ev.now _
theorem fold_ev (h:goodP l m=true) (timed:Bool) {ov:List Bool} {tr:Bool} (hl:ov.length=l.length):∀ (gs:List (List Int)) (s:List Edg),(∀ t ∈ gs,t ∈ tripsP m ov tr)→s.length+gs.length < 1099511627776→Ev (fun k=>gs.foldlM (ptyStep k timed l ov tr) s) (s ++ gs.map fun t=>(enI (mv (!tr) t ov) (!tr),cstP timed l t,t)):=by
 intro gs
 induction gs with
 | nil=>intro s _ _;simp only[List.foldlM_nil,List.map_nil,List.append_nil];exact Ev.now _
 | cons t gs ih =>
  intro s hg hs
  simp only[List.length_cons] at hs
  simp only[List.foldlM_cons,List.map_cons]
  have:=ih (s ++ [(enI (mv (!tr) t ov) (!tr),cstP timed l t,t)]) (fun x hx=>hg x (by simp[hx])) (by simp;omega)
  rw[List.append_assoc] at this
  exact Ev.bind (ptyStep_ev h timed hl s (hg t (by simp)) (by omega)) this
theorem ptyOut_ev (h:goodP l m=true) (timed:Bool) (u:Int) (u0:0≤u) (u1:u < 2 ^ (l.length+1)):Ev (fun k=>ptyOut k timed l m u) (esP timed l m u):=by
 have hn:=(goodP_times h).2.1
 have hd:=dc_facts hn u u0 u1
 unfold ptyOut
 refine Ev.bind (stateOf_ev hn u u0 u1) ?_
 unfold esP
 generalize dcI l.length u=st at hd ⊢
 obtain ⟨ov,tr⟩:=st
 dsimp only at hd ⊢
 refine Ev.bind (side_ev ov tr tr (by omega)) ?_
 have hsl:=sideP_len tr ov 0
 simp only[if_pos (show (sideP tr ov 0).length≤20 by omega)]
 have hgl:=grpsF_len m (sideP tr ov 0) []
 have hpw:2 ^ (sideP tr ov 0).length≤2 ^ 8:=Nat.pow_le_pow_right (by omega) (by omega)
 have:=fold_ev h timed hd.1 (tripsP m ov tr) [] (fun t ht=>ht) (by unfold tripsP;simp;omega)
 simp only[List.nil_append] at this
 exact this
theorem ev_all {α:Type} (f:Nat→Nat→Option α) (r:Nat→α):∀ (N:Nat),(∀ u,u < N→Ev (fun k=>f k u) (r u))→∃ K,∀ k,K≤k→∀ u,u < N→f k u=some (r u):=by
 intro N
 induction N with
 | zero=>intro _;exact ⟨0,fun k _ u hu=>absurd hu (Nat.not_lt_zero _)⟩
 | succ N ih =>
  intro h
  obtain ⟨K1,h1⟩:=ih (fun u hu=>h u (by omega))
  obtain ⟨K2,h2⟩:=h N (by omega)
  refine ⟨max K1 K2,fun k hk u hu=>?_⟩
  by_cases e:u=N
  ·
   subst e;exact h2 k (by omega)
  ·
   exact h1 k (by omega) u (by omega)
theorem from_p (h:goodP l m=true) (timed:Bool) (st:Int) (s0:0≤st) (s1:st < 2 ^ (l.length+1)):∃ r,Ev (fun k=>bkD (ptyOut k timed l m) k 0 (List.replicate (2 ^ (l.length+1)) (-1)) [[st]]) r∧r.length=2 ^ (l.length+1)∧∀ v,0≤v→v < 2 ^ (l.length+1)→IsLeast (H.Way (EdgP enI timed l m) (fun v=>v=st) v) (rd r v):=by
 obtain ⟨hn1,hn,hx,hm⟩:=goodP_times h
 have hp2:2 ^ (l.length+1)≤512:=by
  have:2 ^ (l.length+1)≤2 ^ 9:=Nat.pow_le_pow_right (by omega) (by omega)
  exact this
 have hpi:=pow_nat l.length
 obtain ⟨N,hN⟩:∃ N,N=2 ^ (l.length+1):=⟨_,rfl⟩
 rw[← hN] at hp2 hpi ⊢
 rw[← hpi] at s1 ⊢
 obtain ⟨o1,ho1⟩:∃ o1:Int→Option (List Edg),o1=fun u=>if 0≤u∧u < (N:Int) then some (esP timed l m u) else none:=⟨_,rfl⟩
 have ho1':∀ u,0≤u→u < (N:Int)→o1 u=some (esP timed l m u):=fun u u0 u1=>by rw[ho1];exact if_pos ⟨u0,u1⟩
 have hmem:∀ u,0≤u→u < (N:Int)→∀ v (c:Nat),(∃ e ∈ esP timed l m u,e.1=v∧e.2.1=(c:Int)) ↔ EdgP enI timed l m u v c:=by
  intro u u0 u1 v c
  have hd:=dc_facts hn u u0 (by rw[← hpi];exact u1)
  unfold esP
  generalize hst:dcI l.length u=sst at hd ⊢
  obtain ⟨ov,tr⟩:=sst
  dsimp only at hd ⊢
  constructor
  ·
   rintro ⟨e,he,rfl,hc⟩
   obtain ⟨t,ht,rfl⟩:=List.mem_map.1 he
   exact ⟨ov,tr,t,hd.1,hd.2.1.symm,ht,rfl,hc.symm⟩
  ·
   rintro ⟨ov2,tr2,t,hl2,e,ht,rfl,hc⟩
   obtain ⟨rfl,rfl⟩:=enI_inj hn hd.1 hl2 (hd.2.1.trans e)
   exact ⟨_,List.mem_map.2 ⟨t,ht,rfl⟩,rfl,hc.symm⟩
 have hok:Okay o1 N 1000 256:=by
  intro u u0 u1
  refine ⟨_,ho1' u u0 u1,?_,fun e he=>?_⟩
  ·
   have hd:=dc_facts hn u u0 (by rw[← hpi];exact u1)
   unfold esP
   rw[List.length_map]
   unfold tripsP
   have hsl:=sideP_len (dcI l.length u).2 (dcI l.length u).1 0
   have hgl:=grpsF_len m (sideP (dcI l.length u).2 (dcI l.length u).1 0) []
   have hpw:2 ^ (sideP (dcI l.length u).2 (dcI l.length u).1 0).length≤2 ^ 8:=Nat.pow_le_pow_right (by omega) (by omega)
   omega
  ·
   have hd:=dc_facts hn u u0 (by rw[← hpi];exact u1)
   unfold esP at he
   obtain ⟨t,ht,rfl⟩:=List.mem_map.1 he
   have h2:=en_facts hn (mv (!(dcI l.length u).2) t (dcI l.length u).1) (!(dcI l.length u).2) (by rw[mv_len];exact hd.1)
   have h3:=cst_bound h timed hd.1 ht
   exact ⟨h2.1,by rw[hpi];exact h2.2.1,h3.1,h3.2⟩
 obtain ⟨K,r,r1,r2,r3⟩:=from_ok (starts:=[st]) hok (by omega) (by decide) (by simp[bkLim];omega) (by simp[bkLim];omega) (by intro s hs;have:s=st:=(by simpa using hs);subst this;exact ⟨s0,s1⟩)
 obtain ⟨K2,hK2⟩:=ev_all (fun k u=>ptyOut k timed l m ((u:Nat):Int)) (fun u=>esP timed l m ((u:Nat):Int)) N (fun u hu=>ptyOut_ev h timed u (by omega) (by rw[← hpi];omega))
 refine ⟨r,⟨max K K2+1,fun k hk=>?_⟩,r2,fun v v0 v1=>(r3 v v0 v1).iff (fun n=>?_)⟩
 ·
  obtain ⟨k,rfl⟩:∃ j,k=j+1:=⟨k - 1,by omega⟩
  have hr:=r1 k (by omega)
  unfold fromF at hr
  rw[if_pos (by omega),Int.toNat_natCast] at hr
  refine bkD_up (o1:=o1) (o2:=ptyOut (k+1) timed l m) (fun s es hs=>?_) k 0 _ _ r hr
  rw[ho1] at hs
  dsimp only at hs
  split at hs
  ·
   rename_i hr2
   have:=hK2 (k+1) (by omega) s.toNat (by omega)
   rw[show ((s.toNat:Nat):Int)=s from Int.toNat_of_nonneg hr2.1] at this
   rw[this]
   exact hs
  ·
   cases hs
 ·
  constructor
  ·
   refine H.Way.imp_ (fun u v c he=>?_) (fun s hs=>by simpa using hs)
   obtain ⟨u0,u1,es,e,he1,he2,he3,he4⟩:=he
   rw[ho1' u u0 u1] at he1
   obtain rfl:=Option.some.inj he1
   exact (hmem u u0 u1 v c).1 ⟨e,he2,he3,he4⟩
  ·
   refine H.Way.imp_ (fun u v c he=>?_) (fun s hs=>by simpa using hs)
   have hub:0≤u∧u < (N:Int):=by
    obtain ⟨ov,tr,t,hl,rfl,_⟩:=he
    have:=en_facts hn ov tr hl
    exact ⟨this.1,by rw[hpi];exact this.2.1⟩
   obtain ⟨e,e1,e2,e3⟩:=(hmem u hub.1 hub.2 v c).2 he
   exact ⟨hub.1,hub.2,_,e,ho1' u hub.1 hub.2,e1,e2,e3⟩
theorem last_en {n:Nat} (h:n≤8):impl_last.f (n:Int)=some (enI (List.replicate n true) true)∧enI (List.replicate n false) false=0:=by
 have:n=0∨n=1∨n=2∨n=3∨n=4∨n=5∨n=6∨n=7∨n=8:=by omega
 rcases this with rfl|rfl|rfl|rfl|rfl|rfl|rfl|rfl|rfl <;> exact ⟨by decide +kernel,by decide +kernel⟩
theorem costs_ev (h:goodP l m=true) (timed:Bool):∃ r,Ev (fun k=>impl_Party_costs.f k l m timed) (r,decide (0≤rd r 0))∧r.length=2 ^ (l.length+1)∧∀ v,0≤v→v < 2 ^ (l.length+1)→IsLeast (H.Way (EdgP enI timed l m) (fun v=>v=enI (List.replicate l.length true) true) v) (rd r v):=by
 have hn:=(goodP_times h).2.1
 have hs:=en_facts hn (List.replicate l.length true) true (by simp)
 obtain ⟨r,r1,r2,r3⟩:=from_p h timed _ hs.1 hs.2.1
 refine ⟨r,?_,r2,r3⟩
 unfold impl_Party_costs.f
 rw[isParty_eq,(last_en hn).1]
 simp only[Option.bind_some,h,if_true,if_pos hn]
 refine Ev.bind r1 ?_
 simp only[if_pos r2]
 exact Ev.now _
theorem least_both (h:goodP l m=true):∃ (d:List Int),Ev (fun k=>impl_Party_costs.f k l m true) (d,decide (0≤rd d 0))∧Ev (fun k=>spec_seLeast.f k l m) (rd d 0)∧(rd d 0 = -1∨0≤rd d 0):=by
 have hn:=(goodP_times h).2.1
 obtain ⟨d,d1,d2,d3⟩:=costs_ev h true
 have hlF:(List.replicate l.length false).length=l.length:=by simp
 have hlT:(List.replicate l.length true).length=l.length:=by simp
 obtain ⟨far,f1,f2,f3⟩:=seFar_ok h (List.replicate l.length false) false hlF
 have hT:=en_facts hn (List.replicate l.length true) true hlT
 have hF:=en_facts hn (List.replicate l.length false) false hlF
 have hfl:(far.length:Int)=2 ^ (l.length+1):=by rw[f2];exact pow_nat _
 have hlt:enS (List.replicate l.length true) true < (far.length:Int):=by rw[hfl];exact hT.2.2.2.2.1
 have heq:rd far (enS (List.replicate l.length true) true)=rd d 0:=by
  have e1:=f3 _ hT.2.2.2.1 hlt
  have e2:=d3 (enI (List.replicate l.length false) false) hF.1 hF.2.1
  rw[(last_en hn).2] at e2
  refine IsLeast.uniq (e1.iff (fun k=>?_)) e2
  rw[way_IS h true _ _ _ _ hlF hlT k,← (last_en hn).2]
  exact H.Way.back_iff (EdgP_sym enI true l m)
 have hz:=d3 (enI (List.replicate l.length false) false) hF.1 hF.2.1
 rw[(last_en hn).2] at hz
 refine ⟨d,d1,?_,by rcases hz with ⟨q,_⟩|⟨k,q,_⟩ <;> omega⟩
 unfold spec_seLeast.f
 rw[paFirst_eq l m (by omega)]
 simp only[Option.bind_some]
 refine Ev.bind f1 (Ev.bind (paLast_ev l m (by omega)) ?_)
 dsimp only
 refine Ev.bind (seIndex_ev hn _ true hlT) ?_
 simp only[if_pos (show 0≤enS (List.replicate l.length true) true∧enS (List.replicate l.length true) true < (far.length:Int) from ⟨hT.2.2.2.1,hlt⟩),heq]
 exact Ev.now _
end
end Go.Proofs.Ytihieplobgehaaa.Pure

namespace Go.Proofs.Ytihieplobgehaaa.Pure
open Go.RowKit Go.Proofs.Ytihieplobgehaaa.C2 Go.Proofs.Ytihieplobgehaaa.H Go.Proofs.YtihieplobgehaaaW.PrintWords Go.Proofs.YtihieplobgehaaaW.PrintLast Go.Proofs.YtihieplobgehaaaW.PrintMore
set_option linter.unusedVariables false
set_option linter.unusedSimpArgs false
structure TripsOk (n:Nat) (ok:List Bool→Bool→Prop) (tps:List Bool→Bool→List (List Int)) (cst:List Int→Int) (C M:Nat):Prop where
 n8:n≤8
 cnt:∀ ov tr,ov.length=n→(tps ov tr).length≤M
 cost:∀ ov tr,ov.length=n→∀ t ∈ tps ov tr,1≤cst t∧cst t≤(C:Int)
 tgt:∀ ov tr,ov.length=n→∀ t ∈ tps ov tr,ok (mv (!tr) t ov) (!tr)
 back:∀ ov tr,ov.length=n→ok ov tr→∀ t ∈ tps ov tr,t ∈ tps (mv (!tr) t ov) (!tr)∧mv tr t (mv (!tr) t ov)=ov
def EdgR (en:List Bool→Bool→Int) (n:Nat) (ok:List Bool→Bool→Prop) (tps:List Bool→Bool→List (List Int)) (cst:List Int→Int) (u v:Int) (c:Nat):Prop:=∃ ov tr t,ov.length=n∧ok ov tr∧u=en ov tr∧t ∈ tps ov tr∧v=en (mv (!tr) t ov) (!tr)∧(c:Int)=cst t
section
variable {n:Nat} {ok:List Bool→Bool→Prop} {tps:List Bool→Bool→List (List Int)} {cst:List Int→Int} {C M:Nat}
def esT (n:Nat) (tps:List Bool→Bool→List (List Int)) (cst:List Int→Int) (u:Int):List Edg:=(tps (dcI n u).1 (dcI n u).2).map fun t=>(enI (mv (!(dcI n u).2) t (dcI n u).1) (!(dcI n u).2),cst t,t)
theorem pow_natK (n:Nat):((2 ^ (n+1):Nat):Int)=2 ^ (n+1):=by simp
theorem ev_allK {α:Type} (f:Nat→Nat→Option α) (r:Nat→α):∀ (N:Nat),(∀ u,u < N→Ev (fun k=>f k u) (r u))→∃ K,∀ k,K≤k→∀ u,u < N→f k u=some (r u):=by
 intro N
 induction N with
 | zero=>intro _;exact ⟨0,fun k _ u hu=>absurd hu (Nat.not_lt_zero _)⟩
 | succ N ih =>
  intro h
  obtain ⟨K1,h1⟩:=ih (fun u hu=>h u (by omega))
  obtain ⟨K2,h2⟩:=h N (by omega)
  refine ⟨max K1 K2,fun k hk u hu=>?_⟩
  by_cases e:u=N
  ·
   subst e;exact h2 k (by omega)
  ·
   exact h1 k (by omega) u (by omega)
end
end Go.Proofs.Ytihieplobgehaaa.Pure

namespace Go.Proofs.Ytihieplobgehaaa.Pure
open Go.RowKit Go.Proofs.Ytihieplobgehaaa.C2 Go.Proofs.Ytihieplobgehaaa.H Go.Proofs.YtihieplobgehaaaW.PrintWords Go.Proofs.YtihieplobgehaaaW.PrintLast Go.Proofs.YtihieplobgehaaaW.PrintMore
set_option linter.unusedVariables false
set_option linter.unusedSimpArgs false
section
variable {n:Nat} {ok:List Bool→Bool→Prop} {tps:List Bool→Bool→List (List Int)} {cst:List Int→Int} {C M:Nat}
theorem head_filter_map {α β:Type} (f:α→β) (p:β→Bool) (l:List α):((l.map f).filter p)=(l.filter (fun a=>p (f a))).map f:=by
 induction l with
 | nil=>rfl
 | cons a l ih =>
  simp only[List.map_cons,List.filter_cons]
  cases p (f a) <;> simp [ih]
end
end Go.Proofs.Ytihieplobgehaaa.Pure

namespace Go.Proofs.Ytihieplobgehaaa.Pure
open Go.RowKit Go.Proofs.Ytihieplobgehaaa.C2 Go.Proofs.Ytihieplobgehaaa.H Go.Proofs.YtihieplobgehaaaW.PrintWords Go.Proofs.YtihieplobgehaaaW.PrintLast Go.Proofs.YtihieplobgehaaaW.PrintMore
set_option linter.unusedVariables false
set_option linter.unusedSimpArgs false
theorem ev_uniq {α:Type} {f:Nat→Option α} {a b:α} (ha:Ev f a) (hb:Ev f b):a=b:=by
 obtain ⟨K1,h1⟩:=ha
 obtain ⟨K2,h2⟩:=hb
 have e1:=h1 (max K1 K2) (by omega)
 have e2:=h2 (max K1 K2) (by omega)
 rw[e1] at e2
 exact Option.some.inj e2
section
variable {l:List Int} {m:Int}
theorem party_trips (h:goodP l m=true) (timed:Bool):TripsOk l.length (fun _ _=>True) (tripsP m) (cstP timed l) 1000 256:=by
 obtain ⟨hn1,hn,hx,hm⟩:=goodP_times h
 refine ⟨hn,fun ov tr ho=>?_,fun ov tr ho t ht=>cst_bound h timed ho ht,fun _ _ _ _ _=>trivial,fun ov tr ho _ t ht=>⟨trip_back ht,mv_back ht⟩⟩
 have hsl:=sideP_len tr ov 0
 have hgl:=grpsF_len m (sideP tr ov 0) []
 have hpw:2 ^ (sideP tr ov 0).length≤2 ^ 8:=Nat.pow_le_pow_right (by omega) (by omega)
 unfold tripsP
 omega
def nxP (l:List Int) (m:Int) (far:List Int) (ov:List Bool) (tr:Bool):List (List Int):=(tripsP m ov tr).filter (fun t=>decide (0≤rd far (enS (mv (!tr) t ov) (!tr))) && decide (rd far (enS (mv (!tr) t ov) (!tr))+cstP true l t=rd far (enS ov tr)))
theorem seNext_loop (h:goodP l m=true) (far:List Int) (hfl:(far.length:Int)=2 ^ (l.length+1)) (hf:∀ v,0≤v→v < (far.length:Int) → -1≤rd far v∧rd far v≤1000000) (ov:List Bool) (tr:Bool) (hl:ov.length=l.length) (ts:List (List Int)) (hts:ts.length≤1048576) (hti:∀ t ∈ ts,t ∈ tripsP m ov tr) :
  ∀ (r pre acc:List (List Int)),ts=pre ++ r→acc.length+r.length≤1048576 →
   Ev (fun k=>spec_seNext.l0 k far acc ts (ts.length:Int) (pre.length:Int) l m ov tr) (acc ++ r.filter (fun t=>decide (0≤rd far (enS (mv (!tr) t ov) (!tr))) && decide (rd far (enS (mv (!tr) t ov) (!tr))+cstP true l t=rd far (enS ov tr)))):=by
 obtain ⟨_,hn,hx,hm⟩:=goodP_times h
 intro r
 induction r with
 | nil =>
  intro pre acc e _
  subst e
  refine Ev.step (fun k=>spec_seNext.l0.eq_2 ..) ?_
  simp only[if_neg (nlt_end pre)]
  rw[List.filter_nil,List.append_nil]
  exact Ev.now _
 | cons t r ih =>
  intro pre acc e hacc
  have ht:=hti t (by rw[e];simp)
  have hi:=trip_in ht
  have htl:t.length≤1048576:=by have:=(tripsP_mem.1 ht).2.1;omega
  have hen:=en_facts hn (mv (!tr) t ov) (!tr) (by rw[mv_len];exact hl)
  have heo:=en_facts hn ov tr hl
  have hcb:=cst_bound h true hl ht
  have hcm:cstP true l t=mxs l t 0:=by simp[cstP]
  rw[hcm] at hcb
  have hfv:=hf _ hen.2.2.2.1 (by rw[hfl];exact hen.2.2.2.2.1)
  subst e
  simp only[List.length_cons] at hacc
  refine Ev.step (fun k=>spec_seNext.l0.eq_2 ..) ?_
  have hrd:rd_L2 (pre ++ t :: r) (pre.length:Int)=t:=rdOf_mid [] pre t r
  rw[hrd,wr_mid pre t r (by omega)]
  simp only[if_pos (lt_mid pre t r),if_pos (zle pre.length)]
  refine Ev.bind (paCross_ev ov tr t (by omega) htl (fun x hx=>⟨(hi x hx).1,(hi x hx).2.1⟩) (fun x hx=>(hi x hx).2.2)) ?_
  dsimp only
  refine Ev.bind (seIndex_ev hn (mv (!tr) t ov) (!tr) (by rw[mv_len];exact hl)) ?_
  have htm:Ev (fun k=>spec_paTime.f k l m t) (mxs l t 0):=by
   rw[← timeP_mxs]
   exact paTime_loop l m t [] 0 (by simp;omega) (fun x hx=>⟨(hi x hx).1,by rw[← hl];exact (hi x hx).2.1⟩)
  simp only[List.filter_cons,hcm]
  generalize hv:enS (mv (!tr) t ov) (!tr)=v at hen hfv ⊢
  simp only[if_pos hen.2.2.2.1,if_pos (show v < (far.length:Int) by rw[hfl];exact hen.2.2.2.2.1)]
  by_cases h1:0≤rd far v
  ·
   simp only[if_pos (show rd far v ≥ 0 from h1),decide_eq_true h1,Bool.true_and]
   refine Ev.bind htm (Ev.bind (seIndex_ev hn ov tr hl) ?_)
   rw[wr_id (a:=rd far v+mxs l t 0) (by omega) (by omega)]
   simp only[if_pos heo.2.2.2.1,if_pos (show enS ov tr < (far.length:Int) by rw[hfl];exact heo.2.2.2.2.1)]
   by_cases h2:rd far v+mxs l t 0=rd far (enS ov tr)
   ·
    simp only[if_pos h2,decide_eq_true h2,if_true,if_pos (show acc.length < 5864062014805 by omega)]
    have:=ih (pre ++ [t]) (acc ++ [t]) (by simp) (by simp;omega)
    rw[List.append_assoc] at this
    exact this
   ·
    simp only[if_neg h2,decide_eq_false h2,Bool.false_eq_true,if_false]
    exact ih (pre ++ [t]) acc (by simp) (by omega)
  ·
   simp only[if_neg (show ¬ rd far v ≥ 0 from h1),decide_eq_false h1,Bool.false_and,Bool.false_eq_true,if_false]
   exact ih (pre ++ [t]) acc (by simp) (by omega)
theorem seNext_ev (h:goodP l m=true) (far:List Int) (hfl:(far.length:Int)=2 ^ (l.length+1)) (hf:∀ v,0≤v→v < (far.length:Int) → -1≤rd far v∧rd far v≤1000000) (ov:List Bool) (tr:Bool) (hl:ov.length=l.length):Ev (fun k=>spec_seNext.f k l m far ov tr) (nxP l m far ov tr):=by
 have hT:=party_trips h true
 have hc:=hT.cnt ov tr hl
 unfold spec_seNext.f nxP
 refine Ev.bind (paTrips_ev l m ov tr (by have:=goodP_times h;omega) (by have:=hT.n8;omega)) ?_
 exact seNext_loop h far hfl hf ov tr hl (tripsP m ov tr) (by omega) (fun t ht=>ht) (tripsP m ov tr) [] [] (by simp) (by simp;omega)
theorem party_both (h:goodP l m=true):∃ far r,Ev (fun k=>spec_seFar.f k l m (List.replicate l.length true) true) far∧(far.length:Int)=2 ^ (l.length+1)∧Ev (fun k=>impl_Party_costs.f k l m true) (r,decide (0≤rd r 0))∧r.length=2 ^ (l.length+1)∧(∀ ov tr,ov.length=l.length→rd far (enS ov tr)=rd r (enI ov tr))∧(∀ v,0≤v→v < 2 ^ (l.length+1) → -1≤rd r v∧rd r v≤512000)∧(∀ v,0≤v→v < (far.length:Int) → -1≤rd far v∧rd far v≤1000000) ∧
  Ev (fun k=>spec_seLeast.f k l m) (rd r 0)∧∀ v,0≤v→v < 2 ^ (l.length+1)→IsLeast (H.Way (EdgP enI true l m) (fun v=>v=enI (List.replicate l.length true) true) v) (rd r v):=by
 have hn:=(goodP_times h).2.1
 have hlT:(List.replicate l.length true).length=l.length:=by simp
 obtain ⟨far,f1,f2,f3,f4⟩:=seFar_okB h (List.replicate l.length true) true hlT
 obtain ⟨r,r1,r2,r3⟩:=costs_ev h true
 obtain ⟨d,d1,d2,_⟩:=least_both h
 have ed:=(Prod.mk.inj (ev_uniq d1 r1)).1
 subst ed
 have hfl:(far.length:Int)=2 ^ (l.length+1):=by rw[f2];exact pow_nat _
 have heq:∀ ov tr,ov.length=l.length→rd far (enS ov tr)=rd d (enI ov tr):=fun ov tr ho=>by
  have hv:=en_facts hn ov tr ho
  have e1:=f4 (enS ov tr) hv.2.2.2.1 (by rw[hfl];exact hv.2.2.2.2.1)
  have e2:=r3 (enI ov tr) hv.1 hv.2.1
  exact IsLeast.uniq (e1.iff (fun k=>way_IS h true _ _ _ _ hlT ho k)) e2
 have hs:∀ {P:Nat→Prop} {x:Int},IsLeast P x → -1≤x:=fun hx=>by rcases hx with ⟨q,_⟩|⟨k,q,_⟩ <;> omega
 refine ⟨far,d,f1,hfl,r1,r2,heq,fun v v0 v1=>?_,fun v v0 v1=>⟨hs (f4 v v0 v1),by have:=f3 v v0 v1;omega⟩,d2,r3⟩
 have hd:=dc_facts hn v v0 v1
 have e:=heq (dcI l.length v).1 (dcI l.length v).2 hd.1
 rw[hd.2.1] at e
 have hv:=en_facts hn (dcI l.length v).1 (dcI l.length v).2 hd.1
 have:=f3 _ hv.2.2.2.1 (by rw[hfl];exact hv.2.2.2.2.1)
 exact ⟨hs (r3 v v0 v1),by omega⟩
end
end Go.Proofs.Ytihieplobgehaaa.Pure

namespace Go.Proofs.Ytihieplobgehaaa.Pure
open Go.RowKit Go.Proofs.Ytihieplobgehaaa.C2 Go.Proofs.Ytihieplobgehaaa.H Go.Proofs.YtihieplobgehaaaW.PrintWords Go.Proofs.YtihieplobgehaaaW.PrintLast Go.Proofs.YtihieplobgehaaaW.PrintMore
set_option linter.unusedVariables false
set_option linter.unusedSimpArgs false
def nvL (f:List Int→Int):List (List Int)→Int→Bool→Int
 | [],now,_=>now
 | t :: ts,now,first=>nvL f ts (if first=true then f t+1 else min now (f t+1)) false
def nxT (tps:List Bool→Bool→List (List Int)) (cst:List Int→Int) (hh:List Bool→Bool→Int) (ov:List Bool) (tr:Bool):List (List Int):=(tps ov tr).filter (fun t=>decide (0≤hh (mv (!tr) t ov) (!tr)) && decide (hh (mv (!tr) t ov) (!tr)+cst t=hh ov tr))
def nvF (tps:List Bool→Bool→List (List Int)) (cst:List Int→Int) (hh:List Bool→Bool→Int):Nat→List Bool→Bool→Int
 | 0,_,_=>0
 | k+1,ov,tr=>if hh ov tr=0 then 0 else nvL (fun t=>nvF tps cst hh k (mv (!tr) t ov) (!tr)) (nxT tps cst hh ov tr) 0 true
theorem nvL_congr {f g:List Int→Int}:∀ (ts:List (List Int)) (now:Int) (b:Bool),(∀ t ∈ ts,f t=g t)→nvL f ts now b=nvL g ts now b
 | [],_,_,_=>rfl
 | t :: ts,now,b,h=>by
  rw[nvL,nvL,h t (by simp)]
  exact nvL_congr ts _ _ (fun x hx=>h x (by simp[hx]))
theorem nvL_in {f:List Int→Int} {B:Int}:∀ (ts:List (List Int)) (now:Int) (b:Bool),(∀ t ∈ ts,0≤f t∧f t≤B)→0≤now→now≤B+1→0≤nvL f ts now b∧nvL f ts now b≤B+1
 | [],_,_,_,h0,h1=>⟨h0,h1⟩
 | t :: ts,now,b,h,h0,h1=>by
  have ht:=h t (by simp)
  rw[nvL]
  refine nvL_in ts _ _ (fun x hx=>h x (by simp[hx])) ?_ ?_ <;> split <;> omega
section
variable {n:Nat} {ok:List Bool→Bool→Prop} {tps:List Bool→Bool→List (List Int)} {cst:List Int→Int} {C M:Nat} {hh:List Bool→Bool→Int}
theorem nvF_in:∀ (k:Nat) (ov:List Bool) (tr:Bool),0≤nvF tps cst hh k ov tr∧nvF tps cst hh k ov tr≤k
 | 0,_,_=>by simp[nvF]
 | k+1,ov,tr=>by
  rw[nvF]
  split
  ·
   omega
  ·
   have:=nvL_in (f:=fun t=>nvF tps cst hh k (mv (!tr) t ov) (!tr)) (B:=k) (nxT tps cst hh ov tr) 0 true (fun t _=>nvF_in k _ _) (by omega) (by omega)
   omega
theorem nxT_mem {ov:List Bool} {tr:Bool} {t:List Int} (ht:t ∈ nxT tps cst hh ov tr):t ∈ tps ov tr∧0≤hh (mv (!tr) t ov) (!tr)∧hh (mv (!tr) t ov) (!tr)+cst t=hh ov tr:=by
 unfold nxT at ht
 rw[List.mem_filter] at ht
 simpa only [Bool.and_eq_true,decide_eq_true_eq] using ht
theorem nvF_stab (h:TripsOk n ok tps cst C M):∀ (k k':Nat) (ov:List Bool) (tr:Bool),ov.length=n→0≤hh ov tr→hh ov tr < k→hh ov tr < k'→nvF tps cst hh k ov tr=nvF tps cst hh k' ov tr:=by
 intro k
 induction k with
 | zero=>intro k' ov tr _ h0 h1 _;omega
 | succ k ih =>
  intro k' ov tr ho h0 h1 h2
  obtain ⟨k',rfl⟩:∃ j,k'=j+1:=⟨k' - 1,by omega⟩
  rw[nvF,nvF]
  split
  ·
   rfl
  ·
   refine nvL_congr _ _ _ (fun t ht=>?_)
   obtain ⟨q1,q2,q3⟩:=nxT_mem ht
   have:=h.cost ov tr ho t q1
   exact ih k' _ _ (by rw[mv_len];exact ho) q2 (by omega) (by omega)
def nvV (tps:List Bool→Bool→List (List Int)) (cst:List Int→Int) (hh:List Bool→Bool→Int) (ov:List Bool) (tr:Bool):Int:=nvF tps cst hh 1000000 ov tr
theorem nvV_eq (h:TripsOk n ok tps cst C M) (ov:List Bool) (tr:Bool) (ho:ov.length=n) (h0:0≤hh ov tr) (h1:hh ov tr < 999999):nvV tps cst hh ov tr=if hh ov tr=0 then 0 else nvL (fun t=>nvV tps cst hh (mv (!tr) t ov) (!tr)) (nxT tps cst hh ov tr) 0 true:=by
 unfold nvV
 rw[nvF_stab h 1000000 1000001 ov tr ho h0 (by omega) (by omega),nvF]
theorem nvV_in (ov:List Bool) (tr:Bool):0≤nvV tps cst hh ov tr∧nvV tps cst hh ov tr≤1000000:=nvF_in 1000000 ov tr
theorem fwL_map (e:List Int→Edg) (f:Int→Option Int) (g:List Int→Int):∀ (ts:List (List Int)) (now:Int) (b:Bool),(∀ t ∈ ts,f (e t).1=some (g t)∧0≤g t∧g t≤1000000000)→fwL f (ts.map e) now b=some (nvL g ts now b)
 | [],_,_,_=>rfl
 | t :: ts,now,b,h=>by
  obtain ⟨h1,h2,h3⟩:=h t (by simp)
  rw[List.map_cons,fwL,h1,Option.bind_some,nvL,wr_id (by omega) (by omega)]
  exact fwL_map e f g ts _ _ (fun x hx=>h x (by simp[hx]))
theorem fwF_t (h:TripsOk n ok tps cst C M) (hC:C≤4000) (hM:M≤1000) (o1:Int→Option (List Edg)) (ho1:∀ u,0≤u→u < 2 ^ (n+1)→o1 u=some (esT n tps cst u)) (dist:List Int) (hd:dist.length=2 ^ (n+1)) (hl:∀ u,0≤u→u < 2 ^ (n+1) → -1≤rd dist u∧rd dist u≤1000000000)
  (hhd:∀ ov tr,ov.length=n→hh ov tr=rd dist (enI ov tr)) :
  ∀ (m:Nat) (ov:List Bool) (tr:Bool),ov.length=n→0≤hh ov tr→hh ov tr < m→m≤1000000→fwF o1 dist m (enI ov tr)=some (nvF tps cst hh m ov tr):=by
 have hdi:(dist.length:Int)=2 ^ (n+1):=by rw[hd];simp
 intro m
 induction m with
 | zero=>intro ov tr _ h0 h1;omega
 | succ m ih =>
  intro ov tr ho h0 h1 hm
  have he:=en_facts h.n8 ov tr ho
  rw[fwF,if_pos ⟨he.1,by rw[hdi];exact he.2.1⟩,nvF,← hhd ov tr ho]
  by_cases hp:hh ov tr=0
  ·
   rw[if_pos hp,if_pos hp]
  ·
   rw[if_neg hp,if_neg hp]
   have hes:o1 (enI ov tr)=some ((tps ov tr).map fun t=>(enI (mv (!tr) t ov) (!tr),cst t,t)):=by
    rw[ho1 _ he.1 he.2.1]
    unfold esT
    rw[he.2.2.1]
   have hbest:bestF o1 dist (enI ov tr)=some ((nxT tps cst hh ov tr).map fun t=>(enI (mv (!tr) t ov) (!tr),cst t,t)):=by
    unfold bestF nxT
    rw[if_pos ⟨he.1,by rw[hdi];exact he.2.1⟩,hes,Option.bind_some,if_pos ⟨by rw[List.length_map];have:=h.cnt ov tr ho;omega,by
     rw[List.all_eq_true]
     intro e hm
     obtain ⟨t,ht,rfl⟩:=List.mem_map.1 hm
     have e2:=en_facts h.n8 (mv (!tr) t ov) (!tr) (by rw[mv_len];exact ho)
     have e3:=h.cost ov tr ho t ht
     have e4:=hl _ e2.1 e2.2.1
     unfold edgOk
     simp only[Bool.and_eq_true,decide_eq_true_eq]
     rw[hdi]
     exact ⟨⟨⟨e2.1,e2.2.1⟩,by omega,by omega⟩,by omega,by omega⟩⟩]
    rw[head_filter_map]
    congr 2
    refine List.filter_congr fun t ht=>?_
    unfold onB
    rw[hhd _ _ (show (mv (!tr) t ov).length=n by rw[mv_len];exact ho),hhd ov tr ho]
   rw[hbest,Option.bind_some]
   refine fwL_map (fun t=>(enI (mv (!tr) t ov) (!tr),cst t,t)) (fwF o1 dist m) (fun t=>nvF tps cst hh m (mv (!tr) t ov) (!tr)) (nxT tps cst hh ov tr) 0 true (fun t ht=>?_)
   obtain ⟨q1,q2,q3⟩:=nxT_mem ht
   have:=h.cost ov tr ho t q1
   have hin:=nvF_in (tps:=tps) (cst:=cst) (hh:=hh) m (mv (!tr) t ov) (!tr)
   exact ⟨ih _ _ (by rw[mv_len];exact ho) q2 (by omega) (by omega),hin.1,by omega⟩
theorem few_t (h:TripsOk n ok tps cst C M) (hC:C≤4000) (hM:M≤1000) (out:Nat→Int→Option (List Edg)) (hout:∀ u,0≤u→u < 2 ^ (n+1)→Ev (fun k=>out k u) (esT n tps cst u)) (dist:List Int) (hd:dist.length=2 ^ (n+1)) (hl:∀ u,0≤u→u < 2 ^ (n+1) → -1≤rd dist u∧rd dist u≤1000000000)
  (hhd:∀ ov tr,ov.length=n→hh ov tr=rd dist (enI ov tr)) (ov:List Bool) (tr:Bool) (ho:ov.length=n) (h0:0≤hh ov tr) (h1:hh ov tr < 1000000):Ev (fun k=>fwF (out k) dist k (enI ov tr)) (nvV tps cst hh ov tr):=by
 obtain ⟨N,hN⟩:∃ N,N=2 ^ (n+1):=⟨_,rfl⟩
 have hpi:=pow_natK n
 obtain ⟨o1,ho1⟩:∃ o1:Int→Option (List Edg),o1=fun u=>if 0≤u∧u < (N:Int) then some (esT n tps cst u) else none:=⟨_,rfl⟩
 have ho1':∀ u,0≤u→u < 2 ^ (n+1)→o1 u=some (esT n tps cst u):=fun u u0 u1=>by rw[ho1];exact if_pos ⟨u0,by rw[hN,hpi];exact u1⟩
 obtain ⟨K2,hK2⟩:=ev_allK (fun k u=>out k ((u:Nat):Int)) (fun u=>esT n tps cst ((u:Nat):Int)) N (fun u hu=>hout u (by omega) (by rw[← hpi,← hN];omega))
 have hr:=fwF_t h hC hM o1 ho1' dist hd hl hhd 1000000 ov tr ho h0 (by omega) (Nat.le_refl _)
 refine ⟨max 1000000 K2+1,fun k hk=>?_⟩
 obtain ⟨j,hj⟩:∃ j,k=1000000+j+1:=⟨k - 1000001,by omega⟩
 have hr2:=fwF_le (d:=j) hr
 have:=fwF_up (o1:=o1) (o2:=out k) (fun s es hs=>by
  rw[ho1] at hs
  dsimp only at hs
  split at hs
  ·
   rename_i hr2
   have:=hK2 k (by omega) s.toNat (by omega)
   rw[show ((s.toNat:Nat):Int)=s from Int.toNat_of_nonneg hr2.1] at this
   rw[this]
   exact hs
  ·
   cases hs) dist _ _ _ hr2
 rw[← hj] at this
 exact this
end
end Go.Proofs.Ytihieplobgehaaa.Pure

namespace Go.Proofs.Ytihieplobgehaaa.Pure
open Go.Proofs.Ytihieplobgehaaa.Walk Go.RowKit Go.Proofs.Ytihieplobgehaaa.C2 Go.Proofs.Ytihieplobgehaaa.H Go.Proofs.YtihieplobgehaaaW.PrintWords Go.Proofs.YtihieplobgehaaaW.PrintLast Go.Proofs.YtihieplobgehaaaW.PrintMore
set_option linter.unusedVariables false
set_option linter.unusedSimpArgs false
def OrdInv (far:List Int) (i:Nat) (acc:List Int):Prop:=(∀ x,x ∈ acc ↔ 0≤x∧x < (i:Int)∧0≤rd far x)∧acc.Pairwise (fun a b=>a≠b∧rd far a≤rd far b)∧acc.length≤i
theorem ord_in (far:List Int) (i:Int) (t:Int) (N:Int) (acc:List Int) (hacc:acc.length≤1000) (hin:∀ x ∈ acc,0≤x∧x < (far.length:Int)):∀ (c:Nat) (pre suf:List Int),pre.length=c→acc=pre ++ suf→(∀ p ∈ suf,t < rd far p)→∃ pre' suf',acc=pre' ++ suf'∧(∀ p ∈ suf',t < rd far p)∧(pre'=[]∨∃ q y,pre'=q ++ [y]∧¬ t < rd far y)∧∀ V,Ev (fun k=>spec_seOrder.l0 k far (pre' ++ [i] ++ suf') far N (wrap64 (i+1))) V→Ev (fun k=>spec_seOrder.l1 k far acc i t (pre.length:Int) far N i) V:=by
 have fin:∀ (k:Nat) (pre suf:List Int) (R:Option (List Int)),acc=pre ++ suf→spec_seOrder.l0 k far (pre ++ [i] ++ suf) far N (wrap64 (i+1))=R→(if (pre.length:Int)≤(acc.length:Int) then ((spec_l1Own.f (acc.take ((pre.length:Int)).toNat)).bind fun t243=>(if t243.length < 17592186044416 then ((some (t243 ++ [i]:List Int)).bind fun y246=>((some (acc.drop ((pre.length:Int)).toNat:List Int)).bind fun y249=>(if y246.length+y249.length < 17592186044416 then (spec_seOrder.l0 k far (y246 ++ y249) far N (wrap64 (i+1))) else (none)))) else (none))) else (none))=R:=by
  intro k pre suf R e h
  have hl:pre.length+suf.length=acc.length:=by rw[e,List.length_append]
  have h1:acc.take pre.length=pre:=by rw[e];simp
  have h2:acc.drop pre.length=suf:=by rw[e];simp
  rw[if_pos (by omega),Int.toNat_natCast,h1,h2,l1Own_eq pre (by omega)]
  simp only[Option.bind_some]
  rw[if_pos (by omega),if_pos (by simp;omega)]
  exact h
 intro c
 induction c with
 | zero =>
  intro pre suf hc e hs
  obtain rfl:=List.length_eq_zero_iff.1 hc
  refine ⟨[],suf,e,hs, .inl rfl,fun V hV=>?_⟩
  refine Ev.step (fun k=>spec_seOrder.l1.eq_2 ..) ?_
  simp only[List.length_nil,if_neg (show ¬ (((0:Nat):Int) > 0) by omega),if_pos (show 0≤((0:Nat):Int) by omega)]
  obtain ⟨K,hK⟩:=hV
  exact ⟨K,fun k hk=>fin k [] suf _ e (hK k hk)⟩
 | succ c ih =>
  intro pre suf hc e hs
  obtain ⟨q,y,rfl⟩:∃ q y,pre=q ++ [y]:=⟨pre.dropLast,pre.getLast (by intro h;rw[h] at hc;cases hc),(List.dropLast_concat_getLast _).symm⟩
  have hql:q.length=c:=by simpa using hc
  have hw:wrap64 (((q ++ [y]).length:Int) - 1)=(q.length:Int):=by
   have:acc.length=q.length+1+suf.length:=by rw[e];simp only[List.length_append,List.length_singleton]
   rw[wr_id (by simp only[List.length_append,List.length_singleton];omega) (by simp only[List.length_append,List.length_singleton];omega)];simp only[List.length_append,List.length_singleton];omega
  have ea:acc=q ++ y :: suf:=by rw[e];simp
  have hy:=hin y (by rw[ea];simp)
  have hrd:rd acc (q.length:Int)=y:=by rw[ea];exact rd_mid q y suf
  have hlt:(q.length:Int) < (acc.length:Int):=by rw[ea];simp;omega
  by_cases ht:t < rd far y
  ·
   obtain ⟨pre',suf',h1,h2,h3,h4⟩:=ih q (y :: suf) hql ea (fun p hp=>by
    rcases List.mem_cons.1 hp with rfl|hp
    ·
     exact ht
    ·
     exact hs p hp)
   refine ⟨pre',suf',h1,h2,h3,fun V hV=>?_⟩
   refine Ev.step (fun k=>spec_seOrder.l1.eq_2 ..) ?_
   simp only[if_pos (show (((q ++ [y]).length:Nat):Int) > 0 by simp only[List.length_append,List.length_singleton];omega),hw,if_pos (zle q.length),if_pos hlt,hrd,if_pos hy.1,if_pos hy.2,if_pos ht]
   exact h4 V hV
  ·
   refine ⟨q ++ [y],suf,e,hs, .inr ⟨q,y,rfl,ht⟩,fun V hV=>?_⟩
   refine Ev.step (fun k=>spec_seOrder.l1.eq_2 ..) ?_
   simp only[if_pos (show (((q ++ [y]).length:Nat):Int) > 0 by simp only[List.length_append,List.length_singleton];omega),hw,if_pos (zle q.length),if_pos hlt,hrd,if_pos hy.1,if_pos hy.2,if_neg ht,if_pos (zle (q ++ [y]).length)]
   obtain ⟨K,hK⟩:=hV
   exact ⟨K,fun k hk=>fin k (q ++ [y]) suf _ e (hK k hk)⟩
theorem order_loop (far:List Int) (hf:far.length≤1000):∀ (r pre acc:List Int),far=pre ++ r→OrdInv far pre.length acc→∃ ord,Ev (fun k=>spec_seOrder.l0 k far acc far (far.length:Int) (pre.length:Int)) ord∧OrdInv far far.length ord:=by
 intro r
 induction r with
 | nil =>
  intro pre acc e h
  have el:far.length=pre.length:=by rw[e];simp
  refine ⟨acc,?_,by rw[el];exact h⟩
  refine Ev.step (fun k=>spec_seOrder.l0.eq_2 ..) ?_
  simp only[if_neg (show ¬ (pre.length:Int) < (far.length:Int) by omega)]
  exact Ev.now _
 | cons y r ih =>
  intro pre acc e h
  obtain ⟨h1,h2,h3⟩:=h
  have hl:far.length=pre.length+(r.length+1):=by rw[e];simp
  have hrd:rd far (pre.length:Int)=y:=by rw[e];exact rd_mid pre y r
  have hw:wrap64 ((pre.length:Int)+1)=((pre ++ [y]).length:Int):=by rw[wr_id (by omega) (by omega)];simp
  have hlt:(pre.length:Int) < (far.length:Int):=by omega
  have hl1:(pre ++ [y]).length=pre.length+1:=by simp
  by_cases hy:y < 0
  ·
   obtain ⟨ord,o1,o2⟩:=ih (pre ++ [y]) acc (by rw[e];simp) ⟨fun x=>by
    rw[h1 x,hl1]
    constructor
    ·
     rintro ⟨a,b,c⟩;exact ⟨a,by omega,c⟩
    ·
     rintro ⟨a,b,c⟩
     refine ⟨a,?_,c⟩
     by_cases q:x=(pre.length:Int)
     ·
      rw[q,hrd] at c;omega
     ·
      omega,h2,by omega⟩
   refine ⟨ord,Ev.step (fun k=>spec_seOrder.l0.eq_2 ..) ?_,o2⟩
   simp only[if_pos hlt,if_pos (zle pre.length),hrd,if_pos hy,hw]
   exact o1
  ·
   obtain ⟨pre',suf',e1,e2,e3,e4⟩:=ord_in far (pre.length:Int) y (far.length:Int) acc (by omega) (fun x hx=>by have:=(h1 x).1 hx;omega) acc.length acc [] rfl (by simp) (by simp)
   have hp:(pre' ++ suf').Pairwise (fun a b=>a≠b∧rd far a≤rd far b):=by rw[← e1];exact h2
   obtain ⟨p1,p2,p3⟩:=List.pairwise_append.1 hp
   have hlow:∀ a ∈ pre',rd far a≤y:=by
    rcases e3 with rfl|⟨q,z,rfl,hz⟩
    ·
     intro a ha;cases ha
    ·
     intro a ha
     rcases List.mem_append.1 ha with ha|ha
     ·
      have:=((List.pairwise_append.1 p1).2.2 a ha z (by simp)).2;omega
     ·
      rw[List.mem_singleton.1 ha];omega
   have hne:∀ a ∈ acc,a≠(pre.length:Int):=fun a ha=>by have:=(h1 a).1 ha;omega
   obtain ⟨ord,o1,o2⟩:=ih (pre ++ [y]) (pre' ++ [(pre.length:Int)] ++ suf') (by rw[e];simp) ⟨fun x=>by
    have hx:=h1 x
    rw[e1,List.mem_append] at hx
    rw[List.append_assoc,List.mem_append,List.mem_append,List.mem_singleton,hl1]
    constructor
    ·
     rintro (a|a|a)
     ·
      have:=hx.1 (.inl a);exact ⟨this.1,by omega,this.2.2⟩
     ·
      subst a;exact ⟨zle _,by omega,by rw[hrd];omega⟩
     ·
      have:=hx.1 (.inr a);exact ⟨this.1,by omega,this.2.2⟩
    ·
     rintro ⟨a,b,c⟩
     by_cases q:x=(pre.length:Int)
     ·
      exact .inr (.inl q)
     ·
      rcases hx.2 ⟨a,by omega,c⟩ with d|d
      ·
       exact .inl d
      ·
       exact .inr (.inr d),by
    rw[List.append_assoc]
    refine List.pairwise_append.2 ⟨p1,List.pairwise_append.2 ⟨List.pairwise_singleton _ _,p2,fun a ha b hb=>?_⟩,fun a ha b hb=>?_⟩
    ·
     rw[List.mem_singleton.1 ha,hrd]
     exact ⟨fun q=>hne b (by rw[e1];simp[hb]) q.symm,by have:=e2 b hb;omega⟩
    ·
     rcases List.mem_append.1 hb with hb|hb
     ·
      rw[List.mem_singleton.1 hb,hrd]
      exact ⟨hne a (by rw[e1];simp[ha]),hlow a ha⟩
     ·
      exact p3 a ha b hb,by
    have:acc.length=pre'.length+suf'.length:=by rw[e1];simp
    simp
    omega⟩
   refine ⟨ord,Ev.step (fun k=>spec_seOrder.l0.eq_2 ..) ?_,o2⟩
   simp only[if_pos hlt,if_pos (zle pre.length),hrd,if_neg hy]
   refine e4 ord ?_
   rw[hw]
   exact o1
theorem seOrder_ev (far:List Int) (hf:far.length≤1000):∃ ord,Ev (fun k=>spec_seOrder.f k far) ord∧OrdInv far far.length ord:=by
 unfold spec_seOrder.f
 exact order_loop far hf far [] [] rfl ⟨fun x=>by simp;omega,List.Pairwise.nil,by simp⟩
section
variable {l:List Int} {m:Int}
theorem cnt_in (h:goodP l m=true) (far:List Int) (hfl:(far.length:Int)=2 ^ (l.length+1)) (ord:List Int) (L idx:Int) (ov:List Bool) (tr:Bool) (hl:ov.length=l.length) (ts:List (List Int)) (hts:ts.length≤1048576) (hti:∀ t ∈ ts,t ∈ tripsP m ov tr) (g:List Int→Int) (hg:∀ t ∈ ts,0≤g t∧g t≤1000000) (P:List Int→Prop)
  (v:Int):∀ (r pre:List (List Int)) (ways trips:List Int) (now:Int) (b:Bool),ts=pre ++ r→ways.length=far.length→trips.length=far.length→rd trips (enS ov tr)=now→(b=true→now=0)→(b=false→1≤now) →
   (∀ t ∈ r,enS (mv (!tr) t ov) (!tr)≠enS ov tr∧rd trips (enS (mv (!tr) t ov) (!tr))=g t) →
   (∀ ways' trips':List Int,ways'.length=far.length→trips'.length=far.length→rd trips' (enS ov tr)=nvL g r now b→(∀ x,0≤x→x≠enS ov tr→rd trips' x=rd trips x)→∃ w:Int,Ev (fun k=>spec_seCount.l0 k far ways' trips' ord L (wrap64 (idx+1)) l m) (w,v)) →
   ∃ w:Int,Ev (fun k=>spec_seCount.l1 k far ways trips (enS ov tr) ord L idx ts (ts.length:Int) (pre.length:Int) l m ov tr) (w,v):=by
 have hn:=(goodP_times h).2.1
 have heo:=en_facts hn ov tr hl
 intro r
 induction r with
 | nil =>
  intro pre ways trips now b e hw ht hnow hb1 hb2 hr hV
  obtain ⟨w,hw2⟩:=hV ways trips hw ht hnow (fun _ _ _=>rfl)
  refine ⟨w,Ev.step (fun k=>spec_seCount.l1.eq_2 ..) ?_⟩
  subst e
  simp only[if_neg (nlt_end pre)]
  exact hw2
 | cons t r ih =>
  intro pre ways trips now b e hw ht hnow hb1 hb2 hr hV
  have htm:=hti t (by rw[e];simp)
  have hgt:=hg t (by rw[e];simp)
  have hi:=trip_in htm
  have htl:t.length≤1048576:=by have:=(tripsP_mem.1 htm).2.1;have:=(goodP_times h).2.2.2;omega
  have hen:=en_facts hn (mv (!tr) t ov) (!tr) (by rw[mv_len];exact hl)
  have hrt:=hr t (by simp)
  have hrd:rd_L2 ts (pre.length:Int)=t:=by rw[e];exact rdOf_mid [] pre t r
  have hlt:(pre.length:Int) < (ts.length:Int):=by rw[e];exact lt_mid pre t r
  have hwp:wrap64 ((pre.length:Int)+1)=((pre ++ [t]).length:Int):=by rw[wr_id (by omega) (by omega)];simp
  have e5:enS ov tr < (ways.length:Int):=by rw[hw,hfl];exact heo.2.2.2.2.1
  have e6:enS (mv (!tr) t ov) (!tr) < (ways.length:Int):=by rw[hw,hfl];exact hen.2.2.2.2.1
  have e7:enS ov tr < (trips.length:Int):=by rw[ht,hfl];exact heo.2.2.2.2.1
  have e8:enS (mv (!tr) t ov) (!tr) < (trips.length:Int):=by rw[ht,hfl];exact hen.2.2.2.2.1
  have hset:∀ (z:Int),∀ x,0≤x→rd (trips.set (enS ov tr).toNat z) x=if x=enS ov tr then z else rd trips x:=fun z x hx=>rd_set trips (enS ov tr) x z heo.2.2.2.1 e7 hx
  have step:∀ (trips2:List Int) (now2:Int),trips2.length=far.length→rd trips2 (enS ov tr)=now2→1≤now2→(∀ x,0≤x→x≠enS ov tr→rd trips2 x=rd trips x)→nvL g (t :: r) now b=nvL g r now2 false →
    ∃ w:Int,Ev (fun k=>spec_seCount.l1 k far (ways.set (enS ov tr).toNat (wrap64 (rd ways (enS ov tr)+rd ways (enS (mv (!tr) t ov) (!tr))))) trips2 (enS ov tr) ord L idx ts (ts.length:Int) ((pre ++ [t]).length:Int) l m ov tr) (w,v):=by
   intro trips2 now2 q1 q2 q3 q4 q5
   refine ih (pre ++ [t]) _ trips2 now2 false (by rw[e];simp) (by rw[List.length_set];exact hw) q1 q2 (fun q=>by cases q) (fun _=>q3) (fun u hu=>?_) (fun ways' trips' a1 a2 a3 a4=>hV ways' trips' a1 a2 (by rw[q5];exact a3) (fun x hx hne=>(a4 x hx hne).trans (q4 x hx hne)))
   have:=hr u (by simp[hu])
   have hu2:=en_facts hn (mv (!tr) u ov) (!tr) (by rw[mv_len];exact hl)
   exact ⟨this.1,(q4 _ hu2.2.2.2.1 this.1).trans this.2⟩
  have pref:∀ (R:Int × Int) (body:Nat→Option (Int × Int)),(∀ k,body k=(if rd trips (enS ov tr)=0 then spec_seCount.l1 k far (ways.set (enS ov tr).toNat (wrap64 (rd ways (enS ov tr)+rd ways (enS (mv (!tr) t ov) (!tr))))) (trips.set (enS ov tr).toNat (wrap64 (rd trips (enS (mv (!tr) t ov) (!tr))+1))) (enS ov tr) ord L idx ts (ts.length:Int) ((pre ++ [t]).length:Int) l m ov tr else if wrap64 (rd trips (enS (mv (!tr) t ov) (!tr))+1) < rd trips (enS ov tr) then spec_seCount.l1 k far (ways.set (enS ov tr).toNat (wrap64 (rd ways (enS ov tr)+rd ways (enS (mv (!tr) t ov) (!tr))))) (trips.set (enS ov tr).toNat (wrap64 (rd trips (enS (mv (!tr) t ov) (!tr))+1))) (enS ov tr) ord L idx ts (ts.length:Int) ((pre ++ [t]).length:Int) l m ov tr else spec_seCount.l1 k far (ways.set (enS ov tr).toNat (wrap64 (rd ways (enS ov tr)+rd ways (enS (mv (!tr) t ov) (!tr))))) trips (enS ov tr) ord L idx ts (ts.length:Int) ((pre ++ [t]).length:Int) l m ov tr))→Ev body R→Ev (fun k=>spec_seCount.l1 k far ways trips (enS ov tr) ord L idx ts (ts.length:Int) (pre.length:Int) l m ov tr) R:=by
   intro R body hbody hR
   refine Ev.step (fun k=>spec_seCount.l1.eq_2 ..) ?_
   simp only[if_pos hlt,if_pos (zle pre.length),hrd]
   refine Ev.bind (paCross_ev ov tr t (by omega) htl (fun x hx=>⟨(hi x hx).1,(hi x hx).2.1⟩) (fun x hx=>(hi x hx).2.2)) ?_
   dsimp only
   refine Ev.bind (seIndex_ev hn (mv (!tr) t ov) (!tr) (by rw[mv_len];exact hl)) ?_
   simp only[if_pos heo.2.2.2.1,if_pos e5,if_pos hen.2.2.2.1,if_pos e6,Option.bind_some,if_pos e7,if_pos e8,hwp]
   refine (show Ev body R→_ from fun hh=>?_) hR
   obtain ⟨K,hK⟩:=hh
   exact ⟨K,fun k hk=>by rw[← hK k hk,hbody k]⟩
  rw[hrt.2] at pref
  rw[wr_id (show -9223372036854775808≤g t+1 by omega) (by omega)] at pref
  have s1:rd (trips.set (enS ov tr).toNat (g t+1)) (enS ov tr)=g t+1:=by rw[hset _ _ heo.2.2.2.1,if_pos rfl]
  have s2:∀ x,0≤x→x≠enS ov tr→rd (trips.set (enS ov tr).toNat (g t+1)) x=rd trips x:=fun x hx hne=>by rw[hset _ _ hx,if_neg hne]
  have s3:(trips.set (enS ov tr).toNat (g t+1)).length=far.length:=by rw[List.length_set];exact ht
  by_cases c0:rd trips (enS ov tr)=0
  ·
   have hbt:b=true:=by
    cases b with
    | true=>rfl
    | false=>have:=hb2 rfl;omega
   obtain ⟨w,hw2⟩:=step _ (g t+1) s3 s1 (by omega) s2 (by rw[nvL,hbt,if_pos rfl])
   exact ⟨w,pref _ _ (fun k=>(if_pos c0).symm) hw2⟩
  ·
   have hbf:b=false:=by
    cases b with
    | false=>rfl
    | true=>have:=hb1 rfl;omega
   have hn1:=hb2 hbf
   by_cases c1:g t+1 < rd trips (enS ov tr)
   ·
    obtain ⟨w,hw2⟩:=step _ (g t+1) s3 s1 (by omega) s2 (by rw[nvL,hbf,if_neg (by decide),show min now (g t+1)=g t+1 by omega])
    exact ⟨w,pref _ _ (fun k=>by rw[if_neg c0,if_pos c1]) hw2⟩
   ·
    obtain ⟨w,hw2⟩:=step trips now ht hnow (by omega) (fun _ _ _=>rfl) (by rw[nvL,hbf,if_neg (by decide),show min now (g t+1)=now by omega])
    exact ⟨w,pref _ _ (fun k=>by rw[if_neg c0,if_neg c1]) hw2⟩
theorem cnt_loop (h:goodP l m=true) (far:List Int) (hfl:(far.length:Int)=2 ^ (l.length+1)) (hf:∀ v,0≤v→v < (far.length:Int) → -1≤rd far v∧rd far v≤600000) (ord:List Int) (ho:OrdInv far far.length ord) (hfl2:far.length≤1000) (h0:0≤rd far (enS (List.replicate l.length false) false)) :
  ∀ (r pre ways trips:List Int),ord=pre ++ r→ways.length=far.length→trips.length=far.length→(∀ x,x ∈ pre→rd trips x=nvV (tripsP m) (cstP true l) (fun ov tr=>rd far (enS ov tr)) (dcS l.length x).1 (dcS l.length x).2)→(∀ x,0≤x→x < (far.length:Int)→x ∉ pre→rd trips x=0) →
   ∃ w:Int,Ev (fun k=>spec_seCount.l0 k far ways trips ord (ord.length:Int) (pre.length:Int) l m) (w,nvV (tripsP m) (cstP true l) (fun ov tr=>rd far (enS ov tr)) (List.replicate l.length false) false):=by
 have hn:=(goodP_times h).2.1
 have hT:=party_trips h true
 have hlF:(List.replicate l.length false).length=l.length:=by simp
 have hF:=en_facts hn (List.replicate l.length false) false hlF
 obtain ⟨o1,o2,o3⟩:=ho
 intro r
 induction r with
 | nil =>
  intro pre ways trips e hw ht hp hq
  rw[List.append_nil] at e
  subst e
  have hmem:enS (List.replicate l.length false) false ∈ ord:=(o1 _).2 ⟨hF.2.2.2.1,by rw[hfl];exact hF.2.2.2.2.1,h0⟩
  have hv:=hp _ hmem
  rw[hF.2.2.2.2.2] at hv
  refine ⟨rd ways (enS (List.replicate l.length false) false),Ev.step (fun k=>spec_seCount.l0.eq_2 ..) ?_⟩
  simp only[if_neg (show ¬ (ord.length:Int) < (ord.length:Int) by omega),paFirst_eq l m (by omega),Option.bind_some]
  refine Ev.bind (seIndex_ev hn _ false hlF) ?_
  simp only[if_pos hF.2.2.2.1,if_pos (show enS (List.replicate l.length false) false < (ways.length:Int) by rw[hw,hfl];exact hF.2.2.2.2.1),if_pos (show enS (List.replicate l.length false) false < (trips.length:Int) by rw[ht,hfl];exact hF.2.2.2.2.1),hv]
  exact Ev.now _
 | cons x r ih =>
  intro pre ways trips e hw ht hp hq
  have hlt:(pre.length:Int) < (ord.length:Int):=by rw[e];exact lt_mid pre x r
  have hrd:rd ord (pre.length:Int)=x:=by rw[e];exact rd_mid pre x r
  have hx:=(o1 x).1 (by rw[e];simp)
  have hwp:wrap64 ((pre.length:Int)+1)=((pre ++ [x]).length:Int):=by rw[wr_id (by omega) (by omega)];simp
  have hpw:(pre ++ x :: r).Pairwise (fun a b=>a≠b∧rd far a≤rd far b):=by rw[← e];exact o2
  obtain ⟨p1,p2,p3⟩:=List.pairwise_append.1 hpw
  have p4:=(List.pairwise_cons.1 p2).1
  have hxp:x ∉ pre:=fun q=>(p3 x q x (by simp)).1 rfl
  have hd:=dc_facts hn x hx.1 (by rw[← hfl];exact hx.2.1)
  have hfx:=hf x hx.1 hx.2.1
  have hz:=hq x hx.1 hx.2.1 hxp
  by_cases c:rd far x=0
  ·
   have hv:nvV (tripsP m) (cstP true l) (fun ov tr=>rd far (enS ov tr)) (dcS l.length x).1 (dcS l.length x).2=0:=by
    rw[nvV_eq hT _ _ hd.2.2.1 (by rw[hd.2.2.2];omega) (by rw[hd.2.2.2];omega),hd.2.2.2,if_pos c]
   obtain ⟨w,hw2⟩:=ih (pre ++ [x]) (ways.set x.toNat 1) trips (by rw[e];simp) (by rw[List.length_set];exact hw) ht (fun y hy=>by
    rcases List.mem_append.1 hy with hy|hy
    ·
     exact hp y hy
    ·
     rw[List.mem_singleton.1 hy,hv];exact hz) (fun y y0 y1 hy=>hq y y0 y1 (fun q=>hy (by simp[q])))
   refine ⟨w,Ev.step (fun k=>spec_seCount.l0.eq_2 ..) ?_⟩
   simp only[if_pos hlt,if_pos (zle pre.length),hrd,if_pos hx.1,if_pos hx.2.1,if_pos c,if_pos (show x < (ways.length:Int) by omega),hwp]
   exact hw2
  ·
   obtain ⟨ov,tr,hot⟩:∃ ov tr,dcS l.length x=(ov,tr):=⟨_,_,rfl⟩
   have hol:ov.length=l.length:=by have:=hd.2.2.1;rwa [hot] at this
   have hex:enS ov tr=x:=by have:=hd.2.2.2;rwa [hot] at this
   have hnx:∀ t ∈ nxP l m far ov tr,t ∈ tripsP m ov tr∧0≤rd far (enS (mv (!tr) t ov) (!tr))∧rd far (enS (mv (!tr) t ov) (!tr))+cstP true l t=rd far (enS ov tr):=fun t ht=>nxT_mem (hh:=fun ov tr=>rd far (enS ov tr)) ht
   have hcnt:(nxP l m far ov tr).length≤1048576:=by
    have h1:=hT.cnt ov tr hol
    have h2:(nxP l m far ov tr).length≤(tripsP m ov tr).length:=List.length_filter_le _ _
    omega
   have hin:=cnt_in h far hfl ord (ord.length:Int) (pre.length:Int) ov tr hol (nxP l m far ov tr) hcnt (fun t ht=>(hnx t ht).1) (fun t=>nvV (tripsP m) (cstP true l) (fun ov tr=>rd far (enS ov tr)) (mv (!tr) t ov) (!tr)) (fun t _=>nvV_in _ _) (fun _=>True) (nvV (tripsP m) (cstP true l) (fun ov tr=>rd far (enS ov tr)) (List.replicate l.length false) false) (nxP l m far ov tr) [] ways trips 0 true rfl hw ht (by rw[hex];exact hz) (fun _=>rfl) (fun q=>by cases q) (fun t htm=>by
    obtain ⟨q1,q2,q3⟩:=hnx t htm
    have hc:=hT.cost ov tr hol t q1
    have hen:=en_facts hn (mv (!tr) t ov) (!tr) (by rw[mv_len];exact hol)
    have hne:enS (mv (!tr) t ov) (!tr)≠enS ov tr:=fun q=>by rw[q] at q3;omega
    refine ⟨hne,?_⟩
    have hmem:enS (mv (!tr) t ov) (!tr) ∈ pre:=by
     have:enS (mv (!tr) t ov) (!tr) ∈ ord:=(o1 _).2 ⟨hen.2.2.2.1,by rw[hfl];exact hen.2.2.2.2.1,q2⟩
     rw[e] at this
     rcases List.mem_append.1 this with q|q
     ·
      exact q
     ·
      rcases List.mem_cons.1 q with q|q
      ·
       exact absurd (q.trans hex.symm) hne
      ·
       have:=(p4 _ q).2
       rw[hex] at q3
       omega
    have:=hp _ hmem
    rw[hen.2.2.2.2.2] at this
    exact this) (fun ways' trips' a1 a2 a3 a4=>by
    have hv:nvV (tripsP m) (cstP true l) (fun ov tr=>rd far (enS ov tr)) ov tr=nvL (fun t=>nvV (tripsP m) (cstP true l) (fun ov tr=>rd far (enS ov tr)) (mv (!tr) t ov) (!tr)) (nxP l m far ov tr) 0 true:=by
     rw[nvV_eq hT ov tr hol (by rw[hex];omega) (by rw[hex];omega),hex,if_neg c]
     rfl
    rw[← hv] at a3
    have:=ih (pre ++ [x]) ways' trips' (by rw[e];simp) a1 a2 (fun y hy=>by
     rcases List.mem_append.1 hy with hy|hy
     ·
      have hyp:=(p3 y hy x (by simp)).1
      have hyr:=(o1 y).1 (by rw[e];simp[hy])
      rw[a4 y hyr.1 (by rw[hex];exact hyp)]
      exact hp y hy
     ·
      rw[List.mem_singleton.1 hy,hot]
      rw[hex] at a3
      exact a3) (fun y y0 y1 hy=>by
     have hyx:y≠x:=fun q=>hy (by simp[q])
     rw[a4 y y0 (by rw[hex];exact hyx)]
     exact hq y y0 y1 (fun q=>hy (by simp[q])))
    rw[hwp]
    exact this)
   obtain ⟨w,hw2⟩:=hin
   refine ⟨w,Ev.step (fun k=>spec_seCount.l0.eq_2 ..) ?_⟩
   simp only[if_pos hlt,if_pos (zle pre.length),hrd,if_pos hx.1,if_pos hx.2.1,if_neg c]
   refine Ev.bind (seState_ev hn x hx.1 (by rw[← hfl];exact hx.2.1)) ?_
   rw[hot]
   dsimp only
   refine Ev.bind (seNext_ev h far hfl (fun v v0 v1=>by have:=hf v v0 v1;omega) ov tr hol) ?_
   rw[hex] at hw2
   exact hw2
end
theorem FnExactFewestOfBest_both (l:List Int) (m:Int) (hl:l.length≤1048576):∃ rr:Int × Bool,Ev (fun k=>spec_FewestOfBest.f k l m) rr∧Ev (fun k=>impl_FewestOfBest.f k l m) rr∧True:=by
 unfold spec_FewestOfBest.f impl_FewestOfBest.f
 rw[isParty_eq]
 cases hg:goodP l m with
 | false =>
  refine ⟨(0,false),Ev.bind (paGood_ev l m hl) ?_,?_,trivial⟩
  ·
   rw[hg];simp only[Bool.false_eq_true,if_false];exact Ev.now _
  ·
   simp only[Option.bind_some,Bool.false_eq_true,if_false];exact Ev.now _
 | true =>
  obtain ⟨far,r,f1,f2,r1,r2,heq,hrb,hfb,hs,hle⟩:=party_both hg
  have hT:=party_trips hg true
  have hn:=hT.n8
  have hlF:(List.replicate l.length false).length=l.length:=by simp
  have hz:=(last_en hn).2
  have hr0:rd far (enS (List.replicate l.length false) false)=rd r 0:=by rw[heq _ _ hlF,hz]
  have hb0:=hrb 0 (by omega) (by have:=pow_nat l.length;have:=Nat.pow_pos (a:=2) (n:=l.length+1) (by omega);omega)
  have hp9:2 ^ (l.length+1)≤512:=by
   have:2 ^ (l.length+1)≤2 ^ 9:=Nat.pow_le_pow_right (by omega) (by omega)
   exact this
  have hfl9:far.length≤512:=by have:=pow_nat l.length;omega
  have hf6:∀ v,0≤v→v < (far.length:Int) → -1≤rd far v∧rd far v≤600000:=fun v v0 v1=>by
   have hd:=dc_facts hn v v0 (by rw[← f2];exact v1)
   have hq:=heq _ (dcS l.length v).2 hd.2.2.1
   rw[hd.2.2.2] at hq
   have hen:=en_facts hn (dcS l.length v).1 (dcS l.length v).2 hd.2.2.1
   have:=hrb _ hen.1 hen.2.1
   rw[hq];omega
  by_cases h0:rd r 0 < 0
  ·
   refine ⟨(0,false),Ev.bind (paGood_ev l m hl) ?_,?_,trivial⟩
   ·
    rw[hg];simp only[if_true]
    refine Ev.bind hs ?_
    simp only[if_pos h0];exact Ev.now _
   ·
    simp only[Option.bind_some,if_true]
    refine Ev.bind r1 ?_
    simp only[decide_eq_false (show ¬ 0≤rd r 0 by omega),Bool.false_eq_true,if_false];exact Ev.now _
  ·
   obtain ⟨ord,o1,o2⟩:=seOrder_ev far (by omega)
   obtain ⟨w,hw⟩:=cnt_loop hg far f2 hf6 ord o2 (by omega) (by rw[hr0];omega) ord [] (List.replicate far.length 0) (List.replicate far.length 0) rfl (by simp) (by simp) (fun x hx=>by cases hx) (fun x x0 x1 _=>rd_rep far.length 0 x x0 x1)
   have hP:=few_t hT (by omega) (by omega) (ptyOut · true l m) (fun u u0 u1=>ptyOut_ev hg true u u0 u1) r r2 (fun v v0 v1=>by have:=hrb v v0 v1;omega) (hh:=fun ov tr=>rd far (enS ov tr)) (fun ov tr ho=>heq ov tr ho) (List.replicate l.length false) false hlF (by rw[hr0];omega) (by rw[hr0];omega)
   rw[hz] at hP
   refine ⟨(nvV (tripsP m) (cstP true l) (fun ov tr=>rd far (enS ov tr)) (List.replicate l.length false) false,true),Ev.bind (paGood_ev l m hl) ?_,?_,trivial⟩
   ·
    rw[hg];simp only[if_true]
    refine Ev.bind hs ?_
    simp only[if_neg h0]
    unfold spec_seCount.f
    refine Ev.bind (a:=(w,nvV (tripsP m) (cstP true l) (fun ov tr=>rd far (enS ov tr)) (List.replicate l.length false) false)) ?_ (Ev.now _)
    refine Ev.bind (paLast_ev l m hl) (Ev.bind f1 ?_)
    simp only[if_pos (show 0≤(far.length:Int) by omega),Int.toNat_natCast,if_pos (show far.length≤35184372088832 by omega)]
    exact Ev.bind o1 hw
   ·
    simp only[Option.bind_some,if_true]
    refine Ev.bind r1 ?_
    simp only[decide_eq_true (show 0≤rd r 0 by omega),if_true,if_pos (show r.length≤1000000 by omega)]
    exact Ev.bind hP (Ev.now _)
theorem FnExactFewestOfBest_all (A0_0:Option Addr) (c0_0:Nat) (l0_0:List Int) (a0_1:Int) (w:World) (hr0_0:Kd.C (Kd.int .i64) w A0_0 l0_0.length l0_0) (hc0_0:l0_0.length≤c0_0) (g0_0:goodL goodI l0_0) (g0_1:goodI a0_1) :
  Calls Try.prog 3 #[.agg #[.slice A0_0 l0_0.length c0_0, .int .i64 a0_1]] w fun e w'=>e = .returned (.bool true)∧Below w.heap.size w w':=by
 obtain ⟨u0,hu0,hc⟩:=szParty_cases l0_0 a0_1 1048576 (by omega) (by omega) g0_0.1
 replace hu0:=ev_some hu0
 rcases hc with hc|⟨b0,d0⟩
 ·
  obtain ⟨Kx,fx⟩:=hu0
  exact FnExactFewestOfBest_short0 _ _ _ _ w hr0_0 hc0_0  _ (fx _ (Nat.le_refl _)) hc
 have nu0:¬ u0 < 0:=by omega
 have z0_0:List.length l0_0≤1048576:=by omega
 have et0:=toParty_ev l0_0 a0_1 z0_0
 obtain ⟨rr,es,ei,hsm⟩:=FnExactFewestOfBest_both l0_0 a0_1 z0_0
 obtain ⟨r0,r1⟩:=rr
 have ea0:Ev (fun k=>laws_eqParty.f k l0_0 a0_1 l0_0 a0_1) true:=ev_eq (eqParty_ev l0_0 a0_1 l0_0 a0_1 z0_0) (decide_eq_true rfl)
 obtain ⟨Khu0,fhu0⟩:=hu0
 obtain ⟨Ket0,fet0⟩:=et0
 obtain ⟨Kes,fes⟩:=es
 obtain ⟨Kei,fei⟩:=ei
 obtain ⟨Kea0,fea0⟩:=ea0
 exact FnExactFewestOfBest_walk _ _ _ _ _ _ _ Ket0 Kes Kei Kea0 w hr0_0 hc0_0  (fhu0 _ (Nat.le_refl _)) nu0 (fet0 _ (Nat.le_refl _)) (fes _ (Nat.le_refl _)) (fei _ (Nat.le_refl _)) (fea0 _ (Nat.le_refl _))
end Go.Proofs.Ytihieplobgehaaa.Pure
