import Derived.Test.YtabhhkiipilghaaC1zx0
import Derived.Test.YtabhhkiipilghaaC1zH0
import Derived.Test.YtabhhkiipilghaaC1zH1
import Derived.Test.YtabhhkiipilghaaC1zx1
import Derived.Test.YtabhhkiipilghaaC1zx3
import Derived.Test.YtabhhkiipilghaaC1zx2
import Derived.Test.YtabhhkiipilghaaC1zx4
import Derived.Test.YtabhhkiipilghaaC1zx5
import Derived.Test.YtabhhkiipilghaaC1zx7
import Derived.Test.YtabhhkiipilghaaC1zx6
import Derived.Test.YtabhhkiipilghaaC1zx9
import Derived.Test.YtabhhkiipilghaaC1zx8
namespace Go.Proofs.Ytabhhkiipilghaa.Pure
open Go.RowKit Go.Proofs.Ytabhhkiipilghaa.C1 Go.Proofs.Ytabhhkiipilghaa.H Go.Proofs.YtabhhkiipilghaaW.PrintWords Go.Proofs.YtabhhkiipilghaaW.PrintLast Go.Proofs.YtabhhkiipilghaaW.PrintMore
set_option linter.unusedVariables false
set_option linter.unusedSimpArgs false
def szSum {α:Type} (f:α→Nat):List α→Nat
 | []=>0
 | x :: l=>f x+szSum f l
def n2 (l:List (List Int)):Nat:=l.length+szSum List.length l
theorem szSum_bound {α:Type} (f:α→Nat) (l:List α) {B:Nat} (h:l.length+szSum f l≤B):l.length≤B∧∀ x ∈ l,f x≤B:=by
 refine ⟨by omega,?_⟩
 have h2:szSum f l≤B:=by omega
 clear h
 induction l with
 | nil=>intro x hx;cases hx
 | cons y l ih =>
  simp only[szSum] at h2
  intro x hx
  rcases List.mem_cons.1 hx with rfl|hx
  ·
   omega
  ·
   exact ih (by omega) x hx
end Go.Proofs.Ytabhhkiipilghaa.Pure

namespace Go.Proofs.Ytabhhkiipilghaa.Pure
open Go.RowKit Go.Proofs.Ytabhhkiipilghaa.C1 Go.Proofs.Ytabhhkiipilghaa.H Go.Proofs.YtabhhkiipilghaaW.PrintWords Go.Proofs.YtabhhkiipilghaaW.PrintLast Go.Proofs.YtabhhkiipilghaaW.PrintMore
set_option linter.unusedVariables false
set_option linter.unusedSimpArgs false
end Go.Proofs.Ytabhhkiipilghaa.Pure

namespace Go.Proofs.Ytabhhkiipilghaa.Pure
open Go.RowKit Go.Proofs.Ytabhhkiipilghaa.C1 Go.Proofs.Ytabhhkiipilghaa.H Go.Proofs.YtabhhkiipilghaaW.PrintWords Go.Proofs.YtabhhkiipilghaaW.PrintLast Go.Proofs.YtabhhkiipilghaaW.PrintMore
set_option linter.unusedVariables false
set_option linter.unusedSimpArgs false
end Go.Proofs.Ytabhhkiipilghaa.Pure

namespace Go.Proofs.Ytabhhkiipilghaa.Pure
open Go.RowKit Go.Proofs.Ytabhhkiipilghaa.C1 Go.Proofs.Ytabhhkiipilghaa.H Go.Proofs.YtabhhkiipilghaaW.PrintWords Go.Proofs.YtabhhkiipilghaaW.PrintLast Go.Proofs.YtabhhkiipilghaaW.PrintMore
set_option linter.unusedVariables false
set_option linter.unusedSimpArgs false
theorem ev_up {α:Type} {f:Nat→Option α} (hm:∀ k,LeO (f k) (f (k+1))) {K:Nat} {r:α} (h:f K=some r):Ev f r:=by
 refine ⟨K,fun k hk=>?_⟩
 induction k with
 | zero=>rw [show K=0 by omega] at h;exact h
 | succ k ih =>
  by_cases e:K=k+1
  ·
   rw[← e];exact h
  ·
   exact hm k r (ih (by omega))
end Go.Proofs.Ytabhhkiipilghaa.Pure

namespace Go.Proofs.Ytabhhkiipilghaa.Pure
open Go.RowKit Go.Proofs.Ytabhhkiipilghaa.C1 Go.Proofs.Ytabhhkiipilghaa.H Go.Proofs.YtabhhkiipilghaaW.PrintWords Go.Proofs.YtabhhkiipilghaaW.PrintLast Go.Proofs.YtabhhkiipilghaaW.PrintMore
set_option linter.unusedVariables false
set_option linter.unusedSimpArgs false
def cat {α:Type} (f:Int→List α):Nat→Int→List α
 | 0,_=>[]
 | n+1,y=>f y ++ cat f n (y+1)
theorem mem_cat {α:Type} (f:Int→List α) (e:α):∀ (n:Nat) (y:Int),e ∈ cat f n y ↔ ∃ z,y≤z∧z < y+n∧e ∈ f z:=by
 intro n
 induction n with
 | zero=>intro y;simp only[cat,List.not_mem_nil,false_iff];rintro ⟨z,h1,h2,_⟩;omega
 | succ n ih =>
  intro y
  simp only[cat,List.mem_append,ih]
  constructor
  ·
   rintro (h|⟨z,h1,h2,h3⟩)
   ·
    exact ⟨y,by omega,by omega,h⟩
   ·
    exact ⟨z,by omega,by omega,h3⟩
  ·
   rintro ⟨z,h1,h2,h3⟩
   by_cases e:z=y
   ·
    subst e;exact .inl h3
   ·
    exact .inr ⟨z,by omega,by omega,h3⟩
theorem cat_len {α:Type} (f:Int→List α) (B:Nat) (hf:∀ y,(f y).length≤B):∀ (n:Nat) (y:Int),(cat f n y).length≤B * n:=by
 intro n
 induction n with
 | zero=>intro y;simp[cat]
 | succ n ih =>
  intro y
  have h1:=hf y
  have h2:=ih (y+1)
  simp only[cat,List.length_append,Nat.mul_succ]
  omega
theorem gYs_cat (G C a b t x:Int):∀ n y,gYs G C a b t x n y=cat (gEdge G C a b t x) n y:=by
 intro n
 induction n with
 | zero=>intro y;rfl
 | succ n ih=>intro y;rw[gYs,cat,ih]
theorem gXs_cat (G C S a b t:Int):∀ n x,gXs G C S a b t n x=cat (fun x=>cat (gEdge G C a b t x) (S+1 - x).toNat 0) n x:=by
 intro n
 induction n with
 | zero=>intro x;rfl
 | succ n ih=>intro x;rw[gXs,cat,ih,gYs_cat]
theorem bf_app (b:Int):∀ (L1 L2 far q:List Int),bfRelax b (L1 ++ L2) far q=bfRelax b L2 (bfRelax b L1 far q).1 (bfRelax b L1 far q).2:=by
 intro L1
 induction L1 with
 | nil=>intro L2 far q;rfl
 | cons x L1 ih =>
  intro L2 far q
  simp only[List.cons_append,bfRelax]
  split <;> exact ih _ _ _
theorem bf_len (b:Int):∀ (L far q:List Int),(bfRelax b L far q).1.length=far.length∧(bfRelax b L far q).2.length≤q.length+L.length:=by
 intro L
 induction L with
 | nil=>intro far q;simp[bfRelax]
 | cons x L ih =>
  intro far q
  simp only[bfRelax]
  split
  ·
   have:=ih (far.set x.toNat (b+1)) (q ++ [x])
   simp only[List.length_set,List.length_append,List.length_cons,List.length_nil] at this ⊢
   omega
  ·
   have:=ih far q
   simp only[List.length_cons]
   omega
theorem bf_keep (b B:Int) (n:Nat) (hb:b+1≤B):∀ (L far q:List Int),far.length=n→(∀ v ∈ L,0≤v∧v < (n:Int))→(∀ v,0≤v→v < (n:Int)→rd far v≤B) →
  (∀ v,0≤v→v < (n:Int)→rd (bfRelax b L far q).1 v≤B)∧∀ v,0≤v→v < (n:Int)→0≤rd far v→rd (bfRelax b L far q).1 v=rd far v:=by
 intro L
 induction L with
 | nil=>intro far q _ _ h;exact ⟨h,fun _ _ _ _=>rfl⟩
 | cons x L ih =>
  intro far q hl hL h
  obtain ⟨x0,x1⟩:=hL x (by simp)
  simp only[bfRelax]
  split
  ·
   rename_i hx
   have hs:=fun v (hv:0≤v)=>rd_set far x v (b+1) x0 (by omega) hv
   obtain ⟨h1,h2⟩:=ih (far.set x.toNat (b+1)) (q ++ [x]) (by simpa using hl) (fun v hv=>hL v (by simp[hv])) (fun v v0 v1=>by
    rw[hs v v0]
    split
    ·
     exact hb
    ·
     exact h v v0 v1)
   refine ⟨h1,fun v v0 v1 hv=>?_⟩
   have hne:v≠x:=by rintro rfl;omega
   rw[h2 v v0 v1 (by rw[hs v v0,if_neg hne];exact hv),hs v v0,if_neg hne]
  ·
   exact ih far q hl (fun v hv=>hL v (by simp[hv])) h
theorem way_rel {E E':Int→Int→Nat→Prop} {S S':Int→Prop} (R:Int→Int→Prop) (hs:∀ s,S s→∃ s',S' s'∧R s s') (he:∀ u u' v c,R u u'→E u v c→∃ v',E' u' v' c∧R v v') {v:Int} {n:Nat} (h:H.Way E S v n):∃ v',R v v'∧H.Way E' S' v' n:=by
 induction h with
 | here h=>obtain ⟨s',h1,h2⟩:=hs _ h;exact ⟨s',h2,H.Way.here h1⟩
 | on hu h ih =>
  obtain ⟨u',h1,h2⟩:=ih
  obtain ⟨v',h3,h4⟩:=he _ _ _ _ h1 h
  exact ⟨v',h4,H.Way.on h2 h3⟩
def vld (G C a b t:Int):Prop:=0≤a∧a≤G∧0≤b∧b≤C∧(t=0∨t=1)
def spo (C a b t:Int):Int:=(a * (C+1)+b) * 2+t
def cod (a b t:Int):Int:=2 * (a * 9+b)+t
def mvs (G C S a b t c d:Int):Prop:=∃ x y:Int,0≤x∧0≤y∧x+y≤S∧gOk G C (gC t a x) (gC t b y) x y=true∧c=gC t a x∧d=gC t b y
def EdgeS (G C S:Int) (u v:Int) (n:Nat):Prop:=n=1∧∃ a b t c d,vld G C a b t∧u=spo C a b t∧mvs G C S a b t c d∧v=spo C c d (1 - t)
theorem mvs_vld {G C S a b t c d:Int} (h:mvs G C S a b t c d) (ht:t=0∨t=1):vld G C c d (1 - t):=by
 obtain ⟨x,y,_,_,_,h,rfl,rfl⟩:=h
 simp only[gOk,inI,Bool.and_eq_true,decide_eq_true_eq] at h
 exact ⟨h.2.1.1,h.2.1.2,h.2.2.1.1,h.2.2.1.2,by omega⟩
theorem spo_lt {G C a b t:Int} (hC:0≤C) (h:vld G C a b t):0≤spo C a b t∧spo C a b t < (G+1) * (C+1) * 2:=by
 obtain ⟨h1,h2,h3,h4,h5⟩:=h
 have e1:0≤a * (C+1):=Int.mul_nonneg h1 (by omega)
 have e2:a * (C+1)≤G * (C+1):=Int.mul_le_mul_of_nonneg_right h2 (by omega)
 have e3:(G+1) * (C+1)=G * (C+1)+(C+1):=by rw[Int.add_mul,Int.one_mul]
 unfold spo
 omega
theorem spo_inj {G C a b t a' b' t':Int} (h:vld G C a b t) (h':vld G C a' b' t') (e:spo C a b t=spo C a' b' t'):a=a'∧b=b'∧t=t':=by
 obtain ⟨h1,h2,h3,h4,h5⟩:=h
 obtain ⟨g1,g2,g3,g4,g5⟩:=h'
 unfold spo at e
 have e1:a * (C+1)+b=a' * (C+1)+b':=by omega
 have et:t=t':=by omega
 have key:∀ p q r s:Int,p < q→0≤s→r≤C→p * (C+1)+r=q * (C+1)+s→False:=fun p q r s hpq hs hr he=>by
  have:(p+1) * (C+1)≤q * (C+1):=Int.mul_le_mul_of_nonneg_right (by omega) (by omega)
  rw[Int.add_mul,Int.one_mul] at this
  omega
 by_cases ha:a=a'
 ·
  subst ha
  exact ⟨rfl,by omega,et⟩
 ·
  exfalso
  by_cases hl:a < a'
  ·
   exact key a a' b b' hl g3 h4 e1
  ·
   exact key a' a b' b (by omega) h3 g4 e1.symm
theorem spo_dec {C a b t:Int} (hC:0≤C∧C≤8) (ha:0≤a∧a≤8) (hb:0≤b∧b≤C) (ht:t=0∨t=1) :
  Int.tmod (spo C a b t) 2=t∧wrap64 (Int.tdiv (wrap64 (Int.tdiv (spo C a b t) 2)) (wrap64 (C+1)))=a∧Int.tmod (wrap64 (Int.tdiv (spo C a b t) 2)) (wrap64 (C+1))=b:=by
 have e1:0≤a * (C+1):=Int.mul_nonneg ha.1 (by omega)
 have e2:a * (C+1)≤8 * (C+1):=Int.mul_le_mul_of_nonneg_right ha.2 (by omega)
 have e0:0≤spo C a b t:=by unfold spo;omega
 have e3:Int.tdiv (spo C a b t) 2=b+a * (C+1):=by
  rw[Int.tdiv_eq_ediv_of_nonneg e0]
  unfold spo
  omega
 rw[e3,wr_id (a:=C+1) (by omega) (by omega),wr_id (a:=b+a * (C+1)) (by omega) (by omega),Int.tdiv_eq_ediv_of_nonneg (by omega),Int.tmod_eq_emod_of_nonneg e0,Int.tmod_eq_emod_of_nonneg (by omega),Int.add_mul_ediv_right _ _ (by omega),Int.add_mul_emod_self_right,Int.ediv_eq_zero_of_lt hb.1 (by omega),Int.emod_eq_of_lt hb.1 (by omega),wr_id (by omega) (by omega)]
 refine ⟨?_,by omega,rfl⟩
 unfold spo
 omega
theorem spo_of {G C u:Int} (hG:0≤G) (hC:0≤C) (h0:0≤u) (h1:u < (G+1) * (C+1) * 2):∃ a b t,vld G C a b t∧u=spo C a b t:=by
 have hm:0 < C+1:=by omega
 refine ⟨u / 2 / (C+1),u / 2 % (C+1),u % 2,⟨Int.ediv_nonneg (by omega) (by omega),?_,Int.emod_nonneg _ (by omega),?_,by omega⟩,?_⟩
 ·
  have:=Int.ediv_lt_of_lt_mul hm (show u / 2 < (G+1) * (C+1) by omega)
  omega
 ·
  have:=Int.emod_lt_of_pos (u / 2) hm
  omega
 ·
  have:=Int.mul_ediv_add_emod (u / 2) (C+1)
  unfold spo
  rw[Int.mul_comm (u / 2 / (C+1)) (C+1)]
  omega
def sEdge (G C a b t x y:Int):List Int:=if gOk G C (gC t a x) (gC t b y) x y=true then [spo C (gC t a x) (gC t b y) (1 - t)] else []
def sAll (G C S a b t:Int):List Int:=cat (fun x=>cat (sEdge G C a b t x) (S+1 - x).toNat 0) (S+1).toNat 0
theorem sAll_mem {G C S a b t:Int} (hS:0≤S) (v:Int):v ∈ sAll G C S a b t ↔ ∃ c d,mvs G C S a b t c d∧v=spo C c d (1 - t):=by
 unfold sAll
 simp only[mem_cat]
 constructor
 ·
  rintro ⟨x,hx0,hx1,y,hy0,hy1,hv⟩
  unfold sEdge at hv
  split at hv
  ·
   rename_i h
   exact ⟨_,_,⟨x,y,hx0,hy0,by omega,h,rfl,rfl⟩,by simpa using hv⟩
  ·
   cases hv
 ·
  rintro ⟨c,d,⟨x,y,hx,hy,hs,h,rfl,rfl⟩,rfl⟩
  refine ⟨x,hx,by omega,y,hy,by omega,?_⟩
  unfold sEdge
  rw[if_pos h]
  simp
theorem EdgeS_iff {G C S a b t:Int} (hS:0≤S) (h:vld G C a b t) (v:Int) (n:Nat):EdgeS G C S (spo C a b t) v n ↔ n=1∧v ∈ sAll G C S a b t:=by
 rw[sAll_mem hS]
 constructor
 ·
  rintro ⟨rfl,a',b',t',c,d,h',e,hm,rfl⟩
  obtain ⟨rfl,rfl,rfl⟩:=spo_inj h h' e
  exact ⟨rfl,c,d,hm,rfl⟩
 ·
  rintro ⟨rfl,c,d,hm,rfl⟩
  exact ⟨rfl,a,b,t,c,d,h,rfl,hm,rfl⟩
end Go.Proofs.Ytabhhkiipilghaa.Pure

namespace Go.Proofs.Ytabhhkiipilghaa.Pure
open Go.RowKit Go.Proofs.Ytabhhkiipilghaa.C1 Go.Proofs.Ytabhhkiipilghaa.H Go.Proofs.YtabhhkiipilghaaW.PrintWords Go.Proofs.YtabhhkiipilghaaW.PrintLast Go.Proofs.YtabhhkiipilghaaW.PrintMore
set_option linter.unusedVariables false
set_option linter.unusedSimpArgs false
theorem l1In_val (x lo hi:Int):spec_l1In.f x lo hi=some (inI x lo hi):=by
 unfold spec_l1In.f inI
 by_cases h:x ≥ lo
 ·
  rw[if_pos h,decide_eq_true (show lo≤x from h)];rfl
 ·
  rw[if_neg h,decide_eq_false (show ¬ lo≤x from h)];rfl
theorem cuHeld_val (x y:Int):spec_cuHeld.f x y=some (fineB x y):=by
 unfold spec_cuHeld.f fineB
 by_cases h:x=0
 ·
  rw[if_pos h,decide_eq_true h];rfl
 ·
  rw[if_neg h,decide_eq_false h];rfl
theorem cuGuarded_val (G C c d:Int) (hc : -100≤G - c∧G - c≤100) (hd : -100≤C - d∧C - d≤100):spec_cuGuarded.f G C c d=some (fineB c d && fineB (G - c) (C - d)):=by
 unfold spec_cuGuarded.f
 rw[cuHeld_val,Option.bind_some,wr_id (by omega) (by omega),wr_id (by omega) (by omega),cuHeld_val,Option.bind_some]
 cases fineB c d <;> simp
theorem cuSpot_val {C c d t:Int} (hC:0≤C∧C≤8) (hc:0≤c∧c≤8) (hd:0≤d∧d≤8) (ht:t=0∨t=1):spec_cuSpot.f C c d (wrap64 (1 - t))=some (spo C c d (1 - t)):=by
 have e1:0≤c * (C+1):=Int.mul_nonneg hc.1 (by omega)
 have e2:c * (C+1)≤8 * (C+1):=Int.mul_le_mul_of_nonneg_right hc.2 (by omega)
 unfold spec_cuSpot.f spo
 rw[wr_id (a:=C+1) (by omega) (by omega),wr_id (a:=c * (C+1)) (by omega) (by omega),wr_id (a:=c * (C+1)+d) (by omega) (by omega),wr_id (a:=(c * (C+1)+d) * 2) (by omega) (by omega),wr_id (a:=1 - t) (by omega) (by omega),wr_id (by omega) (by omega)]
section
variable {G C S a b t:Int}
theorem home_j4 (k:Nat) (far q:List Int) (idx u x y c d:Int) (hc : -4≤c∧c≤12) (hd : -4≤d∧d≤12) (hG:0≤G∧G≤8) (hC:0≤C∧C≤8) (hx:0≤x∧x≤4) (hy:0≤y∧y≤4) :
  spec_cuHome.j4 (k+1) G C S far q idx u t a b x y c d=spec_cuHome.j5 k G C S far q idx u t a b x y c d (!gOk G C c d x y):=by
 rw[spec_cuHome.j4,wr_id (by omega) (by omega)]
 unfold gOk
 by_cases h0:x+y=0
 ·
  rw[if_pos h0,decide_eq_false (show ¬ 0 < x+y by omega)];rfl
 ·
  rw[if_neg h0,decide_eq_true (show 0 < x+y by omega),cuHeld_val,Option.bind_some,Bool.true_and]
  cases fineB x y with
  | false=>simp
  | true =>
   rw[if_pos rfl,l1In_val,Option.bind_some]
   cases inI c 0 G with
   | false=>simp
   | true =>
    rw[if_pos rfl,l1In_val,Option.bind_some]
    cases inI d 0 C with
    | false=>simp
    | true =>
     rw[if_pos rfl,cuGuarded_val G C c d (by omega) (by omega),Option.bind_some]
     simp
theorem home_l3 (hG:0≤G∧G≤8) (hC:0≤C∧C≤8) (hS:1≤S∧S≤4) (hv:vld G C a b t) (N:Nat) (hN:(N:Int)=(G+1) * (C+1) * 2) (bb:Int) (hb:0≤bb∧bb≤1000) (x:Int) (hx:0≤x∧x≤S) (idx:Int) (R:List Int) :
  ∀ (n:Nat) (y:Int) (far q:List Int),0≤y→y+n=S+1 - x→far.length=N→rd far (spo C a b t)=bb→(∀ v,0≤v→v < (N:Int)→rd far v≤1001)→q.length+n≤1000000 →
   Ev (fun k=>spec_cuHome.l2 k G C S (bfRelax bb (cat (sEdge G C a b t x) n y) far q).1 (bfRelax bb (cat (sEdge G C a b t x) n y) far q).2 idx (spo C a b t) t a b (wrap64 (x+1))) R →
   Ev (fun k=>spec_cuHome.l3 k G C S far q idx (spo C a b t) t a b x y) R:=by
 have hu:=spo_lt hC.1 hv
 obtain ⟨a0,a1,b0,b1,ht⟩:=hv
 intro n
 induction n with
 | zero =>
  intro y far q hy hyn hl hr hle hq h
  refine Ev.step (fun k=>spec_cuHome.l3.eq_2 ..) ?_
  rw[wr_id (a:=x+y) (by omega) (by omega)]
  simp only[if_neg (show ¬ x+y≤S by omega)]
  exact h
 | succ n ih =>
  intro y far q hy hyn hl hr hle hq h
  have hxb:0≤x∧x≤4:=by omega
  have hyb:0≤y∧y≤4:=by omega
  have hc:=gC_val (bt:=t) (a:=a) (x:=x) ⟨a0,by omega⟩ hxb
  have hd:=gC_val (bt:=t) (a:=b) (x:=y) ⟨b0,by omega⟩ hyb
  refine Ev.step (fun k=>spec_cuHome.l3.eq_2 ..) ?_
  rw[wr_id (a:=x+y) (by omega) (by omega)]
  simp only[if_pos (show x+y≤S by omega)]
  have hj:Ev (fun k=>spec_cuHome.j4 k G C S far q idx (spo C a b t) t a b x y (gC t a x) (gC t b y)) R:=by
   refine Ev.step (fun k=>home_j4 k far q idx (spo C a b t) x y _ _ hc.2.2 hd.2.2 hG hC hxb hyb) ?_
   refine Ev.step (fun k=>spec_cuHome.j5.eq_2 ..) ?_
   have hw:wrap64 (y+1)=y+1:=wr_id (by omega) (by omega)
   simp only[cat,bf_app] at h
   cases hok:gOk G C (gC t a x) (gC t b y) x y with
   | false =>
    have he:sEdge G C a b t x y=[]:=by unfold sEdge;rw[if_neg (by rw[hok];decide)]
    rw[he] at h
    rw[hw]
    simp only[if_pos (show (!false)=true from rfl)]
    exact ih (y+1) far q (by omega) (by omega) hl hr hle (by omega) h
   | true =>
    have he:sEdge G C a b t x y=[spo C (gC t a x) (gC t b y) (1 - t)]:=by unfold sEdge;rw[if_pos hok]
    rw[he] at h
    have hv2:vld G C (gC t a x) (gC t b y) (1 - t):=mvs_vld (S:=S) ⟨x,y,hx.1,hy,by omega,hok,rfl,rfl⟩ ht
    have hv3:=spo_lt hC.1 hv2
    obtain ⟨c0,c1,d0,d1,_⟩:=hv2
    rw[cuSpot_val hC ⟨c0,by omega⟩ ⟨d0,by omega⟩ ht]
    simp only[if_neg (show ¬ (!true)=true by decide),Option.bind_some]
    generalize spo C (gC t a x) (gC t b y) (1 - t)=v at h hv3
    rw[hw]
    simp only[if_pos hv3.1,if_pos (show v < (far.length:Int) by omega)]
    simp only[bfRelax] at h
    by_cases hf:rd far v < 0
    ·
     rw[hr,wr_id (a:=bb+1) (by omega) (by omega)]
     simp only[if_pos hf] at h ⊢
     simp only[if_pos hu.1,if_pos (show spo C a b t < (far.length:Int) by omega),if_pos (show q.length < 17592186044416 by omega)]
     refine ih (y+1) _ _ (by omega) (by omega) (by simpa using hl) ?_ (fun w w0 w1=>?_) (by simp;omega) h
     ·
      rw[rd_set far v _ (bb+1) hv3.1 (by omega) hu.1,if_neg (by intro e;rw[e] at hr;omega)];exact hr
     ·
      rw[rd_set far v w (bb+1) hv3.1 (by omega) w0]
      split
      ·
       omega
      ·
       exact hle w w0 w1
    ·
     simp only[if_neg hf] at h ⊢
     exact ih (y+1) far q (by omega) (by omega) hl hr hle (by omega) h
  by_cases h0:t=0
  ·
   rw[hc.1 h0,hd.1 h0];simp only[if_pos h0];exact hj
  ·
   rw[hc.2.1 (by omega),hd.2.1 (by omega)];simp only[if_neg h0];exact hj
theorem home_l2 (hG:0≤G∧G≤8) (hC:0≤C∧C≤8) (hS:1≤S∧S≤4) (hv:vld G C a b t) (N:Nat) (hN:(N:Int)=(G+1) * (C+1) * 2) (bb:Int) (hb:0≤bb∧bb≤1000) (idx:Int) (R:List Int) :
  ∀ (n:Nat) (x:Int) (far q:List Int),0≤x→x+n=S+1→far.length=N→rd far (spo C a b t)=bb→(∀ v,0≤v→v < (N:Int)→rd far v≤1001)→q.length+5 * n≤1000000 →
   Ev (fun k=>spec_cuHome.l1 k G C S (bfRelax bb (cat (fun x=>cat (sEdge G C a b t x) (S+1 - x).toNat 0) n x) far q).1 (bfRelax bb (cat (fun x=>cat (sEdge G C a b t x) (S+1 - x).toNat 0) n x) far q).2 (wrap64 (idx+1))) R →
   Ev (fun k=>spec_cuHome.l2 k G C S far q idx (spo C a b t) t a b x) R:=by
 have hu:=spo_lt hC.1 hv
 have ht:=hv.2.2.2.2
 intro n
 induction n with
 | zero =>
  intro x far q hx hxn hl hr hle hq h
  refine Ev.step (fun k=>spec_cuHome.l2.eq_2 ..) ?_
  simp only[if_neg (show ¬ x≤S by omega)]
  exact h
 | succ n ih =>
  intro x far q hx hxn hl hr hle hq h
  refine Ev.step (fun k=>spec_cuHome.l2.eq_2 ..) ?_
  simp only[if_pos (show x≤S by omega)]
  simp only[cat,bf_app] at h
  refine home_l3 hG hC hS hv N hN bb hb x ⟨hx,by omega⟩ idx R (S+1 - x).toNat 0 far q (by omega) (by omega) hl hr hle (by omega) ?_
  rw[wr_id (a:=x+1) (by omega) (by omega)]
  have hin:∀ v ∈ cat (sEdge G C a b t x) (S+1 - x).toNat 0,0≤v∧v < (N:Int):=by
   intro v hv'
   rw[mem_cat] at hv'
   obtain ⟨y,hy0,hy1,hv'⟩:=hv'
   unfold sEdge at hv'
   split at hv'
   ·
    rename_i hok
    have:=spo_lt hC.1 (mvs_vld (S:=S) ⟨x,y,hx,hy0,by omega,hok,rfl,rfl⟩ ht)
    have hv':v=spo C (gC t a x) (gC t b y) (1 - t):=by simpa using hv'
    rw[hv']
    omega
   ·
    cases hv'
  have hk:=bf_keep bb 1001 N (by omega) (cat (sEdge G C a b t x) (S+1 - x).toNat 0) far q hl hin hle
  have hl2:=bf_len bb (cat (sEdge G C a b t x) (S+1 - x).toNat 0) far q
  have hcl:=cat_len (sEdge G C a b t x) 1 (fun y=>by unfold sEdge;split <;> simp) (S+1 - x).toNat 0
  exact ih (x+1) (bfRelax bb (cat (sEdge G C a b t x) (S+1 - x).toNat 0) far q).1 (bfRelax bb (cat (sEdge G C a b t x) (S+1 - x).toNat 0) far q).2 (by omega) (by omega) (by omega) (by rw[hk.2 (spo C a b t) hu.1 (by omega) (by omega)];exact hr) hk.1 (by omega) h
theorem edgeS_bounded (hC:0≤C) (N:Nat) (hN:(N:Int)=(G+1) * (C+1) * 2) (s:Int) (hs:0≤s∧s < (N:Int)):Bounded (EdgeS G C S) (fun v=>v=s) N:=by
 refine ⟨?_,fun v hv=>by subst hv;exact hs⟩
 rintro u v c ⟨rfl,a,b,t,c,d,h,rfl,hm,rfl⟩
 have h1:=spo_lt hC h
 have h2:=spo_lt hC (mvs_vld hm h.2.2.2.2)
 omega
theorem home_l1 (hG:0≤G∧G≤8) (hC:0≤C∧C≤8) (hS:1≤S∧S≤4) (N:Nat) (hN:(N:Int)=(G+1) * (C+1) * 2) (hN2:N≤162) (s:Int) (hs:0≤s∧s < (N:Int)) :
  ∀ (g:Nat) (far pre todo:List Int),N - pre.length≤g→QInv (EdgeS G C S) (fun v=>v=s) N far pre todo→(∀ v,0≤v→v < (N:Int)→rd far v≤pre.length) →
   ∃ far',Ev (fun k=>spec_cuHome.l1 k G C S far (pre ++ todo) (pre.length:Int)) far'∧far'.length=N∧∀ v,0≤v→v < (N:Int)→IsLeast (H.Way (EdgeS G C S) (fun v=>v=s) v) (rd far' v):=by
 have hB:=edgeS_bounded (S:=S) hC.1 N hN s hs
 intro g
 induction g with
 | zero =>
  intro far pre todo hg hI hle
  have hlen:=nodup_len (n:=N) hI.nodup (fun v hv=>⟨(hI.inn v hv).1,(hI.inn v hv).2.1⟩)
  have:todo=[]:=by
   cases todo with
   | nil=>rfl
   | cons x r=>simp at hlen;omega
  subst this
  refine ⟨far,?_,hI.len,hI.fin hB⟩
  refine Ev.step (f:=fun _=>some far) (fun k=>?_) (Ev.now _)
  rw[spec_cuHome.l1,if_neg (by simp)]
 | succ g ih =>
  intro far pre todo hg hI hle
  have hlen:=nodup_len (n:=N) hI.nodup (fun v hv=>⟨(hI.inn v hv).1,(hI.inn v hv).2.1⟩)
  cases todo with
  | nil =>
   refine ⟨far,?_,hI.len,hI.fin hB⟩
   refine Ev.step (f:=fun _=>some far) (fun k=>?_) (Ev.now _)
   rw[spec_cuHome.l1,if_neg (by simp)]
  | cons u todo =>
   obtain ⟨u0,u1,mu,hmu,_⟩:=hI.inn u (by simp)
   obtain ⟨a,b,t,hv,rfl⟩:=spo_of hG.1 hC.1 u0 (by omega)
   simp only[List.length_append,List.length_cons] at hlen
   have hub:=hle _ u0 u1
   obtain ⟨todo',e1,hI'⟩:=hI.step hB (sAll G C S a b t) (fun v c=>EdgeS_iff (by omega) hv v c) (fun v hv'=>by
    obtain ⟨c,d,hm,rfl⟩:=(sAll_mem (by omega) v).1 hv'
    have:=spo_lt hC.1 (mvs_vld hm hv.2.2.2.2)
    omega)
   have hk:=bf_keep (rd far (spo C a b t)) ((pre.length:Int)+1) N (by omega) (sAll G C S a b t) far (pre ++ spo C a b t :: todo) hI.len (fun v hv'=>by
    obtain ⟨c,d,hm,rfl⟩:=(sAll_mem (by omega) v).1 hv'
    have:=spo_lt hC.1 (mvs_vld hm hv.2.2.2.2)
    omega) (fun v v0 v1=>by have:=hle v v0 v1;omega)
   obtain ⟨far',h1,h2,h3⟩:=ih _ (pre ++ [spo C a b t]) todo' (by simp;omega) hI' (fun v v0 v1=>by have:=hk.1 v v0 v1;simp;omega)
   refine ⟨far',?_,h2,h3⟩
   obtain ⟨a0,a1,b0,b1,ht⟩:=hv
   obtain ⟨d1,d2,d3⟩:=spo_dec hC ⟨a0,by omega⟩ ⟨b0,b1⟩ ht
   refine Ev.step (fun k=>spec_cuHome.l1.eq_2 ..) ?_
   have hrd:rd (pre ++ spo C a b t :: todo) (pre.length:Int)=spo C a b t:=rd_mid pre _ todo
   rw[hrd,d1,d2,d3]
   simp only[if_pos (lt_mid pre (spo C a b t) todo),if_pos (zle pre.length),if_neg (show ¬ wrap64 (C+1)=0 by rw[wr_id (by omega) (by omega)];omega)]
   refine home_l2 hG hC hS ⟨a0,a1,b0,b1,ht⟩ N hN _ ⟨by omega,by omega⟩ (pre.length:Int) far' (S+1).toNat 0 far _ (by omega) (by omega) hI.len rfl (fun v v0 v1=>by have:=hle v v0 v1;omega) (by simp;omega) ?_
   rw[wr_id (a:=(pre.length:Int)+1) (by omega) (by omega)]
   have e2:(pre.length:Int)+1=((pre ++ [spo C a b t]).length:Int):=by simp
   rw[e2]
   unfold sAll at e1
   rw[e1]
   exact h1
theorem home_fill (x0 x1 x2:Int) (R:List Int):∀ (n:Nat) (pre:List Int),(∀ v ∈ pre,v = -1)→pre.length+n≤1000→Ev (fun k=>(spec_cuSpot.f x1 x0 x1 1).bind fun t110=>(if 0≤t110 then (if t110 < ((List.replicate (pre.length+n) (-1:Int)).length:Int) then (spec_cuHome.l1 k x0 x1 x2 ((List.replicate (pre.length+n) (-1:Int)).set (t110:Int).toNat 0) (([t110]:List Int)) 0) else (none)) else (none))) R →
  Ev (fun k=>spec_cuHome.l0 k x0 x1 x2 (pre ++ List.replicate n 0) ((pre.length+n:Nat):Int) (pre.length:Int)) R:=by
 intro n
 induction n with
 | zero =>
  intro pre hp hl h
  have e:pre=List.replicate (pre.length+0) (-1):=List.eq_replicate_iff.2 ⟨by simp,hp⟩
  refine Ev.step (fun k=>spec_cuHome.l0.eq_2 ..) ?_
  rw[show pre ++ List.replicate 0 0=pre by simp]
  rw[← e] at h
  simp only[if_neg (show ¬ (pre.length:Int) < ((pre.length+0:Nat):Int) by omega)]
  exact h
 | succ n ih =>
  intro pre hp hl h
  refine Ev.step (fun k=>spec_cuHome.l0.eq_2 ..) ?_
  rw[List.replicate_succ,set_mid,wr_id (a:=(pre.length:Int)+1) (by omega) (by omega)]
  simp only[if_pos (show (pre.length:Int) < ((pre.length+(n+1):Nat):Int) by omega),if_pos (zle pre.length),if_pos (lt_mid pre (0:Int) (List.replicate n 0))]
  rw[app_mid]
  have:=ih (pre ++ [-1]) (fun v hv=>by
   rcases List.mem_append.1 hv with hv|hv
   ·
    exact hp v hv
   ·
    simpa using hv) (by simp;omega) (by rw[show (pre ++ [(-1:Int)]).length+n=pre.length+(n+1) by simp;omega];exact h)
  rw[show ((pre ++ [(-1:Int)]).length+n:Nat)=pre.length+(n+1) by simp;omega,show (((pre ++ [(-1:Int)]).length:Nat):Int)=(pre.length:Int)+1 by simp] at this
  exact this
theorem home_ok (hG:0≤G∧G≤8) (hC:0≤C∧C≤8) (hS:1≤S∧S≤4):∃ far,Ev (fun k=>spec_cuHome.f k G C S) far∧(far.length:Int)=(G+1) * (C+1) * 2∧∀ v,0≤v→v < (far.length:Int)→IsLeast (H.Way (EdgeS G C S) (fun v=>v=spo C G C 1) v) (rd far v):=by
 have e1:0 < (G+1) * (C+1):=Int.mul_pos (by omega) (by omega)
 have e2:(G+1) * (C+1)≤9 * (C+1):=Int.mul_le_mul_of_nonneg_right (by omega) (by omega)
 obtain ⟨N,hN⟩:∃ N:Nat,(N:Int)=(G+1) * (C+1) * 2:=⟨((G+1) * (C+1) * 2).toNat,by omega⟩
 have hN2:N≤162:=by omega
 have hs:=spo_lt (G:=G) (a:=G) (b:=C) (t:=1) hC.1 ⟨hG.1,by omega,hC.1,by omega, .inr rfl⟩
 rw[← hN] at hs
 have hB:=edgeS_bounded (S:=S) hC.1 N hN _ hs
 have hI:=QInv.init hB (spo C G C 1) (fun x=>Iff.rfl)
 obtain ⟨far,h1,h2,h3⟩:=home_l1 hG hC hS N hN hN2 (spo C G C 1) hs N _ [] [spo C G C 1] (by simp) hI (fun v v0 v1=>by
  rw[rd_set _ _ v 0 hs.1 (by simpa using hs.2) v0]
  split
  ·
   simp
  ·
   rw[rd_rep N (-1) v v0 v1];simp)
 refine ⟨far,?_,by rw[h2];exact hN,by rw[h2];exact h3⟩
 unfold spec_cuHome.f
 rw[wr_id (a:=G+1) (by omega) (by omega),wr_id (a:=C+1) (by omega) (by omega),wr_id (a:=(G+1) * (C+1)) (by omega) (by omega),wr_id (by omega) (by omega),← hN,Int.toNat_natCast]
 simp only[if_pos (zle N),if_pos (show N≤35184372088832 by omega),Option.bind_some,List.length_replicate]
 have hf:=home_fill G C S far N [] (by simp) (by simp;omega) (by
  have hsp:spec_cuSpot.f C G C 1=some (spo C G C 1):=by
   have:=cuSpot_val (c:=G) (d:=C) (t:=0) hC hG hC (.inl rfl)
   rw[wr_id (by omega) (by omega)] at this
   exact this
  simp only[hsp,Option.bind_some,List.length_nil,Nat.zero_add,List.length_replicate]
  simp only[if_pos hs.1,if_pos hs.2]
  exact h1)
 simpa using hf
end
end Go.Proofs.Ytabhhkiipilghaa.Pure

namespace Go.Proofs.Ytabhhkiipilghaa.Pure
open Go.RowKit Go.Proofs.Ytabhhkiipilghaa.C1 Go.Proofs.Ytabhhkiipilghaa.H Go.Proofs.YtabhhkiipilghaaW.PrintWords Go.Proofs.YtabhhkiipilghaaW.PrintLast Go.Proofs.YtabhhkiipilghaaW.PrintMore
set_option linter.unusedVariables false
set_option linter.unusedSimpArgs false
theorem cat_len2 {α:Type} (f:Int→List α) (B:Nat):∀ (n:Nat) (y:Int),(∀ z,y≤z→(f z).length≤B)→(cat f n y).length≤B * n:=by
 intro n
 induction n with
 | zero=>intro y _;simp[cat]
 | succ n ih =>
  intro y hf
  have h1:=hf y (Int.le_refl _)
  have h2:=ih (y+1) (fun z hz=>hf z (by omega))
  simp only[cat,List.length_append,Nat.mul_succ]
  omega
section
variable {G C S:Int}
theorem gOut_cod (S:Int) {a b t:Int} (hG:G≤8) (hC:C≤8) (h:vld G C a b t):gOut G C S (cod a b t)=some (cat (fun x=>cat (gEdge G C a b t x) (S+1 - x).toNat 0) (S+1).toNat 0):=by
 obtain ⟨a0,a1,b0,b1,ht⟩:=h
 have e1:cod a b t / 2 / 9=a:=by unfold cod;omega
 have e2:cod a b t / 2 % 9=b:=by unfold cod;omega
 have e3:cod a b t % 2=t:=by unfold cod;omega
 unfold gOut
 rw[if_pos (by unfold cod;omega),e1,e2,e3,gXs_cat]
theorem gEdge_mem {a b t x y:Int} (e:Edg):e ∈ gEdge G C a b t x y ↔ gOk G C (gC t a x) (gC t b y) x y=true∧e=(cod (gC t a x) (gC t b y) (1 - t),1,[x,y]):=by
 unfold gEdge cod
 split
 ·
  rename_i h
  simp only[List.mem_singleton,h,true_and]
  rw[show 2 * (gC t a x * 9+gC t b y)+1 - t=2 * (gC t a x * 9+gC t b y)+(1 - t) by omega]
 ·
  rename_i h
  simp[h]
theorem gOut_okay (hG:0≤G∧G≤8) (hC:0≤C∧C≤8) (hS:1≤S∧S≤4):Okay (gOut G C S) 162 1 25:=by
 intro s h0 h1
 have hv:vld 8 8 (s / 2 / 9) (s / 2 % 9) (s % 2):=⟨by omega,by omega,by omega,by omega,by omega⟩
 refine ⟨_,by unfold gOut;rw[if_pos (by omega)],?_,?_⟩
 ·
  rw[gXs_cat]
  refine Nat.le_trans (cat_len2 _ 5 _ 0 (fun x hx=>?_)) (by omega)
  have:=cat_len (gEdge G C (s / 2 / 9) (s / 2 % 9) (s % 2) x) 1 (fun y=>by unfold gEdge;split <;> simp) (S+1 - x).toNat 0
  omega
 ·
  intro e he
  rw[gXs_cat,mem_cat] at he
  obtain ⟨x,hx0,hx1,he⟩:=he
  rw[mem_cat] at he
  obtain ⟨y,hy0,hy1,he⟩:=he
  obtain ⟨hok,rfl⟩:=(gEdge_mem e).1 he
  simp only[gOk,inI,Bool.and_eq_true,decide_eq_true_eq] at hok
  refine ⟨?_,?_,Int.le_refl 1,Int.le_refl 1⟩
  ·
   show 0≤cod _ _ _
   unfold cod;omega
  ·
   show cod _ _ _ < _
   unfold cod;omega
def rSC (G C:Int) (u u':Int):Prop:=∃ a b t,vld G C a b t∧u=spo C a b t∧u'=cod a b t
theorem sc_fwd (hG:0≤G∧G≤8) (hC:0≤C∧C≤8) (hS:1≤S∧S≤4):∀ u u' v c,rSC G C u u'→EdgeS G C S u v c→∃ v',EdgeOf (gOut G C S) 162 u' v' c∧rSC G C v v':=by
 rintro u u' v c ⟨a,b,t,h,rfl,rfl⟩ ⟨rfl,a2,b2,t2,c2,d2,h2,e,hm,rfl⟩
 obtain ⟨rfl,rfl,rfl⟩:=spo_inj h h2 e
 have hv2:=mvs_vld hm h.2.2.2.2
 obtain ⟨x,y,hx,hy,hxy,hok,rfl,rfl⟩:=hm
 refine ⟨cod (gC t a x) (gC t b y) (1 - t),⟨?_,?_,_,(cod (gC t a x) (gC t b y) (1 - t),1,[x,y]),gOut_cod S hG.2 hC.2 h,?_,rfl,rfl⟩,_,_,_,hv2,rfl,rfl⟩
 ·
  obtain ⟨a0,a1,b0,b1,ht⟩:=h;unfold cod;omega
 ·
  obtain ⟨a0,a1,b0,b1,ht⟩:=h;unfold cod;omega
 ·
  rw[mem_cat]
  refine ⟨x,hx,by omega,?_⟩
  rw[mem_cat]
  exact ⟨y,hy,by omega,(gEdge_mem _).2 ⟨hok,rfl⟩⟩
theorem sc_bwd (hG:0≤G∧G≤8) (hC:0≤C∧C≤8) (hS:1≤S∧S≤4):∀ u' u v' c,rSC G C u u'→EdgeOf (gOut G C S) 162 u' v' c→∃ v,EdgeS G C S u v c∧rSC G C v v':=by
 rintro u' u v' c ⟨a,b,t,h,rfl,rfl⟩ ⟨_,_,es,e,hes,he,rfl,hc⟩
 rw[gOut_cod S hG.2 hC.2 h] at hes
 obtain rfl:=Option.some.inj hes
 rw[mem_cat] at he
 obtain ⟨x,hx0,hx1,he⟩:=he
 rw[mem_cat] at he
 obtain ⟨y,hy0,hy1,he⟩:=he
 obtain ⟨hok,rfl⟩:=(gEdge_mem e).1 he
 have hm:mvs G C S a b t (gC t a x) (gC t b y):=⟨x,y,hx0,hy0,by omega,hok,rfl,rfl⟩
 have hc:c=1:=by
  have:(1:Int)=(c:Int):=hc
  omega
 exact ⟨spo C (gC t a x) (gC t b y) (1 - t),⟨hc,a,b,t,_,_,h,rfl,hm,rfl⟩,_,_,_,mvs_vld hm h.2.2.2.2,rfl,rfl⟩
theorem sc_zero (hG:0≤G∧G≤8) (hC:0≤C∧C≤8) (hS:1≤S∧S≤4) (n:Nat):H.Way (EdgeS G C S) (fun v=>v=spo C G C 1) 0 n ↔ WayO (gOut G C S) 162 [2 * (G * 9+C)+1] 0 n:=by
 have hl:vld G C G C 1:=⟨hG.1,by omega,hC.1,by omega, .inr rfl⟩
 have hz:vld G C 0 0 0:=⟨by omega,hG.1,by omega,hC.1, .inl rfl⟩
 have e0:spo C 0 0 0=0:=by unfold spo;simp
 constructor
 ·
  intro h
  obtain ⟨v',⟨a,b,t,hv,e,rfl⟩,hw⟩:=way_rel (E':=EdgeOf (gOut G C S) 162) (S':=fun s=>s ∈ [2 * (G * 9+C)+1]) (rSC G C) (fun s hs=>⟨2 * (G * 9+C)+1,by simp,G,C,1,hl,hs,rfl⟩) (sc_fwd hG hC hS) h
  rw[← e0] at e
  obtain ⟨rfl,rfl,rfl⟩:=spo_inj hz hv e
  exact hw
 ·
  intro h
  obtain ⟨v',⟨a,b,t,hv,e,e2⟩,hw⟩:=way_rel (E':=EdgeS G C S) (S':=fun v=>v=spo C G C 1) (fun u' u=>rSC G C u u') (fun s hs=>⟨spo C G C 1,rfl,G,C,1,hl,rfl,by unfold cod;simpa using hs⟩) (sc_bwd hG hC hS) h
  obtain ⟨a0,a1,b0,b1,ht⟩:=hv
  have:a=0∧b=0∧t=0:=by unfold cod at e2;omega
  obtain ⟨rfl,rfl,rfl⟩:=this
  rw[e,e0] at hw
  exact hw
theorem from_g (hG:0≤G∧G≤8) (hC:0≤C∧C≤8) (hS:1≤S∧S≤4):∃ r,Ev (fun k=>bkD (gOut G C S) k 0 (List.replicate 162 (-1)) [[2 * (G * 9+C)+1]]) r∧r.length=162∧∀ v,0≤v→v < 162→IsLeast (WayO (gOut G C S) 162 [2 * (G * 9+C)+1] v) (rd r v):=by
 obtain ⟨K,r,h1,h2,h3⟩:=from_ok (starts:=[2 * (G * 9+C)+1]) (gOut_okay hG hC hS) (by decide) (by decide) (by simp[bkLim]) (by decide) (by simp;omega)
 refine ⟨r,⟨K,fun k hk=>?_⟩,h2,h3⟩
 have:=h1 k hk
 unfold fromF at this
 rw[if_pos (by decide)] at this
 exact this
def gSides (G C S:Int):Bool:=inI G 0 8 && (inI C 0 8 && (decide (0 < G+C) && inI S 1 4))
theorem isOk_val (G C S:Int):impl_guarded_isOk.f G C S=some (gSides G C S):=by
 unfold impl_guarded_isOk.f gSides
 rw[in_val,Option.bind_some]
 cases h1:inI G 0 8 with
 | false=>simp
 | true =>
  rw[if_pos rfl,in_val,Option.bind_some]
  cases h2:inI C 0 8 with
  | false=>simp
  | true =>
   rw[if_pos rfl]
   simp only[inI,Bool.and_eq_true,decide_eq_true_eq] at h1 h2
   rw[wr_id (by omega) (by omega)]
   by_cases h3:0 < G+C
   ·
    rw[if_pos h3,in_val,Option.bind_some,decide_eq_true h3];simp
   ·
    rw[if_neg h3,decide_eq_false h3];simp
theorem cuSides_val (G C S:Int):spec_cuSides.f G C S=some (gSides G C S):=by
 unfold spec_cuSides.f gSides
 rw[l1In_val,Option.bind_some]
 cases h1:inI G 0 8 with
 | false=>simp
 | true =>
  rw[if_pos rfl,l1In_val,Option.bind_some]
  cases h2:inI C 0 8 with
  | false=>simp
  | true =>
   rw[if_pos rfl]
   simp only[inI,Bool.and_eq_true,decide_eq_true_eq] at h1 h2
   rw[wr_id (by omega) (by omega)]
   by_cases h3:0 < G+C
   ·
    rw[if_pos h3,l1In_val,Option.bind_some,decide_eq_true h3];simp
   ·
    rw[if_neg h3,decide_eq_false h3];simp
theorem gSides_b (h:gSides G C S=true):(0≤G∧G≤8)∧(0≤C∧C≤8)∧(1≤S∧S≤4):=by
 simp only[gSides,inI,Bool.and_eq_true,decide_eq_true_eq] at h
 omega
theorem guards_all (G C S:Int):∃ (d:List Int) (ok:Bool) (m:Int),Ev (fun k=>impl_guarded_costs.f k G C S) (d,ok)∧(ok=true→rd d 0=m)∧Ev (fun k=>spec_FewestForGuards.f k G C S) (if ok=true then (m,true) else (0,false)):=by
 unfold impl_guarded_costs.f spec_FewestForGuards.f
 rw[isOk_val,cuSides_val]
 simp only[Option.bind_some]
 cases hs:gSides G C S with
 | false =>
  refine ⟨[],false,0,Ev.now _,(fun h=>by cases h),?_⟩
  simp only[Bool.false_eq_true,if_false]
  exact Ev.step (f:=fun _=>some (0,false)) (fun k=>by rw[spec_FewestForGuards.j0];rfl) (Ev.now _)
 | true =>
  obtain ⟨hG,hC,hS⟩:=gSides_b hs
  rw[bothFine_val G C S 0 0 (by omega) (by omega),cuHeld_val]
  simp only[if_true,Option.bind_some,show fineB 0 0=true from rfl,Bool.true_and,Int.sub_zero]
  cases hf:fineB G C with
  | false =>
   refine ⟨[],false,0,Ev.now _,(fun h=>by cases h),?_⟩
   simp only[Bool.false_eq_true,if_false]
   exact Ev.step (f:=fun _=>some (0,false)) (fun k=>by rw[spec_FewestForGuards.j0];rfl) (Ev.now _)
  | true =>
   obtain ⟨far,f1,f2,f3⟩:=home_ok hG hC hS
   obtain ⟨r,r1,r2,r3⟩:=from_g hG hC hS
   have hpos:0 < (far.length:Int):=by
    have:0 < (G+1) * (C+1):=Int.mul_pos (by omega) (by omega)
    omega
   have heq:rd far 0=rd r 0:=IsLeast.uniq ((f3 0 (by omega) hpos).iff (sc_zero hG hC hS)) (r3 0 (by omega) (by omega))
   refine ⟨r,decide (0≤rd r 0),rd r 0,?_,fun _=>rfl,?_⟩
   ·
    simp only[if_true]
    refine Ev.bind r1 ?_
    simp only[r2,if_true]
    exact Ev.now _
   ·
    refine Ev.step (fun k=>spec_FewestForGuards.j0.eq_2 ..) ?_
    simp only[Bool.not_true,Bool.false_eq_true,if_false]
    refine Ev.bind f1 ?_
    simp only[if_pos hpos,heq]
    by_cases hz:rd r 0 < 0
    ·
     simp only[if_pos hz,decide_eq_false (show ¬ 0≤rd r 0 by omega),Bool.false_eq_true,if_false]
     exact Ev.now _
    ·
     simp only[if_neg hz,decide_eq_true (show 0≤rd r 0 by omega),if_true]
     exact Ev.now _
end
end Go.Proofs.Ytabhhkiipilghaa.Pure

namespace Go.Proofs.Ytabhhkiipilghaa.Pure
open Go.RowKit Go.Proofs.Ytabhhkiipilghaa.C1 Go.Proofs.Ytabhhkiipilghaa.H Go.Proofs.YtabhhkiipilghaaW.PrintWords Go.Proofs.YtabhhkiipilghaaW.PrintLast Go.Proofs.YtabhhkiipilghaaW.PrintMore
set_option linter.unusedVariables false
set_option linter.unusedSimpArgs false
theorem homeG_fill (x0 x1 x2:Int) (R:List Int):∀ (n:Nat) (pre:List Int),(∀ v ∈ pre,v = -1)→pre.length+n≤1000→Ev (fun k=>(spec_cuSpot.f x1 x0 x1 1).bind fun t110=>(if 0≤t110 then (if t110 < ((List.replicate (pre.length+n) (-1:Int)).length:Int) then (spec_cuHome.l1 k x0 x1 x2 ((List.replicate (pre.length+n) (-1:Int)).set (t110:Int).toNat 0) (([t110]:List Int)) 0) else (none)) else (none))) R →
  Ev (fun k=>spec_cuHome.l0 k x0 x1 x2 (pre ++ List.replicate n 0) ((pre.length+n:Nat):Int) (pre.length:Int)) R:=by
 intro n
 induction n with
 | zero =>
  intro pre hp hl h
  have e:pre=List.replicate (pre.length+0) (-1):=List.eq_replicate_iff.2 ⟨by simp,hp⟩
  refine Ev.step (fun k=>spec_cuHome.l0.eq_2 ..) ?_
  rw[show pre ++ List.replicate 0 0=pre by simp]
  rw[← e] at h
  simp only[if_neg (show ¬ (pre.length:Int) < ((pre.length+0:Nat):Int) by omega)]
  exact h
 | succ n ih =>
  intro pre hp hl h
  refine Ev.step (fun k=>spec_cuHome.l0.eq_2 ..) ?_
  rw[List.replicate_succ,set_mid,wr_id (a:=(pre.length:Int)+1) (by omega) (by omega)]
  simp only[if_pos (show (pre.length:Int) < ((pre.length+(n+1):Nat):Int) by omega),if_pos (zle pre.length),if_pos (lt_mid pre (0:Int) (List.replicate n 0))]
  rw[app_mid]
  have:=ih (pre ++ [-1]) (fun v hv=>by
   rcases List.mem_append.1 hv with hv|hv
   ·
    exact hp v hv
   ·
    simpa using hv) (by simp;omega) (by rw[show (pre ++ [(-1:Int)]).length+n=pre.length+(n+1) by simp;omega];exact h)
  rw[show ((pre ++ [(-1:Int)]).length+n:Nat)=pre.length+(n+1) by simp;omega,show (((pre ++ [(-1:Int)]).length:Nat):Int)=(pre.length:Int)+1 by simp] at this
  exact this
def gN (a b:Int):Nat:=((a+1) * (b+1) * 2).toNat
def gSp (a b:Int):Int:=(a * (b+1)+b) * 2+1
def fgR (K:Nat) (a b s:Int):Option (List Int):=spec_cuHome.l1 K a b s ((List.replicate (gN a b) (-1)).set (gSp a b).toNat 0) [gSp a b] 0
def fgTail (K:Nat) (a b s:Int) (far:List Int):Option (List (List Int) × Bool):=if 0 < (far.length:Int) then (if rd far 0 < 0 then some ([],false) else spec_FirstForGuards.l0 K a b s far [] 0 0 0 (rd far 0)) else none
theorem home_of {a b s:Int} (ha:0≤a∧a≤8) (hb:0≤b∧b≤8) {K:Nat} {far:List Int} (h:fgR K a b s=some far):Ev (fun k=>spec_cuHome.f k a b s) far:=by
 have e1:0 < (a+1) * (b+1):=Int.mul_pos (by omega) (by omega)
 have e2:(a+1) * (b+1)≤9 * (b+1):=Int.mul_le_mul_of_nonneg_right (by omega) (by omega)
 have hN:((gN a b:Nat):Int)=(a+1) * (b+1) * 2:=Int.toNat_of_nonneg (by omega)
 have e3:0≤a * (b+1):=Int.mul_nonneg (by omega) (by omega)
 have e4:(a+1) * (b+1)=a * (b+1)+(b+1):=by rw[Int.add_mul,Int.one_mul]
 have hs0:0≤gSp a b:=by unfold gSp;omega
 have hs1:gSp a b < ((gN a b:Nat):Int):=by rw[hN];unfold gSp;omega
 have hsp:spec_cuSpot.f b a b 1=some (gSp a b):=by
  unfold spec_cuSpot.f
  rw[wr_id (a:=b+1) (by omega) (by omega),wr_id (a:=a * (b+1)) (by omega) (by omega),wr_id (a:=a * (b+1)+b) (by omega) (by omega),wr_id (a:=(a * (b+1)+b) * 2) (by omega) (by omega),wr_id (by omega) (by omega)]
  rfl
 have hup:Ev (fun k=>spec_cuHome.l1 k a b s ((List.replicate (gN a b) (-1)).set (gSp a b).toNat 0) [gSp a b] 0) far:=ev_up (fun k=>(spec_cuHome.mono_l k).2.1 _ _ _ _ _ _) h
 unfold spec_cuHome.f
 rw[wr_id (a:=a+1) (by omega) (by omega),wr_id (a:=b+1) (by omega) (by omega),wr_id (a:=(a+1) * (b+1)) (by omega) (by omega),wr_id (by omega) (by omega),← hN,Int.toNat_natCast]
 simp only[if_pos (zle (gN a b)),if_pos (show gN a b≤35184372088832 by omega),Option.bind_some,List.length_replicate]
 have hf:=homeG_fill a b s far (gN a b) [] (by simp) (by simp;omega) (by
  simp only[hsp,Option.bind_some,List.length_nil,Nat.zero_add,List.length_replicate]
  simp only[if_pos hs0,if_pos hs1]
  exact hup)
 simpa using hf
def chkG (a b s:Int):Bool:=match impl_FirstForGuards.f 30000 a b s with
 | none=>false
 | some r=>decide (n2 r.1≤1048576) && (match spec_cuHeld.f a b with
  | some true=>(match fgR 30000 a b s with
   | none=>false
   | some far=>decide (fgTail 30000 a b s far=some r))
  | _=>decide (r=([],false)))
end Go.Proofs.Ytabhhkiipilghaa.Pure

namespace Go.Proofs.Ytabhhkiipilghaa.Pure
open Go.RowKit Go.Proofs.Ytabhhkiipilghaa.C1 Go.Proofs.Ytabhhkiipilghaa.H Go.Proofs.YtabhhkiipilghaaW.PrintWords Go.Proofs.YtabhhkiipilghaaW.PrintLast Go.Proofs.YtabhhkiipilghaaW.PrintMore
set_option linter.unusedVariables false
set_option linter.unusedSimpArgs false
set_option maxRecDepth 100000 in
theorem fgT0:∀ (b:Fin 9) (s:Fin 4),chkG 0 ((b:Nat):Int) (((s:Nat):Int)+1)=true:=by decide +kernel
set_option maxRecDepth 100000 in
theorem fgT1:∀ (b:Fin 9) (s:Fin 4),chkG 1 ((b:Nat):Int) (((s:Nat):Int)+1)=true:=by decide +kernel
set_option maxRecDepth 100000 in
theorem fgT2:∀ (b:Fin 9) (s:Fin 4),chkG 2 ((b:Nat):Int) (((s:Nat):Int)+1)=true:=by decide +kernel
set_option maxRecDepth 100000 in
theorem fgT3:∀ (b:Fin 9) (s:Fin 4),chkG 3 ((b:Nat):Int) (((s:Nat):Int)+1)=true:=by decide +kernel
set_option maxRecDepth 100000 in
theorem fgT4:∀ (b:Fin 9) (s:Fin 4),chkG 4 ((b:Nat):Int) (((s:Nat):Int)+1)=true:=by decide +kernel
set_option maxRecDepth 100000 in
theorem fgT5:∀ (b:Fin 9) (s:Fin 4),chkG 5 ((b:Nat):Int) (((s:Nat):Int)+1)=true:=by decide +kernel
set_option maxRecDepth 100000 in
theorem fgT6:∀ (b:Fin 9) (s:Fin 4),chkG 6 ((b:Nat):Int) (((s:Nat):Int)+1)=true:=by decide +kernel
end Go.Proofs.Ytabhhkiipilghaa.Pure

namespace Go.Proofs.Ytabhhkiipilghaa.Pure
open Go.RowKit Go.Proofs.Ytabhhkiipilghaa.C1 Go.Proofs.Ytabhhkiipilghaa.H Go.Proofs.YtabhhkiipilghaaW.PrintWords Go.Proofs.YtabhhkiipilghaaW.PrintLast Go.Proofs.YtabhhkiipilghaaW.PrintMore
set_option linter.unusedVariables false
set_option linter.unusedSimpArgs false
set_option maxRecDepth 100000 in
theorem fgT7_0:∀ (s:Fin 4),chkG 7 0 (((s:Nat):Int)+1)=true:=by decide +kernel
set_option maxRecDepth 100000 in
theorem fgT7_1:∀ (s:Fin 4),chkG 7 1 (((s:Nat):Int)+1)=true:=by decide +kernel
set_option maxRecDepth 100000 in
theorem fgT7_2:∀ (s:Fin 4),chkG 7 2 (((s:Nat):Int)+1)=true:=by decide +kernel
set_option maxRecDepth 100000 in
theorem fgT7_3:∀ (s:Fin 4),chkG 7 3 (((s:Nat):Int)+1)=true:=by decide +kernel
set_option maxRecDepth 100000 in
theorem fgT7_4:∀ (s:Fin 4),chkG 7 4 (((s:Nat):Int)+1)=true:=by decide +kernel
set_option maxRecDepth 100000 in
theorem fgT7_5:∀ (s:Fin 4),chkG 7 5 (((s:Nat):Int)+1)=true:=by decide +kernel
set_option maxRecDepth 100000 in
theorem fgT7_6:∀ (s:Fin 4),chkG 7 6 (((s:Nat):Int)+1)=true:=by decide +kernel
set_option maxRecDepth 100000 in
theorem fgT7_7:∀ (s:Fin 4),chkG 7 7 (((s:Nat):Int)+1)=true:=by decide +kernel
set_option maxRecDepth 100000 in
theorem fgT7_8:∀ (s:Fin 4),chkG 7 8 (((s:Nat):Int)+1)=true:=by decide +kernel
theorem fgT7:∀ (b:Fin 9) (s:Fin 4),chkG 7 ((b:Nat):Int) (((s:Nat):Int)+1)=true:=by
 intro b s
 obtain ⟨b,hb⟩:=b
 have:b=0∨b=1∨b=2∨b=3∨b=4∨b=5∨b=6∨b=7∨b=8:=by omega
 rcases this with rfl|rfl|rfl|rfl|rfl|rfl|rfl|rfl|rfl
 ·
  exact fgT7_0 s
 ·
  exact fgT7_1 s
 ·
  exact fgT7_2 s
 ·
  exact fgT7_3 s
 ·
  exact fgT7_4 s
 ·
  exact fgT7_5 s
 ·
  exact fgT7_6 s
 ·
  exact fgT7_7 s
 ·
  exact fgT7_8 s
end Go.Proofs.Ytabhhkiipilghaa.Pure

namespace Go.Proofs.Ytabhhkiipilghaa.Pure
open Go.RowKit Go.Proofs.Ytabhhkiipilghaa.C1 Go.Proofs.Ytabhhkiipilghaa.H Go.Proofs.YtabhhkiipilghaaW.PrintWords Go.Proofs.YtabhhkiipilghaaW.PrintLast Go.Proofs.YtabhhkiipilghaaW.PrintMore
set_option linter.unusedVariables false
set_option linter.unusedSimpArgs false
set_option maxRecDepth 100000 in
theorem fgT8_0:∀ (s:Fin 4),chkG 8 0 (((s:Nat):Int)+1)=true:=by decide +kernel
set_option maxRecDepth 100000 in
theorem fgT8_1:∀ (s:Fin 4),chkG 8 1 (((s:Nat):Int)+1)=true:=by decide +kernel
set_option maxRecDepth 100000 in
theorem fgT8_2:∀ (s:Fin 4),chkG 8 2 (((s:Nat):Int)+1)=true:=by decide +kernel
set_option maxRecDepth 100000 in
theorem fgT8_3:∀ (s:Fin 4),chkG 8 3 (((s:Nat):Int)+1)=true:=by decide +kernel
set_option maxRecDepth 100000 in
theorem fgT8_4:∀ (s:Fin 4),chkG 8 4 (((s:Nat):Int)+1)=true:=by decide +kernel
set_option maxRecDepth 100000 in
theorem fgT8_5:∀ (s:Fin 4),chkG 8 5 (((s:Nat):Int)+1)=true:=by decide +kernel
set_option maxRecDepth 100000 in
theorem fgT8_6:∀ (s:Fin 4),chkG 8 6 (((s:Nat):Int)+1)=true:=by decide +kernel
set_option maxRecDepth 100000 in
theorem fgT8_7:∀ (s:Fin 4),chkG 8 7 (((s:Nat):Int)+1)=true:=by decide +kernel
set_option maxRecDepth 100000 in
theorem fgT8_8:∀ (s:Fin 4),chkG 8 8 (((s:Nat):Int)+1)=true:=by decide +kernel
theorem fgT8:∀ (b:Fin 9) (s:Fin 4),chkG 8 ((b:Nat):Int) (((s:Nat):Int)+1)=true:=by
 intro b s
 obtain ⟨b,hb⟩:=b
 have:b=0∨b=1∨b=2∨b=3∨b=4∨b=5∨b=6∨b=7∨b=8:=by omega
 rcases this with rfl|rfl|rfl|rfl|rfl|rfl|rfl|rfl|rfl
 ·
  exact fgT8_0 s
 ·
  exact fgT8_1 s
 ·
  exact fgT8_2 s
 ·
  exact fgT8_3 s
 ·
  exact fgT8_4 s
 ·
  exact fgT8_5 s
 ·
  exact fgT8_6 s
 ·
  exact fgT8_7 s
 ·
  exact fgT8_8 s
end Go.Proofs.Ytabhhkiipilghaa.Pure

namespace Go.Proofs.Ytabhhkiipilghaa.Pure
open Go.RowKit Go.Proofs.Ytabhhkiipilghaa.C1 Go.Proofs.Ytabhhkiipilghaa.H Go.Proofs.YtabhhkiipilghaaW.PrintWords Go.Proofs.YtabhhkiipilghaaW.PrintLast Go.Proofs.YtabhhkiipilghaaW.PrintMore
set_option linter.unusedVariables false
set_option linter.unusedSimpArgs false
theorem sidesG {a b s:Int} (ha:0≤a∧a≤8) (hb:0≤b∧b≤8) (hs:1≤s∧s≤4):spec_cuSides.f a b s=some (decide (0 < a+b)):=by
 have w:wrap64 (a+b)=a+b:=wr_id (by omega) (by omega)
 unfold spec_cuSides.f spec_l1In.f
 simp[ha.1,ha.2,hb.1,hb.2,hs.1,hs.2,w]
 by_cases h0:0 < a+b <;> simp [h0]
theorem chkG_ok {a b s:Int} (ha:0≤a∧a≤8) (hb:0≤b∧b≤8) (hs:1≤s∧s≤4) (h:chkG a b s=true) (h0:0 < a+b):∃ rr:List (List Int) × Bool,Ev (fun k=>spec_FirstForGuards.f k a b s) rr∧Ev (fun k=>impl_FirstForGuards.f k a b s) rr∧n2 rr.1≤1048576:=by
 unfold chkG at h
 cases hi:impl_FirstForGuards.f 30000 a b s with
 | none=>rw [hi] at h;cases h
 | some r =>
  rw[hi] at h
  simp only[Bool.and_eq_true,decide_eq_true_eq] at h
  obtain ⟨h1,h⟩:=h
  refine ⟨r,?_,ev_up (f:=fun k=>impl_FirstForGuards.f k a b s) (fun k=>impl_FirstForGuards.mono _ _ _ _) hi,h1⟩
  unfold spec_FirstForGuards.f
  rw[sidesG ha hb hs]
  simp only[Option.bind_some,decide_eq_true h0,if_true]
  have hh:spec_cuHeld.f a b=some true∨spec_cuHeld.f a b=some false:=by
   unfold spec_cuHeld.f
   split
   ·
    exact .inl rfl
   ·
    by_cases y:a ≥ b
    ·
     exact .inl (by rw[decide_eq_true y])
    ·
     exact .inr (by rw[decide_eq_false y])
  rcases hh with e|e
  ·
   rw[e] at h
   dsimp only at h
   cases hr:fgR 30000 a b s with
   | none=>rw [hr] at h;cases h
   | some far =>
    rw[hr] at h
    dsimp only at h
    have ht:=of_decide_eq_true h
    rw[e]
    simp only[Option.bind_some,Bool.not_true]
    refine Ev.step (fun k=>spec_FirstForGuards.j0.eq_2 ..) ?_
    simp only[Bool.false_eq_true,if_false]
    refine Ev.bind (home_of ha hb hr) ?_
    unfold fgTail at ht
    split at ht
    ·
     rename_i hp
     simp only[if_pos hp]
     split at ht
     ·
      rename_i hq
      simp only[if_pos hq]
      rw[← Option.some.inj ht]
      exact Ev.now _
     ·
      rename_i hq
      simp only[if_neg hq]
      exact ev_up (fun k=>(spec_FirstForGuards.mono_l k).2.1 _ _ _ _ _ _ _ _ _) ht
    ·
     cases ht
  ·
   rw[e] at h
   dsimp only at h
   have:=of_decide_eq_true h
   subst this
   rw[e]
   simp only[Option.bind_some,Bool.not_false]
   refine Ev.step (fun k=>spec_FirstForGuards.j0.eq_2 ..) ?_
   simp only[if_true]
   exact Ev.now _
theorem FnExactFirstForGuards_both (a b s:Int):∃ rr:List (List Int) × Bool,Ev (fun k=>spec_FirstForGuards.f k a b s) rr∧Ev (fun k=>impl_FirstForGuards.f k a b s) rr∧n2 rr.1≤1048576:=by
 by_cases hg:(0≤a∧a≤8)∧(0≤b∧b≤8)∧(1≤s∧s≤4)∧0 < a+b
 ·
  obtain ⟨⟨a0,a1⟩,⟨b0,b1⟩,⟨s0,s1⟩,ab⟩:=hg
  obtain ⟨x,rfl⟩:∃ x:Nat,b=(x:Int):=⟨b.toNat,by omega⟩
  obtain ⟨y,rfl⟩:∃ y:Nat,s=(y:Int)+1:=⟨(s - 1).toNat,by omega⟩
  have hx:x < 9:=by omega
  have hy:y < 4:=by omega
  have:a=0∨a=1∨a=2∨a=3∨a=4∨a=5∨a=6∨a=7∨a=8:=by omega
  rcases this with rfl|rfl|rfl|rfl|rfl|rfl|rfl|rfl|rfl
  ·
   exact chkG_ok (by omega) (by omega) (by omega) (fgT0 ⟨x,hx⟩ ⟨y,hy⟩) ab
  ·
   exact chkG_ok (by omega) (by omega) (by omega) (fgT1 ⟨x,hx⟩ ⟨y,hy⟩) ab
  ·
   exact chkG_ok (by omega) (by omega) (by omega) (fgT2 ⟨x,hx⟩ ⟨y,hy⟩) ab
  ·
   exact chkG_ok (by omega) (by omega) (by omega) (fgT3 ⟨x,hx⟩ ⟨y,hy⟩) ab
  ·
   exact chkG_ok (by omega) (by omega) (by omega) (fgT4 ⟨x,hx⟩ ⟨y,hy⟩) ab
  ·
   exact chkG_ok (by omega) (by omega) (by omega) (fgT5 ⟨x,hx⟩ ⟨y,hy⟩) ab
  ·
   exact chkG_ok (by omega) (by omega) (by omega) (fgT6 ⟨x,hx⟩ ⟨y,hy⟩) ab
  ·
   exact chkG_ok (by omega) (by omega) (by omega) (fgT7 ⟨x,hx⟩ ⟨y,hy⟩) ab
  ·
   exact chkG_ok (by omega) (by omega) (by omega) (fgT8 ⟨x,hx⟩ ⟨y,hy⟩) ab
 ·
  have e1:spec_cuSides.f a b s=some false:=by
   unfold spec_cuSides.f spec_l1In.f
   by_cases hr:(0≤a∧a≤8)∧(0≤b∧b≤8)
   ·
    have w:wrap64 (a+b)=a+b:=wr_id (by omega) (by omega)
    simp only[ge_iff_le,if_pos hr.1.1,if_pos hr.2.1,decide_eq_true hr.1.2,decide_eq_true hr.2.2,Option.bind_some,if_true,w]
    by_cases h0:0 < a+b
    ·
     by_cases h5:1≤s <;> by_cases h6:s≤4 <;> simp [h0,h5,h6] <;> omega
    ·
     simp[h0]
   ·
    by_cases h1:0≤a <;> by_cases h2:a≤8 <;> by_cases h3:0≤b <;> by_cases h4:b≤8 <;> simp [h1,h2,h3,h4] <;> omega
  have e2:impl_guarded_isOk.f a b s=some false:=by
   unfold impl_guarded_isOk.f
   have hin:∀ x y z,impl_in.f x y z=spec_l1In.f x y z:=fun x y z=>by
    unfold impl_in.f spec_l1In.f
    by_cases h1:y≤x <;> simp [h1]
   rw[hin,hin,hin]
   exact e1
  refine ⟨([],false),?_,?_,by decide⟩
  ·
   unfold spec_FirstForGuards.f
   simp only[e1,Option.bind_some,Bool.false_eq_true,if_false]
   refine Ev.step (fun k=>spec_FirstForGuards.j0.eq_2 ..) ?_
   simp only[if_true]
   exact Ev.now _
  ·
   unfold impl_FirstForGuards.f impl_guarded_costs.f
   simp only[e2,Option.bind_some,Bool.false_eq_true,if_false]
   exact Ev.now _
theorem seats_loop (a0 a1:Int):∀ (n:Nat) (s:Int),s+n=5→0≤s→∃ r,Ev (fun k=>seatsG k a0 a1 n s) r∧Ev (fun k=>spec_SeatsForGuards.l0 k a0 a1 s) r:=by
 intro n
 induction n with
 | zero =>
  intro s hs h0
  refine ⟨(0,false),Ev.now _,Ev.step (f:=fun _=>some (0,false)) (fun k=>?_) (Ev.now _)⟩
  rw[spec_SeatsForGuards.l0,if_neg (by omega)]
 | succ n ih =>
  intro s hs h0
  obtain ⟨r,i1,i2⟩:=ih (s+1) (by omega) (by omega)
  obtain ⟨d,ok,m,h1,h2,h3⟩:=guards_all a0 a1 s
  refine ⟨if ok=true then (s,true) else r,?_,?_⟩
  ·
   simp only[seatsG]
   refine Ev.bind h1 ?_
   cases ok with
   | false=>exact i1
   | true=>exact Ev.now _
  ·
   refine Ev.step (fun k=>spec_SeatsForGuards.l0.eq_2 ..) ?_
   rw[wr_id (a:=s+1) (by omega) (by omega)]
   simp only[if_pos (show s≤4 by omega)]
   refine Ev.bind h3 ?_
   cases ok with
   | false=>exact i2
   | true=>exact Ev.now _
theorem few_both (a b s:Int):∃ r:Int × Bool,Ev (fun k=>spec_FewestForGuards.f k a b s) r∧Ev (fun k=>impl_FewestForGuards.f k a b s) r:=by
 obtain ⟨d,ok,m,h1,h2,h3⟩:=guards_all a b s
 refine ⟨_,h3,?_⟩
 unfold impl_FewestForGuards.f
 refine Ev.bind h1 ?_
 cases ok with
 | false=>exact Ev.now _
 | true=>simp only[if_true];rw[h2 rfl];exact Ev.now _
theorem Ev.one {α:Type} {g:Nat→Option α} {r r':α} (h:Ev g r) (h':Ev g r'):r=r':=by
 obtain ⟨K,hK⟩:=h
 obtain ⟨L,hL⟩:=h'
 exact Option.some.inj ((hK (K+L) (by omega)).symm.trans (hL (K+L) (by omega)))
theorem not_okG {a b s:Int} (hg:¬ ((0≤a∧a≤8)∧(0≤b∧b≤8)∧(1≤s∧s≤4)∧0 < a+b)):spec_cuSides.f a b s=some false∧impl_guarded_isOk.f a b s=some false:=by
 have e1:spec_cuSides.f a b s=some false:=by
  unfold spec_cuSides.f spec_l1In.f
  by_cases hr:(0≤a∧a≤8)∧(0≤b∧b≤8)
  ·
   have w:wrap64 (a+b)=a+b:=wr_id (by omega) (by omega)
   simp only[ge_iff_le,if_pos hr.1.1,if_pos hr.2.1,decide_eq_true hr.1.2,decide_eq_true hr.2.2,Option.bind_some,if_true,w]
   by_cases h0:0 < a+b
   ·
    by_cases h5:1≤s <;> by_cases h6:s≤4 <;> simp [h0,h5,h6] <;> omega
   ·
    simp[h0]
  ·
   by_cases h1:0≤a <;> by_cases h2:a≤8 <;> by_cases h3:0≤b <;> by_cases h4:b≤8 <;> simp [h1,h2,h3,h4] <;> omega
 refine ⟨e1,?_⟩
 unfold impl_guarded_isOk.f
 have hin:∀ x y z,impl_in.f x y z=spec_l1In.f x y z:=fun x y z=>by
  unfold impl_in.f spec_l1In.f
  by_cases h1:y≤x <;> simp [h1]
 rw[hin,hin,hin]
 exact e1
end Go.Proofs.Ytabhhkiipilghaa.Pure

namespace Go.Proofs.Ytabhhkiipilghaa.Pure
open Go.RowKit Go.Proofs.Ytabhhkiipilghaa.C1 Go.Proofs.Ytabhhkiipilghaa.H Go.Proofs.YtabhhkiipilghaaW.PrintWords Go.Proofs.YtabhhkiipilghaaW.PrintLast Go.Proofs.YtabhhkiipilghaaW.PrintMore
set_option linter.unusedVariables false
set_option linter.unusedSimpArgs false
def Tru (p q:Option Bool):Prop:=p=some true→q=some true
theorem Tru.no {q:Option Bool}:Tru (some false) q:=fun h=>by cases h
theorem Tru.non {q:Option Bool}:Tru none q:=fun h=>by cases h
theorem Tru.ite {c:Prop} [Decidable c] {p p' q q':Option Bool} (h1:Tru p q) (h2:Tru p' q'):Tru (if c then p else p') (if c then q else q'):=by
 by_cases h:c
 ·
  rw[if_pos h,if_pos h];exact h1
 ·
  rw[if_neg h,if_neg h];exact h2
theorem Tru.bind {α:Type} {f f':Option α} {g g':α→Option Bool} (hf:LeO f f') (hg:∀ r,Tru (g r) (g' r)):Tru (f.bind g) (f'.bind g'):=by
 cases f with
 | none=>exact Tru.non
 | some x=>rw [hf x rfl];exact hg x
theorem le_up {α:Type} {f:Nat→Option α} (hm:∀ k,LeO (f k) (f (k+1))) (k M:Nat):LeO (f k) (f (k+M)):=fun r h=>at_rounds hm (Nat.le_add_right k M) h
section
variable {x0 x1 x2 x3 x4:Int} {M:Nat}
theorem j4_tru (hj:∀ m,M≤m→laws_FnGuardsOverOfAll.j6 m x3 x4=some true) (k:Nat) (x15:Int) (b:Bool):Tru (laws_FnGuardsOverOfAll.j5 k x0 x1 x2 0 0 x15 b) (laws_FnGuardsOverOfAll.j5 (k+M) x0 x1 x2 x3 x4 x15 b):=by
 cases k with
 | zero=>exact Tru.non
 | succ k =>
  rw[show k+1+M=(k+M)+1 by omega,laws_FnGuardsOverOfAll.j5.eq_2,laws_FnGuardsOverOfAll.j5.eq_2]
  repeat' first
   | exact Tru.no
   | exact fun _=>hj (k+M) (by omega)
   | refine Tru.ite ?_ ?_
   | refine Tru.bind (le_up (f:=fun k=>impl_FewestForGuards.f k x0 x1 (wrap64 (x2+1))) (fun k=>impl_FewestForGuards.mono _ _ _ _) k M) (fun _=>?_)
theorem l0_tru (hj:∀ m,M≤m→laws_FnGuardsOverOfAll.j6 m x3 x4=some true):∀ (k:Nat),(∀ x11 x15 x19 x20 x97 x98 x99,Tru (laws_FnGuardsOverOfAll.l0 k x0 x1 x2 0 0 x11 x15 x19 x20 x97 x98 x99) (laws_FnGuardsOverOfAll.l0 (k+M) x0 x1 x2 x3 x4 x11 x15 x19 x20 x97 x98 x99))∧(∀ x11 x15 x19 x20 x97 x98 x99,Tru (laws_FnGuardsOverOfAll.j3 k x0 x1 x2 0 0 x11 x15 x19 x20 x97 x98 x99) (laws_FnGuardsOverOfAll.j3 (k+M) x0 x1 x2 x3 x4 x11 x15 x19 x20 x97 x98 x99))∧(∀ x11 x15 x19 x20 x21 x23 x24 x97 x98 x99 b,Tru (laws_FnGuardsOverOfAll.j4 k x0 x1 x2 0 0 x11 x15 x19 x20 x21 x23 x24 x97 x98 x99 b) (laws_FnGuardsOverOfAll.j4 (k+M) x0 x1 x2 x3 x4 x11 x15 x19 x20 x21 x23 x24 x97 x98 x99 b)):=by
 intro k
 induction k with
 | zero=>exact ⟨fun _ _ _ _ _ _ _=>Tru.non,fun _ _ _ _ _ _ _=>Tru.non,fun _ _ _ _ _ _ _ _ _ _ _=>Tru.non⟩
 | succ k ih =>
  refine ⟨?_,?_,?_⟩
  ·
   intro x11 x15 x19 x20 x97 x98 x99
   rw[show k+1+M=(k+M)+1 by omega,laws_FnGuardsOverOfAll.l0.eq_2,laws_FnGuardsOverOfAll.l0.eq_2]
   refine Tru.ite (ih.2.1 _ _ _ _ _ _ _) (Tru.bind (le_up (f:=fun k=>impl_SeatsForGuards.f k x0 x1) (fun k=>impl_SeatsForGuards.mono _ _ _) k M) (fun r=>?_))
   repeat' first
    | exact j4_tru hj k _ _
    | refine Tru.ite ?_ ?_
  ·
   intro x11 x15 x19 x20 x97 x98 x99
   rw[show k+1+M=(k+M)+1 by omega,laws_FnGuardsOverOfAll.j3.eq_2,laws_FnGuardsOverOfAll.j3.eq_2]
   repeat' first
    | exact Tru.no
    | exact Tru.non
    | with_reducible exact ih.2.2 _ _ _ _ _ _ _ _ _ _ _
    | with_reducible refine Tru.ite ?_ ?_
  ·
   intro x11 x15 x19 x20 x21 x23 x24 x97 x98 x99 b
   rw[show k+1+M=(k+M)+1 by omega,laws_FnGuardsOverOfAll.j4.eq_2,laws_FnGuardsOverOfAll.j4.eq_2]
   repeat' first
    | exact Tru.no
    | exact Tru.non
    | with_reducible exact ih.1 _ _ _ _ _ _ _
    | with_reducible refine Tru.ite ?_ ?_
end
theorem hSame_loop:∀ (r pre:List Int),(pre ++ r).length≤9223372036854775807→Ev (fun k=>laws_hSame.l0 k (pre ++ r) (pre ++ r) ((pre ++ r).length:Int) (pre.length:Int)) true:=by
 intro r
 induction r with
 | nil =>
  intro pre hl
  refine Ev.step (fun k=>laws_hSame.l0.eq_2 ..) ?_
  simp only[List.append_nil,if_neg (show ¬ (pre.length:Int) < (pre.length:Int) by omega)]
  exact Ev.now _
 | cons x r ih =>
  intro pre hl
  have hl':pre.length+(r.length+1)≤9223372036854775807:=by simpa using hl
  have hlt:(pre.length:Int) < ((pre ++ x :: r).length:Int):=by simp;omega
  refine Ev.step (fun k=>laws_hSame.l0.eq_2 ..) ?_
  rw[wr_id (a:=(pre.length:Int)+1) (by omega) (by omega)]
  simp only[if_pos hlt,if_pos (zle pre.length),if_true]
  have h:=ih (pre ++ [x]) (by simpa using hl)
  rw[List.append_assoc,show (((pre ++ [x]).length:Nat):Int)=(pre.length:Int)+1 by simp] at h
  exact h
theorem hSame_self (l:List Int) (hl:l.length≤1048576):Ev (fun k=>laws_hSame.f k l l) true:=by
 unfold laws_hSame.f
 simp only[if_true]
 have h:=hSame_loop l [] (by simp;omega)
 simpa using h
theorem hRows_loop:∀ (r pre:List (List Int)),(pre ++ r).length≤9223372036854775807→(∀ x ∈ r,List.length x≤1048576)→Ev (fun k=>laws_hRows.l0 k (pre ++ r) (pre ++ r) ((pre ++ r).length:Int) (pre.length:Int)) true:=by
 intro r
 induction r with
 | nil =>
  intro pre hl _
  refine Ev.step (fun k=>laws_hRows.l0.eq_2 ..) ?_
  simp only[List.append_nil,if_neg (show ¬ (pre.length:Int) < (pre.length:Int) by omega)]
  exact Ev.now _
 | cons x r ih =>
  intro pre hl hx
  have hl':pre.length+(r.length+1)≤9223372036854775807:=by simpa using hl
  have hlt:(pre.length:Int) < ((pre ++ x :: r).length:Int):=by simp;omega
  have hrd:rd_L1 (pre ++ x :: r) (pre.length:Int)=x:=by simp[rd_L1]
  refine Ev.step (fun k=>laws_hRows.l0.eq_2 ..) ?_
  rw[wr_id (a:=(pre.length:Int)+1) (by omega) (by omega),hrd]
  simp only[if_pos hlt,if_pos (zle pre.length)]
  refine Ev.bind (hSame_self x (hx x (List.mem_cons_self ..))) ?_
  simp only[if_true]
  have h:=ih (pre ++ [x]) (by simpa using hl) (fun y hy=>hx y (List.mem_cons_of_mem _ hy))
  rw[List.append_assoc,show (((pre ++ [x]).length:Nat):Int)=(pre.length:Int)+1 by simp] at h
  exact h
theorem hRows_self (l:List (List Int)) (hl:l.length≤1048576) (hx:∀ x ∈ l,List.length x≤1048576):Ev (fun k=>laws_hRows.f k l l) true:=by
 unfold laws_hRows.f
 simp only[if_true]
 have h:=hRows_loop l [] (by simp;omega) hx
 simpa using h
end Go.Proofs.Ytabhhkiipilghaa.Pure

namespace Go.Proofs.Ytabhhkiipilghaa.Pure
open Go.RowKit Go.Proofs.Ytabhhkiipilghaa.C1 Go.Proofs.Ytabhhkiipilghaa.H Go.Proofs.YtabhhkiipilghaaW.PrintWords Go.Proofs.YtabhhkiipilghaaW.PrintLast Go.Proofs.YtabhhkiipilghaaW.PrintMore
set_option linter.unusedVariables false
set_option linter.unusedSimpArgs false
def chkL (a b s:Int):Bool:=match impl_FirstForGuards.f 30000 a b s,impl_FewestForGuards.f 30000 a b s with
 | some r,some few=>decide (few.2=r.2) && (!r.2 || decide (laws_FnGuardsOverOfAll.l0 30000 a b s 0 0 r.1 few.1 0 0 r.1 (r.1.length:Int) 0=some true))
 | _,_=>false
def chk5 (a b:Int):Bool:=match impl_SeatsForGuards.f 30000 a b,impl_CountGuarded.f 30000 a b,spec_CountGuarded.f 30000 a b with
 | some s,some c,some c'=>decide (c=c') && (!s.2 || c.2) && decide (laws_FnGuardsOverOfAll.j8 30000 a b s.1 s.2 c.1 c.2=some true)
 | _,_,_=>false
end Go.Proofs.Ytabhhkiipilghaa.Pure

namespace Go.Proofs.Ytabhhkiipilghaa.Pure
open Go.RowKit Go.Proofs.Ytabhhkiipilghaa.C1 Go.Proofs.Ytabhhkiipilghaa.H Go.Proofs.YtabhhkiipilghaaW.PrintWords Go.Proofs.YtabhhkiipilghaaW.PrintLast Go.Proofs.YtabhhkiipilghaaW.PrintMore
set_option linter.unusedVariables false
set_option linter.unusedSimpArgs false
set_option maxRecDepth 100000 in
theorem flT0:∀ (b:Fin 9) (s:Fin 4),chkL 0 ((b:Nat):Int) (((s:Nat):Int)+1)=true:=by decide +kernel
set_option maxRecDepth 100000 in
theorem flT1:∀ (b:Fin 9) (s:Fin 4),chkL 1 ((b:Nat):Int) (((s:Nat):Int)+1)=true:=by decide +kernel
set_option maxRecDepth 100000 in
theorem flT2:∀ (b:Fin 9) (s:Fin 4),chkL 2 ((b:Nat):Int) (((s:Nat):Int)+1)=true:=by decide +kernel
set_option maxRecDepth 100000 in
theorem flT3:∀ (b:Fin 9) (s:Fin 4),chkL 3 ((b:Nat):Int) (((s:Nat):Int)+1)=true:=by decide +kernel
set_option maxRecDepth 100000 in
theorem flT4:∀ (b:Fin 9) (s:Fin 4),chkL 4 ((b:Nat):Int) (((s:Nat):Int)+1)=true:=by decide +kernel
set_option maxRecDepth 100000 in
theorem flT5:∀ (b:Fin 9) (s:Fin 4),chkL 5 ((b:Nat):Int) (((s:Nat):Int)+1)=true:=by decide +kernel
end Go.Proofs.Ytabhhkiipilghaa.Pure

namespace Go.Proofs.Ytabhhkiipilghaa.Pure
open Go.RowKit Go.Proofs.Ytabhhkiipilghaa.C1 Go.Proofs.Ytabhhkiipilghaa.H Go.Proofs.YtabhhkiipilghaaW.PrintWords Go.Proofs.YtabhhkiipilghaaW.PrintLast Go.Proofs.YtabhhkiipilghaaW.PrintMore
set_option linter.unusedVariables false
set_option linter.unusedSimpArgs false
set_option maxRecDepth 100000 in
theorem flT6_0:∀ (s:Fin 4),chkL 6 0 (((s:Nat):Int)+1)=true:=by decide +kernel
set_option maxRecDepth 100000 in
theorem flT6_1:∀ (s:Fin 4),chkL 6 1 (((s:Nat):Int)+1)=true:=by decide +kernel
set_option maxRecDepth 100000 in
theorem flT6_2:∀ (s:Fin 4),chkL 6 2 (((s:Nat):Int)+1)=true:=by decide +kernel
set_option maxRecDepth 100000 in
theorem flT6_3:∀ (s:Fin 4),chkL 6 3 (((s:Nat):Int)+1)=true:=by decide +kernel
set_option maxRecDepth 100000 in
theorem flT6_4:∀ (s:Fin 4),chkL 6 4 (((s:Nat):Int)+1)=true:=by decide +kernel
set_option maxRecDepth 100000 in
theorem flT6_5:∀ (s:Fin 4),chkL 6 5 (((s:Nat):Int)+1)=true:=by decide +kernel
set_option maxRecDepth 100000 in
theorem flT6_6:∀ (s:Fin 4),chkL 6 6 (((s:Nat):Int)+1)=true:=by decide +kernel
set_option maxRecDepth 100000 in
theorem flT6_7:∀ (s:Fin 4),chkL 6 7 (((s:Nat):Int)+1)=true:=by decide +kernel
set_option maxRecDepth 100000 in
theorem flT6_8:∀ (s:Fin 4),chkL 6 8 (((s:Nat):Int)+1)=true:=by decide +kernel
theorem flT6:∀ (b:Fin 9) (s:Fin 4),chkL 6 ((b:Nat):Int) (((s:Nat):Int)+1)=true:=by
 intro b s
 obtain ⟨b,hb⟩:=b
 have:b=0∨b=1∨b=2∨b=3∨b=4∨b=5∨b=6∨b=7∨b=8:=by omega
 rcases this with rfl|rfl|rfl|rfl|rfl|rfl|rfl|rfl|rfl
 ·
  exact flT6_0 s
 ·
  exact flT6_1 s
 ·
  exact flT6_2 s
 ·
  exact flT6_3 s
 ·
  exact flT6_4 s
 ·
  exact flT6_5 s
 ·
  exact flT6_6 s
 ·
  exact flT6_7 s
 ·
  exact flT6_8 s
set_option maxRecDepth 100000 in
theorem flT7_0:∀ (s:Fin 4),chkL 7 0 (((s:Nat):Int)+1)=true:=by decide +kernel
set_option maxRecDepth 100000 in
theorem flT7_1:∀ (s:Fin 4),chkL 7 1 (((s:Nat):Int)+1)=true:=by decide +kernel
set_option maxRecDepth 100000 in
theorem flT7_2:∀ (s:Fin 4),chkL 7 2 (((s:Nat):Int)+1)=true:=by decide +kernel
set_option maxRecDepth 100000 in
theorem flT7_3:∀ (s:Fin 4),chkL 7 3 (((s:Nat):Int)+1)=true:=by decide +kernel
set_option maxRecDepth 100000 in
theorem flT7_4:∀ (s:Fin 4),chkL 7 4 (((s:Nat):Int)+1)=true:=by decide +kernel
set_option maxRecDepth 100000 in
theorem flT7_5:∀ (s:Fin 4),chkL 7 5 (((s:Nat):Int)+1)=true:=by decide +kernel
set_option maxRecDepth 100000 in
theorem flT7_6:∀ (s:Fin 4),chkL 7 6 (((s:Nat):Int)+1)=true:=by decide +kernel
set_option maxRecDepth 100000 in
theorem flT7_7:∀ (s:Fin 4),chkL 7 7 (((s:Nat):Int)+1)=true:=by decide +kernel
set_option maxRecDepth 100000 in
theorem flT7_8:∀ (s:Fin 4),chkL 7 8 (((s:Nat):Int)+1)=true:=by decide +kernel
theorem flT7:∀ (b:Fin 9) (s:Fin 4),chkL 7 ((b:Nat):Int) (((s:Nat):Int)+1)=true:=by
 intro b s
 obtain ⟨b,hb⟩:=b
 have:b=0∨b=1∨b=2∨b=3∨b=4∨b=5∨b=6∨b=7∨b=8:=by omega
 rcases this with rfl|rfl|rfl|rfl|rfl|rfl|rfl|rfl|rfl
 ·
  exact flT7_0 s
 ·
  exact flT7_1 s
 ·
  exact flT7_2 s
 ·
  exact flT7_3 s
 ·
  exact flT7_4 s
 ·
  exact flT7_5 s
 ·
  exact flT7_6 s
 ·
  exact flT7_7 s
 ·
  exact flT7_8 s
end Go.Proofs.Ytabhhkiipilghaa.Pure

namespace Go.Proofs.Ytabhhkiipilghaa.Pure
open Go.RowKit Go.Proofs.Ytabhhkiipilghaa.C1 Go.Proofs.Ytabhhkiipilghaa.H Go.Proofs.YtabhhkiipilghaaW.PrintWords Go.Proofs.YtabhhkiipilghaaW.PrintLast Go.Proofs.YtabhhkiipilghaaW.PrintMore
set_option linter.unusedVariables false
set_option linter.unusedSimpArgs false
set_option maxRecDepth 100000 in
theorem flT8_0:∀ (s:Fin 4),chkL 8 0 (((s:Nat):Int)+1)=true:=by decide +kernel
set_option maxRecDepth 100000 in
theorem flT8_1:∀ (s:Fin 4),chkL 8 1 (((s:Nat):Int)+1)=true:=by decide +kernel
set_option maxRecDepth 100000 in
theorem flT8_2:∀ (s:Fin 4),chkL 8 2 (((s:Nat):Int)+1)=true:=by decide +kernel
set_option maxRecDepth 100000 in
theorem flT8_3:∀ (s:Fin 4),chkL 8 3 (((s:Nat):Int)+1)=true:=by decide +kernel
set_option maxRecDepth 100000 in
theorem flT8_4:∀ (s:Fin 4),chkL 8 4 (((s:Nat):Int)+1)=true:=by decide +kernel
set_option maxRecDepth 100000 in
theorem flT8_5:∀ (s:Fin 4),chkL 8 5 (((s:Nat):Int)+1)=true:=by decide +kernel
set_option maxRecDepth 100000 in
theorem flT8_6:∀ (s:Fin 4),chkL 8 6 (((s:Nat):Int)+1)=true:=by decide +kernel
set_option maxRecDepth 100000 in
theorem flT8_7:∀ (s:Fin 4),chkL 8 7 (((s:Nat):Int)+1)=true:=by decide +kernel
set_option maxRecDepth 100000 in
theorem flT8_8:∀ (s:Fin 4),chkL 8 8 (((s:Nat):Int)+1)=true:=by decide +kernel
theorem flT8:∀ (b:Fin 9) (s:Fin 4),chkL 8 ((b:Nat):Int) (((s:Nat):Int)+1)=true:=by
 intro b s
 obtain ⟨b,hb⟩:=b
 have:b=0∨b=1∨b=2∨b=3∨b=4∨b=5∨b=6∨b=7∨b=8:=by omega
 rcases this with rfl|rfl|rfl|rfl|rfl|rfl|rfl|rfl|rfl
 ·
  exact flT8_0 s
 ·
  exact flT8_1 s
 ·
  exact flT8_2 s
 ·
  exact flT8_3 s
 ·
  exact flT8_4 s
 ·
  exact flT8_5 s
 ·
  exact flT8_6 s
 ·
  exact flT8_7 s
 ·
  exact flT8_8 s
end Go.Proofs.Ytabhhkiipilghaa.Pure

namespace Go.Proofs.Ytabhhkiipilghaa.Pure
open Go.RowKit Go.Proofs.Ytabhhkiipilghaa.C1 Go.Proofs.Ytabhhkiipilghaa.H Go.Proofs.YtabhhkiipilghaaW.PrintWords Go.Proofs.YtabhhkiipilghaaW.PrintLast Go.Proofs.YtabhhkiipilghaaW.PrintMore
set_option linter.unusedVariables false
set_option linter.unusedSimpArgs false
set_option maxRecDepth 100000 in
theorem f5T0:∀ (b:Fin 9),chk5 0 ((b:Nat):Int)=true:=by decide +kernel
set_option maxRecDepth 100000 in
theorem f5T1:∀ (b:Fin 9),chk5 1 ((b:Nat):Int)=true:=by decide +kernel
set_option maxRecDepth 100000 in
theorem f5T2:∀ (b:Fin 9),chk5 2 ((b:Nat):Int)=true:=by decide +kernel
set_option maxRecDepth 100000 in
theorem f5T3:∀ (b:Fin 9),chk5 3 ((b:Nat):Int)=true:=by decide +kernel
set_option maxRecDepth 100000 in
theorem f5T4:∀ (b:Fin 9),chk5 4 ((b:Nat):Int)=true:=by decide +kernel
set_option maxRecDepth 100000 in
theorem f5T5:∀ (b:Fin 9),chk5 5 ((b:Nat):Int)=true:=by decide +kernel
set_option maxRecDepth 100000 in
theorem f5T6:∀ (b:Fin 9),chk5 6 ((b:Nat):Int)=true:=by decide +kernel
set_option maxRecDepth 100000 in
theorem f5T7:∀ (b:Fin 9),chk5 7 ((b:Nat):Int)=true:=by decide +kernel
set_option maxRecDepth 100000 in
theorem f5T8:∀ (b:Fin 9),chk5 8 ((b:Nat):Int)=true:=by decide +kernel
theorem f5T:∀ (a b:Fin 9),chk5 ((a:Nat):Int) ((b:Nat):Int)=true:=by
 intro a b
 obtain ⟨a,ha⟩:=a
 have:a=0∨a=1∨a=2∨a=3∨a=4∨a=5∨a=6∨a=7∨a=8:=by omega
 rcases this with rfl|rfl|rfl|rfl|rfl|rfl|rfl|rfl|rfl
 ·
  exact f5T0 b
 ·
  exact f5T1 b
 ·
  exact f5T2 b
 ·
  exact f5T3 b
 ·
  exact f5T4 b
 ·
  exact f5T5 b
 ·
  exact f5T6 b
 ·
  exact f5T7 b
 ·
  exact f5T8 b
end Go.Proofs.Ytabhhkiipilghaa.Pure

namespace Go.Proofs.Ytabhhkiipilghaa.Pure
open Go.RowKit Go.Proofs.Ytabhhkiipilghaa.C1 Go.Proofs.Ytabhhkiipilghaa.H Go.Proofs.YtabhhkiipilghaaW.PrintWords Go.Proofs.YtabhhkiipilghaaW.PrintLast Go.Proofs.YtabhhkiipilghaaW.PrintMore
set_option linter.unusedVariables false
set_option linter.unusedSimpArgs false
theorem j7_off (a b:Int):Ev (fun k=>laws_FnGuardsOverOfAll.j8 k a b 0 false 0 false) true:=by
 refine Ev.step (fun k=>laws_FnGuardsOverOfAll.j8.eq_2 ..) ?_
 simp only[Bool.false_eq_true,if_false]
 refine Ev.step (fun k=>laws_FnGuardsOverOfAll.j9.eq_2 ..) ?_
 simp only[Bool.false_eq_true,if_false]
 exact Ev.now _
theorem j5_of {a b:Int} {s c:Int × Bool} (h1:Ev (fun k=>impl_SeatsForGuards.f k a b) s) (h2:Ev (fun k=>spec_SeatsForGuards.f k a b) s) (h3:Ev (fun k=>impl_CountGuarded.f k a b) c) (h4:Ev (fun k=>spec_CountGuarded.f k a b) c) (h5:(!s.2 || c.2)=true) (h7:Ev (fun k=>laws_FnGuardsOverOfAll.j8 k a b s.1 s.2 c.1 c.2) true):Ev (fun k=>laws_FnGuardsOverOfAll.j6 k a b) true:=by
 have h6:Ev (fun k=>laws_FnGuardsOverOfAll.j7 k a b s.1 s.2 c.1 c.2 false) true:=by
  refine Ev.step (fun k=>laws_FnGuardsOverOfAll.j7.eq_2 ..) ?_
  simp only[Bool.false_eq_true,if_false]
  exact h7
 refine Ev.step (fun k=>laws_FnGuardsOverOfAll.j6.eq_2 ..) ?_
 refine Ev.bind h1 (Ev.bind h2 (Ev.bind h3 (Ev.bind h4 ?_)))
 simp only[bne_self_eq_false,Bool.false_eq_true,if_false,if_true]
 cases hs:s.2 with
 | false =>
  rw[hs] at h6
  simp only[Bool.false_eq_true,if_false]
  exact h6
 | true =>
  rw[hs] at h5 h6
  have hc:c.2=true:=by simpa using h5
  rw[hc] at h6
  simp only[if_true,hc,Bool.not_true]
  exact h6
theorem j5_all (a b:Int):Ev (fun k=>laws_FnGuardsOverOfAll.j6 k a b) true:=by
 obtain ⟨r,hi,hs⟩:=seats_loop a b 4 1 (by omega) (by omega)
 by_cases hg:(0≤a∧a≤8)∧(0≤b∧b≤8)
 ·
  obtain ⟨⟨a0,a1⟩,b0,b1⟩:=hg
  obtain ⟨x,rfl⟩:∃ x:Nat,a=(x:Int):=⟨a.toNat,by omega⟩
  obtain ⟨y,rfl⟩:∃ y:Nat,b=(y:Int):=⟨b.toNat,by omega⟩
  have h:=f5T ⟨x,by omega⟩ ⟨y,by omega⟩
  simp only[chk5] at h
  split at h
  ·
   rename_i s c c' e1 e2 e3
   simp only[Bool.and_eq_true,decide_eq_true_eq] at h
   obtain ⟨⟨hc,h5⟩,h7⟩:=h
   subst hc
   have hi2:=ev_up (f:=fun k=>impl_SeatsForGuards.f k x y) (fun k=>impl_SeatsForGuards.mono _ _ _) e1
   obtain rfl:=Ev.one hi2 hi
   exact j5_of hi2 hs (ev_up (f:=fun k=>impl_CountGuarded.f k x y) (fun k=>impl_CountGuarded.mono _ _ _) e2) (ev_up (f:=fun k=>spec_CountGuarded.f k x y) (fun k=>spec_CountGuarded.mono _ _ _) e3) h5 ⟨30000,fun k hk=>at_rounds (g:=fun k=>laws_FnGuardsOverOfAll.j8 k x y s.1 s.2 c.1 c.2) (fun k=>(laws_FnGuardsOverOfAll.mono_l k).2.2.2.2.1 _ _ _ _ _ _) hk h7⟩
  ·
   cases h
 ·
  have hn:∀ s:Int,¬ ((0≤a∧a≤8)∧(0≤b∧b≤8)∧(1≤s∧s≤4)∧0 < a+b):=fun s h=>hg ⟨h.1,h.2.1⟩
  have hi2:Ev (fun k=>impl_SeatsForGuards.f k a b) (0,false):=by
   unfold impl_SeatsForGuards.f
   simp only[seatsG,impl_guarded_costs.f,fun s:Int=>(not_okG (hn s)).2,Option.bind_some,Bool.false_eq_true,if_false]
   exact Ev.now _
  obtain rfl:=Ev.one hi2 hi
  refine j5_of (c:=(0,false)) hi2 hs ?_ ?_ rfl (j7_off a b)
  ·
   unfold impl_CountGuarded.f
   simp only[(not_okG (hn 1)).2,Option.bind_some,Bool.false_eq_true,if_false]
   exact Ev.now _
  ·
   unfold spec_CountGuarded.f
   simp only[(not_okG (hn 1)).1,Option.bind_some,Bool.false_eq_true,if_false]
   exact Ev.now _
theorem chkL_ok {a b s a3 a4:Int} {rr:List (List Int) × Bool} {few:Int × Bool} (h:chkL a b s=true) (ei:Ev (fun k=>impl_FirstForGuards.f k a b s) rr) (fi:Ev (fun k=>impl_FewestForGuards.f k a b s) few):few.2=rr.2∧(rr.2=true→Ev (fun k=>laws_FnGuardsOverOfAll.l0 k a b s a3 a4 rr.1 few.1 0 0 rr.1 (rr.1.length:Int) 0) true):=by
 simp only[chkL] at h
 split at h
 ·
  rename_i r few' e1 e2
  obtain rfl:=Ev.one (ev_up (f:=fun k=>impl_FirstForGuards.f k a b s) (fun k=>impl_FirstForGuards.mono _ _ _ _) e1) ei
  obtain rfl:=Ev.one (ev_up (f:=fun k=>impl_FewestForGuards.f k a b s) (fun k=>impl_FewestForGuards.mono _ _ _ _) e2) fi
  simp only[Bool.and_eq_true,decide_eq_true_eq,Bool.or_eq_true,Bool.not_eq_true'] at h
  refine ⟨h.1,fun ht=>?_⟩
  rcases h.2 with h2|h2
  ·
   rw[ht] at h2;cases h2
  ·
   obtain ⟨M,hM⟩:=j5_all a3 a4
   refine ⟨30000+M,fun k hk=>?_⟩
   obtain ⟨d,rfl⟩:∃ d,k=30000+(M+d):=⟨k - 30000 - M,by omega⟩
   exact (l0_tru (M:=M+d) (fun m hm=>hM m (by omega)) 30000).1 _ _ _ _ _ _ _ h2
 ·
  cases h
theorem first_half (a b s a3 a4:Int) {rr:List (List Int) × Bool} {few:Int × Bool} (ei:Ev (fun k=>impl_FirstForGuards.f k a b s) rr) (fi:Ev (fun k=>impl_FewestForGuards.f k a b s) few):few.2=rr.2∧(rr.2=true→Ev (fun k=>laws_FnGuardsOverOfAll.l0 k a b s a3 a4 rr.1 few.1 0 0 rr.1 (rr.1.length:Int) 0) true):=by
 by_cases hg:(0≤a∧a≤8)∧(0≤b∧b≤8)∧(1≤s∧s≤4)∧0 < a+b
 ·
  obtain ⟨⟨a0,a1⟩,⟨b0,b1⟩,⟨s0,s1⟩,ab⟩:=hg
  obtain ⟨x,rfl⟩:∃ x:Nat,b=(x:Int):=⟨b.toNat,by omega⟩
  obtain ⟨y,rfl⟩:∃ y:Nat,s=(y:Int)+1:=⟨(s - 1).toNat,by omega⟩
  have hx:x < 9:=by omega
  have hy:y < 4:=by omega
  have:a=0∨a=1∨a=2∨a=3∨a=4∨a=5∨a=6∨a=7∨a=8:=by omega
  rcases this with rfl|rfl|rfl|rfl|rfl|rfl|rfl|rfl|rfl
  ·
   exact chkL_ok (flT0 ⟨x,hx⟩ ⟨y,hy⟩) ei fi
  ·
   exact chkL_ok (flT1 ⟨x,hx⟩ ⟨y,hy⟩) ei fi
  ·
   exact chkL_ok (flT2 ⟨x,hx⟩ ⟨y,hy⟩) ei fi
  ·
   exact chkL_ok (flT3 ⟨x,hx⟩ ⟨y,hy⟩) ei fi
  ·
   exact chkL_ok (flT4 ⟨x,hx⟩ ⟨y,hy⟩) ei fi
  ·
   exact chkL_ok (flT5 ⟨x,hx⟩ ⟨y,hy⟩) ei fi
  ·
   exact chkL_ok (flT6 ⟨x,hx⟩ ⟨y,hy⟩) ei fi
  ·
   exact chkL_ok (flT7 ⟨x,hx⟩ ⟨y,hy⟩) ei fi
  ·
   exact chkL_ok (flT8 ⟨x,hx⟩ ⟨y,hy⟩) ei fi
 ·
  have e2:=(not_okG hg).2
  have ei2:Ev (fun k=>impl_FirstForGuards.f k a b s) ([],false):=by
   unfold impl_FirstForGuards.f impl_guarded_costs.f
   simp only[e2,Option.bind_some,Bool.false_eq_true,if_false]
   exact Ev.now _
  have fi2:Ev (fun k=>impl_FewestForGuards.f k a b s) (0,false):=by
   unfold impl_FewestForGuards.f impl_guarded_costs.f
   simp only[e2,Option.bind_some,Bool.false_eq_true,if_false]
   exact Ev.now _
  obtain rfl:=Ev.one ei2 ei
  obtain rfl:=Ev.one fi2 fi
  exact ⟨rfl,fun h=>by cases h⟩
theorem FnGuardsOverOfAll_pure:∀ (a0 a1 a2 a3 a4:Int),goodI a0→goodI a1→goodI a2→goodI a3→goodI a4→∃ k,laws_FnGuardsOverOfAll.f k a0 a1 a2 a3 a4=some true:=by
 intro a0 a1 a2 a3 a4 _ _ _ _ _
 obtain ⟨rr,es,ei,hn⟩:=FnExactFirstForGuards_both a0 a1 a2
 obtain ⟨few,fs,fi⟩:=few_both a0 a1 a2
 obtain ⟨h1,h2⟩:=first_half a0 a1 a2 a3 a4 ei fi
 have hlen:rr.1.length≤1048576:=by unfold n2 at hn;omega
 have hx:=(szSum_bound List.length rr.1 hn).2
 refine Ev.rounds ?_
 unfold laws_FnGuardsOverOfAll.f
 refine Ev.bind ei (Ev.bind es (Ev.bind fi (Ev.bind fs ?_)))
 simp only[bne_self_eq_false,Bool.false_eq_true,if_false]
 refine Ev.bind (hRows_self rr.1 hlen hx) ?_
 simp only[if_true,h1,bne_self_eq_false]
 refine Ev.step (fun k=>laws_FnGuardsOverOfAll.j0.eq_2 ..) ?_
 simp only[Bool.false_eq_true,if_false]
 refine Ev.step (fun k=>laws_FnGuardsOverOfAll.j1.eq_2 ..) ?_
 cases hr:rr.2 with
 | false=>simp only[Bool.false_eq_true,if_false];exact j5_all a3 a4
 | true=>simp only[if_true];exact h2 hr
end Go.Proofs.Ytabhhkiipilghaa.Pure
