import Derived.Test.YtabhhkiipilghaaC2zWWords
import Derived.Test.YtabhhkiipilghaaC2zWLast
import Derived.Test.YtabhhkiipilghaaC2zWTab
import Derived.Test.YtabhhkiipilghaaC2zWFour
import Derived.Test.YtabhhkiipilghaaC2zWQPut
import Derived.Test.YtabhhkiipilghaaC2zWApart
import Derived.Test.YtabhhkiipilghaaC2zWArr
import Derived.Test.YtabhhkiipilghaaC2zWZeros
import Derived.Test.YtabhhkiipilghaaC2zWFoot
import Derived.Test.YtabhhkiipilghaaC2zWKept
import Derived.Test.YtabhhkiipilghaaC2zWShare
import Derived.Test.YtabhhkiipilghaaC2zWN
import Derived.Test.YtabhhkiipilghaaC2zWFootNe
import Derived.Test.YtabhhkiipilghaaC2zWAt
import Derived.Test.YtabhhkiipilghaaC2zWEqStruct
import Derived.Test.YtabhhkiipilghaaC2zWRepsOne
import Derived.Test.YtabhhkiipilghaaC2zWInv
import Derived.Test.YtabhhkiipilghaaC2zWInvWords
import Derived.Test.YtabhhkiipilghaaC2zWGuard
import Derived.Test.YtabhhkiipilghaaC2zWNEv
import Derived.Test.YtabhhkiipilghaaC2zWMore
namespace Go.Proofs.Ytabhhkiipilghaa.H
open Go.RowKit Go.Proofs.YtabhhkiipilghaaW.PrintWords Go.Proofs.YtabhhkiipilghaaW.PrintLast Go.Proofs.YtabhhkiipilghaaW.PrintMore
attribute [local go_sem] max2_int min2_int max_two min_two max_three min_three max_four min_four
set_option linter.unusedVariables false
set_option linter.unusedSimpArgs false
abbrev Edg:=Int × Int × List Int
inductive Way (E:Int→Int→Nat→Prop) (S:Int→Prop):Int→Nat→Prop
 | here {s:Int}:S s→Way E S s 0
 | on {u v:Int} {n c:Nat}:Way E S u n→E u v c→Way E S v (n+c)
def rw_ (wt:List (List Int)) (j:Nat):List Int:=wt.getD j []
theorem rd_set (l:List Int) (i j x:Int) (hi:0≤i) (hil:i < (l.length:Int)) (hj:0≤j):rd (l.set i.toNat x) j=if j=i then x else rd l j:=by
 unfold rd
 rw[List.getD_eq_getElem?_getD,List.getD_eq_getElem?_getD,List.getElem?_set]
 by_cases e:j=i
 ·
  subst e
  rw[if_pos rfl,if_pos rfl,if_pos (by omega)]
  rfl
 ·
  rw[if_neg (by omega),if_neg e]
def EdgeOf (out:Int→Option (List Edg)) (n:Nat) (u v:Int) (c:Nat):Prop:=0≤u∧u < (n:Int)∧∃ es e,out u=some es∧e ∈ es∧e.1=v∧e.2.1=(c:Int)
def cntN (l:List Int):Nat:=l.countP (fun x=>decide (0≤x))
section
variable (out:Int→Option (List Edg)) (n C M:Nat) (starts:List Int)
abbrev WayO (v:Int) (m:Nat):Prop:=Way (EdgeOf out n) (fun s=>s ∈ starts) v m
structure BInv (d:Nat) (dist:List Int) (wt:List (List Int)):Prop where
 len:dist.length=n
 range:∀ v,0≤v→v < (n:Int)→rd dist v = -1∨∃ m:Nat,m≤d∧rd dist v=(m:Int)∧WayO out n starts v m
 none_:∀ v,0≤v→v < (n:Int)→rd dist v = -1→∀ m,m < d→¬ WayO out n starts v m
 least:∀ v,0≤v→v < (n:Int)→∀ m:Nat,rd dist v=(m:Int)→∀ m',WayO out n starts v m'→m≤m'
 sound:∀ j x,x ∈ rw_ wt j→0≤x∧x < (n:Int)∧WayO out n starts x j
 edges:∀ u,0≤u→u < (n:Int)→∀ m:Nat,rd dist u=(m:Int)→∀ v c,EdgeOf out n u v c→0≤rd dist v∨v ∈ rw_ wt (m+c)
 start:∀ s,s ∈ starts→0≤rd dist s∨s ∈ rw_ wt 0
 done:∀ j,j < d→∀ x,x ∈ rw_ wt j→0≤rd dist x
 cnt:wt.length≤C * cntN dist+1
 rows:∀ j,(rw_ wt j).length≤starts.length+M * cntN dist
variable {out n C M starts}
end
section
variable {E:Int→Int→Nat→Prop} {S:Int→Prop} {n:Nat}
def dkRelax (b:Int):List (Int × Int)→List Int→List Int
 | [],far=>far
 | e :: r,far=>dkRelax b r (if rd far e.1 < 0∨b+e.2 < rd far e.1 then far.set e.1.toNat (b+e.2) else far)
structure DInv (E:Int→Int→Nat→Prop) (S:Int→Prop) (n:Nat) (far:List Int) (dn:Int→Bool):Prop where
 len:far.length=n
 range:∀ v,0≤v→v < (n:Int)→rd far v = -1∨∃ m:Nat,rd far v=(m:Int)∧Way E S v m
 pos:∀ v,0≤v→v < (n:Int)→dn v=true→0≤rd far v
 least:∀ v,0≤v→v < (n:Int)→dn v=true→∀ m:Nat,Way E S v m→rd far v≤m
 order:∀ v,0≤v→v < (n:Int)→dn v=true→∀ u,0≤u→u < (n:Int)→dn u=false→0≤rd far u→rd far v≤rd far u
 edges:∀ u,0≤u→u < (n:Int)→dn u=true→∀ v c,E u v c→0≤rd far v∧rd far v≤rd far u+c
 start:∀ s,S s→rd far s=0
def Bounded (E:Int→Int→Nat→Prop) (S:Int→Prop) (n:Nat):Prop:=(∀ u v c,E u v c→0≤u∧u < (n:Int)∧0≤v∧v < (n:Int)∧1≤c)∧∀ s,S s→0≤s∧s < (n:Int)
theorem DInv.pick (hb:Bounded E S n) {far:List Int} {dn:Int→Bool} (h:DInv E S n far dn) {a:Int} (hm:∀ u,0≤u→u < (n:Int)→dn u=false→0≤rd far u→rd far a≤rd far u) :
  ∀ v m,Way E S v m→(dn v=true∧rd far v≤m)∨rd far a≤m:=by
 intro v m hw
 induction hw with
 | @here s hs =>
  have q:=hb.2 s hs
  have:=h.start s hs
  cases hd:dn s with
  | true=>left;exact ⟨rfl,by omega⟩
  | false=>right;have:=hm s q.1 q.2 hd (by omega);omega
 | @on u v a' c hu he ih =>
  have q:=hb.1 u v c he
  rcases ih with ⟨hd,hle⟩|hle
  ·
   have:=h.edges u q.1 q.2.1 hd v c he
   cases hd2:dn v with
   | true=>left;exact ⟨rfl,by omega⟩
   | false=>right;have:=hm v q.2.2.1 q.2.2.2.1 hd2 this.1;omega
  ·
   right;omega
theorem dkRelax_ok (b:Int) (hb0:0≤b):∀ (L:List (Int × Int)) (far:List Int),far.length=n→(∀ e ∈ L,0≤e.1∧e.1 < (n:Int)∧1≤e.2) →
  (dkRelax b L far).length=n∧(∀ v,0≤v→v < (n:Int)→(rd (dkRelax b L far) v=rd far v∨∃ e ∈ L,e.1=v∧rd (dkRelax b L far) v=b+e.2)∧(0≤rd far v→0≤rd (dkRelax b L far) v∧rd (dkRelax b L far) v≤rd far v)∧(rd far v≤b→0≤rd far v→rd (dkRelax b L far) v=rd far v)) ∧
   ∀ e ∈ L,0≤rd (dkRelax b L far) e.1∧rd (dkRelax b L far) e.1≤b+e.2:=by
 intro L
 induction L with
 | nil=>intro far hl _;exact ⟨hl,fun v _ _=>⟨.inl rfl,fun h=>⟨h,Int.le_refl _⟩,fun _ _=>rfl⟩,fun e h=>by cases h⟩
 | cons e r ih =>
  intro far hl he
  obtain ⟨e0,e1,e2⟩:=he e (by simp)
  simp only[dkRelax]
  generalize hf:(if rd far e.1 < 0∨b+e.2 < rd far e.1 then far.set e.1.toNat (b+e.2) else far)=f2
  have hl2:f2.length=n:=by rw[← hf];split <;> simp [hl]
  have hv:∀ v,0≤v→rd f2 v=if v=e.1∧(rd far e.1 < 0∨b+e.2 < rd far e.1) then b+e.2 else rd far v:=by
   intro v h0
   rw[← hf]
   by_cases hc:rd far e.1 < 0∨b+e.2 < rd far e.1
   ·
    rw[if_pos hc,rd_set far e.1 v _ e0 (by omega) h0]
    by_cases hq:v=e.1
    ·
     rw[if_pos hq,if_pos ⟨hq,hc⟩]
    ·
     rw[if_neg hq,if_neg (fun q=>hq q.1)]
   ·
    rw[if_neg hc,if_neg (fun q=>hc q.2)]
  obtain ⟨p1,p2,p3⟩:=ih f2 hl2 (fun x hx=>he x (by simp[hx]))
  refine ⟨p1,fun v h0 h1=>?_,fun x hx=>?_⟩
  ·
   obtain ⟨q1,q2,q3⟩:=p2 v h0 h1
   have hvv:=hv v h0
   by_cases hc:v=e.1∧(rd far e.1 < 0∨b+e.2 < rd far e.1)
   ·
    rw[if_pos hc] at hvv
    have hq:rd far v=rd far e.1:=by rw[hc.1]
    refine ⟨?_,fun h=>?_,fun h h'=>?_⟩
    ·
     rcases q1 with q|⟨x,hx,q⟩
     ·
      exact .inr ⟨e,by simp,hc.1.symm,by omega⟩
     ·
      exact .inr ⟨x,by simp[hx],q⟩
    ·
     have:=q2 (by omega)
     rcases hc.2 with h2|h2 <;> omega
    ·
     rcases hc.2 with h2|h2 <;> omega
   ·
    rw[if_neg hc] at hvv
    refine ⟨?_,fun h=>?_,fun h h'=>?_⟩
    ·
     rcases q1 with q|⟨x,hx,q⟩
     ·
      exact .inl (by omega)
     ·
      exact .inr ⟨x,by simp[hx],q⟩
    ·
     have:=q2 (by omega);omega
    ·
     have:=q3 (by omega) (by omega);omega
  ·
   rcases List.mem_cons.1 hx with rfl|hx
   ·
    have hvv:=hv x.1 e0
    obtain ⟨_,q2,_⟩:=p2 x.1 e0 e1
    by_cases hc:rd far x.1 < 0∨b+x.2 < rd far x.1
    ·
     rw[if_pos ⟨rfl,hc⟩] at hvv
     have:=q2 (by omega)
     omega
    ·
     rw[if_neg (fun q=>hc q.2)] at hvv
     have h3:0≤rd far x.1:=by
      rcases Int.lt_or_le (rd far x.1) 0 with h|h
      ·
       exact absurd (Or.inl h) hc
      ·
       exact h
     have h4:rd far x.1≤b+x.2:=by
      rcases Int.lt_or_le (b+x.2) (rd far x.1) with h|h
      ·
       exact absurd (Or.inr h) hc
      ·
       exact h
     have:=q2 (by omega)
     omega
   ·
    exact p3 x hx
theorem DInv.step (hb:Bounded E S n) {far:List Int} {dn:Int→Bool} (h:DInv E S n far dn) {a:Int} (a0:0≤a) (a1:a < (n:Int)) (ha:dn a=false) (hp:0≤rd far a) (hm:∀ u,0≤u→u < (n:Int)→dn u=false→0≤rd far u→rd far a≤rd far u)
  (L:List (Int × Int)) (hL:∀ v c,E a v c ↔ (v,(c:Int)) ∈ L) (hL2:∀ e ∈ L,0≤e.1∧e.1 < (n:Int)∧1≤e.2):DInv E S n (dkRelax (rd far a) L far) (fun v=>decide (v=a) || dn v):=by
 have hpick:=h.pick hb hm
 obtain ⟨p1,p2,p3⟩:=dkRelax_ok (rd far a) hp L far h.len hL2
 have old:∀ v,0≤v→v < (n:Int)→(v=a∨dn v=true)→rd (dkRelax (rd far a) L far) v=rd far v:=by
  intro v h0 h1 hv
  have:0≤rd far v∧rd far v≤rd far a:=by
   rcases hv with rfl|hv
   ·
    exact ⟨hp,Int.le_refl _⟩
   ·
    exact ⟨h.pos v h0 h1 hv,h.order v h0 h1 hv a a0 a1 ha hp⟩
  exact (p2 v h0 h1).2.2 this.2 this.1
 have hdn:∀ v,(decide (v=a) || dn v)=true→v=a∨dn v=true:=fun v hv=>by simpa using hv
 have hdn':∀ v,(decide (v=a) || dn v)=false→v≠a∧dn v=false:=fun v hv=>by simpa using hv
 have hwa:∃ m:Nat,rd far a=(m:Int)∧Way E S a m:=by
  rcases h.range a a0 a1 with q|q
  ·
   omega
  ·
   exact q
 refine ⟨p1,fun v h0 h1=>?_,fun v h0 h1 hv=>?_,fun v h0 h1 hv m hw=>?_,fun v h0 h1 hv u u0 u1 hu hup=>?_,fun u u0 u1 hu v c he=>?_,fun s hs=>?_⟩
 ·
  rcases (p2 v h0 h1).1 with q|⟨e,he,q1,q2⟩
  ·
   rw[q];exact h.range v h0 h1
  ·
   right
   obtain ⟨m,hm,hw⟩:=hwa
   have hpos:=(hL2 e he).2.2
   refine ⟨m+e.2.toNat,by omega,Way.on hw ((hL _ _).2 ?_)⟩
   rw[← q1,show ((e.2.toNat:Nat):Int)=e.2 by omega]
   exact he
 ·
  have hv:=hdn v hv
  rw[old v h0 h1 hv]
  rcases hv with rfl|hv
  ·
   exact hp
  ·
   exact h.pos v h0 h1 hv
 ·
  have hv:=hdn v hv
  rw[old v h0 h1 hv]
  rcases hv with rfl|hv
  ·
   rcases hpick v m hw with q|q
   ·
    exact q.2
   ·
    exact q
  ·
   exact h.least v h0 h1 hv m hw
 ·
  have hv:=hdn v hv
  obtain ⟨hu1,hu2⟩:=hdn' u hu
  rw[old v h0 h1 hv]
  have hva:rd far v≤rd far a:=by
   rcases hv with rfl|hv
   ·
    exact Int.le_refl _
   ·
    exact h.order v h0 h1 hv a a0 a1 ha hp
  rcases (p2 u u0 u1).1 with q|⟨e,he,q1,q2⟩
  ·
   rw[q] at hup ⊢
   have:=hm u u0 u1 hu2 hup
   omega
  ·
   have:=(hL2 e he).2.2
   omega
 ·
  have hu:=hdn u hu
  rw[old u u0 u1 hu]
  have hv:=hb.1 u v c he
  rcases hu with rfl|hu
  ·
   exact p3 (v,(c:Int)) ((hL v c).1 he)
  ·
   have q:=h.edges u u0 u1 hu v c he
   have:=(p2 v hv.2.2.1 hv.2.2.2.1).2.1 q.1
   omega
 ·
  have hs':=hb.2 s hs
  have q:=h.start s hs
  have:=(p2 s hs'.1 hs'.2).2.1 (by omega)
  omega
end
section
variable {E:Int→Int→Nat→Prop} {S:Int→Prop} {n:Nat}
def bfRelax (b:Int):List Int→List Int→List Int→List Int × List Int
 | [],far,q=>(far,q)
 | v :: r,far,q=>if rd far v < 0 then bfRelax b r (far.set v.toNat (b+1)) (q ++ [v]) else bfRelax b r far q
theorem bfRelax_ok (b:Int) (hb:0≤b):∀ (L far q:List Int),far.length=n→(∀ v ∈ L,0≤v∧v < (n:Int))→(∀ v ∈ q,0≤v∧v < (n:Int)∧0≤rd far v∧rd far v≤b+1)→(∀ v,0≤v→v < (n:Int)→v ∉ q→rd far v = -1)→q.Nodup →
  ∃ add,(bfRelax b L far q).2=q ++ add∧(bfRelax b L far q).1.length=n∧(∀ v ∈ q,rd (bfRelax b L far q).1 v=rd far v)∧(∀ v ∈ add,0≤v∧v < (n:Int)∧v ∈ L∧rd (bfRelax b L far q).1 v=b+1) ∧
   (∀ v,0≤v→v < (n:Int)→v ∉ q ++ add→rd (bfRelax b L far q).1 v = -1)∧(∀ v ∈ L,0≤rd (bfRelax b L far q).1 v∧rd (bfRelax b L far q).1 v≤b+1)∧(q ++ add).Nodup:=by
 intro L
 induction L with
 | nil =>
  intro far q hl hL hq hn hd
  exact ⟨[],by simp[bfRelax],hl,fun _ _=>rfl,(fun v h=>by simp at h),(fun v h0 h1 hv=>hn v h0 h1 (by simpa using hv)),(fun v h=>by simp at h),by simpa using hd⟩
 | cons x L ih =>
  intro far q hl hL hq hn hd
  obtain ⟨x0,x1⟩:=hL x (by simp)
  simp only[bfRelax]
  by_cases hc:rd far x < 0
  ·
   rw[if_pos hc]
   have hxq:x ∉ q:=fun h=>by have:=hq x h;omega
   have hset:∀ v,0≤v→rd (far.set x.toNat (b+1)) v=if v=x then b+1 else rd far v:=fun v hv=>rd_set far x v _ x0 (by omega) hv
   have hne:∀ v ∈ q,rd (far.set x.toNat (b+1)) v=rd far v:=fun v hv=>by
    rw[hset v (hq v hv).1,if_neg (by rintro rfl;exact hxq hv)]
   obtain ⟨add,p1,p2,p3,p4,p5,p6,p7⟩:=ih (far.set x.toNat (b+1)) (q ++ [x]) (by simpa using hl) (fun v hv=>hL v (by simp[hv])) (fun v hv=>by
    rcases List.mem_append.1 hv with hv|hv
    ·
     have:=hq v hv
     rw[hne v hv];exact this
    ·
     obtain rfl:v=x:=by simpa using hv
     rw[hset v x0,if_pos rfl]
     exact ⟨x0,x1,by omega,Int.le_refl _⟩) (fun v h0 h1 hv=>by
    rw[hset v h0,if_neg (fun e=>hv (by simp[e]))]
    exact hn v h0 h1 (fun e=>hv (by simp[e]))) (by
    rw[List.nodup_append]
    exact ⟨hd,by simp,fun a ha c hc=>by simp at hc;subst hc;exact (by rintro rfl;exact hxq ha)⟩)
   refine ⟨x :: add,by rw[p1];simp,p2,fun v hv=>?_,fun v hv=>?_,fun v h0 h1 hv=>?_,fun v hv=>?_,by simpa using p7⟩
   ·
    rw[p3 v (by simp[hv]),hne v hv]
   ·
    rcases List.mem_cons.1 hv with rfl|hv
    ·
     refine ⟨x0,x1,by simp,?_⟩
     rw[p3 v (by simp),hset v x0,if_pos rfl]
    ·
     have:=p4 v hv
     exact ⟨this.1,this.2.1,by simp[this.2.2.1],this.2.2.2⟩
   ·
    exact p5 v h0 h1 (by simpa using hv)
   ·
    rcases List.mem_cons.1 hv with rfl|hv
    ·
     rw[p3 v (by simp),hset v x0,if_pos rfl];omega
    ·
     exact p6 v hv
  ·
   rw[if_neg hc]
   obtain ⟨add,p1,p2,p3,p4,p5,p6,p7⟩:=ih far q hl (fun v hv=>hL v (by simp[hv])) hq hn hd
   refine ⟨add,p1,p2,p3,fun v hv=>?_,p5,fun v hv=>?_,p7⟩
   ·
    have:=p4 v hv
    exact ⟨this.1,this.2.1,by simp[this.2.2.1],this.2.2.2⟩
   ·
    rcases List.mem_cons.1 hv with rfl|hv
    ·
     have hxq:v ∈ q:=by
      by_cases h:v ∈ q
      ·
       exact h
      ·
       have:=hn v x0 x1 h;omega
     have:=hq v hxq
     rw[p3 v hxq]
     omega
    ·
     exact p6 v hv
structure QInv (E:Int→Int→Nat→Prop) (S:Int→Prop) (n:Nat) (far:List Int) (pre todo:List Int):Prop where
 len:far.length=n
 inn:∀ v,v ∈ pre ++ todo→0≤v∧v < (n:Int)∧∃ m:Nat,rd far v=(m:Int)∧Way E S v m
 out:∀ v,0≤v→v < (n:Int)→v ∉ pre ++ todo→rd far v = -1
 sorted:(pre ++ todo).Pairwise (fun a b=>rd far a≤rd far b)
 near:∀ u r,todo=u :: r→∀ v ∈ todo,rd far v≤rd far u+1
 edges:∀ u ∈ pre,∀ v c,E u v c→0≤rd far v∧rd far v≤rd far u+1
 start:∀ s,S s→rd far s=0
 nodup:(pre ++ todo).Nodup
theorem QInv.step (hb:Bounded E S n) {far pre todo:List Int} {u:Int} (h:QInv E S n far pre (u :: todo)) (L:List Int) (hL:∀ v c,E u v c ↔ c=1∧v ∈ L) (hL2:∀ v ∈ L,0≤v∧v < (n:Int)) :
  ∃ todo',(bfRelax (rd far u) L far (pre ++ u :: todo)).2=(pre ++ [u]) ++ todo'∧QInv E S n (bfRelax (rd far u) L far (pre ++ u :: todo)).1 (pre ++ [u]) todo':=by
 obtain ⟨u0,u1,mu,hmu,hwu⟩:=h.inn u (by simp)
 have hsort:=h.sorted
 rw[List.pairwise_append] at hsort
 obtain ⟨s1,s2,s3⟩:=hsort
 have hbound:∀ v ∈ pre ++ u :: todo,0≤v∧v < (n:Int)∧0≤rd far v∧rd far v≤rd far u+1:=by
  intro v hv
  obtain ⟨v0,v1,mv,hmv,_⟩:=h.inn v hv
  refine ⟨v0,v1,by omega,?_⟩
  rcases List.mem_append.1 hv with hv|hv
  ·
   have:=s3 v hv u (by simp);omega
  ·
   exact h.near u todo rfl v hv
 obtain ⟨add,p1,p2,p3,p4,p5,p6,p7⟩:=bfRelax_ok (rd far u) (by omega) L far (pre ++ u :: todo) h.len hL2 hbound h.out h.nodup
 have hq:pre ++ u :: todo ++ add=pre ++ [u] ++ (todo ++ add):=by simp
 refine ⟨todo ++ add,by rw[p1,hq],p2,fun v hv=>?_,fun v h0 h1 hv=>?_,?_,fun x r hx v hv=>?_,fun x hx v c he=>?_,fun s hs=>?_,by rw[← hq];exact p7⟩
 ·
  rw[← hq] at hv
  rcases List.mem_append.1 hv with hv|hv
  ·
   obtain ⟨v0,v1,mv,hmv,hw⟩:=h.inn v hv
   exact ⟨v0,v1,mv,by rw[p3 v hv];exact hmv,hw⟩
  ·
   obtain ⟨v0,v1,hvL,hvf⟩:=p4 v hv
   exact ⟨v0,v1,mu+1,by rw[hvf,hmu];rfl,Way.on hwu ((hL v 1).2 ⟨rfl,hvL⟩)⟩
 ·
  exact p5 v h0 h1 (by rw[hq];exact hv)
 ·
  rw[← hq,List.pairwise_append]
  refine ⟨?_,?_,fun a ha c hc=>?_⟩
  ·
   exact List.Pairwise.imp_of_mem (fun {a c} ha hc hle=>by rw[p3 a ha,p3 c hc];exact hle) h.sorted
  ·
   refine List.Pairwise.imp_of_mem (R:=fun _ _=>True) (fun {a c} ha hc _=>?_) (List.pairwise_of_forall (fun _ _=>trivial))
   rw[(p4 a ha).2.2.2,(p4 c hc).2.2.2]
   exact Int.le_refl _
  ·
   rw[p3 a ha,(p4 c hc).2.2.2]
   exact (hbound a ha).2.2.2
 ·
  have hxge:rd far u≤rd (bfRelax (rd far u) L far (pre ++ u :: todo)).1 x:=by
   have hxm:x ∈ todo ++ add:=by rw[hx];simp
   rcases List.mem_append.1 hxm with hxm|hxm
   ·
    rw[p3 x (by simp[hxm])]
    rw[List.pairwise_cons] at s2
    exact s2.1 x hxm
   ·
    rw[(p4 x hxm).2.2.2];omega
  have hvle:rd (bfRelax (rd far u) L far (pre ++ u :: todo)).1 v≤rd far u+1:=by
   rcases List.mem_append.1 hv with hv|hv
   ·
    rw[p3 v (by simp[hv])]
    exact (hbound v (by simp[hv])).2.2.2
   ·
    rw[(p4 v hv).2.2.2]
    exact Int.le_refl _
  omega
 ·
  rcases List.mem_append.1 hx with hx|hx
  ·
   have q:=h.edges x hx v c he
   have hvb:=hb.1 x v c he
   have hvm:v ∈ pre ++ u :: todo:=by
    by_cases hm:v ∈ pre ++ u :: todo
    ·
     exact hm
    ·
     have:=h.out v hvb.2.2.1 hvb.2.2.2.1 hm;omega
   rw[p3 v hvm,p3 x (by simp[hx])]
   exact q
  ·
   obtain rfl:x=u:=by simpa using hx
   have:=p6 v ((hL v c).1 he).2
   rw[p3 x (by simp)]
   exact this
 ·
  have q:=h.start s hs
  have hsb:=hb.2 s hs
  have hsm:s ∈ pre ++ u :: todo:=by
   by_cases hm:s ∈ pre ++ u :: todo
   ·
    exact hm
   ·
    have:=h.out s hsb.1 hsb.2 hm;omega
  rw[p3 s hsm]
  exact q
structure RInv (E:Int→Int→Nat→Prop) (S:Int→Prop) (pre todo:List Int):Prop where
 inn:∀ v,v ∈ pre ++ todo→∃ m:Nat,Way E S v m
 edges:∀ u ∈ pre,∀ v c,E u v c→v ∈ pre ++ todo
 start:∀ s,S s→s ∈ pre ++ todo
 nodup:(pre ++ todo).Nodup
def rcRelax:List Int→List Int→List Int
 | [],q=>q
 | v :: r,q=>rcRelax r (if v ∈ q then q else q ++ [v])
theorem rcRelax_ok:∀ (L q:List Int),q.Nodup→∃ add,rcRelax L q=q ++ add∧(∀ v ∈ add,v ∈ L)∧(∀ v ∈ L,v ∈ q ++ add)∧(q ++ add).Nodup:=by
 intro L
 induction L with
 | nil=>intro q hd;exact ⟨[],by simp[rcRelax],(fun v h=>by simp at h),(fun v h=>by simp at h),by simpa using hd⟩
 | cons x L ih =>
  intro q hd
  simp only[rcRelax]
  by_cases hx:x ∈ q
  ·
   rw[if_pos hx]
   obtain ⟨add,p1,p2,p3,p4⟩:=ih q hd
   refine ⟨add,p1,fun v hv=>by simp[p2 v hv],fun v hv=>?_,p4⟩
   rcases List.mem_cons.1 hv with rfl|hv
   ·
    simp[hx]
   ·
    exact p3 v hv
  ·
   rw[if_neg hx]
   obtain ⟨add,p1,p2,p3,p4⟩:=ih (q ++ [x]) (by
    rw[List.nodup_append]
    exact ⟨hd,by simp,fun a ha c hc=>by simp at hc;subst hc;rintro rfl;exact hx ha⟩)
   refine ⟨x :: add,by rw[p1];simp,fun v hv=>?_,fun v hv=>?_,by simpa using p4⟩
   ·
    rcases List.mem_cons.1 hv with rfl|hv
    ·
     simp
    ·
     simp[p2 v hv]
   ·
    rcases List.mem_cons.1 hv with rfl|hv
    ·
     simp
    ·
     have:=p3 v hv
     simpa using this
theorem RInv.step {pre todo:List Int} {u:Int} (h:RInv E S pre (u :: todo)) (L:List Int) (hL:∀ v,(∃ c,E u v c) ↔ v ∈ L) :
  ∃ todo',rcRelax L (pre ++ u :: todo)=(pre ++ [u]) ++ todo'∧RInv E S (pre ++ [u]) todo':=by
 obtain ⟨add,p1,p2,p3,p4⟩:=rcRelax_ok L (pre ++ u :: todo) h.nodup
 have hq:pre ++ u :: todo ++ add=pre ++ [u] ++ (todo ++ add):=by simp
 rw[hq] at p1 p3 p4
 refine ⟨todo ++ add,p1,fun v hv=>?_,fun x hx v c he=>?_,fun s hs=>?_,p4⟩
 ·
  rw[← hq] at hv
  rcases List.mem_append.1 hv with hv|hv
  ·
   exact h.inn v hv
  ·
   obtain ⟨m,hw⟩:=h.inn u (by simp)
   obtain ⟨c,he⟩:=(hL v).2 (p2 v hv)
   exact ⟨m+c,Way.on hw he⟩
 ·
  rw[← hq]
  rcases List.mem_append.1 hx with hx|hx
  ·
   exact List.mem_append_left _ (h.edges x hx v c he)
  ·
   obtain rfl:x=u:=by simpa using hx
   rw[hq]
   exact p3 v ((hL v).1 ⟨c,he⟩)
 ·
  rw[← hq]
  exact List.mem_append_left _ (h.start s hs)
end
theorem Way.map_ {E E':Int→Int→Nat→Prop} {S S':Int→Prop} (f:Int→Int) (he:∀ u v c,E u v c→E' (f u) (f v) c) (hs:∀ s,S s→S' (f s)) {v:Int} {n:Nat} (h:Way E S v n):Way E' S' (f v) n:=by
 induction h with
 | here h=>exact Way.here (hs _ h)
 | on hu h ih=>exact Way.on ih (he _ _ _ h)
theorem Way.imp_ {E E':Int→Int→Nat→Prop} {S S':Int→Prop} (he:∀ u v c,E u v c→E' u v c) (hs:∀ s,S s→S' s) {v:Int} {n:Nat} (h:Way E S v n):Way E' S' v n:=Way.map_ (fun x=>x) he hs h
end Go.Proofs.Ytabhhkiipilghaa.H
