import Derived.Test.YtihieplobgehaaaC2zWWords
import Derived.Test.YtihieplobgehaaaC2zWLast
import Derived.Test.YtihieplobgehaaaC2zWTab
import Derived.Test.YtihieplobgehaaaC2zWFour
import Derived.Test.YtihieplobgehaaaC2zWQPut
import Derived.Test.YtihieplobgehaaaC2zWApart
import Derived.Test.YtihieplobgehaaaC2zWArr
import Derived.Test.YtihieplobgehaaaC2zWZeros
import Derived.Test.YtihieplobgehaaaC2zWFoot
import Derived.Test.YtihieplobgehaaaC2zWKept
import Derived.Test.YtihieplobgehaaaC2zWShare
import Derived.Test.YtihieplobgehaaaC2zWN
import Derived.Test.YtihieplobgehaaaC2zWFootNe
import Derived.Test.YtihieplobgehaaaC2zWAt
import Derived.Test.YtihieplobgehaaaC2zWEqStruct
import Derived.Test.YtihieplobgehaaaC2zWRepsOne
import Derived.Test.YtihieplobgehaaaC2zWInv
import Derived.Test.YtihieplobgehaaaC2zWInvWords
import Derived.Test.YtihieplobgehaaaC2zWGuard
import Derived.Test.YtihieplobgehaaaC2zWNEv
import Derived.Test.YtihieplobgehaaaC2zWMore
namespace Go.Proofs.Ytihieplobgehaaa.H
open Go.RowKit Go.Proofs.YtihieplobgehaaaW.PrintWords Go.Proofs.YtihieplobgehaaaW.PrintLast Go.Proofs.YtihieplobgehaaaW.PrintMore
attribute [local go_sem] max2_int min2_int max_two min_two max_three min_three max_four min_four
set_option linter.unusedVariables false
set_option linter.unusedSimpArgs false
abbrev Edg:=Int × Int × List Int
inductive Way (E:Int→Int→Nat→Prop) (S:Int→Prop):Int→Nat→Prop
 | here {s:Int}:S s→Way E S s 0
 | on {u v:Int} {n c:Nat}:Way E S u n→E u v c→Way E S v (n+c)
def IsLeast (P:Nat→Prop) (r:Int):Prop:=(r = -1∧∀ n,¬ P n)∨∃ n:Nat,r=(n:Int)∧P n∧∀ m,P m→n≤m
theorem IsLeast.uniq {P:Nat→Prop} {r s:Int} (h:IsLeast P r) (h':IsLeast P s):r=s:=by
 rcases h with ⟨rfl,h⟩|⟨n,rfl,h,hm⟩ <;> rcases h' with ⟨rfl,h'⟩|⟨m,rfl,h',hm'⟩
 ·
  rfl
 ·
  exact absurd h' (h m)
 ·
  exact absurd h (h' n)
 ·
  have:=hm m h'
  have:=hm' n h
  omega
theorem IsLeast.iff {P Q:Nat→Prop} {r:Int} (h:IsLeast P r) (e:∀ n,P n ↔ Q n):IsLeast Q r:=by
 rcases h with ⟨rfl,h⟩|⟨n,rfl,h,hm⟩
 ·
  exact .inl ⟨rfl,fun n hn=>h n ((e n).2 hn)⟩
 ·
  exact .inr ⟨n,rfl,(e n).1 h,fun m hm'=>hm m ((e m).2 hm')⟩
def bkLim:Nat:=1099511627776
def rw_ (wt:List (List Int)) (j:Nat):List Int:=wt.getD j []
def bkPut (wt:List (List Int)) (j:Nat) (x:Int):List (List Int):=(wt ++ List.replicate (j+1 - wt.length) []).set j (rw_ wt j ++ [x])
def bkE (d:Nat) (dist:List Int):List Edg→List (List Int)→Option (List (List Int))
 | [],wt=>some wt
 | e :: es,wt =>
  if 0≤e.1∧e.1 < (dist.length:Int) then
   if 0≤rd dist e.1 then bkE d dist es wt
   else if 0≤e.2.1∧e.2.1 < (bkLim:Int) then
    if (rw_ wt (d+e.2.1.toNat)).length < bkLim then bkE d dist es (bkPut wt (d+e.2.1.toNat) e.1)
    else none
   else none
  else none
def bkI (out:Int→Option (List Edg)) (d:Nat):Nat→Nat→List Int→List (List Int)→Option (List Int × List (List Int))
 | 0,_,_,_=>none
 | k+1,i,dist,wt =>
  if i < (rw_ wt d).length then
   if 0≤rd (rw_ wt d) i∧rd (rw_ wt d) i < (dist.length:Int) then
    if 0≤rd dist (rd (rw_ wt d) i) then bkI out d k (i+1) dist wt
    else (out (rd (rw_ wt d) i)).bind fun es=>(bkE d (dist.set (rd (rw_ wt d) i).toNat (d:Int)) es wt).bind fun wt'=>bkI out d k (i+1) (dist.set (rd (rw_ wt d) i).toNat (d:Int)) wt'
   else none
  else some (dist,wt)
def bkD (out:Int→Option (List Edg)):Nat→Nat→List Int→List (List Int)→Option (List Int)
 | 0,_,_,_=>none
 | k+1,d,dist,wt=>if d < wt.length then (if d < bkLim then (bkI out d k 0 dist wt).bind fun p=>bkD out k (d+1) p.1 p.2 else none) else some dist
def fromF (out:Int→Option (List Edg)) (k:Nat) (many:Int) (starts:List Int):Option (List Int) :=
 if 0≤many∧many≤1024 then bkD out k 0 (List.replicate many.toNat (-1)) [starts] else none
theorem rd_set (l:List Int) (i j x:Int) (hi:0≤i) (hil:i < (l.length:Int)) (hj:0≤j):rd (l.set i.toNat x) j=if j=i then x else rd l j:=by
 unfold rd
 rw[List.getD_eq_getElem?_getD,List.getD_eq_getElem?_getD,List.getElem?_set]
 by_cases e:j=i
 ·
  subst e
  rw[if_pos rfl,if_pos rfl,if_pos (by omega)]
  rfl
 ·
  rw[if_neg (by omega),if_neg e]
theorem rw_app (wt:List (List Int)) (m j:Nat):rw_ (wt ++ List.replicate m []) j=rw_ wt j:=by
 unfold rw_
 rw[List.getD_eq_getElem?_getD,List.getD_eq_getElem?_getD,List.getElem?_append]
 by_cases h:j < wt.length
 ·
  rw[if_pos h]
 ·
  rw[if_neg h,List.getElem?_eq_none (by omega:wt.length≤j),List.getElem?_replicate]
  split <;> rfl
theorem rw_put (wt:List (List Int)) (j:Nat) (x:Int) (i:Nat):rw_ (bkPut wt j x) i=if i=j then rw_ wt j ++ [x] else rw_ wt i:=by
 have h1:=rw_app wt (j+1 - wt.length)
 have hl:j < (wt ++ List.replicate (j+1 - wt.length) ([]:List Int)).length:=by simp;omega
 unfold bkPut
 rw[← h1 j,← h1 i]
 generalize wt ++ List.replicate (j+1 - wt.length) ([]:List Int)=w1 at *
 by_cases e:i=j
 ·
  subst e
  rw[if_pos rfl]
  unfold rw_
  rw[List.getD_eq_getElem?_getD,List.getElem?_set,if_pos rfl,if_pos hl]
  rfl
 ·
  rw[if_neg e]
  unfold rw_
  rw[List.getD_eq_getElem?_getD,List.getElem?_set,if_neg (by omega),← List.getD_eq_getElem?_getD]
theorem len_put (wt:List (List Int)) (j:Nat) (x:Int):(bkPut wt j x).length=max wt.length (j+1):=by
 unfold bkPut
 simp
 omega
theorem rw_lt {wt:List (List Int)} {j:Nat} {x:Int} (h:x ∈ rw_ wt j):j < wt.length:=by
 unfold rw_ at h
 rcases Nat.lt_or_ge j wt.length with hj|hj
 ·
  exact hj
 ·
  rw[List.getD_eq_getElem?_getD,List.getElem?_eq_none hj] at h
  cases h
theorem bkE_ok (d n C:Nat) (dist:List Int) (hd:dist.length=n) (hC:C < bkLim):∀ (es:List Edg) (wt:List (List Int)) (B:Nat),B+es.length < bkLim→(∀ j,(rw_ wt j).length≤B)→(∀ e ∈ es,0≤e.1∧e.1 < (n:Int)∧1≤e.2.1∧e.2.1≤(C:Int)) →
  ∃ wt',bkE d dist es wt=some wt'∧wt.length≤wt'.length∧wt'.length≤max wt.length (d+C+1)∧(∀ j,(rw_ wt' j).length≤B+es.length)∧(∀ j,j≤d→rw_ wt' j=rw_ wt j)∧(∀ j x,x ∈ rw_ wt j→x ∈ rw_ wt' j) ∧
   (∀ j x,x ∈ rw_ wt' j→x ∈ rw_ wt j∨∃ e ∈ es,e.1=x∧(j:Int)=d+e.2.1)∧(∀ e ∈ es,0≤rd dist e.1∨e.1 ∈ rw_ wt' (d+e.2.1.toNat)):=by
 intro es
 induction es with
 | nil =>
  intro wt B hB hr he
  exact ⟨wt,rfl,Nat.le_refl _,by omega,by simpa using hr,fun _ _=>rfl,fun _ _ h=>h,fun _ _ h => .inl h,fun e h=>by cases h⟩
 | cons e es ih =>
  intro wt B hB hr he
  obtain ⟨h0,h1,h2,h3⟩:=he e (by simp)
  simp only[List.length_cons] at hB
  by_cases hs:0≤rd dist e.1
  ·
   obtain ⟨wt',p1,p2,p3,p4,p5,p6,p7,p8⟩:=ih wt B (by omega) hr (fun x hx=>he x (by simp[hx]))
   refine ⟨wt',?_,p2,p3,fun j=>by have:=p4 j;simp only[List.length_cons];omega,p5,p6,fun j x hx=>?_,fun x hx=>?_⟩
   ·
    rw[bkE,if_pos ⟨h0,by omega⟩,if_pos hs];exact p1
   ·
    rcases p7 j x hx with h|⟨y,hy,h⟩
    ·
     exact .inl h
    ·
     exact .inr ⟨y,by simp[hy],h⟩
   ·
    rcases List.mem_cons.1 hx with rfl|hx
    ·
     exact .inl hs
    ·
     exact p8 x hx
  ·
   have hp:=rw_put wt (d+e.2.1.toNat) e.1
   have hl:=len_put wt (d+e.2.1.toNat) e.1
   obtain ⟨wt',p1,p2,p3,p4,p5,p6,p7,p8⟩:=ih (bkPut wt (d+e.2.1.toNat) e.1) (B+1) (by omega) (fun j=>by
    rw[hp]
    have:=hr j
    have:=hr (d+e.2.1.toNat)
    split
    ·
     simp;omega
    ·
     omega) (fun x hx=>he x (by simp[hx]))
   have hlen:(rw_ wt (d+e.2.1.toNat)).length < bkLim:=by
    have:=hr (d+e.2.1.toNat)
    omega
   refine ⟨wt',?_,by omega,by omega,fun j=>by have:=p4 j;simp only[List.length_cons];omega,fun j hj=>?_,fun j x hx=>?_,fun j x hx=>?_,fun x hx=>?_⟩
   ·
    rw[bkE,if_pos ⟨h0,by omega⟩,if_neg hs,if_pos ⟨by omega,by omega⟩,if_pos hlen];exact p1
   ·
    rw[p5 j hj,hp,if_neg (by omega)]
   ·
    refine p6 j x ?_
    rw[hp]
    split
    ·
     rename_i q;subst q;simp[hx]
    ·
     exact hx
   ·
    rcases p7 j x hx with h|⟨y,hy,h⟩
    ·
     rw[hp] at h
     split at h
     ·
      rename_i q
      subst q
      rcases List.mem_append.1 h with h|h
      ·
       exact .inl h
      ·
       simp at h
       exact .inr ⟨e,by simp,h.symm,by omega⟩
     ·
      exact .inl h
    ·
     exact .inr ⟨y,by simp[hy],h⟩
   ·
    rcases List.mem_cons.1 hx with rfl|hx
    ·
     right
     refine p6 _ _ ?_
     rw[hp,if_pos rfl]
     simp
    ·
     exact p8 x hx
def EdgeOf (out:Int→Option (List Edg)) (n:Nat) (u v:Int) (c:Nat):Prop:=0≤u∧u < (n:Int)∧∃ es e,out u=some es∧e ∈ es∧e.1=v∧e.2.1=(c:Int)
def Okay (out:Int→Option (List Edg)) (n C M:Nat):Prop:=∀ s,0≤s→s < (n:Int)→∃ es,out s=some es∧es.length≤M∧∀ e ∈ es,0≤e.1∧e.1 < (n:Int)∧1≤e.2.1∧e.2.1≤(C:Int)
def cntN (l:List Int):Nat:=l.countP (fun x=>decide (0≤x))
theorem cntN_set:∀ (l:List Int) (i:Nat) (x:Int),i < l.length→l.getD i 0 < 0→0≤x→cntN (l.set i x)=cntN l+1:=by
 intro l
 induction l with
 | nil=>intro i x h;simp at h
 | cons y l ih =>
  intro i x h hy hx
  cases i with
  | zero =>
   simp only[List.getD_cons_zero] at hy
   simp only[List.set_cons_zero,cntN,List.countP_cons,decide_eq_true hx,decide_eq_false (show ¬ 0≤y by omega)]
   simp
  | succ i =>
   have:=ih i x (by simpa using h) (by simpa using hy) hx
   simp only[cntN] at this
   simp only[List.set_cons_succ,cntN,List.countP_cons,this]
   omega
theorem cntN_le (l:List Int):cntN l≤l.length:=List.countP_le_length
section
variable (out:Int→Option (List Edg)) (n C M:Nat) (starts:List Int)
abbrev WayO (v:Int) (m:Nat):Prop:=Way (EdgeOf out n) (fun s=>s ∈ starts) v m
structure BInv (d:Nat) (dist:List Int) (wt:List (List Int)):Prop where
 len:dist.length=n
 range:∀ v,0≤v→v < (n:Int)→rd dist v = -1∨∃ m:Nat,m≤d∧rd dist v=(m:Int)∧WayO out n starts v m
 none_:∀ v,0≤v→v < (n:Int)→rd dist v = -1→∀ m,m < d→¬ WayO out n starts v m
 least:∀ v,0≤v→v < (n:Int)→∀ m:Nat,rd dist v=(m:Int)→∀ m',WayO out n starts v m'→m≤m'
 sound:∀ j x,x ∈ rw_ wt j→0≤x∧x < (n:Int)∧WayO out n starts x j
 edges:∀ u,0≤u→u < (n:Int)→∀ m:Nat,rd dist u=(m:Int)→∀ v c,EdgeOf out n u v c→0≤rd dist v∨v ∈ rw_ wt (m+c)
 start:∀ s,s ∈ starts→0≤rd dist s∨s ∈ rw_ wt 0
 done:∀ j,j < d→∀ x,x ∈ rw_ wt j→0≤rd dist x
 cnt:wt.length≤C * cntN dist+1
 rows:∀ j,(rw_ wt j).length≤starts.length+M * cntN dist
variable {out n C M starts}
theorem BInv.next {d:Nat} {dist:List Int} {wt:List (List Int)} (h:BInv out n C M starts d dist wt) (ho:Okay out n C M) (hp:∀ x,x ∈ rw_ wt d→0≤rd dist x):BInv out n C M starts (d+1) dist wt:=by
 refine ⟨h.len,fun v h0 h1=>?_,fun v h0 h1 hv m hm hw=>?_,h.least,h.sound,h.edges,h.start,fun j hj x hx=>?_,h.cnt,h.rows⟩
 ·
  rcases h.range v h0 h1 with q|⟨m,hm,q⟩
  ·
   exact .inl q
  ·
   exact .inr ⟨m,by omega,q⟩
 ·
  by_cases e:m < d
  ·
   exact h.none_ v h0 h1 hv m e hw
  ·
   obtain rfl:m=d:=by omega
   cases hw with
   | here hs =>
    rcases h.start v hs with q|q
    ·
     omega
    ·
     have:=hp v q;omega
   | @on u _ a c hu he =>
    obtain ⟨u0,u1,es,ed,ho1,hm1,hv1,hc1⟩:=he
    obtain ⟨es',ho2,_,hb⟩:=ho u u0 u1
    rw[ho1] at ho2
    cases ho2
    have hb:=hb ed hm1
    rcases h.range u u0 u1 with q|⟨a',ha',q,hw'⟩
    ·
     exact h.none_ u u0 u1 q a (by omega) hu
    ·
     have hle:=h.least u u0 u1 a' q a hu
     have he:EdgeOf out n u v c:=⟨u0,u1,es,ed,ho1,hm1,hv1,hc1⟩
     by_cases e2:a'=a
     ·
      subst e2
      rcases h.edges u u0 u1 a' q v c he with q2|q2
      ·
       omega
      ·
       have:=hp v q2;omega
     ·
      exact h.none_ v h0 h1 hv (a'+c) (by omega) (Way.on hw' he)
 ·
  by_cases e:j < d
  ·
   exact h.done j e x hx
  ·
   obtain rfl:j=d:=by omega
   exact hp x hx
theorem bkI_ok {d:Nat} (ho:Okay out n C M) (hC:C < bkLim) (hB:starts.length+M * n < bkLim):∀ (g k i:Nat) (dist:List Int) (wt:List (List Int)),BInv out n C M starts d dist wt→(rw_ wt d).length - i≤g→g < k→(∀ j,j < i→j < (rw_ wt d).length→0≤rd dist (rd (rw_ wt d) (j:Nat))) →
  ∃ p,bkI out d k i dist wt=some p∧BInv out n C M starts (d+1) p.1 p.2:=by
 intro g
 induction g with
 | zero =>
  intro k i dist wt h hg hk hp
  obtain ⟨k,rfl⟩:∃ m,k=m+1:=⟨k - 1,by omega⟩
  refine ⟨(dist,wt),?_,h.next ho fun x hx=>?_⟩
  ·
   rw[bkI,if_neg (by show ¬ i < (rw_ wt d).length;omega)]
  ·
   obtain ⟨j,hj,rfl⟩:=List.getElem_of_mem hx
   have:=hp j (by omega) hj
   simpa [rd,List.getD_eq_getElem?_getD,List.getElem?_eq_getElem hj] using this
 | succ g ih =>
  intro k i dist wt h hg hk hp
  obtain ⟨k,rfl⟩:∃ m,k=m+1:=⟨k - 1,by omega⟩
  by_cases hi:i < (rw_ wt d).length
  ·
   have hmem:rd (rw_ wt d) (i:Nat) ∈ rw_ wt d:=by
    simp[rd,List.getD_eq_getElem?_getD,List.getElem?_eq_getElem hi]
   obtain ⟨s0,s1,hw⟩:=h.sound d _ hmem
   have hlen:=h.len
   rw[bkI,if_pos (show i < (rw_ wt d).length from hi),if_pos (show 0≤rd (rw_ wt d) (i:Nat)∧rd (rw_ wt d) (i:Nat) < (dist.length:Int) from ⟨s0,by omega⟩)]
   change ∃ p,(if 0≤rd dist (rd (rw_ wt d) (i:Nat)) then bkI out d k (i+1) dist wt else (out (rd (rw_ wt d) (i:Nat))).bind fun es=>(bkE d (dist.set (rd (rw_ wt d) (i:Nat)).toNat (d:Int)) es wt).bind fun wt'=>bkI out d k (i+1) (dist.set (rd (rw_ wt d) (i:Nat)).toNat (d:Int)) wt')=some p∧_
   by_cases hs:0≤rd dist (rd (rw_ wt d) (i:Nat))
   ·
    rw[if_pos hs]
    refine ih k (i+1) dist wt h (by omega) (by omega) fun j hj hj2=>?_
    by_cases e:j=i
    ·
     subst e;exact hs
    ·
     exact hp j (by omega) hj2
   ·
    rw[if_neg hs]
    generalize hsd:rd (rw_ wt d) (i:Nat)=s at *
    obtain ⟨es,ho1,hM,hes⟩:=ho s s0 s1
    rw[ho1,Option.bind_some]
    have hset:∀ v,0≤v→rd (dist.set s.toNat (d:Int)) v=if v=s then (d:Int) else rd dist v:=fun v hv=>rd_set dist s v d s0 (by omega) hv
    have hsn:rd dist s = -1:=by
     rcases h.range s s0 s1 with q|⟨m,_,q,_⟩ <;> omega
    have hcn:cntN (dist.set s.toNat (d:Int))=cntN dist+1:=cntN_set dist s.toNat d (by omega) (by unfold rd at hsn;omega) (by omega)
    have hcl:=cntN_le (dist.set s.toNat (d:Int))
    have hl2:(dist.set s.toNat (d:Int)).length=n:=by simpa using hlen
    have hmul:M * (cntN dist+1)≤M * n:=Nat.mul_le_mul_left _ (by omega)
    have hmul2:M * (cntN dist+1)=M * cntN dist+M:=by rw[Nat.mul_add,Nat.mul_one]
    have hmul3:C * (cntN dist+1)=C * cntN dist+C:=by rw[Nat.mul_add,Nat.mul_one]
    obtain ⟨wt',p1,p2,p3,p4,p5,p6,p7,p8⟩:=bkE_ok d n C (dist.set s.toNat (d:Int)) hl2 hC es wt (starts.length+M * cntN dist) (by omega) h.rows hes
    rw[p1,Option.bind_some]
    have hdl:=rw_lt hmem
    have hcnt:=h.cnt
    have hrow:=p5 d (Nat.le_refl _)
    have hge:∀ v,0≤v→0≤rd dist v→0≤rd (dist.set s.toNat (d:Int)) v:=fun v hv q=>by
     rw[hset v hv];split <;> omega
    refine ih k (i+1) _ wt' ⟨hl2,fun v h0 h1=>?_,fun v h0 h1 hv m hm hwm=>?_,fun v h0 h1 m hv m' hw'=>?_,fun j x hx=>?_,fun u u0 u1 m hu v c he=>?_,fun x hx=>?_,fun j hj x hx=>?_,?_,fun j=>?_⟩ (by rw[hrow];omega) (by omega) fun j hj hj2=>?_
    ·
     rw[hset v h0]
     by_cases e:v=s
     ·
      rw[if_pos e,e]
      exact .inr ⟨d,Nat.le_refl _,rfl,hw⟩
     ·
      rw[if_neg e]
      exact h.range v h0 h1
    ·
     rw[hset v h0] at hv
     by_cases e:v=s
     ·
      rw[if_pos e] at hv;omega
     ·
      rw[if_neg e] at hv
      exact h.none_ v h0 h1 hv m hm hwm
    ·
     rw[hset v h0] at hv
     by_cases e:v=s
     ·
      rw[if_pos e] at hv
      subst e
      by_cases q:m' < d
      ·
       exact absurd hw' (h.none_ v s0 s1 hsn m' q)
      ·
       omega
     ·
      rw[if_neg e] at hv
      exact h.least v h0 h1 m hv m' hw'
    ·
     rcases p7 j x hx with q|⟨e,hem,q,hj⟩
     ·
      exact h.sound j x q
     ·
      have hb:=hes e hem
      rw[← q]
      refine ⟨hb.1,hb.2.1,?_⟩
      have hje:j=d+e.2.1.toNat:=by omega
      rw[hje]
      exact Way.on hw ⟨s0,s1,es,e,ho1,hem,rfl,by omega⟩
    ·
     rw[hset u u0] at hu
     have hv0:0≤v:=by
      obtain ⟨_,_,es',e',q1,q2,q3,_⟩:=he
      obtain ⟨es2,q4,_,q5⟩:=ho u u0 u1
      rw[q1] at q4
      cases q4
      have:=(q5 e' q2).1
      omega
     by_cases e:u=s
     ·
      rw[if_pos e] at hu
      obtain ⟨_,_,es',e',q1,q2,q3,q4⟩:=he
      rw[e,ho1] at q1
      cases q1
      have hmd:m=d:=by omega
      have hce:e'.2.1.toNat=c:=by omega
      have:=p8 e' q2
      rw[q3,hce] at this
      rw[hmd]
      exact this
     ·
      rw[if_neg e] at hu
      rcases h.edges u u0 u1 m hu v c he with q|q
      ·
       exact .inl (hge v hv0 q)
      ·
       exact .inr (p6 _ _ q)
    ·
     rcases h.start x hx with q|q
     ·
      by_cases hx0:0≤x
      ·
       exact .inl (hge x hx0 q)
      ·
       left
       unfold rd at q ⊢
       have:x.toNat=0:=by omega
       rw[this] at q ⊢
       have:=hge 0 (Int.le_refl _) (by unfold rd;exact q)
       unfold rd at this
       exact this
     ·
      exact .inr (p6 _ _ q)
    ·
     rw[p5 j (by omega)] at hx
     have hx0:=(h.sound j x hx).1
     exact hge x hx0 (h.done j hj x hx)
    ·
     rw[hcn];omega
    ·
     have:=p4 j
     rw[hcn];omega
    ·
     rw[hrow] at hj2 ⊢
     have hx:rd (rw_ wt d) (j:Nat) ∈ rw_ wt d:=by simp[rd,List.getD_eq_getElem?_getD,List.getElem?_eq_getElem hj2]
     have hx0:=(h.sound d _ hx).1
     rw[hset _ hx0]
     by_cases e:rd (rw_ wt d) (j:Nat)=s
     ·
      rw[if_pos e];omega
     ·
      rw[if_neg e]
      by_cases e2:j=i
      ·
       subst e2;exact absurd hsd e
      ·
       exact hp j (by omega) hj2
  ·
   refine ⟨(dist,wt),?_,h.next ho fun x hx=>?_⟩
   ·
    rw[bkI,if_neg (show ¬ i < (rw_ wt d).length from hi)]
   ·
    obtain ⟨j,hj,rfl⟩:=List.getElem_of_mem hx
    have:=hp j (by omega) hj
    simpa [rd,List.getD_eq_getElem?_getD,List.getElem?_eq_getElem hj] using this
theorem bkD_ok (ho:Okay out n C M) (hC:C < bkLim) (hB:starts.length+M * n < bkLim) (hL:C * n+1 < bkLim):∀ (g k d:Nat) (dist:List Int) (wt:List (List Int)),BInv out n C M starts d dist wt→C * n+1 - d≤g→g+starts.length+M * n+1 < k →
  ∃ r,bkD out k d dist wt=some r∧r.length=n∧∀ v,0≤v→v < (n:Int)→IsLeast (WayO out n starts v) (rd r v):=by
 have fin:∀ (d:Nat) (dist:List Int) (wt:List (List Int)),BInv out n C M starts d dist wt→¬ d < wt.length→∀ v,0≤v→v < (n:Int)→IsLeast (WayO out n starts v) (rd dist v):=by
  intro d dist wt h hd
  have hall:∀ v m,WayO out n starts v m→0≤v→v < (n:Int)→0≤rd dist v:=by
   intro v m hw
   induction hw with
   | here hs =>
    intro _ _
    rcases h.start _ hs with q|q
    ·
     exact q
    ·
     exact h.done 0 (by have:=rw_lt q;omega) _ q
   | @on u v a c hu he ih =>
    intro _ _
    have:=ih he.1 he.2.1
    rcases h.range u he.1 he.2.1 with q|⟨m,_,q,_⟩
    ·
     omega
    ·
     rcases h.edges u he.1 he.2.1 m q v c he with q2|q2
     ·
      exact q2
     ·
      exact h.done (m+c) (by have:=rw_lt q2;omega) _ q2
  intro v h0 h1
  rcases h.range v h0 h1 with q|⟨m,_,q,hw⟩
  ·
   exact .inl ⟨q,fun m hm=>by have:=hall v m hm h0 h1;omega⟩
  ·
   exact .inr ⟨m,q,hw,fun m' hm'=>h.least v h0 h1 m q m' hm'⟩
 intro g
 induction g with
 | zero =>
  intro k d dist wt h hg hk
  obtain ⟨k,rfl⟩:∃ m,k=m+1:=⟨k - 1,by omega⟩
  have hc:=h.cnt
  have hle:C * cntN dist≤C * n:=Nat.mul_le_mul_left _ (by have:=cntN_le dist;have:=h.len;omega)
  have hd:¬ d < wt.length:=by omega
  exact ⟨dist,by rw[bkD,if_neg hd],h.len,fin d dist wt h hd⟩
 | succ g ih =>
  intro k d dist wt h hg hk
  obtain ⟨k,rfl⟩:∃ m,k=m+1:=⟨k - 1,by omega⟩
  by_cases hd:d < wt.length
  ·
   have hc:=h.cnt
   have hn:cntN dist≤n:=by have:=cntN_le dist;have:=h.len;omega
   have hle:C * cntN dist≤C * n:=Nat.mul_le_mul_left _ hn
   have hle2:M * cntN dist≤M * n:=Nat.mul_le_mul_left _ hn
   have hr:=h.rows d
   obtain ⟨p,hp,h'⟩:=bkI_ok ho hC hB (starts.length+M * n) k 0 dist wt h (by omega) (by omega) (fun j hj=>absurd hj (Nat.not_lt_zero _))
   obtain ⟨r,hr,hrl⟩:=ih k (d+1) p.1 p.2 h' (by omega) (by omega)
   exact ⟨r,by rw[bkD,if_pos hd,if_pos (by omega),hp,Option.bind_some];exact hr,hrl⟩
  ·
   exact ⟨dist,by rw[bkD,if_neg hd],h.len,fin d dist wt h hd⟩
theorem rd_rep (m:Nat) (x v:Int) (h0:0≤v) (h1:v < (m:Int)):rd (List.replicate m x) v=x:=by
 unfold rd
 rw[List.getD_eq_getElem?_getD,List.getElem?_replicate,if_pos (by omega)]
 rfl
theorem from_ok (ho:Okay out n C M) (hn:n≤1024) (hC:C < bkLim) (hB:starts.length+M * n < bkLim) (hL:C * n+1 < bkLim) (hs:∀ s ∈ starts,0≤s∧s < (n:Int)) :
  ∃ K r,(∀ k,K≤k→fromF out k n starts=some r)∧r.length=n∧∀ v,0≤v→v < (n:Int)→IsLeast (WayO out n starts v) (rd r v):=by
 have hc0:cntN (List.replicate n (-1))=0:=by
  unfold cntN
  rw[List.countP_eq_zero]
  intro x hx
  rw[List.eq_of_mem_replicate hx]
  simp
 have h:BInv out n C M starts 0 (List.replicate n (-1)) [starts]:=by
  refine ⟨by simp,fun v h0 h1 => .inl (rd_rep n (-1) v h0 h1),fun _ _ _ _ m hm=>absurd hm (Nat.not_lt_zero _),fun v h0 h1 m hm=>?_,fun j x hx=>?_,fun u u0 u1 m hm=>?_,fun s hs => .inr hs,fun j hj=>absurd hj (Nat.not_lt_zero _),by simp,fun j=>?_⟩
  ·
   rw[rd_rep n (-1) v h0 h1] at hm;omega
  ·
   have hj:=rw_lt hx
   have:j=0:=by simpa using hj
   subst this
   have hx:x ∈ starts:=hx
   exact ⟨(hs x hx).1,(hs x hx).2,Way.here hx⟩
  ·
   rw[rd_rep n (-1) u u0 u1] at hm;omega
  ·
   unfold rw_
   cases j with
   | zero=>simp
   | succ j=>simp
 have all:∀ k,C * n+1+starts.length+M * n+1 < k→∃ r,bkD out k 0 (List.replicate n (-1)) [starts]=some r∧r.length=n∧∀ v,0≤v→v < (n:Int)→IsLeast (WayO out n starts v) (rd r v):=fun k hk=>bkD_ok ho hC hB hL (C * n+1) k 0 _ _ h (by omega) hk
 obtain ⟨r,h1,h2,h3⟩:=all (C * n+1+starts.length+M * n+2) (by omega)
 refine ⟨C * n+1+starts.length+M * n+2,r,fun k hk=>?_,h2,h3⟩
 obtain ⟨r',h1',h2',h3'⟩:=all k (by omega)
 have:r'=r:=by
  refine List.ext_getElem (by omega) fun i hi hi'=>?_
  have:=(h3' (i:Nat) (by omega) (by omega)).uniq (h3 (i:Nat) (by omega) (by omega))
  simpa [rd,List.getD_eq_getElem?_getD,List.getElem?_eq_getElem hi,List.getElem?_eq_getElem hi'] using this
 subst this
 unfold fromF
 rw[if_pos ⟨by omega,by omega⟩,Int.toNat_natCast]
 exact h1'
end
section
variable {E:Int→Int→Nat→Prop} {S:Int→Prop} {n:Nat}
def dkRelax (b:Int):List (Int × Int)→List Int→List Int
 | [],far=>far
 | e :: r,far=>dkRelax b r (if rd far e.1 < 0∨b+e.2 < rd far e.1 then far.set e.1.toNat (b+e.2) else far)
structure DInv (E:Int→Int→Nat→Prop) (S:Int→Prop) (n:Nat) (far:List Int) (dn:Int→Bool):Prop where
 len:far.length=n
 range:∀ v,0≤v→v < (n:Int)→rd far v = -1∨∃ m:Nat,rd far v=(m:Int)∧Way E S v m
 pos:∀ v,0≤v→v < (n:Int)→dn v=true→0≤rd far v
 least:∀ v,0≤v→v < (n:Int)→dn v=true→∀ m:Nat,Way E S v m→rd far v≤m
 order:∀ v,0≤v→v < (n:Int)→dn v=true→∀ u,0≤u→u < (n:Int)→dn u=false→0≤rd far u→rd far v≤rd far u
 edges:∀ u,0≤u→u < (n:Int)→dn u=true→∀ v c,E u v c→0≤rd far v∧rd far v≤rd far u+c
 start:∀ s,S s→rd far s=0
def Bounded (E:Int→Int→Nat→Prop) (S:Int→Prop) (n:Nat):Prop:=(∀ u v c,E u v c→0≤u∧u < (n:Int)∧0≤v∧v < (n:Int)∧1≤c)∧∀ s,S s→0≤s∧s < (n:Int)
theorem Way.bounded (hb:Bounded E S n) {v:Int} {m:Nat} (h:Way E S v m):0≤v∧v < (n:Int):=by
 cases h with
 | here hs=>exact hb.2 _ hs
 | on hu he=>exact ⟨(hb.1 _ _ _ he).2.2.1,(hb.1 _ _ _ he).2.2.2.1⟩
theorem DInv.pick (hb:Bounded E S n) {far:List Int} {dn:Int→Bool} (h:DInv E S n far dn) {a:Int} (hm:∀ u,0≤u→u < (n:Int)→dn u=false→0≤rd far u→rd far a≤rd far u) :
  ∀ v m,Way E S v m→(dn v=true∧rd far v≤m)∨rd far a≤m:=by
 intro v m hw
 induction hw with
 | @here s hs =>
  have q:=hb.2 s hs
  have:=h.start s hs
  cases hd:dn s with
  | true=>left;exact ⟨rfl,by omega⟩
  | false=>right;have:=hm s q.1 q.2 hd (by omega);omega
 | @on u v a' c hu he ih =>
  have q:=hb.1 u v c he
  rcases ih with ⟨hd,hle⟩|hle
  ·
   have:=h.edges u q.1 q.2.1 hd v c he
   cases hd2:dn v with
   | true=>left;exact ⟨rfl,by omega⟩
   | false=>right;have:=hm v q.2.2.1 q.2.2.2.1 hd2 this.1;omega
  ·
   right;omega
theorem dkRelax_ok (b:Int) (hb0:0≤b):∀ (L:List (Int × Int)) (far:List Int),far.length=n→(∀ e ∈ L,0≤e.1∧e.1 < (n:Int)∧1≤e.2) →
  (dkRelax b L far).length=n∧(∀ v,0≤v→v < (n:Int)→(rd (dkRelax b L far) v=rd far v∨∃ e ∈ L,e.1=v∧rd (dkRelax b L far) v=b+e.2)∧(0≤rd far v→0≤rd (dkRelax b L far) v∧rd (dkRelax b L far) v≤rd far v)∧(rd far v≤b→0≤rd far v→rd (dkRelax b L far) v=rd far v)) ∧
   ∀ e ∈ L,0≤rd (dkRelax b L far) e.1∧rd (dkRelax b L far) e.1≤b+e.2:=by
 intro L
 induction L with
 | nil=>intro far hl _;exact ⟨hl,fun v _ _=>⟨.inl rfl,fun h=>⟨h,Int.le_refl _⟩,fun _ _=>rfl⟩,fun e h=>by cases h⟩
 | cons e r ih =>
  intro far hl he
  obtain ⟨e0,e1,e2⟩:=he e (by simp)
  simp only[dkRelax]
  generalize hf:(if rd far e.1 < 0∨b+e.2 < rd far e.1 then far.set e.1.toNat (b+e.2) else far)=f2
  have hl2:f2.length=n:=by rw[← hf];split <;> simp [hl]
  have hv:∀ v,0≤v→rd f2 v=if v=e.1∧(rd far e.1 < 0∨b+e.2 < rd far e.1) then b+e.2 else rd far v:=by
   intro v h0
   rw[← hf]
   by_cases hc:rd far e.1 < 0∨b+e.2 < rd far e.1
   ·
    rw[if_pos hc,rd_set far e.1 v _ e0 (by omega) h0]
    by_cases hq:v=e.1
    ·
     rw[if_pos hq,if_pos ⟨hq,hc⟩]
    ·
     rw[if_neg hq,if_neg (fun q=>hq q.1)]
   ·
    rw[if_neg hc,if_neg (fun q=>hc q.2)]
  obtain ⟨p1,p2,p3⟩:=ih f2 hl2 (fun x hx=>he x (by simp[hx]))
  refine ⟨p1,fun v h0 h1=>?_,fun x hx=>?_⟩
  ·
   obtain ⟨q1,q2,q3⟩:=p2 v h0 h1
   have hvv:=hv v h0
   by_cases hc:v=e.1∧(rd far e.1 < 0∨b+e.2 < rd far e.1)
   ·
    rw[if_pos hc] at hvv
    have hq:rd far v=rd far e.1:=by rw[hc.1]
    refine ⟨?_,fun h=>?_,fun h h'=>?_⟩
    ·
     rcases q1 with q|⟨x,hx,q⟩
     ·
      exact .inr ⟨e,by simp,hc.1.symm,by omega⟩
     ·
      exact .inr ⟨x,by simp[hx],q⟩
    ·
     have:=q2 (by omega)
     rcases hc.2 with h2|h2 <;> omega
    ·
     rcases hc.2 with h2|h2 <;> omega
   ·
    rw[if_neg hc] at hvv
    refine ⟨?_,fun h=>?_,fun h h'=>?_⟩
    ·
     rcases q1 with q|⟨x,hx,q⟩
     ·
      exact .inl (by omega)
     ·
      exact .inr ⟨x,by simp[hx],q⟩
    ·
     have:=q2 (by omega);omega
    ·
     have:=q3 (by omega) (by omega);omega
  ·
   rcases List.mem_cons.1 hx with rfl|hx
   ·
    have hvv:=hv x.1 e0
    obtain ⟨_,q2,_⟩:=p2 x.1 e0 e1
    by_cases hc:rd far x.1 < 0∨b+x.2 < rd far x.1
    ·
     rw[if_pos ⟨rfl,hc⟩] at hvv
     have:=q2 (by omega)
     omega
    ·
     rw[if_neg (fun q=>hc q.2)] at hvv
     have h3:0≤rd far x.1:=by
      rcases Int.lt_or_le (rd far x.1) 0 with h|h
      ·
       exact absurd (Or.inl h) hc
      ·
       exact h
     have h4:rd far x.1≤b+x.2:=by
      rcases Int.lt_or_le (b+x.2) (rd far x.1) with h|h
      ·
       exact absurd (Or.inr h) hc
      ·
       exact h
     have:=q2 (by omega)
     omega
   ·
    exact p3 x hx
theorem DInv.step (hb:Bounded E S n) {far:List Int} {dn:Int→Bool} (h:DInv E S n far dn) {a:Int} (a0:0≤a) (a1:a < (n:Int)) (ha:dn a=false) (hp:0≤rd far a) (hm:∀ u,0≤u→u < (n:Int)→dn u=false→0≤rd far u→rd far a≤rd far u)
  (L:List (Int × Int)) (hL:∀ v c,E a v c ↔ (v,(c:Int)) ∈ L) (hL2:∀ e ∈ L,0≤e.1∧e.1 < (n:Int)∧1≤e.2):DInv E S n (dkRelax (rd far a) L far) (fun v=>decide (v=a) || dn v):=by
 have hpick:=h.pick hb hm
 obtain ⟨p1,p2,p3⟩:=dkRelax_ok (rd far a) hp L far h.len hL2
 have old:∀ v,0≤v→v < (n:Int)→(v=a∨dn v=true)→rd (dkRelax (rd far a) L far) v=rd far v:=by
  intro v h0 h1 hv
  have:0≤rd far v∧rd far v≤rd far a:=by
   rcases hv with rfl|hv
   ·
    exact ⟨hp,Int.le_refl _⟩
   ·
    exact ⟨h.pos v h0 h1 hv,h.order v h0 h1 hv a a0 a1 ha hp⟩
  exact (p2 v h0 h1).2.2 this.2 this.1
 have hdn:∀ v,(decide (v=a) || dn v)=true→v=a∨dn v=true:=fun v hv=>by simpa using hv
 have hdn':∀ v,(decide (v=a) || dn v)=false→v≠a∧dn v=false:=fun v hv=>by simpa using hv
 have hwa:∃ m:Nat,rd far a=(m:Int)∧Way E S a m:=by
  rcases h.range a a0 a1 with q|q
  ·
   omega
  ·
   exact q
 refine ⟨p1,fun v h0 h1=>?_,fun v h0 h1 hv=>?_,fun v h0 h1 hv m hw=>?_,fun v h0 h1 hv u u0 u1 hu hup=>?_,fun u u0 u1 hu v c he=>?_,fun s hs=>?_⟩
 ·
  rcases (p2 v h0 h1).1 with q|⟨e,he,q1,q2⟩
  ·
   rw[q];exact h.range v h0 h1
  ·
   right
   obtain ⟨m,hm,hw⟩:=hwa
   have hpos:=(hL2 e he).2.2
   refine ⟨m+e.2.toNat,by omega,Way.on hw ((hL _ _).2 ?_)⟩
   rw[← q1,show ((e.2.toNat:Nat):Int)=e.2 by omega]
   exact he
 ·
  have hv:=hdn v hv
  rw[old v h0 h1 hv]
  rcases hv with rfl|hv
  ·
   exact hp
  ·
   exact h.pos v h0 h1 hv
 ·
  have hv:=hdn v hv
  rw[old v h0 h1 hv]
  rcases hv with rfl|hv
  ·
   rcases hpick v m hw with q|q
   ·
    exact q.2
   ·
    exact q
  ·
   exact h.least v h0 h1 hv m hw
 ·
  have hv:=hdn v hv
  obtain ⟨hu1,hu2⟩:=hdn' u hu
  rw[old v h0 h1 hv]
  have hva:rd far v≤rd far a:=by
   rcases hv with rfl|hv
   ·
    exact Int.le_refl _
   ·
    exact h.order v h0 h1 hv a a0 a1 ha hp
  rcases (p2 u u0 u1).1 with q|⟨e,he,q1,q2⟩
  ·
   rw[q] at hup ⊢
   have:=hm u u0 u1 hu2 hup
   omega
  ·
   have:=(hL2 e he).2.2
   omega
 ·
  have hu:=hdn u hu
  rw[old u u0 u1 hu]
  have hv:=hb.1 u v c he
  rcases hu with rfl|hu
  ·
   exact p3 (v,(c:Int)) ((hL v c).1 he)
  ·
   have q:=h.edges u u0 u1 hu v c he
   have:=(p2 v hv.2.2.1 hv.2.2.2.1).2.1 q.1
   omega
 ·
  have hs':=hb.2 s hs
  have q:=h.start s hs
  have:=(p2 s hs'.1 hs'.2).2.1 (by omega)
  omega
theorem DInv.fin (hb:Bounded E S n) {far:List Int} {dn:Int→Bool} (h:DInv E S n far dn) (hn:∀ v,0≤v→v < (n:Int)→dn v=false→rd far v < 0):∀ v,0≤v→v < (n:Int)→IsLeast (Way E S v) (rd far v):=by
 have hall:∀ v m,Way E S v m→dn v=true:=by
  intro v m hw
  have hv:=hw.bounded hb
  cases hd:dn v with
  | true=>rfl
  | false =>
   exfalso
   have hneg:=hn v hv.1 hv.2 hd
   induction hw with
   | here hs=>have:=h.start _ hs;omega
   | @on u v a c hu he ih =>
    have q:=hb.1 u v c he
    cases hd2:dn u with
    | true=>have:=h.edges u q.1 q.2.1 hd2 v c he;omega
    | false=>exact ih ⟨q.1,q.2.1⟩ hd2 (hn u q.1 q.2.1 hd2)
 intro v h0 h1
 rcases h.range v h0 h1 with q|⟨m,q,hw⟩
 ·
  exact .inl ⟨q,fun m hw=>by have:=h.pos v h0 h1 (hall v m hw);omega⟩
 ·
  exact .inr ⟨m,q,hw,fun m' hw'=>by have:=h.least v h0 h1 (hall v m' hw') m' hw';omega⟩
theorem DInv.init (hb:Bounded E S n) (s:Int) (hS:∀ x,S x ↔ x=s):DInv E S n ((List.replicate n (-1)).set s.toNat 0) (fun _=>false):=by
 have hs:=hb.2 s ((hS s).2 rfl)
 have hv:∀ v,0≤v→v < (n:Int)→rd ((List.replicate n (-1)).set s.toNat 0) v=if v=s then 0 else -1:=fun v h0 h1=>by
  rw[rd_set _ s v _ hs.1 (by simpa using hs.2) h0,rd_rep n (-1) v h0 h1]
 refine ⟨by simp,fun v h0 h1=>?_,(fun _ _ _ h=>by cases h),(fun _ _ _ h=>by cases h),(fun _ _ _ h=>by cases h),(fun _ _ _ h=>by cases h),fun x hx=>?_⟩
 ·
  rw[hv v h0 h1]
  by_cases e:v=s
  ·
   rw[if_pos e,e];exact .inr ⟨0,rfl,Way.here ((hS s).2 rfl)⟩
  ·
   rw[if_neg e];exact .inl rfl
 ·
  have:=(hS x).1 hx
  subst this
  rw[hv x hs.1 hs.2,if_pos rfl]
end
section
variable {E:Int→Int→Nat→Prop} {S:Int→Prop} {n:Nat}
def bfRelax (b:Int):List Int→List Int→List Int→List Int × List Int
 | [],far,q=>(far,q)
 | v :: r,far,q=>if rd far v < 0 then bfRelax b r (far.set v.toNat (b+1)) (q ++ [v]) else bfRelax b r far q
theorem bfRelax_ok (b:Int) (hb:0≤b):∀ (L far q:List Int),far.length=n→(∀ v ∈ L,0≤v∧v < (n:Int))→(∀ v ∈ q,0≤v∧v < (n:Int)∧0≤rd far v∧rd far v≤b+1)→(∀ v,0≤v→v < (n:Int)→v ∉ q→rd far v = -1)→q.Nodup →
  ∃ add,(bfRelax b L far q).2=q ++ add∧(bfRelax b L far q).1.length=n∧(∀ v ∈ q,rd (bfRelax b L far q).1 v=rd far v)∧(∀ v ∈ add,0≤v∧v < (n:Int)∧v ∈ L∧rd (bfRelax b L far q).1 v=b+1) ∧
   (∀ v,0≤v→v < (n:Int)→v ∉ q ++ add→rd (bfRelax b L far q).1 v = -1)∧(∀ v ∈ L,0≤rd (bfRelax b L far q).1 v∧rd (bfRelax b L far q).1 v≤b+1)∧(q ++ add).Nodup:=by
 intro L
 induction L with
 | nil =>
  intro far q hl hL hq hn hd
  exact ⟨[],by simp[bfRelax],hl,fun _ _=>rfl,(fun v h=>by simp at h),(fun v h0 h1 hv=>hn v h0 h1 (by simpa using hv)),(fun v h=>by simp at h),by simpa using hd⟩
 | cons x L ih =>
  intro far q hl hL hq hn hd
  obtain ⟨x0,x1⟩:=hL x (by simp)
  simp only[bfRelax]
  by_cases hc:rd far x < 0
  ·
   rw[if_pos hc]
   have hxq:x ∉ q:=fun h=>by have:=hq x h;omega
   have hset:∀ v,0≤v→rd (far.set x.toNat (b+1)) v=if v=x then b+1 else rd far v:=fun v hv=>rd_set far x v _ x0 (by omega) hv
   have hne:∀ v ∈ q,rd (far.set x.toNat (b+1)) v=rd far v:=fun v hv=>by
    rw[hset v (hq v hv).1,if_neg (by rintro rfl;exact hxq hv)]
   obtain ⟨add,p1,p2,p3,p4,p5,p6,p7⟩:=ih (far.set x.toNat (b+1)) (q ++ [x]) (by simpa using hl) (fun v hv=>hL v (by simp[hv])) (fun v hv=>by
    rcases List.mem_append.1 hv with hv|hv
    ·
     have:=hq v hv
     rw[hne v hv];exact this
    ·
     obtain rfl:v=x:=by simpa using hv
     rw[hset v x0,if_pos rfl]
     exact ⟨x0,x1,by omega,Int.le_refl _⟩) (fun v h0 h1 hv=>by
    rw[hset v h0,if_neg (fun e=>hv (by simp[e]))]
    exact hn v h0 h1 (fun e=>hv (by simp[e]))) (by
    rw[List.nodup_append]
    exact ⟨hd,by simp,fun a ha c hc=>by simp at hc;subst hc;exact (by rintro rfl;exact hxq ha)⟩)
   refine ⟨x :: add,by rw[p1];simp,p2,fun v hv=>?_,fun v hv=>?_,fun v h0 h1 hv=>?_,fun v hv=>?_,by simpa using p7⟩
   ·
    rw[p3 v (by simp[hv]),hne v hv]
   ·
    rcases List.mem_cons.1 hv with rfl|hv
    ·
     refine ⟨x0,x1,by simp,?_⟩
     rw[p3 v (by simp),hset v x0,if_pos rfl]
    ·
     have:=p4 v hv
     exact ⟨this.1,this.2.1,by simp[this.2.2.1],this.2.2.2⟩
   ·
    exact p5 v h0 h1 (by simpa using hv)
   ·
    rcases List.mem_cons.1 hv with rfl|hv
    ·
     rw[p3 v (by simp),hset v x0,if_pos rfl];omega
    ·
     exact p6 v hv
  ·
   rw[if_neg hc]
   obtain ⟨add,p1,p2,p3,p4,p5,p6,p7⟩:=ih far q hl (fun v hv=>hL v (by simp[hv])) hq hn hd
   refine ⟨add,p1,p2,p3,fun v hv=>?_,p5,fun v hv=>?_,p7⟩
   ·
    have:=p4 v hv
    exact ⟨this.1,this.2.1,by simp[this.2.2.1],this.2.2.2⟩
   ·
    rcases List.mem_cons.1 hv with rfl|hv
    ·
     have hxq:v ∈ q:=by
      by_cases h:v ∈ q
      ·
       exact h
      ·
       have:=hn v x0 x1 h;omega
     have:=hq v hxq
     rw[p3 v hxq]
     omega
    ·
     exact p6 v hv
structure QInv (E:Int→Int→Nat→Prop) (S:Int→Prop) (n:Nat) (far:List Int) (pre todo:List Int):Prop where
 len:far.length=n
 inn:∀ v,v ∈ pre ++ todo→0≤v∧v < (n:Int)∧∃ m:Nat,rd far v=(m:Int)∧Way E S v m
 out:∀ v,0≤v→v < (n:Int)→v ∉ pre ++ todo→rd far v = -1
 sorted:(pre ++ todo).Pairwise (fun a b=>rd far a≤rd far b)
 near:∀ u r,todo=u :: r→∀ v ∈ todo,rd far v≤rd far u+1
 edges:∀ u ∈ pre,∀ v c,E u v c→0≤rd far v∧rd far v≤rd far u+1
 start:∀ s,S s→rd far s=0
 nodup:(pre ++ todo).Nodup
theorem QInv.step (hb:Bounded E S n) {far pre todo:List Int} {u:Int} (h:QInv E S n far pre (u :: todo)) (L:List Int) (hL:∀ v c,E u v c ↔ c=1∧v ∈ L) (hL2:∀ v ∈ L,0≤v∧v < (n:Int)) :
  ∃ todo',(bfRelax (rd far u) L far (pre ++ u :: todo)).2=(pre ++ [u]) ++ todo'∧QInv E S n (bfRelax (rd far u) L far (pre ++ u :: todo)).1 (pre ++ [u]) todo':=by
 obtain ⟨u0,u1,mu,hmu,hwu⟩:=h.inn u (by simp)
 have hsort:=h.sorted
 rw[List.pairwise_append] at hsort
 obtain ⟨s1,s2,s3⟩:=hsort
 have hbound:∀ v ∈ pre ++ u :: todo,0≤v∧v < (n:Int)∧0≤rd far v∧rd far v≤rd far u+1:=by
  intro v hv
  obtain ⟨v0,v1,mv,hmv,_⟩:=h.inn v hv
  refine ⟨v0,v1,by omega,?_⟩
  rcases List.mem_append.1 hv with hv|hv
  ·
   have:=s3 v hv u (by simp);omega
  ·
   exact h.near u todo rfl v hv
 obtain ⟨add,p1,p2,p3,p4,p5,p6,p7⟩:=bfRelax_ok (rd far u) (by omega) L far (pre ++ u :: todo) h.len hL2 hbound h.out h.nodup
 have hq:pre ++ u :: todo ++ add=pre ++ [u] ++ (todo ++ add):=by simp
 refine ⟨todo ++ add,by rw[p1,hq],p2,fun v hv=>?_,fun v h0 h1 hv=>?_,?_,fun x r hx v hv=>?_,fun x hx v c he=>?_,fun s hs=>?_,by rw[← hq];exact p7⟩
 ·
  rw[← hq] at hv
  rcases List.mem_append.1 hv with hv|hv
  ·
   obtain ⟨v0,v1,mv,hmv,hw⟩:=h.inn v hv
   exact ⟨v0,v1,mv,by rw[p3 v hv];exact hmv,hw⟩
  ·
   obtain ⟨v0,v1,hvL,hvf⟩:=p4 v hv
   exact ⟨v0,v1,mu+1,by rw[hvf,hmu];rfl,Way.on hwu ((hL v 1).2 ⟨rfl,hvL⟩)⟩
 ·
  exact p5 v h0 h1 (by rw[hq];exact hv)
 ·
  rw[← hq,List.pairwise_append]
  refine ⟨?_,?_,fun a ha c hc=>?_⟩
  ·
   exact List.Pairwise.imp_of_mem (fun {a c} ha hc hle=>by rw[p3 a ha,p3 c hc];exact hle) h.sorted
  ·
   refine List.Pairwise.imp_of_mem (R:=fun _ _=>True) (fun {a c} ha hc _=>?_) (List.pairwise_of_forall (fun _ _=>trivial))
   rw[(p4 a ha).2.2.2,(p4 c hc).2.2.2]
   exact Int.le_refl _
  ·
   rw[p3 a ha,(p4 c hc).2.2.2]
   exact (hbound a ha).2.2.2
 ·
  have hxge:rd far u≤rd (bfRelax (rd far u) L far (pre ++ u :: todo)).1 x:=by
   have hxm:x ∈ todo ++ add:=by rw[hx];simp
   rcases List.mem_append.1 hxm with hxm|hxm
   ·
    rw[p3 x (by simp[hxm])]
    rw[List.pairwise_cons] at s2
    exact s2.1 x hxm
   ·
    rw[(p4 x hxm).2.2.2];omega
  have hvle:rd (bfRelax (rd far u) L far (pre ++ u :: todo)).1 v≤rd far u+1:=by
   rcases List.mem_append.1 hv with hv|hv
   ·
    rw[p3 v (by simp[hv])]
    exact (hbound v (by simp[hv])).2.2.2
   ·
    rw[(p4 v hv).2.2.2]
    exact Int.le_refl _
  omega
 ·
  rcases List.mem_append.1 hx with hx|hx
  ·
   have q:=h.edges x hx v c he
   have hvb:=hb.1 x v c he
   have hvm:v ∈ pre ++ u :: todo:=by
    by_cases hm:v ∈ pre ++ u :: todo
    ·
     exact hm
    ·
     have:=h.out v hvb.2.2.1 hvb.2.2.2.1 hm;omega
   rw[p3 v hvm,p3 x (by simp[hx])]
   exact q
  ·
   obtain rfl:x=u:=by simpa using hx
   have:=p6 v ((hL v c).1 he).2
   rw[p3 x (by simp)]
   exact this
 ·
  have q:=h.start s hs
  have hsb:=hb.2 s hs
  have hsm:s ∈ pre ++ u :: todo:=by
   by_cases hm:s ∈ pre ++ u :: todo
   ·
    exact hm
   ·
    have:=h.out s hsb.1 hsb.2 hm;omega
  rw[p3 s hsm]
  exact q
theorem QInv.fin (hb:Bounded E S n) {far pre:List Int} (h:QInv E S n far pre []):∀ v,0≤v→v < (n:Int)→IsLeast (Way E S v) (rd far v):=by
 have hm:∀ v,0≤v→v < (n:Int)→v ∈ pre∨rd far v = -1:=fun v h0 h1=>by
  by_cases q:v ∈ pre
  ·
   exact .inl q
  ·
   exact .inr (h.out v h0 h1 (by simpa using q))
 have hall:∀ v m,Way E S v m→0≤rd far v∧rd far v≤m:=by
  intro v m hw
  induction hw with
  | here hs=>have:=h.start _ hs;omega
  | @on u v a c hu he ih =>
   have q:=hb.1 u v c he
   rcases hm u q.1 q.2.1 with hp|hp
   ·
    have:=h.edges u hp v c he;omega
   ·
    omega
 intro v h0 h1
 rcases hm v h0 h1 with q|q
 ·
  obtain ⟨_,_,m,hm,hw⟩:=h.inn v (by simpa using q)
  exact .inr ⟨m,hm,hw,fun m' hw'=>by have:=hall v m' hw';omega⟩
 ·
  exact .inl ⟨q,fun m hw=>by have:=hall v m hw;omega⟩
theorem QInv.init (hb:Bounded E S n) (s:Int) (hS:∀ x,S x ↔ x=s):QInv E S n ((List.replicate n (-1)).set s.toNat 0) [] [s]:=by
 have hs:=hb.2 s ((hS s).2 rfl)
 have hv:∀ v,0≤v→v < (n:Int)→rd ((List.replicate n (-1)).set s.toNat 0) v=if v=s then 0 else -1:=fun v h0 h1=>by
  rw[rd_set _ s v _ hs.1 (by simpa using hs.2) h0,rd_rep n (-1) v h0 h1]
 refine ⟨by simp,fun v hm=>?_,fun v h0 h1 hm=>?_,by simp,fun u r e v hm=>?_,fun u hu=>by simp at hu,fun x hx=>?_,by simp⟩
 ·
  obtain rfl:v=s:=by simpa using hm
  exact ⟨hs.1,hs.2,0,by rw[hv v hs.1 hs.2,if_pos rfl];rfl,Way.here ((hS v).2 rfl)⟩
 ·
  rw[hv v h0 h1,if_neg (fun e=>hm (by simp[e]))]
 ·
  obtain ⟨rfl,rfl⟩:s=u∧r=[]:=by simpa using e
  obtain rfl:v=s:=by simpa using hm
  omega
 ·
  have:=(hS x).1 hx
  subst this
  rw[hv x hs.1 hs.2,if_pos rfl]
structure RInv (E:Int→Int→Nat→Prop) (S:Int→Prop) (pre todo:List Int):Prop where
 inn:∀ v,v ∈ pre ++ todo→∃ m:Nat,Way E S v m
 edges:∀ u ∈ pre,∀ v c,E u v c→v ∈ pre ++ todo
 start:∀ s,S s→s ∈ pre ++ todo
 nodup:(pre ++ todo).Nodup
def rcRelax:List Int→List Int→List Int
 | [],q=>q
 | v :: r,q=>rcRelax r (if v ∈ q then q else q ++ [v])
theorem rcRelax_ok:∀ (L q:List Int),q.Nodup→∃ add,rcRelax L q=q ++ add∧(∀ v ∈ add,v ∈ L)∧(∀ v ∈ L,v ∈ q ++ add)∧(q ++ add).Nodup:=by
 intro L
 induction L with
 | nil=>intro q hd;exact ⟨[],by simp[rcRelax],(fun v h=>by simp at h),(fun v h=>by simp at h),by simpa using hd⟩
 | cons x L ih =>
  intro q hd
  simp only[rcRelax]
  by_cases hx:x ∈ q
  ·
   rw[if_pos hx]
   obtain ⟨add,p1,p2,p3,p4⟩:=ih q hd
   refine ⟨add,p1,fun v hv=>by simp[p2 v hv],fun v hv=>?_,p4⟩
   rcases List.mem_cons.1 hv with rfl|hv
   ·
    simp[hx]
   ·
    exact p3 v hv
  ·
   rw[if_neg hx]
   obtain ⟨add,p1,p2,p3,p4⟩:=ih (q ++ [x]) (by
    rw[List.nodup_append]
    exact ⟨hd,by simp,fun a ha c hc=>by simp at hc;subst hc;rintro rfl;exact hx ha⟩)
   refine ⟨x :: add,by rw[p1];simp,fun v hv=>?_,fun v hv=>?_,by simpa using p4⟩
   ·
    rcases List.mem_cons.1 hv with rfl|hv
    ·
     simp
    ·
     simp[p2 v hv]
   ·
    rcases List.mem_cons.1 hv with rfl|hv
    ·
     simp
    ·
     have:=p3 v hv
     simpa using this
theorem RInv.step {pre todo:List Int} {u:Int} (h:RInv E S pre (u :: todo)) (L:List Int) (hL:∀ v,(∃ c,E u v c) ↔ v ∈ L) :
  ∃ todo',rcRelax L (pre ++ u :: todo)=(pre ++ [u]) ++ todo'∧RInv E S (pre ++ [u]) todo':=by
 obtain ⟨add,p1,p2,p3,p4⟩:=rcRelax_ok L (pre ++ u :: todo) h.nodup
 have hq:pre ++ u :: todo ++ add=pre ++ [u] ++ (todo ++ add):=by simp
 rw[hq] at p1 p3 p4
 refine ⟨todo ++ add,p1,fun v hv=>?_,fun x hx v c he=>?_,fun s hs=>?_,p4⟩
 ·
  rw[← hq] at hv
  rcases List.mem_append.1 hv with hv|hv
  ·
   exact h.inn v hv
  ·
   obtain ⟨m,hw⟩:=h.inn u (by simp)
   obtain ⟨c,he⟩:=(hL v).2 (p2 v hv)
   exact ⟨m+c,Way.on hw he⟩
 ·
  rw[← hq]
  rcases List.mem_append.1 hx with hx|hx
  ·
   exact List.mem_append_left _ (h.edges x hx v c he)
  ·
   obtain rfl:x=u:=by simpa using hx
   rw[hq]
   exact p3 v ((hL v).1 ⟨c,he⟩)
 ·
  rw[← hq]
  exact List.mem_append_left _ (h.start s hs)
theorem RInv.fin {pre:List Int} (h:RInv E S pre []):pre.Nodup∧∀ v,v ∈ pre ↔ ∃ m,Way E S v m:=by
 have hall:∀ v m,Way E S v m→v ∈ pre:=by
  intro v m hw
  induction hw with
  | here hs=>simpa using h.start _ hs
  | on hu he ih=>simpa using h.edges _ ih _ _ he
 exact ⟨by simpa using h.nodup,fun v=>⟨fun hv=>h.inn v (by simpa using hv),fun ⟨m,hw⟩=>hall v m hw⟩⟩
end
theorem Way.trans_ {E:Int→Int→Nat→Prop} {a b:Int} {n:Nat} {S:Int→Prop} (h:Way E (fun x=>x=a) b n):∀ {m:Nat},Way E S a m→Way E S b (m+n):=by
 induction h with
 | here hs=>intro m hw;subst hs;simpa using hw
 | on hu he ih=>intro m hw;rw[← Nat.add_assoc];exact Way.on (ih hw) he
theorem Way.back_ {E:Int→Int→Nat→Prop} (hs:∀ u v c,E u v c→E v u c) {a b:Int} {n:Nat} (h:Way E (fun x=>x=a) b n):Way E (fun x=>x=b) a n:=by
 induction h with
 | here h=>subst h;exact Way.here rfl
 | @on u v m c hu he ih =>
  have h1:Way E (fun x=>x=v) u c:=by
   have:=Way.on (Way.here (E:=E) (S:=fun x=>x=v) rfl) (hs _ _ _ he)
   simpa using this
  have:=Way.trans_ ih h1
  rwa [Nat.add_comm] at this
theorem Way.back_iff {E:Int→Int→Nat→Prop} (hs:∀ u v c,E u v c→E v u c) {a b:Int} {n:Nat}:Way E (fun x=>x=a) b n ↔ Way E (fun x=>x=b) a n:=⟨Way.back_ hs,Way.back_ hs⟩
theorem Way.map_ {E E':Int→Int→Nat→Prop} {S S':Int→Prop} (f:Int→Int) (he:∀ u v c,E u v c→E' (f u) (f v) c) (hs:∀ s,S s→S' (f s)) {v:Int} {n:Nat} (h:Way E S v n):Way E' S' (f v) n:=by
 induction h with
 | here h=>exact Way.here (hs _ h)
 | on hu h ih=>exact Way.on ih (he _ _ _ h)
theorem Way.imp_ {E E':Int→Int→Nat→Prop} {S S':Int→Prop} (he:∀ u v c,E u v c→E' u v c) (hs:∀ s,S s→S' s) {v:Int} {n:Nat} (h:Way E S v n):Way E' S' v n:=Way.map_ (fun x=>x) he hs h
def onB (dist:List Int) (s:Int) (e:Edg):Bool:=decide (0≤rd dist e.1) && decide (rd dist e.1+e.2.1=rd dist s)
def edgOk (dist:List Int) (e:Edg):Bool:=decide (0≤e.1) && decide (e.1 < (dist.length:Int)) && (decide (-1099511627776≤e.2.1) && decide (e.2.1≤1099511627776)) && (decide (-1099511627776≤rd dist e.1) && decide (rd dist e.1≤1099511627776))
def bestF (out:Int→Option (List Edg)) (dist:List Int) (s:Int):Option (List Edg):=if 0≤s∧s < (dist.length:Int) then (out s).bind fun es=>if es.length≤1048576∧es.all (edgOk dist)=true then some (es.filter (onB dist s)) else none else none
theorem bestF_up {o1 o2:Int→Option (List Edg)} (ho:∀ s r,o1 s=some r→o2 s=some r) (dist:List Int) (s:Int) (r:List Edg) (h:bestF o1 dist s=some r):bestF o2 dist s=some r:=by
 unfold bestF at h ⊢
 split at h
 ·
  rename_i hs
  rw[if_pos hs]
  obtain ⟨es,h1,h2⟩:=Option.bind_eq_some_iff.mp h
  rw[ho s es h1]
  exact h2
 ·
  cases h
end Go.Proofs.Ytihieplobgehaaa.H
