import Derived.Test.YtihieplobgehaaaC2zx0
import Derived.Test.YtihieplobgehaaaC2zx10
import Derived.Test.YtihieplobgehaaaC2zx11
import Derived.Test.YtihieplobgehaaaC2zx12
import Derived.Test.YtihieplobgehaaaC2zx13
import Derived.Test.YtihieplobgehaaaC2zx14
import Derived.Test.YtihieplobgehaaaC2zAl
namespace Go.Proofs.Ytihieplobgehaaa.C2
open Go.RowKit Go.Proofs.YtihieplobgehaaaW.PrintWords Go.Proofs.YtihieplobgehaaaW.PrintLast Go.Proofs.YtihieplobgehaaaW.PrintMore Go.Proofs.Ytihieplobgehaaa.H
attribute [local go_sem] max2_int min2_int max_two min_two max_three min_three max_four min_four
set_option linter.unusedVariables false
set_option linter.unusedSimpArgs false
def EOutInv (B bo:Nat) (s:List Edg) (W:World) (O:Nat→Prop):Prop :=
 ∃ v,W.heap[bo]? = some (.cells #[v] 80 (0,0))∧B≤bo∧Kd.S EdgK 76 W B (fun k=>k≠bo) v s∧O=(fun k=>k=bo∨some k=v.ownBlock)
theorem EOutInv.lt {B bo:Nat} (s:List Edg) (W:World) (O:Nat→Prop) (h:EOutInv B bo s W O):∀ k,O k→B≤k∧k < W.heap.size:=by
 obtain ⟨v,hb,hB,hS,rfl⟩:=h
 rintro k (rfl|hk)
 ·
  exact ⟨hB,blk_lt hb⟩
 ·
  exact ⟨Kd.S_base hS k hk.symm,Kd.S_lt hS k hk.symm⟩
theorem EOutInv.below {B bo:Nat} {s:List Edg} {W W1:World} {O:Nat→Prop} (h:EOutInv B bo s W O) (hb:Below W.heap.size W W1):EOutInv B bo s W1 O:=by
 obtain ⟨v,h1,h2,h3,h4⟩:=h
 exact ⟨v,bb' h1 hb,h2,Kd.S_below h3 hb,h4⟩
structure PtyFr (pt pp ps:Nat) (timed:Bool) (A0:Option Addr) (c0:Nat) (l0:List Int) (m:Int) (A1:Option Addr) (c1:Nat) (ov:List Bool) (tr:Bool) (W:World) (O:Nat→Prop):Prop where
 bt:W.heap[pt]? = some (.cells #[.bool timed] 4 (0,0))
 bp:W.heap[pp]? = some (.cells #[.slice A0 l0.length c0, .int .i64 m] 28 (0,0))
 bs:W.heap[ps]? = some (.cells #[.slice A1 ov.length c1, .bool tr] 54 (0,0))
 nt:¬ O pt
 np:¬ O pp
 ns:¬ O ps
 f0:Kd.F (Kd.int .i64) W (fun k=>¬ O k) A0 l0.length l0
 f1:Kd.F Kd.bool W (fun k=>¬ O k) A1 ov.length ov
 h0:l0.length≤c0
 h1:ov.length≤c1
section
variable {pt pp ps:Nat} {timed:Bool} {A0:Option Addr} {c0:Nat} {l0:List Int} {m:Int} {A1:Option Addr} {c1:Nat} {ov:List Bool} {tr:Bool}
theorem PtyFr.turn {w W:World} {O O':Nat→Prop} (h:PtyFr pt pp ps timed A0 c0 l0 m A1 c1 ov tr w O) (hk:Kept w W O) (ho:∀ k,O' k→O k∨w.heap.size≤k):PtyFr pt pp ps timed A0 c0 l0 m A1 c1 ov tr W O':=by
 have lt:∀ {p:Nat} {o:Obj},w.heap[p]? = some o→¬ O p→¬ O' p:=fun hp hn h=>by
  rcases ho _ h with q|q
  ·
   exact hn q
  ·
   have:=blk_lt hp;omega
 exact ⟨blk_kept h.bt hk h.nt,blk_kept h.bp hk h.np,blk_kept h.bs hk h.ns,lt h.bt h.nt,lt h.bp h.np,lt h.bs h.ns,
  Kd.F_mono (Kd.F_kept (Kd.F_bound h.f0) hk (fun _ q=>q.1)) (fun k q q2=>by rcases ho k q2 with q3|q3;exact q.1 q3;omega),
  Kd.F_mono (Kd.F_kept (Kd.F_bound h.f1) hk (fun _ q=>q.1)) (fun k q q2=>by rcases ho k q2 with q3|q3;exact q.1 q3;omega),h.h0,h.h1⟩
end
def ptyInv (B bo pt pp ps:Nat) (timed:Bool) (A0:Option Addr) (c0:Nat) (l0:List Int) (m:Int) (A1:Option Addr) (c1:Nat) (ov:List Bool) (tr:Bool) (s:List Edg) (W:World) (O:Nat→Prop):Prop:=EOutInv B bo s W O∧PtyFr pt pp ps timed A0 c0 l0 m A1 c1 ov tr W O
def ptyCost (k:Nat) (timed:Bool) (l0 l:List Int):Option Int:=if timed=true then impl_slowest.f k l0 l else some 1
def ptyStep (k:Nat) (timed:Bool) (l0:List Int) (ov:List Bool) (tr:Bool) (s:List Edg) (l:List Int):Option (List Edg) :=
 (ptyCost k timed l0 l).bind fun c=>(impl_State_moved.f k ov tr l).bind fun mm=>(impl_State_code.f k mm.1 mm.2).bind fun cd=>if s.length < 1099511627776 then some (s ++ [(cd,c,l)]) else none
theorem M_edge {W:World} {B:Nat} {okp:Nat→Prop} {x c:Int} {v:Value} {l:List Int} (h:(Kd.int .i64).R 3 W B okp v l):EdgK.M W B okp (x,c,l) [.int .i64 x, .int .i64 c,v]:=⟨[.int .i64 x],_,rfl,rfl,[.int .i64 c],_,rfl,rfl,v,rfl,h⟩
set_option maxHeartbeats 4000000 in
set_option maxRecDepth 100000 in
theorem party1_each (k:Nat) (B bo pt pp ps:Nat) (timed:Bool) (A0:Option Addr) (c0:Nat) (l0:List Int) (m:Int) (A1:Option Addr) (c1:Nat) (ov:List Bool) (tr:Bool):EachOk B 56 #[.pointer (some ⟨pt,0,none⟩), .pointer (some ⟨pp,0,none⟩), .pointer (some ⟨bo,0,none⟩), .pointer (some ⟨ps,0,none⟩)] (ptyInv B bo pt pp ps timed A0 c0 l0 m A1 c1 ov tr) (ptyStep k timed l0 ov tr):=by
 intro s s' O W0 W vl l hinv hbel hR hs;obtain ⟨hout,hfr⟩:=hinv
 have hfr:=hfr.turn (O':=O) (Kept.of_below hbel O) (fun _ h => .inl h)
 obtain ⟨Al,cl,rfl,hlc,hC⟩:=Kd.R_reads hR
 unfold ptyStep at hs
 obtain ⟨c,hcost,hs⟩:=Option.bind_eq_some_iff.mp hs
 obtain ⟨⟨mo,mt⟩,hmv,hs⟩:=Option.bind_eq_some_iff.mp hs
 obtain ⟨cd,hcd,hs⟩:=Option.bind_eq_some_iff.mp hs
 dsimp only at hmv hcd
 have hu0:=Try.underlying28
 have hu1:=Try.underlying54
 have hue:=Try.underlying76
 have hinfoE:=am' (show (Try.prog.info? 76).map (fun i=>(i.zero,i.size,i.bytes))=some (some (.agg #[.int .i64 0, .int .i64 0, .slice none 0 0]),3,40) by kernel_rfl)
 obtain ⟨v,hbo,hB,hS,rfl⟩:=hout
 obtain ⟨hlim,rfl⟩:s.length < 1099511627776∧s ++ [(cd,c,l)]=s':=by
  by_cases h:s.length < 1099511627776
  ·
   rw[if_pos h] at hs;exact ⟨h,os' hs⟩
  ·
   rw[if_neg h] at hs;cases hs
 have HM:=am' (fun (W1:World) (hb:Below W.heap.size W W1)=>impl_State_moved.calls k A1 c1 ov tr Al cl l mo mt W1 (cb' (Kd.F_now hfr.f1) hb) hfr.h1 (cb' hC hb) hlc hmv)
 have HC:=am' (fun (W1:World) (A2:Option Addr) (c2:Nat) (hc:Kd.C Kd.bool W1 A2 mo.length mo) (hl:mo.length≤c2)=>impl_State_code.calls k A2 c2 mo mt cd W1 hc hl hcd)
 have HSL:=am' (fun (ht:timed=true)=>impl_slowest.calls k A0 c0 l0 Al cl l c W (Kd.F_now hfr.f0) hfr.h0 hC hlc (by unfold ptyCost at hcost;rwa [if_pos ht] at hcost))
 have HC1:=am' (fun (ht:timed=false)=>show (1:Int)=c by unfold ptyCost at hcost;rw[if_neg (by rw[ht];decide)] at hcost;exact os' hcost)
 have HFR:=am' hfr
 have HLIM:=am' hlim
 have HBO:=am' (bb' hbo hbel)
 have HBE:=am' hB
 have HS:=am' (Kd.S_mono (Kd.S_old hS hbel) (ok':=fun k=>k≠bo∧k < W0.heap.size) (fun k hk=>hk))
 have HR2:=am' (Kd.R_mono (Kd.R_bound hR) (ok':=fun k=>W0.heap.size≤k∧k < W.heap.size∧k≠bo) (fun k hk=>⟨hk.2.1,hk.2.2.1,by have:=blk_lt hbo;have:=hk.2.1;omega⟩))
 have HBW:=am' (Nat.le_trans (Nat.le_of_lt (Nat.lt_of_le_of_lt hB (blk_lt hbo))) hbel.size)
 have HB0:=am' (Nat.le_of_lt (Nat.lt_of_le_of_lt hB (blk_lt hbo)))
 have HSZ:=am' hbel.size
 have HR:=am' hR
 have HBEL:=am' hbel
 have HSL0:=am' (Kd.S_lt hS)
 have HLO:=am' (blk_lt hbo)
 obtain ⟨Ao,co,rfl⟩:=Kd.S_slice hS
 have x0:W.cell? ⟨bo,0,none⟩=some (.slice Ao s.length co):=(bc' HBO.out 0).trans rfl
 have xt:W.cell? ⟨pt,0,none⟩=some (.bool timed):=(bc' hfr.bt 0).trans rfl
 have xp:W.cell? ⟨pp,0,none⟩=some (.slice A0 l0.length c0):=(bc' hfr.bp 0).trans rfl
 have s0:W.cell? ⟨ps,0,none⟩=some (.slice A1 ov.length c1):=(bc' hfr.bs 0).trans rfl
 have s1:W.cell? ⟨ps,1,none⟩=some (.bool tr):=(bc' hfr.bs 1).trans rfl
 clear hfr hC hlc hcost hmv hcd hs hlim hbo hB hS hR hbel;cases timed with
 | false =>
  obtain rfl:=HC1.out rfl;have HW:=am' (Below.refl W.heap.size W);go_enter Try.func56,Try.ntmps56;go_wp2_with fail;refine start_ (n:=11) (S:=fun w'=>w'.cell? ⟨ps,0,none⟩=some (.slice A1 ov.length c1)∧w'.cell? ⟨ps,1,none⟩=some (.bool tr)∧w'.cell? ⟨bo,0,none⟩=some (.slice Ao s.length co)) (ds:=[10]) #[false,false,false,false,false,false,false,false,false,false,false] xk' rfl rfl ⟨s0,s1,x0⟩ (fun hHeld=>?_);refine take_ (i:=0) (N:=some 12) (v:=?_) (a':=?_) #[true,false,false,false,false,false,false,false,false,false,false] rfl rfl xk' (fun _ _ _ h=>h) (Or.inl ⟨by rfl,?_⟩) hHeld ?_ ?_
  rotate_left
  ·
   rintro w' ⟨s0_,s1_,s2_⟩
   go_simp;with_reducible rfl
  rotate_left
  ·
   simp only[Act.put,sa',sb',sc',i64_w,i32_w];rfl
  refine take_ (i:=1) (N:=some 13) (v:=?_) (a':=?_) #[true,true,false,false,false,false,false,false,false,false,false] rfl rfl xk' (fun _ _ _ h=>h) (Or.inl ⟨by rfl,?_⟩) hHeld ?_ ?_
  rotate_left
  ·
   rintro w' ⟨s0_,s1_,s2_⟩
   go_simp;with_reducible rfl
  rotate_left
  ·
   simp only[Act.put,sa',sb',sc',i64_w,i32_w];rfl
  refine pure_ (i:=2) (N:=some 14) (v:=?_) (a':=?_) #[true,true,true,false,false,false,false,false,false,false,false] rfl rfl xk' (fun _ _ _ h=>h) (Or.inl ⟨by rfl,?_⟩) ?_ ?_
  rotate_left
  ·
   intro w';go_simp;with_reducible rfl
  rotate_left
  ·
   simp only[Act.put,sa',sb',sc',i64_w,i32_w];rfl
  refine pure_ (i:=5) (N:=some 17) (v:=?_) (a':=?_) #[true,true,true,false,false,true,false,false,false,false,false] rfl rfl xk' (fun _ _ _ h=>h) (Or.inl ⟨by rfl,?_⟩) ?_ ?_
  rotate_left
  ·
   intro w';go_simp;with_reducible rfl
  rotate_left
  ·
   simp only[Act.put,sa',sb',sc',i64_w,i32_w];rfl
  refine pure_ (i:=6) (N:=some 18) (v:=?_) (a':=?_) #[true,true,true,false,false,true,true,false,false,false,false] rfl rfl xk' (fun _ _ _ h=>h) (Or.inl ⟨by rfl,?_⟩) ?_ ?_
  rotate_left
  ·
   intro w';go_simp;with_reducible rfl
  rotate_left
  ·
   simp only[Act.put,sa',sb',sc',i64_w,i32_w];rfl
  refine one_ (i:=3) (N:=some 15) #[true,true,true,true,false,true,true,false,false,false,false] rfl rfl xk' (by decide) (fun K hK=>?_);refine goes_ Try.func58 xk' rfl #[.agg #[.slice A1 ov.length c1, .bool tr], .slice Al l.length cl] (by rfl) rfl rfl (by (try simp only[List.map_toArray,List.map_cons,List.map_nil]);first|done|rfl) ?_
  refine (HM.out _ ?sideM).mono ?_
  (case sideM=>(repeat (first|(with_reducible exact HW.out)|apply be'|apply bd')))
  rintro e w4 ⟨v4,rfl,ho4,hb4⟩
  obtain ⟨A4,c4,rfl,hc4,hC4⟩:=Kd.R_reads ho4;have HW4:=am' (bt' (by repeat (first|(with_reducible exact HW.out)|apply ba'|apply be'|apply bd')) hb4);have HC4:=am' hC4;have HL4:=am' hc4;have HO4:=am' (Below.refl w4.heap.size w4);have y40:w4.cell? ⟨ps,0,none⟩=some (.slice A1 ov.length c1):=(bc' (bb' HFR.out.bs HW4.out) 0).trans rfl;have y41:w4.cell? ⟨ps,1,none⟩=some (.bool tr):=(bc' (bb' HFR.out.bs HW4.out) 1).trans rfl;have y42:w4.cell? ⟨bo,0,none⟩=some (.slice Ao s.length co):=(bc' (bb' HBO.out HW4.out) 0).trans rfl;clear ho4 hb4 hC4 hc4;refine ⟨_,rfl,?_⟩;refine hK.out _ _ ⟨y40,y41,y42⟩ (fun hHeld=>?_);clear hK K;refine norm_ (a':=?_) ?_ ?_
  rotate_left
  ·
   show Act.put _ (some 15) _=_
   simp only[Act.put,sa',sb',sc',i64_w,i32_w];rfl
  refine one_ (i:=4) (N:=some 16) #[true,true,true,true,true,true,true,false,false,false,false] rfl rfl xk' (by decide) (fun K hK=>?_);refine goes_ Try.func33 xk' rfl #[.agg #[.slice A4 mo.length c4, .bool mt]] (by rfl) rfl rfl (by (try simp only[List.map_toArray,List.map_cons,List.map_nil]);first|done|rfl) ?_
  refine (HC.out _ A4 c4 ?sideC HL4.out).mono ?_
  (case sideC=>(exact cb' HC4.out (by repeat (first|(with_reducible exact HO4.out)|apply ba'|apply be'|apply bd'))))
  rintro e w5 ⟨rfl,hb5⟩
  have HW5:=am' (bt' (by repeat (first|(with_reducible exact HW4.out)|apply ba'|apply be'|apply bd')) hb5);have y50:w5.cell? ⟨ps,0,none⟩=some (.slice A1 ov.length c1):=(bc' (bb' HFR.out.bs HW5.out) 0).trans rfl;have y51:w5.cell? ⟨ps,1,none⟩=some (.bool tr):=(bc' (bb' HFR.out.bs HW5.out) 1).trans rfl;have y52:w5.cell? ⟨bo,0,none⟩=some (.slice Ao s.length co):=(bc' (bb' HBO.out HW5.out) 0).trans rfl;have y53:(w5.alloc (.cells #[.int .i64 cd, .int .i64 1, .slice Al l.length cl] 76)).cell? ⟨bo,0,none⟩=some (.slice Ao s.length co):=(bc' (ka' (bb' HBO.out HW5.out) _) 0).trans rfl;have HO5:=am' (Below.refl w5.heap.size w5);clear hb5;have y54:(w5.alloc (.cells #[.int .i64 cd, .int .i64 1, .slice Al l.length cl] 76)).cell? ⟨ps,0,none⟩=some (.slice A1 ov.length c1):=(bc' (ka' (bb' HFR.out.bs HW5.out) _) 0).trans rfl;have y55:(w5.alloc (.cells #[.int .i64 cd, .int .i64 1, .slice Al l.length cl] 76)).cell? ⟨ps,1,none⟩=some (.bool tr):=(bc' (ka' (bb' HFR.out.bs HW5.out) _) 1).trans rfl;refine ⟨_,rfl,?_⟩;refine hK.out _ _ ⟨y50,y51,y52⟩ (fun hHeld=>?_);clear hK K;refine norm_ (a':=?_) ?_ ?_
  rotate_left
  ·
   show Act.put _ (some 16) _=_
   simp only[Act.put,sa',sb',sc',i64_w,i32_w];rfl
  refine pure_ (i:=7) (N:=some 19) (v:=?_) (a':=?_) #[true,true,true,true,true,true,true,true,false,false,false] rfl rfl xk' (fun _ _ _ h=>h) (Or.inl ⟨by rfl,?_⟩) ?_ ?_
  rotate_left
  ·
   intro w';go_simp;with_reducible rfl
  rotate_left
  ·
   simp only[Act.put,sa',sb',sc',i64_w,i32_w];rfl
  refine one_ (i:=8) (N:=some 20) #[true,true,true,true,true,true,true,true,true,false,false] rfl rfl xk' (by decide) (fun K hK=>?_);refine value_ (v := .slice (some ⟨w5.heap.size,0,none⟩) 1 1) (w1:=w5.alloc (.cells #[.int .i64 cd, .int .i64 1, .slice Al l.length cl] 76)) (by rfl) rfl ?_ ?_
  ·
   go_simp
  refine hK.out _ _ ⟨y54,y55,y53⟩ (fun hHeld=>?_);clear hK K;refine norm_ (a':=?_) ?_ ?_
  rotate_left
  ·
   show Act.put _ (some 20) _=_
   simp only[Act.put,sa',sb',sc',i64_w,i32_w];rfl
  refine one_ (i:=9) (N:=some 21) #[true,true,true,true,true,true,true,true,true,true,false] rfl rfl xk' (by decide) (fun K hK=>?_);refine Kd.S_append_step EdgK (w0:=W) B (by rfl) (.tmp 12) (.tmp 20) 80 76 (.agg #[.int .i64 0, .int .i64 0, .slice none 0 0]) 40 (by rfl) Try.underlying80 hinfoE.out rfl (by decide) (by omega) (.slice Ao s.length co) s (cd,1,l) [.int .i64 cd, .int .i64 1, .slice Al l.length cl] (fun k=>k≠bo) (fun k=>W0.heap.size≤k∧k < W.heap.size∧k≠bo) (by rfl) (by rfl) ?aP ?aK ?aF ?aO ?aB ?aS ?aL ?_
  (case aP=>exact M_edge (Kd.R_lower (rb' HR2.out HW5.out) HB0.out))
  (case aK=>exact fun k hk=>⟨hk.2.2,fun e=>by have:=HSL0.out k e.symm;omega⟩)
  (case aF=>exact fun k hk=>by have:=HLO.out;have:=HW5.out.size;have:=HSZ.out;omega)
  (case aO=>exact Kd.S_mono (Kd.S_below HS.out HW5.out) (fun k hk=>⟨hk.1,fun q=>by omega⟩))
  (case aB=>exact HW5.out.mono HBW.out)
  (case aS=>exact Nat.le_trans HBW.out HW5.out.size)
  (case aL=>have:=HLIM.out;omega)
  intro v6 w6 ho hb hg hat;obtain ⟨A6,c6,e6⟩:=Kd.S_slice ho;rw[List.length_append,List.length_singleton] at e6;subst e6;have HO6:=am' ho;have HB6:=am' hb;have HG6:=am' hg;have HA6:=am' hat;have HK6:=am' (show Kept W w6 (fun k=>k=bo∨some k=(Value.slice Ao s.length co).ownBlock) from Kept.of_grown hg (Kept.of_below HW5.out _) (fun k hk => .inl (.inr hk.symm)));have HY:=am' ((hg.block bo (Nat.lt_of_lt_of_le (Nat.lt_of_lt_of_le HLO.out HSZ.out) HW5.out.size) (Kd.S_away HS.out (fun k hk=>hk.1))).trans (bb' HBO.out HW5.out));clear ho hb hg hat;have y62:w6.cell? ⟨bo,0,none⟩=some (.slice Ao s.length co):=(bc' HY.out 0).trans rfl;have y63:=bf' HY.out 0;have y60:w6.cell? ⟨ps,0,none⟩=some (.slice A1 ov.length c1):=(bc' (blk_kept HFR.out.bs HK6.out HFR.out.ns) 0).trans rfl;have y61:w6.cell? ⟨ps,1,none⟩=some (.bool tr):=(bc' (blk_kept HFR.out.bs HK6.out HFR.out.ns) 1).trans rfl;have HK7:=am' (show Kept W (w6.setCell ⟨bo,0,none⟩ (.slice A6 (s.length+1) c6)) (fun k=>k=bo∨some k=(Value.slice Ao s.length co).ownBlock) from Kept.setCell HK6.out (.inl (.inl rfl)) _);refine hK.out _ _ ⟨y60,y61,y62⟩ (fun hHeld=>?_);clear hK K;refine norm_ (a':=?_) ?_ ?_
  rotate_left
  ·
   show Act.put _ (some 21) _=_
   simp only[Act.put,sa',sb',sc',i64_w,i32_w];rfl
  refine last_ (i:=10) (N:=none) #[true,true,true,true,true,true,true,true,true,true,true] rfl rfl xk' (by decide) (fun K hK=>?_);refine skip_ (w1:=?_) (by rfl) rfl ?_ ?_
  rotate_left
  ·
   go_simp;rfl
  refine hK.out _ _ ?_
  clear hK K;refine done_ xk' ?_
  go_wp2;go_end0
  have hnew:∀ k,(k=bo∨some k=(Value.slice A6 (s.length+1) c6).ownBlock)→(k=bo∨some k=(Value.slice Ao s.length co).ownBlock)∨W.heap.size≤k:=by
   rintro k (rfl|hk)
   ·
    exact .inl (.inl rfl)
   ·
    rcases HA6.out with q|⟨b,q,hb⟩
    ·
     exact .inl (.inr (hk.trans q))
    ·
     rw[q] at hk;cases hk;exact .inr (Nat.le_trans HW5.out.size hb)
  refine ⟨rfl,?_,_,⟨⟨_,blk_put HY.out 0 _ rfl,HBE.out,?_,rfl⟩,HFR.out.turn HK7.out hnew⟩,HK7.out,hnew⟩
  ·
   first|exact HB6.out.setCell HBE.out _|exact below_drew (HB6.out.setCell HBE.out _)|exact bd' (HB6.out.setCell HBE.out _) _
  ·
   exact Kd.S_far HO6.out (p:=⟨bo,0,none⟩) (fun k hk=>hk) _
 | true =>
  have HSL2:=am' (HSL.out rfl);go_enter Try.func56,Try.ntmps56;go_wp2_with (go_at_call 57;(with_reducible refine HSL2.out.mono ?_);rintro e wa ⟨rfl,hba⟩;have HW:=am' hba;clear x0 xt xp s0 s1 hba);have x0:wa.cell? ⟨bo,0,none⟩=some (.slice Ao s.length co):=(bc' (bb' HBO.out HW.out) 0).trans rfl;have s0:wa.cell? ⟨ps,0,none⟩=some (.slice A1 ov.length c1):=(bc' (bb' HFR.out.bs HW.out) 0).trans rfl;have s1:wa.cell? ⟨ps,1,none⟩=some (.bool tr):=(bc' (bb' HFR.out.bs HW.out) 1).trans rfl;refine start_ (n:=11) (S:=fun w'=>w'.cell? ⟨ps,0,none⟩=some (.slice A1 ov.length c1)∧w'.cell? ⟨ps,1,none⟩=some (.bool tr)∧w'.cell? ⟨bo,0,none⟩=some (.slice Ao s.length co)) (ds:=[10]) #[false,false,false,false,false,false,false,false,false,false,false] xk' rfl rfl ⟨s0,s1,x0⟩ (fun hHeld=>?_);refine take_ (i:=0) (N:=some 12) (v:=?_) (a':=?_) #[true,false,false,false,false,false,false,false,false,false,false] rfl rfl xk' (fun _ _ _ h=>h) (Or.inl ⟨by rfl,?_⟩) hHeld ?_ ?_
  rotate_left
  ·
   rintro w' ⟨s0_,s1_,s2_⟩
   go_simp;with_reducible rfl
  rotate_left
  ·
   simp only[Act.put,sa',sb',sc',i64_w,i32_w];rfl
  refine take_ (i:=1) (N:=some 13) (v:=?_) (a':=?_) #[true,true,false,false,false,false,false,false,false,false,false] rfl rfl xk' (fun _ _ _ h=>h) (Or.inl ⟨by rfl,?_⟩) hHeld ?_ ?_
  rotate_left
  ·
   rintro w' ⟨s0_,s1_,s2_⟩
   go_simp;with_reducible rfl
  rotate_left
  ·
   simp only[Act.put,sa',sb',sc',i64_w,i32_w];rfl
  refine pure_ (i:=2) (N:=some 14) (v:=?_) (a':=?_) #[true,true,true,false,false,false,false,false,false,false,false] rfl rfl xk' (fun _ _ _ h=>h) (Or.inl ⟨by rfl,?_⟩) ?_ ?_
  rotate_left
  ·
   intro w';go_simp;with_reducible rfl
  rotate_left
  ·
   simp only[Act.put,sa',sb',sc',i64_w,i32_w];rfl
  refine pure_ (i:=5) (N:=some 17) (v:=?_) (a':=?_) #[true,true,true,false,false,true,false,false,false,false,false] rfl rfl xk' (fun _ _ _ h=>h) (Or.inl ⟨by rfl,?_⟩) ?_ ?_
  rotate_left
  ·
   intro w';go_simp;with_reducible rfl
  rotate_left
  ·
   simp only[Act.put,sa',sb',sc',i64_w,i32_w];rfl
  refine pure_ (i:=6) (N:=some 18) (v:=?_) (a':=?_) #[true,true,true,false,false,true,true,false,false,false,false] rfl rfl xk' (fun _ _ _ h=>h) (Or.inl ⟨by rfl,?_⟩) ?_ ?_
  rotate_left
  ·
   intro w';go_simp;with_reducible rfl
  rotate_left
  ·
   simp only[Act.put,sa',sb',sc',i64_w,i32_w];rfl
  refine one_ (i:=3) (N:=some 15) #[true,true,true,true,false,true,true,false,false,false,false] rfl rfl xk' (by decide) (fun K hK=>?_);refine goes_ Try.func58 xk' rfl #[.agg #[.slice A1 ov.length c1, .bool tr], .slice Al l.length cl] (by rfl) rfl rfl (by (try simp only[List.map_toArray,List.map_cons,List.map_nil]);first|done|rfl) ?_
  refine (HM.out _ ?sideM).mono ?_
  (case sideM=>(repeat (first|(with_reducible exact HW.out)|apply be'|apply bd')))
  rintro e w4 ⟨v4,rfl,ho4,hb4⟩
  obtain ⟨A4,c4,rfl,hc4,hC4⟩:=Kd.R_reads ho4;have HW4:=am' (bt' (by repeat (first|(with_reducible exact HW.out)|apply ba'|apply be'|apply bd')) hb4);have HC4:=am' hC4;have HL4:=am' hc4;have HO4:=am' (Below.refl w4.heap.size w4);have y40:w4.cell? ⟨ps,0,none⟩=some (.slice A1 ov.length c1):=(bc' (bb' HFR.out.bs HW4.out) 0).trans rfl;have y41:w4.cell? ⟨ps,1,none⟩=some (.bool tr):=(bc' (bb' HFR.out.bs HW4.out) 1).trans rfl;have y42:w4.cell? ⟨bo,0,none⟩=some (.slice Ao s.length co):=(bc' (bb' HBO.out HW4.out) 0).trans rfl;clear ho4 hb4 hC4 hc4;refine ⟨_,rfl,?_⟩;refine hK.out _ _ ⟨y40,y41,y42⟩ (fun hHeld=>?_);clear hK K;refine norm_ (a':=?_) ?_ ?_
  rotate_left
  ·
   show Act.put _ (some 15) _=_
   simp only[Act.put,sa',sb',sc',i64_w,i32_w];rfl
  refine one_ (i:=4) (N:=some 16) #[true,true,true,true,true,true,true,false,false,false,false] rfl rfl xk' (by decide) (fun K hK=>?_);refine goes_ Try.func33 xk' rfl #[.agg #[.slice A4 mo.length c4, .bool mt]] (by rfl) rfl rfl (by (try simp only[List.map_toArray,List.map_cons,List.map_nil]);first|done|rfl) ?_
  refine (HC.out _ A4 c4 ?sideC HL4.out).mono ?_
  (case sideC=>(exact cb' HC4.out (by repeat (first|(with_reducible exact HO4.out)|apply ba'|apply be'|apply bd'))))
  rintro e w5 ⟨rfl,hb5⟩
  have HW5:=am' (bt' (by repeat (first|(with_reducible exact HW4.out)|apply ba'|apply be'|apply bd')) hb5);have y50:w5.cell? ⟨ps,0,none⟩=some (.slice A1 ov.length c1):=(bc' (bb' HFR.out.bs HW5.out) 0).trans rfl;have y51:w5.cell? ⟨ps,1,none⟩=some (.bool tr):=(bc' (bb' HFR.out.bs HW5.out) 1).trans rfl;have y52:w5.cell? ⟨bo,0,none⟩=some (.slice Ao s.length co):=(bc' (bb' HBO.out HW5.out) 0).trans rfl;have y53:(w5.alloc (.cells #[.int .i64 cd, .int .i64 c, .slice Al l.length cl] 76)).cell? ⟨bo,0,none⟩=some (.slice Ao s.length co):=(bc' (ka' (bb' HBO.out HW5.out) _) 0).trans rfl;have HO5:=am' (Below.refl w5.heap.size w5);clear hb5;have y54:(w5.alloc (.cells #[.int .i64 cd, .int .i64 c, .slice Al l.length cl] 76)).cell? ⟨ps,0,none⟩=some (.slice A1 ov.length c1):=(bc' (ka' (bb' HFR.out.bs HW5.out) _) 0).trans rfl;have y55:(w5.alloc (.cells #[.int .i64 cd, .int .i64 c, .slice Al l.length cl] 76)).cell? ⟨ps,1,none⟩=some (.bool tr):=(bc' (ka' (bb' HFR.out.bs HW5.out) _) 1).trans rfl;refine ⟨_,rfl,?_⟩;refine hK.out _ _ ⟨y50,y51,y52⟩ (fun hHeld=>?_);clear hK K;refine norm_ (a':=?_) ?_ ?_
  rotate_left
  ·
   show Act.put _ (some 16) _=_
   simp only[Act.put,sa',sb',sc',i64_w,i32_w];rfl
  refine pure_ (i:=7) (N:=some 19) (v:=?_) (a':=?_) #[true,true,true,true,true,true,true,true,false,false,false] rfl rfl xk' (fun _ _ _ h=>h) (Or.inl ⟨by rfl,?_⟩) ?_ ?_
  rotate_left
  ·
   intro w';go_simp;with_reducible rfl
  rotate_left
  ·
   simp only[Act.put,sa',sb',sc',i64_w,i32_w];rfl
  refine one_ (i:=8) (N:=some 20) #[true,true,true,true,true,true,true,true,true,false,false] rfl rfl xk' (by decide) (fun K hK=>?_);refine value_ (v := .slice (some ⟨w5.heap.size,0,none⟩) 1 1) (w1:=w5.alloc (.cells #[.int .i64 cd, .int .i64 c, .slice Al l.length cl] 76)) (by rfl) rfl ?_ ?_
  ·
   go_simp
  refine hK.out _ _ ⟨y54,y55,y53⟩ (fun hHeld=>?_);clear hK K;refine norm_ (a':=?_) ?_ ?_
  rotate_left
  ·
   show Act.put _ (some 20) _=_
   simp only[Act.put,sa',sb',sc',i64_w,i32_w];rfl
  refine one_ (i:=9) (N:=some 21) #[true,true,true,true,true,true,true,true,true,true,false] rfl rfl xk' (by decide) (fun K hK=>?_);refine Kd.S_append_step EdgK (w0:=W) B (by rfl) (.tmp 12) (.tmp 20) 80 76 (.agg #[.int .i64 0, .int .i64 0, .slice none 0 0]) 40 (by rfl) Try.underlying80 hinfoE.out rfl (by decide) (by omega) (.slice Ao s.length co) s (cd,c,l) [.int .i64 cd, .int .i64 c, .slice Al l.length cl] (fun k=>k≠bo) (fun k=>W0.heap.size≤k∧k < W.heap.size∧k≠bo) (by rfl) (by rfl) ?aP ?aK ?aF ?aO ?aB ?aS ?aL ?_
  (case aP=>exact M_edge (Kd.R_lower (rb' HR2.out HW5.out) HB0.out))
  (case aK=>exact fun k hk=>⟨hk.2.2,fun e=>by have:=HSL0.out k e.symm;omega⟩)
  (case aF=>exact fun k hk=>by have:=HLO.out;have:=HW5.out.size;have:=HSZ.out;omega)
  (case aO=>exact Kd.S_mono (Kd.S_below HS.out HW5.out) (fun k hk=>⟨hk.1,fun q=>by omega⟩))
  (case aB=>exact HW5.out.mono HBW.out)
  (case aS=>exact Nat.le_trans HBW.out HW5.out.size)
  (case aL=>have:=HLIM.out;omega)
  intro v6 w6 ho hb hg hat;obtain ⟨A6,c6,e6⟩:=Kd.S_slice ho;rw[List.length_append,List.length_singleton] at e6;subst e6;have HO6:=am' ho;have HB6:=am' hb;have HG6:=am' hg;have HA6:=am' hat;have HK6:=am' (show Kept W w6 (fun k=>k=bo∨some k=(Value.slice Ao s.length co).ownBlock) from Kept.of_grown hg (Kept.of_below HW5.out _) (fun k hk => .inl (.inr hk.symm)));have HY:=am' ((hg.block bo (Nat.lt_of_lt_of_le (Nat.lt_of_lt_of_le HLO.out HSZ.out) HW5.out.size) (Kd.S_away HS.out (fun k hk=>hk.1))).trans (bb' HBO.out HW5.out));clear ho hb hg hat;have y62:w6.cell? ⟨bo,0,none⟩=some (.slice Ao s.length co):=(bc' HY.out 0).trans rfl;have y63:=bf' HY.out 0;have y60:w6.cell? ⟨ps,0,none⟩=some (.slice A1 ov.length c1):=(bc' (blk_kept HFR.out.bs HK6.out HFR.out.ns) 0).trans rfl;have y61:w6.cell? ⟨ps,1,none⟩=some (.bool tr):=(bc' (blk_kept HFR.out.bs HK6.out HFR.out.ns) 1).trans rfl;have HK7:=am' (show Kept W (w6.setCell ⟨bo,0,none⟩ (.slice A6 (s.length+1) c6)) (fun k=>k=bo∨some k=(Value.slice Ao s.length co).ownBlock) from Kept.setCell HK6.out (.inl (.inl rfl)) _);refine hK.out _ _ ⟨y60,y61,y62⟩ (fun hHeld=>?_);clear hK K;refine norm_ (a':=?_) ?_ ?_
  rotate_left
  ·
   show Act.put _ (some 21) _=_
   simp only[Act.put,sa',sb',sc',i64_w,i32_w];rfl
  refine last_ (i:=10) (N:=none) #[true,true,true,true,true,true,true,true,true,true,true] rfl rfl xk' (by decide) (fun K hK=>?_);refine skip_ (w1:=?_) (by rfl) rfl ?_ ?_
  rotate_left
  ·
   go_simp;rfl
  refine hK.out _ _ ?_
  clear hK K;refine done_ xk' ?_
  go_wp2;go_end0
  have hnew:∀ k,(k=bo∨some k=(Value.slice A6 (s.length+1) c6).ownBlock)→(k=bo∨some k=(Value.slice Ao s.length co).ownBlock)∨W.heap.size≤k:=by
   rintro k (rfl|hk)
   ·
    exact .inl (.inl rfl)
   ·
    rcases HA6.out with q|⟨b,q,hb⟩
    ·
     exact .inl (.inr (hk.trans q))
    ·
     rw[q] at hk;cases hk;exact .inr (Nat.le_trans HW5.out.size hb)
  refine ⟨rfl,?_,_,⟨⟨_,blk_put HY.out 0 _ rfl,HBE.out,?_,rfl⟩,HFR.out.turn HK7.out hnew⟩,HK7.out,hnew⟩
  ·
   first|exact HB6.out.setCell HBE.out _|exact below_drew (HB6.out.setCell HBE.out _)|exact bd' (HB6.out.setCell HBE.out _) _
  ·
   exact Kd.S_far HO6.out (p:=⟨bo,0,none⟩) (fun k hk=>hk) _
theorem three_blocks (w:World) (o0 o1 o2:Obj):(((w.alloc o0).alloc o1).alloc o2).heap[w.heap.size]? = some o0∧(((w.alloc o0).alloc o1).alloc o2).heap[w.heap.size+1]? = some o1∧(((w.alloc o0).alloc o1).alloc o2).heap[w.heap.size+1+1]? = some o2∧Below w.heap.size w (((w.alloc o0).alloc o1).alloc o2):=by
 obtain ⟨h0,h1,h2⟩:=two_blocks w o0 o1
 refine ⟨ka' h0 _,ka' h1 _,?_,ba' h2 _⟩
 have:=heap_alloc_new ((w.alloc o0).alloc o1) o2
 rwa [World.size_alloc,World.size_alloc] at this
def ptyOut (k:Nat) (timed:Bool) (l0:List Int) (m:Int) (code:Int):Option (List Edg):=(impl_stateOf.f k (l0.length:Int) code).bind fun st=>(impl_State_side.f k st.1 st.2 st.2).bind fun sd=>if sd.length≤20 then (grpsF m sd []).foldlM (ptyStep k timed l0 st.1 st.2) [] else none
set_option maxHeartbeats 4000000 in
set_option maxRecDepth 100000 in
theorem party_out (k:Nat) (timed:Bool) (A0:Option Addr) (c0:Nat) (l0:List Int) (m:Int) (pn pp pt:Nat) (W0:World) (hbn:W0.heap[pn]? = some (.cells #[.int .i64 (l0.length:Int)] 3 (0,0))) (hbp:W0.heap[pp]? = some (.cells #[.slice A0 l0.length c0, .int .i64 m] 28 (0,0))) (hbt:W0.heap[pt]? = some (.cells #[.bool timed] 4 (0,0))) (hr:Kd.C (Kd.int .i64) W0 A0 l0.length l0) (hc:l0.length≤c0):OutOk 52 #[.pointer (some ⟨pn,0,none⟩), .pointer (some ⟨pp,0,none⟩), .pointer (some ⟨pt,0,none⟩)] (ptyOut k timed l0 m) W0:=by
 intro W hW code es hs;have hu0:=Try.underlying28
 have hu1:=Try.underlying54
 unfold ptyOut at hs
 obtain ⟨⟨ov,tr⟩,hst,hs⟩:=Option.bind_eq_some_iff.mp hs
 obtain ⟨sd,hsd,hs⟩:=Option.bind_eq_some_iff.mp hs
 dsimp only at hsd hs
 by_cases hlen:sd.length≤20
 ·
  rw[if_pos hlen] at hs;have HLEN:=am' hlen;have HFO:=am' hs;have HST:=am' (impl_stateOf.calls k (l0.length:Int) code ov tr W hst);have HSD:=am' (fun (W1:World) (A1:Option Addr) (c1:Nat) (hC:Kd.C Kd.bool W1 A1 ov.length ov) (hl:ov.length≤c1)=>impl_State_side.calls k A1 c1 ov tr tr sd W1 hC hl hsd);have BN:=am' (bb' hbn hW);have BP:=am' (bb' hbp hW);have BTT:=am' (bb' hbt hW);have HWS:=am' hW.size;have HPN:=am' (blk_lt (bb' hbp hW));have HTN:=am' (blk_lt (bb' hbt hW));have HF0:=am' (Kd.F_below (Kd.C_F (Kd.heap_int .i64) hr) hW);have HC0:=am' hc;have xn:W.cell? ⟨pn,0,none⟩=some (.int .i64 (l0.length:Int)):=(bc' BN.out 0).trans rfl;clear hbn hbp hbt hW hr hc hst hsd hs hlen;go_enter Try.func52,Try.ntmps52;go_wp2_with (go_at_call 53;(with_reducible refine HST.out.mono ?_);rintro e w1 ⟨v1,rfl,ho1,hb1⟩;obtain ⟨A1,c1,rfl,hc1,hC1⟩:=Kd.R_reads ho1;have HB1:=am' hb1;have HO1:=am' ho1;have HC1:=am' hC1;have HL1:=am' hc1;clear ho1 hb1 hC1 hc1 xn);have HB3:=am' (three_blocks w1 (.cells #[] 76) (.cells #[.slice A1 ov.length c1, .bool tr] 54) (.cells #[.slice (some ⟨w1.heap.size,0,none⟩) 0 0] 80));generalize hW3:((w1.alloc (.cells #[] 76)).alloc (.cells #[.slice A1 ov.length c1, .bool tr] 54)).alloc (.cells #[.slice (some ⟨w1.heap.size,0,none⟩) 0 0] 80)=W3 at HB3 ⊢
  clear hW3;have HW3:=am' (bt' HB1.out HB3.out.2.2.2);have HLT:=am' (blk_lt HB3.out.2.2.1)
  have HIN:=am' (show EOutInv W.heap.size (w1.heap.size+1+1) [] W3 (fun k=>k=w1.heap.size+1+1∨some k=(Value.slice (some ⟨w1.heap.size,0,none⟩) 0 0).ownBlock) from
   ⟨_,HB3.out.2.2.1,by have:=HB1.out.size;omega,S_empty EdgK HB3.out.1 HB1.out.size (by omega),rfl⟩)
  have hno:∀ k,(k=w1.heap.size+1+1∨some k=(Value.slice (some ⟨w1.heap.size,0,none⟩) 0 0).ownBlock)→k=w1.heap.size+1+1∨k=w1.heap.size:=by
   rintro k (rfl|q)
   ·
    exact .inl rfl
   ·
    have q:=os' (show some _=some _ from q);exact .inr q
  have HNO:=am' hno;clear hno
  have HPF:=am' (show PtyFr pt pp (w1.heap.size+1) timed A0 c0 l0 m A1 c1 ov tr W3 (fun k=>k=w1.heap.size+1+1∨some k=(Value.slice (some ⟨w1.heap.size,0,none⟩) 0 0).ownBlock) from
   ⟨bb' BTT.out HW3.out,bb' BP.out HW3.out,HB3.out.2.1,fun q=>by have h1:=HNO.out _ q;have h2:=HTN.out;have h3:=HB1.out.size;omega,fun q=>by have h1:=HNO.out _ q;have h2:=HPN.out;have h3:=HB1.out.size;omega,fun q=>by have h1:=HNO.out _ q;omega,
    Kd.F_mono (Kd.F_below HF0.out HW3.out) (fun k hk q=>by have h1:=HNO.out _ q;have h2:=HWS.out;have h3:=HB1.out.size;omega),Kd.F_mono (Kd.F_below (Kd.R_F (Kd.R_bound HO1.out)) HB3.out.2.2.2) (fun k hk q=>by have h1:=HNO.out _ q;have h2:=hk.2.2.1;omega),HC0.out,HL1.out⟩)
  have x0:W3.cell? ⟨w1.heap.size+1,0,none⟩=some (.slice A1 ov.length c1):=(bc' HB3.out.2.1 0).trans rfl;have x1:W3.cell? ⟨w1.heap.size+1,1,none⟩=some (.bool tr):=(bc' HB3.out.2.1 1).trans rfl;have x2:W3.cell? ⟨pp,1,none⟩=some (.int .i64 m):=(bc' (bb' BP.out HW3.out) 1).trans rfl;have HR0:=am' (Below.refl W3.heap.size W3);have HC3:=am' (cb' HC1.out HB3.out.2.2.2)
  go_region_held3 (fun w'=>w'.cell? ⟨w1.heap.size+1,0,none⟩=some (.slice A1 ov.length c1)∧w'.cell? ⟨w1.heap.size+1,1,none⟩=some (.bool tr)∧w'.cell? ⟨pp,1,none⟩=some (.int .i64 m))
   (first|exact ⟨z0,z1,z2⟩|exact ⟨y0,y1,y2⟩|go_keep)
   (first|(go_at_call 55;refine (HSD.out _ A1 c1 ?_ HL1.out).mono ?_;(exact cb' HC3.out (by repeat (first|(with_reducible exact HR0.out)|apply be'|apply bd')));rintro e w4 ⟨vs,rfl,ho,hb⟩;have HR4:=am' (bt' (by repeat (first|(with_reducible exact HR0.out)|apply be'|apply bd')) hb);have HO4:=am' ho;clear hb ho;have y0:=(HR4.out.cell (bl' W3 _ x0)).trans x0;have y1:=(HR4.out.cell (bl' W3 _ x1)).trans x1;have y2:=(HR4.out.cell (bl' W3 _ x2)).trans x2;obtain ⟨As,cs,es_,hcs,_⟩:=Kd.R_reads HO4.out;subst es_;have HCS:=am' hcs;clear hcs)|(go_at_call 54;refine (groups_any (party1_each k W.heap.size (w1.heap.size+1+1) pt pp (w1.heap.size+1) timed A0 c0 l0 m A1 c1 ov tr) (fun s W O h=>EOutInv.lt s W O h.1) (enters_of Try.func56 xk' rfl) sd m As cs HCS.out (by have:=HLEN.out;omega) [] es _ _ ?gB (fun W hb=>⟨HIN.out.below (bt' HR4.out (by (first|exact hb|(simpa using hb)))),HPF.out.turn (Kept.of_below (bt' HR4.out (by (first|exact hb|(simpa using hb)))) _) (fun _ h => .inl h)⟩) ?gF HFO.out).mono ?_;(case gB=>exact Nat.le_trans HW3.out.size (by have:=HR4.out.size;first|exact this|simpa using this));(case gF=>exact Kd.F_mono (Kd.R_F (Kd.R_bound HO4.out)) (fun k hk q=>by have h1:=HLT.out;have h2:=hk.2.1;have h3:=HNO.out k q;(try simp at h2);omega));rintro e w5 ⟨rfl,hb5,O5,⟨⟨v5,hv5,_,hS5,_⟩,_⟩,hk5,ho5⟩;obtain ⟨A5,c5,e5⟩:=Kd.S_slice hS5;subst e5;have HV5:=am' hv5;have HS5:=am' hS5;have HB5:=am' hb5;have z0:=cell_kept y0 hk5 (fun q=>by have h1:=HNO.out _ q;first|omega|(simp at h1;done)|(simp at h1;omega));have z1:=cell_kept y1 hk5 (fun q=>by have h1:=HNO.out _ q;first|omega|(simp at h1;done)|(simp at h1;omega));have z2:=cell_kept y2 hk5 (fun q=>by have h1:=HNO.out _ q;have h2:=HPN.out;have h3:=HB1.out.size;first|omega|(simp at h1;done)|(simp at h1;omega));clear hv5 hS5 hb5 hk5 ho5))
  all_goals
   have hv5:w5.cell? ⟨w1.heap.size+1+1,0,none⟩=some (.slice A5 es.length c5):=(bc' HV5.out 0).trans rfl;go_wp2;go_ret
   exact ⟨_,rfl,Kd.S_mono HS5.out (fun _ _=>trivial),(HW3.out.trans (HR4.out.mono (by have:=HW3.out.size;omega))).trans HB5.out⟩
 ·
  rw[if_neg hlen] at hs;cases hs
theorem blk_put2 {W:World} {g h:Nat} {o:Obj} {v0 v1:Value} (hb:W.heap[h]? = some o) (hne:h≠g):((W.setCell ⟨g,0,none⟩ v0).setCell ⟨g,1,none⟩ v1).heap[h]? = some o:=blk_kept hb (put2_kept W g v0 v1) hne
set_option maxHeartbeats 2000000 in
set_option maxRecDepth 100000 in
theorem party_graph2 (timed:Bool) (A0:Option Addr) (c0:Nat) (l0:List Int) (m:Int) (w:World):Calls Try.prog 30 #[.agg #[.slice A0 l0.length c0, .int .i64 m], .bool timed] w fun e w'=>∃ pn pp pt,e = .returned (.agg #[.int .i64 (wrap64 (2 * 2 ^ min l0.length 64)), .func (.func 52) #[] #[.pointer (some ⟨pn,0,none⟩), .pointer (some ⟨pp,0,none⟩), .pointer (some ⟨pt,0,none⟩)]])∧w'.heap[pn]? = some (.cells #[.int .i64 (l0.length:Int)] 3 (0,0))∧w'.heap[pp]? = some (.cells #[.slice A0 l0.length c0, .int .i64 m] 28 (0,0))∧w'.heap[pt]? = some (.cells #[.bool timed] 4 (0,0))∧(w.heap.size≤pn∧w.heap.size≤pp∧w.heap.size≤pt)∧Below w.heap.size w w':=by
 have hu:=Try.underlying28
 have hug:=Try.underlying46
 have HB:=am' (four_blocks w (.cells #[.slice A0 l0.length c0, .int .i64 m] 28) (.cells #[.bool timed] 4) (.cells #[.int .i64 (wrap64 (2 * 2 ^ min l0.length 64)), .func (.func 52) #[] #[.pointer (some ⟨w.heap.size+1+1+1,0,none⟩), .pointer (some ⟨w.heap.size,0,none⟩), .pointer (some ⟨w.heap.size+1,0,none⟩)]] 46) (.cells #[.int .i64 (l0.length:Int)] 3))
 go_enter Try.func30,Try.ntmps30
 go_wp2_with fail
 refine bodyPost_ret (results_cell_row rfl _ _ (w.heap.size+1+1) 46 #[.int .i64 (wrap64 (2 * 2 ^ min l0.length 64)), .func (.func 52) #[] #[.pointer (some ⟨w.heap.size+1+1+1,0,none⟩), .pointer (some ⟨w.heap.size,0,none⟩), .pointer (some ⟨w.heap.size+1,0,none⟩)]] (0,0) _ rfl HB.out.2.2.1 Try.underlying46 rfl xk') rfl ?_
 exact ⟨_,_,_,rfl,HB.out.2.2.2.1,HB.out.1,HB.out.2.1,⟨by omega,by omega,by omega⟩,HB.out.2.2.2.2⟩
theorem party_graph (timed:Bool) (A0:Option Addr) (c0:Nat) (l0:List Int) (m:Int) (w:World):Calls Try.prog 30 #[.agg #[.slice A0 l0.length c0, .int .i64 m], .bool timed] w fun e w'=>∃ pn pp pt,e = .returned (.agg #[.int .i64 (wrap64 (2 * 2 ^ min l0.length 64)), .func (.func 52) #[] #[.pointer (some ⟨pn,0,none⟩), .pointer (some ⟨pp,0,none⟩), .pointer (some ⟨pt,0,none⟩)]])∧w'.heap[pn]? = some (.cells #[.int .i64 (l0.length:Int)] 3 (0,0))∧w'.heap[pp]? = some (.cells #[.slice A0 l0.length c0, .int .i64 m] 28 (0,0))∧w'.heap[pt]? = some (.cells #[.bool timed] 4 (0,0))∧Below w.heap.size w w' :=
 (party_graph2 timed A0 c0 l0 m w).mono (by rintro e w' ⟨pn,pp,pt,h1,h2,h3,h4,_,h5⟩;exact ⟨pn,pp,pt,h1,h2,h3,h4,h5⟩)
theorem bkI_up {o1 o2:Int→Option (List Edg)} (ho:∀ s,LeO (o1 s) (o2 s)) (d:Nat):∀ k i dist wt,LeO (bkI o1 d k i dist wt) (bkI o2 d (k+1) i dist wt):=by
 intro k;induction k with
 | zero=>intro i dist wt r h;simp[bkI] at h
 | succ k ih =>
  intro i dist wt;rw[bkI,bkI];exact LeO.ite (LeO.ite (LeO.ite (ih _ _ _) (LeO.bind (ho _) (fun _=>LeO.bind (LeO.refl _) (fun _=>ih _ _ _)))) (LeO.refl _)) (LeO.refl _)
theorem bkD_up {o1 o2:Int→Option (List Edg)} (ho:∀ s,LeO (o1 s) (o2 s)):∀ k d dist wt,LeO (bkD o1 k d dist wt) (bkD o2 (k+1) d dist wt):=by
 intro k;induction k with
 | zero=>intro d dist wt r h;simp[bkD] at h
 | succ k ih =>
  intro d dist wt;rw[bkD,bkD];exact LeO.ite (LeO.ite (LeO.bind (bkI_up ho d _ _ _ _) (fun _=>ih _ _ _)) (LeO.refl _)) (LeO.refl _)
theorem pow_le8 {n:Nat} (h:n≤8):0 < 2 ^ (n+1)∧2 ^ (n+1)≤1024∧wrap64 (2 * 2 ^ min n 64)=((2 ^ (n+1):Nat):Int):=by
 have:n=0∨n=1∨n=2∨n=3∨n=4∨n=5∨n=6∨n=7∨n=8:=by omega
 rcases this with rfl|rfl|rfl|rfl|rfl|rfl|rfl|rfl|rfl <;> exact ⟨by decide,by decide,by decide +kernel⟩
theorem R_one {w:World} {b base:Nat} {x:Int} {e:Nat} (h:w.heap[b]? = some (.cells #[.int .i64 x] e (0,0))) (hB:base≤b):(Kd.int .i64).R e w base (fun _=>True) (.slice (some ⟨b,0,none⟩) 1 1) [x]:=by
 refine Kd.R_of_own ?_ (fun k hk=>trivial)
 exact ⟨by simp[encs], .inr ⟨b,1,_,rfl,hB,h,Nat.le_refl _,by decide,by simp,by simp[encs]⟩⟩
def impl_Party_costs.f (k:Nat) (l0_0:List Int) (a0_1:Int) (a1:Bool):Option (List Int × Bool) :=
 (impl_IsParty.f l0_0 a0_1).bind fun t=>if t=true then (if l0_0.length≤8 then (impl_last.f (l0_0.length:Int)).bind fun st=>(bkD (ptyOut k a1 l0_0 a0_1) k 0 (List.replicate (2 ^ (l0_0.length+1)) (-1)) [[st]]).bind fun r=>if r.length=2 ^ (l0_0.length+1) then some (r,decide (0≤rd r 0)) else none else none) else some ([],false)
set_option maxHeartbeats 4000000 in
set_option maxRecDepth 100000 in
theorem impl_Party_costs.calls (k:Nat) (A0_0:Option Addr) (c0_0:Nat) (l0_0:List Int) (a0_1:Int) (a1:Bool) (r:List Int) (ok:Bool) (w:World) (hr0_0:Kd.C (Kd.int .i64) w A0_0 l0_0.length l0_0) (hc0_0:l0_0.length≤c0_0) (h:impl_Party_costs.f k l0_0 a0_1 a1=some (r,ok)) :
  Calls Try.prog 22 #[.agg #[.slice A0_0 l0_0.length c0_0, .int .i64 a0_1], .bool a1] w fun e w'=>∃ pn pp pt v,e = .returned (.tuple #[.agg #[.int .i64 (wrap64 (2 * 2 ^ min l0_0.length 64)), .func (.func 52) #[] #[.pointer (some ⟨pn,0,none⟩), .pointer (some ⟨pp,0,none⟩), .pointer (some ⟨pt,0,none⟩)]],v, .bool ok])∧w'.heap[pn]? = some (.cells #[.int .i64 (l0_0.length:Int)] 3 (0,0))∧w'.heap[pp]? = some (.cells #[.slice A0_0 l0_0.length c0_0, .int .i64 a0_1] 28 (0,0))∧w'.heap[pt]? = some (.cells #[.bool a1] 4 (0,0))∧(Kd.int .i64).R 3 w' w.heap.size (fun _=>True) v r∧(ok=true→r.length=2 ^ (l0_0.length+1)∧l0_0.length≤8)∧Below w.heap.size w w':=by
 have hu:=Try.underlying28
 have hug:=Try.underlying46
 unfold impl_Party_costs.f at h
 obtain ⟨t,ht,h⟩:=Option.bind_eq_some_iff.mp h
 have HT:=am' (fun (W:World) (hb:Below w.heap.size w W)=>impl_IsParty.calls A0_0 c0_0 l0_0 a0_1 t W (cb' hr0_0 hb) hc0_0 ht)
 have HF0:=am' hr0_0
 have HC0:=am' hc0_0
 have HL2:=am' (two_blocks w (.cells #[.slice A0_0 l0_0.length c0_0, .int .i64 a0_1] 28) (.cells #[.int .i64 0,Value.nilFunc] 46))
 obtain ⟨mv,hmv⟩:∃ x,x=wrap64 (2 * 2 ^ min l0_0.length 64):=⟨_,rfl⟩
 have HG:=am' (fun (W:World)=>party_graph a1 A0_0 c0_0 l0_0 a0_1 W)
 rw[← hmv] at HG ⊢
 have HMV:=am' hmv
 clear hmv hr0_0 hc0_0 ht;cases t with
 | false =>
  simp only[Bool.false_eq_true,if_false,Option.some.injEq,Prod.mk.injEq] at h;obtain ⟨rfl,rfl⟩:=h;go_enter Try.func22,Try.ntmps22;go_wp2_with fail;refine (HG.out _).mono ?_
  rintro e w3 ⟨pn,pp,pt,rfl,hpn,hpp,hpt,hb3⟩
  have J5:=am' (heap_alloc_new w3 (.cells #[.int .i64 mv, .func (.func 52) #[] #[.pointer (some ⟨pn,0,none⟩), .pointer (some ⟨pp,0,none⟩), .pointer (some ⟨pt,0,none⟩)]] 46));have J1:=am' (ka' (bb' HL2.out.1 hb3) (.cells #[.int .i64 mv, .func (.func 52) #[] #[.pointer (some ⟨pn,0,none⟩), .pointer (some ⟨pp,0,none⟩), .pointer (some ⟨pt,0,none⟩)]] 46));have HP2L:=am' (blk_lt (bb' HL2.out.2.1 hb3));have J2:=am' (ka' (bb' HL2.out.2.1 hb3) (.cells #[.int .i64 mv, .func (.func 52) #[] #[.pointer (some ⟨pn,0,none⟩), .pointer (some ⟨pp,0,none⟩), .pointer (some ⟨pt,0,none⟩)]] 46));have JN:=am' (ka' hpn (.cells #[.int .i64 mv, .func (.func 52) #[] #[.pointer (some ⟨pn,0,none⟩), .pointer (some ⟨pp,0,none⟩), .pointer (some ⟨pt,0,none⟩)]] 46));have JP:=am' (ka' hpp (.cells #[.int .i64 mv, .func (.func 52) #[] #[.pointer (some ⟨pn,0,none⟩), .pointer (some ⟨pp,0,none⟩), .pointer (some ⟨pt,0,none⟩)]] 46));have JT:=am' (ka' hpt (.cells #[.int .i64 mv, .func (.func 52) #[] #[.pointer (some ⟨pn,0,none⟩), .pointer (some ⟨pp,0,none⟩), .pointer (some ⟨pt,0,none⟩)]] 46));have NEn:=am' (show pn≠w.heap.size+1 from fun q=>by have h1:=hpn;rw[q,bb' HL2.out.2.1 hb3] at h1;simp at h1);have NEp:=am' (show pp≠w.heap.size+1 from fun q=>by have h1:=hpp;rw[q,bb' HL2.out.2.1 hb3] at h1;simp at h1);have NEt:=am' (show pt≠w.heap.size+1 from fun q=>by have h1:=hpt;rw[q,bb' HL2.out.2.1 hb3] at h1;simp at h1);have HBJ:=am' (ba' (bt' HL2.out.2.2 hb3) (.cells #[.int .i64 mv, .func (.func 52) #[] #[.pointer (some ⟨pn,0,none⟩), .pointer (some ⟨pp,0,none⟩), .pointer (some ⟨pt,0,none⟩)]] 46));have x10:(w3.alloc (.cells #[.int .i64 mv, .func (.func 52) #[] #[.pointer (some ⟨pn,0,none⟩), .pointer (some ⟨pp,0,none⟩), .pointer (some ⟨pt,0,none⟩)]] 46)).cell? ⟨w.heap.size,0,none⟩=some (.slice A0_0 l0_0.length c0_0):=(bc' J1.out 0).trans rfl;have x11:(w3.alloc (.cells #[.int .i64 mv, .func (.func 52) #[] #[.pointer (some ⟨pn,0,none⟩), .pointer (some ⟨pp,0,none⟩), .pointer (some ⟨pt,0,none⟩)]] 46)).cell? ⟨w.heap.size,1,none⟩=some (.int .i64 a0_1):=(bc' J1.out 1).trans rfl;clear hpn hpp hpt hb3;go_wp2_with fail;refine (HT.out _ HBJ.out).mono ?_
  rintro e w5 ⟨rfl,hb4⟩
  have K1:=am' (bb' J1.out hb4);have K2:=am' (bb' J2.out hb4);have K5:=am' (bb' J5.out hb4);have KN:=am' (bb' JN.out hb4);have KP:=am' (bb' JP.out hb4);have KT:=am' (bb' JT.out hb4);have HBL:=am' (bt' HBJ.out hb4);clear x10 x11 hb4;have x10:w5.cell? ⟨w.heap.size,0,none⟩=some (.slice A0_0 l0_0.length c0_0):=(bc' K1.out 0).trans rfl;have x50:w5.cell? ⟨w3.heap.size,0,none⟩=some (.int .i64 mv):=(bc' K5.out 0).trans rfl;have x51:w5.cell? ⟨w3.heap.size,1,none⟩=some (.func (.func 52) #[] #[.pointer (some ⟨pn,0,none⟩), .pointer (some ⟨pp,0,none⟩), .pointer (some ⟨pt,0,none⟩)]):=(bc' K5.out 1).trans rfl;obtain ⟨c0_,f0_,c1_,f1_⟩:=put2 K2.out (.int .i64 mv) (.func (.func 52) #[] #[.pointer (some ⟨pn,0,none⟩), .pointer (some ⟨pp,0,none⟩), .pointer (some ⟨pt,0,none⟩)]);go_wp2_with fail;refine bodyPost_ret (results_ctt rfl _ _ (w.heap.size+1) 46 #[.int .i64 mv, .func (.func 52) #[] #[.pointer (some ⟨pn,0,none⟩), .pointer (some ⟨pp,0,none⟩), .pointer (some ⟨pt,0,none⟩)]] (0,0) _ rfl (put2_blk K2.out _ _) Try.underlying46 rfl xk') rfl ?_
  exact ⟨pn,pp,pt,_,rfl,blk_put2 KN.out NEn.out,blk_put2 KP.out NEp.out,blk_put2 KT.out NEt.out,Kd.R_nil _ _ _ _ _,(fun q=>by cases q),bs' (bs' HBL.out (by omega)) (by omega)⟩
 | true =>
  simp only[if_true] at h;by_cases hl8:l0_0.length≤8
  ·
   rw[if_pos hl8] at h;obtain ⟨st,hst,h⟩:=Option.bind_eq_some_iff.mp h;obtain ⟨rr,hd,h⟩:=Option.bind_eq_some_iff.mp h;by_cases hlen:rr.length=2 ^ (l0_0.length+1)
   ·
    rw[if_pos hlen] at h;simp only[Option.some.injEq,Prod.mk.injEq] at h;obtain ⟨rfl,rfl⟩:=h;obtain ⟨hp0,hp1,hp2⟩:=pow_le8 hl8;obtain ⟨N,hN⟩:∃ x,x=2 ^ (l0_0.length+1):=⟨_,rfl⟩
    rw[← hN] at hp0 hp1 hp2 hd hlen;have HN:=am' hN;have hmvN:=HMV.out.trans hp2;have HMN:=am' hmvN;have HD:=am' hd;have HLEN:=am' hlen;have HST:=am' (fun (W:World)=>impl_last.calls (l0_0.length:Int) st W hst);have HP0:=am' hp0;have HP1:=am' hp1;have HL8:=am' hl8;clear hp0 hp1 hp2 hN hmvN hd hlen hst hl8;go_enter Try.func22,Try.ntmps22;go_wp2_with fail;refine (HG.out _).mono ?_
    rintro e w3 ⟨pn,pp,pt,rfl,hpn,hpp,hpt,hb3⟩
    have J5:=am' (heap_alloc_new w3 (.cells #[.int .i64 mv, .func (.func 52) #[] #[.pointer (some ⟨pn,0,none⟩), .pointer (some ⟨pp,0,none⟩), .pointer (some ⟨pt,0,none⟩)]] 46));have J1:=am' (ka' (bb' HL2.out.1 hb3) (.cells #[.int .i64 mv, .func (.func 52) #[] #[.pointer (some ⟨pn,0,none⟩), .pointer (some ⟨pp,0,none⟩), .pointer (some ⟨pt,0,none⟩)]] 46));have HP2L:=am' (blk_lt (bb' HL2.out.2.1 hb3));have J2:=am' (ka' (bb' HL2.out.2.1 hb3) (.cells #[.int .i64 mv, .func (.func 52) #[] #[.pointer (some ⟨pn,0,none⟩), .pointer (some ⟨pp,0,none⟩), .pointer (some ⟨pt,0,none⟩)]] 46));have JN:=am' (ka' hpn (.cells #[.int .i64 mv, .func (.func 52) #[] #[.pointer (some ⟨pn,0,none⟩), .pointer (some ⟨pp,0,none⟩), .pointer (some ⟨pt,0,none⟩)]] 46));have JP:=am' (ka' hpp (.cells #[.int .i64 mv, .func (.func 52) #[] #[.pointer (some ⟨pn,0,none⟩), .pointer (some ⟨pp,0,none⟩), .pointer (some ⟨pt,0,none⟩)]] 46));have JT:=am' (ka' hpt (.cells #[.int .i64 mv, .func (.func 52) #[] #[.pointer (some ⟨pn,0,none⟩), .pointer (some ⟨pp,0,none⟩), .pointer (some ⟨pt,0,none⟩)]] 46));have NEn:=am' (show pn≠w.heap.size+1 from fun q=>by have h1:=hpn;rw[q,bb' HL2.out.2.1 hb3] at h1;simp at h1);have NEp:=am' (show pp≠w.heap.size+1 from fun q=>by have h1:=hpp;rw[q,bb' HL2.out.2.1 hb3] at h1;simp at h1);have NEt:=am' (show pt≠w.heap.size+1 from fun q=>by have h1:=hpt;rw[q,bb' HL2.out.2.1 hb3] at h1;simp at h1);have HBJ:=am' (ba' (bt' HL2.out.2.2 hb3) (.cells #[.int .i64 mv, .func (.func 52) #[] #[.pointer (some ⟨pn,0,none⟩), .pointer (some ⟨pp,0,none⟩), .pointer (some ⟨pt,0,none⟩)]] 46));have x10:(w3.alloc (.cells #[.int .i64 mv, .func (.func 52) #[] #[.pointer (some ⟨pn,0,none⟩), .pointer (some ⟨pp,0,none⟩), .pointer (some ⟨pt,0,none⟩)]] 46)).cell? ⟨w.heap.size,0,none⟩=some (.slice A0_0 l0_0.length c0_0):=(bc' J1.out 0).trans rfl;have x11:(w3.alloc (.cells #[.int .i64 mv, .func (.func 52) #[] #[.pointer (some ⟨pn,0,none⟩), .pointer (some ⟨pp,0,none⟩), .pointer (some ⟨pt,0,none⟩)]] 46)).cell? ⟨w.heap.size,1,none⟩=some (.int .i64 a0_1):=(bc' J1.out 1).trans rfl;clear hpn hpp hpt hb3;go_wp2_with fail;refine (HT.out _ HBJ.out).mono ?_
    rintro e w5 ⟨rfl,hb4⟩
    have K1:=am' (bb' J1.out hb4);have K2:=am' (bb' J2.out hb4);have K5:=am' (bb' J5.out hb4);have KN:=am' (bb' JN.out hb4);have KP:=am' (bb' JP.out hb4);have KT:=am' (bb' JT.out hb4);have HBL:=am' (bt' HBJ.out hb4);clear x10 x11 hb4;have x10:w5.cell? ⟨w.heap.size,0,none⟩=some (.slice A0_0 l0_0.length c0_0):=(bc' K1.out 0).trans rfl;have x50:w5.cell? ⟨w3.heap.size,0,none⟩=some (.int .i64 mv):=(bc' K5.out 0).trans rfl;have x51:w5.cell? ⟨w3.heap.size,1,none⟩=some (.func (.func 52) #[] #[.pointer (some ⟨pn,0,none⟩), .pointer (some ⟨pp,0,none⟩), .pointer (some ⟨pt,0,none⟩)]):=(bc' K5.out 1).trans rfl;obtain ⟨c0_,f0_,c1_,f1_⟩:=put2 K2.out (.int .i64 mv) (.func (.func 52) #[] #[.pointer (some ⟨pn,0,none⟩), .pointer (some ⟨pp,0,none⟩), .pointer (some ⟨pt,0,none⟩)]);go_wp2_with fail;have HW5:=am' (Below.refl w5.heap.size w5);refine start_ (n:=8) (S:=fun w'=>w'.cell? ⟨w3.heap.size,0,none⟩=some (.int .i64 mv)∧w'.cell? ⟨w3.heap.size,1,none⟩=some (.func (.func 52) #[] #[.pointer (some ⟨pn,0,none⟩), .pointer (some ⟨pp,0,none⟩), .pointer (some ⟨pt,0,none⟩)])∧w'.cell? ⟨w.heap.size,0,none⟩=some (.slice A0_0 l0_0.length c0_0)) (ds:=[]) #[false,false,false,false,false,false,false,false] xk' rfl rfl ⟨x50,x51,x10⟩ (fun hHeld=>?_);refine take_ (i:=0) (N:=some 16) (v:=?_) (a':=?_) #[true,false,false,false,false,false,false,false] rfl rfl xk' (fun _ _ _ h=>h) (Or.inl ⟨by rfl,?_⟩) hHeld ?_ ?_
    rotate_left
    ·
     rintro w' ⟨s0_,s1_,s2_⟩
     go_simp;with_reducible rfl
    rotate_left
    ·
     simp only[Act.put,sa',sb',sc',i64_w,i32_w];rfl
    refine pure_ (i:=1) (N:=some 17) (v:=?_) (a':=?_) #[true,true,false,false,false,false,false,false] rfl rfl xk' (fun _ _ _ h=>h) (Or.inl ⟨by rfl,?_⟩) ?_ ?_
    rotate_left
    ·
     intro w';go_simp;with_reducible rfl
    rotate_left
    ·
     simp only[Act.put,sa',sb',sc',i64_w,i32_w];rfl
    refine take_ (i:=2) (N:=some 18) (v:=?_) (a':=?_) #[true,true,true,false,false,false,false,false] rfl rfl xk' (fun _ _ _ h=>h) (Or.inl ⟨by rfl,?_⟩) hHeld ?_ ?_
    rotate_left
    ·
     rintro w' ⟨s0_,s1_,s2_⟩
     go_simp;with_reducible rfl
    rotate_left
    ·
     simp only[Act.put,sa',sb',sc',i64_w,i32_w];rfl
    refine pure_ (i:=3) (N:=some 19) (v:=?_) (a':=?_) #[true,true,true,true,false,false,false,false] rfl rfl xk' (fun _ _ _ h=>h) (Or.inl ⟨by rfl,?_⟩) ?_ ?_
    rotate_left
    ·
     intro w';go_simp;with_reducible rfl
    rotate_left
    ·
     simp only[Act.put,sa',sb',sc',i64_w,i32_w];rfl
    refine one_ (i:=4) (N:=some 20) #[true,true,true,true,true,false,false,false] rfl rfl xk' (by decide) (fun K hK=>?_);refine goes_ Try.func47 xk' rfl #[.int .i64 (l0_0.length:Int)] (by rfl) rfl rfl (by (try simp only[List.map_toArray,List.map_cons,List.map_nil]);first|done|rfl) ?_
    refine (HST.out _).mono ?_
    rintro e w6 ⟨rfl,⟨nd,rfl⟩⟩
    refine ⟨_,rfl,?_⟩;refine hK.out _ _ ⟨x50,x51,x10⟩ (fun hHeld=>?_);clear hK K;refine norm_ (a':=?_) ?_ ?_
    rotate_left
    ·
     show Act.put _ (some 20) _=_
     simp only[Act.put,sa',sb',sc',i64_w,i32_w];rfl
    refine one_ (i:=5) (N:=some 21) #[true,true,true,true,true,true,false,false] rfl rfl xk' (by decide) (fun K hK=>?_);refine value_ (v := .slice (some ⟨w5.heap.size,0,none⟩) 1 1) (w1:=((w5.drew.drewN nd).alloc (.cells #[.int .i64 st] 3))) (by rfl) rfl ?_ ?_
    ·
     go_simp
    refine hK.out _ _ ⟨((ba' (bd' (below_drew (Below.refl w5.heap.size w5)) nd) _).cell (bl' w5 _ x50)).trans x50,((ba' (bd' (below_drew (Below.refl w5.heap.size w5)) nd) _).cell (bl' w5 _ x51)).trans x51,((ba' (bd' (below_drew (Below.refl w5.heap.size w5)) nd) _).cell (bl' w5 _ x10)).trans x10⟩ (fun hHeld=>?_);clear hK K;refine norm_ (a':=?_) ?_ ?_
    rotate_left
    ·
     show Act.put _ (some 21) _=_
     simp only[Act.put,sa',sb',sc',i64_w,i32_w];rfl
    refine one_ (i:=6) (N:=some 22) #[true,true,true,true,true,true,true,false] rfl rfl xk' (by decide) (fun K hK=>?_);have HSTB:=am' (ba' (bd' (below_drew (Below.refl w5.heap.size w5)) nd) (.cells #[.int .i64 st] 3));refine goes_ Try.func31 xk' rfl #[.agg #[.int .i64 mv, .func (.func 52) #[] #[.pointer (some ⟨pn,0,none⟩), .pointer (some ⟨pp,0,none⟩), .pointer (some ⟨pt,0,none⟩)]], .slice (some ⟨w5.heap.size,0,none⟩) 1 1] (by rfl) rfl rfl (by (try simp only[List.map_toArray,List.map_cons,List.map_nil]);first|done|rfl) ?_
    rw[HMN.out];refine (from_any 52 #[.pointer (some ⟨pn,0,none⟩), .pointer (some ⟨pp,0,none⟩), .pointer (some ⟨pt,0,none⟩)] (ptyOut k a1 l0_0 a0_1) k N [st] rr w5 _ (enters_of Try.func52 xk' rfl) (party_out k a1 A0_0 c0_0 l0_0 a0_1 pn pp pt w5 KN.out KP.out KT.out (cb' HF0.out HBL.out) HC0.out) (some ⟨w5.heap.size,0,none⟩) 1 (R_one (heap_alloc_new (w5.drew.drewN nd) _) (Nat.le_refl _)) HSTB.out HP0.out HP1.out HD.out).mono ?_
    rintro e w7 ⟨v7,rfl,hr7,hb7⟩
    obtain ⟨gd,cd,hv7,_⟩:=Kd.R_form hr7 (by have h1:=HLEN.out;have h2:=HP0.out;omega);rw[HLEN.out] at hv7;subst hv7;have HR7:=am' hr7;have M1:=am' (bb' K1.out hb7);have M2:=am' (bb' K2.out hb7);have M5:=am' (bb' K5.out hb7);have MN:=am' (bb' KN.out hb7);have MP:=am' (bb' KP.out hb7);have MT:=am' (bb' KT.out hb7);have HBN:=am' (bt' HBL.out hb7);have HW56:=am' (Nat.le_refl w5.heap.size);have m50:w7.cell? ⟨w3.heap.size,0,none⟩=some (.int .i64 mv):=(bc' M5.out 0).trans rfl;have m51:w7.cell? ⟨w3.heap.size,1,none⟩=some (.func (.func 52) #[] #[.pointer (some ⟨pn,0,none⟩), .pointer (some ⟨pp,0,none⟩), .pointer (some ⟨pt,0,none⟩)]):=(bc' M5.out 1).trans rfl;have m10:w7.cell? ⟨w.heap.size,0,none⟩=some (.slice A0_0 l0_0.length c0_0):=(bc' M1.out 0).trans rfl;clear hr7 hb7 x10 x50 x51 c0_ f0_ c1_ f1_;refine ⟨_,rfl,?_⟩;refine hK.out _ _ ⟨m50,m51,m10⟩ (fun hHeld=>?_);clear hK K;refine norm_ (a':=?_) ?_ ?_
    rotate_left
    ·
     show Act.put _ (some 22) _=_
     simp only[Act.put,sa',sb',sc',i64_w,i32_w];rfl
    refine pure_ (i:=7) (N:=some 8) (v:=?_) (a':=?_) #[true,true,true,true,true,true,true,true] rfl rfl xk' (fun _ _ _ h=>h) (Or.inl ⟨by rfl,?_⟩) ?_ ?_
    rotate_left
    ·
     intro w';go_simp;with_reducible rfl
    rotate_left
    ·
     simp only[Act.put,sa',sb',sc',i64_w,i32_w];rfl
    refine done_ xk' ?_
    go_wp2_with fail;obtain ⟨dv,hdv⟩:∃ x,x=rd rr 0:=⟨_,rfl⟩
    have hx0:w7.cell? ⟨gd,0,none⟩=some (.int .i64 dv):=by
     have:=(Kd.R_celln 0 HR7.out 0 (by omega) (by have:=HP0.out;omega)).1;rw[hdv];simpa [rd,rdOf] using this
    have hl0:(0:Int) < (N:Int):=by have:=HP0.out;omega
    have hl1:0 < N:=HP0.out;have HDV:=am' hdv;clear hdv;have HKP:=am' (put2_kept w7 (w.heap.size+1) (.int .i64 mv) (.func (.func 52) #[] #[.pointer (some ⟨pn,0,none⟩), .pointer (some ⟨pp,0,none⟩), .pointer (some ⟨pt,0,none⟩)]));have hz2:=blk_lt M2.out;have HGD:=am' (show gd≠w.heap.size+1 from fun q=>by have h1:=Kd.R_base HR7.out gd (by simp[Value.ownBlock]);have h3:=blk_lt K2.out;have h4:=HW56.out;omega);have q0:=cell_kept m50 HKP.out (fun q=>by dsimp only at q;have:=HP2L.out;omega);have q1:=cell_kept m51 HKP.out (fun q=>by dsimp only at q;have:=HP2L.out;omega);have q2:=cell_kept hx0 HKP.out (fun q=>HGD.out q);obtain ⟨c0_,f0_,c1_,f1_⟩:=put2 M2.out (.int .i64 mv) (.func (.func 52) #[] #[.pointer (some ⟨pn,0,none⟩), .pointer (some ⟨pp,0,none⟩), .pointer (some ⟨pt,0,none⟩)]);clear hz2;refine start_ (n:=9) (S:=fun w'=>w'.cell? ⟨w3.heap.size,0,none⟩=some (.int .i64 mv)∧w'.cell? ⟨w3.heap.size,1,none⟩=some (.func (.func 52) #[] #[.pointer (some ⟨pn,0,none⟩), .pointer (some ⟨pp,0,none⟩), .pointer (some ⟨pt,0,none⟩)])∧w'.cell? ⟨gd,0,none⟩=some (.int .i64 dv)) (ds:=[]) #[false,false,false,false,false,false,false,false,false] xk' rfl rfl ⟨m50,m51,hx0⟩ (fun hHeld=>?_);refine take_ (i:=0) (N:=some 23) (v:=?_) (a':=?_) #[true,false,false,false,false,false,false,false,false] rfl rfl xk' (fun _ _ _ h=>h) (Or.inl ⟨by rfl,?_⟩) hHeld ?_ ?_
    rotate_left
    ·
     rintro w' ⟨s0_,s1_,s2_⟩
     go_simp;with_reducible rfl
    rotate_left
    ·
     simp only[Act.put,sa',sb',sc',i64_w,i32_w];rfl
    refine pure_ (i:=1) (N:=some 24) (v:=?_) (a':=?_) #[true,true,false,false,false,false,false,false,false] rfl rfl xk' (fun _ _ _ h=>h) (Or.inl ⟨by rfl,?_⟩) ?_ ?_
    rotate_left
    ·
     intro w';go_simp;with_reducible rfl
    rotate_left
    ·
     simp only[Act.put,sa',sb',sc',i64_w,i32_w];rfl
    refine pure_ (i:=2) (N:=some 25) (v:=?_) (a':=?_) #[true,true,true,false,false,false,false,false,false] rfl rfl xk' (fun _ _ _ h=>h) (Or.inl ⟨by rfl,?_⟩) ?_ ?_
    rotate_left
    ·
     intro w';go_simp;with_reducible rfl
    rotate_left
    ·
     simp only[Act.put,sa',sb',sc',i64_w,i32_w];rfl
    refine pure_ (i:=3) (N:=some 26) (v:=?_) (a':=?_) #[true,true,true,true,false,false,false,false,false] rfl rfl xk' (fun _ _ _ h=>h) (Or.inl ⟨by rfl,?_⟩) ?_ ?_
    rotate_left
    ·
     intro w';go_simp;with_reducible rfl
    rotate_left
    ·
     simp only[Act.put,sa',sb',sc',i64_w,i32_w];rfl
    refine take_ (i:=4) (N:=some 27) (v:=?_) (a':=?_) #[true,true,true,true,true,false,false,false,false] rfl rfl xk' (fun _ _ _ h=>h) (Or.inl ⟨by rfl,?_⟩) hHeld ?_ ?_
    rotate_left
    ·
     rintro w' ⟨s0_,s1_,s2_⟩
     go_simp;with_reducible rfl
    rotate_left
    ·
     simp only[Act.put,sa',sb',sc',i64_w,i32_w];rfl
    refine pure_ (i:=5) (N:=some 28) (v:=?_) (a':=?_) #[true,true,true,true,true,true,false,false,false] rfl rfl xk' (fun _ _ _ h=>h) (Or.inl ⟨by rfl,?_⟩) ?_ ?_
    rotate_left
    ·
     intro w';go_simp;with_reducible rfl
    rotate_left
    ·
     simp only[Act.put,sa',sb',sc',i64_w,i32_w];rfl
    refine one_ (i:=6) (N:=none) #[true,true,true,true,true,true,true,false,false] rfl rfl xk' (by decide) (fun K hK=>?_);refine skip_ (w1:=?_) (by rfl) rfl ?_ ?_
    rotate_left
    ·
     go_simp;rfl
    refine hK.out _ _ ⟨q0,q1,q2⟩ (fun hHeld=>?_);clear hK K;refine pure_ (i:=7) (N:=some 5) (v:=?_) (a':=?_) #[true,true,true,true,true,true,true,true,false] rfl rfl xk' (fun _ _ _ h=>h) (Or.inl ⟨by rfl,?_⟩) ?_ ?_
    rotate_left
    ·
     intro w';go_simp;with_reducible rfl
    rotate_left
    ·
     simp only[Act.put,sa',sb',sc',i64_w,i32_w];rfl
    refine pure_ (i:=8) (N:=some 6) (v:=?_) (a':=?_) #[true,true,true,true,true,true,true,true,true] rfl rfl xk' (fun _ _ _ h=>h) (Or.inl ⟨by rfl,?_⟩) ?_ ?_
    rotate_left
    ·
     intro w';go_simp;with_reducible rfl
    rotate_left
    ·
     simp only[Act.put,sa',sb',sc',i64_w,i32_w];rfl
    refine done_ xk' ?_
    have hsz5:=blk_lt K2.out;have hszw:=HBN.out.size;have h56:=HW56.out;have hRR:(Kd.int .i64).R 3 ((w7.setCell ⟨w.heap.size+1,0,none⟩ (.int .i64 mv)).setCell ⟨w.heap.size+1,1,none⟩ (.func (.func 52) #[] #[.pointer (some ⟨pn,0,none⟩), .pointer (some ⟨pp,0,none⟩), .pointer (some ⟨pt,0,none⟩)])) w.heap.size (fun _=>True) (.slice (some ⟨gd,0,none⟩) N cd) rr:=Kd.R_lower (Kd.R_mono (Kd.R_kept (Kd.R_bound HR7.out) HKP.out (fun k hk q=>by have h1:=hk.2.1;omega)) (fun _ _=>trivial)) (by omega);have hBB:Below w.heap.size w ((w7.setCell ⟨w.heap.size+1,0,none⟩ (.int .i64 mv)).setCell ⟨w.heap.size+1,1,none⟩ (.func (.func 52) #[] #[.pointer (some ⟨pn,0,none⟩), .pointer (some ⟨pp,0,none⟩), .pointer (some ⟨pt,0,none⟩)])):=bs' (bs' HBN.out (by omega)) (by omega);have HRR:=am' hRR;have HBB:=am' hBB;clear hRR hBB hsz5 hszw h56;go_wp2;refine bodyPost_ret (results_ctt rfl _ _ (w.heap.size+1) 46 #[.int .i64 mv, .func (.func 52) #[] #[.pointer (some ⟨pn,0,none⟩), .pointer (some ⟨pp,0,none⟩), .pointer (some ⟨pt,0,none⟩)]] (0,0) _ rfl (put2_blk M2.out _ _) Try.underlying46 rfl xk') rfl ?_
    refine ⟨pn,pp,pt, .slice (some ⟨gd,0,none⟩) N cd,by rw[← HDV.out];rfl,blk_put2 MN.out NEn.out,blk_put2 MP.out NEp.out,blk_put2 MT.out NEt.out,?_,(fun _=>⟨HLEN.out.trans HN.out,HL8.out⟩),?_⟩
    ·
     exact HRR.out
    ·
     first|exact HBB.out|exact below_drew HBB.out|exact bd' HBB.out _
   ·
    rw[if_neg hlen] at h;cases h
  ·
   rw[if_neg hl8] at h;cases h
end Go.Proofs.Ytihieplobgehaaa.C2
