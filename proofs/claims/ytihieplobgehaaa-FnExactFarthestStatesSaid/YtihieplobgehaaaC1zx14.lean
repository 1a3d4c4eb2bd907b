import Derived.Test.YtihieplobgehaaaC1zx0
import Derived.Test.YtihieplobgehaaaC1zx9
import Derived.Test.YtihieplobgehaaaC1zx10
import Derived.Test.YtihieplobgehaaaC1zx11
import Derived.Test.YtihieplobgehaaaC1zx12
import Derived.Test.YtihieplobgehaaaC1zx13
import Derived.Test.YtihieplobgehaaaC1zAl
namespace Go.Proofs.Ytihieplobgehaaa.C1
open Go.RowKit Go.Proofs.YtihieplobgehaaaW.PrintWords Go.Proofs.YtihieplobgehaaaW.PrintLast Go.Proofs.YtihieplobgehaaaW.PrintMore Go.Proofs.Ytihieplobgehaaa.H
attribute [local go_sem] max2_int min2_int max_two min_two max_three min_three max_four min_four
set_option linter.unusedVariables false
set_option linter.unusedSimpArgs false
def EOutInv (B bo:Nat) (s:List Edg) (W:World) (O:Nat→Prop):Prop :=
 ∃ v,W.heap[bo]? = some (.cells #[v] 80 (0,0))∧B≤bo∧Kd.S EdgK 76 W B (fun k=>k≠bo) v s∧O=(fun k=>k=bo∨some k=v.ownBlock)
theorem EOutInv.lt {B bo:Nat} (s:List Edg) (W:World) (O:Nat→Prop) (h:EOutInv B bo s W O):∀ k,O k→B≤k∧k < W.heap.size:=by
 obtain ⟨v,hb,hB,hS,rfl⟩:=h
 rintro k (rfl|hk)
 ·
  exact ⟨hB,blk_lt hb⟩
 ·
  exact ⟨Kd.S_base hS k hk.symm,Kd.S_lt hS k hk.symm⟩
theorem EOutInv.below {B bo:Nat} {s:List Edg} {W W1:World} {O:Nat→Prop} (h:EOutInv B bo s W O) (hb:Below W.heap.size W W1):EOutInv B bo s W1 O:=by
 obtain ⟨v,h1,h2,h3,h4⟩:=h
 exact ⟨v,blk_below h1 hb,h2,Kd.S_below h3 hb,h4⟩
structure PtyFr (pt pp ps:Nat) (timed:Bool) (A0:Option Addr) (c0:Nat) (l0:List Int) (m:Int) (A1:Option Addr) (c1:Nat) (ov:List Bool) (tr:Bool) (W:World) (O:Nat→Prop):Prop where
 bt:W.heap[pt]? = some (.cells #[.bool timed] 4 (0,0))
 bp:W.heap[pp]? = some (.cells #[.slice A0 l0.length c0, .int .i64 m] 28 (0,0))
 bs:W.heap[ps]? = some (.cells #[.slice A1 ov.length c1, .bool tr] 54 (0,0))
 nt:¬ O pt
 np:¬ O pp
 ns:¬ O ps
 f0:Kd.F (Kd.int .i64) W (fun k=>¬ O k) A0 l0.length l0
 f1:Kd.F Kd.bool W (fun k=>¬ O k) A1 ov.length ov
 h0:l0.length≤c0
 h1:ov.length≤c1
section
variable {pt pp ps:Nat} {timed:Bool} {A0:Option Addr} {c0:Nat} {l0:List Int} {m:Int} {A1:Option Addr} {c1:Nat} {ov:List Bool} {tr:Bool}
theorem PtyFr.turn {w W:World} {O O':Nat→Prop} (h:PtyFr pt pp ps timed A0 c0 l0 m A1 c1 ov tr w O) (hk:Kept w W O) (ho:∀ k,O' k→O k∨w.heap.size≤k):PtyFr pt pp ps timed A0 c0 l0 m A1 c1 ov tr W O':=by
 have lt:∀ {p:Nat} {o:Obj},w.heap[p]? = some o→¬ O p→¬ O' p:=fun hp hn h=>by
  rcases ho _ h with q|q
  ·
   exact hn q
  ·
   have:=blk_lt hp;omega
 exact ⟨blk_kept h.bt hk h.nt,blk_kept h.bp hk h.np,blk_kept h.bs hk h.ns,lt h.bt h.nt,lt h.bp h.np,lt h.bs h.ns,
  Kd.F_mono (Kd.F_kept (Kd.F_bound h.f0) hk (fun _ q=>q.1)) (fun k q q2=>by rcases ho k q2 with q3|q3;exact q.1 q3;omega),
  Kd.F_mono (Kd.F_kept (Kd.F_bound h.f1) hk (fun _ q=>q.1)) (fun k q q2=>by rcases ho k q2 with q3|q3;exact q.1 q3;omega),h.h0,h.h1⟩
end
def ptyInv (B bo pt pp ps:Nat) (timed:Bool) (A0:Option Addr) (c0:Nat) (l0:List Int) (m:Int) (A1:Option Addr) (c1:Nat) (ov:List Bool) (tr:Bool) (s:List Edg) (W:World) (O:Nat→Prop):Prop:=EOutInv B bo s W O∧PtyFr pt pp ps timed A0 c0 l0 m A1 c1 ov tr W O
def ptyCost (k:Nat) (timed:Bool) (l0 l:List Int):Option Int:=if timed=true then impl_slowest.f k l0 l else some 1
def ptyStep (k:Nat) (timed:Bool) (l0:List Int) (ov:List Bool) (tr:Bool) (s:List Edg) (l:List Int):Option (List Edg) :=
 (ptyCost k timed l0 l).bind fun c=>(impl_State_moved.f k ov tr l).bind fun mm=>(impl_State_code.f k mm.1 mm.2).bind fun cd=>if s.length < 1099511627776 then some (s ++ [(cd,c,l)]) else none
theorem M_edge {W:World} {B:Nat} {okp:Nat→Prop} {x c:Int} {v:Value} {l:List Int} (h:(Kd.int .i64).R 3 W B okp v l):EdgK.M W B okp (x,c,l) [.int .i64 x, .int .i64 c,v]:=⟨[.int .i64 x],_,rfl,rfl,[.int .i64 c],_,rfl,rfl,v,rfl,h⟩
set_option maxHeartbeats 4000000 in
set_option maxRecDepth 100000 in
theorem party1_each (k:Nat) (B bo pt pp ps:Nat) (timed:Bool) (A0:Option Addr) (c0:Nat) (l0:List Int) (m:Int) (A1:Option Addr) (c1:Nat) (ov:List Bool) (tr:Bool):EachOk B 56 #[.pointer (some ⟨pt,0,none⟩), .pointer (some ⟨pp,0,none⟩), .pointer (some ⟨bo,0,none⟩), .pointer (some ⟨ps,0,none⟩)] (ptyInv B bo pt pp ps timed A0 c0 l0 m A1 c1 ov tr) (ptyStep k timed l0 ov tr):=by
 intro s s' O W0 W vl l hinv hbel hR hs;obtain ⟨hout,hfr⟩:=hinv
 have hfr:=hfr.turn (O':=O) (Kept.of_below hbel O) (fun _ h => .inl h)
 obtain ⟨Al,cl,rfl,hlc,hC⟩:=Kd.R_reads hR
 unfold ptyStep at hs
 obtain ⟨c,hcost,hs⟩:=Option.bind_eq_some_iff.mp hs
 obtain ⟨⟨mo,mt⟩,hmv,hs⟩:=Option.bind_eq_some_iff.mp hs
 obtain ⟨cd,hcd,hs⟩:=Option.bind_eq_some_iff.mp hs
 dsimp only at hmv hcd
 have hu0:=Try.underlying28
 have hu1:=Try.underlying54
 have hue:=Try.underlying76
 have hinfoE:=am' (show (Try.prog.info? 76).map (fun i=>(i.zero,i.size,i.bytes))=some (some (.agg #[.int .i64 0, .int .i64 0, .slice none 0 0]),3,40) by kernel_rfl)
 obtain ⟨v,hbo,hB,hS,rfl⟩:=hout
 obtain ⟨hlim,rfl⟩:s.length < 1099511627776∧s ++ [(cd,c,l)]=s':=by
  by_cases h:s.length < 1099511627776
  ·
   rw[if_pos h] at hs;exact ⟨h,Option.some.inj hs⟩
  ·
   rw[if_neg h] at hs;cases hs
 have HM:=am' (fun (W1:World) (hb:Below W.heap.size W W1)=>impl_State_moved.calls k A1 c1 ov tr Al cl l mo mt W1 (Kd.C_below (Kd.F_now hfr.f1) hb) hfr.h1 (Kd.C_below hC hb) hlc hmv)
 have HC:=am' (fun (W1:World) (A2:Option Addr) (c2:Nat) (hc:Kd.C Kd.bool W1 A2 mo.length mo) (hl:mo.length≤c2)=>impl_State_code.calls k A2 c2 mo mt cd W1 hc hl hcd)
 have HSL:=am' (fun (ht:timed=true)=>impl_slowest.calls k A0 c0 l0 Al cl l c W (Kd.F_now hfr.f0) hfr.h0 hC hlc (by unfold ptyCost at hcost;rwa [if_pos ht] at hcost))
 have HC1:=am' (fun (ht:timed=false)=>show (1:Int)=c by unfold ptyCost at hcost;rw[if_neg (by rw[ht];decide)] at hcost;exact Option.some.inj hcost)
 have HFR:=am' hfr
 have HLIM:=am' hlim
 have HBO:=am' (blk_below hbo hbel)
 have HBE:=am' hB
 have HS:=am' (Kd.S_mono (Kd.S_old hS hbel) (ok':=fun k=>k≠bo∧k < W0.heap.size) (fun k hk=>hk))
 have HR2:=am' (Kd.R_mono (Kd.R_bound hR) (ok':=fun k=>W0.heap.size≤k∧k < W.heap.size∧k≠bo) (fun k hk=>⟨hk.2.1,hk.2.2.1,by have:=blk_lt hbo;have:=hk.2.1;omega⟩))
 have HBW:=am' (Nat.le_trans (Nat.le_of_lt (Nat.lt_of_le_of_lt hB (blk_lt hbo))) hbel.size)
 have HB0:=am' (Nat.le_of_lt (Nat.lt_of_le_of_lt hB (blk_lt hbo)))
 have HSZ:=am' hbel.size
 have HR:=am' hR
 have HBEL:=am' hbel
 have HSL0:=am' (Kd.S_lt hS)
 have HLO:=am' (blk_lt hbo)
 obtain ⟨Ao,co,rfl⟩:=Kd.S_slice hS
 have x0:W.cell? ⟨bo,0,none⟩=some (.slice Ao s.length co):=(blk_cell HBO.out 0).trans rfl
 have xt:W.cell? ⟨pt,0,none⟩=some (.bool timed):=(blk_cell hfr.bt 0).trans rfl
 have xp:W.cell? ⟨pp,0,none⟩=some (.slice A0 l0.length c0):=(blk_cell hfr.bp 0).trans rfl
 have s0:W.cell? ⟨ps,0,none⟩=some (.slice A1 ov.length c1):=(blk_cell hfr.bs 0).trans rfl
 have s1:W.cell? ⟨ps,1,none⟩=some (.bool tr):=(blk_cell hfr.bs 1).trans rfl
 clear hfr hC hlc hcost hmv hcd hs hlim hbo hB hS hR hbel;cases timed with
 | false =>
  obtain rfl:=HC1.out rfl;have HW:=am' (Below.refl W.heap.size W);go_enter Try.func56,Try.ntmps56;go_wp2_with fail;refine start_ (n:=11) (S:=fun w'=>w'.cell? ⟨ps,0,none⟩=some (.slice A1 ov.length c1)∧w'.cell? ⟨ps,1,none⟩=some (.bool tr)∧w'.cell? ⟨bo,0,none⟩=some (.slice Ao s.length co)) (ds:=[10]) #[false,false,false,false,false,false,false,false,false,false,false] (by kernel_rfl) rfl rfl ⟨s0,s1,x0⟩ (fun hHeld=>?_);refine take_ (i:=0) (N:=some 12) (v:=?_) (a':=?_) #[true,false,false,false,false,false,false,false,false,false,false] rfl rfl (by kernel_rfl) (fun _ _ _ h=>h) (Or.inl ⟨by rfl,?_⟩) hHeld ?_ ?_
  rotate_left
  ·
   rintro w' ⟨s0_,s1_,s2_⟩
   go_simp;with_reducible rfl
  rotate_left
  ·
   simp only[Act.put,sa',sb',sc',i64_w,i32_w];rfl
  refine take_ (i:=1) (N:=some 13) (v:=?_) (a':=?_) #[true,true,false,false,false,false,false,false,false,false,false] rfl rfl (by kernel_rfl) (fun _ _ _ h=>h) (Or.inl ⟨by rfl,?_⟩) hHeld ?_ ?_
  rotate_left
  ·
   rintro w' ⟨s0_,s1_,s2_⟩
   go_simp;with_reducible rfl
  rotate_left
  ·
   simp only[Act.put,sa',sb',sc',i64_w,i32_w];rfl
  refine pure_ (i:=2) (N:=some 14) (v:=?_) (a':=?_) #[true,true,true,false,false,false,false,false,false,false,false] rfl rfl (by kernel_rfl) (fun _ _ _ h=>h) (Or.inl ⟨by rfl,?_⟩) ?_ ?_
  rotate_left
  ·
   intro w';go_simp;with_reducible rfl
  rotate_left
  ·
   simp only[Act.put,sa',sb',sc',i64_w,i32_w];rfl
  refine pure_ (i:=5) (N:=some 17) (v:=?_) (a':=?_) #[true,true,true,false,false,true,false,false,false,false,false] rfl rfl (by kernel_rfl) (fun _ _ _ h=>h) (Or.inl ⟨by rfl,?_⟩) ?_ ?_
  rotate_left
  ·
   intro w';go_simp;with_reducible rfl
  rotate_left
  ·
   simp only[Act.put,sa',sb',sc',i64_w,i32_w];rfl
  refine pure_ (i:=6) (N:=some 18) (v:=?_) (a':=?_) #[true,true,true,false,false,true,true,false,false,false,false] rfl rfl (by kernel_rfl) (fun _ _ _ h=>h) (Or.inl ⟨by rfl,?_⟩) ?_ ?_
  rotate_left
  ·
   intro w';go_simp;with_reducible rfl
  rotate_left
  ·
   simp only[Act.put,sa',sb',sc',i64_w,i32_w];rfl
  refine one_ (i:=3) (N:=some 15) #[true,true,true,true,false,true,true,false,false,false,false] rfl rfl (by kernel_rfl) (by decide) (fun K hK=>?_);refine goes_ Try.func58 (by kernel_rfl) rfl #[.agg #[.slice A1 ov.length c1, .bool tr], .slice Al l.length cl] (by rfl) rfl rfl (by (try simp only[List.map_toArray,List.map_cons,List.map_nil]);first|done|rfl) ?_
  refine (HM.out _ ?sideM).mono ?_
  (case sideM=>(repeat (first|(with_reducible exact HW.out)|apply be'|apply bd')))
  rintro e w4 ⟨v4,rfl,ho4,hb4⟩
  obtain ⟨A4,c4,rfl,hc4,hC4⟩:=Kd.R_reads ho4;have HW4:=am' (below_step (by repeat (first|(with_reducible exact HW.out)|apply ba'|apply be'|apply bd')) hb4);have HC4:=am' hC4;have HL4:=am' hc4;have HO4:=am' (Below.refl w4.heap.size w4);have y40:w4.cell? ⟨ps,0,none⟩=some (.slice A1 ov.length c1):=(blk_cell (blk_below HFR.out.bs HW4.out) 0).trans rfl;have y41:w4.cell? ⟨ps,1,none⟩=some (.bool tr):=(blk_cell (blk_below HFR.out.bs HW4.out) 1).trans rfl;have y42:w4.cell? ⟨bo,0,none⟩=some (.slice Ao s.length co):=(blk_cell (blk_below HBO.out HW4.out) 0).trans rfl;clear ho4 hb4 hC4 hc4;refine ⟨_,rfl,?_⟩;refine hK.out _ _ ⟨y40,y41,y42⟩ (fun hHeld=>?_);clear hK K;refine norm_ (a':=?_) ?_ ?_
  rotate_left
  ·
   show Act.put _ (some 15) _=_
   simp only[Act.put,sa',sb',sc',i64_w,i32_w];rfl
  refine one_ (i:=4) (N:=some 16) #[true,true,true,true,true,true,true,false,false,false,false] rfl rfl (by kernel_rfl) (by decide) (fun K hK=>?_);refine goes_ Try.func33 (by kernel_rfl) rfl #[.agg #[.slice A4 mo.length c4, .bool mt]] (by rfl) rfl rfl (by (try simp only[List.map_toArray,List.map_cons,List.map_nil]);first|done|rfl) ?_
  refine (HC.out _ A4 c4 ?sideC HL4.out).mono ?_
  (case sideC=>(exact Kd.C_below HC4.out (by repeat (first|(with_reducible exact HO4.out)|apply ba'|apply be'|apply bd'))))
  rintro e w5 ⟨rfl,hb5⟩
  have HW5:=am' (below_step (by repeat (first|(with_reducible exact HW4.out)|apply ba'|apply be'|apply bd')) hb5);have y50:w5.cell? ⟨ps,0,none⟩=some (.slice A1 ov.length c1):=(blk_cell (blk_below HFR.out.bs HW5.out) 0).trans rfl;have y51:w5.cell? ⟨ps,1,none⟩=some (.bool tr):=(blk_cell (blk_below HFR.out.bs HW5.out) 1).trans rfl;have y52:w5.cell? ⟨bo,0,none⟩=some (.slice Ao s.length co):=(blk_cell (blk_below HBO.out HW5.out) 0).trans rfl;have y53:(w5.alloc (.cells #[.int .i64 cd, .int .i64 1, .slice Al l.length cl] 76)).cell? ⟨bo,0,none⟩=some (.slice Ao s.length co):=(blk_cell (ka' (blk_below HBO.out HW5.out) _) 0).trans rfl;have HO5:=am' (Below.refl w5.heap.size w5);clear hb5;have y54:(w5.alloc (.cells #[.int .i64 cd, .int .i64 1, .slice Al l.length cl] 76)).cell? ⟨ps,0,none⟩=some (.slice A1 ov.length c1):=(blk_cell (ka' (blk_below HFR.out.bs HW5.out) _) 0).trans rfl;have y55:(w5.alloc (.cells #[.int .i64 cd, .int .i64 1, .slice Al l.length cl] 76)).cell? ⟨ps,1,none⟩=some (.bool tr):=(blk_cell (ka' (blk_below HFR.out.bs HW5.out) _) 1).trans rfl;refine ⟨_,rfl,?_⟩;refine hK.out _ _ ⟨y50,y51,y52⟩ (fun hHeld=>?_);clear hK K;refine norm_ (a':=?_) ?_ ?_
  rotate_left
  ·
   show Act.put _ (some 16) _=_
   simp only[Act.put,sa',sb',sc',i64_w,i32_w];rfl
  refine pure_ (i:=7) (N:=some 19) (v:=?_) (a':=?_) #[true,true,true,true,true,true,true,true,false,false,false] rfl rfl (by kernel_rfl) (fun _ _ _ h=>h) (Or.inl ⟨by rfl,?_⟩) ?_ ?_
  rotate_left
  ·
   intro w';go_simp;with_reducible rfl
  rotate_left
  ·
   simp only[Act.put,sa',sb',sc',i64_w,i32_w];rfl
  refine one_ (i:=8) (N:=some 20) #[true,true,true,true,true,true,true,true,true,false,false] rfl rfl (by kernel_rfl) (by decide) (fun K hK=>?_);refine value_ (v := .slice (some ⟨w5.heap.size,0,none⟩) 1 1) (w1:=w5.alloc (.cells #[.int .i64 cd, .int .i64 1, .slice Al l.length cl] 76)) (by rfl) rfl ?_ ?_
  ·
   go_simp
  refine hK.out _ _ ⟨y54,y55,y53⟩ (fun hHeld=>?_);clear hK K;refine norm_ (a':=?_) ?_ ?_
  rotate_left
  ·
   show Act.put _ (some 20) _=_
   simp only[Act.put,sa',sb',sc',i64_w,i32_w];rfl
  refine one_ (i:=9) (N:=some 21) #[true,true,true,true,true,true,true,true,true,true,false] rfl rfl (by kernel_rfl) (by decide) (fun K hK=>?_);refine Kd.S_append_step EdgK (w0:=W) B (by rfl) (.tmp 12) (.tmp 20) 80 76 (.agg #[.int .i64 0, .int .i64 0, .slice none 0 0]) 40 (by rfl) Try.underlying80 hinfoE.out rfl (by decide) (by omega) (.slice Ao s.length co) s (cd,1,l) [.int .i64 cd, .int .i64 1, .slice Al l.length cl] (fun k=>k≠bo) (fun k=>W0.heap.size≤k∧k < W.heap.size∧k≠bo) (by rfl) (by rfl) ?aP ?aK ?aF ?aO ?aB ?aS ?aL ?_
  (case aP=>exact M_edge (Kd.R_lower (Kd.R_below HR2.out HW5.out) HB0.out))
  (case aK=>exact fun k hk=>⟨hk.2.2,fun e=>by have:=HSL0.out k e.symm;omega⟩)
  (case aF=>exact fun k hk=>by have:=HLO.out;have:=HW5.out.size;have:=HSZ.out;omega)
  (case aO=>exact Kd.S_mono (Kd.S_below HS.out HW5.out) (fun k hk=>⟨hk.1,fun q=>by omega⟩))
  (case aB=>exact HW5.out.mono HBW.out)
  (case aS=>exact Nat.le_trans HBW.out HW5.out.size)
  (case aL=>have:=HLIM.out;omega)
  intro v6 w6 ho hb hg hat;obtain ⟨A6,c6,e6⟩:=Kd.S_slice ho;rw[List.length_append,List.length_singleton] at e6;subst e6;have HO6:=am' ho;have HB6:=am' hb;have HG6:=am' hg;have HA6:=am' hat;have HK6:=am' (show Kept W w6 (fun k=>k=bo∨some k=(Value.slice Ao s.length co).ownBlock) from Kept.of_grown hg (Kept.of_below HW5.out _) (fun k hk => .inl (.inr hk.symm)));have HY:=am' ((hg.block bo (Nat.lt_of_lt_of_le (Nat.lt_of_lt_of_le HLO.out HSZ.out) HW5.out.size) (Kd.S_away HS.out (fun k hk=>hk.1))).trans (blk_below HBO.out HW5.out));clear ho hb hg hat;have y62:w6.cell? ⟨bo,0,none⟩=some (.slice Ao s.length co):=(blk_cell HY.out 0).trans rfl;have y63:=blk_frozen HY.out 0;have y60:w6.cell? ⟨ps,0,none⟩=some (.slice A1 ov.length c1):=(blk_cell (blk_kept HFR.out.bs HK6.out HFR.out.ns) 0).trans rfl;have y61:w6.cell? ⟨ps,1,none⟩=some (.bool tr):=(blk_cell (blk_kept HFR.out.bs HK6.out HFR.out.ns) 1).trans rfl;have HK7:=am' (show Kept W (w6.setCell ⟨bo,0,none⟩ (.slice A6 (s.length+1) c6)) (fun k=>k=bo∨some k=(Value.slice Ao s.length co).ownBlock) from Kept.setCell HK6.out (.inl (.inl rfl)) _);refine hK.out _ _ ⟨y60,y61,y62⟩ (fun hHeld=>?_);clear hK K;refine norm_ (a':=?_) ?_ ?_
  rotate_left
  ·
   show Act.put _ (some 21) _=_
   simp only[Act.put,sa',sb',sc',i64_w,i32_w];rfl
  refine last_ (i:=10) (N:=none) #[true,true,true,true,true,true,true,true,true,true,true] rfl rfl (by kernel_rfl) (by decide) (fun K hK=>?_);refine skip_ (w1:=?_) (by rfl) rfl ?_ ?_
  rotate_left
  ·
   go_simp;rfl
  refine hK.out _ _ ?_
  clear hK K;refine done_ (by kernel_rfl) ?_
  go_wp2;go_end0
  have hnew:∀ k,(k=bo∨some k=(Value.slice A6 (s.length+1) c6).ownBlock)→(k=bo∨some k=(Value.slice Ao s.length co).ownBlock)∨W.heap.size≤k:=by
   rintro k (rfl|hk)
   ·
    exact .inl (.inl rfl)
   ·
    rcases HA6.out with q|⟨b,q,hb⟩
    ·
     exact .inl (.inr (hk.trans q))
    ·
     rw[q] at hk;cases hk;exact .inr (Nat.le_trans HW5.out.size hb)
  refine ⟨rfl,?_,_,⟨⟨_,blk_put HY.out 0 _ rfl,HBE.out,?_,rfl⟩,HFR.out.turn HK7.out hnew⟩,HK7.out,hnew⟩
  ·
   first|exact HB6.out.setCell HBE.out _|exact below_drew (HB6.out.setCell HBE.out _)|exact bd' (HB6.out.setCell HBE.out _) _
  ·
   exact Kd.S_far HO6.out (p:=⟨bo,0,none⟩) (fun k hk=>hk) _
 | true =>
  have HSL2:=am' (HSL.out rfl);go_enter Try.func56,Try.ntmps56;go_wp2_with (go_at_call 57;(with_reducible refine HSL2.out.mono ?_);rintro e wa ⟨rfl,hba⟩;have HW:=am' hba;clear x0 xt xp s0 s1 hba);have x0:wa.cell? ⟨bo,0,none⟩=some (.slice Ao s.length co):=(blk_cell (blk_below HBO.out HW.out) 0).trans rfl;have s0:wa.cell? ⟨ps,0,none⟩=some (.slice A1 ov.length c1):=(blk_cell (blk_below HFR.out.bs HW.out) 0).trans rfl;have s1:wa.cell? ⟨ps,1,none⟩=some (.bool tr):=(blk_cell (blk_below HFR.out.bs HW.out) 1).trans rfl;refine start_ (n:=11) (S:=fun w'=>w'.cell? ⟨ps,0,none⟩=some (.slice A1 ov.length c1)∧w'.cell? ⟨ps,1,none⟩=some (.bool tr)∧w'.cell? ⟨bo,0,none⟩=some (.slice Ao s.length co)) (ds:=[10]) #[false,false,false,false,false,false,false,false,false,false,false] (by kernel_rfl) rfl rfl ⟨s0,s1,x0⟩ (fun hHeld=>?_);refine take_ (i:=0) (N:=some 12) (v:=?_) (a':=?_) #[true,false,false,false,false,false,false,false,false,false,false] rfl rfl (by kernel_rfl) (fun _ _ _ h=>h) (Or.inl ⟨by rfl,?_⟩) hHeld ?_ ?_
  rotate_left
  ·
   rintro w' ⟨s0_,s1_,s2_⟩
   go_simp;with_reducible rfl
  rotate_left
  ·
   simp only[Act.put,sa',sb',sc',i64_w,i32_w];rfl
  refine take_ (i:=1) (N:=some 13) (v:=?_) (a':=?_) #[true,true,false,false,false,false,false,false,false,false,false] rfl rfl (by kernel_rfl) (fun _ _ _ h=>h) (Or.inl ⟨by rfl,?_⟩) hHeld ?_ ?_
  rotate_left
  ·
   rintro w' ⟨s0_,s1_,s2_⟩
   go_simp;with_reducible rfl
  rotate_left
  ·
   simp only[Act.put,sa',sb',sc',i64_w,i32_w];rfl
  refine pure_ (i:=2) (N:=some 14) (v:=?_) (a':=?_) #[true,true,true,false,false,false,false,false,false,false,false] rfl rfl (by kernel_rfl) (fun _ _ _ h=>h) (Or.inl ⟨by rfl,?_⟩) ?_ ?_
  rotate_left
  ·
   intro w';go_simp;with_reducible rfl
  rotate_left
  ·
   simp only[Act.put,sa',sb',sc',i64_w,i32_w];rfl
  refine pure_ (i:=5) (N:=some 17) (v:=?_) (a':=?_) #[true,true,true,false,false,true,false,false,false,false,false] rfl rfl (by kernel_rfl) (fun _ _ _ h=>h) (Or.inl ⟨by rfl,?_⟩) ?_ ?_
  rotate_left
  ·
   intro w';go_simp;with_reducible rfl
  rotate_left
  ·
   simp only[Act.put,sa',sb',sc',i64_w,i32_w];rfl
  refine pure_ (i:=6) (N:=some 18) (v:=?_) (a':=?_) #[true,true,true,false,false,true,true,false,false,false,false] rfl rfl (by kernel_rfl) (fun _ _ _ h=>h) (Or.inl ⟨by rfl,?_⟩) ?_ ?_
  rotate_left
  ·
   intro w';go_simp;with_reducible rfl
  rotate_left
  ·
   simp only[Act.put,sa',sb',sc',i64_w,i32_w];rfl
  refine one_ (i:=3) (N:=some 15) #[true,true,true,true,false,true,true,false,false,false,false] rfl rfl (by kernel_rfl) (by decide) (fun K hK=>?_);refine goes_ Try.func58 (by kernel_rfl) rfl #[.agg #[.slice A1 ov.length c1, .bool tr], .slice Al l.length cl] (by rfl) rfl rfl (by (try simp only[List.map_toArray,List.map_cons,List.map_nil]);first|done|rfl) ?_
  refine (HM.out _ ?sideM).mono ?_
  (case sideM=>(repeat (first|(with_reducible exact HW.out)|apply be'|apply bd')))
  rintro e w4 ⟨v4,rfl,ho4,hb4⟩
  obtain ⟨A4,c4,rfl,hc4,hC4⟩:=Kd.R_reads ho4;have HW4:=am' (below_step (by repeat (first|(with_reducible exact HW.out)|apply ba'|apply be'|apply bd')) hb4);have HC4:=am' hC4;have HL4:=am' hc4;have HO4:=am' (Below.refl w4.heap.size w4);have y40:w4.cell? ⟨ps,0,none⟩=some (.slice A1 ov.length c1):=(blk_cell (blk_below HFR.out.bs HW4.out) 0).trans rfl;have y41:w4.cell? ⟨ps,1,none⟩=some (.bool tr):=(blk_cell (blk_below HFR.out.bs HW4.out) 1).trans rfl;have y42:w4.cell? ⟨bo,0,none⟩=some (.slice Ao s.length co):=(blk_cell (blk_below HBO.out HW4.out) 0).trans rfl;clear ho4 hb4 hC4 hc4;refine ⟨_,rfl,?_⟩;refine hK.out _ _ ⟨y40,y41,y42⟩ (fun hHeld=>?_);clear hK K;refine norm_ (a':=?_) ?_ ?_
  rotate_left
  ·
   show Act.put _ (some 15) _=_
   simp only[Act.put,sa',sb',sc',i64_w,i32_w];rfl
  refine one_ (i:=4) (N:=some 16) #[true,true,true,true,true,true,true,false,false,false,false] rfl rfl (by kernel_rfl) (by decide) (fun K hK=>?_);refine goes_ Try.func33 (by kernel_rfl) rfl #[.agg #[.slice A4 mo.length c4, .bool mt]] (by rfl) rfl rfl (by (try simp only[List.map_toArray,List.map_cons,List.map_nil]);first|done|rfl) ?_
  refine (HC.out _ A4 c4 ?sideC HL4.out).mono ?_
  (case sideC=>(exact Kd.C_below HC4.out (by repeat (first|(with_reducible exact HO4.out)|apply ba'|apply be'|apply bd'))))
  rintro e w5 ⟨rfl,hb5⟩
  have HW5:=am' (below_step (by repeat (first|(with_reducible exact HW4.out)|apply ba'|apply be'|apply bd')) hb5);have y50:w5.cell? ⟨ps,0,none⟩=some (.slice A1 ov.length c1):=(blk_cell (blk_below HFR.out.bs HW5.out) 0).trans rfl;have y51:w5.cell? ⟨ps,1,none⟩=some (.bool tr):=(blk_cell (blk_below HFR.out.bs HW5.out) 1).trans rfl;have y52:w5.cell? ⟨bo,0,none⟩=some (.slice Ao s.length co):=(blk_cell (blk_below HBO.out HW5.out) 0).trans rfl;have y53:(w5.alloc (.cells #[.int .i64 cd, .int .i64 c, .slice Al l.length cl] 76)).cell? ⟨bo,0,none⟩=some (.slice Ao s.length co):=(blk_cell (ka' (blk_below HBO.out HW5.out) _) 0).trans rfl;have HO5:=am' (Below.refl w5.heap.size w5);clear hb5;have y54:(w5.alloc (.cells #[.int .i64 cd, .int .i64 c, .slice Al l.length cl] 76)).cell? ⟨ps,0,none⟩=some (.slice A1 ov.length c1):=(blk_cell (ka' (blk_below HFR.out.bs HW5.out) _) 0).trans rfl;have y55:(w5.alloc (.cells #[.int .i64 cd, .int .i64 c, .slice Al l.length cl] 76)).cell? ⟨ps,1,none⟩=some (.bool tr):=(blk_cell (ka' (blk_below HFR.out.bs HW5.out) _) 1).trans rfl;refine ⟨_,rfl,?_⟩;refine hK.out _ _ ⟨y50,y51,y52⟩ (fun hHeld=>?_);clear hK K;refine norm_ (a':=?_) ?_ ?_
  rotate_left
  ·
   show Act.put _ (some 16) _=_
   simp only[Act.put,sa',sb',sc',i64_w,i32_w];rfl
  refine pure_ (i:=7) (N:=some 19) (v:=?_) (a':=?_) #[true,true,true,true,true,true,true,true,false,false,false] rfl rfl (by kernel_rfl) (fun _ _ _ h=>h) (Or.inl ⟨by rfl,?_⟩) ?_ ?_
  rotate_left
  ·
   intro w';go_simp;with_reducible rfl
  rotate_left
  ·
   simp only[Act.put,sa',sb',sc',i64_w,i32_w];rfl
  refine one_ (i:=8) (N:=some 20) #[true,true,true,true,true,true,true,true,true,false,false] rfl rfl (by kernel_rfl) (by decide) (fun K hK=>?_);refine value_ (v := .slice (some ⟨w5.heap.size,0,none⟩) 1 1) (w1:=w5.alloc (.cells #[.int .i64 cd, .int .i64 c, .slice Al l.length cl] 76)) (by rfl) rfl ?_ ?_
  ·
   go_simp
  refine hK.out _ _ ⟨y54,y55,y53⟩ (fun hHeld=>?_);clear hK K;refine norm_ (a':=?_) ?_ ?_
  rotate_left
  ·
   show Act.put _ (some 20) _=_
   simp only[Act.put,sa',sb',sc',i64_w,i32_w];rfl
  refine one_ (i:=9) (N:=some 21) #[true,true,true,true,true,true,true,true,true,true,false] rfl rfl (by kernel_rfl) (by decide) (fun K hK=>?_);refine Kd.S_append_step EdgK (w0:=W) B (by rfl) (.tmp 12) (.tmp 20) 80 76 (.agg #[.int .i64 0, .int .i64 0, .slice none 0 0]) 40 (by rfl) Try.underlying80 hinfoE.out rfl (by decide) (by omega) (.slice Ao s.length co) s (cd,c,l) [.int .i64 cd, .int .i64 c, .slice Al l.length cl] (fun k=>k≠bo) (fun k=>W0.heap.size≤k∧k < W.heap.size∧k≠bo) (by rfl) (by rfl) ?aP ?aK ?aF ?aO ?aB ?aS ?aL ?_
  (case aP=>exact M_edge (Kd.R_lower (Kd.R_below HR2.out HW5.out) HB0.out))
  (case aK=>exact fun k hk=>⟨hk.2.2,fun e=>by have:=HSL0.out k e.symm;omega⟩)
  (case aF=>exact fun k hk=>by have:=HLO.out;have:=HW5.out.size;have:=HSZ.out;omega)
  (case aO=>exact Kd.S_mono (Kd.S_below HS.out HW5.out) (fun k hk=>⟨hk.1,fun q=>by omega⟩))
  (case aB=>exact HW5.out.mono HBW.out)
  (case aS=>exact Nat.le_trans HBW.out HW5.out.size)
  (case aL=>have:=HLIM.out;omega)
  intro v6 w6 ho hb hg hat;obtain ⟨A6,c6,e6⟩:=Kd.S_slice ho;rw[List.length_append,List.length_singleton] at e6;subst e6;have HO6:=am' ho;have HB6:=am' hb;have HG6:=am' hg;have HA6:=am' hat;have HK6:=am' (show Kept W w6 (fun k=>k=bo∨some k=(Value.slice Ao s.length co).ownBlock) from Kept.of_grown hg (Kept.of_below HW5.out _) (fun k hk => .inl (.inr hk.symm)));have HY:=am' ((hg.block bo (Nat.lt_of_lt_of_le (Nat.lt_of_lt_of_le HLO.out HSZ.out) HW5.out.size) (Kd.S_away HS.out (fun k hk=>hk.1))).trans (blk_below HBO.out HW5.out));clear ho hb hg hat;have y62:w6.cell? ⟨bo,0,none⟩=some (.slice Ao s.length co):=(blk_cell HY.out 0).trans rfl;have y63:=blk_frozen HY.out 0;have y60:w6.cell? ⟨ps,0,none⟩=some (.slice A1 ov.length c1):=(blk_cell (blk_kept HFR.out.bs HK6.out HFR.out.ns) 0).trans rfl;have y61:w6.cell? ⟨ps,1,none⟩=some (.bool tr):=(blk_cell (blk_kept HFR.out.bs HK6.out HFR.out.ns) 1).trans rfl;have HK7:=am' (show Kept W (w6.setCell ⟨bo,0,none⟩ (.slice A6 (s.length+1) c6)) (fun k=>k=bo∨some k=(Value.slice Ao s.length co).ownBlock) from Kept.setCell HK6.out (.inl (.inl rfl)) _);refine hK.out _ _ ⟨y60,y61,y62⟩ (fun hHeld=>?_);clear hK K;refine norm_ (a':=?_) ?_ ?_
  rotate_left
  ·
   show Act.put _ (some 21) _=_
   simp only[Act.put,sa',sb',sc',i64_w,i32_w];rfl
  refine last_ (i:=10) (N:=none) #[true,true,true,true,true,true,true,true,true,true,true] rfl rfl (by kernel_rfl) (by decide) (fun K hK=>?_);refine skip_ (w1:=?_) (by rfl) rfl ?_ ?_
  rotate_left
  ·
   go_simp;rfl
  refine hK.out _ _ ?_
  clear hK K;refine done_ (by kernel_rfl) ?_
  go_wp2;go_end0
  have hnew:∀ k,(k=bo∨some k=(Value.slice A6 (s.length+1) c6).ownBlock)→(k=bo∨some k=(Value.slice Ao s.length co).ownBlock)∨W.heap.size≤k:=by
   rintro k (rfl|hk)
   ·
    exact .inl (.inl rfl)
   ·
    rcases HA6.out with q|⟨b,q,hb⟩
    ·
     exact .inl (.inr (hk.trans q))
    ·
     rw[q] at hk;cases hk;exact .inr (Nat.le_trans HW5.out.size hb)
  refine ⟨rfl,?_,_,⟨⟨_,blk_put HY.out 0 _ rfl,HBE.out,?_,rfl⟩,HFR.out.turn HK7.out hnew⟩,HK7.out,hnew⟩
  ·
   first|exact HB6.out.setCell HBE.out _|exact below_drew (HB6.out.setCell HBE.out _)|exact bd' (HB6.out.setCell HBE.out _) _
  ·
   exact Kd.S_far HO6.out (p:=⟨bo,0,none⟩) (fun k hk=>hk) _
theorem three_blocks (w:World) (o0 o1 o2:Obj):(((w.alloc o0).alloc o1).alloc o2).heap[w.heap.size]? = some o0∧(((w.alloc o0).alloc o1).alloc o2).heap[w.heap.size+1]? = some o1∧(((w.alloc o0).alloc o1).alloc o2).heap[w.heap.size+1+1]? = some o2∧Below w.heap.size w (((w.alloc o0).alloc o1).alloc o2):=by
 obtain ⟨h0,h1,h2⟩:=two_blocks w o0 o1
 refine ⟨ka' h0 _,ka' h1 _,?_,ba' h2 _⟩
 have:=heap_alloc_new ((w.alloc o0).alloc o1) o2
 rwa [World.size_alloc,World.size_alloc] at this
def ptyOut (k:Nat) (timed:Bool) (l0:List Int) (m:Int) (code:Int):Option (List Edg):=(impl_stateOf.f k (l0.length:Int) code).bind fun st=>(impl_State_side.f k st.1 st.2 st.2).bind fun sd=>if sd.length≤20 then (grpsF m sd []).foldlM (ptyStep k timed l0 st.1 st.2) [] else none
set_option maxHeartbeats 4000000 in
set_option maxRecDepth 100000 in
theorem party_out (k:Nat) (timed:Bool) (A0:Option Addr) (c0:Nat) (l0:List Int) (m:Int) (pn pp pt:Nat) (W0:World) (hbn:W0.heap[pn]? = some (.cells #[.int .i64 (l0.length:Int)] 3 (0,0))) (hbp:W0.heap[pp]? = some (.cells #[.slice A0 l0.length c0, .int .i64 m] 28 (0,0))) (hbt:W0.heap[pt]? = some (.cells #[.bool timed] 4 (0,0))) (hr:Kd.C (Kd.int .i64) W0 A0 l0.length l0) (hc:l0.length≤c0):OutOk 52 #[.pointer (some ⟨pn,0,none⟩), .pointer (some ⟨pp,0,none⟩), .pointer (some ⟨pt,0,none⟩)] (ptyOut k timed l0 m) W0:=by
 intro W hW code es hs;have hu0:=Try.underlying28
 have hu1:=Try.underlying54
 unfold ptyOut at hs
 obtain ⟨⟨ov,tr⟩,hst,hs⟩:=Option.bind_eq_some_iff.mp hs
 obtain ⟨sd,hsd,hs⟩:=Option.bind_eq_some_iff.mp hs
 dsimp only at hsd hs
 by_cases hlen:sd.length≤20
 ·
  rw[if_pos hlen] at hs;have HLEN:=am' hlen;have HFO:=am' hs;have HST:=am' (impl_stateOf.calls k (l0.length:Int) code ov tr W hst);have HSD:=am' (fun (W1:World) (A1:Option Addr) (c1:Nat) (hC:Kd.C Kd.bool W1 A1 ov.length ov) (hl:ov.length≤c1)=>impl_State_side.calls k A1 c1 ov tr tr sd W1 hC hl hsd);have BN:=am' (blk_below hbn hW);have BP:=am' (blk_below hbp hW);have BTT:=am' (blk_below hbt hW);have HWS:=am' hW.size;have HPN:=am' (blk_lt (blk_below hbp hW));have HTN:=am' (blk_lt (blk_below hbt hW));have HF0:=am' (Kd.F_below (Kd.C_F (Kd.heap_int .i64) hr) hW);have HC0:=am' hc;have xn:W.cell? ⟨pn,0,none⟩=some (.int .i64 (l0.length:Int)):=(blk_cell BN.out 0).trans rfl;clear hbn hbp hbt hW hr hc hst hsd hs hlen;go_enter Try.func52,Try.ntmps52;go_wp2_with (go_at_call 53;(with_reducible refine HST.out.mono ?_);rintro e w1 ⟨v1,rfl,ho1,hb1⟩;obtain ⟨A1,c1,rfl,hc1,hC1⟩:=Kd.R_reads ho1;have HB1:=am' hb1;have HO1:=am' ho1;have HC1:=am' hC1;have HL1:=am' hc1;clear ho1 hb1 hC1 hc1 xn);have HB3:=am' (three_blocks w1 (.cells #[] 76) (.cells #[.slice A1 ov.length c1, .bool tr] 54) (.cells #[.slice (some ⟨w1.heap.size,0,none⟩) 0 0] 80));generalize hW3:((w1.alloc (.cells #[] 76)).alloc (.cells #[.slice A1 ov.length c1, .bool tr] 54)).alloc (.cells #[.slice (some ⟨w1.heap.size,0,none⟩) 0 0] 80)=W3 at HB3 ⊢
  clear hW3;have HW3:=am' (below_step HB1.out HB3.out.2.2.2);have HLT:=am' (blk_lt HB3.out.2.2.1)
  have HIN:=am' (show EOutInv W.heap.size (w1.heap.size+1+1) [] W3 (fun k=>k=w1.heap.size+1+1∨some k=(Value.slice (some ⟨w1.heap.size,0,none⟩) 0 0).ownBlock) from
   ⟨_,HB3.out.2.2.1,by have:=HB1.out.size;omega,S_empty EdgK HB3.out.1 HB1.out.size (by omega),rfl⟩)
  have hno:∀ k,(k=w1.heap.size+1+1∨some k=(Value.slice (some ⟨w1.heap.size,0,none⟩) 0 0).ownBlock)→k=w1.heap.size+1+1∨k=w1.heap.size:=by
   rintro k (rfl|q)
   ·
    exact .inl rfl
   ·
    have q:=Option.some.inj (show some _=some _ from q);exact .inr q
  have HNO:=am' hno;clear hno
  have HPF:=am' (show PtyFr pt pp (w1.heap.size+1) timed A0 c0 l0 m A1 c1 ov tr W3 (fun k=>k=w1.heap.size+1+1∨some k=(Value.slice (some ⟨w1.heap.size,0,none⟩) 0 0).ownBlock) from
   ⟨blk_below BTT.out HW3.out,blk_below BP.out HW3.out,HB3.out.2.1,fun q=>by have h1:=HNO.out _ q;have h2:=HTN.out;have h3:=HB1.out.size;omega,fun q=>by have h1:=HNO.out _ q;have h2:=HPN.out;have h3:=HB1.out.size;omega,fun q=>by have h1:=HNO.out _ q;omega,
    Kd.F_mono (Kd.F_below HF0.out HW3.out) (fun k hk q=>by have h1:=HNO.out _ q;have h2:=HWS.out;have h3:=HB1.out.size;omega),Kd.F_mono (Kd.F_below (Kd.R_F (Kd.R_bound HO1.out)) HB3.out.2.2.2) (fun k hk q=>by have h1:=HNO.out _ q;have h2:=hk.2.2.1;omega),HC0.out,HL1.out⟩)
  have x0:W3.cell? ⟨w1.heap.size+1,0,none⟩=some (.slice A1 ov.length c1):=(blk_cell HB3.out.2.1 0).trans rfl;have x1:W3.cell? ⟨w1.heap.size+1,1,none⟩=some (.bool tr):=(blk_cell HB3.out.2.1 1).trans rfl;have x2:W3.cell? ⟨pp,1,none⟩=some (.int .i64 m):=(blk_cell (blk_below BP.out HW3.out) 1).trans rfl;have HR0:=am' (Below.refl W3.heap.size W3);have HC3:=am' (Kd.C_below HC1.out HB3.out.2.2.2)
  go_region_held3 (fun w'=>w'.cell? ⟨w1.heap.size+1,0,none⟩=some (.slice A1 ov.length c1)∧w'.cell? ⟨w1.heap.size+1,1,none⟩=some (.bool tr)∧w'.cell? ⟨pp,1,none⟩=some (.int .i64 m))
   (first|exact ⟨z0,z1,z2⟩|exact ⟨y0,y1,y2⟩|go_keep)
   (first|(go_at_call 55;refine (HSD.out _ A1 c1 ?_ HL1.out).mono ?_;(exact Kd.C_below HC3.out (by repeat (first|(with_reducible exact HR0.out)|apply be'|apply bd')));rintro e w4 ⟨vs,rfl,ho,hb⟩;have HR4:=am' (below_step (by repeat (first|(with_reducible exact HR0.out)|apply be'|apply bd')) hb);have HO4:=am' ho;clear hb ho;have y0:=(HR4.out.cell (bl' W3 _ x0)).trans x0;have y1:=(HR4.out.cell (bl' W3 _ x1)).trans x1;have y2:=(HR4.out.cell (bl' W3 _ x2)).trans x2;obtain ⟨As,cs,es_,hcs,_⟩:=Kd.R_reads HO4.out;subst es_;have HCS:=am' hcs;clear hcs)|(go_at_call 54;refine (groups_any (party1_each k W.heap.size (w1.heap.size+1+1) pt pp (w1.heap.size+1) timed A0 c0 l0 m A1 c1 ov tr) (fun s W O h=>EOutInv.lt s W O h.1) (enters_of Try.func56 (by kernel_rfl) rfl) sd m As cs HCS.out (by have:=HLEN.out;omega) [] es _ _ ?gB (fun W hb=>⟨HIN.out.below (below_step HR4.out (by (first|exact hb|(simpa using hb)))),HPF.out.turn (Kept.of_below (below_step HR4.out (by (first|exact hb|(simpa using hb)))) _) (fun _ h => .inl h)⟩) ?gF HFO.out).mono ?_;(case gB=>exact Nat.le_trans HW3.out.size (by have:=HR4.out.size;first|exact this|simpa using this));(case gF=>exact Kd.F_mono (Kd.R_F (Kd.R_bound HO4.out)) (fun k hk q=>by have h1:=HLT.out;have h2:=hk.2.1;have h3:=HNO.out k q;(try simp at h2);omega));rintro e w5 ⟨rfl,hb5,O5,⟨⟨v5,hv5,_,hS5,_⟩,_⟩,hk5,ho5⟩;obtain ⟨A5,c5,e5⟩:=Kd.S_slice hS5;subst e5;have HV5:=am' hv5;have HS5:=am' hS5;have HB5:=am' hb5;have z0:=cell_kept y0 hk5 (fun q=>by have h1:=HNO.out _ q;first|omega|(simp at h1;done)|(simp at h1;omega));have z1:=cell_kept y1 hk5 (fun q=>by have h1:=HNO.out _ q;first|omega|(simp at h1;done)|(simp at h1;omega));have z2:=cell_kept y2 hk5 (fun q=>by have h1:=HNO.out _ q;have h2:=HPN.out;have h3:=HB1.out.size;first|omega|(simp at h1;done)|(simp at h1;omega));clear hv5 hS5 hb5 hk5 ho5))
  all_goals
   have hv5:w5.cell? ⟨w1.heap.size+1+1,0,none⟩=some (.slice A5 es.length c5):=(blk_cell HV5.out 0).trans rfl;go_wp2;go_ret
   exact ⟨_,rfl,Kd.S_mono HS5.out (fun _ _=>trivial),(HW3.out.trans (HR4.out.mono (by have:=HW3.out.size;omega))).trans HB5.out⟩
 ·
  rw[if_neg hlen] at hs;cases hs
set_option maxHeartbeats 2000000 in
set_option maxRecDepth 100000 in
theorem party_graph2 (timed:Bool) (A0:Option Addr) (c0:Nat) (l0:List Int) (m:Int) (w:World):Calls Try.prog 30 #[.agg #[.slice A0 l0.length c0, .int .i64 m], .bool timed] w fun e w'=>∃ pn pp pt,e = .returned (.agg #[.int .i64 (wrap64 (2 * 2 ^ min l0.length 64)), .func (.func 52) #[] #[.pointer (some ⟨pn,0,none⟩), .pointer (some ⟨pp,0,none⟩), .pointer (some ⟨pt,0,none⟩)]])∧w'.heap[pn]? = some (.cells #[.int .i64 (l0.length:Int)] 3 (0,0))∧w'.heap[pp]? = some (.cells #[.slice A0 l0.length c0, .int .i64 m] 28 (0,0))∧w'.heap[pt]? = some (.cells #[.bool timed] 4 (0,0))∧(w.heap.size≤pn∧w.heap.size≤pp∧w.heap.size≤pt)∧Below w.heap.size w w':=by
 have hu:=Try.underlying28
 have hug:=Try.underlying46
 have HB:=am' (four_blocks w (.cells #[.slice A0 l0.length c0, .int .i64 m] 28) (.cells #[.bool timed] 4) (.cells #[.int .i64 (wrap64 (2 * 2 ^ min l0.length 64)), .func (.func 52) #[] #[.pointer (some ⟨w.heap.size+1+1+1,0,none⟩), .pointer (some ⟨w.heap.size,0,none⟩), .pointer (some ⟨w.heap.size+1,0,none⟩)]] 46) (.cells #[.int .i64 (l0.length:Int)] 3))
 go_enter Try.func30,Try.ntmps30
 go_wp2_with fail
 refine bodyPost_ret (results_cell_row rfl _ _ (w.heap.size+1+1) 46 #[.int .i64 (wrap64 (2 * 2 ^ min l0.length 64)), .func (.func 52) #[] #[.pointer (some ⟨w.heap.size+1+1+1,0,none⟩), .pointer (some ⟨w.heap.size,0,none⟩), .pointer (some ⟨w.heap.size+1,0,none⟩)]] (0,0) _ rfl HB.out.2.2.1 Try.underlying46 rfl (by kernel_rfl)) rfl ?_
 exact ⟨_,_,_,rfl,HB.out.2.2.2.1,HB.out.1,HB.out.2.1,⟨by omega,by omega,by omega⟩,HB.out.2.2.2.2⟩
theorem party_graph (timed:Bool) (A0:Option Addr) (c0:Nat) (l0:List Int) (m:Int) (w:World):Calls Try.prog 30 #[.agg #[.slice A0 l0.length c0, .int .i64 m], .bool timed] w fun e w'=>∃ pn pp pt,e = .returned (.agg #[.int .i64 (wrap64 (2 * 2 ^ min l0.length 64)), .func (.func 52) #[] #[.pointer (some ⟨pn,0,none⟩), .pointer (some ⟨pp,0,none⟩), .pointer (some ⟨pt,0,none⟩)]])∧w'.heap[pn]? = some (.cells #[.int .i64 (l0.length:Int)] 3 (0,0))∧w'.heap[pp]? = some (.cells #[.slice A0 l0.length c0, .int .i64 m] 28 (0,0))∧w'.heap[pt]? = some (.cells #[.bool timed] 4 (0,0))∧Below w.heap.size w w' :=
 (party_graph2 timed A0 c0 l0 m w).mono (by rintro e w' ⟨pn,pp,pt,h1,h2,h3,h4,_,h5⟩;exact ⟨pn,pp,pt,h1,h2,h3,h4,h5⟩)
theorem bkI_up {o1 o2:Int→Option (List Edg)} (ho:∀ s,LeO (o1 s) (o2 s)) (d:Nat):∀ k i dist wt,LeO (bkI o1 d k i dist wt) (bkI o2 d (k+1) i dist wt):=by
 intro k;induction k with
 | zero=>intro i dist wt r h;simp[bkI] at h
 | succ k ih =>
  intro i dist wt;rw[bkI,bkI];exact LeO.ite (LeO.ite (LeO.ite (ih _ _ _) (LeO.bind (ho _) (fun _=>LeO.bind (LeO.refl _) (fun _=>ih _ _ _)))) (LeO.refl _)) (LeO.refl _)
theorem bkD_up {o1 o2:Int→Option (List Edg)} (ho:∀ s,LeO (o1 s) (o2 s)):∀ k d dist wt,LeO (bkD o1 k d dist wt) (bkD o2 (k+1) d dist wt):=by
 intro k;induction k with
 | zero=>intro d dist wt r h;simp[bkD] at h
 | succ k ih =>
  intro d dist wt;rw[bkD,bkD];exact LeO.ite (LeO.ite (LeO.bind (bkI_up ho d _ _ _ _) (fun _=>ih _ _ _)) (LeO.refl _)) (LeO.refl _)
theorem pow_le8 {n:Nat} (h:n≤8):0 < 2 ^ (n+1)∧2 ^ (n+1)≤1024∧wrap64 (2 * 2 ^ min n 64)=((2 ^ (n+1):Nat):Int):=by
 have:n=0∨n=1∨n=2∨n=3∨n=4∨n=5∨n=6∨n=7∨n=8:=by omega
 rcases this with rfl|rfl|rfl|rfl|rfl|rfl|rfl|rfl|rfl <;> exact ⟨by decide,by decide,by decide +kernel⟩
theorem R_one {w:World} {b base:Nat} {x:Int} {e:Nat} (h:w.heap[b]? = some (.cells #[.int .i64 x] e (0,0))) (hB:base≤b):(Kd.int .i64).R e w base (fun _=>True) (.slice (some ⟨b,0,none⟩) 1 1) [x]:=by
 refine Kd.R_of_own ?_ (fun k hk=>trivial)
 exact ⟨by simp[encs], .inr ⟨b,1,_,rfl,hB,h,Nat.le_refl _,by decide,by simp,by simp[encs]⟩⟩
def farL (k:Nat) (dist:List Int):List S54→List S54→Int→Option (List S54 × Int × Bool)
 | [],o,m=>some (o,m,true)
 | s :: r,o,m=>(impl_State_code.f k s.f0 s.f1).bind fun c=>if 0≤c∧c < (dist.length:Int) then (if rd dist c < 0 then some ([],0,false) else if m < rd dist c then farL k dist r [s] (rd dist c) else if rd dist c=m then farL k dist r (o ++ [s]) m else farL k dist r o m) else none
def impl_FarthestStates.f (k:Nat) (l0_0:List Int) (a0_1:Int):Option (List S54 × Int × Bool) :=
 (impl_IsParty.f l0_0 a0_1).bind fun t=>if t=true then (if l0_0.length≤8 then (bkD (ptyOut k true l0_0 a0_1) k 0 (List.replicate (2 ^ (l0_0.length+1)) (-1)) [[0]]).bind fun r=>if r.length=2 ^ (l0_0.length+1) then ((impl_inOrder.f k (l0_0.length:Int)).bind fun L=>if L.length≤1000000 then farL k r L [] (-1) else none) else none else none) else some ([],0,false)
theorem two_one (A:Option Addr) (n c:Nat) (b:Bool):∀ u ∈ ([.slice A n c, .bool b]:List Value),u.oneCell'=true:=by
 intro u hu;rcases List.mem_cons.1 hu with rfl|hu
 ·
  rfl
 ·
  rw[List.mem_singleton.1 hu];rfl
theorem map_snoc {α:Type} (js:List Nat) (g:Nat→α) (i:Nat):(js ++ [i]).map g=js.map g ++ [g i]:=by simp
set_option maxHeartbeats 8000000 in
set_option maxRecDepth 100000 in
theorem impl_FarthestStates.calls (k:Nat) (A0_0:Option Addr) (c0_0:Nat) (l0_0:List Int) (a0_1:Int) (r1:List S54) (r2:Int) (r3:Bool) (w:World) (hr0_0:Kd.C (Kd.int .i64) w A0_0 l0_0.length l0_0) (hc0_0:l0_0.length≤c0_0) (h:impl_FarthestStates.f k l0_0 a0_1=some (r1,r2,r3)) :
  Calls Try.prog 11 #[.agg #[.slice A0_0 l0_0.length c0_0, .int .i64 a0_1]] w fun e w'=>∃ v0_:Value,e = .returned (.tuple #[v0_, .int .i64 r2, .bool r3])∧Kd.S k54 54 w' w.heap.size (fun _=>True) v0_ r1∧Below w.heap.size w w':=by
 have hu:=Try.underlying28
 have hus:=Try.underlying54
 have hug:=Try.underlying46
 unfold impl_FarthestStates.f at h
 obtain ⟨t,ht,h⟩:=Option.bind_eq_some_iff.mp h
 have HT:=am' (fun (W:World) (hb:Below w.heap.size w W)=>impl_IsParty.calls A0_0 c0_0 l0_0 a0_1 t W (Kd.C_below hr0_0 hb) hc0_0 ht)
 have HX:=am' (heap_alloc_new w (.cells #[.slice A0_0 l0_0.length c0_0, .int .i64 a0_1] 28))
 have HBX:=am' (ba' (Below.refl w.heap.size w) (.cells #[.slice A0_0 l0_0.length c0_0, .int .i64 a0_1] 28))
 have HF0:=am' hr0_0
 have HC0:=am' hc0_0
 clear ht hr0_0 hc0_0;cases t with
 | false =>
  simp only[Bool.false_eq_true,if_false,Option.some.injEq,Prod.mk.injEq] at h;obtain ⟨rfl,rfl,rfl⟩:=h;go_enter Try.func11,Try.ntmps11;go_wp2_with fail;refine (HT.out _ HBX.out).mono ?_
  rintro e w2 ⟨rfl,hb⟩
  have HB:=am' (below_step HBX.out hb);clear hb;go_wp2;go_ret3
  exact ⟨_,rfl,Kd.S_nil _ _ _ _ _,HB.out⟩
 | true =>
  simp only[if_true] at h;by_cases hl8:l0_0.length≤8
  ·
   rw[if_pos hl8] at h;obtain ⟨rr,hd,h⟩:=Option.bind_eq_some_iff.mp h;by_cases hlen:rr.length=2 ^ (l0_0.length+1)
   ·
    rw[if_pos hlen] at h;obtain ⟨L,hL,h⟩:=Option.bind_eq_some_iff.mp h;by_cases hLl:L.length≤1000000
    ·
     rw[if_pos hLl] at h;obtain ⟨hp0,hp1,hp2⟩:=pow_le8 hl8;obtain ⟨N,hN⟩:∃ x,x=2 ^ (l0_0.length+1):=⟨_,rfl⟩
     rw[← hN] at hp0 hp1 hp2 hd hlen;obtain ⟨mv,hmv⟩:∃ x,x=wrap64 (2 * 2 ^ min l0_0.length 64):=⟨_,rfl⟩
     have HG:=am' (fun (W:World)=>party_graph true A0_0 c0_0 l0_0 a0_1 W);rw[← hmv] at HG;have HMN:=am' (hmv.trans hp2);have HD:=am' hd;have HP0:=am' hp0;have HP1:=am' hp1;have HLEN:=am' hlen;have HIO:=am' (fun (W:World)=>impl_inOrder.calls k (l0_0.length:Int) L W hL);have HLL:=am' hLl;have HFA:=am' h;clear hp0 hp1 hp2 hN hmv hd hl8 hlen hL hLl h;go_enter Try.func11,Try.ntmps11;go_wp2_with fail;refine (HT.out _ HBX.out).mono ?_
     rintro e w2 ⟨rfl,hb⟩
     have HB3:=am' (below_step HBX.out hb);have HX3:=am' (blk_below HX.out hb);clear hb;have x0:w2.cell? ⟨w.heap.size,0,none⟩=some (.slice A0_0 l0_0.length c0_0):=(blk_cell HX3.out 0).trans rfl;have x1:w2.cell? ⟨w.heap.size,1,none⟩=some (.int .i64 a0_1):=(blk_cell HX3.out 1).trans rfl;go_wp2_with fail;refine (HG.out _).mono ?_
     rintro e w4 ⟨pn,pp,pt,rfl,hpn,hpp,hpt,hb4⟩
     have HPN:=am' hpn;have HPP:=am' hpp;have HPT:=am' hpt;have HX4:=am' (blk_below HX3.out hb4);have HB4:=am' (below_step HB3.out hb4);clear hpn hpp hpt hb4 x0 x1;go_wp2_with fail;rw[HMN.out];have HSTB:=am' (ba' (Below.refl w4.heap.size w4) (.cells #[.int .i64 0] 3));refine (from_any 52 #[.pointer (some ⟨pn,0,none⟩), .pointer (some ⟨pp,0,none⟩), .pointer (some ⟨pt,0,none⟩)] (ptyOut k true l0_0 a0_1) k N [0] rr w4 _ (enters_of Try.func52 (by kernel_rfl) rfl) (party_out k true A0_0 c0_0 l0_0 a0_1 pn pp pt w4 HPN.out HPP.out HPT.out (Kd.C_below HF0.out HB4.out) HC0.out) (some ⟨w4.heap.size,0,none⟩) 1 (R_one (heap_alloc_new w4 _) (Nat.le_refl _)) HSTB.out HP0.out HP1.out HD.out).mono ?_
     rintro e w5 ⟨v5,rfl,ho5,hb5⟩
     obtain ⟨gd,cd,hv,hgd,hgd2,_⟩:=Kd.R_form ho5 (by have h1:=HP0.out;have h2:=HLEN.out;omega);subst hv;have HO5:=am' ho5;have HB5:=am' (below_step HB4.out hb5);have HX5:=am' (blk_below HX4.out hb5);have HGD:=am' hgd2;have HN1:=am' (show rr.length≤1024 by have h1:=HP1.out;have h2:=HLEN.out;omega);have HX6:=am' (ka' HX5.out (.cells #[] 54));have HE6:=am' (heap_alloc_new w5 (.cells #[] 54));have x0:(w5.alloc (.cells #[] 54)).cell? ⟨w.heap.size,0,none⟩=some (.slice A0_0 l0_0.length c0_0):=(blk_cell HX6.out 0).trans rfl;clear ho5 hb5 hgd hgd2;go_wp2_with fail;refine (HIO.out _).mono ?_
     rintro e w8 ⟨v8,rfl,ho8,hb8⟩
     have HS6:=am' (show (w5.alloc (.cells #[] 54)).heap.size=w5.heap.size+1 by simp only[World.size_alloc]);have HB8:=am' (below_step (ba' HB5.out _) hb8);have HE8:=am' (blk_below HE6.out hb8);have HB58:=am' (below_step (ba' (Below.refl w5.heap.size w5) (.cells #[] 54)) hb8);have HZ8:=am' (show w5.heap.size+1≤w8.heap.size by have:=hb8.size;rw[HS6.out] at this;exact this);obtain ⟨A8,c8,rfl⟩:=Kd.S_slice ho8;have HO8:=am' ho8;obtain ⟨f,rows,hraw,hrl,hel⟩:=Kd.S_split ho8;have HRAW:=am' hraw;have HRL:=am' hrl;have HEL:=am' hel;have hLL:=HLL.out;clear ho8 hb8 hraw hrl hel x0 HIO;go_wp2_with fail;go_loopg [6,7,24] L.length (fun gg s6 s7 s24 wr=>∃ (i:Nat) (js:List Nat) (m:Int),i≤L.length∧L.length - i≤gg∧s24 = .int .i64 (i:Int)∧s7 = .int .i64 m∧Aside0 (js.Nodup∧(∀ j ∈ js,j < i)∧js.length≤i)∧Aside0 (farL k rr (L.drop i) (js.map fun j=>L.getD j z54) m=some (r1,r2,r3))∧Aside0 ((Kd.raw 2).R 54 wr w5.heap.size (fun k_=>k_=w5.heap.size∨w8.heap.size≤k_) s6 (js.map fun j=>rows.getD j []))∧Aside0 (Kept w8 wr (fun k_=>k_=w5.heap.size))∧Aside0 (Below w.heap.size w wr))
     case atStart =>
      refine ⟨0,[], -1,Nat.zero_le _,Nat.le_refl _,rfl,rfl,⟨List.nodup_nil,fun j hj=>by simp at hj,Nat.le_refl _⟩,HFA,⟨?_⟩,⟨Kept.refl _ _⟩,HB8⟩;exact Kd.S_R (S_empty (Kd.raw 2) HE8.out (Nat.le_refl _) (.inl rfl))
     case round =>
      obtain ⟨i,js,m,hi,hg,rfl,rfl,HJ,HF,HR,HK,HB⟩:=hrel;clear HFA;by_cases hlt:i < L.length
      ·
       have hltz:(i:Int) < (L.length:Int):=by omega
       obtain ⟨s,hs⟩:∃ s,L[i]? = some s:=⟨_,List.getElem?_eq_getElem hlt⟩
       obtain ⟨c,hc,hM⟩:=HEL.out i s hs;obtain ⟨v0,rfl,hR0⟩:=k54_openM hM;obtain ⟨g8,cap8,hv8,_⟩:=Kd.S_form HO8.out (by omega);injection hv8 with hA8 hn8 hc8
       subst hA8;clear hn8 hc8;obtain ⟨ad,cc,e0,hcl,hKc,hcc⟩:=Kd.C_get (Kd.R_reads' HRAW.out).2.2 [] (i:Int) (by omega) (by rw[HRL.out];omega);cases e0;rw[Int.toNat_natCast,List.getD_eq_getElem?_getD,hc,Option.getD_some] at hKc;obtain ⟨rfl,_,_⟩:=hKc;have hz5:=HZ8.out;have hne:∀ k_:Nat,w5.heap.size+1≤k_→¬ (k_=w5.heap.size):=fun k_ h=>by omega
       have hg8:w5.heap.size+1≤g8:=by have:=(Kd.S_bound HO8.out).choose_spec.1 g8 rfl;have h2:=this.2.1;rw[HS6.out] at h2;exact h2
       have x0:wr.cell? ⟨g8,i * 2,none⟩=some v0:=by
        have h1:=hcc 0 v0 rfl;rw[Int.toNat_natCast,add_plain] at h1;exact cell_kept h1 HK.out (hne _ hg8)
       have x1:wr.cell? ⟨g8,i * 2+1,none⟩=some (.bool s.f1):=by
        have h1:=hcc 1 (.bool s.f1) rfl;rw[Int.toNat_natCast,add_plain] at h1;exact cell_kept h1 HK.out (hne _ hg8)
       obtain ⟨A0,c0,rfl,hlc,hC0⟩:=Kd.R_reads (Kd.R_kept (Kd.R_bound hR0) HK.out (fun k_ hk q=>by have h2:=hk.2.1;rw[HS6.out] at h2;omega));have hf:=HF.out
       have hs2:L[i]'hlt=s:=by
        have:=List.getElem?_eq_getElem hlt
        rw[hs] at this;exact (Option.some.inj this).symm
       rw[List.drop_eq_getElem_cons hlt,hs2,farL] at hf;obtain ⟨cn,hcn,hf⟩:=Option.bind_eq_some_iff.mp hf;by_cases hcr:0≤cn∧cn < (rr.length:Int)
       ·
        rw[if_pos hcr] at hf;have HCO:=am' (fun (W:World) (hb:Below wr.heap.size wr W)=>impl_State_code.calls k A0 c0 s.f0 s.f1 cn W (Kd.C_below hC0 hb) hlc hcn);have hd5:=(Kd.R_celln (0:Int) HO5.out cn hcr.1 hcr.2).1;have hd8:=(HB58.out.cell (bl' w5 _ hd5)).trans hd5;have hdr:=cell_kept hd8 HK.out (show ¬ (gd=w5.heap.size) by have:=HGD.out;omega);have HDR:=am' hdr;obtain ⟨dv,hdv⟩:∃ x,x=rd rr cn:=⟨_,rfl⟩
        have hdv2:rdOf 0 rr cn=dv:=by rw[hdv];rfl
        rw[hdv2] at HDR;rw[← hdv] at hf;have HNW:=am' (heap_alloc_new wr (.cells #[.slice A0 s.f0.length c0, .bool s.f1] 54));have HBA:=am' (ba' (Below.refl wr.heap.size wr) (.cells #[.slice A0 s.f0.length c0, .bool s.f1] 54));have y0:(wr.alloc (.cells #[.slice A0 s.f0.length c0, .bool s.f1] 54)).cell? ⟨wr.heap.size,0,none⟩=some (.slice A0 s.f0.length c0):=(blk_cell HNW.out 0).trans rfl;have y1:(wr.alloc (.cells #[.slice A0 s.f0.length c0, .bool s.f1] 54)).cell? ⟨wr.heap.size,1,none⟩=some (.bool s.f1):=(blk_cell HNW.out 1).trans rfl;have hc0_:=hcr.1;have hc1_:=hcr.2;have p0:(0≤cn)=True:=eq_true hc0_;have p1:(cn < (rr.length:Int))=True:=eq_true hc1_;have HCR:=am' hc;have HSS:=am' hs;clear hdr hd8 hd5 hdv hdv2 hC0 hlc hR0 hM hcc hcl hcn hcr HF hs hs2 hc hg8;have HRI:=am' (show rows.getD i []=[.slice A0 s.f0.length c0, .bool s.f1] by rw[List.getD_eq_getElem?_getD,HCR.out];rfl);have HSI:=am' (show L.getD i z54=s by rw[List.getD_eq_getElem?_getD,HSS.out];rfl);have hinf:=am' (show (Try.prog.info? 54).map (fun i=>(i.zero,i.size,i.bytes))=some (some (.agg #[.slice none 0 0, .bool false]),2,32) by kernel_rfl);have hLL2:=HLL.out;have nxt_:Value.int .i64 (wrap64 ((i:Int)+1))=Value.int .i64 ((i+1:Nat):Int):=nxt (by omega);by_cases hd0:dv < 0
        ·
         rw[if_pos hd0] at hf;simp only[Option.some.injEq,Prod.mk.injEq] at hf;obtain ⟨rfl,rfl,rfl⟩:=hf;have q1:decide (dv < 0)=true:=decide_eq_true hd0;go_wp2_with (go_at_call 33;refine (HCO.out _ HBA.out).mono ?_;rintro e w9 ⟨rfl,hb9⟩;have HB9:=am' (below_step HBA.out hb9);have HN9:=am' (blk_below HNW.out hb9);have z0:w9.cell? ⟨wr.heap.size,0,none⟩=some (.slice A0 s.f0.length c0):=(blk_cell HN9.out 0).trans rfl;have z1:w9.cell? ⟨wr.heap.size,1,none⟩=some (.bool s.f1):=(blk_cell HN9.out 1).trans rfl;have z2:w9.cell? ⟨gd,cn.toNat,none⟩=some (.int .i64 dv):=(HB9.out.cell (bl' wr _ HDR.out)).trans HDR.out;clear hb9 x0 x1 y0 y1);go_ret3
         exact ⟨_,rfl,Kd.S_nil _ _ _ _ _,below_step HB.out HB9.out⟩
        ·
         rw[if_neg hd0] at hf;have q1:decide (dv < 0)=false:=decide_eq_false hd0;by_cases hm:m < dv
         ·
          rw[if_pos hm] at hf;have q2:decide (m < dv)=true:=decide_eq_true hm;have q3:(dv == dv)=true:=by simp
          have HF2:=am' hf;clear hf;go_wp2_with (first|(go_at_call 33;refine (HCO.out _ HBA.out).mono ?_;rintro e w9 ⟨rfl,hb9⟩;have HB9:=am' (below_step HBA.out hb9);have HN9:=am' (blk_below HNW.out hb9);have z0:w9.cell? ⟨wr.heap.size,0,none⟩=some (.slice A0 s.f0.length c0):=(blk_cell HN9.out 0).trans rfl;have z1:w9.cell? ⟨wr.heap.size,1,none⟩=some (.bool s.f1):=(blk_cell HN9.out 1).trans rfl;have z2:w9.cell? ⟨gd,cn.toNat,none⟩=some (.int .i64 dv):=(HB9.out.cell (bl' wr _ HDR.out)).trans HDR.out;clear hb9 x0 x1 y0 y1)|((with_reducible refine gate_builtin (b := .append) (xs:=#[.tmp 42, .tmp 44]) rfl ?_);at_builtin;refine Kd.R_append (Kd.raw 2) (w0:=w9) w5.heap.size rfl (.tmp 42) (.tmp 44) 32 54 (.agg #[.slice none 0 0, .bool false]) 32 rfl Try.underlying32 hinf.out rfl (by decide) (by omega) (.slice none 0 0) [] [.slice A0 s.f0.length c0, .bool s.f1] [.slice A0 s.f0.length c0, .bool s.f1] (fun k_=>k_=w5.heap.size∨w8.heap.size≤k_) (fun _=>False) rfl rfl ⟨rfl,rfl,two_one _ _ _ _⟩ (fun _ h=>h.elim) ?aF ?aO (Below.refl _ _) ?aS ?aL ?_;(case aF=>exact fun k_ hk => .inr (by have h1:=HK.out.1;have h2:=HB9.out.size;omega));(case aO=>exact Kd.R_nil _ _ _ _ _);(case aS=>have h1:=HK.out.1;have h2:=HB9.out.size;have h3:=HZ8.out;omega);(case aL=>have h1:=HJ.out.2.2;have h2:=HLL.out;simp only[List.length_map,List.length_nil];omega);intro v1 w10 ho hb hg hat_;clear hat_;have HO:=am' ho;have HB10:=am' hb;have HG10:=am' hg;clear ho hb hg));go_roundg (L.length - (i+1))
          case measure=>omega
          case rel =>
           have hK9:=Kept.then_ HK.out (Kept.of_below HB9.out (fun k_=>k_=w5.heap.size)) (fun k_ h => .inl h);have hK10:Kept w8 w10 (fun k_=>k_=w5.heap.size):=Kept.of_grown HG10.out hK9 (fun k_ hk=>by cases hk);have hB10:Below w.heap.size w w10:=(below_step HB.out HB9.out).trans (HB10.out.mono HB5.out.size);refine ⟨i+1,[i],dv,by omega,by omega,by first|rfl|exact nxt_|exact nxt2 (by omega),rfl,⟨by simp,fun j hj=>by simp at hj;omega,by simp⟩,⟨?_⟩,⟨?_⟩,⟨hK10⟩,⟨hB10⟩⟩
           ·
            rw[List.map_singleton,HSI.out];exact HF2.out
           ·
            rw[List.map_singleton,HRI.out];exact HO.out
         ·
          rw[if_neg hm] at hf;have q2:decide (m < dv)=false:=decide_eq_false hm;by_cases he:dv=m
          ·
           rw[if_pos he] at hf;have q3:(dv == m)=true:=by simp[he]
           have HF2:=am' hf;have HSJ:=am' (show i ∉ js from fun h=>Nat.lt_irrefl _ (HJ.out.2.1 i h));clear hf he;obtain ⟨Ao,co,e6⟩:=Kd.R_slice HR.out;rw[List.length_map] at e6;subst e6;go_wp2_with (first|(go_at_call 33;refine (HCO.out _ HBA.out).mono ?_;rintro e w9 ⟨rfl,hb9⟩;have HB9:=am' (below_step HBA.out hb9);have HN9:=am' (blk_below HNW.out hb9);have z0:w9.cell? ⟨wr.heap.size,0,none⟩=some (.slice A0 s.f0.length c0):=(blk_cell HN9.out 0).trans rfl;have z1:w9.cell? ⟨wr.heap.size,1,none⟩=some (.bool s.f1):=(blk_cell HN9.out 1).trans rfl;have z2:w9.cell? ⟨gd,cn.toNat,none⟩=some (.int .i64 dv):=(HB9.out.cell (bl' wr _ HDR.out)).trans HDR.out;clear hb9 x0 x1 y0 y1)|((with_reducible refine gate_builtin (b := .append) (xs:=#[.tmp 42, .tmp 44]) rfl ?_);at_builtin;refine Kd.R_append (Kd.raw 2) (w0:=w9) w5.heap.size rfl (.tmp 42) (.tmp 44) 32 54 (.agg #[.slice none 0 0, .bool false]) 32 rfl Try.underlying32 hinf.out rfl (by decide) (by omega) (.slice Ao js.length co) (js.map fun j=>rows.getD j []) [.slice A0 s.f0.length c0, .bool s.f1] [.slice A0 s.f0.length c0, .bool s.f1] (fun k_=>k_=w5.heap.size∨w8.heap.size≤k_) (fun _=>False) rfl rfl ⟨rfl,rfl,two_one _ _ _ _⟩ (fun _ h=>h.elim) ?aF ?aO (Below.refl _ _) ?aS ?aL ?_;(case aF=>exact fun k_ hk => .inr (by have h1:=HK.out.1;have h2:=HB9.out.size;omega));(case aO=>exact Kd.R_below HR.out HB9.out);(case aS=>have h1:=HK.out.1;have h2:=HB9.out.size;have h3:=HZ8.out;omega);(case aL=>have h1:=HJ.out.2.2;have h2:=HLL.out;simp only[List.length_map,List.length_nil];omega);intro v1 w10 ho hb hg hat_;clear hat_;have HO:=am' ho;have HB10:=am' hb;have HG10:=am' hg;clear ho hb hg));go_roundg (L.length - (i+1))
           case measure=>omega
           case rel =>
            have hK9:=Kept.then_ HK.out (Kept.of_below HB9.out (fun k_=>k_=w5.heap.size)) (fun k_ h => .inl h);have hK10:Kept w8 w10 (fun k_=>k_=w5.heap.size):=Kept.of_grown HG10.out hK9 (fun k_ hk=>(Kd.R_bound HR.out).1 k_ hk |>.1);have hB10:Below w.heap.size w w10:=(below_step HB.out HB9.out).trans (HB10.out.mono HB5.out.size);refine ⟨i+1,js ++ [i],m,by omega,by omega,by first|rfl|exact nxt_|exact nxt2 (by omega),rfl,⟨?_,fun j hj=>?_,by have:=HJ.out.2.2;simp;omega⟩,⟨?_⟩,⟨?_⟩,⟨hK10⟩,⟨hB10⟩⟩
            ·
             rw[List.nodup_append];exact ⟨HJ.out.1,by simp,fun a ha b hb e=>by simp at hb;subst hb;subst e;exact HSJ.out ha⟩
            ·
             rcases List.mem_append.1 hj with hj|hj
             ·
              have:=HJ.out.2.1 j hj;omega
             ·
              simp at hj;omega
            ·
             rw[map_snoc,HSI.out];exact HF2.out
            ·
             rw[map_snoc,HRI.out];exact HO.out
          ·
           rw[if_neg he] at hf;have q3:(dv == m)=false:=by simp[he]
           have HF2:=am' hf;clear hf;go_wp2_with (go_at_call 33;refine (HCO.out _ HBA.out).mono ?_;rintro e w9 ⟨rfl,hb9⟩;have HB9:=am' (below_step HBA.out hb9);have HN9:=am' (blk_below HNW.out hb9);have z0:w9.cell? ⟨wr.heap.size,0,none⟩=some (.slice A0 s.f0.length c0):=(blk_cell HN9.out 0).trans rfl;have z1:w9.cell? ⟨wr.heap.size,1,none⟩=some (.bool s.f1):=(blk_cell HN9.out 1).trans rfl;have z2:w9.cell? ⟨gd,cn.toNat,none⟩=some (.int .i64 dv):=(HB9.out.cell (bl' wr _ HDR.out)).trans HDR.out;clear hb9 x0 x1 y0 y1);go_roundg (L.length - (i+1))
           case measure=>omega
           case rel =>
            have hK9:=Kept.then_ HK.out (Kept.of_below HB9.out (fun k_=>k_=w5.heap.size)) (fun k_ h => .inl h);exact ⟨i+1,js,m,by omega,by omega,by first|rfl|exact nxt_|exact nxt2 (by omega),rfl,⟨HJ.out.1,fun j hj=>Nat.lt_succ_of_lt (HJ.out.2.1 j hj),Nat.le_succ_of_le HJ.out.2.2⟩,HF2,⟨Kd.R_below HR.out HB9.out⟩,⟨hK9⟩,⟨below_step HB.out HB9.out⟩⟩
       ·
        rw[if_neg hcr] at hf;cases hf
      ·
       obtain rfl:i=L.length:=by omega
       have hnl:¬ ((L.length:Nat):Int) < (L.length:Int):=by omega
       have hf:=HF.out;rw[List.drop_length,farL] at hf;simp only[Option.some.injEq,Prod.mk.injEq] at hf;obtain ⟨rfl,rfl,rfl⟩:=hf;have hz5:=HZ8.out;go_wp2;go_ret3
       refine ⟨_,rfl,Kd.S_mono (Kd.S_join js (f:=f) (rows:=js.map fun j=>rows.getD j []) (Kd.R_lower (Kd.R_mono (ok':=fun _=>True) HR.out (fun _ _=>trivial)) (show w.heap.size≤w5.heap.size from HB5.out.size)) (by simp) HJ.out.1 (fun t x hx=>?_)) (fun _ _=>trivial),HB.out⟩;rw[List.getElem?_map] at hx;obtain ⟨j,hj,rfl⟩:=Option.map_eq_some_iff.1 hx;have hjl:=HJ.out.2.1 j (List.mem_of_getElem? hj);obtain ⟨x,hxx⟩:∃ x,L[j]? = some x:=⟨_,List.getElem?_eq_getElem hjl⟩
       obtain ⟨c,hc,hM⟩:=HEL.out j x hxx;refine ⟨c,j,?_,hj,?_⟩
       ·
        rw[List.getElem?_map,hj];simp[List.getD_eq_getElem?_getD,hc]
       ·
        show k54.M _ _ _ (L.getD j z54) _
        rw[List.getD_eq_getElem?_getD,hxx,Option.getD_some];have hM2:=k54.M_bound hM;refine k54.M_lower (show w.heap.size≤(w5.alloc (.cells #[] 54)).heap.size by have h1:=HB5.out.size;rw[HS6.out];omega) (k54.M_mono (fun k_ hk=>⟨⟨trivial,fun q=>?_⟩,hk.1.2⟩) (Kd.M_step hM2 (fun k_ hk hlt=>HK.out.2 k_ hlt (fun q=>by have h2:=hk.2.1;rw[HS6.out] at h2;omega))));have h3:=(Kd.R_bound HR.out).1 k_ q.symm;have h4:=hk.2.1;have h5:=hk.2.2.1;rw[HS6.out] at h4;rcases h3.1 with h6|h6 <;> omega
    ·
     rw[if_neg hLl] at h;cases h
   ·
    rw[if_neg hlen] at h;cases h
  ·
   rw[if_neg hl8] at h;cases h
end Go.Proofs.Ytihieplobgehaaa.C1
