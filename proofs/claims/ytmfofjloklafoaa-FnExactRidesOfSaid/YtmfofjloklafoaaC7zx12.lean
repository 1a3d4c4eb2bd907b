import Derived.Test.YtmfofjloklafoaaC7zx0
import Derived.Test.YtmfofjloklafoaaC7zx10
import Derived.Test.YtmfofjloklafoaaC7zx11
import Derived.Test.YtmfofjloklafoaaC7zAl
namespace Go.Proofs.Ytmfofjloklafoaa.C7
open Go.RowKit Go.Proofs.YtmfofjloklafoaaW.PrintWords Go.Proofs.YtmfofjloklafoaaW.PrintLast Go.Proofs.YtmfofjloklafoaaW.PrintMore Go.Proofs.Ytmfofjloklafoaa.H
attribute [local go_sem] max2_int min2_int max_two min_two max_three min_three max_four min_four
set_option linter.unusedVariables false
set_option linter.unusedSimpArgs false
set_option maxHeartbeats 2000000 in
set_option maxRecDepth 100000 in
theorem state_any (A:Option Addr) (n c:Nat) (b:Bool) (w:World):Calls Try.prog 93 #[.agg #[.slice A n c, .bool b]] w fun e w'=>e = .returned (.agg #[.slice A n c, .bool b])∧Below w.heap.size w w':=by
 have hu:=Try.underlying34
 have hus:=Try.underlying73
 have HB:=am' (two_blocks w (.cells #[.slice A n c, .bool b] 34) (.cells #[.slice A n c, .bool b] 73))
 go_enter Try.func93,Try.ntmps93
 go_wp2_with fail
 refine bodyPost_ret (results_cell_row rfl _ _ (w.heap.size+1) 73 #[.slice A n c, .bool b] (0,0) _ rfl HB.out.2.1 Try.underlying73 rfl (by kernel_rfl)) rfl ?_
 exact ⟨rfl,HB.out.2.2⟩
set_option maxHeartbeats 2000000 in
set_option maxRecDepth 100000 in
theorem ridden_any (k:Nat) (A0:Option Addr) (c0:Nat) (l0:List Bool) (b:Bool) (A1:Option Addr) (c1:Nat) (l1:List Int) (r1:List Bool) (r2:Bool) (w:World) (hr0:Kd.C Kd.bool w A0 l0.length l0) (hc0:l0.length≤c0) (hr1:Kd.C (Kd.int .i64) w A1 l1.length l1) (hc1:l1.length≤c1) (h:impl_State_moved.f k l0 b l1=some (r1,r2)) :
  Calls Try.prog 74 #[.agg #[.slice A0 l0.length c0, .bool b], .slice A1 l1.length c1] w fun e w'=>∃ v0_:Value,e = .returned (.agg #[v0_, .bool r2])∧Kd.R Kd.bool 4 w' w.heap.size (fun _=>True) v0_ r1∧Below w.heap.size w w':=by
 have hu:=Try.underlying34
 have hus:=Try.underlying73
 have HB:=am' (two_blocks w (.cells #[.slice A0 l0.length c0, .bool b] 34) (.cells #[.slice none 0 0, .bool false] 34))
 have HM:=am' (fun (W:World) (hb:Below w.heap.size w W)=>impl_State_moved.calls k A0 c0 l0 b A1 c1 l1 r1 r2 W (Kd.C_below hr0 hb) hc0 (Kd.C_below hr1 hb) hc1 h)
 clear hr0 hr1 h;go_enter Try.func74,Try.ntmps74
 go_wp2_with fail
 refine (state_any A0 l0.length c0 b _).mono ?_
 rintro e w2 ⟨rfl,hb⟩
 have HB2:=am' (below_step HB.out.2.2 hb)
 have HX:=am' (blk_below HB.out.1 hb)
 have HY:=am' (blk_below HB.out.2.1 hb)
 clear hb;go_wp2_with fail
 refine (HM.out _ HB2.out).mono ?_
 rintro e w3 ⟨v0,rfl,hR,hb⟩
 obtain ⟨Av,cv,rfl⟩:=Kd.R_slice hR
 have HR:=am' hR
 have HB3:=am' (below_step HB2.out hb)
 have HY3:=am' (ka' (blk_below HY.out hb) (.cells #[.slice Av r1.length cv, .bool r2] 73))
 have HN:=am' (heap_alloc_new w3 (.cells #[.slice Av r1.length cv, .bool r2] 73))
 clear hR hb;obtain ⟨c0_,f0_,c1_,f1_⟩:=put2 HY3.out (.slice Av r1.length cv) (.bool r2)
 go_wp2_with fail
 have HKP:=am' (put2_kept (w3.alloc (.cells #[.slice Av r1.length cv, .bool r2] 73)) (w.heap.size+1) (.slice Av r1.length cv) (.bool r2))
 have HLT:=am' (blk_lt HY.out)
 refine bodyPost_ret (results_cell_row rfl _ _ (w.heap.size+1) 34 #[.slice Av r1.length cv, .bool r2] (0,0) _ rfl (put2_blk HY3.out _ _) Try.underlying34 rfl (by kernel_rfl)) rfl ?_
 refine ⟨_,rfl,Kd.R_lower (Kd.R_mono (Kd.R_kept (Kd.R_bound (ra' HR.out _)) HKP.out (fun k hk q=>by have h1:=hk.2.1;have h2:=HLT.out;omega)) (fun _ _=>trivial)) (HB2.out.size),bs' (bs' (ba' HB3.out _) (by omega)) (by omega)⟩
def KeepFr (pk pb:Nat) (n:Int) (A0:Option Addr) (c0:Nat) (l0:List (List Int)) (m:Int) (A1:Option Addr) (c1:Nat) (l1:List Bool) (tr:Bool) (W:World) (O:Nat→Prop):Prop :=
 (W.heap[pk]? = some (.cells #[.int .i64 n, .slice A0 l0.length c0, .int .i64 m] 32 (0,0))∧¬ O pk)∧(W.heap[pb]? = some (.cells #[.slice A1 l1.length c1, .bool tr] 34 (0,0))∧¬ O pb)∧Kd.F (Kd.slice 3 (Kd.int .i64)) W (fun k=>¬ O k) A0 l0.length l0∧Kd.F Kd.bool W (fun k=>¬ O k) A1 l1.length l1∧l0.length≤c0∧l1.length≤c1
theorem KeepFr.turn {pk pb:Nat} {n:Int} {A0:Option Addr} {c0:Nat} {l0:List (List Int)} {m:Int} {A1:Option Addr} {c1:Nat} {l1:List Bool} {tr:Bool} {w W:World} {O O':Nat→Prop} (h:KeepFr pk pb n A0 c0 l0 m A1 c1 l1 tr w O) (hk:Kept w W O) (ho:∀ k,O' k→O k∨w.heap.size≤k):KeepFr pk pb n A0 c0 l0 m A1 c1 l1 tr W O':=by
 obtain ⟨⟨h1,g1⟩,⟨h2,g2⟩,h3,h4,h5,h6⟩:=h
 refine ⟨⟨blk_kept h1 hk g1,fun q=>?_⟩,⟨blk_kept h2 hk g2,fun q=>?_⟩,Kd.F_mono (Kd.F_kept (Kd.F_bound h3) hk (fun _ q=>q.1)) (fun k q q2=>by rcases ho k q2 with q3|q3;exact q.1 q3;omega),Kd.F_mono (Kd.F_kept (Kd.F_bound h4) hk (fun _ q=>q.1)) (fun k q q2=>by rcases ho k q2 with q3|q3;exact q.1 q3;omega),h5,h6⟩
 ·
  rcases ho _ q with q|q
  ·
   exact g1 q
  ·
   have:=blk_lt h1;omega
 ·
  rcases ho _ q with q|q
  ·
   exact g2 q
  ·
   have:=blk_lt h2;omega
def keepInv (B bo pk pb:Nat) (n:Int) (A0:Option Addr) (c0:Nat) (l0:List (List Int)) (m:Int) (A1:Option Addr) (c1:Nat) (l1:List Bool) (tr:Bool) (s:List (List Int)) (W:World) (O:Nat→Prop):Prop:=OutInv B bo s W O∧KeepFr pk pb n A0 c0 l0 m A1 c1 l1 tr W O
def keepS (k:Nat) (n:Int) (l0:List (List Int)) (m:Int) (l1:List Bool) (tr:Bool) (s:List (List Int)) (l:List Int):Option (List (List Int)):=(impl_State_moved.f k l1 tr l).bind fun mm=>(impl_Keep_dangers.f k n l0 m mm.1 mm.2).bind fun d=>if d.length=0 then pushS s l else some s
set_option maxHeartbeats 4000000 in
set_option maxRecDepth 100000 in
theorem keep1_each (k:Nat) (B bo pk pb:Nat) (n:Int) (A0:Option Addr) (c0:Nat) (l0:List (List Int)) (m:Int) (A1:Option Addr) (c1:Nat) (l1:List Bool) (tr:Bool):EachOk B 92 #[.pointer (some ⟨pk,0,none⟩), .pointer (some ⟨pb,0,none⟩), .pointer (some ⟨bo,0,none⟩)] (keepInv B bo pk pb n A0 c0 l0 m A1 c1 l1 tr) (keepS k n l0 m l1 tr):=by
 intro s s' O W0 W vl l hinv hbel hR hs;obtain ⟨hout,hfr⟩:=hinv
 have hfr:=hfr.turn (O':=O) (Kept.of_below hbel O) (fun _ h => .inl h)
 obtain ⟨Al,cl,rfl,hlc,hC⟩:=Kd.R_reads hR
 unfold keepS at hs
 obtain ⟨⟨r1,r2⟩,hmv,hs⟩:=Option.bind_eq_some_iff.mp hs
 obtain ⟨d,hd,hs⟩:=Option.bind_eq_some_iff.mp hs
 have HRD:=am' (fun (W1:World) (hb:Below W.heap.size W W1)=>ridden_any k A1 c1 l1 tr Al cl l r1 r2 W1 (Kd.C_below (Kd.F_now hfr.2.2.2.1) hb) hfr.2.2.2.2.2 (Kd.C_below hC hb) hlc hmv)
 have HDG:=am' (fun (W1:World) (hb:Below W.heap.size W W1) (Av:Option Addr) (cv:Nat) (hc:Kd.C Kd.bool W1 Av r1.length r1) (hcv:r1.length≤cv)=>impl_Keep_dangers.calls k n A0 c0 l0 m Av cv r1 r2 d W1 (Kd.C_below (Kd.F_now hfr.2.2.1) hb) hfr.2.2.2.2.1 hc hcv hd)
 have x0:W.cell? ⟨pk,0,none⟩=some (.int .i64 n):=(blk_cell hfr.1.1 0).trans rfl
 have x1:W.cell? ⟨pk,1,none⟩=some (.slice A0 l0.length c0):=(blk_cell hfr.1.1 1).trans rfl
 have x2:W.cell? ⟨pk,2,none⟩=some (.int .i64 m):=(blk_cell hfr.1.1 2).trans rfl
 have x3:W.cell? ⟨pb,0,none⟩=some (.slice A1 l1.length c1):=(blk_cell hfr.2.1.1 0).trans rfl
 have x4:W.cell? ⟨pb,1,none⟩=some (.bool tr):=(blk_cell hfr.2.1.1 1).trans rfl
 have hu:=Try.underlying32
 have hub:=Try.underlying34
 have HFR:=am' hfr
 have HOUT:=am' hout
 have HBEL:=am' hbel
 have HR0:=am' hR
 clear hfr hout hbel hR hC hlc hmv hd;obtain ⟨nd,hnd⟩:∃ nd,nd=d.length:=⟨_,rfl⟩
 rw[← hnd] at hs
 have HND:=am' hnd
 clear hnd;by_cases hz:nd=0
 ·
  rw[if_pos hz] at hs;obtain ⟨v,hbo,hB,hS,rfl⟩:=HOUT.out
  obtain ⟨hlim,rfl⟩:s.length < 1099511627776∧s ++ [l]=s':=by
   unfold pushS at hs
   by_cases h:s.length < 1099511627776
   ·
    rw[if_pos h] at hs;exact ⟨h,Option.some.inj hs⟩
   ·
    rw[if_neg h] at hs;cases hs
  subst hz;have hinfo:=am' (show (Try.prog.info? 43).map (fun i=>(i.zero,i.size,i.bytes))=some (some (.slice none 0 0),1,24) by kernel_rfl);have HL:=am' hlim;have HBO0:=am' hbo;have HS0:=am' hS;have HBE:=am' hB;have HLO:=am' (blk_lt hbo);have HVL:=am' (Kd.S_lt hS);clear hbo hS hs hlim hB HOUT;go_enter Try.func92,Try.ntmps92;go_wp2_with fail;refine start_ (n:=7) (S:=fun w'=>w'.cell? ⟨pk,0,none⟩=some (.int .i64 n)∧w'.cell? ⟨pk,1,none⟩=some (.slice A0 l0.length c0)∧w'.cell? ⟨pk,2,none⟩=some (.int .i64 m)∧w'.cell? ⟨pb,0,none⟩=some (.slice A1 l1.length c1)∧w'.cell? ⟨pb,1,none⟩=some (.bool tr)) (ds:=[]) #[false,false,false,false,false,false,false] (by kernel_rfl) rfl rfl ⟨x0,x1,x2,x3,x4⟩ (fun hHeld=>?_);refine take_ (i:=0) (N:=some 5) (v:=?_) (a':=?_) #[true,false,false,false,false,false,false] rfl rfl (by kernel_rfl) (fun _ _ _ h=>h) (Or.inl ⟨by rfl,?_⟩) hHeld ?_ ?_
  rotate_left
  ·
   rintro w' ⟨s0_,s1_,s2_,s3_,s4_⟩
   go_simp;with_reducible rfl
  rotate_left
  ·
   simp only[Act.put,sa',sb',sc',i64_w,i32_w];rfl
  refine take_ (i:=1) (N:=some 6) (v:=?_) (a':=?_) #[true,true,false,false,false,false,false] rfl rfl (by kernel_rfl) (fun _ _ _ h=>h) (Or.inl ⟨by rfl,?_⟩) hHeld ?_ ?_
  rotate_left
  ·
   rintro w' ⟨s0_,s1_,s2_,s3_,s4_⟩
   go_simp;with_reducible rfl
  rotate_left
  ·
   simp only[Act.put,sa',sb',sc',i64_w,i32_w];rfl
  refine pure_ (i:=2) (N:=some 7) (v:=?_) (a':=?_) #[true,true,true,false,false,false,false] rfl rfl (by kernel_rfl) (fun _ _ _ h=>h) (Or.inl ⟨by rfl,?_⟩) ?_ ?_
  rotate_left
  ·
   intro w';go_simp;with_reducible rfl
  rotate_left
  ·
   simp only[Act.put,sa',sb',sc',i64_w,i32_w];rfl
  refine one_ (i:=3) (N:=some 8) #[true,true,true,true,false,false,false] rfl rfl (by kernel_rfl) (by decide) (fun K hK=>?_);refine goes_ Try.func74 (by kernel_rfl) rfl #[.agg #[.slice A1 l1.length c1, .bool tr], .slice Al l.length cl] (by rfl) rfl rfl (by (try simp only[List.map_toArray,List.map_cons,List.map_nil]);first|done|rfl) ?_
  refine (HRD.out _ (below_drew (Below.refl _ _))).mono ?_
  rintro e w2 ⟨v2,rfl,hR2,hb2⟩
  have hb2:=below_step (below_drew (Below.refl W.heap.size W)) hb2;obtain ⟨Av,cv,rfl⟩:=Kd.R_slice hR2;have HR2:=am' hR2;have HB2:=am' hb2;have y0:=(hb2.cell (bl' W _ x0)).trans x0;have y1:=(hb2.cell (bl' W _ x1)).trans x1;have y2:=(hb2.cell (bl' W _ x2)).trans x2;have y3:=(hb2.cell (bl' W _ x3)).trans x3;have y4:=(hb2.cell (bl' W _ x4)).trans x4;clear hR2 hb2;refine ⟨_,rfl,?_⟩;refine hK.out _ _ ⟨y0,y1,y2,y3,y4⟩ (fun hHeld=>?_);clear hK K;refine norm_ (a':=?_) ?_ ?_
  rotate_left
  ·
   show Act.put _ (some 8) _=_
   simp only[Act.put,sa',sb',sc',i64_w,i32_w];rfl
  refine one_ (i:=4) (N:=some 9) #[true,true,true,true,true,false,false] rfl rfl (by kernel_rfl) (by decide) (fun K hK=>?_);refine goes_ Try.func77 (by kernel_rfl) rfl #[.agg #[.int .i64 n, .slice A0 l0.length c0, .int .i64 m], .agg #[.slice Av r1.length cv, .bool r2]] (by rfl) rfl rfl (by (try simp only[List.map_toArray,List.map_cons,List.map_nil]);first|done|rfl) ?_
  refine (HDG.out _ HB2.out Av cv (Kd.R_reads' HR2.out).2.2 (Kd.R_reads' HR2.out).2.1).mono ?_
  rintro e w3 ⟨v3,rfl,hS3,hb3⟩
  obtain ⟨Ad,cd,rfl⟩:=Kd.S_slice hS3;rw[← HND.out];have hb3:=below_step HB2.out hb3;have HB3:=am' hb3;have z0:=(hb3.cell (bl' W _ x0)).trans x0;have z1:=(hb3.cell (bl' W _ x1)).trans x1;have z2:=(hb3.cell (bl' W _ x2)).trans x2;have z3:=(hb3.cell (bl' W _ x3)).trans x3;have z4:=(hb3.cell (bl' W _ x4)).trans x4;clear hS3 hb3 y0 y1 y2 y3 y4;refine ⟨_,rfl,?_⟩;refine hK.out _ _ ⟨z0,z1,z2,z3,z4⟩ (fun hHeld=>?_);clear hK K;refine norm_ (a':=?_) ?_ ?_
  rotate_left
  ·
   show Act.put _ (some 9) _=_
   simp only[Act.put,sa',sb',sc',i64_w,i32_w];rfl
  refine pure_ (i:=5) (N:=some 10) (v:=?_) (a':=?_) #[true,true,true,true,true,true,false] rfl rfl (by kernel_rfl) (fun _ _ _ h=>h) (Or.inl ⟨by rfl,?_⟩) ?_ ?_
  rotate_left
  ·
   intro w';go_simp;with_reducible rfl
  rotate_left
  ·
   simp only[Act.put,sa',sb',sc',i64_w,i32_w];rfl
  refine pure_ (i:=6) (N:=some 11) (v:=?_) (a':=?_) #[true,true,true,true,true,true,true] rfl rfl (by kernel_rfl) (fun _ _ _ h=>h) (Or.inl ⟨by rfl,?_⟩) ?_ ?_
  rotate_left
  ·
   intro w';go_simp;with_reducible rfl
  rotate_left
  ·
   simp only[Act.put,sa',sb',sc',i64_w,i32_w];rfl
  refine done_ (by kernel_rfl) ?_
  have hb2:Below W0.heap.size W0 w3:=below_step HBEL.out HB3.out;have HSZ:=am' hb2.size;have HBO:=am' (blk_below HBO0.out hb2);have HS:=am' (Kd.S_mono (Kd.S_old HS0.out hb2) (ok':=fun k=>k≠bo∧¬ W0.heap.size≤k) (fun k hk=>⟨hk.1,by omega⟩));have HR:=am' (Kd.R_below HR0.out HB3.out);have HBB:=am' (show Below B W w3 from HB3.out.mono (by have:=HBEL.out.size;have:=HLO.out;have:=HBE.out;omega));clear hb2 x0 x1 x2 x3 x4 z0 z1 z2 z3 z4;have y0:w3.cell? ⟨bo,0,none⟩=some v:=(blk_cell HBO.out 0).trans rfl;have y1:=blk_frozen HBO.out 0;go_wp2_with ((with_reducible refine gate_builtin (b := .append) (xs:=#[.tmp 12, .tmp 14]) rfl ?_);at_builtin;refine Kd.S_append (Kd.slice 3 (Kd.int .i64)) (w0:=W) B rfl (.tmp 12) (.tmp 14) 22 43 (.slice none 0 0) 24 rfl Try.underlying22 hinfo.out rfl (by decide) (by omega) v s l [.slice Al l.length cl] (fun k=>k≠bo) (fun k=>W0.heap.size≤k∧k < w3.heap.size∧k≠bo) rfl rfl ?aP ?aK ?aF ?aO ?aB ?aS ?aL ?_;(case aP=>exact ⟨_,rfl,Kd.R_lower (Kd.R_mono (Kd.R_bound HR.out) (fun k hk=>⟨hk.2.1,hk.2.2.1,by have:=HLO.out;have:=hk.2.1;omega⟩)) (by have:=HLO.out;have:=HBE.out;omega)⟩);(case aK=>exact fun k hk=>⟨hk.2.2,fun e=>by have:=HVL.out k e.symm;omega⟩);(case aF=>exact fun k hk=>by have:=HLO.out;have:=HSZ.out;omega);(case aO=>exact Kd.S_mono HS.out (fun k hk=>⟨hk.1,fun q=>hk.2 q.1⟩));(case aB=>exact HBB.out);(case aS=>have:=HLO.out;have:=HSZ.out;have:=HBE.out;omega);(case aL=>have:=HL.out;omega);intro v1 w1 ho hb hg hat;obtain ⟨A1_,c1_,e1⟩:=Kd.S_slice ho;rw[List.length_append,List.length_singleton] at e1;subst e1;have HY:=am' ((hg.block bo (Nat.lt_of_lt_of_le HLO.out HSZ.out) (Kd.S_away HS.out (fun k hk=>hk.1))).trans HBO.out);have z0:w1.cell? ⟨bo,0,none⟩=some v:=(blk_cell HY.out 0).trans rfl;have z1:=blk_frozen HY.out 0;have HO:=am' ho;have HB1:=am' hb;have HG1:=am' hg;have HA1:=am' hat;clear ho hb hg hat);go_end0
  have hkp:Kept W (w1.setCell ⟨bo,0,none⟩ (.slice A1_ (s.length+1) c1_)) (fun k=>k=bo∨some k=v.ownBlock):=Kept.setCell (Kept.of_grown HG1.out (Kept.of_below HB3.out _) (fun k hk => .inl (.inr hk.symm))) (.inl (.inl rfl)) _
  have hnew:∀ k,(k=bo∨some k=(Value.slice A1_ (s.length+1) c1_).ownBlock)→(k=bo∨some k=v.ownBlock)∨W.heap.size≤k:=by
   rintro k (rfl|hk)
   ·
    exact .inl (.inl rfl)
   ·
    rcases HA1.out with q|⟨b,q,hb⟩
    ·
     exact .inl (.inr (hk.trans q))
    ·
     rw[q] at hk;cases hk;exact .inr (Nat.le_trans HB3.out.size hb)
  exact ⟨rfl,HB1.out.setCell HBE.out _,_,⟨⟨_,blk_put HY.out 0 _ rfl,HBE.out,Kd.S_far HO.out (p:=⟨bo,0,none⟩) (fun k hk=>hk) _,rfl⟩,HFR.out.turn hkp hnew⟩,hkp,hnew⟩
 ·
  rw[if_neg hz] at hs;obtain rfl:=Option.some.inj hs;have hq1:((nd:Int) == 0)=false:=by rw[beq_eq_false_iff_ne];omega
  have hq2:decide ((nd:Int)=0)=false:=decide_eq_false (by omega);have hq3:¬ (nd:Int)=0:=by omega
  clear hs;go_enter Try.func92,Try.ntmps92;go_wp2_with fail;refine start_ (n:=7) (S:=fun w'=>w'.cell? ⟨pk,0,none⟩=some (.int .i64 n)∧w'.cell? ⟨pk,1,none⟩=some (.slice A0 l0.length c0)∧w'.cell? ⟨pk,2,none⟩=some (.int .i64 m)∧w'.cell? ⟨pb,0,none⟩=some (.slice A1 l1.length c1)∧w'.cell? ⟨pb,1,none⟩=some (.bool tr)) (ds:=[]) #[false,false,false,false,false,false,false] (by kernel_rfl) rfl rfl ⟨x0,x1,x2,x3,x4⟩ (fun hHeld=>?_);refine take_ (i:=0) (N:=some 5) (v:=?_) (a':=?_) #[true,false,false,false,false,false,false] rfl rfl (by kernel_rfl) (fun _ _ _ h=>h) (Or.inl ⟨by rfl,?_⟩) hHeld ?_ ?_
  rotate_left
  ·
   rintro w' ⟨s0_,s1_,s2_,s3_,s4_⟩
   go_simp;with_reducible rfl
  rotate_left
  ·
   simp only[Act.put,sa',sb',sc',i64_w,i32_w];rfl
  refine take_ (i:=1) (N:=some 6) (v:=?_) (a':=?_) #[true,true,false,false,false,false,false] rfl rfl (by kernel_rfl) (fun _ _ _ h=>h) (Or.inl ⟨by rfl,?_⟩) hHeld ?_ ?_
  rotate_left
  ·
   rintro w' ⟨s0_,s1_,s2_,s3_,s4_⟩
   go_simp;with_reducible rfl
  rotate_left
  ·
   simp only[Act.put,sa',sb',sc',i64_w,i32_w];rfl
  refine pure_ (i:=2) (N:=some 7) (v:=?_) (a':=?_) #[true,true,true,false,false,false,false] rfl rfl (by kernel_rfl) (fun _ _ _ h=>h) (Or.inl ⟨by rfl,?_⟩) ?_ ?_
  rotate_left
  ·
   intro w';go_simp;with_reducible rfl
  rotate_left
  ·
   simp only[Act.put,sa',sb',sc',i64_w,i32_w];rfl
  refine one_ (i:=3) (N:=some 8) #[true,true,true,true,false,false,false] rfl rfl (by kernel_rfl) (by decide) (fun K hK=>?_);refine goes_ Try.func74 (by kernel_rfl) rfl #[.agg #[.slice A1 l1.length c1, .bool tr], .slice Al l.length cl] (by rfl) rfl rfl (by (try simp only[List.map_toArray,List.map_cons,List.map_nil]);first|done|rfl) ?_
  refine (HRD.out _ (below_drew (Below.refl _ _))).mono ?_
  rintro e w2 ⟨v2,rfl,hR2,hb2⟩
  have hb2:=below_step (below_drew (Below.refl W.heap.size W)) hb2;obtain ⟨Av,cv,rfl⟩:=Kd.R_slice hR2;have HR2:=am' hR2;have HB2:=am' hb2;have y0:=(hb2.cell (bl' W _ x0)).trans x0;have y1:=(hb2.cell (bl' W _ x1)).trans x1;have y2:=(hb2.cell (bl' W _ x2)).trans x2;have y3:=(hb2.cell (bl' W _ x3)).trans x3;have y4:=(hb2.cell (bl' W _ x4)).trans x4;clear hR2 hb2;refine ⟨_,rfl,?_⟩;refine hK.out _ _ ⟨y0,y1,y2,y3,y4⟩ (fun hHeld=>?_);clear hK K;refine norm_ (a':=?_) ?_ ?_
  rotate_left
  ·
   show Act.put _ (some 8) _=_
   simp only[Act.put,sa',sb',sc',i64_w,i32_w];rfl
  refine one_ (i:=4) (N:=some 9) #[true,true,true,true,true,false,false] rfl rfl (by kernel_rfl) (by decide) (fun K hK=>?_);refine goes_ Try.func77 (by kernel_rfl) rfl #[.agg #[.int .i64 n, .slice A0 l0.length c0, .int .i64 m], .agg #[.slice Av r1.length cv, .bool r2]] (by rfl) rfl rfl (by (try simp only[List.map_toArray,List.map_cons,List.map_nil]);first|done|rfl) ?_
  refine (HDG.out _ HB2.out Av cv (Kd.R_reads' HR2.out).2.2 (Kd.R_reads' HR2.out).2.1).mono ?_
  rintro e w3 ⟨v3,rfl,hS3,hb3⟩
  obtain ⟨Ad,cd,rfl⟩:=Kd.S_slice hS3;rw[← HND.out];have hb3:=below_step HB2.out hb3;have HB3:=am' hb3;have z0:=(hb3.cell (bl' W _ x0)).trans x0;have z1:=(hb3.cell (bl' W _ x1)).trans x1;have z2:=(hb3.cell (bl' W _ x2)).trans x2;have z3:=(hb3.cell (bl' W _ x3)).trans x3;have z4:=(hb3.cell (bl' W _ x4)).trans x4;clear hS3 hb3 y0 y1 y2 y3 y4;refine ⟨_,rfl,?_⟩;refine hK.out _ _ ⟨z0,z1,z2,z3,z4⟩ (fun hHeld=>?_);clear hK K;refine norm_ (a':=?_) ?_ ?_
  rotate_left
  ·
   show Act.put _ (some 9) _=_
   simp only[Act.put,sa',sb',sc',i64_w,i32_w];rfl
  refine pure_ (i:=5) (N:=some 10) (v:=?_) (a':=?_) #[true,true,true,true,true,true,false] rfl rfl (by kernel_rfl) (fun _ _ _ h=>h) (Or.inl ⟨by rfl,?_⟩) ?_ ?_
  rotate_left
  ·
   intro w';go_simp;with_reducible rfl
  rotate_left
  ·
   simp only[Act.put,sa',sb',sc',i64_w,i32_w];rfl
  refine pure_ (i:=6) (N:=some 11) (v:=?_) (a':=?_) #[true,true,true,true,true,true,true] rfl rfl (by kernel_rfl) (fun _ _ _ h=>h) (Or.inl ⟨by rfl,?_⟩) ?_ ?_
  rotate_left
  ·
   intro w';go_simp;with_reducible rfl
  rotate_left
  ·
   simp only[Act.put,sa',sb',sc',i64_w,i32_w];rfl
  refine done_ (by kernel_rfl) ?_
  go_wp2;go_end0
  have hb2:Below W0.heap.size W0 w3:=HBEL.out.trans (HB3.out.mono HBEL.out.size)
  have hBW:B≤W.heap.size:=by
   obtain ⟨v,h1,h2,_⟩:=HOUT.out;have:=blk_lt h1;have:=HBEL.out.size;omega
  exact ⟨rfl,HB3.out.mono hBW,O,⟨HOUT.out.below hb2,HFR.out.turn (Kept.of_below HB3.out O) (fun _ h => .inl h)⟩,Kept.of_below HB3.out O,fun k h => .inl h⟩
def impl_Keep_rides.f (k:Nat) (a0_0:Int) (l0_1:List (List Int)) (a0_2:Int) (l1_0:List Bool) (a1_1:Bool):Option (List (List Int)) :=
 (keepS k a0_0 l0_1 a0_2 l1_0 a1_1 [] []).bind fun s1=>(impl_State_side.f k l1_0 a1_1 a1_1).bind fun sd=>if sd.length≤20 then (grpsF a0_2 sd []).foldlM (keepS k a0_0 l0_1 a0_2 l1_0 a1_1) s1 else none
set_option maxHeartbeats 4000000 in
set_option maxRecDepth 100000 in
theorem impl_Keep_rides.calls (k:Nat) (a0_0:Int) (A0_1:Option Addr) (c0_1:Nat) (l0_1:List (List Int)) (a0_2:Int) (A1_0:Option Addr) (c1_0:Nat) (l1_0:List Bool) (a1_1:Bool) (r:List (List Int)) (w:World) (hr0_1:Kd.C (Kd.slice 3 (Kd.int .i64)) w A0_1 l0_1.length l0_1) (hc0_1:l0_1.length≤c0_1) (hr1_0:Kd.C Kd.bool w A1_0 l1_0.length l1_0) (hc1_0:l1_0.length≤c1_0) (h:impl_Keep_rides.f k a0_0 l0_1 a0_2 l1_0 a1_1=some r) :
  Calls Try.prog 58 #[.agg #[.int .i64 a0_0, .slice A0_1 l0_1.length c0_1, .int .i64 a0_2], .agg #[.slice A1_0 l1_0.length c1_0, .bool a1_1]] w fun e w'=>∃ v0_:Value,e = .returned (v0_)∧Kd.S (Kd.slice 3 (Kd.int .i64)) 43 w' w.heap.size (fun _=>True) v0_ r∧Below w.heap.size w w':=by
 have hu:=Try.underlying32
 have hub:=Try.underlying34
 unfold impl_Keep_rides.f at h
 obtain ⟨s1,hs1,h⟩:=Option.bind_eq_some_iff.mp h
 obtain ⟨sd,hsd,h⟩:=Option.bind_eq_some_iff.mp h
 by_cases hlen:sd.length≤20
 ·
  rw[if_pos hlen] at h;have HD:=am' (fun (W:World) (hb:Below w.heap.size w W)=>impl_State_side.calls k A1_0 c1_0 l1_0 a1_1 a1_1 sd W (Kd.C_below hr1_0 hb) hc1_0 hsd);have HB0:=am' (four_blocks w (.cells #[.int .i64 a0_0, .slice A0_1 l0_1.length c0_1, .int .i64 a0_2] 32) (.cells #[.slice A1_0 l1_0.length c1_0, .bool a1_1] 34) (.cells #[] 43) (.cells #[.slice (some ⟨w.heap.size+1+1,0,none⟩) 0 0] 22));have HF0:=am' (Kd.C_F (Kd.heap_slice 3 (Kd.heap_int .i64)) hr0_1);have HF1:=am' (Kd.C_F Kd.heap_bool hr1_0);have HS1:=am' hs1;have HFO:=am' h;have HLEN:=am' hlen;clear hr0_1 hr1_0 hsd hlen h hs1;go_enter Try.func58,Try.ntmps58;go_wp2_with fail;have hsz:((((w.alloc (.cells #[.int .i64 a0_0, .slice A0_1 l0_1.length c0_1, .int .i64 a0_2] 32)).alloc (.cells #[.slice A1_0 l1_0.length c1_0, .bool a1_1] 34)).alloc (.cells #[] 43)).alloc (.cells #[.slice (some ⟨w.heap.size+1+1,0,none⟩) 0 0] 22)).heap.size=w.heap.size+1+1+1+1:=by simp only[World.size_alloc]
  generalize hW3:(((w.alloc (.cells #[.int .i64 a0_0, .slice A0_1 l0_1.length c0_1, .int .i64 a0_2] 32)).alloc (.cells #[.slice A1_0 l1_0.length c1_0, .bool a1_1] 34)).alloc (.cells #[] 43)).alloc (.cells #[.slice (some ⟨w.heap.size+1+1,0,none⟩) 0 0] 22)=W3 at HB0 hsz ⊢
  clear hW3;have HW3:=am' HB0.out.2.2.2.2;have HSZ:=am' hsz
  have HIN:=am' (show OutInv w.heap.size (w.heap.size+1+1+1) [] W3 (fun k=>k=(w.heap.size+1+1+1)∨some k=(Value.slice (some ⟨w.heap.size+1+1,0,none⟩) 0 0).ownBlock) from
   ⟨_,HB0.out.2.2.2.1,by omega,S_empty _ HB0.out.2.2.1 (by omega) (by omega),rfl⟩)
  have hno:∀ k,(k=(w.heap.size+1+1+1)∨some k=(Value.slice (some ⟨w.heap.size+1+1,0,none⟩) 0 0).ownBlock)→w.heap.size+1+1≤k:=by
   rintro k (rfl|q)
   ·
    omega
   ·
    have q:=Option.some.inj (show some _=some _ from q);simp at q;omega
  have HNO:=am' hno;clear hno
  have HCF:=am' (show KeepFr w.heap.size (w.heap.size+1) a0_0 A0_1 c0_1 l0_1 a0_2 A1_0 c1_0 l1_0 a1_1 W3 (fun k=>k=(w.heap.size+1+1+1)∨some k=(Value.slice (some ⟨w.heap.size+1+1,0,none⟩) 0 0).ownBlock) from
   ⟨⟨HB0.out.1,fun q=>by have:=HNO.out _ q;omega⟩,⟨HB0.out.2.1,fun q=>by have:=HNO.out _ q;omega⟩,Kd.F_mono (Kd.F_below HF0.out HW3.out) (fun k hk q=>by have:=HNO.out _ q;omega),Kd.F_mono (Kd.F_below HF1.out HW3.out) (fun k hk q=>by have:=HNO.out _ q;omega),hc0_1,hc1_0⟩)
  clear hsz HF0 HF1;have HBA:=am' (ba' (Below.refl W3.heap.size W3) (.cells #[] 3));have HNB:=am' (heap_alloc_new W3 (.cells #[] 3))
  have hRE:Kd.R (Kd.int .i64) 3 (W3.alloc (.cells #[] 3)) W3.heap.size (fun _=>True) (.slice (some ⟨w.heap.size+1+1+1+1,0,none⟩) 0 0) []:=by
   have:=Kd.S_R (S_empty (Kd.int .i64) (ok:=fun _=>True) HNB.out (Nat.le_refl _) trivial);rw[HSZ.out] at this ⊢;exact this
  refine (keep1_each k w.heap.size (w.heap.size+1+1+1) w.heap.size (w.heap.size+1) a0_0 A0_1 c0_1 l0_1 a0_2 A1_0 c1_0 l1_0 a1_1 [] s1 _ W3 _ _ [] ⟨HIN.out,HCF.out⟩ HBA.out hRE HS1.out).mono ?_
  rintro e w4 ⟨rfl,hb4,O4,hinv4,hk4,ho4⟩
  have HB4:=am' (show Below w.heap.size w w4 from (HW3.out.trans (HBA.out.mono (by have:=HW3.out.size;omega))).trans hb4);have HI4:=am' hinv4;have x0:w4.cell? ⟨w.heap.size+1,0,none⟩=some (.slice A1_0 l1_0.length c1_0):=(blk_cell hinv4.2.2.1.1 0).trans rfl;have x1:w4.cell? ⟨w.heap.size+1,1,none⟩=some (.bool a1_1):=(blk_cell hinv4.2.2.1.1 1).trans rfl;have x2:w4.cell? ⟨w.heap.size,2,none⟩=some (.int .i64 a0_2):=(blk_cell hinv4.2.1.1 2).trans rfl;have HOL:=am' (OutInv.lt s1 w4 O4 hinv4.1);have HNK:=am' (show ¬ O4 w.heap.size from hinv4.2.1.2);have HNB2:=am' (show ¬ O4 (w.heap.size+1) from hinv4.2.2.1.2);clear hb4 hinv4 hk4 ho4 hRE;go_wp2_with fail;refine start_ (n:=9) (S:=fun w'=>w'.cell? ⟨w.heap.size+1,0,none⟩=some (.slice A1_0 l1_0.length c1_0)∧w'.cell? ⟨w.heap.size+1,1,none⟩=some (.bool a1_1)∧w'.cell? ⟨w.heap.size,2,none⟩=some (.int .i64 a0_2)) (ds:=[]) #[false,false,false,false,false,false,false,false,false] (by kernel_rfl) rfl rfl ⟨x0,x1,x2⟩ (fun hHeld=>?_);refine take_ (i:=0) (N:=some 12) (v:=?_) (a':=?_) #[true,false,false,false,false,false,false,false,false] rfl rfl (by kernel_rfl) (fun _ _ _ h=>h) (Or.inl ⟨by rfl,?_⟩) hHeld ?_ ?_
  rotate_left
  ·
   rintro w' ⟨s0_,s1_,s2_⟩
   go_simp;with_reducible rfl
  rotate_left
  ·
   simp only[Act.put,sa',sb',sc',i64_w,i32_w];rfl
  refine pure_ (i:=2) (N:=some 14) (v:=?_) (a':=?_) #[true,false,true,false,false,false,false,false,false] rfl rfl (by kernel_rfl) (fun _ _ _ h=>h) (Or.inl ⟨by rfl,?_⟩) ?_ ?_
  rotate_left
  ·
   intro w';go_simp;with_reducible rfl
  rotate_left
  ·
   simp only[Act.put,sa',sb',sc',i64_w,i32_w];rfl
  refine take_ (i:=3) (N:=some 15) (v:=?_) (a':=?_) #[true,false,true,true,false,false,false,false,false] rfl rfl (by kernel_rfl) (fun _ _ _ h=>h) (Or.inl ⟨by rfl,?_⟩) hHeld ?_ ?_
  rotate_left
  ·
   rintro w' ⟨s0_,s1_,s2_⟩
   go_simp;with_reducible rfl
  rotate_left
  ·
   simp only[Act.put,sa',sb',sc',i64_w,i32_w];rfl
  refine pure_ (i:=5) (N:=some 17) (v:=?_) (a':=?_) #[true,false,true,true,false,true,false,false,false] rfl rfl (by kernel_rfl) (fun _ _ _ h=>h) (Or.inl ⟨by rfl,?_⟩) ?_ ?_
  rotate_left
  ·
   intro w';go_simp;with_reducible rfl
  rotate_left
  ·
   simp only[Act.put,sa',sb',sc',i64_w,i32_w];rfl
  refine take_ (i:=6) (N:=some 18) (v:=?_) (a':=?_) #[true,false,true,true,false,true,true,false,false] rfl rfl (by kernel_rfl) (fun _ _ _ h=>h) (Or.inl ⟨by rfl,?_⟩) hHeld ?_ ?_
  rotate_left
  ·
   rintro w' ⟨s0_,s1_,s2_⟩
   go_simp;with_reducible rfl
  rotate_left
  ·
   simp only[Act.put,sa',sb',sc',i64_w,i32_w];rfl
  refine pure_ (i:=7) (N:=some 19) (v:=?_) (a':=?_) #[true,false,true,true,false,true,true,true,false] rfl rfl (by kernel_rfl) (fun _ _ _ h=>h) (Or.inl ⟨by rfl,?_⟩) ?_ ?_
  rotate_left
  ·
   intro w';go_simp;with_reducible rfl
  rotate_left
  ·
   simp only[Act.put,sa',sb',sc',i64_w,i32_w];rfl
  refine one_ (i:=1) (N:=some 13) #[true,true,true,true,false,true,true,true,false] rfl rfl (by kernel_rfl) (by decide) (fun K hK=>?_);refine goes_ Try.func93 (by kernel_rfl) rfl #[.agg #[.slice A1_0 l1_0.length c1_0, .bool a1_1]] (by rfl) rfl rfl (by (try simp only[List.map_toArray,List.map_cons,List.map_nil]);first|done|rfl) ?_
  refine (state_any A1_0 l1_0.length c1_0 a1_1 _).mono ?_
  rintro e w5 ⟨rfl,hb5⟩
  have hb5:=below_step (below_drew (Below.refl w4.heap.size w4)) hb5;have HB5:=am' hb5;have y0:=(hb5.cell (bl' w4 _ x0)).trans x0;have y1:=(hb5.cell (bl' w4 _ x1)).trans x1;have y2:=(hb5.cell (bl' w4 _ x2)).trans x2;clear hb5;refine ⟨_,rfl,?_⟩;refine hK.out _ _ ⟨y0,y1,y2⟩ (fun hHeld=>?_);clear hK K;refine norm_ (a':=?_) ?_ ?_
  rotate_left
  ·
   show Act.put _ (some 13) _=_
   simp only[Act.put,sa',sb',sc',i64_w,i32_w];rfl
  refine one_ (i:=4) (N:=some 16) #[true,true,true,true,true,true,true,true,false] rfl rfl (by kernel_rfl) (by decide) (fun K hK=>?_);refine goes_ Try.func66 (by kernel_rfl) rfl #[.agg #[.slice A1_0 l1_0.length c1_0, .bool a1_1], .bool a1_1] (by rfl) rfl rfl (by (try simp only[List.map_toArray,List.map_cons,List.map_nil]);first|done|rfl) ?_
  refine (HD.out _ (HB4.out.trans (HB5.out.mono HB4.out.size))).mono ?_
  rintro e w6 ⟨v6,rfl,hR6,hb6⟩
  obtain ⟨As,cs,rfl⟩:=Kd.R_slice hR6;have HR6:=am' hR6;have HS56:=am' HB5.out.size;have hb6:=below_step HB5.out hb6;have HB6:=am' hb6;have z0:=(hb6.cell (bl' w4 _ x0)).trans x0;have z1:=(hb6.cell (bl' w4 _ x1)).trans x1;have z2:=(hb6.cell (bl' w4 _ x2)).trans x2;clear hR6 hb6 y0 y1 y2;refine ⟨_,rfl,?_⟩;refine hK.out _ _ ⟨z0,z1,z2⟩ (fun hHeld=>?_);clear hK K;refine norm_ (a':=?_) ?_ ?_
  rotate_left
  ·
   show Act.put _ (some 16) _=_
   simp only[Act.put,sa',sb',sc',i64_w,i32_w];rfl
  refine one_ (i:=8) (N:=some 20) #[true,true,true,true,true,true,true,true,true] rfl rfl (by kernel_rfl) (by decide) (fun K hK=>?_);refine goes_ Try.func67 (by kernel_rfl) rfl #[.slice As sd.length cs, .int .i64 a0_2, .func (.func 92) #[] #[.pointer (some ⟨w.heap.size,0,none⟩), .pointer (some ⟨w.heap.size+1,0,none⟩), .pointer (some ⟨(w.heap.size+1+1+1),0,none⟩)]] (by rfl) rfl rfl (by (try simp only[List.map_toArray,List.map_cons,List.map_nil]);first|done|rfl) ?_
  refine (groups_any (keep1_each k w.heap.size (w.heap.size+1+1+1) w.heap.size (w.heap.size+1) a0_0 A0_1 c0_1 l0_1 a0_2 A1_0 c1_0 l1_0 a1_1) (fun s W O h=>OutInv.lt s W O h.1) (enters_of Try.func92 (by kernel_rfl) rfl) sd a0_2 As cs (Kd.R_reads' HR6.out).2.1 (by have:=HLEN.out;omega) s1 r O4 _ (by have:=HB4.out.size;have:=HB6.out.size;omega) (fun W hb=>⟨HI4.out.1.below (below_step HB6.out hb),HI4.out.2.turn (Kept.of_below (below_step HB6.out hb) _) (fun _ h => .inl h)⟩) (Kd.F_mono (Kd.R_F (Kd.R_bound HR6.out)) (fun k hk q=>by have h1:=HOL.out k q;have h2:=hk.2.1;have h3:=HS56.out;omega)) HFO.out).mono ?_
  rintro e w7 ⟨rfl,hb7,O7,⟨⟨v7,hv7,_,hS7,_⟩,_⟩,hk7,ho7⟩
  have HV7:=am' hv7;have HS7:=am' hS7;have HB7:=am' (show Below w.heap.size w w7 from (HB4.out.trans (HB6.out.mono HB4.out.size)).trans hb7);have u0:=cell_kept z0 hk7 (fun q=>HNB2.out q);have u1:=cell_kept z1 hk7 (fun q=>HNB2.out q);have u2:=cell_kept z2 hk7 (fun q=>HNK.out q);clear hb7 hv7 hS7 hk7 ho7;refine ⟨_,rfl,?_⟩;refine hK.out _ _ ⟨u0,u1,u2⟩ (fun hHeld=>?_);clear hK K;refine norm_ (a':=?_) ?_ ?_
  rotate_left
  ·
   show Act.put _ (some 20) _=_
   simp only[Act.put,sa',sb',sc',i64_w,i32_w];rfl
  refine done_ (by kernel_rfl) ?_
  have hv7:w7.cell? ⟨(w.heap.size+1+1+1),0,none⟩=some v7:=(blk_cell HV7.out 0).trans rfl;go_wp2;go_ret
  exact ⟨_,rfl,Kd.S_mono HS7.out (fun _ _=>trivial),HB7.out⟩
 ·
  rw[if_neg hlen] at h;cases h
def impl_RidesOf.f (k:Nat) (a0_0:Int) (l0_1:List (List Int)) (a0_2:Int) (l1_0:List Bool) (a1_1:Bool):Option ((List (List Int)) × Bool):=(impl_Keep_hasBank.f k a0_0 l0_1 a0_2 l1_0 a1_1).bind fun t317=>(if t317=true then ((impl_Keep_rides.f k a0_0 l0_1 a0_2 l1_0 a1_1).bind fun t318=>(some (t318,true))) else (some (([]:List (List Int)),false)))
set_option maxHeartbeats 8000000 in
set_option maxRecDepth 100000 in
theorem impl_RidesOf.calls (k:Nat) (a0_0:Int) (A0_1:Option Addr) (c0_1:Nat) (l0_1:List (List Int)) (a0_2:Int) (A1_0:Option Addr) (c1_0:Nat) (l1_0:List Bool) (a1_1:Bool) (r1:List (List Int)) (r2:Bool) (w:World) (hr0_1:Kd.C (Kd.slice 3 (Kd.int .i64)) w A0_1 l0_1.length l0_1) (hc0_1:l0_1.length≤c0_1) (hr1_0:Kd.C Kd.bool w A1_0 l1_0.length l1_0) (hc1_0:l1_0.length≤c1_0) (h:impl_RidesOf.f k a0_0 l0_1 a0_2 l1_0 a1_1=some (r1,r2)) :
  Calls Try.prog 14 #[.agg #[.int .i64 a0_0, .slice A0_1 l0_1.length c0_1, .int .i64 a0_2], .agg #[.slice A1_0 l1_0.length c1_0, .bool a1_1]] w fun e w'=>∃ v0_:Value,e = .returned (.tuple #[v0_, .bool r2])∧Kd.S (Kd.slice 3 (Kd.int .i64)) 43 w' w.heap.size (fun _=>True) v0_ r1∧Below w.heap.size w w':=by
 have hu32:=Try.underlying32
 have hu34:=Try.underlying34
 have HR0_1:=am' hr0_1
 have HC0_1:=am' hc0_1
 clear hr0_1 hc0_1;have HR1_0:=am' hr1_0
 have HC1_0:=am' hc1_0
 clear hr1_0 hc1_0;have HB:=am' (Below.refl w.heap.size w)
 have H:((impl_Keep_hasBank.f k a0_0 l0_1 a0_2 l1_0 a1_1).bind fun t317=>(if t317=true then ((impl_Keep_rides.f k a0_0 l0_1 a0_2 l1_0 a1_1).bind fun t318=>(some (t318,true))) else (some (([]:List (List Int)),false))))=some (r1,r2):=h
 clear h;replace H:=Option.bind_eq_some_iff.mp H
 obtain ⟨t317,A30,H⟩:=H
 replace H:(if t317=true then ((impl_Keep_rides.f k a0_0 l0_1 a0_2 l1_0 a1_1).bind fun t318=>(some (t318,true))) else (some (([]:List (List Int)),false)))=some (r1,r2):=H
 have A3:=am' A30
 clear A30;by_cases c4:t317=true
 ·
  subst c4;have H1:((impl_Keep_rides.f k a0_0 l0_1 a0_2 l1_0 a1_1).bind fun t318=>(some (t318,true)))=some (r1,r2):=by rw[if_pos rfl] at H;exact H
  clear H;have H:=H1;clear H1;replace H:=Option.bind_eq_some_iff.mp H;obtain ⟨t318,A50,H⟩:=H;replace H:(some (t318,true))=some (r1,r2):=H;have A5:=am' A50;clear A50;simp only[Option.some.injEq,Prod.mk.injEq] at H;obtain ⟨rfl,rfl⟩:=H;go_enter Try.func14,Try.ntmps14;go_wp2_with (first|((with_reducible refine gate_dst (N:=2) rfl ?_);refine box_event ?hg (N:=2) ?hd (cs:=#[.int .i64 a0_0, .slice A0_1 l0_1.length c0_1, .int .i64 a0_2]) (t:=32) ?hr ?_;(case hd=>rfl);(case hg=>rfl);(case hr=>first|(go_simp;done)|(go_simp;rfl));intro gb315 hg w6 hbox hb;have n0_:=am' (below_step (by repeat (first|(with_reducible first|exact HB.out|apply ba'|apply bd'|apply be')|exact HB.out)) hb);have n1_:=am' (hbox);have n2_:=am' ((by rw[hg];exact (below_size (by repeat (first|(with_reducible first|exact HB.out|apply ba'|apply bd'|apply be')|exact HB.out))):w.heap.size≤gb315));have n3_:=am' ((by rw[hg];exact (below_size (by repeat (first|(with_reducible first|exact HB.out|apply ba'|apply bd'|apply be')|exact HB.out))):w.heap.size≤gb315));clear HB;have HB:=n0_;have BK315:=n1_;have GW315:=n2_;have GE315:=n3_;clear n0_ n1_ n2_ n3_;clear hb hbox hg)|((with_reducible refine gate_dst (N:=3) rfl ?_);refine box_event ?hg (N:=3) ?hd (cs:=#[.slice A1_0 l1_0.length c1_0, .bool a1_1]) (t:=34) ?hr ?_;(case hd=>rfl);(case hg=>rfl);(case hr=>first|(go_simp;done)|(go_simp;rfl));intro gb316 hg w7 hbox hb;have n0_:=am' (blk_below (g:=gb315) (o := .cells #[.int .i64 a0_0, .slice A0_1 l0_1.length c0_1, .int .i64 a0_2] 32 (0,0)) (by (with_reducible repeat (first|refine kn' ?_ _|refine kd' ?_|refine ka' ?_ _));exact BK315.out) hb);have n1_:=am' (below_step (by repeat (first|(with_reducible first|exact HB.out|apply ba'|apply bd'|apply be'|refine bs' ?_ GE315.out)|exact HB.out)) hb);have n2_:=am' (hbox);have n3_:=am' ((by rw[hg];exact (below_size (by repeat (first|(with_reducible first|exact HB.out|apply ba'|apply bd'|apply be'|refine bs' ?_ GE315.out)|exact HB.out))):w.heap.size≤gb316));have n4_:=am' ((by rw[hg];exact (below_size (by repeat (first|(with_reducible first|exact HB.out|apply ba'|apply bd'|apply be'|refine bs' ?_ GE315.out)|exact HB.out))):w.heap.size≤gb316));have n5_:=am' ((by rw[hg];exact Nat.ne_of_lt (blk_lt (g:=gb315) (o := .cells #[.int .i64 a0_0, .slice A0_1 l0_1.length c0_1, .int .i64 a0_2] 32 (0,0)) (by (with_reducible repeat (first|refine kn' ?_ _|refine kd' ?_|refine ka' ?_ _));exact BK315.out)):gb315≠gb316));have n6_:=am' ((by rw[hg];exact Nat.ne_of_gt (blk_lt (g:=gb315) (o := .cells #[.int .i64 a0_0, .slice A0_1 l0_1.length c0_1, .int .i64 a0_2] 32 (0,0)) (by (with_reducible repeat (first|refine kn' ?_ _|refine kd' ?_|refine ka' ?_ _));exact BK315.out)):gb316≠gb315));clear BK315;clear HB;have BK315:=n0_;have HB:=n1_;have BK316:=n2_;have GW316:=n3_;have GE316:=n4_;have NB315_316:=n5_;have NB316_315:=n6_;clear n0_ n1_ n2_ n3_ n4_ n5_ n6_;clear hb hbox hg;have hnb8:=NB315_316.out;have hnc8:=NB316_315.out;have hcz9_0:w7.cell? ⟨gb315,0,none⟩=some (.int .i64 a0_0):=(blk_cell BK315.out 0).trans rfl;have hcz9_1:w7.cell? ⟨gb315,1,none⟩=some (.slice A0_1 l0_1.length c0_1):=(blk_cell BK315.out 1).trans rfl;have hcz9_2:w7.cell? ⟨gb315,2,none⟩=some (.int .i64 a0_2):=(blk_cell BK315.out 2).trans rfl;have hfz9_0:=blk_frozen BK315.out 0;have hfz9_1:=blk_frozen BK315.out 1;have hfz9_2:=blk_frozen BK315.out 2;have hcz10_0:w7.cell? ⟨gb316,0,none⟩=some (.slice A1_0 l1_0.length c1_0):=(blk_cell BK316.out 0).trans rfl;have hcz10_1:w7.cell? ⟨gb316,1,none⟩=some (.bool a1_1):=(blk_cell BK316.out 1).trans rfl;have hfz10_0:=blk_frozen BK316.out 0;have hfz10_1:=blk_frozen BK316.out 1)|((with_reducible refine gate_callee (f:=57) rfl ?_);refine goesL_ (some 8) rfl rfl Try.func57 (by kernel_rfl) rfl #[.agg #[.int .i64 a0_0, .slice A0_1 l0_1.length c0_1, .int .i64 a0_2], .agg #[.slice A1_0 l1_0.length c1_0, .bool a1_1]] rfl (by (try simp only[List.map_toArray,List.map_cons,List.map_nil]);first|done|rfl|(simp only[List.length_drop,List.length_take];rfl)) ?_;(with_reducible refine (impl_Keep_hasBank.calls k a0_0 _ _ l0_1 a0_2 _ _ l1_0 a1_1 true _ ?side1 ?side2 ?side3 ?side4 A3.out).mono ?_);(case side1=>repeat (first|exact (Kd.C_below HR0_1.out HB.out)|(with_reducible refine ca' ?_ _)|(with_reducible refine cn' ?_ _)|(with_reducible refine cd' ?_)));(case side2=>exact HC0_1.out);(case side3=>repeat (first|exact (Kd.C_below HR1_0.out HB.out)|(with_reducible refine ca' ?_ _)|(with_reducible refine cn' ?_ _)|(with_reducible refine cd' ?_)));(case side4=>exact HC1_0.out);rintro e w11 ⟨rfl,hb⟩;refine ⟨_,rfl,?_⟩;have n0_:=am' (blk_below (g:=gb315) (o := .cells #[.int .i64 a0_0, .slice A0_1 l0_1.length c0_1, .int .i64 a0_2] 32 (0,0)) (by (with_reducible repeat (first|refine kn' ?_ _|refine kd' ?_|refine ka' ?_ _));exact BK315.out) hb);have n1_:=am' (blk_below (g:=gb316) (o := .cells #[.slice A1_0 l1_0.length c1_0, .bool a1_1] 34 (0,0)) (by (with_reducible repeat (first|refine kn' ?_ _|refine kd' ?_|refine ka' ?_ _));exact BK316.out) hb);have n2_:=am' (below_step (by repeat (first|(with_reducible first|exact HB.out|apply ba'|apply bd'|apply be'|refine bs' ?_ GE315.out|refine bs' ?_ GE316.out)|exact HB.out)) hb);clear BK315;clear BK316;clear HB;have BK315:=n0_;have BK316:=n1_;have HB:=n2_;clear n0_ n1_ n2_;(try clear hb);(try clear hb2);(try clear hk);(try clear hi);have hcz12_0:w11.cell? ⟨gb315,0,none⟩=some (.int .i64 a0_0):=(blk_cell BK315.out 0).trans rfl;have hcz12_1:w11.cell? ⟨gb315,1,none⟩=some (.slice A0_1 l0_1.length c0_1):=(blk_cell BK315.out 1).trans rfl;have hcz12_2:w11.cell? ⟨gb315,2,none⟩=some (.int .i64 a0_2):=(blk_cell BK315.out 2).trans rfl;have hfz12_0:=blk_frozen BK315.out 0;have hfz12_1:=blk_frozen BK315.out 1;have hfz12_2:=blk_frozen BK315.out 2;have hcz13_0:w11.cell? ⟨gb316,0,none⟩=some (.slice A1_0 l1_0.length c1_0):=(blk_cell BK316.out 0).trans rfl;have hcz13_1:w11.cell? ⟨gb316,1,none⟩=some (.bool a1_1):=(blk_cell BK316.out 1).trans rfl;have hfz13_0:=blk_frozen BK316.out 0;have hfz13_1:=blk_frozen BK316.out 1)|((with_reducible refine gate_callee (f:=58) rfl ?_);refine goesL_ (some 12) rfl rfl Try.func58 (by kernel_rfl) rfl #[.agg #[.int .i64 a0_0, .slice A0_1 l0_1.length c0_1, .int .i64 a0_2], .agg #[.slice A1_0 l1_0.length c1_0, .bool a1_1]] rfl (by (try simp only[List.map_toArray,List.map_cons,List.map_nil]);first|done|rfl|(simp only[List.length_drop,List.length_take];rfl)) ?_;(with_reducible refine (impl_Keep_rides.calls k a0_0 _ _ l0_1 a0_2 _ _ l1_0 a1_1 t318 _ ?side1 ?side2 ?side3 ?side4 A5.out).mono ?_);(case side1=>repeat (first|exact (Kd.C_below HR0_1.out HB.out)|(with_reducible refine ca' ?_ _)|(with_reducible refine cn' ?_ _)|(with_reducible refine cd' ?_)));(case side2=>exact HC0_1.out);(case side3=>repeat (first|exact (Kd.C_below HR1_0.out HB.out)|(with_reducible refine ca' ?_ _)|(with_reducible refine cn' ?_ _)|(with_reducible refine cd' ?_)));(case side4=>exact HC1_0.out);rintro e w14 ⟨v319,rfl,ho0,hb⟩;refine ⟨_,rfl,?_⟩;have n0_:=am' (Kd.S_lower ho0 (below_size (by repeat (first|(with_reducible first|exact HB.out|apply ba'|apply bd'|apply be'|refine bs' ?_ GE315.out|refine bs' ?_ GE316.out)|exact HB.out))));have n1_:=am' (blk_below (g:=gb315) (o := .cells #[.int .i64 a0_0, .slice A0_1 l0_1.length c0_1, .int .i64 a0_2] 32 (0,0)) (by (with_reducible repeat (first|refine kn' ?_ _|refine kd' ?_|refine ka' ?_ _));exact BK315.out) hb);have n2_:=am' (blk_below (g:=gb316) (o := .cells #[.slice A1_0 l1_0.length c1_0, .bool a1_1] 34 (0,0)) (by (with_reducible repeat (first|refine kn' ?_ _|refine kd' ?_|refine ka' ?_ _));exact BK316.out) hb);have n3_:=am' (below_step (by repeat (first|(with_reducible first|exact HB.out|apply ba'|apply bd'|apply be'|refine bs' ?_ GE315.out|refine bs' ?_ GE316.out)|exact HB.out)) hb);clear BK315;clear BK316;clear HB;have HO320:=n0_;have BK315:=n1_;have BK316:=n2_;have HB:=n3_;clear n0_ n1_ n2_ n3_;(try clear hb);(try clear hb2);(try clear hk);(try clear hi);(try clear ho0)))
  go_ret2
  exact ⟨_,by first|rfl|(simp[errW_none,errW_some] <;> rfl)|(simp[*,errW_none,errW_some] <;> rfl),by (with_reducible repeat (first|apply Kd.S_alloc|apply Kd.S_drewN|apply Kd.S_drew));exact HO320.out,by repeat (first|(with_reducible first|exact HB.out|apply ba'|apply bd'|apply be'|refine bs' ?_ GE315.out|refine bs' ?_ GE316.out)|exact HB.out)⟩
 ·
  replace c4:=Bool.eq_false_iff.mpr c4;subst c4;have H1:(some (([]:List (List Int)),false))=some (r1,r2):=by rw[if_neg (show ¬ (false=true) by decide)] at H;exact H
  clear H;have H:=H1;clear H1;simp only[Option.some.injEq,Prod.mk.injEq] at H;obtain ⟨rfl,rfl⟩:=H;go_enter Try.func14,Try.ntmps14;go_wp2_with (first|((with_reducible refine gate_dst (N:=2) rfl ?_);refine box_event ?hg (N:=2) ?hd (cs:=#[.int .i64 a0_0, .slice A0_1 l0_1.length c0_1, .int .i64 a0_2]) (t:=32) ?hr ?_;(case hd=>rfl);(case hg=>rfl);(case hr=>first|(go_simp;done)|(go_simp;rfl));intro gb315 hg w15 hbox hb;have n0_:=am' (below_step (by repeat (first|(with_reducible first|exact HB.out|apply ba'|apply bd'|apply be')|exact HB.out)) hb);have n1_:=am' (hbox);have n2_:=am' ((by rw[hg];exact (below_size (by repeat (first|(with_reducible first|exact HB.out|apply ba'|apply bd'|apply be')|exact HB.out))):w.heap.size≤gb315));have n3_:=am' ((by rw[hg];exact (below_size (by repeat (first|(with_reducible first|exact HB.out|apply ba'|apply bd'|apply be')|exact HB.out))):w.heap.size≤gb315));clear HB;have HB:=n0_;have BK315:=n1_;have GW315:=n2_;have GE315:=n3_;clear n0_ n1_ n2_ n3_;clear hb hbox hg)|((with_reducible refine gate_dst (N:=3) rfl ?_);refine box_event ?hg (N:=3) ?hd (cs:=#[.slice A1_0 l1_0.length c1_0, .bool a1_1]) (t:=34) ?hr ?_;(case hd=>rfl);(case hg=>rfl);(case hr=>first|(go_simp;done)|(go_simp;rfl));intro gb316 hg w16 hbox hb;have n0_:=am' (blk_below (g:=gb315) (o := .cells #[.int .i64 a0_0, .slice A0_1 l0_1.length c0_1, .int .i64 a0_2] 32 (0,0)) (by (with_reducible repeat (first|refine kn' ?_ _|refine kd' ?_|refine ka' ?_ _));exact BK315.out) hb);have n1_:=am' (below_step (by repeat (first|(with_reducible first|exact HB.out|apply ba'|apply bd'|apply be'|refine bs' ?_ GE315.out)|exact HB.out)) hb);have n2_:=am' (hbox);have n3_:=am' ((by rw[hg];exact (below_size (by repeat (first|(with_reducible first|exact HB.out|apply ba'|apply bd'|apply be'|refine bs' ?_ GE315.out)|exact HB.out))):w.heap.size≤gb316));have n4_:=am' ((by rw[hg];exact (below_size (by repeat (first|(with_reducible first|exact HB.out|apply ba'|apply bd'|apply be'|refine bs' ?_ GE315.out)|exact HB.out))):w.heap.size≤gb316));have n5_:=am' ((by rw[hg];exact Nat.ne_of_lt (blk_lt (g:=gb315) (o := .cells #[.int .i64 a0_0, .slice A0_1 l0_1.length c0_1, .int .i64 a0_2] 32 (0,0)) (by (with_reducible repeat (first|refine kn' ?_ _|refine kd' ?_|refine ka' ?_ _));exact BK315.out)):gb315≠gb316));have n6_:=am' ((by rw[hg];exact Nat.ne_of_gt (blk_lt (g:=gb315) (o := .cells #[.int .i64 a0_0, .slice A0_1 l0_1.length c0_1, .int .i64 a0_2] 32 (0,0)) (by (with_reducible repeat (first|refine kn' ?_ _|refine kd' ?_|refine ka' ?_ _));exact BK315.out)):gb316≠gb315));clear BK315;clear HB;have BK315:=n0_;have HB:=n1_;have BK316:=n2_;have GW316:=n3_;have GE316:=n4_;have NB315_316:=n5_;have NB316_315:=n6_;clear n0_ n1_ n2_ n3_ n4_ n5_ n6_;clear hb hbox hg;have hnb17:=NB315_316.out;have hnc17:=NB316_315.out;have hcz18_0:w16.cell? ⟨gb315,0,none⟩=some (.int .i64 a0_0):=(blk_cell BK315.out 0).trans rfl;have hcz18_1:w16.cell? ⟨gb315,1,none⟩=some (.slice A0_1 l0_1.length c0_1):=(blk_cell BK315.out 1).trans rfl;have hcz18_2:w16.cell? ⟨gb315,2,none⟩=some (.int .i64 a0_2):=(blk_cell BK315.out 2).trans rfl;have hfz18_0:=blk_frozen BK315.out 0;have hfz18_1:=blk_frozen BK315.out 1;have hfz18_2:=blk_frozen BK315.out 2;have hcz19_0:w16.cell? ⟨gb316,0,none⟩=some (.slice A1_0 l1_0.length c1_0):=(blk_cell BK316.out 0).trans rfl;have hcz19_1:w16.cell? ⟨gb316,1,none⟩=some (.bool a1_1):=(blk_cell BK316.out 1).trans rfl;have hfz19_0:=blk_frozen BK316.out 0;have hfz19_1:=blk_frozen BK316.out 1)|((with_reducible refine gate_callee (f:=57) rfl ?_);refine goesL_ (some 8) rfl rfl Try.func57 (by kernel_rfl) rfl #[.agg #[.int .i64 a0_0, .slice A0_1 l0_1.length c0_1, .int .i64 a0_2], .agg #[.slice A1_0 l1_0.length c1_0, .bool a1_1]] rfl (by (try simp only[List.map_toArray,List.map_cons,List.map_nil]);first|done|rfl|(simp only[List.length_drop,List.length_take];rfl)) ?_;(with_reducible refine (impl_Keep_hasBank.calls k a0_0 _ _ l0_1 a0_2 _ _ l1_0 a1_1 false _ ?side1 ?side2 ?side3 ?side4 A3.out).mono ?_);(case side1=>repeat (first|exact (Kd.C_below HR0_1.out HB.out)|(with_reducible refine ca' ?_ _)|(with_reducible refine cn' ?_ _)|(with_reducible refine cd' ?_)));(case side2=>exact HC0_1.out);(case side3=>repeat (first|exact (Kd.C_below HR1_0.out HB.out)|(with_reducible refine ca' ?_ _)|(with_reducible refine cn' ?_ _)|(with_reducible refine cd' ?_)));(case side4=>exact HC1_0.out);rintro e w20 ⟨rfl,hb⟩;refine ⟨_,rfl,?_⟩;have n0_:=am' (blk_below (g:=gb315) (o := .cells #[.int .i64 a0_0, .slice A0_1 l0_1.length c0_1, .int .i64 a0_2] 32 (0,0)) (by (with_reducible repeat (first|refine kn' ?_ _|refine kd' ?_|refine ka' ?_ _));exact BK315.out) hb);have n1_:=am' (blk_below (g:=gb316) (o := .cells #[.slice A1_0 l1_0.length c1_0, .bool a1_1] 34 (0,0)) (by (with_reducible repeat (first|refine kn' ?_ _|refine kd' ?_|refine ka' ?_ _));exact BK316.out) hb);have n2_:=am' (below_step (by repeat (first|(with_reducible first|exact HB.out|apply ba'|apply bd'|apply be'|refine bs' ?_ GE315.out|refine bs' ?_ GE316.out)|exact HB.out)) hb);clear BK315;clear BK316;clear HB;have BK315:=n0_;have BK316:=n1_;have HB:=n2_;clear n0_ n1_ n2_;(try clear hb);(try clear hb2);(try clear hk);(try clear hi)))
  go_ret2
  exact ⟨_,by first|rfl|(simp[errW_none,errW_some] <;> rfl)|(simp[*,errW_none,errW_some] <;> rfl),by first|exact Kd.S_nil _ _ _ _ _|exact Kd.N_nil _ _ _ _ _|exact Kd.V_nil _ _ _ _ _|exact Kd.Q_nil _ _ _ _ _|exact Kd.R_nil _ _ _ _ _,by repeat (first|(with_reducible first|exact HB.out|apply ba'|apply bd'|apply be'|refine bs' ?_ GE315.out|refine bs' ?_ GE316.out)|exact HB.out)⟩
def laws_eqIntS.l0:Nat→List Int→List Int→Int→Option (Bool)
 | 0,_,_,_=>none
 | k+1,x0,x1,x5=>if x5 < (x0.length:Int) then (if 0≤x5 then (if x5 < (x1.length:Int) then (if (rd x0 x5)=(rd x1 x5) then (laws_eqIntS.l0 k x0 x1 (wrap64 (x5+1))) else (some false)) else (none)) else (none)) else (some true)
def laws_eqIntS.f (k:Nat) (l0:List Int) (l1:List Int):Option (Bool):=if (l0.length:Int)=(l1.length:Int) then (laws_eqIntS.l0 k l0 l1 0) else (some false)
set_option maxHeartbeats 8000000 in
set_option maxRecDepth 100000 in
theorem laws_eqIntS.calls (k:Nat) (A0:Option Addr) (c0:Nat) (l0:List Int) (A1:Option Addr) (c1:Nat) (l1:List Int) (r:Bool) (w:World) (hr0:Kd.C (Kd.int .i64) w A0 l0.length l0) (hc0:l0.length≤c0) (hr1:Kd.C (Kd.int .i64) w A1 l1.length l1) (hc1:l1.length≤c1) (h:laws_eqIntS.f k l0 l1=some r) :
  Calls Try.prog 24 #[.slice A0 l0.length c0, .slice A1 l1.length c1] w fun e w'=>e = .returned (.bool r)∧Drawn0 w w':=by
 have HR0:=am' hr0
 have HC0:=am' hc0
 clear hr0 hc0;have HR1:=am' hr1
 have HC1:=am' hc1
 clear hr1 hc1;have H:(if (l0.length:Int)=(l1.length:Int) then (laws_eqIntS.l0 k l0 l1 0) else (some false))=some r:=h
 clear h;by_cases c3:(l0.length:Int)=(l1.length:Int)
 ·
  rw[if_pos c3] at H;have c3b0:((l0.length:Int) == (l1.length:Int))=true:=beq_iff_eq.mpr c3;have c3b1:((l0.length:Int) != (l1.length:Int))=false:=bne_eq_false_iff_eq.mpr c3;have c3b2:(l0.length == l1.length)=true:=by first|simpa using c3|(simp at c3 ⊢;omega)
  clear c3;have H':=am' H;clear H;go_enter Try.func24,Try.ntmps24;go_wp2
  repeat (go_quiet (fail);try go_wp2)
  go_loopg [5] k (fun kq v5 w'=>∃ (x5_1:Int),v5 = .int .i64 x5_1∧Aside0 (laws_eqIntS.l0 kq l0 l1 x5_1=some r)∧Aside0 (kq≤k)∧Drawn0 w w')
  case atStart=>exact ⟨(0),(by first|rfl|(simp;done)|(simp[*];done)),H',⟨Nat.le_refl _⟩,by repeat (first|exact Drawn0.refl _|apply Drawn0.step)⟩
  case round =>
   clear H';try clear c1
   try clear c2
   try clear p2
   try clear c3
   try clear c3b0
   try clear c3b1
   try clear c3b2
   obtain ⟨x5_1,rfl,HA,HK1,⟨m1,rfl⟩⟩:=hrel;cases gk with
   | zero=>exact absurd HA.out (by simp[laws_eqIntS.l0])
   | succ k1 =>
    have H:=HA.out;clear HA;simp only[laws_eqIntS.l0] at H;by_cases c4:x5_1 < (l0.length:Int)
    ·
     rw[if_pos c4] at H;have c4b0:decide (x5_1 < (l0.length:Int))=true:=decide_eq_true c4;clear c4;by_cases c5:0≤x5_1
     ·
      rw[if_pos c5] at H;have c5b0:decide (0≤x5_1)=true:=decide_eq_true c5;clear c5;by_cases c6:x5_1 < (l1.length:Int)
      ·
       rw[if_pos c6] at H;have c6b0:decide (x5_1 < (l1.length:Int))=true:=decide_eq_true c6;clear c6;by_cases c7:(rd l0 x5_1)=(rd l1 x5_1)
       ·
        rw[if_pos c7] at H;have c7b0:((rd l0 x5_1) == (rd l1 x5_1))=true:=beq_iff_eq.mpr c7;have c7b1:((rd l0 x5_1) != (rd l1 x5_1))=false:=bne_eq_false_iff_eq.mpr c7;clear c7;have H':=am' H;clear H;have p321:0≤(x5_1:Int):=of_decide_eq_true (by first|(with_reducible assumption)|assumption);have q321:x5_1 < (l0.length:Int):=of_decide_eq_true (by first|(with_reducible assumption)|assumption);obtain ⟨ad321,e321,hx321_0⟩:=Kd.at_int HR0.out x5_1 p321 q321;cases e321;replace p321:=eq_true p321;replace q321:=eq_true q321;have p322:0≤(x5_1:Int):=of_decide_eq_true (by first|(with_reducible assumption)|assumption);have q322:x5_1 < (l1.length:Int):=of_decide_eq_true (by first|(with_reducible assumption)|assumption);obtain ⟨ad322,e322,hx322_0⟩:=Kd.at_int HR1.out x5_1 p322 q322;cases e322;replace p322:=eq_true p322;replace q322:=eq_true q322;go_wp2
        repeat (go_quiet (fail);try go_wp2)
        go_roundg k1
        case measure=>have:=HK1.out;omega
        case rel=>exact ⟨(wrap64 (x5_1+1)),(by first|rfl|(simp;done)|(simp[*];done)),H',⟨by have:=HK1.out;omega⟩,by repeat (first|exact Drawn0.refl _|apply Drawn0.step)⟩
       ·
        rw[if_neg c7] at H;have c7b0:((rd l0 x5_1) == (rd l1 x5_1))=false:=beq_eq_false_iff_ne.mpr c7;have c7b1:((rd l0 x5_1) != (rd l1 x5_1))=true:=bne_iff_ne.mpr c7;obtain rfl:=Option.some.inj H;have p321:0≤(x5_1:Int):=of_decide_eq_true (by first|(with_reducible assumption)|assumption);have q321:x5_1 < (l0.length:Int):=of_decide_eq_true (by first|(with_reducible assumption)|assumption);obtain ⟨ad321,e321,hx321_0⟩:=Kd.at_int HR0.out x5_1 p321 q321;cases e321;replace p321:=eq_true p321;replace q321:=eq_true q321;have p322:0≤(x5_1:Int):=of_decide_eq_true (by first|(with_reducible assumption)|assumption);have q322:x5_1 < (l1.length:Int):=of_decide_eq_true (by first|(with_reducible assumption)|assumption);obtain ⟨ad322,e322,hx322_0⟩:=Kd.at_int HR1.out x5_1 p322 q322;cases e322;replace p322:=eq_true p322;replace q322:=eq_true q322;go_wp2
        repeat (go_quiet (fail);try go_wp2)
        go_ret
        exact ⟨by first|rfl|(simp;done)|(simp[*];done),by repeat (first|exact Drawn0.refl _|apply Drawn0.step)⟩
      ·
       rw[if_neg c6] at H;exact absurd H (by simp)
     ·
      rw[if_neg c5] at H;exact absurd H (by simp)
    ·
     rw[if_neg c4] at H;have c4b0:decide (x5_1 < (l0.length:Int))=false:=decide_eq_false c4;clear c4;obtain rfl:=Option.some.inj H;go_wp2
     repeat (go_quiet (fail);try go_wp2)
     go_ret
     exact ⟨by first|rfl|(simp;done)|(simp[*];done),by repeat (first|exact Drawn0.refl _|apply Drawn0.step)⟩
 ·
  rw[if_neg c3] at H;have c3b0:((l0.length:Int) == (l1.length:Int))=false:=beq_eq_false_iff_ne.mpr c3;have c3b1:((l0.length:Int) != (l1.length:Int))=true:=bne_iff_ne.mpr c3;have c3b2:(l0.length == l1.length)=false:=by first|simpa using c3|(simp at c3 ⊢;omega)
  obtain rfl:=Option.some.inj H;go_enter Try.func24,Try.ntmps24;go_wp2
  repeat (go_quiet (fail);try go_wp2)
  go_ret
  exact ⟨by first|rfl|(simp;done)|(simp[*];done),by repeat (first|exact Drawn0.refl _|apply Drawn0.step)⟩
def laws_eqIntSS.l0:Nat→List (List Int)→List (List Int)→Int→Option (Bool)
 | 0,_,_,_=>none
 | k+1,x0,x1,x5=>if x5 < (x0.length:Int) then (if 0≤x5 then (if x5 < (x1.length:Int) then ((laws_eqIntS.f k (rd_L1 x0 x5) (rd_L1 x1 x5)).bind fun t325=>(if t325=true then (laws_eqIntSS.l0 k x0 x1 (wrap64 (x5+1))) else (some false))) else (none)) else (none)) else (some true)
def laws_eqIntSS.f (k:Nat) (l0:List (List Int)) (l1:List (List Int)):Option (Bool):=if (l0.length:Int)=(l1.length:Int) then (laws_eqIntSS.l0 k l0 l1 0) else (some false)
set_option maxHeartbeats 8000000 in
set_option maxRecDepth 100000 in
theorem laws_eqIntSS.calls (k:Nat) (A0:Option Addr) (c0:Nat) (l0:List (List Int)) (A1:Option Addr) (c1:Nat) (l1:List (List Int)) (r:Bool) (w:World) (hr0:Kd.C (Kd.slice 3 (Kd.int .i64)) w A0 l0.length l0) (hc0:l0.length≤c0) (hr1:Kd.C (Kd.slice 3 (Kd.int .i64)) w A1 l1.length l1) (hc1:l1.length≤c1) (h:laws_eqIntSS.f k l0 l1=some r) :
  Calls Try.prog 15 #[.slice A0 l0.length c0, .slice A1 l1.length c1] w fun e w'=>e = .returned (.bool r)∧Drawn0 w w':=by
 have HR0:=am' hr0
 have HC0:=am' hc0
 clear hr0 hc0;have HR1:=am' hr1
 have HC1:=am' hc1
 clear hr1 hc1;have H:(if (l0.length:Int)=(l1.length:Int) then (laws_eqIntSS.l0 k l0 l1 0) else (some false))=some r:=h
 clear h;by_cases c3:(l0.length:Int)=(l1.length:Int)
 ·
  rw[if_pos c3] at H;have c3b0:((l0.length:Int) == (l1.length:Int))=true:=beq_iff_eq.mpr c3;have c3b1:((l0.length:Int) != (l1.length:Int))=false:=bne_eq_false_iff_eq.mpr c3;have c3b2:(l0.length == l1.length)=true:=by first|simpa using c3|(simp at c3 ⊢;omega)
  clear c3;have H':=am' H;clear H;go_enter Try.func15,Try.ntmps15;go_wp2
  repeat (go_quiet (fail);try go_wp2)
  go_loopg [5] k (fun kq v5 w'=>∃ (x5_1:Int),v5 = .int .i64 x5_1∧Aside0 (laws_eqIntSS.l0 kq l0 l1 x5_1=some r)∧Aside0 (kq≤k)∧Drawn0 w w')
  case atStart=>exact ⟨(0),(by first|rfl|(simp;done)|(simp[*];done)),H',⟨Nat.le_refl _⟩,by repeat (first|exact Drawn0.refl _|apply Drawn0.step)⟩
  case round =>
   clear H';try clear c1
   try clear p2
   try clear c3
   try clear c3b0
   try clear c3b1
   try clear c3b2
   obtain ⟨x5_1,rfl,HA,HK1,⟨m1,rfl⟩⟩:=hrel;cases gk with
   | zero=>exact absurd HA.out (by simp[laws_eqIntSS.l0])
   | succ k1 =>
    have H:=HA.out;clear HA;simp only[laws_eqIntSS.l0] at H;by_cases c4:x5_1 < (l0.length:Int)
    ·
     rw[if_pos c4] at H;have c4b0:decide (x5_1 < (l0.length:Int))=true:=decide_eq_true c4;clear c4;by_cases c5:0≤x5_1
     ·
      rw[if_pos c5] at H;have c5b0:decide (0≤x5_1)=true:=decide_eq_true c5;clear c5;by_cases c6:x5_1 < (l1.length:Int)
      ·
       rw[if_pos c6] at H;have c6b0:decide (x5_1 < (l1.length:Int))=true:=decide_eq_true c6;clear c6;replace H:=Option.bind_eq_some_iff.mp H;obtain ⟨t325,A70,H⟩:=H;replace H:(if t325=true then (laws_eqIntSS.l0 k1 l0 l1 (wrap64 (x5_1+1))) else (some false))=some r:=H;have A7:=am' A70;clear A70;by_cases c8:t325=true
       ·
        subst c8;have H1:(laws_eqIntSS.l0 k1 l0 l1 (wrap64 (x5_1+1)))=some r:=by rw[if_pos rfl] at H;exact H
        clear H;have H:=H1;clear H1;have H':=am' H;clear H;have p323:0≤(x5_1:Int):=of_decide_eq_true (by first|(with_reducible assumption)|assumption);have q323:x5_1 < (l0.length:Int):=of_decide_eq_true (by first|(with_reducible assumption)|assumption);obtain ⟨ad323,A323_0,c323_0,e323,hx323_0,hl323_0,hi323_0⟩:=at_L1 HR0.out x5_1 p323 q323;cases e323;have HR323_0:=am' hi323_0;have HC323_0:=am' hl323_0;clear hi323_0 hl323_0;replace p323:=eq_true p323;replace q323:=eq_true q323;have p324:0≤(x5_1:Int):=of_decide_eq_true (by first|(with_reducible assumption)|assumption);have q324:x5_1 < (l1.length:Int):=of_decide_eq_true (by first|(with_reducible assumption)|assumption);obtain ⟨ad324,A324_0,c324_0,e324,hx324_0,hl324_0,hi324_0⟩:=at_L1 HR1.out x5_1 p324 q324;cases e324;have HR324_0:=am' hi324_0;have HC324_0:=am' hl324_0;clear hi324_0 hl324_0;replace p324:=eq_true p324;replace q324:=eq_true q324;go_wp2_with (first|(go_at_call 24;(with_reducible refine (laws_eqIntS.calls k1 _ _ (rd_L1 l0 x5_1) _ _ (rd_L1 l1 x5_1) true _ ?side1 ?side2 ?side3 ?side4 A7.out).mono ?_);(case side1=>repeat (first|exact HR323_0.out|(with_reducible refine ca' ?_ _)|(with_reducible refine cn' ?_ _)|(with_reducible refine cd' ?_)));(case side2=>exact HC323_0.out);(case side3=>repeat (first|exact HR324_0.out|(with_reducible refine ca' ?_ _)|(with_reducible refine cn' ?_ _)|(with_reducible refine cd' ?_)));(case side4=>exact HC324_0.out);rintro e w' ⟨rfl,⟨nd,rfl⟩⟩;(try first|exact ⟨rfl,_,World.drewN_drewN _ _ _⟩|exact ⟨rfl,_,Eq.trans (World.drewN_drewN _ _ _) (congrArg (World.drewN _) (Nat.add_assoc _ _ _))⟩)))
        repeat (go_quiet (first|(go_at_call 24;(with_reducible refine (laws_eqIntS.calls k1 _ _ (rd_L1 l0 x5_1) _ _ (rd_L1 l1 x5_1) true _ ?side1 ?side2 ?side3 ?side4 A7.out).mono ?_);(case side1=>repeat (first|exact HR323_0.out|(with_reducible refine ca' ?_ _)|(with_reducible refine cn' ?_ _)|(with_reducible refine cd' ?_)));(case side2=>exact HC323_0.out);(case side3=>repeat (first|exact HR324_0.out|(with_reducible refine ca' ?_ _)|(with_reducible refine cn' ?_ _)|(with_reducible refine cd' ?_)));(case side4=>exact HC324_0.out);rintro e w' ⟨rfl,⟨nd,rfl⟩⟩;(try first|exact ⟨rfl,_,World.drewN_drewN _ _ _⟩|exact ⟨rfl,_,Eq.trans (World.drewN_drewN _ _ _) (congrArg (World.drewN _) (Nat.add_assoc _ _ _))⟩)));try go_wp2_with (first|(go_at_call 24;(with_reducible refine (laws_eqIntS.calls k1 _ _ (rd_L1 l0 x5_1) _ _ (rd_L1 l1 x5_1) true _ ?side1 ?side2 ?side3 ?side4 A7.out).mono ?_);(case side1=>repeat (first|exact HR323_0.out|(with_reducible refine ca' ?_ _)|(with_reducible refine cn' ?_ _)|(with_reducible refine cd' ?_)));(case side2=>exact HC323_0.out);(case side3=>repeat (first|exact HR324_0.out|(with_reducible refine ca' ?_ _)|(with_reducible refine cn' ?_ _)|(with_reducible refine cd' ?_)));(case side4=>exact HC324_0.out);rintro e w' ⟨rfl,⟨nd,rfl⟩⟩;(try first|exact ⟨rfl,_,World.drewN_drewN _ _ _⟩|exact ⟨rfl,_,Eq.trans (World.drewN_drewN _ _ _) (congrArg (World.drewN _) (Nat.add_assoc _ _ _))⟩))))
        go_roundg k1
        case measure=>have:=HK1.out;omega
        case rel=>exact ⟨(wrap64 (x5_1+1)),(by first|rfl|(simp;done)|(simp[*];done)),H',⟨by have:=HK1.out;omega⟩,by repeat (first|exact Drawn0.refl _|apply Drawn0.step)⟩
       ·
        replace c8:=Bool.eq_false_iff.mpr c8;subst c8;have H1:(some false)=some r:=by rw[if_neg (show ¬ (false=true) by decide)] at H;exact H
        clear H;have H:=H1;clear H1;obtain rfl:=Option.some.inj H;have p323:0≤(x5_1:Int):=of_decide_eq_true (by first|(with_reducible assumption)|assumption);have q323:x5_1 < (l0.length:Int):=of_decide_eq_true (by first|(with_reducible assumption)|assumption);obtain ⟨ad323,A323_0,c323_0,e323,hx323_0,hl323_0,hi323_0⟩:=at_L1 HR0.out x5_1 p323 q323;cases e323;have HR323_0:=am' hi323_0;have HC323_0:=am' hl323_0;clear hi323_0 hl323_0;replace p323:=eq_true p323;replace q323:=eq_true q323;have p324:0≤(x5_1:Int):=of_decide_eq_true (by first|(with_reducible assumption)|assumption);have q324:x5_1 < (l1.length:Int):=of_decide_eq_true (by first|(with_reducible assumption)|assumption);obtain ⟨ad324,A324_0,c324_0,e324,hx324_0,hl324_0,hi324_0⟩:=at_L1 HR1.out x5_1 p324 q324;cases e324;have HR324_0:=am' hi324_0;have HC324_0:=am' hl324_0;clear hi324_0 hl324_0;replace p324:=eq_true p324;replace q324:=eq_true q324;go_wp2_with (first|(go_at_call 24;(with_reducible refine (laws_eqIntS.calls k1 _ _ (rd_L1 l0 x5_1) _ _ (rd_L1 l1 x5_1) false _ ?side1 ?side2 ?side3 ?side4 A7.out).mono ?_);(case side1=>repeat (first|exact HR323_0.out|(with_reducible refine ca' ?_ _)|(with_reducible refine cn' ?_ _)|(with_reducible refine cd' ?_)));(case side2=>exact HC323_0.out);(case side3=>repeat (first|exact HR324_0.out|(with_reducible refine ca' ?_ _)|(with_reducible refine cn' ?_ _)|(with_reducible refine cd' ?_)));(case side4=>exact HC324_0.out);rintro e w' ⟨rfl,⟨nd,rfl⟩⟩;(try first|exact ⟨rfl,_,World.drewN_drewN _ _ _⟩|exact ⟨rfl,_,Eq.trans (World.drewN_drewN _ _ _) (congrArg (World.drewN _) (Nat.add_assoc _ _ _))⟩)))
        repeat (go_quiet (first|(go_at_call 24;(with_reducible refine (laws_eqIntS.calls k1 _ _ (rd_L1 l0 x5_1) _ _ (rd_L1 l1 x5_1) false _ ?side1 ?side2 ?side3 ?side4 A7.out).mono ?_);(case side1=>repeat (first|exact HR323_0.out|(with_reducible refine ca' ?_ _)|(with_reducible refine cn' ?_ _)|(with_reducible refine cd' ?_)));(case side2=>exact HC323_0.out);(case side3=>repeat (first|exact HR324_0.out|(with_reducible refine ca' ?_ _)|(with_reducible refine cn' ?_ _)|(with_reducible refine cd' ?_)));(case side4=>exact HC324_0.out);rintro e w' ⟨rfl,⟨nd,rfl⟩⟩;(try first|exact ⟨rfl,_,World.drewN_drewN _ _ _⟩|exact ⟨rfl,_,Eq.trans (World.drewN_drewN _ _ _) (congrArg (World.drewN _) (Nat.add_assoc _ _ _))⟩)));try go_wp2_with (first|(go_at_call 24;(with_reducible refine (laws_eqIntS.calls k1 _ _ (rd_L1 l0 x5_1) _ _ (rd_L1 l1 x5_1) false _ ?side1 ?side2 ?side3 ?side4 A7.out).mono ?_);(case side1=>repeat (first|exact HR323_0.out|(with_reducible refine ca' ?_ _)|(with_reducible refine cn' ?_ _)|(with_reducible refine cd' ?_)));(case side2=>exact HC323_0.out);(case side3=>repeat (first|exact HR324_0.out|(with_reducible refine ca' ?_ _)|(with_reducible refine cn' ?_ _)|(with_reducible refine cd' ?_)));(case side4=>exact HC324_0.out);rintro e w' ⟨rfl,⟨nd,rfl⟩⟩;(try first|exact ⟨rfl,_,World.drewN_drewN _ _ _⟩|exact ⟨rfl,_,Eq.trans (World.drewN_drewN _ _ _) (congrArg (World.drewN _) (Nat.add_assoc _ _ _))⟩))))
        go_ret
        exact ⟨by first|rfl|(simp;done)|(simp[*];done),by repeat (first|exact Drawn0.refl _|apply Drawn0.step)⟩
      ·
       rw[if_neg c6] at H;exact absurd H (by simp)
     ·
      rw[if_neg c5] at H;exact absurd H (by simp)
    ·
     rw[if_neg c4] at H;have c4b0:decide (x5_1 < (l0.length:Int))=false:=decide_eq_false c4;clear c4;obtain rfl:=Option.some.inj H;go_wp2
     repeat (go_quiet (fail);try go_wp2)
     go_ret
     exact ⟨by first|rfl|(simp;done)|(simp[*];done),by repeat (first|exact Drawn0.refl _|apply Drawn0.step)⟩
 ·
  rw[if_neg c3] at H;have c3b0:((l0.length:Int) == (l1.length:Int))=false:=beq_eq_false_iff_ne.mpr c3;have c3b1:((l0.length:Int) != (l1.length:Int))=true:=bne_iff_ne.mpr c3;have c3b2:(l0.length == l1.length)=false:=by first|simpa using c3|(simp at c3 ⊢;omega)
  obtain rfl:=Option.some.inj H;go_enter Try.func15,Try.ntmps15;go_wp2
  repeat (go_quiet (fail);try go_wp2)
  go_ret
  exact ⟨by first|rfl|(simp;done)|(simp[*];done),by repeat (first|exact Drawn0.refl _|apply Drawn0.step)⟩
end Go.Proofs.Ytmfofjloklafoaa.C7
