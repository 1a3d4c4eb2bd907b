import Derived.Test.YtihieplobgehaaaC2zx0
import Derived.Test.YtihieplobgehaaaC2zx2
import Derived.Test.YtihieplobgehaaaC2zx3
import Derived.Test.YtihieplobgehaaaC2zx4
import Derived.Test.YtihieplobgehaaaC2zx5
import Derived.Test.YtihieplobgehaaaC2zAl
namespace Go.Proofs.Ytihieplobgehaaa.C2
open Go.RowKit Go.Proofs.YtihieplobgehaaaW.PrintWords Go.Proofs.YtihieplobgehaaaW.PrintLast Go.Proofs.YtihieplobgehaaaW.PrintMore Go.Proofs.Ytihieplobgehaaa.H
attribute [local go_sem] max2_int min2_int max_two min_two max_three min_three max_four min_four
set_option linter.unusedVariables false
set_option linter.unusedSimpArgs false
def spec_seNext.l0:Nat→List Int→List (List Int)→List (List Int)→Int→Int→List Int→Int→List Bool→Bool→Option ((List (List Int)))
 | 0,_,_,_,_,_,_,_,_,_=>none
 | k+1,x1,x7,x13,x14,x15,x257000,x257001,x258000,x258001=>if x15 < x14 then (if 0≤x15 then (if x15 < (x13.length:Int) then ((spec_paCross.f k x258000 x258001 (rd_L2 x13 x15)).bind fun bt262=>((spec_seIndex.f k bt262.1 bt262.2).bind fun t266=>(if 0≤t266 then (if t266 < (x1.length:Int) then (if (rd x1 t266) ≥ 0 then ((spec_paTime.f k x257000 x257001 (rd_L2 x13 x15)).bind fun t268=>((spec_seIndex.f k x258000 x258001).bind fun t269=>(if 0≤t269 then (if t269 < (x1.length:Int) then (if (wrap64 ((rd x1 t266)+t268))=(rd x1 t269) then (if x7.length < 5864062014805 then (spec_seNext.l0 k x1 (x7 ++ [rd_L2 x13 x15]) x13 x14 (wrap64 (x15+1)) x257000 x257001 x258000 x258001) else (none)) else (spec_seNext.l0 k x1 x7 x13 x14 (wrap64 (x15+1)) x257000 x257001 x258000 x258001)) else (none)) else (none)))) else (spec_seNext.l0 k x1 x7 x13 x14 (wrap64 (x15+1)) x257000 x257001 x258000 x258001)) else (none)) else (none)))) else (none)) else (none)) else (some x7)
def spec_seNext.f (k:Nat) (l0_0:List Int) (a0_1:Int) (l1:List Int) (l2_0:List Bool) (a2_1:Bool):Option ((List (List Int))):=(spec_paTrips.f k l0_0 a0_1 l2_0 a2_1).bind fun t258=>(spec_seNext.l0 k l1 ([]:List (List Int)) t258 (t258.length:Int) 0 l0_0 a0_1 l2_0 a2_1)
def spec_seNext.T6:Bool × List (List Nat × List Nat):=(true,[([],[]),([0],[0]),([1],[1]),([2],[2]),([2],[2]),([2],[2]),([4,5,2,2],[2,4,5]),([3,6,2],[2,3,6]),([2],[2]),([2],[2]),([9,6,2],[2,9]),([8,10,2],[2,8,10]),([11,2],[2,11]),([7,12,2],[2,7,12]),([2,13],[2,13])])
def spec_seNext.B6:List Nat:=[0,1,3,7,7,7,55,127,7,7,631,1911,3959,8191,16383]
theorem spec_seNext.tab6:rtab .any (opsOf Try.f43 6)=spec_seNext.T6:=by kernel_rfl
theorem spec_seNext.bits6:waitsOk spec_seNext.T6.2 spec_seNext.B6=true:=by kernel_rfl
set_option maxHeartbeats 8000000 in
set_option maxRecDepth 100000 in
theorem spec_seNext.calls (k:Nat) (A0_0:Option Addr) (c0_0:Nat) (l0_0:List Int) (a0_1:Int) (A1:Option Addr) (c1:Nat) (l1:List Int) (A2_0:Option Addr) (c2_0:Nat) (l2_0:List Bool) (a2_1:Bool) (r:List (List Int)) (w:World) (hr0_0:Kd.C (Kd.int .i64) w A0_0 l0_0.length l0_0) (hc0_0:l0_0.length≤c0_0) (hr1:Kd.C (Kd.int .i64) w A1 l1.length l1) (hc1:l1.length≤c1) (hr2_0:Kd.C Kd.bool w A2_0 l2_0.length l2_0) (hc2_0:l2_0.length≤c2_0) (h:spec_seNext.f k l0_0 a0_1 l1 l2_0 a2_1=some r) :
  Calls Try.prog 43 #[.agg #[.slice A0_0 l0_0.length c0_0, .int .i64 a0_1], .slice A1 l1.length c1, .agg #[.slice A2_0 l2_0.length c2_0, .bool a2_1]] w fun e w'=>∃ v0_:Value,e = .returned (v0_)∧Kd.N (Kd.slice 3 (Kd.int .i64)) 22 w' w.heap.size (fun k_=>(w.heap.size≤k_)) v0_ r∧Below w.heap.size w w':=by
 have hu28:=Try.underlying28
 have hu54:=Try.underlying54
 have HR0_0:=am' hr0_0
 have HC0_0:=am' hc0_0
 clear hr0_0 hc0_0;have HR1:=am' hr1
 have HC1:=am' hc1
 clear hr1 hc1;have HR2_0:=am' hr2_0
 have HC2_0:=am' hc2_0
 clear hr2_0 hc2_0;have HB:=am' (Below.refl w.heap.size w)
 have H:((spec_paTrips.f k l0_0 a0_1 l2_0 a2_1).bind fun t258=>(spec_seNext.l0 k l1 ([]:List (List Int)) t258 (t258.length:Int) 0 l0_0 a0_1 l2_0 a2_1))=some r:=h
 clear h;replace H:=Option.bind_eq_some_iff.mp H
 obtain ⟨t258,A40,H⟩:=H
 replace H:(spec_seNext.l0 k l1 ([]:List (List Int)) t258 (t258.length:Int) 0 l0_0 a0_1 l2_0 a2_1)=some r:=H
 have A4:=am' A40
 clear A40;have H':=am' H
 clear H;go_enter Try.func43,Try.ntmps43
 go_wp2_with (first|((with_reducible refine gate_dst (N:=3) rfl ?_);refine box_event ?hg (N:=3) ?hd (cs:=#[.slice A0_0 l0_0.length c0_0, .int .i64 a0_1]) (t:=28) ?hr ?_;(case hd=>rfl);(case hg=>rfl);(case hr=>first|(go_simp;done)|(go_simp;rfl));intro gb256 hg w5 hbox hb;have n0_:=am' (bt' xb' hb);have n1_:=am' (hbox);have n2_:=am' ((by rw[hg];exact (bz' xb'):w.heap.size≤gb256));have n3_:=am' ((by rw[hg];exact (bz' xb'):w.heap.size≤gb256));clear HB;have HB:=n0_;have BK256:=n1_;have GW256:=n2_;have GE256:=n3_;clear n0_ n1_ n2_ n3_;clear hb hbox hg)|((with_reducible refine gate_dst (N:=5) rfl ?_);refine box_event ?hg (N:=5) ?hd (cs:=#[.slice A2_0 l2_0.length c2_0, .bool a2_1]) (t:=54) ?hr ?_;(case hd=>rfl);(case hg=>rfl);(case hr=>first|(go_simp;done)|(go_simp;rfl));intro gb257 hg w6 hbox hb;have n0_:=am' (bb' (g:=gb256) (o := .cells #[.slice A0_0 l0_0.length c0_0, .int .i64 a0_1] 28 (0,0)) (kk' BK256.out) hb);have n1_:=am' (bt' (yb' GE256.out) hb);have n2_:=am' (hbox);have n3_:=am' ((by rw[hg];exact (bz' (yb' GE256.out)):w.heap.size≤gb257));have n4_:=am' ((by rw[hg];exact (bz' (yb' GE256.out)):w.heap.size≤gb257));have n5_:=am' ((by rw[hg];exact Nat.ne_of_lt (blk_lt (g:=gb256) (o := .cells #[.slice A0_0 l0_0.length c0_0, .int .i64 a0_1] 28 (0,0)) (kk' BK256.out)):gb256≠gb257));have n6_:=am' ((by rw[hg];exact Nat.ne_of_gt (blk_lt (g:=gb256) (o := .cells #[.slice A0_0 l0_0.length c0_0, .int .i64 a0_1] 28 (0,0)) (kk' BK256.out)):gb257≠gb256));clear BK256;clear HB;have BK256:=n0_;have HB:=n1_;have BK257:=n2_;have GW257:=n3_;have GE257:=n4_;have NB256_257:=n5_;have NB257_256:=n6_;clear n0_ n1_ n2_ n3_ n4_ n5_ n6_;clear hb hbox hg;have hnb7:=NB256_257.out;have hnc7:=NB257_256.out;have hcz8_0:w6.cell? ⟨gb256,0,none⟩=some (.slice A0_0 l0_0.length c0_0):=(bc' BK256.out 0).trans rfl;have hcz8_1:w6.cell? ⟨gb256,1,none⟩=some (.int .i64 a0_1):=(bc' BK256.out 1).trans rfl;have hfz8_0:=bf' BK256.out 0;have hfz8_1:=bf' BK256.out 1;have hcz9_0:w6.cell? ⟨gb257,0,none⟩=some (.slice A2_0 l2_0.length c2_0):=(bc' BK257.out 0).trans rfl;have hcz9_1:w6.cell? ⟨gb257,1,none⟩=some (.bool a2_1):=(bc' BK257.out 1).trans rfl;have hfz9_0:=bf' BK257.out 0;have hfz9_1:=bf' BK257.out 1)|((with_reducible refine gate_callee (f:=50) rfl ?_);refine goesL_ (some 13) rfl rfl Try.func50 xk' rfl #[.agg #[.slice A0_0 l0_0.length c0_0, .int .i64 a0_1], .agg #[.slice A2_0 l2_0.length c2_0, .bool a2_1]] rfl xl' ?_;(with_reducible refine (spec_paTrips.calls k _ _ l0_0 a0_1 _ _ l2_0 a2_1 t258 _ ?side1 ?side2 ?side3 ?side4 A4.out).mono ?_);(case side1=>exact kc' (cb' HR0_0.out HB.out));(case side2=>exact HC0_0.out);(case side3=>exact kc' (cb' HR2_0.out HB.out));(case side4=>exact HC2_0.out);rintro e w10 ⟨v259,rfl,ho0,hb⟩;refine ⟨_,rfl,?_⟩;have n0_:=am' (Kd.N_lower (Kd.N_mono (ok':=fun k_=>(w.heap.size≤k_)∧k_≠gb256∧k_≠gb257) ho0 (fun k_ hk_=>⟨(Nat.le_trans (bz' (y2' GE256.out GE257.out)) hk_),(Kd.freshB (g:=gb256) (o := .cells #[.slice A0_0 l0_0.length c0_0, .int .i64 a0_1] 28 (0,0)) (kk' BK256.out) k_ hk_),(Kd.freshB (g:=gb257) (o := .cells #[.slice A2_0 l2_0.length c2_0, .bool a2_1] 54 (0,0)) (kk' BK257.out) k_ hk_)⟩)) (bz' (y2' GE256.out GE257.out)));have n1_:=am' (bb' (g:=gb256) (o := .cells #[.slice A0_0 l0_0.length c0_0, .int .i64 a0_1] 28 (0,0)) (kk' BK256.out) hb);have n2_:=am' (bb' (g:=gb257) (o := .cells #[.slice A2_0 l2_0.length c2_0, .bool a2_1] 54 (0,0)) (kk' BK257.out) hb);have n3_:=am' (bt' (y2' GE256.out GE257.out) hb);clear BK256;clear BK257;clear HB;have HO260:=n0_;have BK256:=n1_;have BK257:=n2_;have HB:=n3_;clear n0_ n1_ n2_ n3_;(try clear hb);(try clear hb2);(try clear hk);(try clear hi);(try clear ho0);obtain ⟨Ao11,co11,eo11⟩:=Kd.N_slice HO260.out;subst eo11))
 go_loopg [7,15] k (fun kq v7 v15 w'=>∃ (x7_1:List (List Int)) (x15_1:Int),v15 = .int .i64 x15_1∧Aside0 (spec_seNext.l0 kq l1 x7_1 t258 (t258.length:Int) x15_1 l0_0 a0_1 l2_0 a2_1=some r)∧Aside0 (kq≤k)∧Aside0 (Kd.N (Kd.slice 3 (Kd.int .i64)) 22 w' w.heap.size (fun k_=>(w.heap.size≤k_)∧some k_≠((.slice Ao11 t258.length co11):Value).ownBlock∧k_≠gb256∧k_≠gb257) v7 x7_1)∧Aside0 (Kd.N (Kd.slice 3 (Kd.int .i64)) 22 w' w.heap.size (fun k_=>(w.heap.size≤k_)∧some k_≠(v7:Value).ownBlock∧k_≠gb256∧k_≠gb257) (.slice Ao11 t258.length co11) t258)∧Aside0 (w'.heap[gb256]? = some (.cells #[(.slice A0_0 l0_0.length c0_0), .int .i64 a0_1] 28 (0,0)))∧Aside0 (w'.heap[gb257]? = some (.cells #[(.slice A2_0 l2_0.length c2_0), .bool a2_1] 54 (0,0)))∧Aside0 (Below w.heap.size w w'))
 case atStart=>exact ⟨(([]:List (List Int))),(0),xs',H',⟨Nat.le_refl _⟩,⟨by first|exact Kd.S_nil _ _ _ _ _|exact Kd.N_nil _ _ _ _ _|exact Kd.V_nil _ _ _ _ _|exact Kd.Q_nil _ _ _ _ _|exact Kd.R_nil _ _ _ _ _⟩,⟨by (with_reducible repeat (first|apply Kd.N_alloc|apply Kd.N_drewN|apply Kd.N_drew));exact Kd.N_mono HO260.out (fun _ hk=>⟨hk.1,⟨(by simp[Value.ownBlock]),⟨hk.2.1,hk.2.2⟩⟩⟩)⟩,⟨kk' BK256.out⟩,⟨kk' BK257.out⟩,⟨y2' GE256.out GE257.out⟩⟩
 case round =>
  clear H';try clear c1
  try clear c2
  try clear p2
  try clear c4
  try clear c5
  try clear c7
  try clear hcz8_0
  try clear hcz8_1
  try clear hcz9_0
  try clear hcz9_1
  try clear hfz8_0
  try clear hfz8_1
  try clear hfz9_0
  try clear hfz9_1
  obtain ⟨x7_1,x15_1,rfl,HA,HK1,HO_7,HO_13,BK256,BK257,HB⟩:=hrel;cases gk with
  | zero=>exact absurd HA.out (by simp[spec_seNext.l0])
  | succ k1 =>
   have H:=HA.out;clear HA;simp only[spec_seNext.l0] at H;by_cases c12:x15_1 < (t258.length:Int)
   ·
    rw[if_pos c12] at H;have c12b0:decide (x15_1 < (t258.length:Int))=true:=dt' c12;clear c12;by_cases c13:0≤x15_1
    ·
     rw[if_pos c13] at H;have c13b0:decide (0≤x15_1)=true:=dt' c13;clear c13;by_cases c14:x15_1 < (t258.length:Int)
     ·
      rw[if_pos c14] at H;have c14b0:decide (x15_1 < (t258.length:Int))=true:=dt' c14;clear c14;replace H:=Option.bind_eq_some_iff.mp H;obtain ⟨⟨t262,t265⟩,A150,H⟩:=H;replace H:((spec_seIndex.f k1 t262 t265).bind fun t266=>(if 0≤t266 then (if t266 < (l1.length:Int) then (if (rd l1 t266) ≥ 0 then ((spec_paTime.f k1 l0_0 a0_1 (rd_L2 t258 x15_1)).bind fun t268=>((spec_seIndex.f k1 l2_0 a2_1).bind fun t269=>(if 0≤t269 then (if t269 < (l1.length:Int) then (if (wrap64 ((rd l1 t266)+t268))=(rd l1 t269) then (if x7_1.length < 5864062014805 then (spec_seNext.l0 k1 l1 (x7_1 ++ [rd_L2 t258 x15_1]) t258 (t258.length:Int) (wrap64 (x15_1+1)) l0_0 a0_1 l2_0 a2_1) else (none)) else (spec_seNext.l0 k1 l1 x7_1 t258 (t258.length:Int) (wrap64 (x15_1+1)) l0_0 a0_1 l2_0 a2_1)) else (none)) else (none)))) else (spec_seNext.l0 k1 l1 x7_1 t258 (t258.length:Int) (wrap64 (x15_1+1)) l0_0 a0_1 l2_0 a2_1)) else (none)) else (none)))=some r:=H;have A15:=am' A150;clear A150;replace H:=Option.bind_eq_some_iff.mp H;obtain ⟨t266,A160,H⟩:=H;replace H:(if 0≤t266 then (if t266 < (l1.length:Int) then (if (rd l1 t266) ≥ 0 then ((spec_paTime.f k1 l0_0 a0_1 (rd_L2 t258 x15_1)).bind fun t268=>((spec_seIndex.f k1 l2_0 a2_1).bind fun t269=>(if 0≤t269 then (if t269 < (l1.length:Int) then (if (wrap64 ((rd l1 t266)+t268))=(rd l1 t269) then (if x7_1.length < 5864062014805 then (spec_seNext.l0 k1 l1 (x7_1 ++ [rd_L2 t258 x15_1]) t258 (t258.length:Int) (wrap64 (x15_1+1)) l0_0 a0_1 l2_0 a2_1) else (none)) else (spec_seNext.l0 k1 l1 x7_1 t258 (t258.length:Int) (wrap64 (x15_1+1)) l0_0 a0_1 l2_0 a2_1)) else (none)) else (none)))) else (spec_seNext.l0 k1 l1 x7_1 t258 (t258.length:Int) (wrap64 (x15_1+1)) l0_0 a0_1 l2_0 a2_1)) else (none)) else (none))=some r:=H;have A16:=am' A160;clear A160;by_cases c17:0≤t266
      ·
       rw[if_pos c17] at H;have c17b0:decide (0≤t266)=true:=dt' c17;clear c17;by_cases c18:t266 < (l1.length:Int)
       ·
        rw[if_pos c18] at H;have c18b0:decide (t266 < (l1.length:Int))=true:=dt' c18;clear c18;by_cases c19:(rd l1 t266) ≥ 0
        ·
         rw[if_pos c19] at H;have c19b0:decide (0≤(rd l1 t266))=true:=dt' c19;clear c19;replace H:=Option.bind_eq_some_iff.mp H;obtain ⟨t268,A200,H⟩:=H;replace H:((spec_seIndex.f k1 l2_0 a2_1).bind fun t269=>(if 0≤t269 then (if t269 < (l1.length:Int) then (if (wrap64 ((rd l1 t266)+t268))=(rd l1 t269) then (if x7_1.length < 5864062014805 then (spec_seNext.l0 k1 l1 (x7_1 ++ [rd_L2 t258 x15_1]) t258 (t258.length:Int) (wrap64 (x15_1+1)) l0_0 a0_1 l2_0 a2_1) else (none)) else (spec_seNext.l0 k1 l1 x7_1 t258 (t258.length:Int) (wrap64 (x15_1+1)) l0_0 a0_1 l2_0 a2_1)) else (none)) else (none)))=some r:=H;have A20:=am' A200;clear A200;replace H:=Option.bind_eq_some_iff.mp H;obtain ⟨t269,A210,H⟩:=H;replace H:(if 0≤t269 then (if t269 < (l1.length:Int) then (if (wrap64 ((rd l1 t266)+t268))=(rd l1 t269) then (if x7_1.length < 5864062014805 then (spec_seNext.l0 k1 l1 (x7_1 ++ [rd_L2 t258 x15_1]) t258 (t258.length:Int) (wrap64 (x15_1+1)) l0_0 a0_1 l2_0 a2_1) else (none)) else (spec_seNext.l0 k1 l1 x7_1 t258 (t258.length:Int) (wrap64 (x15_1+1)) l0_0 a0_1 l2_0 a2_1)) else (none)) else (none))=some r:=H;have A21:=am' A210;clear A210;by_cases c22:0≤t269
         ·
          rw[if_pos c22] at H;have c22b0:decide (0≤t269)=true:=dt' c22;clear c22;by_cases c23:t269 < (l1.length:Int)
          ·
           rw[if_pos c23] at H;have c23b0:decide (t269 < (l1.length:Int))=true:=dt' c23;clear c23;by_cases c24:(wrap64 ((rd l1 t266)+t268))=(rd l1 t269)
           ·
            rw[if_pos c24] at H;have c24b0:((wrap64 ((rd l1 t266)+t268)) == (rd l1 t269))=true:=beq_iff_eq.mpr c24;have c24b1:((wrap64 ((rd l1 t266)+t268)) != (rd l1 t269))=false:=bne_eq_false_iff_eq.mpr c24;clear c24;by_cases c25:x7_1.length < 5864062014805
            ·
             rw[if_pos c25] at H;have LMc25:=am' c25;clear c25;obtain ⟨y271,hy271⟩:∃ y_:List (List Int),y_=(x7_1 ++ [rd_L2 t258 x15_1]):=⟨_,rfl⟩
             replace H:(spec_seNext.l0 k1 l1 y271 t258 (t258.length:Int) (wrap64 (x15_1+1)) l0_0 a0_1 l2_0 a2_1)=some r:=by first|(rw[hy271];with_reducible exact H)|(have H2_:=(Option.bind_some _ _).symm.trans H;rw[hy271];with_reducible exact H2_)|(have H2_:=(Option.bind_some _ _).symm.trans H;with_reducible exact H2_)|with_reducible exact H|(rw[hy271];exact H)|exact H
             have Ny271:=am' hy271;clear hy271;have H':=am' H;clear H;have p261:0≤(x15_1:Int):=od' xa';have q261:x15_1 < (t258.length:Int):=od' xa';obtain ⟨ad261,A261_0,c261_0,e261,hx261_0,hl261_0,hi261_0⟩:=at_L2 (Kd.N_reads' HO_13.out).2.2 x15_1 p261 q261;cases e261;obtain ⟨ce261,hce261,hMe261,hcc261⟩:=Kd.N_get HO_13.out [] x15_1 p261 (by first|exact q261|exact od' xa'|(have e_:=(Kd.N_reads' HO_13.out).1;omega));obtain ⟨ua261_0,uc261_0,rfl,ul261_0,ge261_0⟩:=Kd.FK_slice_open hMe261;have hv261_0:=hcc261 0 _ rfl;rw[Nat.add_zero,show ((Kd.slice 3 (Kd.int .i64))).sz=1 from rfl,Nat.mul_one] at hv261_0;replace hv261_0:=os' (hv261_0.symm.trans hx261_0);injection hv261_0 with hva_ hvn_ hvc_
             rw[hva_] at ge261_0;rw[hvc_] at ul261_0;have HL261_0:=am' (show Kd.V (Kd.int .i64) 3 _ w.heap.size _ _ (rd_L2 t258 x15_1) from Kd.V_mk ul261_0 ge261_0);clear hva_ hvn_ hvc_ ge261_0 ul261_0;clear hcc261 hce261;have HR261_0:=am' hi261_0;have HC261_0:=am' hl261_0;clear hi261_0 hl261_0;replace p261:=eq_true p261;replace q261:=eq_true q261;have hnb26:=NB257_256.out;have hnc26:=NB256_257.out;have hcz27_0:wr.cell? ⟨gb257,0,none⟩=some (.slice A2_0 l2_0.length c2_0):=(bc' BK257.out 0).trans rfl;have hcz27_1:wr.cell? ⟨gb257,1,none⟩=some (.bool a2_1):=(bc' BK257.out 1).trans rfl;have hfz27_0:=bf' BK257.out 0;have hfz27_1:=bf' BK257.out 1
             try go_wp2_with (first|((with_reducible refine gate_callee (f:=44) rfl ?_);refine goesL_ (some 22) rfl rfl Try.func44 xk' rfl #[.agg #[.slice A2_0 l2_0.length c2_0, .bool a2_1], .slice A261_0 (rd_L2 t258 x15_1).length c261_0] rfl xl' ?_;(with_reducible refine (spec_paCross.calls k1 _ _ l2_0 a2_1 _ _ (rd_L2 t258 x15_1) t262 t265 _ ?side1 ?side2 ?side3 ?side4 A15.out).mono ?_);(case side1=>exact kc' (cb' HR2_0.out HB.out));(case side2=>exact HC2_0.out);(case side3=>exact kc' (kx' HR261_0.out));(case side4=>exact HC261_0.out);rintro e w28 ⟨v263,rfl,ho0,hb⟩;refine ⟨_,rfl,?_⟩;have n0_:=am' (Kd.N_elder' (kN' HO_7.out) (Kd.R_base ho0) hb);have n1_:=am' (Kd.N_elder' (kN' HO_13.out) (Kd.R_base ho0) hb);have n2_:=am' (Kd.V_elder' (kV' HL261_0.out) (Kd.R_base ho0) hb);have n3_:=am' (Kd.R_lower (Kd.R_newM (M:=fun k_=>(w.heap.size≤k_)) ho0 (bz' (y2' GE256.out GE257.out)) (fun k_ h_=>h_)) (bz' (y2' GE256.out GE257.out)));have n4_:=am' (bb' (g:=gb256) (o := .cells #[.slice A0_0 l0_0.length c0_0, .int .i64 a0_1] 28 (0,0)) (kk' BK256.out) hb);have n5_:=am' (bb' (g:=gb257) (o := .cells #[.slice A2_0 l2_0.length c2_0, .bool a2_1] 54 (0,0)) (kk' BK257.out) hb);have n6_:=am' (cb' (kx' HR261_0.out) hb);have n7_:=am' (bt' (y2' GE256.out GE257.out) hb);clear HO_7;clear HO_13;clear HL261_0;clear BK256;clear BK257;clear HR261_0;clear HB;have HO_7:=n0_;have HO_13:=n1_;have HL261_0:=n2_;have HO264:=n3_;have BK256:=n4_;have BK257:=n5_;have HR261_0:=n6_;have HB:=n7_;clear n0_ n1_ n2_ n3_ n4_ n5_ n6_ n7_;(try clear hb);(try clear hb2);(try clear hk);(try clear hi);(try clear ho0);obtain ⟨Ao29,co29,eo29⟩:=Kd.R_slice HO264.out;subst eo29)|((with_reducible refine gate_callee (f:=40) rfl ?_);refine goesL_ (some 23) rfl rfl Try.func40 xk' rfl #[.agg #[.slice Ao29 t262.length co29, .bool t265]] rfl xl' ?_;(with_reducible refine (spec_seIndex.calls k1 _ _ t262 t265 t266 _ ?side1 ?side2 A16.out).mono ?_);(case side1=>exact kc' ((Kd.R_reads' HO264.out).2.2));(case side2=>exact (Kd.R_reads' HO264.out).2.1);rintro e w30 ⟨rfl,hb⟩;refine ⟨_,rfl,?_⟩;have n0_:=am' (Kd.N_below (kN' HO_7.out) hb);have n1_:=am' (Kd.N_below (kN' HO_13.out) hb);have n2_:=am' (Kd.V_below (kV' HL261_0.out) hb);have n3_:=am' (rb' (kr' HO264.out) hb);have n4_:=am' (bb' (g:=gb256) (o := .cells #[.slice A0_0 l0_0.length c0_0, .int .i64 a0_1] 28 (0,0)) (kk' BK256.out) hb);have n5_:=am' (bb' (g:=gb257) (o := .cells #[.slice A2_0 l2_0.length c2_0, .bool a2_1] 54 (0,0)) (kk' BK257.out) hb);have n6_:=am' (cb' (kx' HR261_0.out) hb);have n7_:=am' (bt' (y2' GE256.out GE257.out) hb);clear HO_7;clear HO_13;clear HL261_0;clear HO264;clear BK256;clear BK257;clear HR261_0;clear HB;have HO_7:=n0_;have HO_13:=n1_;have HL261_0:=n2_;have HO264:=n3_;have BK256:=n4_;have BK257:=n5_;have HR261_0:=n6_;have HB:=n7_;clear n0_ n1_ n2_ n3_ n4_ n5_ n6_ n7_;(try clear hb);(try clear hb2);(try clear hk);(try clear hi);have p267:0≤(t266:Int):=od' xa';have q267:t266 < (l1.length:Int):=od' xa';obtain ⟨ad267,e267,hx267_0⟩:=Kd.at_int HR1.out t266 p267 q267;cases e267;replace hx267_0:=(HB.out.cell (bl' w _ hx267_0)).trans hx267_0;replace p267:=eq_true p267;replace q267:=eq_true q267))
             have n0_:=am' (Kd.N_drew HO_7.out);have n1_:=am' (Kd.N_drew HO_13.out);have n2_:=am' (Kd.V_drew HL261_0.out);have n3_:=am' (rw' HO264.out);have n4_:=am' (kd' BK256.out);have n5_:=am' (kd' BK257.out);have n6_:=am' (cd' HR261_0.out);have n7_:=am' (be' HB.out);clear HO_7;clear HO_13;clear HL261_0;clear HO264;clear BK256;clear BK257;clear HR261_0;clear HB;have HO_7:=n0_;have HO_13:=n1_;have HL261_0:=n2_;have HO264:=n3_;have BK256:=n4_;have BK257:=n5_;have HR261_0:=n6_;have HB:=n7_;clear n0_ n1_ n2_ n3_ n4_ n5_ n6_ n7_;have p270:0≤(t269:Int):=od' xa';have q270:t269 < (l1.length:Int):=od' xa';obtain ⟨ad270,e270,hx270_0⟩:=Kd.at_int HR1.out t269 p270 q270;have hw270_0:=hx270_0;obtain rfl:ad267=ad270:=(by injection e270)
             replace hx270_0:=(HB.out.cell (bl' w _ hx270_0)).trans hx270_0;replace p270:=eq_true p270;replace q270:=eq_true q270;refine start_ (n:=15) (S:=fun w'=>w'.cell? ⟨gb256,0,none⟩=some (.slice A0_0 l0_0.length c0_0)∧w'.cell? ⟨gb256,1,none⟩=some (.int .i64 a0_1)∧w'.cell? ⟨gb257,0,none⟩=some (.slice A2_0 l2_0.length c2_0)∧w'.cell? ⟨gb257,1,none⟩=some (.bool a2_1)∧w'.cell? (ad267.add (t269).toNat)=some (.int .i64 (rd l1 t269))) (ds:=[]) #[false,false,false,false,false,false,false,false,false,false,false,false,false,false,false] xk' rfl rfl ⟨(bc' BK256.out 0).trans rfl,(bc' BK256.out 1).trans rfl,(bc' BK257.out 0).trans rfl,(bc' BK257.out 1).trans rfl,((HB.out.cell (bl' w _ hw270_0)).trans hw270_0)⟩ (fun hHeld=>?_);refine with_tabW spec_seNext.tab6 spec_seNext.bits6 (fun HT_ HW_=>?_);generalize w30.drew=w31 at HO_7 HO_13 HL261_0 HO264 BK256 BK257 HR261_0 HB hx270_0 hHeld ⊢
             refine pure_ (i:=0) (N:=some 26) (v:=?_) (a':=?_) #[true,false,false,false,false,false,false,false,false,false,false,false,false,false,false] rfl rfl (any_of HT_.out xk') (fun _ _ _ h=>h) (Or.inl ⟨by rfl,?_⟩) ?_ ?_
             rotate_left
             ·
              intro w';go_simp;with_reducible rfl
             rotate_left
             ·
              simp only[Act.put,sa',sb',sc',i64_w,i32_w];rfl
             refine pure_ (i:=1) (N:=some 27) (v:=?_) (a':=?_) #[true,true,false,false,false,false,false,false,false,false,false,false,false,false,false] rfl rfl (any_of HT_.out xk') (fun _ _ _ h=>h) (Or.inl ⟨by rfl,?_⟩) ?_ ?_
             rotate_left
             ·
              intro w';go_simp;with_reducible rfl
             rotate_left
             ·
              simp only[Act.put,sa',sb',sc',i64_w,i32_w];rfl
             refine pure_ (i:=2) (N:=some 28) (v:=?_) (a':=?_) #[true,true,true,false,false,false,false,false,false,false,false,false,false,false,false] rfl rfl (any_of HT_.out xk') (fun _ _ _ h=>h) (Or.inl ⟨by rfl,?_⟩) ?_ ?_
             rotate_left
             ·
              intro w';go_simp;with_reducible rfl
             rotate_left
             ·
              simp only[Act.put,sa',sb',sc',i64_w,i32_w];rfl
             refine pure_ (i:=3) (N:=some 29) (v:=?_) (a':=?_) #[true,true,true,true,false,false,false,false,false,false,false,false,false,false,false] rfl rfl (any_of HT_.out xk') (fun _ _ _ h=>h) (Or.inl ⟨by rfl,?_⟩) ?_ ?_
             rotate_left
             ·
              intro w';go_simp;with_reducible rfl
             rotate_left
             ·
              simp only[Act.put,sa',sb',sc',i64_w,i32_w];rfl
             refine pure_ (i:=5) (N:=some 31) (v:=?_) (a':=?_) #[true,true,true,true,false,true,false,false,false,false,false,false,false,false,false] rfl rfl (any_of HT_.out xk') (fun _ _ _ h=>h) (Or.inl ⟨by rfl,?_⟩) ?_ ?_
             rotate_left
             ·
              intro w';go_simp;with_reducible rfl
             rotate_left
             ·
              simp only[Act.put,sa',sb',sc',i64_w,i32_w];rfl
             refine pure_ (i:=8) (N:=some 34) (v:=?_) (a':=?_) #[true,true,true,true,false,true,false,false,true,false,false,false,false,false,false] rfl rfl (any_of HT_.out xk') (fun _ _ _ h=>h) (Or.inl ⟨by rfl,?_⟩) ?_ ?_
             rotate_left
             ·
              intro w';go_simp;with_reducible rfl
             rotate_left
             ·
              simp only[Act.put,sa',sb',sc',i64_w,i32_w];rfl
             refine take_ (i:=4) (N:=some 30) (v:=?_) (a':=?_) #[true,true,true,true,true,true,false,false,true,false,false,false,false,false,false] rfl rfl (take_ofW HT_.out HW_.out xk') (fun _ _ _ h=>h) (Or.inl ⟨by rfl,?_⟩) hHeld ?_ ?_
             rotate_left
             ·
              rintro w' ⟨s0,s1,s2,s3,s4⟩
              go_simp;with_reducible rfl
             rotate_left
             ·
              simp only[Act.put,sa',sb',sc',i64_w,i32_w];rfl
             refine take_ (i:=9) (N:=some 35) (v:=?_) (a':=?_) #[true,true,true,true,true,true,false,false,true,true,false,false,false,false,false] rfl rfl (take_ofW HT_.out HW_.out xk') (fun _ _ _ h=>h) (Or.inl ⟨by rfl,?_⟩) hHeld ?_ ?_
             rotate_left
             ·
              rintro w' ⟨s0,s1,s2,s3,s4⟩
              go_simp;with_reducible rfl
             rotate_left
             ·
              simp only[Act.put,sa',sb',sc',i64_w,i32_w];rfl
             refine one_ (i:=6) (N:=some 32) #[true,true,true,true,true,true,true,false,true,true,false,false,false,false,false] rfl rfl (one_of HT_.out xk') (by decide) (fun K hK=>?_);refine goes_ Try.func51 xk' rfl #[.agg #[.slice A0_0 l0_0.length c0_0, .int .i64 a0_1], .slice A261_0 (rd_L2 t258 x15_1).length c261_0] (by rfl) rfl rfl xl' ?_
             with_reducible refine (spec_paTime.calls k1 _ _ l0_0 a0_1 _ _ (rd_L2 t258 x15_1) t268 _ ?side1 ?side2 ?side3 ?side4 A20.out).mono ?_
             (case side1=>exact kc' (cb' HR0_0.out HB.out))
             (case side2=>exact HC0_0.out)
             (case side3=>exact kc' (kx' HR261_0.out))
             (case side4=>exact HC261_0.out)
             rintro e w32 ⟨rfl,hb⟩
             refine ⟨_,rfl,?_⟩;have n0_:=am' (Kd.N_below (kN' HO_7.out) hb);have n1_:=am' (Kd.N_below (kN' HO_13.out) hb);have n2_:=am' (Kd.V_below (kV' HL261_0.out) hb);have n3_:=am' (rb' (kr' HO264.out) hb);have n4_:=am' (bb' (g:=gb256) (o := .cells #[.slice A0_0 l0_0.length c0_0, .int .i64 a0_1] 28 (0,0)) (kk' BK256.out) hb);have n5_:=am' (bb' (g:=gb257) (o := .cells #[.slice A2_0 l2_0.length c2_0, .bool a2_1] 54 (0,0)) (kk' BK257.out) hb);have n6_:=am' (cb' (kx' HR261_0.out) hb);have n7_:=am' (bt' (y2' GE256.out GE257.out) hb);clear HO_7;clear HO_13;clear HL261_0;clear HO264;clear BK256;clear BK257;clear HR261_0;clear HB;have HO_7:=n0_;have HO_13:=n1_;have HL261_0:=n2_;have HO264:=n3_;have BK256:=n4_;have BK257:=n5_;have HR261_0:=n6_;have HB:=n7_;clear n0_ n1_ n2_ n3_ n4_ n5_ n6_ n7_;(try clear hb)
             (try clear hb2)
             (try clear hk)
             (try clear hi)
             refine hK.out _ _ ⟨(bc' BK256.out 0).trans rfl,(bc' BK256.out 1).trans rfl,(bc' BK257.out 0).trans rfl,(bc' BK257.out 1).trans rfl,((HB.out.cell (bl' w _ hw270_0)).trans hw270_0)⟩ (fun hHeld=>?_);clear hK K;refine norm_ (a':=?_) ?_ ?_
             rotate_left
             ·
              show Act.put _ (some 32) _=_
              simp only[Act.put,sa',sb',sc',i64_w,i32_w];rfl
             refine pure_ (i:=7) (N:=some 33) (v:=?_) (a':=?_) #[true,true,true,true,true,true,true,true,true,true,false,false,false,false,false] rfl rfl (any_of HT_.out xk') (fun _ _ _ h=>h) (Or.inl ⟨by rfl,?_⟩) ?_ ?_
             rotate_left
             ·
              intro w';go_simp;with_reducible rfl
             rotate_left
             ·
              simp only[Act.put,sa',sb',sc',i64_w,i32_w];rfl
             refine one_ (i:=10) (N:=some 36) #[true,true,true,true,true,true,true,true,true,true,true,false,false,false,false] rfl rfl (one_of HT_.out xk') (by decide) (fun K hK=>?_);refine goes_ Try.func40 xk' rfl #[.agg #[.slice A2_0 l2_0.length c2_0, .bool a2_1]] (by rfl) rfl rfl xl' ?_
             with_reducible refine (spec_seIndex.calls k1 _ _ l2_0 a2_1 t269 _ ?side1 ?side2 A21.out).mono ?_
             (case side1=>exact kc' (cb' HR2_0.out HB.out))
             (case side2=>exact HC2_0.out)
             rintro e w33 ⟨rfl,hb⟩
             refine ⟨_,rfl,?_⟩;have n0_:=am' (Kd.N_below (kN' HO_7.out) hb);have n1_:=am' (Kd.N_below (kN' HO_13.out) hb);have n2_:=am' (Kd.V_below (kV' HL261_0.out) hb);have n3_:=am' (rb' (kr' HO264.out) hb);have n4_:=am' (bb' (g:=gb256) (o := .cells #[.slice A0_0 l0_0.length c0_0, .int .i64 a0_1] 28 (0,0)) (kk' BK256.out) hb);have n5_:=am' (bb' (g:=gb257) (o := .cells #[.slice A2_0 l2_0.length c2_0, .bool a2_1] 54 (0,0)) (kk' BK257.out) hb);have n6_:=am' (cb' (kx' HR261_0.out) hb);have n7_:=am' (bt' (y2' GE256.out GE257.out) hb);clear HO_7;clear HO_13;clear HL261_0;clear HO264;clear BK256;clear BK257;clear HR261_0;clear HB;have HO_7:=n0_;have HO_13:=n1_;have HL261_0:=n2_;have HO264:=n3_;have BK256:=n4_;have BK257:=n5_;have HR261_0:=n6_;have HB:=n7_;clear n0_ n1_ n2_ n3_ n4_ n5_ n6_ n7_;(try clear hb)
             (try clear hb2)
             (try clear hk)
             (try clear hi)
             refine hK.out _ _ ⟨(bc' BK256.out 0).trans rfl,(bc' BK256.out 1).trans rfl,(bc' BK257.out 0).trans rfl,(bc' BK257.out 1).trans rfl,((HB.out.cell (bl' w _ hw270_0)).trans hw270_0)⟩ (fun hHeld=>?_);clear hK K;refine norm_ (a':=?_) ?_ ?_
             rotate_left
             ·
              show Act.put _ (some 36) _=_
              simp only[Act.put,sa',sb',sc',i64_w,i32_w];rfl
             refine pure_ (i:=11) (N:=some 37) (v:=?_) (a':=?_) #[true,true,true,true,true,true,true,true,true,true,true,true,false,false,false] rfl rfl (any_of HT_.out xk') (fun _ _ _ h=>h) (Or.inl ⟨by rfl,?_⟩) ?_ ?_
             rotate_left
             ·
              intro w';go_simp;with_reducible rfl
             rotate_left
             ·
              simp only[Act.put,sa',sb',sc',i64_w,i32_w];rfl
             refine take_ (i:=12) (N:=some 38) (v:=?_) (a':=?_) #[true,true,true,true,true,true,true,true,true,true,true,true,true,false,false] rfl rfl (take_ofW HT_.out HW_.out xk') (fun _ _ _ h=>h) (Or.inl ⟨by rfl,?_⟩) hHeld ?_ ?_
             rotate_left
             ·
              rintro w' ⟨s0,s1,s2,s3,s4⟩
              go_simp;with_reducible rfl
             rotate_left
             ·
              simp only[Act.put,sa',sb',sc',i64_w,i32_w];rfl
             refine pure_ (i:=13) (N:=some 39) (v:=?_) (a':=?_) #[true,true,true,true,true,true,true,true,true,true,true,true,true,true,false] rfl rfl (any_of HT_.out xk') (fun _ _ _ h=>h) (Or.inl ⟨by rfl,?_⟩) ?_ ?_
             rotate_left
             ·
              intro w';go_simp;with_reducible rfl
             rotate_left
             ·
              simp only[Act.put,sa',sb',sc',i64_w,i32_w];rfl
             refine pure_ (i:=14) (N:=some 40) (v:=?_) (a':=?_) #[true,true,true,true,true,true,true,true,true,true,true,true,true,true,true] rfl rfl (any_of HT_.out xk') (fun _ _ _ h=>h) (Or.inl ⟨by rfl,?_⟩) ?_ ?_
             rotate_left
             ·
              intro w';go_simp;with_reducible rfl
             rotate_left
             ·
              simp only[Act.put,sa',sb',sc',i64_w,i32_w];rfl
             refine done_ (done_of HT_.out xk') ?_
             try go_wp2_with (first|((with_reducible refine gate_builtin (b := .append) (xs:=#[.tmp 41, .tmp 43]) rfl ?_);at_builtin;refine Kd.N_append (Kd.slice 3 (Kd.int .i64)) (w0:=w) w.heap.size rfl (.tmp 41) (.tmp 43) 68 22 (.slice none 0 0) 24 rfl Try.underlying68 info22 rfl (by decide) (by omega) u7 x7_1 (rd_L2 t258 x15_1) [.slice A261_0 (rd_L2 t258 x15_1).length c261_0] (fun k_=>(w.heap.size≤k_)∧some k_≠(.slice (some ad261) t258.length co11:Value).ownBlock∧some k_≠(.slice Ao29 t262.length co29:Value).ownBlock∧k_≠gb256∧k_≠gb257) (fun k_=>((fun k_=>(w.heap.size≤k_)∧some k_≠(.slice (some ad261) t258.length co11:Value).ownBlock∧some k_≠(.slice Ao29 t262.length co29:Value).ownBlock∧k_≠gb256∧k_≠gb257)) k_∧some k_≠(u7:Value).ownBlock) rfl rfl ?aP (fun _ hk=>hk) ?aF ?aO ?aB ?aS ?aL ?_;(case aP=>exact (Kd.FK_slice_mk (Kd.V_reads' (Kd.V_mono (ok':=(fun k_=>((fun k_=>(w.heap.size≤k_)∧some k_≠(.slice (some ad261) t258.length co11:Value).ownBlock∧some k_≠(.slice Ao29 t262.length co29:Value).ownBlock∧k_≠gb256∧k_≠gb257)) k_∧some k_≠(u7:Value).ownBlock)) (HL261_0.out) (fun k_ hk=>⟨⟨hk.1.1.1,⟨hk.1.2,⟨hk.2,⟨hk.1.1.2.2.1,hk.1.1.2.2.2⟩⟩⟩⟩,hk.1.1.2.1⟩))).2.1 (Kd.V_F (Kd.V_mono (ok':=(fun k_=>((fun k_=>(w.heap.size≤k_)∧some k_≠(.slice (some ad261) t258.length co11:Value).ownBlock∧some k_≠(.slice Ao29 t262.length co29:Value).ownBlock∧k_≠gb256∧k_≠gb257)) k_∧some k_≠(u7:Value).ownBlock)) (HL261_0.out) (fun k_ hk=>⟨⟨hk.1.1.1,⟨hk.1.2,⟨hk.2,⟨hk.1.1.2.2.1,hk.1.1.2.2.2⟩⟩⟩⟩,hk.1.1.2.1⟩)))));(case aB=>exact (y2' GE256.out GE257.out));(case aF=>exact (fun k_ hk=>⟨(Nat.le_trans (bz' (y2' GE256.out GE257.out)) hk),Kd.fresh' (Kd.N_lt (kN' HO_13.out)) k_ hk,Kd.fresh' (Kd.R_lt (kr' HO264.out)) k_ hk,Kd.freshB (g:=gb256) (o := .cells #[.slice A0_0 l0_0.length c0_0, .int .i64 a0_1] 28 (0,0)) (kk' BK256.out) k_ hk,Kd.freshB (g:=gb257) (o := .cells #[.slice A2_0 l2_0.length c2_0, .bool a2_1] 54 (0,0)) (kk' BK257.out) k_ hk⟩));(case aO=>exact (by (with_reducible repeat (first|apply Kd.N_alloc|apply Kd.N_drewN|apply Kd.N_drew));exact Kd.N_mono HO_7.out (fun _ hk=>⟨hk.1.1,⟨hk.1.2.1,⟨hk.2,⟨hk.1.2.2.1,hk.1.2.2.2⟩⟩⟩⟩)));(case aS=>exact (bz' (y2' GE256.out GE257.out)));(case aL=>have:=LMc25.out;omega);intro v272 w34 ho hb hg hat;rw[← Ny271.out] at ho;have n0_:=am' (Kd.N_afterv (ok:=(fun k_=>(w.heap.size≤k_)∧some k_≠(.slice Ao29 t262.length co29:Value).ownBlock∧k_≠gb256∧k_≠gb257)) (by (with_reducible repeat (first|apply Kd.N_alloc|apply Kd.N_drewN|apply Kd.N_drew));exact Kd.N_mono HO_13.out (fun _ hk=>⟨⟨hk.1.1,⟨hk.2,⟨hk.1.2.2.1,hk.1.2.2.2⟩⟩⟩,hk.1.2.1⟩)) hg hat);have n1_:=am' (blk_grown (g:=gb256) (o := .cells #[.slice A0_0 l0_0.length c0_0, .int .i64 a0_1] 28 (0,0)) (kk' BK256.out) hg (Kd.N_ne HO_7.out BK256.out (by decide)));have n2_:=am' (blk_grown (g:=gb257) (o := .cells #[.slice A2_0 l2_0.length c2_0, .bool a2_1] 54 (0,0)) (kk' BK257.out) hg (Kd.N_ne HO_7.out BK257.out (by decide)));have n3_:=am' (Kd.V_afterv (ok:=(fun k_=>(w.heap.size≤k_)∧some k_≠(.slice (some ad261) t258.length co11:Value).ownBlock∧some k_≠(.slice Ao29 t262.length co29:Value).ownBlock∧k_≠gb256∧k_≠gb257)) (by (with_reducible repeat (first|apply Kd.V_alloc|apply Kd.V_drewN|apply Kd.V_drew));exact Kd.V_mono HL261_0.out (fun _ hk=>⟨⟨hk.1.1.1,⟨hk.1.2,⟨hk.2,⟨hk.1.1.2.2.1,hk.1.1.2.2.2⟩⟩⟩⟩,hk.1.1.2.1⟩)) hg hat);have n4_:=am' (Kd.R_over' (kr' HO264.out) (Kd.N_typed (kN' HO_7.out)) (by decide) hg);have n5_:=am' (hb);have n6_:=am' (ho);clear HO_13;clear BK256;clear BK257;clear HL261_0;clear HO264;clear HB;clear HO_7;have HO_13:=n0_;have BK256:=n1_;have BK257:=n2_;have HL261_0:=n3_;have HO264:=n4_;have HB:=n5_;have HO273:=n6_;clear n0_ n1_ n2_ n3_ n4_ n5_ n6_;clear ho hb hg hat))
             go_roundg k1
             case measure=>have:=HK1.out;omega
             case rel=>exact ⟨(y271),(wrap64 (x15_1+1)),xs',H',⟨by have:=HK1.out;omega⟩,⟨by (with_reducible repeat (first|apply Kd.N_alloc|apply Kd.N_drewN|apply Kd.N_drew));exact Kd.N_mono HO273.out (fun _ hk=>⟨hk.1,⟨hk.2.1,⟨hk.2.2.2.1,hk.2.2.2.2⟩⟩⟩)⟩,⟨by (with_reducible repeat (first|apply Kd.N_alloc|apply Kd.N_drewN|apply Kd.N_drew));exact Kd.N_mono HO_13.out (fun _ hk=>⟨hk.1.1,⟨hk.2,⟨hk.1.2.2.1,hk.1.2.2.2⟩⟩⟩)⟩,⟨kk' BK256.out⟩,⟨kk' BK257.out⟩,⟨y2' GE256.out GE257.out⟩⟩
            ·
             rw[if_neg c25] at H;exact absurd H (by simp)
           ·
            rw[if_neg c24] at H;have c24b0:((wrap64 ((rd l1 t266)+t268)) == (rd l1 t269))=false:=beq_eq_false_iff_ne.mpr c24;have c24b1:((wrap64 ((rd l1 t266)+t268)) != (rd l1 t269))=true:=bne_iff_ne.mpr c24;have H':=am' H;clear H;have p261:0≤(x15_1:Int):=od' xa';have q261:x15_1 < (t258.length:Int):=od' xa';obtain ⟨ad261,A261_0,c261_0,e261,hx261_0,hl261_0,hi261_0⟩:=at_L2 (Kd.N_reads' HO_13.out).2.2 x15_1 p261 q261;cases e261;obtain ⟨ce261,hce261,hMe261,hcc261⟩:=Kd.N_get HO_13.out [] x15_1 p261 (by first|exact q261|exact od' xa'|(have e_:=(Kd.N_reads' HO_13.out).1;omega));obtain ⟨ua261_0,uc261_0,rfl,ul261_0,ge261_0⟩:=Kd.FK_slice_open hMe261;have hv261_0:=hcc261 0 _ rfl;rw[Nat.add_zero,show ((Kd.slice 3 (Kd.int .i64))).sz=1 from rfl,Nat.mul_one] at hv261_0;replace hv261_0:=os' (hv261_0.symm.trans hx261_0);injection hv261_0 with hva_ hvn_ hvc_
            rw[hva_] at ge261_0;rw[hvc_] at ul261_0;have HL261_0:=am' (show Kd.V (Kd.int .i64) 3 _ w.heap.size _ _ (rd_L2 t258 x15_1) from Kd.V_mk ul261_0 ge261_0);clear hva_ hvn_ hvc_ ge261_0 ul261_0;clear hcc261 hce261;have HR261_0:=am' hi261_0;have HC261_0:=am' hl261_0;clear hi261_0 hl261_0;replace p261:=eq_true p261;replace q261:=eq_true q261;have hnb35:=NB257_256.out;have hnc35:=NB256_257.out;have hcz36_0:wr.cell? ⟨gb257,0,none⟩=some (.slice A2_0 l2_0.length c2_0):=(bc' BK257.out 0).trans rfl;have hcz36_1:wr.cell? ⟨gb257,1,none⟩=some (.bool a2_1):=(bc' BK257.out 1).trans rfl;have hfz36_0:=bf' BK257.out 0;have hfz36_1:=bf' BK257.out 1
            try go_wp2_with (first|((with_reducible refine gate_callee (f:=44) rfl ?_);refine goesL_ (some 22) rfl rfl Try.func44 xk' rfl #[.agg #[.slice A2_0 l2_0.length c2_0, .bool a2_1], .slice A261_0 (rd_L2 t258 x15_1).length c261_0] rfl xl' ?_;(with_reducible refine (spec_paCross.calls k1 _ _ l2_0 a2_1 _ _ (rd_L2 t258 x15_1) t262 t265 _ ?side1 ?side2 ?side3 ?side4 A15.out).mono ?_);(case side1=>exact kc' (cb' HR2_0.out HB.out));(case side2=>exact HC2_0.out);(case side3=>exact kc' (kx' HR261_0.out));(case side4=>exact HC261_0.out);rintro e w37 ⟨v263,rfl,ho0,hb⟩;refine ⟨_,rfl,?_⟩;have n0_:=am' (Kd.N_elder' (kN' HO_7.out) (Kd.R_base ho0) hb);have n1_:=am' (Kd.N_elder' (kN' HO_13.out) (Kd.R_base ho0) hb);have n2_:=am' (Kd.V_elder' (kV' HL261_0.out) (Kd.R_base ho0) hb);have n3_:=am' (Kd.R_lower (Kd.R_newM (M:=fun k_=>(w.heap.size≤k_)) ho0 (bz' (y2' GE256.out GE257.out)) (fun k_ h_=>h_)) (bz' (y2' GE256.out GE257.out)));have n4_:=am' (bb' (g:=gb256) (o := .cells #[.slice A0_0 l0_0.length c0_0, .int .i64 a0_1] 28 (0,0)) (kk' BK256.out) hb);have n5_:=am' (bb' (g:=gb257) (o := .cells #[.slice A2_0 l2_0.length c2_0, .bool a2_1] 54 (0,0)) (kk' BK257.out) hb);have n6_:=am' (cb' (kx' HR261_0.out) hb);have n7_:=am' (bt' (y2' GE256.out GE257.out) hb);clear HO_7;clear HO_13;clear HL261_0;clear BK256;clear BK257;clear HR261_0;clear HB;have HO_7:=n0_;have HO_13:=n1_;have HL261_0:=n2_;have HO264:=n3_;have BK256:=n4_;have BK257:=n5_;have HR261_0:=n6_;have HB:=n7_;clear n0_ n1_ n2_ n3_ n4_ n5_ n6_ n7_;(try clear hb);(try clear hb2);(try clear hk);(try clear hi);(try clear ho0);obtain ⟨Ao38,co38,eo38⟩:=Kd.R_slice HO264.out;subst eo38)|((with_reducible refine gate_callee (f:=40) rfl ?_);refine goesL_ (some 23) rfl rfl Try.func40 xk' rfl #[.agg #[.slice Ao38 t262.length co38, .bool t265]] rfl xl' ?_;(with_reducible refine (spec_seIndex.calls k1 _ _ t262 t265 t266 _ ?side1 ?side2 A16.out).mono ?_);(case side1=>exact kc' ((Kd.R_reads' HO264.out).2.2));(case side2=>exact (Kd.R_reads' HO264.out).2.1);rintro e w39 ⟨rfl,hb⟩;refine ⟨_,rfl,?_⟩;have n0_:=am' (Kd.N_below (kN' HO_7.out) hb);have n1_:=am' (Kd.N_below (kN' HO_13.out) hb);have n2_:=am' (Kd.V_below (kV' HL261_0.out) hb);have n3_:=am' (rb' (kr' HO264.out) hb);have n4_:=am' (bb' (g:=gb256) (o := .cells #[.slice A0_0 l0_0.length c0_0, .int .i64 a0_1] 28 (0,0)) (kk' BK256.out) hb);have n5_:=am' (bb' (g:=gb257) (o := .cells #[.slice A2_0 l2_0.length c2_0, .bool a2_1] 54 (0,0)) (kk' BK257.out) hb);have n6_:=am' (cb' (kx' HR261_0.out) hb);have n7_:=am' (bt' (y2' GE256.out GE257.out) hb);clear HO_7;clear HO_13;clear HL261_0;clear HO264;clear BK256;clear BK257;clear HR261_0;clear HB;have HO_7:=n0_;have HO_13:=n1_;have HL261_0:=n2_;have HO264:=n3_;have BK256:=n4_;have BK257:=n5_;have HR261_0:=n6_;have HB:=n7_;clear n0_ n1_ n2_ n3_ n4_ n5_ n6_ n7_;(try clear hb);(try clear hb2);(try clear hk);(try clear hi);have p267:0≤(t266:Int):=od' xa';have q267:t266 < (l1.length:Int):=od' xa';obtain ⟨ad267,e267,hx267_0⟩:=Kd.at_int HR1.out t266 p267 q267;cases e267;replace hx267_0:=(HB.out.cell (bl' w _ hx267_0)).trans hx267_0;replace p267:=eq_true p267;replace q267:=eq_true q267))
            have n0_:=am' (Kd.N_drew HO_7.out);have n1_:=am' (Kd.N_drew HO_13.out);have n2_:=am' (Kd.V_drew HL261_0.out);have n3_:=am' (rw' HO264.out);have n4_:=am' (kd' BK256.out);have n5_:=am' (kd' BK257.out);have n6_:=am' (cd' HR261_0.out);have n7_:=am' (be' HB.out);clear HO_7;clear HO_13;clear HL261_0;clear HO264;clear BK256;clear BK257;clear HR261_0;clear HB;have HO_7:=n0_;have HO_13:=n1_;have HL261_0:=n2_;have HO264:=n3_;have BK256:=n4_;have BK257:=n5_;have HR261_0:=n6_;have HB:=n7_;clear n0_ n1_ n2_ n3_ n4_ n5_ n6_ n7_;have p270:0≤(t269:Int):=od' xa';have q270:t269 < (l1.length:Int):=od' xa';obtain ⟨ad270,e270,hx270_0⟩:=Kd.at_int HR1.out t269 p270 q270;have hw270_0:=hx270_0;obtain rfl:ad267=ad270:=(by injection e270)
            replace hx270_0:=(HB.out.cell (bl' w _ hx270_0)).trans hx270_0;replace p270:=eq_true p270;replace q270:=eq_true q270;refine start_ (n:=15) (S:=fun w'=>w'.cell? ⟨gb256,0,none⟩=some (.slice A0_0 l0_0.length c0_0)∧w'.cell? ⟨gb256,1,none⟩=some (.int .i64 a0_1)∧w'.cell? ⟨gb257,0,none⟩=some (.slice A2_0 l2_0.length c2_0)∧w'.cell? ⟨gb257,1,none⟩=some (.bool a2_1)∧w'.cell? (ad267.add (t269).toNat)=some (.int .i64 (rd l1 t269))) (ds:=[]) #[false,false,false,false,false,false,false,false,false,false,false,false,false,false,false] xk' rfl rfl ⟨(bc' BK256.out 0).trans rfl,(bc' BK256.out 1).trans rfl,(bc' BK257.out 0).trans rfl,(bc' BK257.out 1).trans rfl,((HB.out.cell (bl' w _ hw270_0)).trans hw270_0)⟩ (fun hHeld=>?_);refine with_tabW spec_seNext.tab6 spec_seNext.bits6 (fun HT_ HW_=>?_);generalize w39.drew=w40 at HO_7 HO_13 HL261_0 HO264 BK256 BK257 HR261_0 HB hx270_0 hHeld ⊢
            refine pure_ (i:=0) (N:=some 26) (v:=?_) (a':=?_) #[true,false,false,false,false,false,false,false,false,false,false,false,false,false,false] rfl rfl (any_of HT_.out xk') (fun _ _ _ h=>h) (Or.inl ⟨by rfl,?_⟩) ?_ ?_
            rotate_left
            ·
             intro w';go_simp;with_reducible rfl
            rotate_left
            ·
             simp only[Act.put,sa',sb',sc',i64_w,i32_w];rfl
            refine pure_ (i:=1) (N:=some 27) (v:=?_) (a':=?_) #[true,true,false,false,false,false,false,false,false,false,false,false,false,false,false] rfl rfl (any_of HT_.out xk') (fun _ _ _ h=>h) (Or.inl ⟨by rfl,?_⟩) ?_ ?_
            rotate_left
            ·
             intro w';go_simp;with_reducible rfl
            rotate_left
            ·
             simp only[Act.put,sa',sb',sc',i64_w,i32_w];rfl
            refine pure_ (i:=2) (N:=some 28) (v:=?_) (a':=?_) #[true,true,true,false,false,false,false,false,false,false,false,false,false,false,false] rfl rfl (any_of HT_.out xk') (fun _ _ _ h=>h) (Or.inl ⟨by rfl,?_⟩) ?_ ?_
            rotate_left
            ·
             intro w';go_simp;with_reducible rfl
            rotate_left
            ·
             simp only[Act.put,sa',sb',sc',i64_w,i32_w];rfl
            refine pure_ (i:=3) (N:=some 29) (v:=?_) (a':=?_) #[true,true,true,true,false,false,false,false,false,false,false,false,false,false,false] rfl rfl (any_of HT_.out xk') (fun _ _ _ h=>h) (Or.inl ⟨by rfl,?_⟩) ?_ ?_
            rotate_left
            ·
             intro w';go_simp;with_reducible rfl
            rotate_left
            ·
             simp only[Act.put,sa',sb',sc',i64_w,i32_w];rfl
            refine pure_ (i:=5) (N:=some 31) (v:=?_) (a':=?_) #[true,true,true,true,false,true,false,false,false,false,false,false,false,false,false] rfl rfl (any_of HT_.out xk') (fun _ _ _ h=>h) (Or.inl ⟨by rfl,?_⟩) ?_ ?_
            rotate_left
            ·
             intro w';go_simp;with_reducible rfl
            rotate_left
            ·
             simp only[Act.put,sa',sb',sc',i64_w,i32_w];rfl
            refine pure_ (i:=8) (N:=some 34) (v:=?_) (a':=?_) #[true,true,true,true,false,true,false,false,true,false,false,false,false,false,false] rfl rfl (any_of HT_.out xk') (fun _ _ _ h=>h) (Or.inl ⟨by rfl,?_⟩) ?_ ?_
            rotate_left
            ·
             intro w';go_simp;with_reducible rfl
            rotate_left
            ·
             simp only[Act.put,sa',sb',sc',i64_w,i32_w];rfl
            refine take_ (i:=4) (N:=some 30) (v:=?_) (a':=?_) #[true,true,true,true,true,true,false,false,true,false,false,false,false,false,false] rfl rfl (take_ofW HT_.out HW_.out xk') (fun _ _ _ h=>h) (Or.inl ⟨by rfl,?_⟩) hHeld ?_ ?_
            rotate_left
            ·
             rintro w' ⟨s0,s1,s2,s3,s4⟩
             go_simp;with_reducible rfl
            rotate_left
            ·
             simp only[Act.put,sa',sb',sc',i64_w,i32_w];rfl
            refine take_ (i:=9) (N:=some 35) (v:=?_) (a':=?_) #[true,true,true,true,true,true,false,false,true,true,false,false,false,false,false] rfl rfl (take_ofW HT_.out HW_.out xk') (fun _ _ _ h=>h) (Or.inl ⟨by rfl,?_⟩) hHeld ?_ ?_
            rotate_left
            ·
             rintro w' ⟨s0,s1,s2,s3,s4⟩
             go_simp;with_reducible rfl
            rotate_left
            ·
             simp only[Act.put,sa',sb',sc',i64_w,i32_w];rfl
            refine one_ (i:=6) (N:=some 32) #[true,true,true,true,true,true,true,false,true,true,false,false,false,false,false] rfl rfl (one_of HT_.out xk') (by decide) (fun K hK=>?_);refine goes_ Try.func51 xk' rfl #[.agg #[.slice A0_0 l0_0.length c0_0, .int .i64 a0_1], .slice A261_0 (rd_L2 t258 x15_1).length c261_0] (by rfl) rfl rfl xl' ?_
            with_reducible refine (spec_paTime.calls k1 _ _ l0_0 a0_1 _ _ (rd_L2 t258 x15_1) t268 _ ?side1 ?side2 ?side3 ?side4 A20.out).mono ?_
            (case side1=>exact kc' (cb' HR0_0.out HB.out))
            (case side2=>exact HC0_0.out)
            (case side3=>exact kc' (kx' HR261_0.out))
            (case side4=>exact HC261_0.out)
            rintro e w41 ⟨rfl,hb⟩
            refine ⟨_,rfl,?_⟩;have n0_:=am' (Kd.N_below (kN' HO_7.out) hb);have n1_:=am' (Kd.N_below (kN' HO_13.out) hb);have n2_:=am' (Kd.V_below (kV' HL261_0.out) hb);have n3_:=am' (rb' (kr' HO264.out) hb);have n4_:=am' (bb' (g:=gb256) (o := .cells #[.slice A0_0 l0_0.length c0_0, .int .i64 a0_1] 28 (0,0)) (kk' BK256.out) hb);have n5_:=am' (bb' (g:=gb257) (o := .cells #[.slice A2_0 l2_0.length c2_0, .bool a2_1] 54 (0,0)) (kk' BK257.out) hb);have n6_:=am' (cb' (kx' HR261_0.out) hb);have n7_:=am' (bt' (y2' GE256.out GE257.out) hb);clear HO_7;clear HO_13;clear HL261_0;clear HO264;clear BK256;clear BK257;clear HR261_0;clear HB;have HO_7:=n0_;have HO_13:=n1_;have HL261_0:=n2_;have HO264:=n3_;have BK256:=n4_;have BK257:=n5_;have HR261_0:=n6_;have HB:=n7_;clear n0_ n1_ n2_ n3_ n4_ n5_ n6_ n7_;(try clear hb)
            (try clear hb2)
            (try clear hk)
            (try clear hi)
            refine hK.out _ _ ⟨(bc' BK256.out 0).trans rfl,(bc' BK256.out 1).trans rfl,(bc' BK257.out 0).trans rfl,(bc' BK257.out 1).trans rfl,((HB.out.cell (bl' w _ hw270_0)).trans hw270_0)⟩ (fun hHeld=>?_);clear hK K;refine norm_ (a':=?_) ?_ ?_
            rotate_left
            ·
             show Act.put _ (some 32) _=_
             simp only[Act.put,sa',sb',sc',i64_w,i32_w];rfl
            refine pure_ (i:=7) (N:=some 33) (v:=?_) (a':=?_) #[true,true,true,true,true,true,true,true,true,true,false,false,false,false,false] rfl rfl (any_of HT_.out xk') (fun _ _ _ h=>h) (Or.inl ⟨by rfl,?_⟩) ?_ ?_
            rotate_left
            ·
             intro w';go_simp;with_reducible rfl
            rotate_left
            ·
             simp only[Act.put,sa',sb',sc',i64_w,i32_w];rfl
            refine one_ (i:=10) (N:=some 36) #[true,true,true,true,true,true,true,true,true,true,true,false,false,false,false] rfl rfl (one_of HT_.out xk') (by decide) (fun K hK=>?_);refine goes_ Try.func40 xk' rfl #[.agg #[.slice A2_0 l2_0.length c2_0, .bool a2_1]] (by rfl) rfl rfl xl' ?_
            with_reducible refine (spec_seIndex.calls k1 _ _ l2_0 a2_1 t269 _ ?side1 ?side2 A21.out).mono ?_
            (case side1=>exact kc' (cb' HR2_0.out HB.out))
            (case side2=>exact HC2_0.out)
            rintro e w42 ⟨rfl,hb⟩
            refine ⟨_,rfl,?_⟩;have n0_:=am' (Kd.N_below (kN' HO_7.out) hb);have n1_:=am' (Kd.N_below (kN' HO_13.out) hb);have n2_:=am' (Kd.V_below (kV' HL261_0.out) hb);have n3_:=am' (rb' (kr' HO264.out) hb);have n4_:=am' (bb' (g:=gb256) (o := .cells #[.slice A0_0 l0_0.length c0_0, .int .i64 a0_1] 28 (0,0)) (kk' BK256.out) hb);have n5_:=am' (bb' (g:=gb257) (o := .cells #[.slice A2_0 l2_0.length c2_0, .bool a2_1] 54 (0,0)) (kk' BK257.out) hb);have n6_:=am' (cb' (kx' HR261_0.out) hb);have n7_:=am' (bt' (y2' GE256.out GE257.out) hb);clear HO_7;clear HO_13;clear HL261_0;clear HO264;clear BK256;clear BK257;clear HR261_0;clear HB;have HO_7:=n0_;have HO_13:=n1_;have HL261_0:=n2_;have HO264:=n3_;have BK256:=n4_;have BK257:=n5_;have HR261_0:=n6_;have HB:=n7_;clear n0_ n1_ n2_ n3_ n4_ n5_ n6_ n7_;(try clear hb)
            (try clear hb2)
            (try clear hk)
            (try clear hi)
            refine hK.out _ _ ⟨(bc' BK256.out 0).trans rfl,(bc' BK256.out 1).trans rfl,(bc' BK257.out 0).trans rfl,(bc' BK257.out 1).trans rfl,((HB.out.cell (bl' w _ hw270_0)).trans hw270_0)⟩ (fun hHeld=>?_);clear hK K;refine norm_ (a':=?_) ?_ ?_
            rotate_left
            ·
             show Act.put _ (some 36) _=_
             simp only[Act.put,sa',sb',sc',i64_w,i32_w];rfl
            refine pure_ (i:=11) (N:=some 37) (v:=?_) (a':=?_) #[true,true,true,true,true,true,true,true,true,true,true,true,false,false,false] rfl rfl (any_of HT_.out xk') (fun _ _ _ h=>h) (Or.inl ⟨by rfl,?_⟩) ?_ ?_
            rotate_left
            ·
             intro w';go_simp;with_reducible rfl
            rotate_left
            ·
             simp only[Act.put,sa',sb',sc',i64_w,i32_w];rfl
            refine take_ (i:=12) (N:=some 38) (v:=?_) (a':=?_) #[true,true,true,true,true,true,true,true,true,true,true,true,true,false,false] rfl rfl (take_ofW HT_.out HW_.out xk') (fun _ _ _ h=>h) (Or.inl ⟨by rfl,?_⟩) hHeld ?_ ?_
            rotate_left
            ·
             rintro w' ⟨s0,s1,s2,s3,s4⟩
             go_simp;with_reducible rfl
            rotate_left
            ·
             simp only[Act.put,sa',sb',sc',i64_w,i32_w];rfl
            refine pure_ (i:=13) (N:=some 39) (v:=?_) (a':=?_) #[true,true,true,true,true,true,true,true,true,true,true,true,true,true,false] rfl rfl (any_of HT_.out xk') (fun _ _ _ h=>h) (Or.inl ⟨by rfl,?_⟩) ?_ ?_
            rotate_left
            ·
             intro w';go_simp;with_reducible rfl
            rotate_left
            ·
             simp only[Act.put,sa',sb',sc',i64_w,i32_w];rfl
            refine pure_ (i:=14) (N:=some 40) (v:=?_) (a':=?_) #[true,true,true,true,true,true,true,true,true,true,true,true,true,true,true] rfl rfl (any_of HT_.out xk') (fun _ _ _ h=>h) (Or.inl ⟨by rfl,?_⟩) ?_ ?_
            rotate_left
            ·
             intro w';go_simp;with_reducible rfl
            rotate_left
            ·
             simp only[Act.put,sa',sb',sc',i64_w,i32_w];rfl
            refine done_ (done_of HT_.out xk') ?_
            try go_wp2
            go_roundg k1
            case measure=>have:=HK1.out;omega
            case rel=>exact ⟨(x7_1),(wrap64 (x15_1+1)),xs',H',⟨by have:=HK1.out;omega⟩,⟨by (with_reducible repeat (first|apply Kd.N_alloc|apply Kd.N_drewN|apply Kd.N_drew));exact Kd.N_mono HO_7.out (fun _ hk=>⟨hk.1.1,⟨hk.1.2.1,⟨hk.1.2.2.1,hk.1.2.2.2⟩⟩⟩)⟩,⟨by (with_reducible repeat (first|apply Kd.N_alloc|apply Kd.N_drewN|apply Kd.N_drew));exact Kd.N_mono HO_13.out (fun _ hk=>⟨hk.1.1,⟨hk.1.2.1,⟨hk.1.2.2.1,hk.1.2.2.2⟩⟩⟩)⟩,⟨kk' BK256.out⟩,⟨kk' BK257.out⟩,⟨y2' GE256.out GE257.out⟩⟩
          ·
           rw[if_neg c23] at H;exact absurd H (by simp)
         ·
          rw[if_neg c22] at H;exact absurd H (by simp)
        ·
         rw[if_neg c19] at H;have c19b0:decide (0≤(rd l1 t266))=false:=df' c19;clear c19;have H':=am' H;clear H;have p261:0≤(x15_1:Int):=od' xa';have q261:x15_1 < (t258.length:Int):=od' xa';obtain ⟨ad261,A261_0,c261_0,e261,hx261_0,hl261_0,hi261_0⟩:=at_L2 (Kd.N_reads' HO_13.out).2.2 x15_1 p261 q261;cases e261;obtain ⟨ce261,hce261,hMe261,hcc261⟩:=Kd.N_get HO_13.out [] x15_1 p261 (by first|exact q261|exact od' xa'|(have e_:=(Kd.N_reads' HO_13.out).1;omega));obtain ⟨ua261_0,uc261_0,rfl,ul261_0,ge261_0⟩:=Kd.FK_slice_open hMe261;have hv261_0:=hcc261 0 _ rfl;rw[Nat.add_zero,show ((Kd.slice 3 (Kd.int .i64))).sz=1 from rfl,Nat.mul_one] at hv261_0;replace hv261_0:=os' (hv261_0.symm.trans hx261_0);injection hv261_0 with hva_ hvn_ hvc_
         rw[hva_] at ge261_0;rw[hvc_] at ul261_0;have HL261_0:=am' (show Kd.V (Kd.int .i64) 3 _ w.heap.size _ _ (rd_L2 t258 x15_1) from Kd.V_mk ul261_0 ge261_0);clear hva_ hvn_ hvc_ ge261_0 ul261_0;clear hcc261 hce261;have HR261_0:=am' hi261_0;have HC261_0:=am' hl261_0;clear hi261_0 hl261_0;replace p261:=eq_true p261;replace q261:=eq_true q261;have hnb43:=NB257_256.out;have hnc43:=NB256_257.out;have hcz44_0:wr.cell? ⟨gb257,0,none⟩=some (.slice A2_0 l2_0.length c2_0):=(bc' BK257.out 0).trans rfl;have hcz44_1:wr.cell? ⟨gb257,1,none⟩=some (.bool a2_1):=(bc' BK257.out 1).trans rfl;have hfz44_0:=bf' BK257.out 0;have hfz44_1:=bf' BK257.out 1
         try go_wp2_with (first|((with_reducible refine gate_callee (f:=44) rfl ?_);refine goesL_ (some 22) rfl rfl Try.func44 xk' rfl #[.agg #[.slice A2_0 l2_0.length c2_0, .bool a2_1], .slice A261_0 (rd_L2 t258 x15_1).length c261_0] rfl xl' ?_;(with_reducible refine (spec_paCross.calls k1 _ _ l2_0 a2_1 _ _ (rd_L2 t258 x15_1) t262 t265 _ ?side1 ?side2 ?side3 ?side4 A15.out).mono ?_);(case side1=>exact kc' (cb' HR2_0.out HB.out));(case side2=>exact HC2_0.out);(case side3=>exact kc' (kx' HR261_0.out));(case side4=>exact HC261_0.out);rintro e w45 ⟨v263,rfl,ho0,hb⟩;refine ⟨_,rfl,?_⟩;have n0_:=am' (Kd.N_elder' (kN' HO_7.out) (Kd.R_base ho0) hb);have n1_:=am' (Kd.N_elder' (kN' HO_13.out) (Kd.R_base ho0) hb);have n2_:=am' (Kd.V_elder' (kV' HL261_0.out) (Kd.R_base ho0) hb);have n3_:=am' (Kd.R_lower (Kd.R_newM (M:=fun k_=>(w.heap.size≤k_)) ho0 (bz' (y2' GE256.out GE257.out)) (fun k_ h_=>h_)) (bz' (y2' GE256.out GE257.out)));have n4_:=am' (bb' (g:=gb256) (o := .cells #[.slice A0_0 l0_0.length c0_0, .int .i64 a0_1] 28 (0,0)) (kk' BK256.out) hb);have n5_:=am' (bb' (g:=gb257) (o := .cells #[.slice A2_0 l2_0.length c2_0, .bool a2_1] 54 (0,0)) (kk' BK257.out) hb);have n6_:=am' (cb' (kx' HR261_0.out) hb);have n7_:=am' (bt' (y2' GE256.out GE257.out) hb);clear HO_7;clear HO_13;clear HL261_0;clear BK256;clear BK257;clear HR261_0;clear HB;have HO_7:=n0_;have HO_13:=n1_;have HL261_0:=n2_;have HO264:=n3_;have BK256:=n4_;have BK257:=n5_;have HR261_0:=n6_;have HB:=n7_;clear n0_ n1_ n2_ n3_ n4_ n5_ n6_ n7_;(try clear hb);(try clear hb2);(try clear hk);(try clear hi);(try clear ho0);obtain ⟨Ao46,co46,eo46⟩:=Kd.R_slice HO264.out;subst eo46)|((with_reducible refine gate_callee (f:=40) rfl ?_);refine goesL_ (some 23) rfl rfl Try.func40 xk' rfl #[.agg #[.slice Ao46 t262.length co46, .bool t265]] rfl xl' ?_;(with_reducible refine (spec_seIndex.calls k1 _ _ t262 t265 t266 _ ?side1 ?side2 A16.out).mono ?_);(case side1=>exact kc' ((Kd.R_reads' HO264.out).2.2));(case side2=>exact (Kd.R_reads' HO264.out).2.1);rintro e w47 ⟨rfl,hb⟩;refine ⟨_,rfl,?_⟩;have n0_:=am' (Kd.N_below (kN' HO_7.out) hb);have n1_:=am' (Kd.N_below (kN' HO_13.out) hb);have n2_:=am' (Kd.V_below (kV' HL261_0.out) hb);have n3_:=am' (rb' (kr' HO264.out) hb);have n4_:=am' (bb' (g:=gb256) (o := .cells #[.slice A0_0 l0_0.length c0_0, .int .i64 a0_1] 28 (0,0)) (kk' BK256.out) hb);have n5_:=am' (bb' (g:=gb257) (o := .cells #[.slice A2_0 l2_0.length c2_0, .bool a2_1] 54 (0,0)) (kk' BK257.out) hb);have n6_:=am' (cb' (kx' HR261_0.out) hb);have n7_:=am' (bt' (y2' GE256.out GE257.out) hb);clear HO_7;clear HO_13;clear HL261_0;clear HO264;clear BK256;clear BK257;clear HR261_0;clear HB;have HO_7:=n0_;have HO_13:=n1_;have HL261_0:=n2_;have HO264:=n3_;have BK256:=n4_;have BK257:=n5_;have HR261_0:=n6_;have HB:=n7_;clear n0_ n1_ n2_ n3_ n4_ n5_ n6_ n7_;(try clear hb);(try clear hb2);(try clear hk);(try clear hi);have p267:0≤(t266:Int):=od' xa';have q267:t266 < (l1.length:Int):=od' xa';obtain ⟨ad267,e267,hx267_0⟩:=Kd.at_int HR1.out t266 p267 q267;cases e267;replace hx267_0:=(HB.out.cell (bl' w _ hx267_0)).trans hx267_0;replace p267:=eq_true p267;replace q267:=eq_true q267))
         have n0_:=am' (Kd.N_drew HO_7.out);have n1_:=am' (Kd.N_drew HO_13.out);have n2_:=am' (Kd.V_drew HL261_0.out);have n3_:=am' (rw' HO264.out);have n4_:=am' (kd' BK256.out);have n5_:=am' (kd' BK257.out);have n6_:=am' (cd' HR261_0.out);have n7_:=am' (be' HB.out);clear HO_7;clear HO_13;clear HL261_0;clear HO264;clear BK256;clear BK257;clear HR261_0;clear HB;have HO_7:=n0_;have HO_13:=n1_;have HL261_0:=n2_;have HO264:=n3_;have BK256:=n4_;have BK257:=n5_;have HR261_0:=n6_;have HB:=n7_;clear n0_ n1_ n2_ n3_ n4_ n5_ n6_ n7_;refine start_ (n:=15) (S:=fun w'=>True) (ds:=[]) #[false,false,false,false,false,false,false,false,false,false,false,false,false,false,false] xk' rfl rfl trivial (fun hHeld=>?_);refine with_tabW spec_seNext.tab6 spec_seNext.bits6 (fun HT_ HW_=>?_);generalize w47.drew=w48 at HO_7 HO_13 HL261_0 HO264 BK256 BK257 HR261_0 HB hHeld ⊢
         refine pure_ (i:=0) (N:=some 26) (v:=?_) (a':=?_) #[true,false,false,false,false,false,false,false,false,false,false,false,false,false,false] rfl rfl (any_of HT_.out xk') (fun _ _ _ h=>h) (Or.inl ⟨by rfl,?_⟩) ?_ ?_
         rotate_left
         ·
          intro w';go_simp;with_reducible rfl
         rotate_left
         ·
          simp only[Act.put,sa',sb',sc',i64_w,i32_w];rfl
         refine pure_ (i:=1) (N:=some 27) (v:=?_) (a':=?_) #[true,true,false,false,false,false,false,false,false,false,false,false,false,false,false] rfl rfl (any_of HT_.out xk') (fun _ _ _ h=>h) (Or.inl ⟨by rfl,?_⟩) ?_ ?_
         rotate_left
         ·
          intro w';go_simp;with_reducible rfl
         rotate_left
         ·
          simp only[Act.put,sa',sb',sc',i64_w,i32_w];rfl
         refine pure_ (i:=2) (N:=some 28) (v:=?_) (a':=?_) #[true,true,true,false,false,false,false,false,false,false,false,false,false,false,false] rfl rfl (any_of HT_.out xk') (fun _ _ _ h=>h) (Or.inl ⟨by rfl,?_⟩) ?_ ?_
         rotate_left
         ·
          intro w';go_simp;with_reducible rfl
         rotate_left
         ·
          simp only[Act.put,sa',sb',sc',i64_w,i32_w];rfl
         refine pure_ (i:=3) (N:=some 29) (v:=undef) (a':=?_) #[true,true,true,true,false,false,false,false,false,false,false,false,false,false,false] rfl rfl (any_of HT_.out xk') (fun _ _ _ h=>h) (Or.inr ⟨by rfl,rfl⟩) ?_ ?_
         rotate_left
         ·
          simp only[Act.put,sa',sb',sc',i64_w,i32_w];rfl
         refine pure_ (i:=4) (N:=some 30) (v:=undef) (a':=?_) #[true,true,true,true,true,false,false,false,false,false,false,false,false,false,false] rfl rfl (any_of HT_.out xk') (fun _ _ _ h=>h) (Or.inr ⟨by rfl,rfl⟩) ?_ ?_
         rotate_left
         ·
          simp only[Act.put,sa',sb',sc',i64_w,i32_w];rfl
         refine pure_ (i:=5) (N:=some 31) (v:=undef) (a':=?_) #[true,true,true,true,true,true,false,false,false,false,false,false,false,false,false] rfl rfl (any_of HT_.out xk') (fun _ _ _ h=>h) (Or.inr ⟨by rfl,rfl⟩) ?_ ?_
         rotate_left
         ·
          simp only[Act.put,sa',sb',sc',i64_w,i32_w];rfl
         refine pure_ (i:=6) (N:=some 32) (v:=undef) (a':=?_) #[true,true,true,true,true,true,true,false,false,false,false,false,false,false,false] rfl rfl (any_of HT_.out xk') (fun _ _ _ h=>h) (Or.inr ⟨by rfl,rfl⟩) ?_ ?_
         rotate_left
         ·
          simp only[Act.put,sa',sb',sc',i64_w,i32_w];rfl
         refine pure_ (i:=7) (N:=some 33) (v:=undef) (a':=?_) #[true,true,true,true,true,true,true,true,false,false,false,false,false,false,false] rfl rfl (any_of HT_.out xk') (fun _ _ _ h=>h) (Or.inr ⟨by rfl,rfl⟩) ?_ ?_
         rotate_left
         ·
          simp only[Act.put,sa',sb',sc',i64_w,i32_w];rfl
         refine pure_ (i:=8) (N:=some 34) (v:=undef) (a':=?_) #[true,true,true,true,true,true,true,true,true,false,false,false,false,false,false] rfl rfl (any_of HT_.out xk') (fun _ _ _ h=>h) (Or.inr ⟨by rfl,rfl⟩) ?_ ?_
         rotate_left
         ·
          simp only[Act.put,sa',sb',sc',i64_w,i32_w];rfl
         refine pure_ (i:=9) (N:=some 35) (v:=undef) (a':=?_) #[true,true,true,true,true,true,true,true,true,true,false,false,false,false,false] rfl rfl (any_of HT_.out xk') (fun _ _ _ h=>h) (Or.inr ⟨by rfl,rfl⟩) ?_ ?_
         rotate_left
         ·
          simp only[Act.put,sa',sb',sc',i64_w,i32_w];rfl
         refine pure_ (i:=10) (N:=some 36) (v:=undef) (a':=?_) #[true,true,true,true,true,true,true,true,true,true,true,false,false,false,false] rfl rfl (any_of HT_.out xk') (fun _ _ _ h=>h) (Or.inr ⟨by rfl,rfl⟩) ?_ ?_
         rotate_left
         ·
          simp only[Act.put,sa',sb',sc',i64_w,i32_w];rfl
         refine pure_ (i:=11) (N:=some 37) (v:=undef) (a':=?_) #[true,true,true,true,true,true,true,true,true,true,true,true,false,false,false] rfl rfl (any_of HT_.out xk') (fun _ _ _ h=>h) (Or.inr ⟨by rfl,rfl⟩) ?_ ?_
         rotate_left
         ·
          simp only[Act.put,sa',sb',sc',i64_w,i32_w];rfl
         refine pure_ (i:=12) (N:=some 38) (v:=undef) (a':=?_) #[true,true,true,true,true,true,true,true,true,true,true,true,true,false,false] rfl rfl (any_of HT_.out xk') (fun _ _ _ h=>h) (Or.inr ⟨by rfl,rfl⟩) ?_ ?_
         rotate_left
         ·
          simp only[Act.put,sa',sb',sc',i64_w,i32_w];rfl
         refine pure_ (i:=13) (N:=some 39) (v:=undef) (a':=?_) #[true,true,true,true,true,true,true,true,true,true,true,true,true,true,false] rfl rfl (any_of HT_.out xk') (fun _ _ _ h=>h) (Or.inr ⟨by rfl,rfl⟩) ?_ ?_
         rotate_left
         ·
          simp only[Act.put,sa',sb',sc',i64_w,i32_w];rfl
         refine pure_ (i:=14) (N:=some 40) (v:=?_) (a':=?_) #[true,true,true,true,true,true,true,true,true,true,true,true,true,true,true] rfl rfl (any_of HT_.out xk') (fun _ _ _ h=>h) (Or.inl ⟨by rfl,?_⟩) ?_ ?_
         rotate_left
         ·
          intro w';go_simp;with_reducible rfl
         rotate_left
         ·
          simp only[Act.put,sa',sb',sc',i64_w,i32_w];rfl
         refine done_ (done_of HT_.out xk') ?_
         try go_wp2
         go_roundg k1
         case measure=>have:=HK1.out;omega
         case rel=>exact ⟨(x7_1),(wrap64 (x15_1+1)),xs',H',⟨by have:=HK1.out;omega⟩,⟨by (with_reducible repeat (first|apply Kd.N_alloc|apply Kd.N_drewN|apply Kd.N_drew));exact Kd.N_mono HO_7.out (fun _ hk=>⟨hk.1.1,⟨hk.1.2.1,⟨hk.1.2.2.1,hk.1.2.2.2⟩⟩⟩)⟩,⟨by (with_reducible repeat (first|apply Kd.N_alloc|apply Kd.N_drewN|apply Kd.N_drew));exact Kd.N_mono HO_13.out (fun _ hk=>⟨hk.1.1,⟨hk.1.2.1,⟨hk.1.2.2.1,hk.1.2.2.2⟩⟩⟩)⟩,⟨kk' BK256.out⟩,⟨kk' BK257.out⟩,⟨y2' GE256.out GE257.out⟩⟩
       ·
        rw[if_neg c18] at H;exact absurd H (by simp)
      ·
       rw[if_neg c17] at H;exact absurd H (by simp)
     ·
      rw[if_neg c14] at H;exact absurd H (by simp)
    ·
     rw[if_neg c13] at H;exact absurd H (by simp)
   ·
    rw[if_neg c12] at H;have c12b0:decide (x15_1 < (t258.length:Int))=false:=df' c12;clear c12;obtain rfl:=os' H;go_wp2;go_ret
    exact ⟨_,by first|rfl|(simp[errW_none,errW_some] <;> rfl)|(simp[*,errW_none,errW_some] <;> rfl),by (with_reducible repeat (first|apply Kd.N_alloc|apply Kd.N_drewN|apply Kd.N_drew));exact Kd.N_mono HO_7.out (fun _ hk=>hk.1),y2' GE256.out GE257.out⟩
end Go.Proofs.Ytihieplobgehaaa.C2
