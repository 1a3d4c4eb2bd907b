import Derived.Test.YtdomojenlofieaaC2zx0
import Derived.Test.YtdomojenlofieaaC2zx2
import Derived.Test.YtdomojenlofieaaC2zAl
namespace Go.Proofs.Ytdomojenlofieaa.C2
open Go.RowKit Go.Proofs.YtdomojenlofieaaW.PrintWords Go.Proofs.YtdomojenlofieaaW.PrintLast Go.Proofs.YtdomojenlofieaaW.PrintMore Go.Proofs.Ytdomojenlofieaa.H
attribute [local go_sem] max2_int min2_int max_two min_two max_three min_three max_four min_four
set_option linter.unusedVariables false
set_option linter.unusedSimpArgs false
mutual
def spec_toCan.l0:Nat→List (List Int)→Int→Int→List (List Int)→Int→Int→List Bool→Int→Option (Bool)
 | 0,_,_,_,_,_,_,_,_=>none
 | k+1,x2,x7,x8,x24,x25,x26,x137000,x137001=>if x26 < x25 then (if 0≤x26 then (if x26 < (x24.length:Int) then (if x26 > 0 then (if 0≤(wrap64 (x26 - 1)) then (if (wrap64 (x26 - 1)) < (x2.length:Int) then ((spec_cuBefore.f k (rd_L2 x2 (wrap64 (x26 - 1))) (rd_L2 x24 x26)).bind fun t140=>(spec_toCan.j1 k x2 x7 x8 (rd_L2 x24 x26) x24 x25 x26 (!t140) x137000 x137001)) else (none)) else (none)) else (spec_toCan.j1 k x2 x7 x8 (rd_L2 x24 x26) x24 x25 x26 false x137000 x137001)) else (none)) else (none)) else (if x7 ≥ 0 then (some (decide (x8 ≥ 0))) else (some false))
def spec_toCan.j1:Nat→List (List Int)→Int→Int→List Int→List (List Int)→Int→Int→Bool→List Bool→Int→Option (Bool)
 | 0,_,_,_,_,_,_,_,_,_,_=>none
 | k+1,x2,x7,x8,x10,x24,x25,x26,x42,x137000,x137001=>if x42=true then (some false) else (spec_toCan.l1 k x2 x7 x8 x10 x24 x25 x26 x10 (x10.length:Int) 0 x137000 x137001)
def spec_toCan.l1:Nat→List (List Int)→Int→Int→List Int→List (List Int)→Int→Int→List Int→Int→Int→List Bool→Int→Option (Bool)
 | 0,_,_,_,_,_,_,_,_,_,_,_,_=>none
 | k+1,x2,x7,x8,x10,x24,x25,x26,x43,x44,x45,x137000,x137001=>if x45 < x44 then (if 0≤x45 then (if x45 < (x43.length:Int) then (if 0≤(rd x43 x45) then (if (rd x43 x45) < (x137000.length:Int) then (if 0 < (x10.length:Int) then (if 0≤(rd x10 0) then (if (rd x10 0) < (x137000.length:Int) then (if ((rdOf false x137000 (rd x43 x45)) != (rdOf false x137000 (rd x10 0)))=true then (some false) else (spec_toCan.l1 k x2 x7 x8 x10 x24 x25 x26 x43 x44 (wrap64 (x45+1)) x137000 x137001)) else (none)) else (none)) else (none)) else (none)) else (none)) else (none)) else (none)) else (if 0 < (x10.length:Int) then (if 0≤(rd x10 0) then (if (rd x10 0) < (x137000.length:Int) then (if rdOf false x137000 (rd x10 0)=true then (spec_toCan.l0 k x2 x7 (wrap64 (x8 - 1)) x24 x25 (wrap64 (x26+1)) x137000 x137001) else (spec_toCan.l0 k x2 (wrap64 (x7 - 1)) x8 x24 x25 (wrap64 (x26+1)) x137000 x137001)) else (none)) else (none)) else (none))
end
def spec_toCan.f (k:Nat) (l0_0:List Int) (a0_1:Int) (a0_2:Int) (l1_0:List Bool) (a1_1:Int) (l2:List (List Int)):Option (Bool):=(spec_toGroups.f k l0_0 a0_1 a0_2 l2).bind fun t137=>(if t137=true then (spec_toCan.l0 k l2 (wrap64 (a0_2 - a1_1)) a1_1 l2 (l2.length:Int) 0 l1_0 a1_1) else (some false))
set_option maxHeartbeats 8000000 in
set_option maxRecDepth 100000 in
theorem spec_toCan.calls (k:Nat) (A0_0:Option Addr) (c0_0:Nat) (l0_0:List Int) (a0_1:Int) (a0_2:Int) (A1_0:Option Addr) (c1_0:Nat) (l1_0:List Bool) (a1_1:Int) (A2:Option Addr) (c2:Nat) (l2:List (List Int)) (r:Bool) (w:World) (hr0_0:Kd.C (Kd.int .i64) w A0_0 l0_0.length l0_0) (hc0_0:l0_0.length≤c0_0) (hr1_0:Kd.C Kd.bool w A1_0 l1_0.length l1_0) (hc1_0:l1_0.length≤c1_0) (hr2:Kd.C (Kd.slice 3 (Kd.int .i64)) w A2 l2.length l2) (hc2:l2.length≤c2) (h:spec_toCan.f k l0_0 a0_1 a0_2 l1_0 a1_1 l2=some r) :
  Calls Try.prog 54 #[.agg #[.slice A0_0 l0_0.length c0_0, .int .i64 a0_1, .int .i64 a0_2], .agg #[.slice A1_0 l1_0.length c1_0, .int .i64 a1_1], .slice A2 l2.length c2] w fun e w'=>e = .returned (.bool r)∧Below w.heap.size w w':=by
 have hu35:=Try.underlying35
 have hu32:=Try.underlying32
 have HR0_0:=am' hr0_0
 have HC0_0:=am' hc0_0
 clear hr0_0 hc0_0;have HR1_0:=am' hr1_0
 have HC1_0:=am' hc1_0
 clear hr1_0 hc1_0;have HR2:=am' hr2
 have HC2:=am' hc2
 clear hr2 hc2;have HB:=am' (Below.refl w.heap.size w)
 have H:((spec_toGroups.f k l0_0 a0_1 a0_2 l2).bind fun t137=>(if t137=true then (spec_toCan.l0 k l2 (wrap64 (a0_2 - a1_1)) a1_1 l2 (l2.length:Int) 0 l1_0 a1_1) else (some false)))=some r:=h
 clear h;replace H:=Option.bind_eq_some_iff.mp H
 obtain ⟨t137,A40,H⟩:=H
 replace H:(if t137=true then (spec_toCan.l0 k l2 (wrap64 (a0_2 - a1_1)) a1_1 l2 (l2.length:Int) 0 l1_0 a1_1) else (some false))=some r:=H
 have A4:=am' A40
 clear A40;by_cases c5:t137=true
 ·
  subst c5;have H1:(spec_toCan.l0 k l2 (wrap64 (a0_2 - a1_1)) a1_1 l2 (l2.length:Int) 0 l1_0 a1_1)=some r:=by rw[if_pos rfl] at H;exact H
  clear H;have H:=H1;clear H1;have H':=am' H;clear H;go_enter Try.func54,Try.ntmps54;go_wp2_with (first|((with_reducible refine gate_dst (N:=3) rfl ?_);refine box_event ?hg (N:=3) ?hd (cs:=#[.slice A0_0 l0_0.length c0_0, .int .i64 a0_1, .int .i64 a0_2]) (t:=35) ?hr ?_;(case hd=>rfl);(case hg=>rfl);(case hr=>first|(go_simp;done)|(go_simp;rfl));intro gb135 hg w6 hbox hb;have n0_:=am' (bt' xb' hb);have n1_:=am' (hbox);have n2_:=am' ((by rw[hg];exact (bz' xb'):w.heap.size≤gb135));have n3_:=am' ((by rw[hg];exact (bz' xb'):w.heap.size≤gb135));clear HB;have HB:=n0_;have BK135:=n1_;have GW135:=n2_;have GE135:=n3_;clear n0_ n1_ n2_ n3_;clear hb hbox hg)|((with_reducible refine gate_dst (N:=4) rfl ?_);refine box_event ?hg (N:=4) ?hd (cs:=#[.slice A1_0 l1_0.length c1_0, .int .i64 a1_1]) (t:=32) ?hr ?_;(case hd=>rfl);(case hg=>rfl);(case hr=>first|(go_simp;done)|(go_simp;rfl));intro gb136 hg w7 hbox hb;have n0_:=am' (bb' (g:=gb135) (o := .cells #[.slice A0_0 l0_0.length c0_0, .int .i64 a0_1, .int .i64 a0_2] 35 (0,0)) (kk' BK135.out) hb);have n1_:=am' (bt' (yb' GE135.out) hb);have n2_:=am' (hbox);have n3_:=am' ((by rw[hg];exact (bz' (yb' GE135.out)):w.heap.size≤gb136));have n4_:=am' ((by rw[hg];exact (bz' (yb' GE135.out)):w.heap.size≤gb136));have n5_:=am' ((by rw[hg];exact Nat.ne_of_lt (blk_lt (g:=gb135) (o := .cells #[.slice A0_0 l0_0.length c0_0, .int .i64 a0_1, .int .i64 a0_2] 35 (0,0)) (kk' BK135.out)):gb135≠gb136));have n6_:=am' ((by rw[hg];exact Nat.ne_of_gt (blk_lt (g:=gb135) (o := .cells #[.slice A0_0 l0_0.length c0_0, .int .i64 a0_1, .int .i64 a0_2] 35 (0,0)) (kk' BK135.out)):gb136≠gb135));clear BK135;clear HB;have BK135:=n0_;have HB:=n1_;have BK136:=n2_;have GW136:=n3_;have GE136:=n4_;have NB135_136:=n5_;have NB136_135:=n6_;clear n0_ n1_ n2_ n3_ n4_ n5_ n6_;clear hb hbox hg;have hnb8:=NB135_136.out;have hnc8:=NB136_135.out;have hcz9_0:w7.cell? ⟨gb135,0,none⟩=some (.slice A0_0 l0_0.length c0_0):=(bc' BK135.out 0).trans rfl;have hcz9_1:w7.cell? ⟨gb135,1,none⟩=some (.int .i64 a0_1):=(bc' BK135.out 1).trans rfl;have hcz9_2:w7.cell? ⟨gb135,2,none⟩=some (.int .i64 a0_2):=(bc' BK135.out 2).trans rfl;have hfz9_0:=bf' BK135.out 0;have hfz9_1:=bf' BK135.out 1;have hfz9_2:=bf' BK135.out 2)|(go_at_call 71;(with_reducible refine (spec_toGroups.calls k _ _ l0_0 a0_1 a0_2 _ _ l2 true _ ?side1 ?side2 ?side3 ?side4 A4.out).mono ?_);(case side1=>exact kc' (cb' HR0_0.out HB.out));(case side2=>exact HC0_0.out);(case side3=>exact kc' (cb' HR2.out HB.out));(case side4=>exact HC2.out);rintro e w10 ⟨rfl,hb⟩;have n0_:=am' (bb' (g:=gb135) (o := .cells #[.slice A0_0 l0_0.length c0_0, .int .i64 a0_1, .int .i64 a0_2] 35 (0,0)) (kk' BK135.out) hb);have n1_:=am' (bb' (g:=gb136) (o := .cells #[.slice A1_0 l1_0.length c1_0, .int .i64 a1_1] 32 (0,0)) (kk' BK136.out) hb);have n2_:=am' (bt' (y2' GE135.out GE136.out) hb);clear BK135;clear BK136;clear HB;have BK135:=n0_;have BK136:=n1_;have HB:=n2_;clear n0_ n1_ n2_;(try clear hb);(try clear hb2);(try clear hk);(try clear hi);have hcz11_0:w10.cell? ⟨gb135,0,none⟩=some (.slice A0_0 l0_0.length c0_0):=(bc' BK135.out 0).trans rfl;have hcz11_1:w10.cell? ⟨gb135,1,none⟩=some (.int .i64 a0_1):=(bc' BK135.out 1).trans rfl;have hcz11_2:w10.cell? ⟨gb135,2,none⟩=some (.int .i64 a0_2):=(bc' BK135.out 2).trans rfl;have hfz11_0:=bf' BK135.out 0;have hfz11_1:=bf' BK135.out 1;have hfz11_2:=bf' BK135.out 2;have hcz12_0:w10.cell? ⟨gb136,0,none⟩=some (.slice A1_0 l1_0.length c1_0):=(bc' BK136.out 0).trans rfl;have hcz12_1:w10.cell? ⟨gb136,1,none⟩=some (.int .i64 a1_1):=(bc' BK136.out 1).trans rfl;have hfz12_0:=bf' BK136.out 0;have hfz12_1:=bf' BK136.out 1))
  repeat (go_quiet (first|((with_reducible refine gate_dst (N:=3) rfl ?_);refine box_event ?hg (N:=3) ?hd (cs:=#[.slice A0_0 l0_0.length c0_0, .int .i64 a0_1, .int .i64 a0_2]) (t:=35) ?hr ?_;(case hd=>rfl);(case hg=>rfl);(case hr=>first|(go_simp;done)|(go_simp;rfl));intro gb135 hg w6 hbox hb;have n0_:=am' (bt' xb' hb);have n1_:=am' (hbox);have n2_:=am' ((by rw[hg];exact (bz' xb'):w.heap.size≤gb135));have n3_:=am' ((by rw[hg];exact (bz' xb'):w.heap.size≤gb135));clear HB;have HB:=n0_;have BK135:=n1_;have GW135:=n2_;have GE135:=n3_;clear n0_ n1_ n2_ n3_;clear hb hbox hg)|((with_reducible refine gate_dst (N:=4) rfl ?_);refine box_event ?hg (N:=4) ?hd (cs:=#[.slice A1_0 l1_0.length c1_0, .int .i64 a1_1]) (t:=32) ?hr ?_;(case hd=>rfl);(case hg=>rfl);(case hr=>first|(go_simp;done)|(go_simp;rfl));intro gb136 hg w7 hbox hb;have n0_:=am' (bb' (g:=gb135) (o := .cells #[.slice A0_0 l0_0.length c0_0, .int .i64 a0_1, .int .i64 a0_2] 35 (0,0)) (kk' BK135.out) hb);have n1_:=am' (bt' (yb' GE135.out) hb);have n2_:=am' (hbox);have n3_:=am' ((by rw[hg];exact (bz' (yb' GE135.out)):w.heap.size≤gb136));have n4_:=am' ((by rw[hg];exact (bz' (yb' GE135.out)):w.heap.size≤gb136));have n5_:=am' ((by rw[hg];exact Nat.ne_of_lt (blk_lt (g:=gb135) (o := .cells #[.slice A0_0 l0_0.length c0_0, .int .i64 a0_1, .int .i64 a0_2] 35 (0,0)) (kk' BK135.out)):gb135≠gb136));have n6_:=am' ((by rw[hg];exact Nat.ne_of_gt (blk_lt (g:=gb135) (o := .cells #[.slice A0_0 l0_0.length c0_0, .int .i64 a0_1, .int .i64 a0_2] 35 (0,0)) (kk' BK135.out)):gb136≠gb135));clear BK135;clear HB;have BK135:=n0_;have HB:=n1_;have BK136:=n2_;have GW136:=n3_;have GE136:=n4_;have NB135_136:=n5_;have NB136_135:=n6_;clear n0_ n1_ n2_ n3_ n4_ n5_ n6_;clear hb hbox hg;have hnb8:=NB135_136.out;have hnc8:=NB136_135.out;have hcz9_0:w7.cell? ⟨gb135,0,none⟩=some (.slice A0_0 l0_0.length c0_0):=(bc' BK135.out 0).trans rfl;have hcz9_1:w7.cell? ⟨gb135,1,none⟩=some (.int .i64 a0_1):=(bc' BK135.out 1).trans rfl;have hcz9_2:w7.cell? ⟨gb135,2,none⟩=some (.int .i64 a0_2):=(bc' BK135.out 2).trans rfl;have hfz9_0:=bf' BK135.out 0;have hfz9_1:=bf' BK135.out 1;have hfz9_2:=bf' BK135.out 2)|(go_at_call 71;(with_reducible refine (spec_toGroups.calls k _ _ l0_0 a0_1 a0_2 _ _ l2 true _ ?side1 ?side2 ?side3 ?side4 A4.out).mono ?_);(case side1=>exact kc' (cb' HR0_0.out HB.out));(case side2=>exact HC0_0.out);(case side3=>exact kc' (cb' HR2.out HB.out));(case side4=>exact HC2.out);rintro e w10 ⟨rfl,hb⟩;have n0_:=am' (bb' (g:=gb135) (o := .cells #[.slice A0_0 l0_0.length c0_0, .int .i64 a0_1, .int .i64 a0_2] 35 (0,0)) (kk' BK135.out) hb);have n1_:=am' (bb' (g:=gb136) (o := .cells #[.slice A1_0 l1_0.length c1_0, .int .i64 a1_1] 32 (0,0)) (kk' BK136.out) hb);have n2_:=am' (bt' (y2' GE135.out GE136.out) hb);clear BK135;clear BK136;clear HB;have BK135:=n0_;have BK136:=n1_;have HB:=n2_;clear n0_ n1_ n2_;(try clear hb);(try clear hb2);(try clear hk);(try clear hi);have hcz11_0:w10.cell? ⟨gb135,0,none⟩=some (.slice A0_0 l0_0.length c0_0):=(bc' BK135.out 0).trans rfl;have hcz11_1:w10.cell? ⟨gb135,1,none⟩=some (.int .i64 a0_1):=(bc' BK135.out 1).trans rfl;have hcz11_2:w10.cell? ⟨gb135,2,none⟩=some (.int .i64 a0_2):=(bc' BK135.out 2).trans rfl;have hfz11_0:=bf' BK135.out 0;have hfz11_1:=bf' BK135.out 1;have hfz11_2:=bf' BK135.out 2;have hcz12_0:w10.cell? ⟨gb136,0,none⟩=some (.slice A1_0 l1_0.length c1_0):=(bc' BK136.out 0).trans rfl;have hcz12_1:w10.cell? ⟨gb136,1,none⟩=some (.int .i64 a1_1):=(bc' BK136.out 1).trans rfl;have hfz12_0:=bf' BK136.out 0;have hfz12_1:=bf' BK136.out 1));try go_wp2_with (first|((with_reducible refine gate_dst (N:=3) rfl ?_);refine box_event ?hg (N:=3) ?hd (cs:=#[.slice A0_0 l0_0.length c0_0, .int .i64 a0_1, .int .i64 a0_2]) (t:=35) ?hr ?_;(case hd=>rfl);(case hg=>rfl);(case hr=>first|(go_simp;done)|(go_simp;rfl));intro gb135 hg w6 hbox hb;have n0_:=am' (bt' xb' hb);have n1_:=am' (hbox);have n2_:=am' ((by rw[hg];exact (bz' xb'):w.heap.size≤gb135));have n3_:=am' ((by rw[hg];exact (bz' xb'):w.heap.size≤gb135));clear HB;have HB:=n0_;have BK135:=n1_;have GW135:=n2_;have GE135:=n3_;clear n0_ n1_ n2_ n3_;clear hb hbox hg)|((with_reducible refine gate_dst (N:=4) rfl ?_);refine box_event ?hg (N:=4) ?hd (cs:=#[.slice A1_0 l1_0.length c1_0, .int .i64 a1_1]) (t:=32) ?hr ?_;(case hd=>rfl);(case hg=>rfl);(case hr=>first|(go_simp;done)|(go_simp;rfl));intro gb136 hg w7 hbox hb;have n0_:=am' (bb' (g:=gb135) (o := .cells #[.slice A0_0 l0_0.length c0_0, .int .i64 a0_1, .int .i64 a0_2] 35 (0,0)) (kk' BK135.out) hb);have n1_:=am' (bt' (yb' GE135.out) hb);have n2_:=am' (hbox);have n3_:=am' ((by rw[hg];exact (bz' (yb' GE135.out)):w.heap.size≤gb136));have n4_:=am' ((by rw[hg];exact (bz' (yb' GE135.out)):w.heap.size≤gb136));have n5_:=am' ((by rw[hg];exact Nat.ne_of_lt (blk_lt (g:=gb135) (o := .cells #[.slice A0_0 l0_0.length c0_0, .int .i64 a0_1, .int .i64 a0_2] 35 (0,0)) (kk' BK135.out)):gb135≠gb136));have n6_:=am' ((by rw[hg];exact Nat.ne_of_gt (blk_lt (g:=gb135) (o := .cells #[.slice A0_0 l0_0.length c0_0, .int .i64 a0_1, .int .i64 a0_2] 35 (0,0)) (kk' BK135.out)):gb136≠gb135));clear BK135;clear HB;have BK135:=n0_;have HB:=n1_;have BK136:=n2_;have GW136:=n3_;have GE136:=n4_;have NB135_136:=n5_;have NB136_135:=n6_;clear n0_ n1_ n2_ n3_ n4_ n5_ n6_;clear hb hbox hg;have hnb8:=NB135_136.out;have hnc8:=NB136_135.out;have hcz9_0:w7.cell? ⟨gb135,0,none⟩=some (.slice A0_0 l0_0.length c0_0):=(bc' BK135.out 0).trans rfl;have hcz9_1:w7.cell? ⟨gb135,1,none⟩=some (.int .i64 a0_1):=(bc' BK135.out 1).trans rfl;have hcz9_2:w7.cell? ⟨gb135,2,none⟩=some (.int .i64 a0_2):=(bc' BK135.out 2).trans rfl;have hfz9_0:=bf' BK135.out 0;have hfz9_1:=bf' BK135.out 1;have hfz9_2:=bf' BK135.out 2)|(go_at_call 71;(with_reducible refine (spec_toGroups.calls k _ _ l0_0 a0_1 a0_2 _ _ l2 true _ ?side1 ?side2 ?side3 ?side4 A4.out).mono ?_);(case side1=>exact kc' (cb' HR0_0.out HB.out));(case side2=>exact HC0_0.out);(case side3=>exact kc' (cb' HR2.out HB.out));(case side4=>exact HC2.out);rintro e w10 ⟨rfl,hb⟩;have n0_:=am' (bb' (g:=gb135) (o := .cells #[.slice A0_0 l0_0.length c0_0, .int .i64 a0_1, .int .i64 a0_2] 35 (0,0)) (kk' BK135.out) hb);have n1_:=am' (bb' (g:=gb136) (o := .cells #[.slice A1_0 l1_0.length c1_0, .int .i64 a1_1] 32 (0,0)) (kk' BK136.out) hb);have n2_:=am' (bt' (y2' GE135.out GE136.out) hb);clear BK135;clear BK136;clear HB;have BK135:=n0_;have BK136:=n1_;have HB:=n2_;clear n0_ n1_ n2_;(try clear hb);(try clear hb2);(try clear hk);(try clear hi);have hcz11_0:w10.cell? ⟨gb135,0,none⟩=some (.slice A0_0 l0_0.length c0_0):=(bc' BK135.out 0).trans rfl;have hcz11_1:w10.cell? ⟨gb135,1,none⟩=some (.int .i64 a0_1):=(bc' BK135.out 1).trans rfl;have hcz11_2:w10.cell? ⟨gb135,2,none⟩=some (.int .i64 a0_2):=(bc' BK135.out 2).trans rfl;have hfz11_0:=bf' BK135.out 0;have hfz11_1:=bf' BK135.out 1;have hfz11_2:=bf' BK135.out 2;have hcz12_0:w10.cell? ⟨gb136,0,none⟩=some (.slice A1_0 l1_0.length c1_0):=(bc' BK136.out 0).trans rfl;have hcz12_1:w10.cell? ⟨gb136,1,none⟩=some (.int .i64 a1_1):=(bc' BK136.out 1).trans rfl;have hfz12_0:=bf' BK136.out 0;have hfz12_1:=bf' BK136.out 1)))
  go_loopg [7,8,26] k (fun kq v7 v8 v26 w'=>∃ (x7_1:Int) (x8_1:Int) (x26_1:Int),v7 = .int .i64 x7_1∧v8 = .int .i64 x8_1∧v26 = .int .i64 x26_1∧Aside0 (spec_toCan.l0 kq l2 x7_1 x8_1 l2 (l2.length:Int) x26_1 l1_0 a1_1=some r)∧Aside0 (kq≤k)∧Aside0 (w'.heap[gb135]? = some (.cells #[(.slice A0_0 l0_0.length c0_0), .int .i64 a0_1, .int .i64 a0_2] 35 (0,0)))∧Aside0 (w'.heap[gb136]? = some (.cells #[(.slice A1_0 l1_0.length c1_0), .int .i64 a1_1] 32 (0,0)))∧Aside0 (Below w.heap.size w w'))
  case atStart=>exact ⟨(wrap64 (a0_2 - a1_1)),(a1_1),(0),xs',xs',xs',H',⟨Nat.le_refl _⟩,⟨kk' BK135.out⟩,⟨kk' BK136.out⟩,⟨y2' GE135.out GE136.out⟩⟩
  case round =>
   clear H';try clear c1
   try clear c2
   try clear p2
   try clear c5
   try clear p6
   try clear c8
   try clear hcz11_0
   try clear hcz11_1
   try clear hcz11_2
   try clear hcz12_0
   try clear hcz12_1
   try clear hcz9_0
   try clear hcz9_1
   try clear hcz9_2
   try clear hfz11_0
   try clear hfz11_1
   try clear hfz11_2
   try clear hfz12_0
   try clear hfz12_1
   try clear hfz9_0
   try clear hfz9_1
   try clear hfz9_2
   obtain ⟨x7_1,x8_1,x26_1,rfl,rfl,rfl,HA,HK1,BK135,BK136,HB⟩:=hrel;cases gk with
   | zero=>exact absurd HA.out (by simp[spec_toCan.l0])
   | succ k1 =>
    have H:=HA.out;clear HA;simp only[spec_toCan.l0] at H;by_cases c13:x26_1 < (l2.length:Int)
    ·
     rw[if_pos c13] at H;have c13b0:decide (x26_1 < (l2.length:Int))=true:=dt' c13;clear c13;by_cases c14:0≤x26_1
     ·
      rw[if_pos c14] at H;have c14b0:decide (0≤x26_1)=true:=dt' c14;clear c14;by_cases c15:x26_1 < (l2.length:Int)
      ·
       rw[if_pos c15] at H;have c15b0:decide (x26_1 < (l2.length:Int))=true:=dt' c15;clear c15;have HC16:=am' H;clear H;have p138:0≤(x26_1:Int):=od' xa';have q138:x26_1 < (l2.length:Int):=od' xa';obtain ⟨ad138,A138_0,c138_0,e138,hx138_0,hl138_0,hi138_0⟩:=at_L2 HR2.out x26_1 p138 q138;cases e138;replace hx138_0:=(HB.out.cell (bl' w _ hx138_0)).trans hx138_0;have HR138_0:=am' hi138_0;have HC138_0:=am' hl138_0;clear hi138_0 hl138_0;replace p138:=eq_true p138;replace q138:=eq_true q138;go_upto_region 7 with (fail)
       repeat (go_quiet (fail);go_upto_region 7 with (fail))
       go_cut [42] (fun v42 wc=>∃ (kq:Nat) (x42_15:Bool),v42 = .bool x42_15∧Aside0 (spec_toCan.j1 kq l2 x7_1 x8_1 (rd_L2 l2 x26_1) l2 (l2.length:Int) x26_1 x42_15 l1_0 a1_1=some r)∧Aside0 (kq≤k1)∧Aside0 (wc.heap[gb135]? = some (.cells #[(.slice A0_0 l0_0.length c0_0), .int .i64 a0_1, .int .i64 a0_2] 35 (0,0)))∧Aside0 (wc.heap[gb136]? = some (.cells #[(.slice A1_0 l1_0.length c1_0), .int .i64 a1_1] 32 (0,0)))∧Aside0 (Below w.heap.size w wc))
       case first =>
        have H:=HC16.out;clear HC16;by_cases c17:x26_1 > 0
        ·
         rw[if_pos c17] at H;have c17b0:decide (0 < x26_1)=true:=dt' c17;clear c17;(first|rw[c17b0]|(simp only[i64_w,i32_w];rw[c17b0])|skip)
         obtain ⟨ji18,hji18⟩:∃ j_:Int,(wrap64 (x26_1 - 1))=j_:=⟨_,rfl⟩
         replace H:(if 0≤(ji18) then (if (ji18) < (l2.length:Int) then ((spec_cuBefore.f k1 (rd_L2 l2 (ji18)) (rd_L2 l2 x26_1)).bind fun t140=>(spec_toCan.j1 k1 l2 x7_1 x8_1 (rd_L2 l2 x26_1) l2 (l2.length:Int) x26_1 (!t140) l1_0 a1_1)) else (none)) else (none))=some r:=by first|(rw[hji18] at H;exact H)|(simp only[hji18] at H ⊢;exact H)
         have hji18w:(IntKind.i64.wrap (x26_1 - 1))=ji18:=(i64_w _).trans hji18;by_cases c19:0≤(ji18)
         ·
          rw[if_pos c19] at H;have c19b0:decide (0≤(ji18))=true:=dt' c19;clear c19;by_cases c20:(ji18) < (l2.length:Int)
          ·
           rw[if_pos c20] at H;have c20b0:decide ((ji18) < (l2.length:Int))=true:=dt' c20;clear c20;replace H:=Option.bind_eq_some_iff.mp H;obtain ⟨t140,A210,H⟩:=H;replace H:(spec_toCan.j1 k1 l2 x7_1 x8_1 (rd_L2 l2 x26_1) l2 (l2.length:Int) x26_1 (!t140) l1_0 a1_1)=some r:=H;have A21:=am' A210;clear A210;have H':=am' H;clear H;have p139:0≤((ji18):Int):=od' xa';have q139:(ji18) < (l2.length:Int):=od' xa';obtain ⟨ad139,A139_0,c139_0,e139,hx139_0,hl139_0,hi139_0⟩:=at_L2 HR2.out (ji18) p139 q139;obtain rfl:ad138=ad139:=(by injection e139)
           replace hx139_0:=(HB.out.cell (bl' w _ hx139_0)).trans hx139_0;have HR139_0:=am' hi139_0;have HC139_0:=am' hl139_0;clear hi139_0 hl139_0;replace p139:=eq_true p139;replace q139:=eq_true q139;go_wp2_with (first|(go_at_call 72;(with_reducible refine (spec_cuBefore.calls k1 _ _ (rd_L2 l2 (ji18)) _ _ (rd_L2 l2 x26_1) t140 _ ?side1 ?side2 ?side3 ?side4 A21.out).mono ?_);(case side1=>exact kc' (cb' HR139_0.out HB.out));(case side2=>exact HC139_0.out);(case side3=>exact kc' (cb' HR138_0.out HB.out));(case side4=>exact HC138_0.out);rintro e w' ⟨rfl,⟨nd,rfl⟩⟩;(try first|exact ⟨rfl,_,World.drewN_drewN _ _ _⟩|exact ⟨rfl,_,Eq.trans (World.drewN_drewN _ _ _) (congrArg (World.drewN _) (Nat.add_assoc _ _ _))⟩)))
           repeat (go_quiet (first|(go_at_call 72;(with_reducible refine (spec_cuBefore.calls k1 _ _ (rd_L2 l2 (ji18)) _ _ (rd_L2 l2 x26_1) t140 _ ?side1 ?side2 ?side3 ?side4 A21.out).mono ?_);(case side1=>exact kc' (cb' HR139_0.out HB.out));(case side2=>exact HC139_0.out);(case side3=>exact kc' (cb' HR138_0.out HB.out));(case side4=>exact HC138_0.out);rintro e w' ⟨rfl,⟨nd,rfl⟩⟩;(try first|exact ⟨rfl,_,World.drewN_drewN _ _ _⟩|exact ⟨rfl,_,Eq.trans (World.drewN_drewN _ _ _) (congrArg (World.drewN _) (Nat.add_assoc _ _ _))⟩)));try go_wp2_with (first|(go_at_call 72;(with_reducible refine (spec_cuBefore.calls k1 _ _ (rd_L2 l2 (ji18)) _ _ (rd_L2 l2 x26_1) t140 _ ?side1 ?side2 ?side3 ?side4 A21.out).mono ?_);(case side1=>exact kc' (cb' HR139_0.out HB.out));(case side2=>exact HC139_0.out);(case side3=>exact kc' (cb' HR138_0.out HB.out));(case side4=>exact HC138_0.out);rintro e w' ⟨rfl,⟨nd,rfl⟩⟩;(try first|exact ⟨rfl,_,World.drewN_drewN _ _ _⟩|exact ⟨rfl,_,Eq.trans (World.drewN_drewN _ _ _) (congrArg (World.drewN _) (Nat.add_assoc _ _ _))⟩))))
           go_meet
           case rel=>exact ⟨_,(!t140),xs',H',⟨by have:=HK1.out;first|omega|exact Nat.le_refl _⟩,⟨kk' BK135.out⟩,⟨kk' BK136.out⟩,⟨y2' GE135.out GE136.out⟩⟩
          ·
           rw[if_neg c20] at H;exact absurd H (by simp)
         ·
          rw[if_neg c19] at H;exact absurd H (by simp)
        ·
         rw[if_neg c17] at H;have c17b0:decide (0 < x26_1)=false:=df' c17;clear c17;(first|rw[c17b0]|(simp only[i64_w,i32_w];rw[c17b0])|skip)
         have H':=am' H;clear H;go_wp2
         repeat (go_quiet (fail);try go_wp2)
         go_meet
         case rel=>exact ⟨_,(false),xs',H',⟨by have:=HK1.out;first|omega|exact Nat.le_refl _⟩,⟨kk' BK135.out⟩,⟨kk' BK136.out⟩,⟨y2' GE135.out GE136.out⟩⟩
       case rest =>
        clear HC16;try clear c1
        try clear p1
        try clear q1
        try clear hx1
        try clear c2
        try clear p2
        try clear c5
        try clear p6
        try clear c8
        try clear c13
        try clear c13b0
        try clear p13
        try clear q13
        try clear hx13
        try clear c14
        try clear c14b0
        try clear c15
        try clear c15b0
        try clear c17
        try clear c17b0
        try clear c19
        try clear c19b0
        try clear c20
        try clear c20b0
        try clear hcz11_0
        try clear hcz11_1
        try clear hcz11_2
        try clear hcz12_0
        try clear hcz12_1
        try clear hcz9_0
        try clear hcz9_1
        try clear hcz9_2
        try clear hfz11_0
        try clear hfz11_1
        try clear hfz11_2
        try clear hfz12_0
        try clear hfz12_1
        try clear hfz9_0
        try clear hfz9_1
        try clear hfz9_2
        try clear hx138_0
        try clear hx139_0
        try clear p138
        try clear p139
        try clear p2
        try clear p6
        try clear q138
        try clear q139
        obtain ⟨kq,x42_15,rfl,HA,HJ15,BK135,BK136,HB⟩:=hcut;cases kq with
        | zero=>exact absurd HA.out (by simp[spec_toCan.j1])
        | succ kj15 =>
         have H:=HA.out;clear HA;simp only[spec_toCan.j1] at H;by_cases c22:x42_15=true
         ·
          subst c22;have H1:(some false)=some r:=by rw[if_pos rfl] at H;exact H
          clear H;have H:=H1;clear H1;obtain rfl:=os' H;go_wp2
          repeat (go_quiet (fail);try go_wp2)
          go_ret
          exact ⟨by first|rfl|(simp[errW_none,errW_some] <;> rfl)|(simp[*,errW_none,errW_some] <;> rfl),y2' GE135.out GE136.out⟩
         ·
          replace c22:=Bool.eq_false_iff.mpr c22;subst c22;have H1:(spec_toCan.l1 kj15 l2 x7_1 x8_1 (rd_L2 l2 x26_1) l2 (l2.length:Int) x26_1 (rd_L2 l2 x26_1) ((rd_L2 l2 x26_1).length:Int) 0 l1_0 a1_1)=some r:=by rw[if_neg (show ¬ (false=true) by decide)] at H;exact H
          clear H;have H:=H1;clear H1;have H':=am' H;clear H;go_wp2
          repeat (go_quiet (fail);try go_wp2)
          go_loopg [45] kj15 (fun kq v45 w'=>∃ (x45_3:Int),v45 = .int .i64 x45_3∧Aside0 (spec_toCan.l1 kq l2 x7_1 x8_1 (rd_L2 l2 x26_1) l2 (l2.length:Int) x26_1 (rd_L2 l2 x26_1) ((rd_L2 l2 x26_1).length:Int) x45_3 l1_0 a1_1=some r)∧Aside0 (kq≤kj15)∧Aside0 (w'.heap[gb135]? = some (.cells #[(.slice A0_0 l0_0.length c0_0), .int .i64 a0_1, .int .i64 a0_2] 35 (0,0)))∧Aside0 (w'.heap[gb136]? = some (.cells #[(.slice A1_0 l1_0.length c1_0), .int .i64 a1_1] 32 (0,0)))∧Aside0 (Below w.heap.size w w'))
          case atStart=>exact ⟨(0),xs',H',⟨Nat.le_refl _⟩,⟨kk' BK135.out⟩,⟨kk' BK136.out⟩,⟨y2' GE135.out GE136.out⟩⟩
          case round =>
           clear H';try clear c1
           try clear p1
           try clear q1
           try clear hx1
           try clear c2
           try clear p2
           try clear c5
           try clear p6
           try clear c8
           try clear c13
           try clear c13b0
           try clear p13
           try clear q13
           try clear hx13
           try clear c14
           try clear c14b0
           try clear c15
           try clear c15b0
           try clear c17
           try clear c17b0
           try clear c19
           try clear c19b0
           try clear c20
           try clear c20b0
           try clear c22
           try clear hcz11_0
           try clear hcz11_1
           try clear hcz11_2
           try clear hcz12_0
           try clear hcz12_1
           try clear hcz9_0
           try clear hcz9_1
           try clear hcz9_2
           try clear hfz11_0
           try clear hfz11_1
           try clear hfz11_2
           try clear hfz12_0
           try clear hfz12_1
           try clear hfz9_0
           try clear hfz9_1
           try clear hfz9_2
           try clear hx138_0
           try clear hx139_0
           try clear p1
           try clear p13
           try clear p138
           try clear p139
           try clear p2
           try clear p6
           try clear q1
           try clear q13
           try clear q138
           try clear q139
           obtain ⟨x45_3,rfl,HA,HK3,BK135,BK136,HB⟩:=hrel;cases gk with
           | zero=>exact absurd HA.out (by simp[spec_toCan.l1])
           | succ k3 =>
            have H:=HA.out;clear HA;simp only[spec_toCan.l1] at H;by_cases c23:x45_3 < ((rd_L2 l2 x26_1).length:Int)
            ·
             rw[if_pos c23] at H;have c23b0:decide (x45_3 < ((rd_L2 l2 x26_1).length:Int))=true:=dt' c23;clear c23;by_cases c24:0≤x45_3
             ·
              rw[if_pos c24] at H;have c24b0:decide (0≤x45_3)=true:=dt' c24;clear c24;by_cases c25:x45_3 < ((rd_L2 l2 x26_1).length:Int)
              ·
               rw[if_pos c25] at H;have c25b0:decide (x45_3 < ((rd_L2 l2 x26_1).length:Int))=true:=dt' c25;clear c25;by_cases c26:0≤(rd (rd_L2 l2 x26_1) x45_3)
               ·
                rw[if_pos c26] at H;have c26b0:decide (0≤(rd (rd_L2 l2 x26_1) x45_3))=true:=dt' c26;clear c26;by_cases c27:(rd (rd_L2 l2 x26_1) x45_3) < (l1_0.length:Int)
                ·
                 rw[if_pos c27] at H;have c27b0:decide ((rd (rd_L2 l2 x26_1) x45_3) < (l1_0.length:Int))=true:=dt' c27;clear c27;by_cases c28:0 < ((rd_L2 l2 x26_1).length:Int)
                 ·
                  rw[if_pos c28] at H;have c28b0:decide (0 < ((rd_L2 l2 x26_1).length:Int))=true:=dt' c28;have c28b1:decide (0 < (rd_L2 l2 x26_1).length)=true:=dt' (by omega);clear c28;by_cases c29:0≤(rd (rd_L2 l2 x26_1) 0)
                  ·
                   rw[if_pos c29] at H;have c29b0:decide (0≤(rd (rd_L2 l2 x26_1) 0))=true:=dt' c29;clear c29;by_cases c30:(rd (rd_L2 l2 x26_1) 0) < (l1_0.length:Int)
                   ·
                    rw[if_pos c30] at H;have c30b0:decide ((rd (rd_L2 l2 x26_1) 0) < (l1_0.length:Int))=true:=dt' c30;clear c30;by_cases c31:((rdOf false l1_0 (rd (rd_L2 l2 x26_1) x45_3)) != (rdOf false l1_0 (rd (rd_L2 l2 x26_1) 0)))=true
                    ·
                     rw[if_pos c31] at H;have c31b0:((rdOf false l1_0 (rd (rd_L2 l2 x26_1) x45_3)) != (rdOf false l1_0 (rd (rd_L2 l2 x26_1) 0)))=true:=c31
                     (try (have c31b1:decide ((rdOf false l1_0 (rd (rd_L2 l2 x26_1) x45_3))=(rdOf false l1_0 (rd (rd_L2 l2 x26_1) 0)))=false:=by simpa using c31))
                     (try (have c31b2:((rdOf false l1_0 (rd (rd_L2 l2 x26_1) x45_3)) == (rdOf false l1_0 (rd (rd_L2 l2 x26_1) 0)))=false:=by simpa using c31))
                     (try (have c31b3:¬ ((rdOf false l1_0 (rd (rd_L2 l2 x26_1) x45_3))=(rdOf false l1_0 (rd (rd_L2 l2 x26_1) 0))):=by simpa using c31))
                     clear c31;obtain rfl:=os' H;have p141:0≤(x45_3:Int):=od' xa';have q141:x45_3 < ((rd_L2 l2 x26_1).length:Int):=od' xa';obtain ⟨ad141,e141,hx141_0⟩:=Kd.at_int HR138_0.out x45_3 p141 q141;cases e141;replace hx141_0:=(HB.out.cell (bl' w _ hx141_0)).trans hx141_0;replace p141:=eq_true p141;replace q141:=eq_true q141;have hnb32:=NB136_135.out;have hnc32:=NB135_136.out;have hcz33_0:wr.cell? ⟨gb136,0,none⟩=some (.slice A1_0 l1_0.length c1_0):=(bc' BK136.out 0).trans rfl;have hcz33_1:wr.cell? ⟨gb136,1,none⟩=some (.int .i64 a1_1):=(bc' BK136.out 1).trans rfl;have hfz33_0:=bf' BK136.out 0;have hfz33_1:=bf' BK136.out 1;have p142:0≤((rd (rd_L2 l2 x26_1) x45_3):Int):=od' xa';have q142:(rd (rd_L2 l2 x26_1) x45_3) < (l1_0.length:Int):=od' xa';obtain ⟨ad142,e142,hx142_0⟩:=Kd.at_bool HR1_0.out (rd (rd_L2 l2 x26_1) x45_3) p142 q142;cases e142;replace hx142_0:=(HB.out.cell (bl' w _ hx142_0)).trans hx142_0;replace p142:=eq_true p142;replace q142:=eq_true q142;have p143:0≤(0:Int):=(by omega)
                     have q143:0 < ((rd_L2 l2 x26_1).length:Int):=od' xa';obtain ⟨ad143,e143,hx143_0⟩:=Kd.at_int HR138_0.out 0 p143 q143;obtain rfl:ad141=ad143:=(by injection e143)
                     have qi143:(0 < (rd_L2 l2 x26_1).length)=True:=eq_true (by omega)
                     (try rw [show ((0:Int)).toNat=0 from rfl] at hx143_0)
                     (try rw [Addr.add_zero'] at hx143_0)
                     replace hx143_0:=(HB.out.cell (bl' w _ hx143_0)).trans hx143_0;replace p143:=eq_true p143;replace q143:=eq_true q143;have p144:0≤((rd (rd_L2 l2 x26_1) 0):Int):=od' xa';have q144:(rd (rd_L2 l2 x26_1) 0) < (l1_0.length:Int):=od' xa';obtain ⟨ad144,e144,hx144_0⟩:=Kd.at_bool HR1_0.out (rd (rd_L2 l2 x26_1) 0) p144 q144;obtain rfl:ad142=ad144:=(by injection e144)
                     replace hx144_0:=(HB.out.cell (bl' w _ hx144_0)).trans hx144_0;replace p144:=eq_true p144;replace q144:=eq_true q144;go_wp2
                     repeat (go_quiet (fail);try go_wp2)
                     go_ret
                     exact ⟨by first|rfl|(simp[errW_none,errW_some] <;> rfl)|(simp[*,errW_none,errW_some] <;> rfl),y2' GE135.out GE136.out⟩
                    ·
                     rw[if_neg c31] at H;have c31b0:((rdOf false l1_0 (rd (rd_L2 l2 x26_1) x45_3)) != (rdOf false l1_0 (rd (rd_L2 l2 x26_1) 0)))=false:=by simpa using c31
                     (try (have c31b1:decide ((rdOf false l1_0 (rd (rd_L2 l2 x26_1) x45_3))=(rdOf false l1_0 (rd (rd_L2 l2 x26_1) 0)))=true:=by simpa using c31))
                     (try (have c31b2:((rdOf false l1_0 (rd (rd_L2 l2 x26_1) x45_3)) == (rdOf false l1_0 (rd (rd_L2 l2 x26_1) 0)))=true:=by simpa using c31))
                     clear c31;have H':=am' H;clear H;have p141:0≤(x45_3:Int):=od' xa';have q141:x45_3 < ((rd_L2 l2 x26_1).length:Int):=od' xa';obtain ⟨ad141,e141,hx141_0⟩:=Kd.at_int HR138_0.out x45_3 p141 q141;cases e141;replace hx141_0:=(HB.out.cell (bl' w _ hx141_0)).trans hx141_0;replace p141:=eq_true p141;replace q141:=eq_true q141;have hnb34:=NB136_135.out;have hnc34:=NB135_136.out;have hcz35_0:wr.cell? ⟨gb136,0,none⟩=some (.slice A1_0 l1_0.length c1_0):=(bc' BK136.out 0).trans rfl;have hcz35_1:wr.cell? ⟨gb136,1,none⟩=some (.int .i64 a1_1):=(bc' BK136.out 1).trans rfl;have hfz35_0:=bf' BK136.out 0;have hfz35_1:=bf' BK136.out 1;have p142:0≤((rd (rd_L2 l2 x26_1) x45_3):Int):=od' xa';have q142:(rd (rd_L2 l2 x26_1) x45_3) < (l1_0.length:Int):=od' xa';obtain ⟨ad142,e142,hx142_0⟩:=Kd.at_bool HR1_0.out (rd (rd_L2 l2 x26_1) x45_3) p142 q142;cases e142;replace hx142_0:=(HB.out.cell (bl' w _ hx142_0)).trans hx142_0;replace p142:=eq_true p142;replace q142:=eq_true q142;have p143:0≤(0:Int):=(by omega)
                     have q143:0 < ((rd_L2 l2 x26_1).length:Int):=od' xa';obtain ⟨ad143,e143,hx143_0⟩:=Kd.at_int HR138_0.out 0 p143 q143;obtain rfl:ad141=ad143:=(by injection e143)
                     have qi143:(0 < (rd_L2 l2 x26_1).length)=True:=eq_true (by omega)
                     (try rw [show ((0:Int)).toNat=0 from rfl] at hx143_0)
                     (try rw [Addr.add_zero'] at hx143_0)
                     replace hx143_0:=(HB.out.cell (bl' w _ hx143_0)).trans hx143_0;replace p143:=eq_true p143;replace q143:=eq_true q143;have p144:0≤((rd (rd_L2 l2 x26_1) 0):Int):=od' xa';have q144:(rd (rd_L2 l2 x26_1) 0) < (l1_0.length:Int):=od' xa';obtain ⟨ad144,e144,hx144_0⟩:=Kd.at_bool HR1_0.out (rd (rd_L2 l2 x26_1) 0) p144 q144;obtain rfl:ad142=ad144:=(by injection e144)
                     replace hx144_0:=(HB.out.cell (bl' w _ hx144_0)).trans hx144_0;replace p144:=eq_true p144;replace q144:=eq_true q144;go_wp2
                     repeat (go_quiet (fail);try go_wp2)
                     go_roundg k3
                     case measure=>have:=HK1.out;have:=HJ15.out;have:=HK3.out;omega
                     case rel=>exact ⟨(wrap64 (x45_3+1)),xs',H',⟨by have:=HK1.out;have:=HJ15.out;have:=HK3.out;omega⟩,⟨kk' BK135.out⟩,⟨kk' BK136.out⟩,⟨y2' GE135.out GE136.out⟩⟩
                   ·
                    rw[if_neg c30] at H;exact absurd H (by simp)
                  ·
                   rw[if_neg c29] at H;exact absurd H (by simp)
                 ·
                  rw[if_neg c28] at H;exact absurd H (by simp)
                ·
                 rw[if_neg c27] at H;exact absurd H (by simp)
               ·
                rw[if_neg c26] at H;exact absurd H (by simp)
              ·
               rw[if_neg c25] at H;exact absurd H (by simp)
             ·
              rw[if_neg c24] at H;exact absurd H (by simp)
            ·
             rw[if_neg c23] at H;have c23b0:decide (x45_3 < ((rd_L2 l2 x26_1).length:Int))=false:=df' c23;clear c23;by_cases c36:0 < ((rd_L2 l2 x26_1).length:Int)
             ·
              rw[if_pos c36] at H;have c36b0:decide (0 < ((rd_L2 l2 x26_1).length:Int))=true:=dt' c36;have c36b1:decide (0 < (rd_L2 l2 x26_1).length)=true:=dt' (by omega);clear c36;by_cases c37:0≤(rd (rd_L2 l2 x26_1) 0)
              ·
               rw[if_pos c37] at H;have c37b0:decide (0≤(rd (rd_L2 l2 x26_1) 0))=true:=dt' c37;clear c37;by_cases c38:(rd (rd_L2 l2 x26_1) 0) < (l1_0.length:Int)
               ·
                rw[if_pos c38] at H;have c38b0:decide ((rd (rd_L2 l2 x26_1) 0) < (l1_0.length:Int))=true:=dt' c38;clear c38;obtain ⟨bq39,hbq39⟩:∃ b_:Bool,b_=(rdOf false l1_0 (rd (rd_L2 l2 x26_1) 0)):=⟨_,rfl⟩
                replace H:(if bq39=true then (spec_toCan.l0 k3 l2 x7_1 (wrap64 (x8_1 - 1)) l2 (l2.length:Int) (wrap64 (x26_1+1)) l1_0 a1_1) else (spec_toCan.l0 k3 l2 (wrap64 (x7_1 - 1)) x8_1 l2 (l2.length:Int) (wrap64 (x26_1+1)) l1_0 a1_1))=some r:=by rw[← hbq39] at H;exact H
                have Nbq39:=am' hbq39;clear hbq39;by_cases c40:bq39=true
                ·
                 subst c40;have H1:(spec_toCan.l0 k3 l2 x7_1 (wrap64 (x8_1 - 1)) l2 (l2.length:Int) (wrap64 (x26_1+1)) l1_0 a1_1)=some r:=by rw[if_pos rfl] at H;exact H
                 clear H;have H:=H1;clear H1;have H':=am' H;clear H;have hnb41:=NB136_135.out;have hnc41:=NB135_136.out;have hcz42_0:wr.cell? ⟨gb136,0,none⟩=some (.slice A1_0 l1_0.length c1_0):=(bc' BK136.out 0).trans rfl;have hcz42_1:wr.cell? ⟨gb136,1,none⟩=some (.int .i64 a1_1):=(bc' BK136.out 1).trans rfl;have hfz42_0:=bf' BK136.out 0;have hfz42_1:=bf' BK136.out 1;have p145:0≤(0:Int):=(by omega)
                 have q145:0 < ((rd_L2 l2 x26_1).length:Int):=od' xa';obtain ⟨ad145,e145,hx145_0⟩:=Kd.at_int HR138_0.out 0 p145 q145;cases e145;have qi145:(0 < (rd_L2 l2 x26_1).length)=True:=eq_true (by omega)
                 (try rw [show ((0:Int)).toNat=0 from rfl] at hx145_0)
                 (try rw [Addr.add_zero'] at hx145_0)
                 replace hx145_0:=(HB.out.cell (bl' w _ hx145_0)).trans hx145_0;replace p145:=eq_true p145;replace q145:=eq_true q145;have p146:0≤((rd (rd_L2 l2 x26_1) 0):Int):=od' xa';have q146:(rd (rd_L2 l2 x26_1) 0) < (l1_0.length:Int):=od' xa';obtain ⟨ad146,e146,hx146_0⟩:=Kd.at_bool HR1_0.out (rd (rd_L2 l2 x26_1) 0) p146 q146
                 (try rw [← Nbq39.out] at hx146_0)
                 cases e146
                 replace hx146_0:=(HB.out.cell (bl' w _ hx146_0)).trans hx146_0;replace p146:=eq_true p146;replace q146:=eq_true q146;go_wp2
                 repeat (go_quiet (fail);try go_wp2)
                 go_roundg k3
                 case measure=>have:=HK1.out;have:=HJ15.out;have:=HK3.out;omega
                 case rel=>exact ⟨(x7_1),(wrap64 (x8_1 - 1)),(wrap64 (x26_1+1)),xs',xs',xs',H',⟨by have:=HK1.out;have:=HJ15.out;have:=HK3.out;omega⟩,⟨kk' BK135.out⟩,⟨kk' BK136.out⟩,⟨y2' GE135.out GE136.out⟩⟩
                ·
                 replace c40:=Bool.eq_false_iff.mpr c40;subst c40;have H1:(spec_toCan.l0 k3 l2 (wrap64 (x7_1 - 1)) x8_1 l2 (l2.length:Int) (wrap64 (x26_1+1)) l1_0 a1_1)=some r:=by rw[if_neg (show ¬ (false=true) by decide)] at H;exact H
                 clear H;have H:=H1;clear H1;have H':=am' H;clear H;have hnb43:=NB136_135.out;have hnc43:=NB135_136.out;have hcz44_0:wr.cell? ⟨gb136,0,none⟩=some (.slice A1_0 l1_0.length c1_0):=(bc' BK136.out 0).trans rfl;have hcz44_1:wr.cell? ⟨gb136,1,none⟩=some (.int .i64 a1_1):=(bc' BK136.out 1).trans rfl;have hfz44_0:=bf' BK136.out 0;have hfz44_1:=bf' BK136.out 1;have p145:0≤(0:Int):=(by omega)
                 have q145:0 < ((rd_L2 l2 x26_1).length:Int):=od' xa';obtain ⟨ad145,e145,hx145_0⟩:=Kd.at_int HR138_0.out 0 p145 q145;cases e145;have qi145:(0 < (rd_L2 l2 x26_1).length)=True:=eq_true (by omega)
                 (try rw [show ((0:Int)).toNat=0 from rfl] at hx145_0)
                 (try rw [Addr.add_zero'] at hx145_0)
                 replace hx145_0:=(HB.out.cell (bl' w _ hx145_0)).trans hx145_0;replace p145:=eq_true p145;replace q145:=eq_true q145;have p146:0≤((rd (rd_L2 l2 x26_1) 0):Int):=od' xa';have q146:(rd (rd_L2 l2 x26_1) 0) < (l1_0.length:Int):=od' xa';obtain ⟨ad146,e146,hx146_0⟩:=Kd.at_bool HR1_0.out (rd (rd_L2 l2 x26_1) 0) p146 q146
                 (try rw [← Nbq39.out] at hx146_0)
                 cases e146
                 replace hx146_0:=(HB.out.cell (bl' w _ hx146_0)).trans hx146_0;replace p146:=eq_true p146;replace q146:=eq_true q146;go_wp2
                 repeat (go_quiet (fail);try go_wp2)
                 go_roundg k3
                 case measure=>have:=HK1.out;have:=HJ15.out;have:=HK3.out;omega
                 case rel=>exact ⟨(wrap64 (x7_1 - 1)),(x8_1),(wrap64 (x26_1+1)),xs',xs',xs',H',⟨by have:=HK1.out;have:=HJ15.out;have:=HK3.out;omega⟩,⟨kk' BK135.out⟩,⟨kk' BK136.out⟩,⟨y2' GE135.out GE136.out⟩⟩
               ·
                rw[if_neg c38] at H;exact absurd H (by simp)
              ·
               rw[if_neg c37] at H;exact absurd H (by simp)
             ·
              rw[if_neg c36] at H;exact absurd H (by simp)
      ·
       rw[if_neg c15] at H;exact absurd H (by simp)
     ·
      rw[if_neg c14] at H;exact absurd H (by simp)
    ·
     rw[if_neg c13] at H;have c13b0:decide (x26_1 < (l2.length:Int))=false:=df' c13;clear c13;by_cases c45:x7_1 ≥ 0
     ·
      rw[if_pos c45] at H;have c45b0:decide (0≤x7_1)=true:=dt' c45;clear c45;obtain rfl:=os' H;go_wp2
      repeat (go_quiet (fail);try go_wp2)
      go_ret
      exact ⟨by first|rfl|(simp[errW_none,errW_some] <;> rfl)|(simp[*,errW_none,errW_some] <;> rfl),y2' GE135.out GE136.out⟩
     ·
      rw[if_neg c45] at H;have c45b0:decide (0≤x7_1)=false:=df' c45;clear c45;obtain rfl:=os' H;go_wp2
      repeat (go_quiet (fail);try go_wp2)
      go_ret
      exact ⟨by first|rfl|(simp[errW_none,errW_some] <;> rfl)|(simp[*,errW_none,errW_some] <;> rfl),y2' GE135.out GE136.out⟩
 ·
  replace c5:=Bool.eq_false_iff.mpr c5;subst c5;have H1:(some false)=some r:=by rw[if_neg (show ¬ (false=true) by decide)] at H;exact H
  clear H;have H:=H1;clear H1;obtain rfl:=os' H;go_enter Try.func54,Try.ntmps54;go_wp2_with (first|((with_reducible refine gate_dst (N:=3) rfl ?_);refine box_event ?hg (N:=3) ?hd (cs:=#[.slice A0_0 l0_0.length c0_0, .int .i64 a0_1, .int .i64 a0_2]) (t:=35) ?hr ?_;(case hd=>rfl);(case hg=>rfl);(case hr=>first|(go_simp;done)|(go_simp;rfl));intro gb135 hg w46 hbox hb;have n0_:=am' (bt' xb' hb);have n1_:=am' (hbox);have n2_:=am' ((by rw[hg];exact (bz' xb'):w.heap.size≤gb135));have n3_:=am' ((by rw[hg];exact (bz' xb'):w.heap.size≤gb135));clear HB;have HB:=n0_;have BK135:=n1_;have GW135:=n2_;have GE135:=n3_;clear n0_ n1_ n2_ n3_;clear hb hbox hg)|((with_reducible refine gate_dst (N:=4) rfl ?_);refine box_event ?hg (N:=4) ?hd (cs:=#[.slice A1_0 l1_0.length c1_0, .int .i64 a1_1]) (t:=32) ?hr ?_;(case hd=>rfl);(case hg=>rfl);(case hr=>first|(go_simp;done)|(go_simp;rfl));intro gb136 hg w47 hbox hb;have n0_:=am' (bb' (g:=gb135) (o := .cells #[.slice A0_0 l0_0.length c0_0, .int .i64 a0_1, .int .i64 a0_2] 35 (0,0)) (kk' BK135.out) hb);have n1_:=am' (bt' (yb' GE135.out) hb);have n2_:=am' (hbox);have n3_:=am' ((by rw[hg];exact (bz' (yb' GE135.out)):w.heap.size≤gb136));have n4_:=am' ((by rw[hg];exact (bz' (yb' GE135.out)):w.heap.size≤gb136));have n5_:=am' ((by rw[hg];exact Nat.ne_of_lt (blk_lt (g:=gb135) (o := .cells #[.slice A0_0 l0_0.length c0_0, .int .i64 a0_1, .int .i64 a0_2] 35 (0,0)) (kk' BK135.out)):gb135≠gb136));have n6_:=am' ((by rw[hg];exact Nat.ne_of_gt (blk_lt (g:=gb135) (o := .cells #[.slice A0_0 l0_0.length c0_0, .int .i64 a0_1, .int .i64 a0_2] 35 (0,0)) (kk' BK135.out)):gb136≠gb135));clear BK135;clear HB;have BK135:=n0_;have HB:=n1_;have BK136:=n2_;have GW136:=n3_;have GE136:=n4_;have NB135_136:=n5_;have NB136_135:=n6_;clear n0_ n1_ n2_ n3_ n4_ n5_ n6_;clear hb hbox hg;have hnb48:=NB135_136.out;have hnc48:=NB136_135.out;have hcz49_0:w47.cell? ⟨gb135,0,none⟩=some (.slice A0_0 l0_0.length c0_0):=(bc' BK135.out 0).trans rfl;have hcz49_1:w47.cell? ⟨gb135,1,none⟩=some (.int .i64 a0_1):=(bc' BK135.out 1).trans rfl;have hcz49_2:w47.cell? ⟨gb135,2,none⟩=some (.int .i64 a0_2):=(bc' BK135.out 2).trans rfl;have hfz49_0:=bf' BK135.out 0;have hfz49_1:=bf' BK135.out 1;have hfz49_2:=bf' BK135.out 2)|(go_at_call 71;(with_reducible refine (spec_toGroups.calls k _ _ l0_0 a0_1 a0_2 _ _ l2 false _ ?side1 ?side2 ?side3 ?side4 A4.out).mono ?_);(case side1=>exact kc' (cb' HR0_0.out HB.out));(case side2=>exact HC0_0.out);(case side3=>exact kc' (cb' HR2.out HB.out));(case side4=>exact HC2.out);rintro e w50 ⟨rfl,hb⟩;have n0_:=am' (bb' (g:=gb135) (o := .cells #[.slice A0_0 l0_0.length c0_0, .int .i64 a0_1, .int .i64 a0_2] 35 (0,0)) (kk' BK135.out) hb);have n1_:=am' (bb' (g:=gb136) (o := .cells #[.slice A1_0 l1_0.length c1_0, .int .i64 a1_1] 32 (0,0)) (kk' BK136.out) hb);have n2_:=am' (bt' (y2' GE135.out GE136.out) hb);clear BK135;clear BK136;clear HB;have BK135:=n0_;have BK136:=n1_;have HB:=n2_;clear n0_ n1_ n2_;(try clear hb);(try clear hb2);(try clear hk);(try clear hi)))
  repeat (go_quiet (first|((with_reducible refine gate_dst (N:=3) rfl ?_);refine box_event ?hg (N:=3) ?hd (cs:=#[.slice A0_0 l0_0.length c0_0, .int .i64 a0_1, .int .i64 a0_2]) (t:=35) ?hr ?_;(case hd=>rfl);(case hg=>rfl);(case hr=>first|(go_simp;done)|(go_simp;rfl));intro gb135 hg w46 hbox hb;have n0_:=am' (bt' xb' hb);have n1_:=am' (hbox);have n2_:=am' ((by rw[hg];exact (bz' xb'):w.heap.size≤gb135));have n3_:=am' ((by rw[hg];exact (bz' xb'):w.heap.size≤gb135));clear HB;have HB:=n0_;have BK135:=n1_;have GW135:=n2_;have GE135:=n3_;clear n0_ n1_ n2_ n3_;clear hb hbox hg)|((with_reducible refine gate_dst (N:=4) rfl ?_);refine box_event ?hg (N:=4) ?hd (cs:=#[.slice A1_0 l1_0.length c1_0, .int .i64 a1_1]) (t:=32) ?hr ?_;(case hd=>rfl);(case hg=>rfl);(case hr=>first|(go_simp;done)|(go_simp;rfl));intro gb136 hg w47 hbox hb;have n0_:=am' (bb' (g:=gb135) (o := .cells #[.slice A0_0 l0_0.length c0_0, .int .i64 a0_1, .int .i64 a0_2] 35 (0,0)) (kk' BK135.out) hb);have n1_:=am' (bt' (yb' GE135.out) hb);have n2_:=am' (hbox);have n3_:=am' ((by rw[hg];exact (bz' (yb' GE135.out)):w.heap.size≤gb136));have n4_:=am' ((by rw[hg];exact (bz' (yb' GE135.out)):w.heap.size≤gb136));have n5_:=am' ((by rw[hg];exact Nat.ne_of_lt (blk_lt (g:=gb135) (o := .cells #[.slice A0_0 l0_0.length c0_0, .int .i64 a0_1, .int .i64 a0_2] 35 (0,0)) (kk' BK135.out)):gb135≠gb136));have n6_:=am' ((by rw[hg];exact Nat.ne_of_gt (blk_lt (g:=gb135) (o := .cells #[.slice A0_0 l0_0.length c0_0, .int .i64 a0_1, .int .i64 a0_2] 35 (0,0)) (kk' BK135.out)):gb136≠gb135));clear BK135;clear HB;have BK135:=n0_;have HB:=n1_;have BK136:=n2_;have GW136:=n3_;have GE136:=n4_;have NB135_136:=n5_;have NB136_135:=n6_;clear n0_ n1_ n2_ n3_ n4_ n5_ n6_;clear hb hbox hg;have hnb48:=NB135_136.out;have hnc48:=NB136_135.out;have hcz49_0:w47.cell? ⟨gb135,0,none⟩=some (.slice A0_0 l0_0.length c0_0):=(bc' BK135.out 0).trans rfl;have hcz49_1:w47.cell? ⟨gb135,1,none⟩=some (.int .i64 a0_1):=(bc' BK135.out 1).trans rfl;have hcz49_2:w47.cell? ⟨gb135,2,none⟩=some (.int .i64 a0_2):=(bc' BK135.out 2).trans rfl;have hfz49_0:=bf' BK135.out 0;have hfz49_1:=bf' BK135.out 1;have hfz49_2:=bf' BK135.out 2)|(go_at_call 71;(with_reducible refine (spec_toGroups.calls k _ _ l0_0 a0_1 a0_2 _ _ l2 false _ ?side1 ?side2 ?side3 ?side4 A4.out).mono ?_);(case side1=>exact kc' (cb' HR0_0.out HB.out));(case side2=>exact HC0_0.out);(case side3=>exact kc' (cb' HR2.out HB.out));(case side4=>exact HC2.out);rintro e w50 ⟨rfl,hb⟩;have n0_:=am' (bb' (g:=gb135) (o := .cells #[.slice A0_0 l0_0.length c0_0, .int .i64 a0_1, .int .i64 a0_2] 35 (0,0)) (kk' BK135.out) hb);have n1_:=am' (bb' (g:=gb136) (o := .cells #[.slice A1_0 l1_0.length c1_0, .int .i64 a1_1] 32 (0,0)) (kk' BK136.out) hb);have n2_:=am' (bt' (y2' GE135.out GE136.out) hb);clear BK135;clear BK136;clear HB;have BK135:=n0_;have BK136:=n1_;have HB:=n2_;clear n0_ n1_ n2_;(try clear hb);(try clear hb2);(try clear hk);(try clear hi)));try go_wp2_with (first|((with_reducible refine gate_dst (N:=3) rfl ?_);refine box_event ?hg (N:=3) ?hd (cs:=#[.slice A0_0 l0_0.length c0_0, .int .i64 a0_1, .int .i64 a0_2]) (t:=35) ?hr ?_;(case hd=>rfl);(case hg=>rfl);(case hr=>first|(go_simp;done)|(go_simp;rfl));intro gb135 hg w46 hbox hb;have n0_:=am' (bt' xb' hb);have n1_:=am' (hbox);have n2_:=am' ((by rw[hg];exact (bz' xb'):w.heap.size≤gb135));have n3_:=am' ((by rw[hg];exact (bz' xb'):w.heap.size≤gb135));clear HB;have HB:=n0_;have BK135:=n1_;have GW135:=n2_;have GE135:=n3_;clear n0_ n1_ n2_ n3_;clear hb hbox hg)|((with_reducible refine gate_dst (N:=4) rfl ?_);refine box_event ?hg (N:=4) ?hd (cs:=#[.slice A1_0 l1_0.length c1_0, .int .i64 a1_1]) (t:=32) ?hr ?_;(case hd=>rfl);(case hg=>rfl);(case hr=>first|(go_simp;done)|(go_simp;rfl));intro gb136 hg w47 hbox hb;have n0_:=am' (bb' (g:=gb135) (o := .cells #[.slice A0_0 l0_0.length c0_0, .int .i64 a0_1, .int .i64 a0_2] 35 (0,0)) (kk' BK135.out) hb);have n1_:=am' (bt' (yb' GE135.out) hb);have n2_:=am' (hbox);have n3_:=am' ((by rw[hg];exact (bz' (yb' GE135.out)):w.heap.size≤gb136));have n4_:=am' ((by rw[hg];exact (bz' (yb' GE135.out)):w.heap.size≤gb136));have n5_:=am' ((by rw[hg];exact Nat.ne_of_lt (blk_lt (g:=gb135) (o := .cells #[.slice A0_0 l0_0.length c0_0, .int .i64 a0_1, .int .i64 a0_2] 35 (0,0)) (kk' BK135.out)):gb135≠gb136));have n6_:=am' ((by rw[hg];exact Nat.ne_of_gt (blk_lt (g:=gb135) (o := .cells #[.slice A0_0 l0_0.length c0_0, .int .i64 a0_1, .int .i64 a0_2] 35 (0,0)) (kk' BK135.out)):gb136≠gb135));clear BK135;clear HB;have BK135:=n0_;have HB:=n1_;have BK136:=n2_;have GW136:=n3_;have GE136:=n4_;have NB135_136:=n5_;have NB136_135:=n6_;clear n0_ n1_ n2_ n3_ n4_ n5_ n6_;clear hb hbox hg;have hnb48:=NB135_136.out;have hnc48:=NB136_135.out;have hcz49_0:w47.cell? ⟨gb135,0,none⟩=some (.slice A0_0 l0_0.length c0_0):=(bc' BK135.out 0).trans rfl;have hcz49_1:w47.cell? ⟨gb135,1,none⟩=some (.int .i64 a0_1):=(bc' BK135.out 1).trans rfl;have hcz49_2:w47.cell? ⟨gb135,2,none⟩=some (.int .i64 a0_2):=(bc' BK135.out 2).trans rfl;have hfz49_0:=bf' BK135.out 0;have hfz49_1:=bf' BK135.out 1;have hfz49_2:=bf' BK135.out 2)|(go_at_call 71;(with_reducible refine (spec_toGroups.calls k _ _ l0_0 a0_1 a0_2 _ _ l2 false _ ?side1 ?side2 ?side3 ?side4 A4.out).mono ?_);(case side1=>exact kc' (cb' HR0_0.out HB.out));(case side2=>exact HC0_0.out);(case side3=>exact kc' (cb' HR2.out HB.out));(case side4=>exact HC2.out);rintro e w50 ⟨rfl,hb⟩;have n0_:=am' (bb' (g:=gb135) (o := .cells #[.slice A0_0 l0_0.length c0_0, .int .i64 a0_1, .int .i64 a0_2] 35 (0,0)) (kk' BK135.out) hb);have n1_:=am' (bb' (g:=gb136) (o := .cells #[.slice A1_0 l1_0.length c1_0, .int .i64 a1_1] 32 (0,0)) (kk' BK136.out) hb);have n2_:=am' (bt' (y2' GE135.out GE136.out) hb);clear BK135;clear BK136;clear HB;have BK135:=n0_;have BK136:=n1_;have HB:=n2_;clear n0_ n1_ n2_;(try clear hb);(try clear hb2);(try clear hk);(try clear hi))))
  go_ret
  exact ⟨by first|rfl|(simp[errW_none,errW_some] <;> rfl)|(simp[*,errW_none,errW_some] <;> rfl),y2' GE135.out GE136.out⟩
end Go.Proofs.Ytdomojenlofieaa.C2
