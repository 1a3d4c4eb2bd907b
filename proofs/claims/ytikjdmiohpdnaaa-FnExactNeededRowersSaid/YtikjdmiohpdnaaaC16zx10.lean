import Derived.Test.YtikjdmiohpdnaaaC16zx0
import Derived.Test.YtikjdmiohpdnaaaC16zx2
import Derived.Test.YtikjdmiohpdnaaaC16zx9
import Derived.Test.YtikjdmiohpdnaaaC16zAl
namespace Go.Proofs.Ytikjdmiohpdnaaa.C16
open Go.RowKit Go.Proofs.YtikjdmiohpdnaaaW.PrintWords Go.Proofs.YtikjdmiohpdnaaaW.PrintLast Go.Proofs.YtikjdmiohpdnaaaW.PrintMore Go.Proofs.Ytikjdmiohpdnaaa.H
attribute [local go_sem] max2_int min2_int max_two min_two max_three min_three max_four min_four
set_option linter.unusedVariables false
set_option linter.unusedSimpArgs false
def spec_loLeast.f (k:Nat) (l0_0:List Int) (l0_1:List Bool) (a0_2:Int) (a1:Bool):Option (Int):=(spec_loFar.f k l0_0 l0_1 a0_2 a1).bind fun bt302=>((spec_loStart.f k l0_0 l0_1 a0_2).bind fun t308=>(if 0≤t308 then (if t308 < (bt302.1.length:Int) then (some (rd bt302.1 t308)) else (none)) else (none)))
set_option maxHeartbeats 8000000 in
set_option maxRecDepth 100000 in
theorem spec_loLeast.calls (k:Nat) (A0_0:Option Addr) (c0_0:Nat) (l0_0:List Int) (A0_1:Option Addr) (c0_1:Nat) (l0_1:List Bool) (a0_2:Int) (a1:Bool) (r:Int) (w:World) (hr0_0:Kd.C (Kd.int .i64) w A0_0 l0_0.length l0_0) (hc0_0:l0_0.length≤c0_0) (hr0_1:Kd.C Kd.bool w A0_1 l0_1.length l0_1) (hc0_1:l0_1.length≤c0_1) (h:spec_loLeast.f k l0_0 l0_1 a0_2 a1=some r) :
  Calls Try.prog 75 #[.agg #[.slice A0_0 l0_0.length c0_0, .slice A0_1 l0_1.length c0_1, .int .i64 a0_2], .bool a1] w fun e w'=>e = .returned (.int .i64 r)∧Below w.heap.size w w':=by
 have hu29:=Try.underlying29
 have HR0_0:=am' hr0_0
 have HC0_0:=am' hc0_0
 clear hr0_0 hc0_0;have HR0_1:=am' hr0_1
 have HC0_1:=am' hc0_1
 clear hr0_1 hc0_1;have HB:=am' (Below.refl w.heap.size w)
 have H:((spec_loFar.f k l0_0 l0_1 a0_2 a1).bind fun bt302=>((spec_loStart.f k l0_0 l0_1 a0_2).bind fun t308=>(if 0≤t308 then (if t308 < (bt302.1.length:Int) then (some (rd bt302.1 t308)) else (none)) else (none))))=some r:=h
 clear h;replace H:=Option.bind_eq_some_iff.mp H
 obtain ⟨⟨t302,t305⟩,A30,H⟩:=H
 replace H:((spec_loStart.f k l0_0 l0_1 a0_2).bind fun t308=>(if 0≤t308 then (if t308 < (t302.length:Int) then (some (rd t302 t308)) else (none)) else (none)))=some r:=H
 have A3:=am' A30
 clear A30;replace H:=Option.bind_eq_some_iff.mp H
 obtain ⟨t308,A40,H⟩:=H
 replace H:(if 0≤t308 then (if t308 < (t302.length:Int) then (some (rd t302 t308)) else (none)) else (none))=some r:=H
 have A4:=am' A40
 clear A40;by_cases c5:0≤t308
 ·
  rw[if_pos c5] at H;have c5b0:decide (0≤t308)=true:=decide_eq_true c5;clear c5;by_cases c6:t308 < (t302.length:Int)
  ·
   rw[if_pos c6] at H;have c6b0:decide (t308 < (t302.length:Int))=true:=decide_eq_true c6;clear c6;obtain rfl:=Option.some.inj H;go_enter Try.func75,Try.ntmps75;go_wp2_with (first|((with_reducible refine gate_dst (N:=2) rfl ?_);refine box_event ?hg (N:=2) ?hd (cs:=#[.slice A0_0 l0_0.length c0_0, .slice A0_1 l0_1.length c0_1, .int .i64 a0_2]) (t:=29) ?hr ?_;(case hd=>rfl);(case hg=>rfl);(case hr=>first|(go_simp;done)|(go_simp;rfl));intro gb301 hg w7 hbox hb;have n0_:=am' (below_step xb' hb);have n1_:=am' (hbox);have n2_:=am' ((by rw[hg];exact (below_size xb'):w.heap.size≤gb301));have n3_:=am' ((by rw[hg];exact (below_size xb'):w.heap.size≤gb301));clear HB;have HB:=n0_;have BK301:=n1_;have GW301:=n2_;have GE301:=n3_;clear n0_ n1_ n2_ n3_;clear hb hbox hg;have hcz8_0:w7.cell? ⟨gb301,0,none⟩=some (.slice A0_0 l0_0.length c0_0):=(blk_cell BK301.out 0).trans rfl;have hcz8_1:w7.cell? ⟨gb301,1,none⟩=some (.slice A0_1 l0_1.length c0_1):=(blk_cell BK301.out 1).trans rfl;have hcz8_2:w7.cell? ⟨gb301,2,none⟩=some (.int .i64 a0_2):=(blk_cell BK301.out 2).trans rfl;have hfz8_0:=blk_frozen BK301.out 0;have hfz8_1:=blk_frozen BK301.out 1;have hfz8_2:=blk_frozen BK301.out 2)|((with_reducible refine gate_callee (f:=103) rfl ?_);refine goesL_ (some 10) rfl rfl Try.func103 xk' rfl #[.agg #[.slice A0_0 l0_0.length c0_0, .slice A0_1 l0_1.length c0_1, .int .i64 a0_2], .bool a1] rfl xl' ?_;(with_reducible refine (spec_loFar.calls k _ _ l0_0 _ _ l0_1 a0_2 a1 t302 t305 _ ?side1 ?side2 ?side3 ?side4 A3.out).mono ?_);(case side1=>repeat (first|exact (Kd.C_below HR0_0.out HB.out)|(with_reducible refine ca' ?_ _)|(with_reducible refine cn' ?_ _)|(with_reducible refine cd' ?_)));(case side2=>exact HC0_0.out);(case side3=>repeat (first|exact (Kd.C_below HR0_1.out HB.out)|(with_reducible refine ca' ?_ _)|(with_reducible refine cn' ?_ _)|(with_reducible refine cd' ?_)));(case side4=>exact HC0_1.out);rintro e w9 ⟨v303,v306,rfl,ho0,ho1,hb⟩;refine ⟨_,rfl,?_⟩;have n0_:=am' (Kd.R_lower ho0 (below_size (yb' GE301.out)));have n1_:=am' (Kd.R_lower ho1 (below_size (yb' GE301.out)));have n2_:=am' (blk_below (g:=gb301) (o := .cells #[.slice A0_0 l0_0.length c0_0, .slice A0_1 l0_1.length c0_1, .int .i64 a0_2] 29 (0,0)) (kk' BK301.out) hb);have n3_:=am' (below_step (yb' GE301.out) hb);clear BK301;clear HB;have HO304:=n0_;have HO307:=n1_;have BK301:=n2_;have HB:=n3_;clear n0_ n1_ n2_ n3_;(try clear hb);(try clear hb2);(try clear hk);(try clear hi);(try clear ho0);(try clear ho1);have hcz10_0:w9.cell? ⟨gb301,0,none⟩=some (.slice A0_0 l0_0.length c0_0):=(blk_cell BK301.out 0).trans rfl;have hcz10_1:w9.cell? ⟨gb301,1,none⟩=some (.slice A0_1 l0_1.length c0_1):=(blk_cell BK301.out 1).trans rfl;have hcz10_2:w9.cell? ⟨gb301,2,none⟩=some (.int .i64 a0_2):=(blk_cell BK301.out 2).trans rfl;have hfz10_0:=blk_frozen BK301.out 0;have hfz10_1:=blk_frozen BK301.out 1;have hfz10_2:=blk_frozen BK301.out 2)|((with_reducible refine gate_callee (f:=80) rfl ?_);refine goesL_ (some 15) rfl rfl Try.func80 xk' rfl #[.agg #[.slice A0_0 l0_0.length c0_0, .slice A0_1 l0_1.length c0_1, .int .i64 a0_2]] rfl xl' ?_;(with_reducible refine (spec_loStart.calls k _ _ l0_0 _ _ l0_1 a0_2 t308 _ ?side1 ?side2 ?side3 ?side4 A4.out).mono ?_);(case side1=>repeat (first|exact (Kd.C_below HR0_0.out HB.out)|(with_reducible refine ca' ?_ _)|(with_reducible refine cn' ?_ _)|(with_reducible refine cd' ?_)));(case side2=>exact HC0_0.out);(case side3=>repeat (first|exact (Kd.C_below HR0_1.out HB.out)|(with_reducible refine ca' ?_ _)|(with_reducible refine cn' ?_ _)|(with_reducible refine cd' ?_)));(case side4=>exact HC0_1.out);rintro e w11 ⟨rfl,hb⟩;refine ⟨_,rfl,?_⟩;have n0_:=am' (Kd.R_below (kr' HO304.out) hb);have n1_:=am' (Kd.R_below (kr' HO307.out) hb);have n2_:=am' (blk_below (g:=gb301) (o := .cells #[.slice A0_0 l0_0.length c0_0, .slice A0_1 l0_1.length c0_1, .int .i64 a0_2] 29 (0,0)) (kk' BK301.out) hb);have n3_:=am' (below_step (yb' GE301.out) hb);clear HO304;clear HO307;clear BK301;clear HB;have HO304:=n0_;have HO307:=n1_;have BK301:=n2_;have HB:=n3_;clear n0_ n1_ n2_ n3_;(try clear hb);(try clear hb2);(try clear hk);(try clear hi);obtain ⟨Ao12,co12,eo12⟩:=Kd.R_slice HO304.out;subst eo12;have p309:0≤(t308:Int):=of_decide_eq_true xa';have q309:t308 < (t302.length:Int):=of_decide_eq_true xa';obtain ⟨ad309,e309,hx309_0⟩:=Kd.at_int (Kd.R_reads' HO304.out).2.2 t308 p309 q309;cases e309;replace p309:=eq_true p309;replace q309:=eq_true q309))
   go_ret
   exact ⟨by first|rfl|(simp[errW_none,errW_some] <;> rfl)|(simp[*,errW_none,errW_some] <;> rfl),by repeat (first|(with_reducible first|exact HB.out|apply ba'|apply bd'|apply be'|refine bs' ?_ GE301.out)|exact HB.out)⟩
  ·
   rw[if_neg c6] at H;exact absurd H (by simp)
 ·
  rw[if_neg c5] at H;exact absurd H (by simp)
def spec_NeededRowers.l0:Nat→List Int→List Bool→Int→Int→List Int→List Bool→Int→Option (List Int × Bool)
 | 0,_,_,_,_,_,_,_=>none
 | k+1,x4,x12,x13,x14,x311000,x311001,x311002=>if x14 < x13 then (if 0≤x14 then (if x14 < (x12.length:Int) then (if rdOf false x12 x14=true then ((some (([]:List Bool):List Bool)).bind fun y313=>(if y313.length+x311001.length < 140737488355328 then ((some (y313 ++ x311001:List Bool)).bind fun y316=>(if x14 < (y316.length:Int) then ((spec_loLeast.f k x311000 (y316.set (x14:Int).toNat false) x311002 false).bind fun t320=>(if t320 < 0 then (if x4.length < 17592186044416 then (spec_NeededRowers.l0 k (x4 ++ [x14]) x12 x13 (wrap64 (x14+1)) x311000 x311001 x311002) else (none)) else (spec_NeededRowers.l0 k x4 x12 x13 (wrap64 (x14+1)) x311000 x311001 x311002))) else (none))) else (none))) else (spec_NeededRowers.l0 k x4 x12 x13 (wrap64 (x14+1)) x311000 x311001 x311002)) else (none)) else (none)) else (some (x4,true))
def spec_NeededRowers.f (k:Nat) (l0_0:List Int) (l0_1:List Bool) (a0_2:Int):Option (List Int × Bool):=(spec_loGood.f k l0_0 l0_1 a0_2).bind fun t311=>(if t311=true then (spec_NeededRowers.l0 k ([]:List Int) l0_1 (l0_1.length:Int) 0 l0_0 l0_1 a0_2) else (some (([]:List Int),false)))
set_option maxHeartbeats 8000000 in
set_option maxRecDepth 100000 in
theorem spec_NeededRowers.calls (k:Nat) (A0_0:Option Addr) (c0_0:Nat) (l0_0:List Int) (A0_1:Option Addr) (c0_1:Nat) (l0_1:List Bool) (a0_2:Int) (r1:List Int) (r2:Bool) (w:World) (hr0_0:Kd.C (Kd.int .i64) w A0_0 l0_0.length l0_0) (hc0_0:l0_0.length≤c0_0) (hr0_1:Kd.C Kd.bool w A0_1 l0_1.length l0_1) (hc0_1:l0_1.length≤c0_1) (h:spec_NeededRowers.f k l0_0 l0_1 a0_2=some (r1,r2)) :
  Calls Try.prog 37 #[.agg #[.slice A0_0 l0_0.length c0_0, .slice A0_1 l0_1.length c0_1, .int .i64 a0_2]] w fun e w'=>∃ v0_:Value,e = .returned (.tuple #[v0_, .bool r2])∧Kd.R (Kd.int .i64) 3 w' w.heap.size (fun _=>True) v0_ r1∧Below w.heap.size w w':=by
 have hu29:=Try.underlying29
 have HR0_0:=am' hr0_0
 have HC0_0:=am' hc0_0
 clear hr0_0 hc0_0;have HR0_1:=am' hr0_1
 have HC0_1:=am' hc0_1
 clear hr0_1 hc0_1;have HB:=am' (Below.refl w.heap.size w)
 have H:((spec_loGood.f k l0_0 l0_1 a0_2).bind fun t311=>(if t311=true then (spec_NeededRowers.l0 k ([]:List Int) l0_1 (l0_1.length:Int) 0 l0_0 l0_1 a0_2) else (some (([]:List Int),false))))=some (r1,r2):=h
 clear h;replace H:=Option.bind_eq_some_iff.mp H
 obtain ⟨t311,A20,H⟩:=H
 replace H:(if t311=true then (spec_NeededRowers.l0 k ([]:List Int) l0_1 (l0_1.length:Int) 0 l0_0 l0_1 a0_2) else (some (([]:List Int),false)))=some (r1,r2):=H
 have A2:=am' A20
 clear A20;by_cases c3:t311=true
 ·
  subst c3;have H1:(spec_NeededRowers.l0 k ([]:List Int) l0_1 (l0_1.length:Int) 0 l0_0 l0_1 a0_2)=some (r1,r2):=by rw[if_pos rfl] at H;exact H
  clear H;have H:=H1;clear H1;have H':=am' H;clear H;go_enter Try.func37,Try.ntmps37;go_wp2_with (first|((with_reducible refine gate_dst (N:=1) rfl ?_);refine box_event ?hg (N:=1) ?hd (cs:=#[.slice A0_0 l0_0.length c0_0, .slice A0_1 l0_1.length c0_1, .int .i64 a0_2]) (t:=29) ?hr ?_;(case hd=>rfl);(case hg=>rfl);(case hr=>first|(go_simp;done)|(go_simp;rfl));intro gb310 hg w4 hbox hb;have n0_:=am' (below_step xb' hb);have n1_:=am' (hbox);have n2_:=am' ((by rw[hg];exact (below_size xb'):w.heap.size≤gb310));have n3_:=am' ((by rw[hg];exact (below_size xb'):w.heap.size≤gb310));clear HB;have HB:=n0_;have BK310:=n1_;have GW310:=n2_;have GE310:=n3_;clear n0_ n1_ n2_ n3_;clear hb hbox hg;have hcz5_0:w4.cell? ⟨gb310,0,none⟩=some (.slice A0_0 l0_0.length c0_0):=(blk_cell BK310.out 0).trans rfl;have hcz5_1:w4.cell? ⟨gb310,1,none⟩=some (.slice A0_1 l0_1.length c0_1):=(blk_cell BK310.out 1).trans rfl;have hcz5_2:w4.cell? ⟨gb310,2,none⟩=some (.int .i64 a0_2):=(blk_cell BK310.out 2).trans rfl;have hfz5_0:=blk_frozen BK310.out 0;have hfz5_1:=blk_frozen BK310.out 1;have hfz5_2:=blk_frozen BK310.out 2)|((with_reducible refine gate_callee (f:=50) rfl ?_);refine goesL_ (some 9) rfl rfl Try.func50 xk' rfl #[.agg #[.slice A0_0 l0_0.length c0_0, .slice A0_1 l0_1.length c0_1, .int .i64 a0_2]] rfl xl' ?_;(with_reducible refine (spec_loGood.calls k _ _ l0_0 _ _ l0_1 a0_2 true _ ?side1 ?side2 ?side3 ?side4 A2.out).mono ?_);(case side1=>repeat (first|exact (Kd.C_below HR0_0.out HB.out)|(with_reducible refine ca' ?_ _)|(with_reducible refine cn' ?_ _)|(with_reducible refine cd' ?_)));(case side2=>exact HC0_0.out);(case side3=>repeat (first|exact (Kd.C_below HR0_1.out HB.out)|(with_reducible refine ca' ?_ _)|(with_reducible refine cn' ?_ _)|(with_reducible refine cd' ?_)));(case side4=>exact HC0_1.out);rintro e w6 ⟨rfl,hb⟩;refine ⟨_,rfl,?_⟩;have n0_:=am' (blk_below (g:=gb310) (o := .cells #[.slice A0_0 l0_0.length c0_0, .slice A0_1 l0_1.length c0_1, .int .i64 a0_2] 29 (0,0)) (kk' BK310.out) hb);have n1_:=am' (below_step (yb' GE310.out) hb);clear BK310;clear HB;have BK310:=n0_;have HB:=n1_;clear n0_ n1_;(try clear hb);(try clear hb2);(try clear hk);(try clear hi);have hcz7_0:w6.cell? ⟨gb310,0,none⟩=some (.slice A0_0 l0_0.length c0_0):=(blk_cell BK310.out 0).trans rfl;have hcz7_1:w6.cell? ⟨gb310,1,none⟩=some (.slice A0_1 l0_1.length c0_1):=(blk_cell BK310.out 1).trans rfl;have hcz7_2:w6.cell? ⟨gb310,2,none⟩=some (.int .i64 a0_2):=(blk_cell BK310.out 2).trans rfl;have hfz7_0:=blk_frozen BK310.out 0;have hfz7_1:=blk_frozen BK310.out 1;have hfz7_2:=blk_frozen BK310.out 2))
  go_loopg [4,14] k (fun kq v4 v14 w'=>∃ (x4_1:List Int) (x14_1:Int),v14 = .int .i64 x14_1∧Aside0 (spec_NeededRowers.l0 kq x4_1 l0_1 (l0_1.length:Int) x14_1 l0_0 l0_1 a0_2=some (r1,r2))∧Aside0 (kq≤k)∧Aside0 (Kd.R (Kd.int .i64) 3 w' w.heap.size (fun _=>True) v4 x4_1)∧Aside0 (w'.heap[gb310]? = some (.cells #[(.slice A0_0 l0_0.length c0_0),(.slice A0_1 l0_1.length c0_1), .int .i64 a0_2] 29 (0,0)))∧Aside0 (Below w.heap.size w w'))
  case atStart=>exact ⟨(([]:List Int)),(0),xs',H',⟨Nat.le_refl _⟩,⟨by first|exact Kd.R_nil _ _ _ _ _|exact Kd.N_nil _ _ _ _ _|exact Kd.V_nil _ _ _ _ _|exact Kd.Q_nil _ _ _ _ _|exact Kd.S_nil _ _ _ _ _⟩,⟨by (with_reducible repeat (first|refine kn' ?_ _|refine kd' ?_|refine ka' ?_ _));exact BK310.out⟩,⟨by repeat (first|(with_reducible first|exact HB.out|apply ba'|apply bd'|apply be'|refine bs' ?_ GE310.out)|exact HB.out)⟩⟩
  case round =>
   clear H';try clear p2
   try clear c3
   try clear c5
   try clear hcz5_0
   try clear hcz5_1
   try clear hcz5_2
   try clear hcz7_0
   try clear hcz7_1
   try clear hcz7_2
   try clear hfz5_0
   try clear hfz5_1
   try clear hfz5_2
   try clear hfz7_0
   try clear hfz7_1
   try clear hfz7_2
   obtain ⟨x4_1,x14_1,rfl,HA,HK1,HO_4,BK310,HB⟩:=hrel;cases gk with
   | zero=>exact absurd HA.out (by simp[spec_NeededRowers.l0])
   | succ k1 =>
    have H:=HA.out;clear HA;simp only[spec_NeededRowers.l0] at H;by_cases c8:x14_1 < (l0_1.length:Int)
    ·
     rw[if_pos c8] at H;have c8b0:decide (x14_1 < (l0_1.length:Int))=true:=decide_eq_true c8;clear c8;by_cases c9:0≤x14_1
     ·
      rw[if_pos c9] at H;have c9b0:decide (0≤x14_1)=true:=decide_eq_true c9;clear c9;by_cases c10:x14_1 < (l0_1.length:Int)
      ·
       rw[if_pos c10] at H;have c10b0:decide (x14_1 < (l0_1.length:Int))=true:=decide_eq_true c10;clear c10;obtain ⟨bq11,hbq11⟩:∃ b_:Bool,b_=(rdOf false l0_1 x14_1):=⟨_,rfl⟩
       replace H:(if bq11=true then ((some (([]:List Bool):List Bool)).bind fun y313=>(if y313.length+l0_1.length < 140737488355328 then ((some (y313 ++ l0_1:List Bool)).bind fun y316=>(if x14_1 < (y316.length:Int) then ((spec_loLeast.f k1 l0_0 (y316.set (x14_1:Int).toNat false) a0_2 false).bind fun t320=>(if t320 < 0 then (if x4_1.length < 17592186044416 then (spec_NeededRowers.l0 k1 (x4_1 ++ [x14_1]) l0_1 (l0_1.length:Int) (wrap64 (x14_1+1)) l0_0 l0_1 a0_2) else (none)) else (spec_NeededRowers.l0 k1 x4_1 l0_1 (l0_1.length:Int) (wrap64 (x14_1+1)) l0_0 l0_1 a0_2))) else (none))) else (none))) else (spec_NeededRowers.l0 k1 x4_1 l0_1 (l0_1.length:Int) (wrap64 (x14_1+1)) l0_0 l0_1 a0_2))=some (r1,r2):=by rw[← hbq11] at H;exact H
       have Nbq11:=am' hbq11;clear hbq11;by_cases c12:bq11=true
       ·
        subst c12;have H1:((some (([]:List Bool):List Bool)).bind fun y313=>(if y313.length+l0_1.length < 140737488355328 then ((some (y313 ++ l0_1:List Bool)).bind fun y316=>(if x14_1 < (y316.length:Int) then ((spec_loLeast.f k1 l0_0 (y316.set (x14_1:Int).toNat false) a0_2 false).bind fun t320=>(if t320 < 0 then (if x4_1.length < 17592186044416 then (spec_NeededRowers.l0 k1 (x4_1 ++ [x14_1]) l0_1 (l0_1.length:Int) (wrap64 (x14_1+1)) l0_0 l0_1 a0_2) else (none)) else (spec_NeededRowers.l0 k1 x4_1 l0_1 (l0_1.length:Int) (wrap64 (x14_1+1)) l0_0 l0_1 a0_2))) else (none))) else (none)))=some (r1,r2):=by rw[if_pos rfl] at H;exact H
        clear H;have H:=H1;clear H1;obtain ⟨y313,hy313⟩:∃ y_:List Bool,y_=(([]:List Bool)):=⟨_,rfl⟩
        replace H:(if y313.length+l0_1.length < 140737488355328 then ((some (y313 ++ l0_1:List Bool)).bind fun y316=>(if x14_1 < (y316.length:Int) then ((spec_loLeast.f k1 l0_0 (y316.set (x14_1:Int).toNat false) a0_2 false).bind fun t320=>(if t320 < 0 then (if x4_1.length < 17592186044416 then (spec_NeededRowers.l0 k1 (x4_1 ++ [x14_1]) l0_1 (l0_1.length:Int) (wrap64 (x14_1+1)) l0_0 l0_1 a0_2) else (none)) else (spec_NeededRowers.l0 k1 x4_1 l0_1 (l0_1.length:Int) (wrap64 (x14_1+1)) l0_0 l0_1 a0_2))) else (none))) else (none))=some (r1,r2):=by first|(rw[hy313];with_reducible exact H)|(have H2_:=(Option.bind_some _ _).symm.trans H;rw[hy313];with_reducible exact H2_)|(have H2_:=(Option.bind_some _ _).symm.trans H;with_reducible exact H2_)|with_reducible exact H|(rw[hy313];exact H)|exact H
        have Ny313:=am' hy313;clear hy313;by_cases c13:y313.length+l0_1.length < 140737488355328
        ·
         rw[if_pos c13] at H;have LMc13:=am' c13;clear c13;obtain ⟨y316,hy316⟩:∃ y_:List Bool,y_=(y313 ++ l0_1):=⟨_,rfl⟩
         replace H:(if x14_1 < (y316.length:Int) then ((spec_loLeast.f k1 l0_0 (y316.set (x14_1:Int).toNat false) a0_2 false).bind fun t320=>(if t320 < 0 then (if x4_1.length < 17592186044416 then (spec_NeededRowers.l0 k1 (x4_1 ++ [x14_1]) l0_1 (l0_1.length:Int) (wrap64 (x14_1+1)) l0_0 l0_1 a0_2) else (none)) else (spec_NeededRowers.l0 k1 x4_1 l0_1 (l0_1.length:Int) (wrap64 (x14_1+1)) l0_0 l0_1 a0_2))) else (none))=some (r1,r2):=by first|(rw[hy316];with_reducible exact H)|(have H2_:=(Option.bind_some _ _).symm.trans H;rw[hy316];with_reducible exact H2_)|(have H2_:=(Option.bind_some _ _).symm.trans H;with_reducible exact H2_)|with_reducible exact H|(rw[hy316];exact H)|exact H
         have Ny316:=am' hy316;clear hy316;by_cases c14:x14_1 < (y316.length:Int)
         ·
          rw[if_pos c14] at H;have c14b0:decide (x14_1 < (y316.length:Int))=true:=decide_eq_true c14;clear c14;obtain ⟨y319,hy319⟩:∃ y_:List Bool,y_=(y316.set (x14_1:Int).toNat false):=⟨_,rfl⟩
          replace H:((spec_loLeast.f k1 l0_0 y319 a0_2 false).bind fun t320=>(if t320 < 0 then (if x4_1.length < 17592186044416 then (spec_NeededRowers.l0 k1 (x4_1 ++ [x14_1]) l0_1 (l0_1.length:Int) (wrap64 (x14_1+1)) l0_0 l0_1 a0_2) else (none)) else (spec_NeededRowers.l0 k1 x4_1 l0_1 (l0_1.length:Int) (wrap64 (x14_1+1)) l0_0 l0_1 a0_2)))=some (r1,r2):=by first|(rw[hy319];with_reducible exact H)|(have H2_:=(Option.bind_some _ _).symm.trans H;rw[hy319];with_reducible exact H2_)|(have H2_:=(Option.bind_some _ _).symm.trans H;with_reducible exact H2_)|with_reducible exact H|(rw[hy319];exact H)|exact H
          have Ny319:=am' hy319;clear hy319;replace H:=Option.bind_eq_some_iff.mp H;obtain ⟨t320,A160,H⟩:=H;replace H:(if t320 < 0 then (if x4_1.length < 17592186044416 then (spec_NeededRowers.l0 k1 (x4_1 ++ [x14_1]) l0_1 (l0_1.length:Int) (wrap64 (x14_1+1)) l0_0 l0_1 a0_2) else (none)) else (spec_NeededRowers.l0 k1 x4_1 l0_1 (l0_1.length:Int) (wrap64 (x14_1+1)) l0_0 l0_1 a0_2))=some (r1,r2):=H;have A16:=am' A160;clear A160;by_cases c17:t320 < 0
          ·
           rw[if_pos c17] at H;have c17b0:decide (t320 < 0)=true:=decide_eq_true c17;clear c17;by_cases c18:x4_1.length < 17592186044416
           ·
            rw[if_pos c18] at H;have LMc18:=am' c18;clear c18;obtain ⟨y321,hy321⟩:∃ y_:List Int,y_=(x4_1 ++ [x14_1]):=⟨_,rfl⟩
            replace H:(spec_NeededRowers.l0 k1 y321 l0_1 (l0_1.length:Int) (wrap64 (x14_1+1)) l0_0 l0_1 a0_2)=some (r1,r2):=by first|(rw[hy321];with_reducible exact H)|(have H2_:=(Option.bind_some _ _).symm.trans H;rw[hy321];with_reducible exact H2_)|(have H2_:=(Option.bind_some _ _).symm.trans H;with_reducible exact H2_)|with_reducible exact H|(rw[hy321];exact H)|exact H
            have Ny321:=am' hy321;clear hy321;have H':=am' H;clear H;have p312:0≤(x14_1:Int):=of_decide_eq_true xa';have q312:x14_1 < (l0_1.length:Int):=of_decide_eq_true xa';obtain ⟨ad312,e312,hx312_0⟩:=Kd.at_bool HR0_1.out x14_1 p312 q312
            (try rw [← Nbq11.out] at hx312_0)
            cases e312
            replace hx312_0:=(HB.out.cell (bl' w _ hx312_0)).trans hx312_0;replace p312:=eq_true p312;replace q312:=eq_true q312;go_wp2_with (first|((with_reducible refine gate_dst (N:=21) rfl ?_);refine Kd.R_lit Kd.bool _ 4 ?hg (N:=21) ?hd (xs:=([]:List Bool)) (inner:=[]) (ok:=fun _=>True) (okp:=fun _=>True) ?hr ?hp (fun _ hk=>hk) trivial (Below.refl _ _) (Nat.le_refl _) (by simp) ?_;(case hd=>rfl);(case hg=>rfl);(case hr=>first|(go_simp;done)|(go_simp;rfl));(case hp=>exact (Reps.none _ _));intro v314 w19 ho20 hb hg_ hnew_;clear hg_ hnew_;(first|rw[← Ny313.out] at ho20|(simp only[Int.reduceToNat] at ho20;rw[← Ny313.out] at ho20));have n0_:=am' (Kd.R_below (kr' HO_4.out) hb);have n1_:=am' (Kd.R_lower ho20 (below_size (yb' GE310.out)));have n2_:=am' (blk_below (g:=gb310) (o := .cells #[.slice A0_0 l0_0.length c0_0, .slice (some ad312) l0_1.length c0_1, .int .i64 a0_2] 29 (0,0)) (kk' BK310.out) hb);have n3_:=am' (below_step (yb' GE310.out) hb);clear HO_4;clear BK310;clear HB;have HO_4:=n0_;have HO315:=n1_;have BK310:=n2_;have HB:=n3_;clear n0_ n1_ n2_ n3_;clear hb ho20;have hcz21_0:w19.cell? ⟨gb310,0,none⟩=some (.slice A0_0 l0_0.length c0_0):=(blk_cell BK310.out 0).trans rfl;have hcz21_1:w19.cell? ⟨gb310,1,none⟩=some (.slice (some ad312) l0_1.length c0_1):=(blk_cell BK310.out 1).trans rfl;have hcz21_2:w19.cell? ⟨gb310,2,none⟩=some (.int .i64 a0_2):=(blk_cell BK310.out 2).trans rfl;have hfz21_0:=blk_frozen BK310.out 0;have hfz21_1:=blk_frozen BK310.out 1;have hfz21_2:=blk_frozen BK310.out 2)|((with_reducible refine gate_builtin (b := .append) (xs:=#[.tmp 21, .tmp 23]) rfl ?_);at_builtin;refine Kd.R_append_rows Kd.bool (w0:=w) w.heap.size rfl (.tmp 21) (.tmp 23) 23 4 (.bool false) 1 rfl Try.underlying23 info4 rfl (by decide) (by omega) v314 y313 l0_1 _ _ _ (fun _=>True) (fun _=>False) rfl rfl ?aO ?aR (fun _ _ h=>h) (fun _ h=>h.elim) ?aF ?aB ?aS ?aL ?_;(case aR=>repeat (first|exact (Kd.C_below HR0_1.out HB.out)|(with_reducible refine ca' ?_ _)|(with_reducible refine cn' ?_ _)|(with_reducible refine cd' ?_)));(case aB=>exact (yb' GE310.out));(case aF=>exact (fun _ _=>trivial));(case aO=>exact (kr' HO315.out));(case aS=>exact (below_size (yb' GE310.out)));(case aL=>have:=LMc13.out;omega);intro v317 w22 ho hb hg hat;rw[← Ny316.out] at ho;have n0_:=am' (Kd.R_over' (kr' HO_4.out) (Kd.R_typed (kr' HO315.out)) (by decide) hg);have n1_:=am' (blk_grown (g:=gb310) (o := .cells #[.slice A0_0 l0_0.length c0_0, .slice (some ad312) l0_1.length c0_1, .int .i64 a0_2] 29 (0,0)) (kk' BK310.out) hg (Kd.R_ne HO315.out BK310.out (by decide)));have n2_:=am' (hb);have n3_:=am' (ho);clear HO_4;clear BK310;clear HB;clear HO315;have HO_4:=n0_;have BK310:=n1_;have HB:=n2_;have HO318:=n3_;clear n0_ n1_ n2_ n3_;clear ho hb hg hat;have p15:0≤(x14_1:Int):=of_decide_eq_true xa';have q15:(x14_1:Int) < ((y316.length:Int):Int):=of_decide_eq_true xa';obtain ⟨go15,co15,eo15,gb15,gl15,cl15,HG15⟩:=Kd.R_form HO318.out (by omega);(first|cases eo15|(injection eo15 with ea_ en_ ec_;(first|subst ea_|(injection ea_ with ea_;subst ea_));subst ec_;clear en_));have GB15:=am' gb15;have GG15:=am' HG15;clear gb15 gl15 HG15;obtain ⟨hx15_0,hf15_0⟩:=Kd.R_celln false HO318.out (x14_1:Int) p15 q15;replace p15:=eq_true p15;replace q15:=eq_true q15;obtain ⟨hy23_,hz23_⟩:=Kd.R_celln false HO318.out (x14_1:Int) (of_decide_eq_true xa') (of_decide_eq_true xa');have HP23:=Kd.R_putg HO318.out (x14_1:Int) false)|((with_reducible refine gate_store (t:=4) (p:=27) rfl ?_);refine store_event (t:=4) (p:=27) (v:=?vo_w24) (w1:=(w22.setCell ⟨go15,(x14_1:Int).toNat,none⟩ (.bool false))) ?hg ?ho ?hn ?hr ?_;(case ho=>rfl);(case hg=>rfl);(case hn=>rfl);(case hr=>first|(go_simp;done)|(go_simp;rfl));intro w24 hw;have hg:w22.grownBy w24 (some go15):=(by rw[hw];exact HP23.2);have hp_:Kd.R Kd.bool 4 w24 w.heap.size (fun _=>True) (.slice (some ⟨go15,0,none⟩) y316.length co15) y319:=(by rw[hw,Ny319.out];exact HP23.1);clear HP23;have n0_:=am' (Kd.R_over' (v:=(.slice (some ⟨go15,0,none⟩) y316.length co15)) (kr' HO_4.out) (Kd.R_typed HO318.out) (by decide) hg);have n1_:=am' (blk_grown (g:=gb310) (o := .cells #[.slice A0_0 l0_0.length c0_0, .slice (some ad312) l0_1.length c0_1, .int .i64 a0_2] 29 (0,0)) (kk' BK310.out) hg (Kd.R_ne HO318.out BK310.out (by decide)));have n2_:=am' (hp_);have n3_:=am' ((by rw[hw];exact bs' (HB.out) GB15.out:Below w.heap.size w w24));clear HO_4;clear BK310;clear HO318;clear HB;have HO_4:=n0_;have BK310:=n1_;have HO318:=n2_;have HB:=n3_;clear n0_ n1_ n2_ n3_;clear hg hw hp_;have hcz25_0:w24.cell? ⟨gb310,0,none⟩=some (.slice A0_0 l0_0.length c0_0):=(blk_cell BK310.out 0).trans rfl;have hcz25_1:w24.cell? ⟨gb310,1,none⟩=some (.slice (some ad312) l0_1.length c0_1):=(blk_cell BK310.out 1).trans rfl;have hcz25_2:w24.cell? ⟨gb310,2,none⟩=some (.int .i64 a0_2):=(blk_cell BK310.out 2).trans rfl;have hfz25_0:=blk_frozen BK310.out 0;have hfz25_1:=blk_frozen BK310.out 1;have hfz25_2:=blk_frozen BK310.out 2)|((with_reducible refine gate_callee (f:=75) rfl ?_);refine goesL_ (some 34) rfl rfl Try.func75 xk' rfl #[.agg #[.slice A0_0 l0_0.length c0_0, .slice (some ⟨go15,0,none⟩) y319.length co15, .int .i64 a0_2], .bool false] rfl (by (try simp only[List.map_toArray,List.map_cons,List.map_nil]);first|done|(rw[show y319.length=y316.length from (Kd.R_reads' HO318.out).1.symm] <;> rfl)|rfl|(simp only[List.length_drop,List.length_take];rfl)) ?_;(with_reducible refine (spec_loLeast.calls k1 _ _ l0_0 _ _ y319 a0_2 false t320 _ ?side1 ?side2 ?side3 ?side4 A16.out).mono ?_);(case side1=>repeat (first|exact (Kd.C_below HR0_0.out HB.out)|(with_reducible refine ca' ?_ _)|(with_reducible refine cn' ?_ _)|(with_reducible refine cd' ?_)));(case side2=>exact HC0_0.out);(case side3=>repeat (first|exact (Kd.R_reads' HO318.out).2.2|(with_reducible refine ca' ?_ _)|(with_reducible refine cn' ?_ _)|(with_reducible refine cd' ?_)));(case side4=>rw [show y319.length=y316.length from (Kd.R_reads' HO318.out).1.symm];exact (Kd.R_reads' HO318.out).2.1);rintro e w26 ⟨rfl,hb⟩;refine ⟨_,rfl,?_⟩;have n0_:=am' (Kd.R_below (kr' HO_4.out) hb);have n1_:=am' (Kd.R_below (kr' HO318.out) hb);have n2_:=am' (blk_below (g:=gb310) (o := .cells #[.slice A0_0 l0_0.length c0_0, .slice (some ad312) l0_1.length c0_1, .int .i64 a0_2] 29 (0,0)) (kk' BK310.out) hb);have n3_:=am' (below_step (yb' GE310.out) hb);clear HO_4;clear HO318;clear BK310;clear HB;have HO_4:=n0_;have HO318:=n1_;have BK310:=n2_;have HB:=n3_;clear n0_ n1_ n2_ n3_;(try clear hb);(try clear hb2);(try clear hk);(try clear hi))|((with_reducible refine gate_builtin (b := .append) (xs:=#[.tmp 36, .tmp 38]) rfl ?_);at_builtin;refine Kd.R_append (Kd.int .i64) (w0:=w) w.heap.size rfl (.tmp 36) (.tmp 38) 22 3 (.int .i64 0) 8 rfl Try.underlying22 info3 rfl (by decide) (by omega) u4 x4_1 x14_1 [.int .i64 x14_1] (fun _=>True) (fun _=>False) rfl rfl ?aP (fun _ hk=>hk.elim) ?aF ?aO ?aB ?aS ?aL ?_;(case aP=>exact rfl);(case aB=>exact (yb' GE310.out));(case aF=>exact (fun _ _=>trivial));(case aO=>exact (kr' HO_4.out));(case aS=>exact (below_size (yb' GE310.out)));(case aL=>have:=LMc18.out;omega);intro v322 w27 ho hb hg hat;rw[← Ny321.out] at ho;have n0_:=am' (blk_grown (g:=gb310) (o := .cells #[.slice A0_0 l0_0.length c0_0, .slice (some ad312) l0_1.length c0_1, .int .i64 a0_2] 29 (0,0)) (kk' BK310.out) hg (Kd.R_ne HO_4.out BK310.out (by decide)));have n1_:=am' (Kd.R_over' (kr' HO318.out) (Kd.R_typed (kr' HO_4.out)) (by decide) hg);have n2_:=am' (hb);have n3_:=am' (ho);clear BK310;clear HO318;clear HB;clear HO_4;have BK310:=n0_;have HO318:=n1_;have HB:=n2_;have HO323:=n3_;clear n0_ n1_ n2_ n3_;clear ho hb hg hat))
            go_roundg k1
            case measure=>have:=HK1.out;omega
            case rel=>exact ⟨(y321),(wrap64 (x14_1+1)),xs',H',⟨by have:=HK1.out;omega⟩,⟨by (with_reducible repeat (first|apply ra'|apply rn'|apply rw'));exact HO323.out⟩,⟨by (with_reducible repeat (first|refine kn' ?_ _|refine kd' ?_|refine ka' ?_ _));exact BK310.out⟩,⟨by repeat (first|(with_reducible first|exact HB.out|apply ba'|apply bd'|apply be'|refine bs' ?_ GE310.out)|exact HB.out)⟩⟩
           ·
            rw[if_neg c18] at H;exact absurd H (by simp)
          ·
           rw[if_neg c17] at H;have c17b0:decide (t320 < 0)=false:=decide_eq_false c17;clear c17;have H':=am' H;clear H;have p312:0≤(x14_1:Int):=of_decide_eq_true xa';have q312:x14_1 < (l0_1.length:Int):=of_decide_eq_true xa';obtain ⟨ad312,e312,hx312_0⟩:=Kd.at_bool HR0_1.out x14_1 p312 q312
           (try rw [← Nbq11.out] at hx312_0)
           cases e312
           replace hx312_0:=(HB.out.cell (bl' w _ hx312_0)).trans hx312_0;replace p312:=eq_true p312;replace q312:=eq_true q312;go_wp2_with (first|((with_reducible refine gate_dst (N:=21) rfl ?_);refine Kd.R_lit Kd.bool _ 4 ?hg (N:=21) ?hd (xs:=([]:List Bool)) (inner:=[]) (ok:=fun _=>True) (okp:=fun _=>True) ?hr ?hp (fun _ hk=>hk) trivial (Below.refl _ _) (Nat.le_refl _) (by simp) ?_;(case hd=>rfl);(case hg=>rfl);(case hr=>first|(go_simp;done)|(go_simp;rfl));(case hp=>exact (Reps.none _ _));intro v314 w28 ho29 hb hg_ hnew_;clear hg_ hnew_;(first|rw[← Ny313.out] at ho29|(simp only[Int.reduceToNat] at ho29;rw[← Ny313.out] at ho29));have n0_:=am' (Kd.R_below (kr' HO_4.out) hb);have n1_:=am' (Kd.R_lower ho29 (below_size (yb' GE310.out)));have n2_:=am' (blk_below (g:=gb310) (o := .cells #[.slice A0_0 l0_0.length c0_0, .slice (some ad312) l0_1.length c0_1, .int .i64 a0_2] 29 (0,0)) (kk' BK310.out) hb);have n3_:=am' (below_step (yb' GE310.out) hb);clear HO_4;clear BK310;clear HB;have HO_4:=n0_;have HO315:=n1_;have BK310:=n2_;have HB:=n3_;clear n0_ n1_ n2_ n3_;clear hb ho29;have hcz30_0:w28.cell? ⟨gb310,0,none⟩=some (.slice A0_0 l0_0.length c0_0):=(blk_cell BK310.out 0).trans rfl;have hcz30_1:w28.cell? ⟨gb310,1,none⟩=some (.slice (some ad312) l0_1.length c0_1):=(blk_cell BK310.out 1).trans rfl;have hcz30_2:w28.cell? ⟨gb310,2,none⟩=some (.int .i64 a0_2):=(blk_cell BK310.out 2).trans rfl;have hfz30_0:=blk_frozen BK310.out 0;have hfz30_1:=blk_frozen BK310.out 1;have hfz30_2:=blk_frozen BK310.out 2)|((with_reducible refine gate_builtin (b := .append) (xs:=#[.tmp 21, .tmp 23]) rfl ?_);at_builtin;refine Kd.R_append_rows Kd.bool (w0:=w) w.heap.size rfl (.tmp 21) (.tmp 23) 23 4 (.bool false) 1 rfl Try.underlying23 info4 rfl (by decide) (by omega) v314 y313 l0_1 _ _ _ (fun _=>True) (fun _=>False) rfl rfl ?aO ?aR (fun _ _ h=>h) (fun _ h=>h.elim) ?aF ?aB ?aS ?aL ?_;(case aR=>repeat (first|exact (Kd.C_below HR0_1.out HB.out)|(with_reducible refine ca' ?_ _)|(with_reducible refine cn' ?_ _)|(with_reducible refine cd' ?_)));(case aB=>exact (yb' GE310.out));(case aF=>exact (fun _ _=>trivial));(case aO=>exact (kr' HO315.out));(case aS=>exact (below_size (yb' GE310.out)));(case aL=>have:=LMc13.out;omega);intro v317 w31 ho hb hg hat;rw[← Ny316.out] at ho;have n0_:=am' (Kd.R_over' (kr' HO_4.out) (Kd.R_typed (kr' HO315.out)) (by decide) hg);have n1_:=am' (blk_grown (g:=gb310) (o := .cells #[.slice A0_0 l0_0.length c0_0, .slice (some ad312) l0_1.length c0_1, .int .i64 a0_2] 29 (0,0)) (kk' BK310.out) hg (Kd.R_ne HO315.out BK310.out (by decide)));have n2_:=am' (hb);have n3_:=am' (ho);clear HO_4;clear BK310;clear HB;clear HO315;have HO_4:=n0_;have BK310:=n1_;have HB:=n2_;have HO318:=n3_;clear n0_ n1_ n2_ n3_;clear ho hb hg hat;have p15:0≤(x14_1:Int):=of_decide_eq_true xa';have q15:(x14_1:Int) < ((y316.length:Int):Int):=of_decide_eq_true xa';obtain ⟨go15,co15,eo15,gb15,gl15,cl15,HG15⟩:=Kd.R_form HO318.out (by omega);(first|cases eo15|(injection eo15 with ea_ en_ ec_;(first|subst ea_|(injection ea_ with ea_;subst ea_));subst ec_;clear en_));have GB15:=am' gb15;have GG15:=am' HG15;clear gb15 gl15 HG15;obtain ⟨hx15_0,hf15_0⟩:=Kd.R_celln false HO318.out (x14_1:Int) p15 q15;replace p15:=eq_true p15;replace q15:=eq_true q15;obtain ⟨hy32_,hz32_⟩:=Kd.R_celln false HO318.out (x14_1:Int) (of_decide_eq_true xa') (of_decide_eq_true xa');have HP32:=Kd.R_putg HO318.out (x14_1:Int) false)|((with_reducible refine gate_store (t:=4) (p:=27) rfl ?_);refine store_event (t:=4) (p:=27) (v:=?vo_w33) (w1:=(w31.setCell ⟨go15,(x14_1:Int).toNat,none⟩ (.bool false))) ?hg ?ho ?hn ?hr ?_;(case ho=>rfl);(case hg=>rfl);(case hn=>rfl);(case hr=>first|(go_simp;done)|(go_simp;rfl));intro w33 hw;have hg:w31.grownBy w33 (some go15):=(by rw[hw];exact HP32.2);have hp_:Kd.R Kd.bool 4 w33 w.heap.size (fun _=>True) (.slice (some ⟨go15,0,none⟩) y316.length co15) y319:=(by rw[hw,Ny319.out];exact HP32.1);clear HP32;have n0_:=am' (Kd.R_over' (v:=(.slice (some ⟨go15,0,none⟩) y316.length co15)) (kr' HO_4.out) (Kd.R_typed HO318.out) (by decide) hg);have n1_:=am' (blk_grown (g:=gb310) (o := .cells #[.slice A0_0 l0_0.length c0_0, .slice (some ad312) l0_1.length c0_1, .int .i64 a0_2] 29 (0,0)) (kk' BK310.out) hg (Kd.R_ne HO318.out BK310.out (by decide)));have n2_:=am' (hp_);have n3_:=am' ((by rw[hw];exact bs' (HB.out) GB15.out:Below w.heap.size w w33));clear HO_4;clear BK310;clear HO318;clear HB;have HO_4:=n0_;have BK310:=n1_;have HO318:=n2_;have HB:=n3_;clear n0_ n1_ n2_ n3_;clear hg hw hp_;have hcz34_0:w33.cell? ⟨gb310,0,none⟩=some (.slice A0_0 l0_0.length c0_0):=(blk_cell BK310.out 0).trans rfl;have hcz34_1:w33.cell? ⟨gb310,1,none⟩=some (.slice (some ad312) l0_1.length c0_1):=(blk_cell BK310.out 1).trans rfl;have hcz34_2:w33.cell? ⟨gb310,2,none⟩=some (.int .i64 a0_2):=(blk_cell BK310.out 2).trans rfl;have hfz34_0:=blk_frozen BK310.out 0;have hfz34_1:=blk_frozen BK310.out 1;have hfz34_2:=blk_frozen BK310.out 2)|((with_reducible refine gate_callee (f:=75) rfl ?_);refine goesL_ (some 34) rfl rfl Try.func75 xk' rfl #[.agg #[.slice A0_0 l0_0.length c0_0, .slice (some ⟨go15,0,none⟩) y319.length co15, .int .i64 a0_2], .bool false] rfl (by (try simp only[List.map_toArray,List.map_cons,List.map_nil]);first|done|(rw[show y319.length=y316.length from (Kd.R_reads' HO318.out).1.symm] <;> rfl)|rfl|(simp only[List.length_drop,List.length_take];rfl)) ?_;(with_reducible refine (spec_loLeast.calls k1 _ _ l0_0 _ _ y319 a0_2 false t320 _ ?side1 ?side2 ?side3 ?side4 A16.out).mono ?_);(case side1=>repeat (first|exact (Kd.C_below HR0_0.out HB.out)|(with_reducible refine ca' ?_ _)|(with_reducible refine cn' ?_ _)|(with_reducible refine cd' ?_)));(case side2=>exact HC0_0.out);(case side3=>repeat (first|exact (Kd.R_reads' HO318.out).2.2|(with_reducible refine ca' ?_ _)|(with_reducible refine cn' ?_ _)|(with_reducible refine cd' ?_)));(case side4=>rw [show y319.length=y316.length from (Kd.R_reads' HO318.out).1.symm];exact (Kd.R_reads' HO318.out).2.1);rintro e w35 ⟨rfl,hb⟩;refine ⟨_,rfl,?_⟩;have n0_:=am' (Kd.R_below (kr' HO_4.out) hb);have n1_:=am' (Kd.R_below (kr' HO318.out) hb);have n2_:=am' (blk_below (g:=gb310) (o := .cells #[.slice A0_0 l0_0.length c0_0, .slice (some ad312) l0_1.length c0_1, .int .i64 a0_2] 29 (0,0)) (kk' BK310.out) hb);have n3_:=am' (below_step (yb' GE310.out) hb);clear HO_4;clear HO318;clear BK310;clear HB;have HO_4:=n0_;have HO318:=n1_;have BK310:=n2_;have HB:=n3_;clear n0_ n1_ n2_ n3_;(try clear hb);(try clear hb2);(try clear hk);(try clear hi)))
           go_roundg k1
           case measure=>have:=HK1.out;omega
           case rel=>exact ⟨(x4_1),(wrap64 (x14_1+1)),xs',H',⟨by have:=HK1.out;omega⟩,⟨by (with_reducible repeat (first|apply ra'|apply rn'|apply rw'));exact HO_4.out⟩,⟨by (with_reducible repeat (first|refine kn' ?_ _|refine kd' ?_|refine ka' ?_ _));exact BK310.out⟩,⟨by repeat (first|(with_reducible first|exact HB.out|apply ba'|apply bd'|apply be'|refine bs' ?_ GE310.out)|exact HB.out)⟩⟩
         ·
          rw[if_neg c14] at H;exact absurd H (by simp)
        ·
         rw[if_neg c13] at H;exact absurd H (by simp)
       ·
        replace c12:=Bool.eq_false_iff.mpr c12;subst c12;have H1:(spec_NeededRowers.l0 k1 x4_1 l0_1 (l0_1.length:Int) (wrap64 (x14_1+1)) l0_0 l0_1 a0_2)=some (r1,r2):=by rw[if_neg (show ¬ (false=true) by decide)] at H;exact H
        clear H;have H:=H1;clear H1;have H':=am' H;clear H;have p312:0≤(x14_1:Int):=of_decide_eq_true xa';have q312:x14_1 < (l0_1.length:Int):=of_decide_eq_true xa';obtain ⟨ad312,e312,hx312_0⟩:=Kd.at_bool HR0_1.out x14_1 p312 q312
        (try rw [← Nbq11.out] at hx312_0)
        cases e312
        replace hx312_0:=(HB.out.cell (bl' w _ hx312_0)).trans hx312_0;replace p312:=eq_true p312;replace q312:=eq_true q312;go_wp2;go_roundg k1
        case measure=>have:=HK1.out;omega
        case rel=>exact ⟨(x4_1),(wrap64 (x14_1+1)),xs',H',⟨by have:=HK1.out;omega⟩,⟨by (with_reducible repeat (first|apply ra'|apply rn'|apply rw'));exact HO_4.out⟩,⟨by (with_reducible repeat (first|refine kn' ?_ _|refine kd' ?_|refine ka' ?_ _));exact BK310.out⟩,⟨by repeat (first|(with_reducible first|exact HB.out|apply ba'|apply bd'|apply be'|refine bs' ?_ GE310.out)|exact HB.out)⟩⟩
      ·
       rw[if_neg c10] at H;exact absurd H (by simp)
     ·
      rw[if_neg c9] at H;exact absurd H (by simp)
    ·
     rw[if_neg c8] at H;have c8b0:decide (x14_1 < (l0_1.length:Int))=false:=decide_eq_false c8;clear c8;simp only[Option.some.injEq,Prod.mk.injEq] at H;obtain ⟨rfl,rfl⟩:=H;go_wp2;go_ret2
     exact ⟨_,by first|rfl|(simp[errW_none,errW_some] <;> rfl)|(simp[*,errW_none,errW_some] <;> rfl),by (with_reducible repeat (first|apply ra'|apply rn'|apply rw'));exact HO_4.out,by repeat (first|(with_reducible first|exact HB.out|apply ba'|apply bd'|apply be'|refine bs' ?_ GE310.out)|exact HB.out)⟩
 ·
  replace c3:=Bool.eq_false_iff.mpr c3;subst c3;have H1:(some (([]:List Int),false))=some (r1,r2):=by rw[if_neg (show ¬ (false=true) by decide)] at H;exact H
  clear H;have H:=H1;clear H1;simp only[Option.some.injEq,Prod.mk.injEq] at H;obtain ⟨rfl,rfl⟩:=H;go_enter Try.func37,Try.ntmps37;go_wp2_with (first|((with_reducible refine gate_dst (N:=1) rfl ?_);refine box_event ?hg (N:=1) ?hd (cs:=#[.slice A0_0 l0_0.length c0_0, .slice A0_1 l0_1.length c0_1, .int .i64 a0_2]) (t:=29) ?hr ?_;(case hd=>rfl);(case hg=>rfl);(case hr=>first|(go_simp;done)|(go_simp;rfl));intro gb310 hg w36 hbox hb;have n0_:=am' (below_step xb' hb);have n1_:=am' (hbox);have n2_:=am' ((by rw[hg];exact (below_size xb'):w.heap.size≤gb310));have n3_:=am' ((by rw[hg];exact (below_size xb'):w.heap.size≤gb310));clear HB;have HB:=n0_;have BK310:=n1_;have GW310:=n2_;have GE310:=n3_;clear n0_ n1_ n2_ n3_;clear hb hbox hg;have hcz37_0:w36.cell? ⟨gb310,0,none⟩=some (.slice A0_0 l0_0.length c0_0):=(blk_cell BK310.out 0).trans rfl;have hcz37_1:w36.cell? ⟨gb310,1,none⟩=some (.slice A0_1 l0_1.length c0_1):=(blk_cell BK310.out 1).trans rfl;have hcz37_2:w36.cell? ⟨gb310,2,none⟩=some (.int .i64 a0_2):=(blk_cell BK310.out 2).trans rfl;have hfz37_0:=blk_frozen BK310.out 0;have hfz37_1:=blk_frozen BK310.out 1;have hfz37_2:=blk_frozen BK310.out 2)|((with_reducible refine gate_callee (f:=50) rfl ?_);refine goesL_ (some 9) rfl rfl Try.func50 xk' rfl #[.agg #[.slice A0_0 l0_0.length c0_0, .slice A0_1 l0_1.length c0_1, .int .i64 a0_2]] rfl xl' ?_;(with_reducible refine (spec_loGood.calls k _ _ l0_0 _ _ l0_1 a0_2 false _ ?side1 ?side2 ?side3 ?side4 A2.out).mono ?_);(case side1=>repeat (first|exact (Kd.C_below HR0_0.out HB.out)|(with_reducible refine ca' ?_ _)|(with_reducible refine cn' ?_ _)|(with_reducible refine cd' ?_)));(case side2=>exact HC0_0.out);(case side3=>repeat (first|exact (Kd.C_below HR0_1.out HB.out)|(with_reducible refine ca' ?_ _)|(with_reducible refine cn' ?_ _)|(with_reducible refine cd' ?_)));(case side4=>exact HC0_1.out);rintro e w38 ⟨rfl,hb⟩;refine ⟨_,rfl,?_⟩;have n0_:=am' (blk_below (g:=gb310) (o := .cells #[.slice A0_0 l0_0.length c0_0, .slice A0_1 l0_1.length c0_1, .int .i64 a0_2] 29 (0,0)) (kk' BK310.out) hb);have n1_:=am' (below_step (yb' GE310.out) hb);clear BK310;clear HB;have BK310:=n0_;have HB:=n1_;clear n0_ n1_;(try clear hb);(try clear hb2);(try clear hk);(try clear hi)))
  go_ret2
  exact ⟨_,by first|rfl|(simp[errW_none,errW_some] <;> rfl)|(simp[*,errW_none,errW_some] <;> rfl),by first|exact Kd.R_nil _ _ _ _ _|exact Kd.N_nil _ _ _ _ _|exact Kd.V_nil _ _ _ _ _|exact Kd.Q_nil _ _ _ _ _|exact Kd.S_nil _ _ _ _ _,by repeat (first|(with_reducible first|exact HB.out|apply ba'|apply bd'|apply be'|refine bs' ?_ GE310.out)|exact HB.out)⟩
def impl_in.f (a0:Int) (a1:Int) (a2:Int):Option (Bool):=if a1≤a0 then (some (decide (a0≤a2))) else (some false)
set_option maxHeartbeats 8000000 in
set_option maxRecDepth 100000 in
theorem impl_in.calls (a0:Int) (a1:Int) (a2:Int) (r:Bool) (w:World) (h:impl_in.f a0 a1 a2=some r) :
  Calls Try.prog 90 #[.int .i64 a0, .int .i64 a1, .int .i64 a2] w fun e w'=>e = .returned (.bool r)∧Drawn0 w w':=by
 have H:(if a1≤a0 then (some (decide (a0≤a2))) else (some false))=some r:=h
 clear h;by_cases c4:a1≤a0
 ·
  rw[if_pos c4] at H;have c4b0:decide (a1≤a0)=true:=decide_eq_true c4;clear c4;obtain rfl:=Option.some.inj H;go_enter Try.func90,Try.ntmps90;go_wp2;go_ret
  exact ⟨by first|rfl|(simp;done)|(simp[*];done),by repeat (first|exact Drawn0.refl _|apply Drawn0.step)⟩
 ·
  rw[if_neg c4] at H;have c4b0:decide (a1≤a0)=false:=decide_eq_false c4;clear c4;obtain rfl:=Option.some.inj H;go_enter Try.func90,Try.ntmps90;go_wp2;go_ret
  exact ⟨by first|rfl|(simp;done)|(simp[*];done),by repeat (first|exact Drawn0.refl _|apply Drawn0.step)⟩
def PredOn (g:Nat) (lb:Array Value) (p:Int→Bool) (xs:List Int) (w:World):Prop :=
 ∀ x,x ∈ xs→∀ W:World,Below w.heap.size w W→Calls Try.prog g (#[.int .i64 x] ++ lb) W fun e w'=>e = .returned (.bool (p x))∧Below W.heap.size W w'
set_option maxHeartbeats 2000000 in
set_option maxRecDepth 100000 in
theorem IndexFunc_any (g:Nat) (lb:Array Value) (p:Int→Bool) (eg:∀ args w,(callFunc g args).run Try.prog w = .ok (.enter g args) w) (A0:Option Addr) (c0:Nat) (xs:List Int) (w:World) (hr:Kd.C (Kd.int .i64) w A0 xs.length xs) (hl:xs.length≤c0) (hbig:xs.length≤9223372036854775807)
  (hp:PredOn g lb p xs w) :
  Calls Try.prog 121 #[.slice A0 xs.length c0, .func (.func g) #[] lb] w fun e w'=>e = .returned (.int .i64 (idxF p xs))∧Below w.heap.size w w':=by
 have HP:=am' hp
 have HR:=am' hr
 clear hp hr;go_enter Try.func121,Try.ntmps121
 go_wp2
 go_loopg [5,8] xs.length (fun gg _ s8 wr=>∃ kk:Nat,kk≤xs.length∧xs.length - kk≤gg∧s8 = .int .i64 kk∧Aside0 (Below w.heap.size w wr)∧Aside0 (∀ j,j < kk→p (rd xs (j:Nat))=false))
 case atStart=>exact ⟨0,Nat.zero_le _,by omega,rfl,⟨Below.refl _ w⟩,⟨fun j hj=>absurd hj (Nat.not_lt_zero _)⟩⟩
 case round =>
  obtain ⟨kk,hkk,hg,rfl,BW,AA⟩:=hrel;by_cases hlt:kk < xs.length
  ·
   have hltz:(kk:Int) < (xs.length:Int):=by omega
   obtain ⟨ad,e0,hx0⟩:=Kd.at_int HR.out (kk:Int) (by omega) hltz;cases e0;have hx:=(BW.out.cell (bl' w _ hx0)).trans hx0;clear hx0;rw[Int.toNat_natCast] at hx;have hcall:=HP.out (rd xs kk) (rd_mem xs kk hlt) wr BW.out;generalize hy:rd xs kk=y at hx hcall
   have B:Aside0 (rd xs kk=y):=⟨hy⟩
   clear hy;cases hq:p y with
   | true =>
    rw[hq] at hcall;go_wp2_with fail;refine hcall.mono ?_
    rintro e w' ⟨rfl,hb'⟩
    clear hcall hx;go_wp2;go_ret
    refine ⟨?_,below_step BW.out hb'⟩;rw[idxF_hit p xs kk hlt (by rw[B.out];exact hq) AA.out];rfl
   | false =>
    rw[hq] at hcall;go_wp2_with fail;refine hcall.mono ?_
    rintro e w' ⟨rfl,hb'⟩
    clear hcall hx;go_wp2;go_roundg (xs.length - (kk+1))
    case measure=>omega
    case rel =>
     refine ⟨kk+1,by omega,by omega,by go_num,⟨below_step BW.out hb'⟩,⟨fun j hj=>?_⟩⟩;by_cases e:j=kk
     ·
      subst e;rw[B.out];exact hq
     ·
      exact AA.out j (by omega)
  ·
   have hltz:¬ (kk:Int) < (xs.length:Int):=by omega
   have:kk=xs.length:=by omega
   subst this;go_wp2;go_ret
   refine ⟨?_,BW.out⟩;rw[idxF_miss p xs AA.out];rfl
set_option maxHeartbeats 2000000 in
set_option maxRecDepth 100000 in
theorem ContainsFunc_any (g:Nat) (lb:Array Value) (p:Int→Bool) (eg:∀ args w,(callFunc g args).run Try.prog w = .ok (.enter g args) w) (A0:Option Addr) (c0:Nat) (xs:List Int) (w:World) (hr:Kd.C (Kd.int .i64) w A0 xs.length xs) (hl:xs.length≤c0) (hbig:xs.length≤9223372036854775807)
  (hp:PredOn g lb p xs w) :
  Calls Try.prog 111 #[.slice A0 xs.length c0, .func (.func g) #[] lb] w fun e w'=>e = .returned (.bool (xs.any p))∧Below w.heap.size w w':=by
 have HH:=am' (IndexFunc_any g lb p eg A0 c0 xs w hr hl hbig hp)
 clear hr hl hp;go_enter Try.func111,Try.ntmps111
 go_wp2_with (go_at_call 121;refine HH.out.mono ?_;rintro e w' ⟨rfl,hb⟩)
 go_ret
 refine ⟨?_,hb⟩
 rw[← idxF_any]
 rfl
theorem in_calls (x lo hi:Int) (w:World):Calls Try.prog 90 #[.int .i64 x, .int .i64 lo, .int .i64 hi] w fun e w'=>e = .returned (.bool (inB lo hi x))∧Below w.heap.size w w' :=
 (impl_in.calls x lo hi (inB lo hi x) w (by unfold impl_in.f inB;by_cases h:lo≤x <;> simp [h])).mono fun e w' ⟨he,hd⟩=>⟨he,hd.below⟩
theorem areIn1_calls (x lo hi:Int) (b1 b2:Nat) (w:World) (h1:w.cell? ⟨b1,0,none⟩=some (.int .i64 lo)) (h2:w.cell? ⟨b2,0,none⟩=some (.int .i64 hi)) :
  Calls Try.prog 112 #[.int .i64 x, .pointer (some ⟨b1,0,none⟩), .pointer (some ⟨b2,0,none⟩)] w fun e w'=>e = .returned (.bool (!inB lo hi x))∧Below w.heap.size w w':=by
 go_enter Try.func112,Try.ntmps112
 go_wp2_with (go_at_call 90;refine (in_calls _ _ _ _).mono ?_;rintro e w' ⟨rfl,hb⟩)
 go_ret
 exact ⟨rfl,hb⟩
theorem areIn_pred (lo hi:Int) (b1 b2:Nat) (xs:List Int) (w:World) (h1:w.cell? ⟨b1,0,none⟩=some (.int .i64 lo)) (h2:w.cell? ⟨b2,0,none⟩=some (.int .i64 hi)) :
  PredOn 112 #[.pointer (some ⟨b1,0,none⟩), .pointer (some ⟨b2,0,none⟩)] (fun x => !inB lo hi x) xs w:=fun x _ W hb =>
 areIn1_calls x lo hi b1 b2 W ((hb.cell (bl' w _ h1)).trans h1) ((hb.cell (bl' w _ h2)).trans h2)
def impl_areIn.f (l0:List Int) (a1 a2 a3 a4:Int):Option Bool:=some (inB a3 a4 (l0.length:Int) && l0.all (inB a1 a2))
set_option maxHeartbeats 2000000 in
set_option maxRecDepth 100000 in
theorem impl_areIn.calls (A0:Option Addr) (c0:Nat) (l0:List Int) (a1 a2 a3 a4:Int) (r:Bool) (w:World) (hr0:Kd.C (Kd.int .i64) w A0 l0.length l0) (hc0:l0.length≤c0) (h:impl_areIn.f l0 a1 a2 a3 a4=some r) :
  Calls Try.prog 89 #[.slice A0 l0.length c0, .int .i64 a1, .int .i64 a2, .int .i64 a3, .int .i64 a4] w fun e w'=>e = .returned (.bool r)∧Below w.heap.size w w':=by
 have hbig:l0.length≤9223372036854775807:=hr0.2.1
 have HC:=am' (fun (w1:World) (h1:Below w.heap.size w w1) (b1 b2:Nat) (e1:w1.cell? ⟨b1,0,none⟩=some (.int .i64 a1)) (e2:w1.cell? ⟨b2,0,none⟩=some (.int .i64 a2)) =>
  ContainsFunc_any 112 #[.pointer (some ⟨b1,0,none⟩), .pointer (some ⟨b2,0,none⟩)] (fun x => !inB a1 a2 x) (enters_of Try.func112 xk' rfl) A0 c0 l0 w1 (Kd.C_below hr0 h1) hc0 hbig (areIn_pred a1 a2 b1 b2 l0 w1 e1 e2))
 clear hr0;cases hi:inB a3 a4 (l0.length:Int) with
 | false =>
  obtain rfl:false=r:=by unfold impl_areIn.f at h;simpa [hi] using h
  clear h;go_enter Try.func89,Try.ntmps89;go_wp2_with (go_at_call 90;refine (in_calls _ _ _ _).mono ?_;rintro e w' ⟨rfl,hb⟩);go_ret
  exact ⟨rfl,(after_alloc (after_alloc hb).1).1⟩
 | true =>
  obtain rfl:l0.all (inB a1 a2)=r:=by unfold impl_areIn.f at h;simpa [hi] using h
  clear h;go_enter Try.func89,Try.ntmps89;go_wp2_with (go_at_call 90;refine (in_calls _ _ _ _).mono ?_;rintro e w' ⟨rfl,hb⟩);have h2:=after_alloc hb;have h1:=after_alloc h2.1;rw[World.size_alloc] at h2;refine (HC.out w' h1.1 _ _ ((blk_cell h1.2 0).trans rfl) ((blk_cell h2.2 0).trans rfl)).mono ?_
  rintro e w2 ⟨rfl,hb2⟩
  clear hb h2;have HB2:=am' (below_step h1.1 hb2);clear h1 hb2;go_wp2;go_ret
  refine ⟨?_,HB2.out⟩;rw[← any_not_all];rfl
def impl_IsCrew.f (l0_0:List Int) (l0_1:List Bool) (a0_2:Int):Option (Bool):=(impl_areIn.f l0_0 1 500 1 7).bind fun t325=>(if t325=true then (if (l0_1.length:Int)=(l0_0.length:Int) then ((impl_in.f a0_2 0 2000).bind fun t326=>(some t326)) else (some false)) else (some false))
set_option maxHeartbeats 8000000 in
set_option maxRecDepth 100000 in
theorem impl_IsCrew.calls (A0_0:Option Addr) (c0_0:Nat) (l0_0:List Int) (A0_1:Option Addr) (c0_1:Nat) (l0_1:List Bool) (a0_2:Int) (r:Bool) (w:World) (hr0_0:Kd.C (Kd.int .i64) w A0_0 l0_0.length l0_0) (hc0_0:l0_0.length≤c0_0) (hr0_1:Kd.C Kd.bool w A0_1 l0_1.length l0_1) (hc0_1:l0_1.length≤c0_1) (h:impl_IsCrew.f l0_0 l0_1 a0_2=some r) :
  Calls Try.prog 54 #[.agg #[.slice A0_0 l0_0.length c0_0, .slice A0_1 l0_1.length c0_1, .int .i64 a0_2]] w fun e w'=>e = .returned (.bool r)∧Below w.heap.size w w':=by
 have hu29:=Try.underlying29
 have HR0_0:=am' hr0_0
 have HC0_0:=am' hc0_0
 clear hr0_0 hc0_0;have HR0_1:=am' hr0_1
 have HC0_1:=am' hc0_1
 clear hr0_1 hc0_1;have HB:=am' (Below.refl w.heap.size w)
 have H:((impl_areIn.f l0_0 1 500 1 7).bind fun t325=>(if t325=true then (if (l0_1.length:Int)=(l0_0.length:Int) then ((impl_in.f a0_2 0 2000).bind fun t326=>(some t326)) else (some false)) else (some false)))=some r:=h
 clear h;replace H:=Option.bind_eq_some_iff.mp H
 obtain ⟨t325,A20,H⟩:=H
 replace H:(if t325=true then (if (l0_1.length:Int)=(l0_0.length:Int) then ((impl_in.f a0_2 0 2000).bind fun t326=>(some t326)) else (some false)) else (some false))=some r:=H
 have A2:=am' A20
 clear A20;by_cases c3:t325=true
 ·
  subst c3;have H1:(if (l0_1.length:Int)=(l0_0.length:Int) then ((impl_in.f a0_2 0 2000).bind fun t326=>(some t326)) else (some false))=some r:=by rw[if_pos rfl] at H;exact H
  clear H;have H:=H1;clear H1;by_cases c4:(l0_1.length:Int)=(l0_0.length:Int)
  ·
   rw[if_pos c4] at H;have c4b0:((l0_1.length:Int) == (l0_0.length:Int))=true:=beq_iff_eq.mpr c4;have c4b1:((l0_1.length:Int) != (l0_0.length:Int))=false:=bne_eq_false_iff_eq.mpr c4;have c4b2:(l0_1.length == l0_0.length)=true:=by first|simpa using c4|(simp at c4 ⊢;omega)
   clear c4;replace H:=Option.bind_eq_some_iff.mp H;obtain ⟨t326,A50,H⟩:=H;replace H:(some t326)=some r:=H;have A5:=am' A50;clear A50;obtain rfl:=Option.some.inj H;go_enter Try.func54,Try.ntmps54;go_wp2_with (first|((with_reducible refine gate_dst (N:=1) rfl ?_);(try (refine gate_guard (by rfl) ?_;dsimp only));refine box_event ?hg (N:=1) ?hd (cs:=#[.slice A0_0 l0_0.length c0_0, .slice A0_1 l0_1.length c0_1, .int .i64 a0_2]) (t:=29) ?hr ?_;(case hd=>rfl);(case hg=>rfl);(case hr=>first|(go_simp;done)|(go_simp;rfl));intro gb324 hg w6 hbox hb;have n0_:=am' (below_step xb' hb);have n1_:=am' (hbox);have n2_:=am' ((by rw[hg];exact (below_size xb'):w.heap.size≤gb324));have n3_:=am' ((by rw[hg];exact (below_size xb'):w.heap.size≤gb324));clear HB;have HB:=n0_;have BK324:=n1_;have GW324:=n2_;have GE324:=n3_;clear n0_ n1_ n2_ n3_;clear hb hbox hg;have hcz7_0:w6.cell? ⟨gb324,0,none⟩=some (.slice A0_0 l0_0.length c0_0):=(blk_cell BK324.out 0).trans rfl;have hcz7_1:w6.cell? ⟨gb324,1,none⟩=some (.slice A0_1 l0_1.length c0_1):=(blk_cell BK324.out 1).trans rfl;have hcz7_2:w6.cell? ⟨gb324,2,none⟩=some (.int .i64 a0_2):=(blk_cell BK324.out 2).trans rfl;have hfz7_0:=blk_frozen BK324.out 0;have hfz7_1:=blk_frozen BK324.out 1;have hfz7_2:=blk_frozen BK324.out 2)|((with_reducible refine gate_callee (f:=89) rfl ?_);refine goesL_ (some 5) rfl rfl Try.func89 xk' rfl #[.slice A0_0 l0_0.length c0_0, .int .i64 1, .int .i64 500, .int .i64 1, .int .i64 7] rfl xl' ?_;(with_reducible refine (impl_areIn.calls _ _ l0_0 1 500 1 7 true _ ?side1 ?side2 A2.out).mono ?_);(case side1=>repeat (first|exact (Kd.C_below HR0_0.out HB.out)|(with_reducible refine ca' ?_ _)|(with_reducible refine cn' ?_ _)|(with_reducible refine cd' ?_)));(case side2=>exact HC0_0.out);rintro e w8 ⟨rfl,hb⟩;refine ⟨_,rfl,?_⟩;have n0_:=am' (blk_below (g:=gb324) (o := .cells #[.slice A0_0 l0_0.length c0_0, .slice A0_1 l0_1.length c0_1, .int .i64 a0_2] 29 (0,0)) (kk' BK324.out) hb);have n1_:=am' (below_step (yb' GE324.out) hb);clear BK324;clear HB;have BK324:=n0_;have HB:=n1_;clear n0_ n1_;(try clear hb);(try clear hb2);(try clear hk);(try clear hi);have hcz9_0:w8.cell? ⟨gb324,0,none⟩=some (.slice A0_0 l0_0.length c0_0):=(blk_cell BK324.out 0).trans rfl;have hcz9_1:w8.cell? ⟨gb324,1,none⟩=some (.slice A0_1 l0_1.length c0_1):=(blk_cell BK324.out 1).trans rfl;have hcz9_2:w8.cell? ⟨gb324,2,none⟩=some (.int .i64 a0_2):=(blk_cell BK324.out 2).trans rfl;have hfz9_0:=blk_frozen BK324.out 0;have hfz9_1:=blk_frozen BK324.out 1;have hfz9_2:=blk_frozen BK324.out 2)|(go_at_call 90;(with_reducible refine (impl_in.calls a0_2 0 2000 t326 _ A5.out).mono ?_);rintro e w' ⟨rfl,⟨nd,rfl⟩⟩))
   go_ret
   exact ⟨by first|rfl|(simp[errW_none,errW_some] <;> rfl)|(simp[*,errW_none,errW_some] <;> rfl),by repeat (first|(with_reducible first|exact HB.out|apply ba'|apply bd'|apply be'|refine bs' ?_ GE324.out)|exact HB.out)⟩
  ·
   rw[if_neg c4] at H;have c4b0:((l0_1.length:Int) == (l0_0.length:Int))=false:=beq_eq_false_iff_ne.mpr c4;have c4b1:((l0_1.length:Int) != (l0_0.length:Int))=true:=bne_iff_ne.mpr c4;have c4b2:(l0_1.length == l0_0.length)=false:=by first|simpa using c4|(simp at c4 ⊢;omega)
   obtain rfl:=Option.some.inj H;go_enter Try.func54,Try.ntmps54;go_wp2_with (first|((with_reducible refine gate_dst (N:=1) rfl ?_);(try (refine gate_guard (by rfl) ?_;dsimp only));refine box_event ?hg (N:=1) ?hd (cs:=#[.slice A0_0 l0_0.length c0_0, .slice A0_1 l0_1.length c0_1, .int .i64 a0_2]) (t:=29) ?hr ?_;(case hd=>rfl);(case hg=>rfl);(case hr=>first|(go_simp;done)|(go_simp;rfl));intro gb324 hg w10 hbox hb;have n0_:=am' (below_step xb' hb);have n1_:=am' (hbox);have n2_:=am' ((by rw[hg];exact (below_size xb'):w.heap.size≤gb324));have n3_:=am' ((by rw[hg];exact (below_size xb'):w.heap.size≤gb324));clear HB;have HB:=n0_;have BK324:=n1_;have GW324:=n2_;have GE324:=n3_;clear n0_ n1_ n2_ n3_;clear hb hbox hg;have hcz11_0:w10.cell? ⟨gb324,0,none⟩=some (.slice A0_0 l0_0.length c0_0):=(blk_cell BK324.out 0).trans rfl;have hcz11_1:w10.cell? ⟨gb324,1,none⟩=some (.slice A0_1 l0_1.length c0_1):=(blk_cell BK324.out 1).trans rfl;have hcz11_2:w10.cell? ⟨gb324,2,none⟩=some (.int .i64 a0_2):=(blk_cell BK324.out 2).trans rfl;have hfz11_0:=blk_frozen BK324.out 0;have hfz11_1:=blk_frozen BK324.out 1;have hfz11_2:=blk_frozen BK324.out 2)|((with_reducible refine gate_callee (f:=89) rfl ?_);refine goesL_ (some 5) rfl rfl Try.func89 xk' rfl #[.slice A0_0 l0_0.length c0_0, .int .i64 1, .int .i64 500, .int .i64 1, .int .i64 7] rfl xl' ?_;(with_reducible refine (impl_areIn.calls _ _ l0_0 1 500 1 7 true _ ?side1 ?side2 A2.out).mono ?_);(case side1=>repeat (first|exact (Kd.C_below HR0_0.out HB.out)|(with_reducible refine ca' ?_ _)|(with_reducible refine cn' ?_ _)|(with_reducible refine cd' ?_)));(case side2=>exact HC0_0.out);rintro e w12 ⟨rfl,hb⟩;refine ⟨_,rfl,?_⟩;have n0_:=am' (blk_below (g:=gb324) (o := .cells #[.slice A0_0 l0_0.length c0_0, .slice A0_1 l0_1.length c0_1, .int .i64 a0_2] 29 (0,0)) (kk' BK324.out) hb);have n1_:=am' (below_step (yb' GE324.out) hb);clear BK324;clear HB;have BK324:=n0_;have HB:=n1_;clear n0_ n1_;(try clear hb);(try clear hb2);(try clear hk);(try clear hi);have hcz13_0:w12.cell? ⟨gb324,0,none⟩=some (.slice A0_0 l0_0.length c0_0):=(blk_cell BK324.out 0).trans rfl;have hcz13_1:w12.cell? ⟨gb324,1,none⟩=some (.slice A0_1 l0_1.length c0_1):=(blk_cell BK324.out 1).trans rfl;have hcz13_2:w12.cell? ⟨gb324,2,none⟩=some (.int .i64 a0_2):=(blk_cell BK324.out 2).trans rfl;have hfz13_0:=blk_frozen BK324.out 0;have hfz13_1:=blk_frozen BK324.out 1;have hfz13_2:=blk_frozen BK324.out 2))
   go_ret
   exact ⟨by first|rfl|(simp[errW_none,errW_some] <;> rfl)|(simp[*,errW_none,errW_some] <;> rfl),by repeat (first|(with_reducible first|exact HB.out|apply ba'|apply bd'|apply be'|refine bs' ?_ GE324.out)|exact HB.out)⟩
 ·
  replace c3:=Bool.eq_false_iff.mpr c3;subst c3;have H1:(some false)=some r:=by rw[if_neg (show ¬ (false=true) by decide)] at H;exact H
  clear H;have H:=H1;clear H1;obtain rfl:=Option.some.inj H;go_enter Try.func54,Try.ntmps54;go_wp2_with (first|((with_reducible refine gate_dst (N:=1) rfl ?_);(try (refine gate_guard (by rfl) ?_;dsimp only));refine box_event ?hg (N:=1) ?hd (cs:=#[.slice A0_0 l0_0.length c0_0, .slice A0_1 l0_1.length c0_1, .int .i64 a0_2]) (t:=29) ?hr ?_;(case hd=>rfl);(case hg=>rfl);(case hr=>first|(go_simp;done)|(go_simp;rfl));intro gb324 hg w14 hbox hb;have n0_:=am' (below_step xb' hb);have n1_:=am' (hbox);have n2_:=am' ((by rw[hg];exact (below_size xb'):w.heap.size≤gb324));have n3_:=am' ((by rw[hg];exact (below_size xb'):w.heap.size≤gb324));clear HB;have HB:=n0_;have BK324:=n1_;have GW324:=n2_;have GE324:=n3_;clear n0_ n1_ n2_ n3_;clear hb hbox hg;have hcz15_0:w14.cell? ⟨gb324,0,none⟩=some (.slice A0_0 l0_0.length c0_0):=(blk_cell BK324.out 0).trans rfl;have hcz15_1:w14.cell? ⟨gb324,1,none⟩=some (.slice A0_1 l0_1.length c0_1):=(blk_cell BK324.out 1).trans rfl;have hcz15_2:w14.cell? ⟨gb324,2,none⟩=some (.int .i64 a0_2):=(blk_cell BK324.out 2).trans rfl;have hfz15_0:=blk_frozen BK324.out 0;have hfz15_1:=blk_frozen BK324.out 1;have hfz15_2:=blk_frozen BK324.out 2)|((with_reducible refine gate_callee (f:=89) rfl ?_);refine goesL_ (some 5) rfl rfl Try.func89 xk' rfl #[.slice A0_0 l0_0.length c0_0, .int .i64 1, .int .i64 500, .int .i64 1, .int .i64 7] rfl xl' ?_;(with_reducible refine (impl_areIn.calls _ _ l0_0 1 500 1 7 false _ ?side1 ?side2 A2.out).mono ?_);(case side1=>repeat (first|exact (Kd.C_below HR0_0.out HB.out)|(with_reducible refine ca' ?_ _)|(with_reducible refine cn' ?_ _)|(with_reducible refine cd' ?_)));(case side2=>exact HC0_0.out);rintro e w16 ⟨rfl,hb⟩;refine ⟨_,rfl,?_⟩;have n0_:=am' (blk_below (g:=gb324) (o := .cells #[.slice A0_0 l0_0.length c0_0, .slice A0_1 l0_1.length c0_1, .int .i64 a0_2] 29 (0,0)) (kk' BK324.out) hb);have n1_:=am' (below_step (yb' GE324.out) hb);clear BK324;clear HB;have BK324:=n0_;have HB:=n1_;clear n0_ n1_;(try clear hb);(try clear hb2);(try clear hk);(try clear hi)));go_ret
  exact ⟨by first|rfl|(simp[errW_none,errW_some] <;> rfl)|(simp[*,errW_none,errW_some] <;> rfl),by repeat (first|(with_reducible first|exact HB.out|apply ba'|apply bd'|apply be'|refine bs' ?_ GE324.out)|exact HB.out)⟩
def impl_last.f (a0:Int):Option (Int):=if 0≤(wrap64 (a0+1)) then (some (wrap64 ((shl .i64 1 (wrap64 (a0+1))) - 1))) else (none)
set_option maxHeartbeats 8000000 in
set_option maxRecDepth 100000 in
theorem impl_last.calls (a0:Int) (r:Int) (w:World) (h:impl_last.f a0=some r) :
  Calls Try.prog 72 #[.int .i64 a0] w fun e w'=>e = .returned (.int .i64 r)∧Drawn0 w w':=by
 have H:(if 0≤(wrap64 (a0+1)) then (some (wrap64 ((shl .i64 1 (wrap64 (a0+1))) - 1))) else (none))=some r:=h
 clear h;obtain ⟨ji2,hji2⟩:∃ j_:Int,(wrap64 (a0+1))=j_:=⟨_,rfl⟩
 replace H:(if 0≤(ji2) then (some (wrap64 ((shl .i64 1 (ji2)) - 1))) else (none))=some r:=by first|(rw[hji2] at H;exact H)|(simp only[hji2] at H ⊢;exact H)
 have hji2w:(IntKind.i64.wrap (a0+1))=ji2:=(i64_w _).trans hji2
 by_cases c3:0≤(ji2)
 ·
  rw[if_pos c3] at H;have c3b0:=eq_true c3;have c3b1:decide (0≤(ji2))=true:=decide_eq_true c3;clear c3;obtain ⟨ji4,hji4⟩:∃ j_:Int,(shl .i64 1 (ji2))=j_:=⟨_,rfl⟩
  replace H:(some (wrap64 ((ji4) - 1)))=some r:=by first|(rw[hji4] at H;exact H)|(simp only[hji4] at H ⊢;exact H)
  have hji4_:(IntKind.i64.wrap (1 * 2 ^ min (ji2).toNat 64))=ji4:=hji4;have hji4z:(ji2)≤64→(IntKind.i64.wrap (1 * 2 ^ (ji2).toNat))=ji4:=shl_small hji4;have hji4u:(IntKind.i64.wrap (2 ^ min (ji2).toNat 64))=ji4:=by have h_:=hji4_;rw[Int.one_mul] at h_;exact h_
  have hji4v:(ji2)≤64→(IntKind.i64.wrap (2 ^ (ji2).toNat))=ji4:=fun hle_=>by have h_:=hji4z hle_;rw[Int.one_mul] at h_;exact h_
  have hji4y:(wrap64 (1 * 2 ^ min (ji2).toNat 64))=ji4:=(i64_w _).symm.trans hji4_;have hji4x:(ji2)≤64→(wrap64 (1 * 2 ^ (ji2).toNat))=ji4:=fun h_=>(i64_w _).symm.trans (hji4z h_)
  obtain rfl:=Option.some.inj H;go_enter Try.func72,Try.ntmps72;go_wp2;go_ret
  exact ⟨by first|rfl|(simp;done)|(simp only[← hji2,← hji4] <;> (first|rfl|simp))|(simp[*];done),by repeat (first|exact Drawn0.refl _|apply Drawn0.step)⟩
 ·
  rw[if_neg c3] at H;exact absurd H (by simp)
def impl_Crew_load.l0:Nat→Int→List Int→Int→Int→List Int→List Bool→Int→Option (Int)
 | 0,_,_,_,_,_,_,_=>none
 | k+1,x5,x8,x9,x10,x328000,x328001,x328002=>if x10 < x9 then (if 0≤x10 then (if x10 < (x8.length:Int) then (if 0≤(rd x8 x10) then (if (rd x8 x10) < (x328000.length:Int) then (impl_Crew_load.l0 k (wrap64 (x5+(rd x328000 (rd x8 x10)))) x8 x9 (wrap64 (x10+1)) x328000 x328001 x328002) else (none)) else (none)) else (none)) else (none)) else (some x5)
def impl_Crew_load.f (k:Nat) (l0_0:List Int) (l0_1:List Bool) (a0_2:Int) (l1:List Int):Option (Int):=impl_Crew_load.l0 k 0 l1 (l1.length:Int) 0 l0_0 l0_1 a0_2
set_option maxHeartbeats 8000000 in
set_option maxRecDepth 100000 in
theorem impl_Crew_load.calls (k:Nat) (A0_0:Option Addr) (c0_0:Nat) (l0_0:List Int) (A0_1:Option Addr) (c0_1:Nat) (l0_1:List Bool) (a0_2:Int) (A1:Option Addr) (c1:Nat) (l1:List Int) (r:Int) (w:World) (hr0_0:Kd.C (Kd.int .i64) w A0_0 l0_0.length l0_0) (hc0_0:l0_0.length≤c0_0) (hr0_1:Kd.C Kd.bool w A0_1 l0_1.length l0_1) (hc0_1:l0_1.length≤c0_1) (hr1:Kd.C (Kd.int .i64) w A1 l1.length l1) (hc1:l1.length≤c1) (h:impl_Crew_load.f k l0_0 l0_1 a0_2 l1=some r) :
  Calls Try.prog 56 #[.agg #[.slice A0_0 l0_0.length c0_0, .slice A0_1 l0_1.length c0_1, .int .i64 a0_2], .slice A1 l1.length c1] w fun e w'=>e = .returned (.int .i64 r)∧Below w.heap.size w w':=by
 have hu29:=Try.underlying29
 have HR0_0:=am' hr0_0
 have HC0_0:=am' hc0_0
 clear hr0_0 hc0_0;have HR0_1:=am' hr0_1
 have HC0_1:=am' hc0_1
 clear hr0_1 hc0_1;have HR1:=am' hr1
 have HC1:=am' hc1
 clear hr1 hc1;have HB:=am' (Below.refl w.heap.size w)
 have H:(impl_Crew_load.l0 k 0 l1 (l1.length:Int) 0 l0_0 l0_1 a0_2)=some r:=h
 clear h;have H':=am' H
 clear H;go_enter Try.func56,Try.ntmps56
 go_wp2_with (first|((with_reducible refine gate_dst (N:=2) rfl ?_);refine box_event ?hg (N:=2) ?hd (cs:=#[.slice A0_0 l0_0.length c0_0, .slice A0_1 l0_1.length c0_1, .int .i64 a0_2]) (t:=29) ?hr ?_;(case hd=>rfl);(case hg=>rfl);(case hr=>first|(go_simp;done)|(go_simp;rfl));intro gb327 hg w3 hbox hb;have n0_:=am' (below_step xb' hb);have n1_:=am' (hbox);have n2_:=am' ((by rw[hg];exact (below_size xb'):w.heap.size≤gb327));have n3_:=am' ((by rw[hg];exact (below_size xb'):w.heap.size≤gb327));clear HB;have HB:=n0_;have BK327:=n1_;have GW327:=n2_;have GE327:=n3_;clear n0_ n1_ n2_ n3_;clear hb hbox hg))
 go_loopg [5,10] k (fun kq v5 v10 w'=>∃ (x5_1:Int) (x10_1:Int),v5 = .int .i64 x5_1∧v10 = .int .i64 x10_1∧Aside0 (impl_Crew_load.l0 kq x5_1 l1 (l1.length:Int) x10_1 l0_0 l0_1 a0_2=some r)∧Aside0 (kq≤k)∧Aside0 (w'.heap[gb327]? = some (.cells #[(.slice A0_0 l0_0.length c0_0),(.slice A0_1 l0_1.length c0_1), .int .i64 a0_2] 29 (0,0)))∧Aside0 (Below w.heap.size w w'))
 case atStart=>exact ⟨(0),(0),xs',xs',H',⟨Nat.le_refl _⟩,⟨by (with_reducible repeat (first|refine kn' ?_ _|refine kd' ?_|refine ka' ?_ _));exact BK327.out⟩,⟨by repeat (first|(with_reducible first|exact HB.out|apply ba'|apply bd'|apply be'|refine bs' ?_ GE327.out)|exact HB.out)⟩⟩
 case round =>
  clear H';try clear c1
  try clear p2
  obtain ⟨x5_1,x10_1,rfl,rfl,HA,HK1,BK327,HB⟩:=hrel;cases gk with
  | zero=>exact absurd HA.out (by simp[impl_Crew_load.l0])
  | succ k1 =>
   have H:=HA.out;clear HA;simp only[impl_Crew_load.l0] at H;by_cases c4:x10_1 < (l1.length:Int)
   ·
    rw[if_pos c4] at H;have c4b0:decide (x10_1 < (l1.length:Int))=true:=decide_eq_true c4;clear c4;by_cases c5:0≤x10_1
    ·
     rw[if_pos c5] at H;have c5b0:decide (0≤x10_1)=true:=decide_eq_true c5;clear c5;by_cases c6:x10_1 < (l1.length:Int)
     ·
      rw[if_pos c6] at H;have c6b0:decide (x10_1 < (l1.length:Int))=true:=decide_eq_true c6;clear c6;by_cases c7:0≤(rd l1 x10_1)
      ·
       rw[if_pos c7] at H;have c7b0:decide (0≤(rd l1 x10_1))=true:=decide_eq_true c7;clear c7;by_cases c8:(rd l1 x10_1) < (l0_0.length:Int)
       ·
        rw[if_pos c8] at H;have c8b0:decide ((rd l1 x10_1) < (l0_0.length:Int))=true:=decide_eq_true c8;clear c8;have H':=am' H;clear H;have p328:0≤(x10_1:Int):=of_decide_eq_true xa';have q328:x10_1 < (l1.length:Int):=of_decide_eq_true xa';obtain ⟨ad328,e328,hx328_0⟩:=Kd.at_int HR1.out x10_1 p328 q328;cases e328;replace hx328_0:=(HB.out.cell (bl' w _ hx328_0)).trans hx328_0;replace p328:=eq_true p328;replace q328:=eq_true q328;have hcz9_0:wr.cell? ⟨gb327,0,none⟩=some (.slice A0_0 l0_0.length c0_0):=(blk_cell BK327.out 0).trans rfl;have hcz9_1:wr.cell? ⟨gb327,1,none⟩=some (.slice A0_1 l0_1.length c0_1):=(blk_cell BK327.out 1).trans rfl;have hcz9_2:wr.cell? ⟨gb327,2,none⟩=some (.int .i64 a0_2):=(blk_cell BK327.out 2).trans rfl;have hfz9_0:=blk_frozen BK327.out 0;have hfz9_1:=blk_frozen BK327.out 1;have hfz9_2:=blk_frozen BK327.out 2;have p329:0≤((rd l1 x10_1):Int):=of_decide_eq_true xa';have q329:(rd l1 x10_1) < (l0_0.length:Int):=of_decide_eq_true xa';obtain ⟨ad329,e329,hx329_0⟩:=Kd.at_int HR0_0.out (rd l1 x10_1) p329 q329;cases e329;replace hx329_0:=(HB.out.cell (bl' w _ hx329_0)).trans hx329_0;replace p329:=eq_true p329;replace q329:=eq_true q329;go_wp2;go_roundg k1
        case measure=>have:=HK1.out;omega
        case rel=>exact ⟨(wrap64 (x5_1+(rd l0_0 (rd l1 x10_1)))),(wrap64 (x10_1+1)),xs',xs',H',⟨by have:=HK1.out;omega⟩,⟨by (with_reducible repeat (first|refine kn' ?_ _|refine kd' ?_|refine ka' ?_ _));exact BK327.out⟩,⟨by repeat (first|(with_reducible first|exact HB.out|apply ba'|apply bd'|apply be'|refine bs' ?_ GE327.out)|exact HB.out)⟩⟩
       ·
        rw[if_neg c8] at H;exact absurd H (by simp)
      ·
       rw[if_neg c7] at H;exact absurd H (by simp)
     ·
      rw[if_neg c6] at H;exact absurd H (by simp)
    ·
     rw[if_neg c5] at H;exact absurd H (by simp)
   ·
    rw[if_neg c4] at H;have c4b0:decide (x10_1 < (l1.length:Int))=false:=decide_eq_false c4;clear c4;obtain rfl:=Option.some.inj H;go_wp2;go_ret
    exact ⟨by first|rfl|(simp[errW_none,errW_some] <;> rfl)|(simp[*,errW_none,errW_some] <;> rfl),by repeat (first|(with_reducible first|exact HB.out|apply ba'|apply bd'|apply be'|refine bs' ?_ GE327.out)|exact HB.out)⟩
def slices_Clone_bool_bool.f (l0:List Bool):Option (List Bool):=if l0.length < 140737488355328 then some l0 else none
set_option maxHeartbeats 2000000 in
set_option maxRecDepth 100000 in
theorem slices_Clone_bool_bool.calls (A0:Option Addr) (c0:Nat) (l0:List Bool) (r:List Bool) (w:World) (hr0:Kd.C Kd.bool w A0 l0.length l0) (hc0:l0.length≤c0) (h:slices_Clone_bool_bool.f l0=some r) :
  Calls Try.prog 96 #[.slice A0 l0.length c0] w fun e w'=>∃ v0_:Value,e = .returned (v0_)∧Kd.R Kd.bool 4 w' w.heap.size (fun _=>True) v0_ r∧Below w.heap.size w w':=by
 have hinfo:(Try.prog.info? 4).map (fun i=>(i.zero,i.size,i.bytes))=some (some (.bool false),1,1):=by kernel_rfl
 obtain ⟨hlim,rfl⟩:l0.length < 140737488355328∧l0=r:=by
  unfold slices_Clone_bool_bool.f at h
  by_cases hl:l0.length < 140737488355328
  ·
   rw[if_pos hl] at h;exact ⟨hl,Option.some.inj h⟩
  ·
   rw[if_neg hl] at h;cases h
 clear h;cases A0 with
 | none =>
  obtain rfl:l0=[]:=by
   cases l0 with
   | nil=>rfl
   | cons x l=>obtain ⟨_,e,_⟩:=hr0.2.2 (by simp);cases e
  clear hr0 hc0 hlim hinfo;have heq:=fun (w:World) (n c:Nat)=>Lib.run_eql_slice_nil (P:=Try.prog) w 23 4 none n c 0 0 Try.underlying23
  go_enter Try.func96,Try.ntmps96;go_wp2;go_ret
  exact ⟨_,rfl,Kd.R_nil _ _ _ _ _,Below.refl _ _⟩
 | some a =>
  have HR0:=am' hr0;have HL:=am' hlim;have hie:=am' hinfo;clear hr0 hc0 hlim hinfo;have HB:=am' (Below.refl w.heap.size w);have heq:=fun (w:World) (n c:Nat)=>Lib.run_eql_slice_nil (P:=Try.prog) w 23 4 (some a) n c 0 0 Try.underlying23
  go_enter Try.func96,Try.ntmps96;go_wp2_with (first|((with_reducible refine gate_dst (N:=5) rfl ?_);refine Kd.R_lit Kd.bool _ 4 ?hg (N:=5) ?hd (xs:=([]:List Bool)) (inner:=[]) (ok:=fun _=>True) (okp:=fun _=>True) ?hr ?hp (fun _ hk=>hk) trivial (Below.refl _ _) (Nat.le_refl _) (by simp) ?_;(case hd=>rfl);(case hg=>rfl);(case hr=>first|(go_simp;done)|(go_simp;rfl));(case hp=>exact (Reps.none _ _));intro v210 w3 ho4 hb hg_ hnew_;clear hg_ hnew_;have n0_:=am' (Kd.R_lower ho4 (below_size HB.out));have n1_:=am' (below_step HB.out hb);clear HB;have HO211:=n0_;have HB:=n1_;clear n0_ n1_;clear hb ho4)|((with_reducible refine gate_builtin (b := .append) (xs:=#[.tmp 5, .tmp 6]) rfl ?_);at_builtin;refine Kd.R_append_rows Kd.bool (w0:=w) w.heap.size rfl (.tmp 5) (.tmp 6) 23 4 (.bool false) 1 rfl Try.underlying23 hie.out rfl (by decide) (by omega) v210 [] l0 _ _ _ (fun _=>True) (fun _=>False) rfl rfl ?aO ?aR (fun _ _ h=>h) (fun _ h=>h.elim) ?aF ?aB ?aS ?aL ?_;(case aR=>exact (Kd.C_below HR0.out HB.out));(case aB=>exact HB.out);(case aF=>exact (fun _ _=>trivial));(case aO=>exact HO211.out);(case aS=>exact (below_size HB.out));(case aL=>have:=HL.out;simp;omega);intro v213 w5 ho hb hg hat;have n0_:=am' (hb);have n1_:=am' (ho);clear HB;clear HO211;have HB:=n0_;have HO214:=n1_;clear n0_ n1_;clear ho hb hg hat));go_ret
  exact ⟨_,rfl,by simpa using HO214.out,HB.out⟩
end Go.Proofs.Ytikjdmiohpdnaaa.C16
