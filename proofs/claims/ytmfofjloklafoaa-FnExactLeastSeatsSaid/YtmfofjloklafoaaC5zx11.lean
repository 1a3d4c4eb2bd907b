import Derived.Test.YtmfofjloklafoaaC5zx0
import Derived.Test.YtmfofjloklafoaaC5zx3
import Derived.Test.YtmfofjloklafoaaC5zx8
import Derived.Test.YtmfofjloklafoaaC5zx10
import Derived.Test.YtmfofjloklafoaaC5zAl
namespace Go.Proofs.Ytmfofjloklafoaa.C5
open Go.RowKit Go.Proofs.YtmfofjloklafoaaW.PrintWords Go.Proofs.YtmfofjloklafoaaW.PrintLast Go.Proofs.YtmfofjloklafoaaW.PrintMore Go.Proofs.Ytmfofjloklafoaa.H
attribute [local go_sem] max2_int min2_int max_two min_two max_three min_three max_four min_four
set_option linter.unusedVariables false
set_option linter.unusedSimpArgs false
def spec_keStart.f (a0_0:Int) (l0_1:List (List Int)) (a0_2:Int):Option (List Bool × Bool):=if 0≤a0_0 then (if (a0_0:Int).toNat≤281474976710656 then (some ((List.replicate (a0_0:Int).toNat false),false)) else (none)) else (none)
set_option maxHeartbeats 8000000 in
set_option maxRecDepth 100000 in
theorem spec_keStart.calls (a0_0:Int) (A0_1:Option Addr) (c0_1:Nat) (l0_1:List (List Int)) (a0_2:Int) (r1:List Bool) (r2:Bool) (w:World) (hr0_1:Kd.C (Kd.slice 3 (Kd.int .i64)) w A0_1 l0_1.length l0_1) (hc0_1:l0_1.length≤c0_1) (h:spec_keStart.f a0_0 l0_1 a0_2=some (r1,r2)) :
  Calls Try.prog 71 #[.agg #[.int .i64 a0_0, .slice A0_1 l0_1.length c0_1, .int .i64 a0_2]] w fun e w'=>∃ v0_:Value,e = .returned (.agg #[v0_, .bool r2])∧Kd.R Kd.bool 4 w' w.heap.size (fun _=>True) v0_ r1∧Below w.heap.size w w':=by
 have hu32:=Try.underlying32
 have hu34:=Try.underlying34
 have HR0_1:=am' hr0_1
 have HC0_1:=am' hc0_1
 clear hr0_1 hc0_1;have HB:=am' (Below.refl w.heap.size w)
 have H:(if 0≤a0_0 then (if (a0_0:Int).toNat≤281474976710656 then (some ((List.replicate (a0_0:Int).toNat false),false)) else (none)) else (none))=some (r1,r2):=h
 clear h;by_cases c2:0≤a0_0
 ·
  rw[if_pos c2] at H;have c2b0:=eq_true c2;have c2b1:decide (0≤a0_0)=true:=dt' c2;clear c2;by_cases c3:(a0_0:Int).toNat≤281474976710656
  ·
   rw[if_pos c3] at H;have c3b0:=eq_true c3;have c3b1:decide ((a0_0:Int).toNat≤281474976710656)=true:=dt' c3;clear c3;obtain ⟨y317,hy317⟩:∃ y_:List Bool,y_=(List.replicate (a0_0:Int).toNat false):=⟨_,rfl⟩
   replace H:(some (y317,false))=some (r1,r2):=by first|(rw[hy317];with_reducible exact H)|(have H2_:=(Option.bind_some _ _).symm.trans H;rw[hy317];with_reducible exact H2_)|(have H2_:=(Option.bind_some _ _).symm.trans H;with_reducible exact H2_)|with_reducible exact H|(rw[hy317];exact H)|exact H
   have Ny317:=am' hy317;clear hy317;simp only[Option.some.injEq,Prod.mk.injEq] at H;obtain ⟨rfl,rfl⟩:=H;go_enter Try.func71,Try.ntmps71;go_wp2_with (first|((with_reducible refine gate_dst (N:=1) rfl ?_);refine box_event ?hg (N:=1) ?hd (cs:=#[.int .i64 a0_0, .slice A0_1 l0_1.length c0_1, .int .i64 a0_2]) (t:=32) ?hr ?_;(case hd=>rfl);(case hg=>rfl);(case hr=>first|(go_simp;done)|(go_simp;rfl));intro gb315 hg w4 hbox hb;have n0_:=am' (bt' xb' hb);have n1_:=am' (hbox);have n2_:=am' ((by rw[hg];exact (bz' xb'):w.heap.size≤gb315));have n3_:=am' ((by rw[hg];exact (bz' xb'):w.heap.size≤gb315));clear HB;have HB:=n0_;have BK315:=n1_;have GW315:=n2_;have GE315:=n3_;clear n0_ n1_ n2_ n3_;clear hb hbox hg)|((with_reducible refine gate_dst (N:=2) rfl ?_);refine box_event ?hg (N:=2) ?hd (cs:=#[.slice none 0 0, .bool false]) (t:=34) ?hr ?_;(case hd=>rfl);(case hg=>rfl);(case hr=>first|(go_simp;done)|(go_simp;rfl));intro gb316 hg w5 hbox hb;have n0_:=am' (bb' (g:=gb315) (o := .cells #[.int .i64 a0_0, .slice A0_1 l0_1.length c0_1, .int .i64 a0_2] 32 (0,0)) (kk' BK315.out) hb);have n1_:=am' (bt' (yb' GE315.out) hb);have n2_:=am' (hbox);have n3_:=am' ((by rw[hg];exact (bz' (yb' GE315.out)):w.heap.size≤gb316));have n4_:=am' ((by rw[hg];exact (bz' (yb' GE315.out)):w.heap.size≤gb316));have n5_:=am' ((by rw[hg];exact Nat.ne_of_lt (blk_lt (g:=gb315) (o := .cells #[.int .i64 a0_0, .slice A0_1 l0_1.length c0_1, .int .i64 a0_2] 32 (0,0)) (kk' BK315.out)):gb315≠gb316));have n6_:=am' ((by rw[hg];exact Nat.ne_of_gt (blk_lt (g:=gb315) (o := .cells #[.int .i64 a0_0, .slice A0_1 l0_1.length c0_1, .int .i64 a0_2] 32 (0,0)) (kk' BK315.out)):gb316≠gb315));clear BK315;clear HB;have BK315:=n0_;have HB:=n1_;have BK316:=n2_;have GW316:=n3_;have GE316:=n4_;have NB315_316:=n5_;have NB316_315:=n6_;clear n0_ n1_ n2_ n3_ n4_ n5_ n6_;clear hb hbox hg;have hnb6:=NB315_316.out;have hnc6:=NB316_315.out;have hcz7_0:w5.cell? ⟨gb315,0,none⟩=some (.int .i64 a0_0):=(bc' BK315.out 0).trans rfl;have hcz7_1:w5.cell? ⟨gb315,1,none⟩=some (.slice A0_1 l0_1.length c0_1):=(bc' BK315.out 1).trans rfl;have hcz7_2:w5.cell? ⟨gb315,2,none⟩=some (.int .i64 a0_2):=(bc' BK315.out 2).trans rfl;have hfz7_0:=bf' BK315.out 0;have hfz7_1:=bf' BK315.out 1;have hfz7_2:=bf' BK315.out 2)|((with_reducible refine gate_dst (N:=5) rfl ?_);refine Kd.R_make Kd.bool _ 4 rfl (N:=5) rfl 25 _ _ rfl a0_0 rfl rfl Try.underlying25 (.bool false) 1 info4 rfl (by decide) (by omega) false (ok:=fun _=>True) (okp:=fun _=>True) rfl (fun _ hk=>hk) trivial (od' xa') (Nat.le_trans (Nat.mul_le_mul_right _ (od' xa':a0_0.toNat≤281474976710656)) (by omega)) (Below.refl _ _) (Nat.le_refl _) ?_;intro v318 w8 ho9 hb hg_ hnew_;clear hg_ hnew_;(first|rw[← Ny317.out] at ho9|(simp only[Int.reduceToNat] at ho9;rw[← Ny317.out] at ho9));have n0_:=am' (Kd.R_lower ho9 (bz' (y2' GE315.out GE316.out)));have n1_:=am' (bb' (g:=gb315) (o := .cells #[.int .i64 a0_0, .slice A0_1 l0_1.length c0_1, .int .i64 a0_2] 32 (0,0)) (kk' BK315.out) hb);have n2_:=am' (bb' (g:=gb316) (o := .cells #[.slice none 0 0, .bool false] 34 (0,0)) (kk' BK316.out) hb);have n3_:=am' (bt' (y2' GE315.out GE316.out) hb);clear BK315;clear BK316;clear HB;have HO319:=n0_;have BK315:=n1_;have BK316:=n2_;have HB:=n3_;clear n0_ n1_ n2_ n3_;clear hb ho9;obtain ⟨Ao10,co10,eo10⟩:=Kd.R_slice HO319.out;subst eo10;have hcz11_0:w8.cell? ⟨gb316,0,none⟩=some (.slice none 0 0):=(bc' BK316.out 0).trans rfl;have hcz11_1:w8.cell? ⟨gb316,1,none⟩=some (.bool false):=(bc' BK316.out 1).trans rfl;have hfz11_0:=bf' BK316.out 0;have hfz11_1:=bf' BK316.out 1))
   refine bodyPost_ret (results_cell_row rfl _ _ gb316 34 #[.slice Ao10 y317.length co10, .bool false] (0,0) _ rfl (by (with_reducible repeat (first|refine kn' ?_ _|refine kd' ?_|refine ka' ?_ _));refine blk_put (cs:=#[.slice Ao10 y317.length co10, .bool false]) ?_ 1 _ rfl;(with_reducible repeat (first|refine kn' ?_ _|refine kd' ?_|refine ka' ?_ _));refine blk_put (cs:=#[.slice none 0 0, .bool false]) ?_ 0 _ rfl;(with_reducible repeat (first|refine kn' ?_ _|refine kd' ?_|refine ka' ?_ _));exact BK316.out) Try.underlying34 rfl xk') rfl ?_
   exact ⟨_,by first|rfl|(simp[errW_none,errW_some] <;> rfl)|(simp[*,errW_none,errW_some] <;> rfl),by (with_reducible repeat (first|apply ra'|apply rn'|apply rw'));exact Kd.R_mono (Kd.R_far (p:=⟨gb316,1,none⟩) (Kd.R_far (p:=⟨gb316,0,none⟩) (Kd.R_types HO319.out BK316.out (by decide)) (fun _ hk=>hk.2) (.slice Ao10 y317.length co10)) (fun _ hk=>hk.2) (.bool false)) (fun _ hk=>trivial),y2' GE315.out GE316.out⟩
  ·
   rw[if_neg c3] at H;exact absurd H (by simp)
 ·
  rw[if_neg c2] at H;exact absurd H (by simp)
def spec_LeastSeats.l0:Nat→Int→Int→List (List Int)→Int→Option (Int × Bool)
 | 0,_,_,_,_=>none
 | k+1,x4,x321000,x321001,x321002=>(spec_keFar.f k x321000 x321001 x4).bind fun bt323=>((spec_keStart.f x321000 x321001 x321002).bind fun bt329=>((spec_keIndex.f k bt329.1 bt329.2).bind fun t333=>(if 0≤t333 then (if t333 < (bt323.1.length:Int) then (if (rd bt323.1 t333) ≥ 0 then (some (x4,true)) else (spec_LeastSeats.l0 k (wrap64 (x4+1)) x321000 x321001 x321002)) else (none)) else (none))))
def spec_LeastSeats.f (k:Nat) (a0_0:Int) (l0_1:List (List Int)) (a0_2:Int):Option (Int × Bool):=(spec_keGood.f k a0_0 l0_1 a0_2).bind fun t321=>(if t321=true then (spec_LeastSeats.l0 k 0 a0_0 l0_1 a0_2) else (some (0,false)))
set_option maxHeartbeats 8000000 in
set_option maxRecDepth 100000 in
theorem spec_LeastSeats.calls (k:Nat) (a0_0:Int) (A0_1:Option Addr) (c0_1:Nat) (l0_1:List (List Int)) (a0_2:Int) (r1:Int) (r2:Bool) (w:World) (hr0_1:Kd.C (Kd.slice 3 (Kd.int .i64)) w A0_1 l0_1.length l0_1) (hc0_1:l0_1.length≤c0_1) (h:spec_LeastSeats.f k a0_0 l0_1 a0_2=some (r1,r2)) :
  Calls Try.prog 27 #[.agg #[.int .i64 a0_0, .slice A0_1 l0_1.length c0_1, .int .i64 a0_2]] w fun e w'=>e = .returned (.tuple #[.int .i64 r1, .bool r2])∧Below w.heap.size w w':=by
 have hu32:=Try.underlying32
 have HR0_1:=am' hr0_1
 have HC0_1:=am' hc0_1
 clear hr0_1 hc0_1;have HB:=am' (Below.refl w.heap.size w)
 have H:((spec_keGood.f k a0_0 l0_1 a0_2).bind fun t321=>(if t321=true then (spec_LeastSeats.l0 k 0 a0_0 l0_1 a0_2) else (some (0,false))))=some (r1,r2):=h
 clear h;replace H:=Option.bind_eq_some_iff.mp H
 obtain ⟨t321,A20,H⟩:=H
 replace H:(if t321=true then (spec_LeastSeats.l0 k 0 a0_0 l0_1 a0_2) else (some (0,false)))=some (r1,r2):=H
 have A2:=am' A20
 clear A20;by_cases c3:t321=true
 ·
  subst c3;have H1:(spec_LeastSeats.l0 k 0 a0_0 l0_1 a0_2)=some (r1,r2):=by rw[if_pos rfl] at H;exact H
  clear H;have H:=H1;clear H1;have H':=am' H;clear H;go_enter Try.func27,Try.ntmps27;go_wp2_with (first|((with_reducible refine gate_dst (N:=1) rfl ?_);refine box_event ?hg (N:=1) ?hd (cs:=#[.int .i64 a0_0, .slice A0_1 l0_1.length c0_1, .int .i64 a0_2]) (t:=32) ?hr ?_;(case hd=>rfl);(case hg=>rfl);(case hr=>first|(go_simp;done)|(go_simp;rfl));intro gb320 hg w4 hbox hb;have n0_:=am' (bt' xb' hb);have n1_:=am' (hbox);have n2_:=am' ((by rw[hg];exact (bz' xb'):w.heap.size≤gb320));have n3_:=am' ((by rw[hg];exact (bz' xb'):w.heap.size≤gb320));clear HB;have HB:=n0_;have BK320:=n1_;have GW320:=n2_;have GE320:=n3_;clear n0_ n1_ n2_ n3_;clear hb hbox hg;have hcz5_0:w4.cell? ⟨gb320,0,none⟩=some (.int .i64 a0_0):=(bc' BK320.out 0).trans rfl;have hcz5_1:w4.cell? ⟨gb320,1,none⟩=some (.slice A0_1 l0_1.length c0_1):=(bc' BK320.out 1).trans rfl;have hcz5_2:w4.cell? ⟨gb320,2,none⟩=some (.int .i64 a0_2):=(bc' BK320.out 2).trans rfl;have hfz5_0:=bf' BK320.out 0;have hfz5_1:=bf' BK320.out 1;have hfz5_2:=bf' BK320.out 2)|((with_reducible refine gate_callee (f:=61) rfl ?_);refine goesL_ (some 9) rfl rfl Try.func61 xk' rfl #[.agg #[.int .i64 a0_0, .slice A0_1 l0_1.length c0_1, .int .i64 a0_2]] rfl xl' ?_;(with_reducible refine (spec_keGood.calls k a0_0 _ _ l0_1 a0_2 true _ ?side1 ?side2 A2.out).mono ?_);(case side1=>exact kc' (cb' HR0_1.out HB.out));(case side2=>exact HC0_1.out);rintro e w6 ⟨rfl,hb⟩;refine ⟨_,rfl,?_⟩;have n0_:=am' (bb' (g:=gb320) (o := .cells #[.int .i64 a0_0, .slice A0_1 l0_1.length c0_1, .int .i64 a0_2] 32 (0,0)) (kk' BK320.out) hb);have n1_:=am' (bt' (yb' GE320.out) hb);clear BK320;clear HB;have BK320:=n0_;have HB:=n1_;clear n0_ n1_;(try clear hb);(try clear hb2);(try clear hk);(try clear hi)));go_loopg [4] k (fun kq v4 w'=>∃ (x4_1:Int),v4 = .int .i64 x4_1∧Aside0 (spec_LeastSeats.l0 kq x4_1 a0_0 l0_1 a0_2=some (r1,r2))∧Aside0 (kq≤k)∧Aside0 (w'.heap[gb320]? = some (.cells #[.int .i64 a0_0,(.slice A0_1 l0_1.length c0_1), .int .i64 a0_2] 32 (0,0)))∧Aside0 (Below w.heap.size w w'))
  case atStart=>exact ⟨(0),xs',H',⟨Nat.le_refl _⟩,⟨kk' BK320.out⟩,⟨yb' GE320.out⟩⟩
  case round =>
   clear H';try clear c2
   try clear p2
   try clear c3
   try clear c6
   try clear hcz5_0
   try clear hcz5_1
   try clear hcz5_2
   try clear hfz5_0
   try clear hfz5_1
   try clear hfz5_2
   obtain ⟨x4_1,rfl,HA,HK1,BK320,HB⟩:=hrel;cases gk with
   | zero=>exact absurd HA.out (by simp[spec_LeastSeats.l0])
   | succ k1 =>
    have H:=HA.out;clear HA;simp only[spec_LeastSeats.l0] at H;replace H:=Option.bind_eq_some_iff.mp H;obtain ⟨⟨t323,t326⟩,A70,H⟩:=H;replace H:((spec_keStart.f a0_0 l0_1 a0_2).bind fun bt329=>((spec_keIndex.f k1 bt329.1 bt329.2).bind fun t333=>(if 0≤t333 then (if t333 < (t323.length:Int) then (if (rd t323 t333) ≥ 0 then (some (x4_1,true)) else (spec_LeastSeats.l0 k1 (wrap64 (x4_1+1)) a0_0 l0_1 a0_2)) else (none)) else (none))))=some (r1,r2):=H;have A7:=am' A70;clear A70;replace H:=Option.bind_eq_some_iff.mp H;obtain ⟨⟨t329,t332⟩,A80,H⟩:=H;replace H:((spec_keIndex.f k1 t329 t332).bind fun t333=>(if 0≤t333 then (if t333 < (t323.length:Int) then (if (rd t323 t333) ≥ 0 then (some (x4_1,true)) else (spec_LeastSeats.l0 k1 (wrap64 (x4_1+1)) a0_0 l0_1 a0_2)) else (none)) else (none)))=some (r1,r2):=H;have A8:=am' A80;clear A80;replace H:=Option.bind_eq_some_iff.mp H;obtain ⟨t333,A90,H⟩:=H;replace H:(if 0≤t333 then (if t333 < (t323.length:Int) then (if (rd t323 t333) ≥ 0 then (some (x4_1,true)) else (spec_LeastSeats.l0 k1 (wrap64 (x4_1+1)) a0_0 l0_1 a0_2)) else (none)) else (none))=some (r1,r2):=H;have A9:=am' A90;clear A90;by_cases c10:0≤t333
    ·
     rw[if_pos c10] at H;have c10b0:decide (0≤t333)=true:=dt' c10;clear c10;by_cases c11:t333 < (t323.length:Int)
     ·
      rw[if_pos c11] at H;have c11b0:decide (t333 < (t323.length:Int))=true:=dt' c11;clear c11;by_cases c12:(rd t323 t333) ≥ 0
      ·
       rw[if_pos c12] at H;have c12b0:decide (0≤(rd t323 t333))=true:=dt' c12;clear c12;simp only[Option.some.injEq,Prod.mk.injEq] at H;obtain ⟨rfl,rfl⟩:=H;have hcz13_0:wr.cell? ⟨gb320,0,none⟩=some (.int .i64 a0_0):=(bc' BK320.out 0).trans rfl;have hcz13_1:wr.cell? ⟨gb320,1,none⟩=some (.slice A0_1 l0_1.length c0_1):=(bc' BK320.out 1).trans rfl;have hcz13_2:wr.cell? ⟨gb320,2,none⟩=some (.int .i64 a0_2):=(bc' BK320.out 2).trans rfl;have hfz13_0:=bf' BK320.out 0;have hfz13_1:=bf' BK320.out 1;have hfz13_2:=bf' BK320.out 2;go_wp2_with (first|((with_reducible refine gate_dst (N:=5) rfl ?_);refine box_event ?hg (N:=5) ?hd (cs:=#[.int .i64 0, .slice none 0 0, .int .i64 0]) (t:=32) ?hr ?_;(case hd=>rfl);(case hg=>rfl);(case hr=>first|(go_simp;done)|(go_simp;rfl));intro gb322 hg w14 hbox hb;have n0_:=am' (bb' (g:=gb320) (o := .cells #[.int .i64 a0_0, .slice A0_1 l0_1.length c0_1, .int .i64 a0_2] 32 (0,0)) (kk' BK320.out) hb);have n1_:=am' (bt' (yb' GE320.out) hb);have n2_:=am' (hbox);have n3_:=am' ((by rw[hg];exact (bz' (yb' GE320.out)):w.heap.size≤gb322));have n4_:=am' ((by rw[hg];exact (bz' (yb' GE320.out)):w.heap.size≤gb322));have n5_:=am' ((by rw[hg];exact Nat.ne_of_lt (blk_lt (g:=gb320) (o := .cells #[.int .i64 a0_0, .slice A0_1 l0_1.length c0_1, .int .i64 a0_2] 32 (0,0)) (kk' BK320.out)):gb320≠gb322));have n6_:=am' ((by rw[hg];exact Nat.ne_of_gt (blk_lt (g:=gb320) (o := .cells #[.int .i64 a0_0, .slice A0_1 l0_1.length c0_1, .int .i64 a0_2] 32 (0,0)) (kk' BK320.out)):gb322≠gb320));clear BK320;clear HB;have BK320:=n0_;have HB:=n1_;have BK322:=n2_;have GW322:=n3_;have GE322:=n4_;have NB320_322:=n5_;have NB322_320:=n6_;clear n0_ n1_ n2_ n3_ n4_ n5_ n6_;clear hb hbox hg;have hnb15:=NB322_320.out;have hnc15:=NB320_322.out;have hcz16_0:w14.cell? ⟨gb322,0,none⟩=some (.int .i64 0):=(bc' BK322.out 0).trans rfl;have hcz16_1:w14.cell? ⟨gb322,1,none⟩=some (.slice none 0 0):=(bc' BK322.out 1).trans rfl;have hcz16_2:w14.cell? ⟨gb322,2,none⟩=some (.int .i64 0):=(bc' BK322.out 2).trans rfl;have hfz16_0:=bf' BK322.out 0;have hfz16_1:=bf' BK322.out 1;have hfz16_2:=bf' BK322.out 2)|((with_reducible refine gate_callee (f:=69) rfl ?_);refine goesL_ (some 21) rfl rfl Try.func69 xk' rfl #[.agg #[.int .i64 a0_0, .slice A0_1 l0_1.length c0_1, .int .i64 x4_1]] rfl xl' ?_;(with_reducible refine (spec_keFar.calls k1 a0_0 _ _ l0_1 x4_1 t323 t326 _ ?side1 ?side2 A7.out).mono ?_);(case side1=>exact cb' HR0_1.out (y2' GE320.out GE322.out));(case side2=>exact HC0_1.out);rintro e w17 ⟨v324,v327,rfl,ho0,ho1,hb⟩;refine ⟨_,rfl,?_⟩;have n0_:=am' (Kd.R_lower ho0 (bz' (y2' GE320.out GE322.out)));have n1_:=am' (Kd.R_lower ho1 (bz' (y2' GE320.out GE322.out)));have n2_:=am' (bb' (g:=gb320) (o := .cells #[.int .i64 a0_0, .slice A0_1 l0_1.length c0_1, .int .i64 a0_2] 32 (0,0)) (by (with_reducible repeat (first|refine kn' ?_ _|refine kd' ?_|refine ka' ?_ _));refine blk_far ?_ NB320_322.out _;(with_reducible repeat (first|refine kn' ?_ _|refine kd' ?_|refine ka' ?_ _));refine blk_far ?_ NB320_322.out _;(with_reducible repeat (first|refine kn' ?_ _|refine kd' ?_|refine ka' ?_ _));refine blk_far ?_ NB320_322.out _;(with_reducible repeat (first|refine kn' ?_ _|refine kd' ?_|refine ka' ?_ _));exact BK320.out) hb);have n3_:=am' (bb' (g:=gb322) (o := .cells #[.int .i64 a0_0, .slice A0_1 l0_1.length c0_1, .int .i64 x4_1] 32 (0,0)) (by (with_reducible repeat (first|refine kn' ?_ _|refine kd' ?_|refine ka' ?_ _));refine blk_put (cs:=#[.int .i64 a0_0, .slice A0_1 l0_1.length c0_1, .int .i64 0]) ?_ 2 _ rfl;(with_reducible repeat (first|refine kn' ?_ _|refine kd' ?_|refine ka' ?_ _));refine blk_put (cs:=#[.int .i64 a0_0, .slice none 0 0, .int .i64 0]) ?_ 1 _ rfl;(with_reducible repeat (first|refine kn' ?_ _|refine kd' ?_|refine ka' ?_ _));refine blk_put (cs:=#[.int .i64 0, .slice none 0 0, .int .i64 0]) ?_ 0 _ rfl;(with_reducible repeat (first|refine kn' ?_ _|refine kd' ?_|refine ka' ?_ _));exact BK322.out) hb);have n4_:=am' (bt' (y2' GE320.out GE322.out) hb);clear BK320;clear BK322;clear HB;have HO325:=n0_;have HO328:=n1_;have BK320:=n2_;have BK322:=n3_;have HB:=n4_;clear n0_ n1_ n2_ n3_ n4_;(try clear hb);(try clear hb2);(try clear hk);(try clear hi);(try clear ho0);(try clear ho1);have hcz18_0:w17.cell? ⟨gb320,0,none⟩=some (.int .i64 a0_0):=(bc' BK320.out 0).trans rfl;have hcz18_1:w17.cell? ⟨gb320,1,none⟩=some (.slice A0_1 l0_1.length c0_1):=(bc' BK320.out 1).trans rfl;have hcz18_2:w17.cell? ⟨gb320,2,none⟩=some (.int .i64 a0_2):=(bc' BK320.out 2).trans rfl;have hfz18_0:=bf' BK320.out 0;have hfz18_1:=bf' BK320.out 1;have hfz18_2:=bf' BK320.out 2)|((with_reducible refine gate_callee (f:=71) rfl ?_);refine goesL_ (some 26) rfl rfl Try.func71 xk' rfl #[.agg #[.int .i64 a0_0, .slice A0_1 l0_1.length c0_1, .int .i64 a0_2]] rfl xl' ?_;(with_reducible refine (spec_keStart.calls a0_0 _ _ l0_1 a0_2 t329 t332 _ ?side1 ?side2 A8.out).mono ?_);(case side1=>exact kc' (cb' HR0_1.out HB.out));(case side2=>exact HC0_1.out);rintro e w19 ⟨v330,rfl,ho0,hb⟩;refine ⟨_,rfl,?_⟩;have n0_:=am' (rb' (kr' HO325.out) hb);have n1_:=am' (rb' (kr' HO328.out) hb);have n2_:=am' (Kd.R_lower ho0 (bz' (y2' GE320.out GE322.out)));have n3_:=am' (bb' (g:=gb320) (o := .cells #[.int .i64 a0_0, .slice A0_1 l0_1.length c0_1, .int .i64 a0_2] 32 (0,0)) (kk' BK320.out) hb);have n4_:=am' (bb' (g:=gb322) (o := .cells #[.int .i64 a0_0, .slice A0_1 l0_1.length c0_1, .int .i64 x4_1] 32 (0,0)) (kk' BK322.out) hb);have n5_:=am' (bt' (y2' GE320.out GE322.out) hb);clear HO325;clear HO328;clear BK320;clear BK322;clear HB;have HO325:=n0_;have HO328:=n1_;have HO331:=n2_;have BK320:=n3_;have BK322:=n4_;have HB:=n5_;clear n0_ n1_ n2_ n3_ n4_ n5_;(try clear hb);(try clear hb2);(try clear hk);(try clear hi);(try clear ho0);obtain ⟨Ao20,co20,eo20⟩:=Kd.R_slice HO331.out;subst eo20)|((with_reducible refine gate_callee (f:=70) rfl ?_);refine goesL_ (some 27) rfl rfl Try.func70 xk' rfl #[.agg #[.slice Ao20 t329.length co20, .bool t332]] rfl xl' ?_;(with_reducible refine (spec_keIndex.calls k1 _ _ t329 t332 t333 _ ?side1 ?side2 A9.out).mono ?_);(case side1=>exact kc' ((Kd.R_reads' HO331.out).2.2));(case side2=>exact (Kd.R_reads' HO331.out).2.1);rintro e w21 ⟨rfl,hb⟩;refine ⟨_,rfl,?_⟩;have n0_:=am' (rb' (kr' HO325.out) hb);have n1_:=am' (rb' (kr' HO328.out) hb);have n2_:=am' (rb' (kr' HO331.out) hb);have n3_:=am' (bb' (g:=gb320) (o := .cells #[.int .i64 a0_0, .slice A0_1 l0_1.length c0_1, .int .i64 a0_2] 32 (0,0)) (kk' BK320.out) hb);have n4_:=am' (bb' (g:=gb322) (o := .cells #[.int .i64 a0_0, .slice A0_1 l0_1.length c0_1, .int .i64 x4_1] 32 (0,0)) (kk' BK322.out) hb);have n5_:=am' (bt' (y2' GE320.out GE322.out) hb);clear HO325;clear HO328;clear HO331;clear BK320;clear BK322;clear HB;have HO325:=n0_;have HO328:=n1_;have HO331:=n2_;have BK320:=n3_;have BK322:=n4_;have HB:=n5_;clear n0_ n1_ n2_ n3_ n4_ n5_;(try clear hb);(try clear hb2);(try clear hk);(try clear hi);obtain ⟨Ao22,co22,eo22⟩:=Kd.R_slice HO325.out;subst eo22;have p334:0≤(t333:Int):=od' xa';have q334:t333 < (t323.length:Int):=od' xa';obtain ⟨ad334,e334,hx334_0⟩:=Kd.at_int (Kd.R_reads' HO325.out).2.2 t333 p334 q334;cases e334;replace p334:=eq_true p334;replace q334:=eq_true q334))
       go_ret2
       exact ⟨by first|rfl|(simp[errW_none,errW_some] <;> rfl)|(simp[*,errW_none,errW_some] <;> rfl),y2' GE320.out GE322.out⟩
      ·
       rw[if_neg c12] at H;have c12b0:decide (0≤(rd t323 t333))=false:=df' c12;clear c12;have H':=am' H;clear H;have hcz23_0:wr.cell? ⟨gb320,0,none⟩=some (.int .i64 a0_0):=(bc' BK320.out 0).trans rfl;have hcz23_1:wr.cell? ⟨gb320,1,none⟩=some (.slice A0_1 l0_1.length c0_1):=(bc' BK320.out 1).trans rfl;have hcz23_2:wr.cell? ⟨gb320,2,none⟩=some (.int .i64 a0_2):=(bc' BK320.out 2).trans rfl;have hfz23_0:=bf' BK320.out 0;have hfz23_1:=bf' BK320.out 1;have hfz23_2:=bf' BK320.out 2;go_wp2_with (first|((with_reducible refine gate_dst (N:=5) rfl ?_);refine box_event ?hg (N:=5) ?hd (cs:=#[.int .i64 0, .slice none 0 0, .int .i64 0]) (t:=32) ?hr ?_;(case hd=>rfl);(case hg=>rfl);(case hr=>first|(go_simp;done)|(go_simp;rfl));intro gb322 hg w24 hbox hb;have n0_:=am' (bb' (g:=gb320) (o := .cells #[.int .i64 a0_0, .slice A0_1 l0_1.length c0_1, .int .i64 a0_2] 32 (0,0)) (kk' BK320.out) hb);have n1_:=am' (bt' (yb' GE320.out) hb);have n2_:=am' (hbox);have n3_:=am' ((by rw[hg];exact (bz' (yb' GE320.out)):w.heap.size≤gb322));have n4_:=am' ((by rw[hg];exact (bz' (yb' GE320.out)):w.heap.size≤gb322));have n5_:=am' ((by rw[hg];exact Nat.ne_of_lt (blk_lt (g:=gb320) (o := .cells #[.int .i64 a0_0, .slice A0_1 l0_1.length c0_1, .int .i64 a0_2] 32 (0,0)) (kk' BK320.out)):gb320≠gb322));have n6_:=am' ((by rw[hg];exact Nat.ne_of_gt (blk_lt (g:=gb320) (o := .cells #[.int .i64 a0_0, .slice A0_1 l0_1.length c0_1, .int .i64 a0_2] 32 (0,0)) (kk' BK320.out)):gb322≠gb320));clear BK320;clear HB;have BK320:=n0_;have HB:=n1_;have BK322:=n2_;have GW322:=n3_;have GE322:=n4_;have NB320_322:=n5_;have NB322_320:=n6_;clear n0_ n1_ n2_ n3_ n4_ n5_ n6_;clear hb hbox hg;have hnb25:=NB322_320.out;have hnc25:=NB320_322.out;have hcz26_0:w24.cell? ⟨gb322,0,none⟩=some (.int .i64 0):=(bc' BK322.out 0).trans rfl;have hcz26_1:w24.cell? ⟨gb322,1,none⟩=some (.slice none 0 0):=(bc' BK322.out 1).trans rfl;have hcz26_2:w24.cell? ⟨gb322,2,none⟩=some (.int .i64 0):=(bc' BK322.out 2).trans rfl;have hfz26_0:=bf' BK322.out 0;have hfz26_1:=bf' BK322.out 1;have hfz26_2:=bf' BK322.out 2)|((with_reducible refine gate_callee (f:=69) rfl ?_);refine goesL_ (some 21) rfl rfl Try.func69 xk' rfl #[.agg #[.int .i64 a0_0, .slice A0_1 l0_1.length c0_1, .int .i64 x4_1]] rfl xl' ?_;(with_reducible refine (spec_keFar.calls k1 a0_0 _ _ l0_1 x4_1 t323 t326 _ ?side1 ?side2 A7.out).mono ?_);(case side1=>exact cb' HR0_1.out (y2' GE320.out GE322.out));(case side2=>exact HC0_1.out);rintro e w27 ⟨v324,v327,rfl,ho0,ho1,hb⟩;refine ⟨_,rfl,?_⟩;have n0_:=am' (Kd.R_lower ho0 (bz' (y2' GE320.out GE322.out)));have n1_:=am' (Kd.R_lower ho1 (bz' (y2' GE320.out GE322.out)));have n2_:=am' (bb' (g:=gb320) (o := .cells #[.int .i64 a0_0, .slice A0_1 l0_1.length c0_1, .int .i64 a0_2] 32 (0,0)) (by (with_reducible repeat (first|refine kn' ?_ _|refine kd' ?_|refine ka' ?_ _));refine blk_far ?_ NB320_322.out _;(with_reducible repeat (first|refine kn' ?_ _|refine kd' ?_|refine ka' ?_ _));refine blk_far ?_ NB320_322.out _;(with_reducible repeat (first|refine kn' ?_ _|refine kd' ?_|refine ka' ?_ _));refine blk_far ?_ NB320_322.out _;(with_reducible repeat (first|refine kn' ?_ _|refine kd' ?_|refine ka' ?_ _));exact BK320.out) hb);have n3_:=am' (bb' (g:=gb322) (o := .cells #[.int .i64 a0_0, .slice A0_1 l0_1.length c0_1, .int .i64 x4_1] 32 (0,0)) (by (with_reducible repeat (first|refine kn' ?_ _|refine kd' ?_|refine ka' ?_ _));refine blk_put (cs:=#[.int .i64 a0_0, .slice A0_1 l0_1.length c0_1, .int .i64 0]) ?_ 2 _ rfl;(with_reducible repeat (first|refine kn' ?_ _|refine kd' ?_|refine ka' ?_ _));refine blk_put (cs:=#[.int .i64 a0_0, .slice none 0 0, .int .i64 0]) ?_ 1 _ rfl;(with_reducible repeat (first|refine kn' ?_ _|refine kd' ?_|refine ka' ?_ _));refine blk_put (cs:=#[.int .i64 0, .slice none 0 0, .int .i64 0]) ?_ 0 _ rfl;(with_reducible repeat (first|refine kn' ?_ _|refine kd' ?_|refine ka' ?_ _));exact BK322.out) hb);have n4_:=am' (bt' (y2' GE320.out GE322.out) hb);clear BK320;clear BK322;clear HB;have HO325:=n0_;have HO328:=n1_;have BK320:=n2_;have BK322:=n3_;have HB:=n4_;clear n0_ n1_ n2_ n3_ n4_;(try clear hb);(try clear hb2);(try clear hk);(try clear hi);(try clear ho0);(try clear ho1);have hcz28_0:w27.cell? ⟨gb320,0,none⟩=some (.int .i64 a0_0):=(bc' BK320.out 0).trans rfl;have hcz28_1:w27.cell? ⟨gb320,1,none⟩=some (.slice A0_1 l0_1.length c0_1):=(bc' BK320.out 1).trans rfl;have hcz28_2:w27.cell? ⟨gb320,2,none⟩=some (.int .i64 a0_2):=(bc' BK320.out 2).trans rfl;have hfz28_0:=bf' BK320.out 0;have hfz28_1:=bf' BK320.out 1;have hfz28_2:=bf' BK320.out 2)|((with_reducible refine gate_callee (f:=71) rfl ?_);refine goesL_ (some 26) rfl rfl Try.func71 xk' rfl #[.agg #[.int .i64 a0_0, .slice A0_1 l0_1.length c0_1, .int .i64 a0_2]] rfl xl' ?_;(with_reducible refine (spec_keStart.calls a0_0 _ _ l0_1 a0_2 t329 t332 _ ?side1 ?side2 A8.out).mono ?_);(case side1=>exact kc' (cb' HR0_1.out HB.out));(case side2=>exact HC0_1.out);rintro e w29 ⟨v330,rfl,ho0,hb⟩;refine ⟨_,rfl,?_⟩;have n0_:=am' (rb' (kr' HO325.out) hb);have n1_:=am' (rb' (kr' HO328.out) hb);have n2_:=am' (Kd.R_lower ho0 (bz' (y2' GE320.out GE322.out)));have n3_:=am' (bb' (g:=gb320) (o := .cells #[.int .i64 a0_0, .slice A0_1 l0_1.length c0_1, .int .i64 a0_2] 32 (0,0)) (kk' BK320.out) hb);have n4_:=am' (bb' (g:=gb322) (o := .cells #[.int .i64 a0_0, .slice A0_1 l0_1.length c0_1, .int .i64 x4_1] 32 (0,0)) (kk' BK322.out) hb);have n5_:=am' (bt' (y2' GE320.out GE322.out) hb);clear HO325;clear HO328;clear BK320;clear BK322;clear HB;have HO325:=n0_;have HO328:=n1_;have HO331:=n2_;have BK320:=n3_;have BK322:=n4_;have HB:=n5_;clear n0_ n1_ n2_ n3_ n4_ n5_;(try clear hb);(try clear hb2);(try clear hk);(try clear hi);(try clear ho0);obtain ⟨Ao30,co30,eo30⟩:=Kd.R_slice HO331.out;subst eo30)|((with_reducible refine gate_callee (f:=70) rfl ?_);refine goesL_ (some 27) rfl rfl Try.func70 xk' rfl #[.agg #[.slice Ao30 t329.length co30, .bool t332]] rfl xl' ?_;(with_reducible refine (spec_keIndex.calls k1 _ _ t329 t332 t333 _ ?side1 ?side2 A9.out).mono ?_);(case side1=>exact kc' ((Kd.R_reads' HO331.out).2.2));(case side2=>exact (Kd.R_reads' HO331.out).2.1);rintro e w31 ⟨rfl,hb⟩;refine ⟨_,rfl,?_⟩;have n0_:=am' (rb' (kr' HO325.out) hb);have n1_:=am' (rb' (kr' HO328.out) hb);have n2_:=am' (rb' (kr' HO331.out) hb);have n3_:=am' (bb' (g:=gb320) (o := .cells #[.int .i64 a0_0, .slice A0_1 l0_1.length c0_1, .int .i64 a0_2] 32 (0,0)) (kk' BK320.out) hb);have n4_:=am' (bb' (g:=gb322) (o := .cells #[.int .i64 a0_0, .slice A0_1 l0_1.length c0_1, .int .i64 x4_1] 32 (0,0)) (kk' BK322.out) hb);have n5_:=am' (bt' (y2' GE320.out GE322.out) hb);clear HO325;clear HO328;clear HO331;clear BK320;clear BK322;clear HB;have HO325:=n0_;have HO328:=n1_;have HO331:=n2_;have BK320:=n3_;have BK322:=n4_;have HB:=n5_;clear n0_ n1_ n2_ n3_ n4_ n5_;(try clear hb);(try clear hb2);(try clear hk);(try clear hi);obtain ⟨Ao32,co32,eo32⟩:=Kd.R_slice HO325.out;subst eo32;have p334:0≤(t333:Int):=od' xa';have q334:t333 < (t323.length:Int):=od' xa';obtain ⟨ad334,e334,hx334_0⟩:=Kd.at_int (Kd.R_reads' HO325.out).2.2 t333 p334 q334;cases e334;replace p334:=eq_true p334;replace q334:=eq_true q334))
       go_roundg k1
       case measure=>have:=HK1.out;omega
       case rel=>exact ⟨(wrap64 (x4_1+1)),xs',H',⟨by have:=HK1.out;omega⟩,⟨kk' BK320.out⟩,⟨y2' GE320.out GE322.out⟩⟩
     ·
      rw[if_neg c11] at H;exact absurd H (by simp)
    ·
     rw[if_neg c10] at H;exact absurd H (by simp)
 ·
  replace c3:=Bool.eq_false_iff.mpr c3;subst c3;have H1:(some (0,false))=some (r1,r2):=by rw[if_neg (show ¬ (false=true) by decide)] at H;exact H
  clear H;have H:=H1;clear H1;simp only[Option.some.injEq,Prod.mk.injEq] at H;obtain ⟨rfl,rfl⟩:=H;go_enter Try.func27,Try.ntmps27;go_wp2_with (first|((with_reducible refine gate_dst (N:=1) rfl ?_);refine box_event ?hg (N:=1) ?hd (cs:=#[.int .i64 a0_0, .slice A0_1 l0_1.length c0_1, .int .i64 a0_2]) (t:=32) ?hr ?_;(case hd=>rfl);(case hg=>rfl);(case hr=>first|(go_simp;done)|(go_simp;rfl));intro gb320 hg w33 hbox hb;have n0_:=am' (bt' xb' hb);have n1_:=am' (hbox);have n2_:=am' ((by rw[hg];exact (bz' xb'):w.heap.size≤gb320));have n3_:=am' ((by rw[hg];exact (bz' xb'):w.heap.size≤gb320));clear HB;have HB:=n0_;have BK320:=n1_;have GW320:=n2_;have GE320:=n3_;clear n0_ n1_ n2_ n3_;clear hb hbox hg;have hcz34_0:w33.cell? ⟨gb320,0,none⟩=some (.int .i64 a0_0):=(bc' BK320.out 0).trans rfl;have hcz34_1:w33.cell? ⟨gb320,1,none⟩=some (.slice A0_1 l0_1.length c0_1):=(bc' BK320.out 1).trans rfl;have hcz34_2:w33.cell? ⟨gb320,2,none⟩=some (.int .i64 a0_2):=(bc' BK320.out 2).trans rfl;have hfz34_0:=bf' BK320.out 0;have hfz34_1:=bf' BK320.out 1;have hfz34_2:=bf' BK320.out 2)|((with_reducible refine gate_callee (f:=61) rfl ?_);refine goesL_ (some 9) rfl rfl Try.func61 xk' rfl #[.agg #[.int .i64 a0_0, .slice A0_1 l0_1.length c0_1, .int .i64 a0_2]] rfl xl' ?_;(with_reducible refine (spec_keGood.calls k a0_0 _ _ l0_1 a0_2 false _ ?side1 ?side2 A2.out).mono ?_);(case side1=>exact kc' (cb' HR0_1.out HB.out));(case side2=>exact HC0_1.out);rintro e w35 ⟨rfl,hb⟩;refine ⟨_,rfl,?_⟩;have n0_:=am' (bb' (g:=gb320) (o := .cells #[.int .i64 a0_0, .slice A0_1 l0_1.length c0_1, .int .i64 a0_2] 32 (0,0)) (kk' BK320.out) hb);have n1_:=am' (bt' (yb' GE320.out) hb);clear BK320;clear HB;have BK320:=n0_;have HB:=n1_;clear n0_ n1_;(try clear hb);(try clear hb2);(try clear hk);(try clear hi)));go_ret2
  exact ⟨by first|rfl|(simp[errW_none,errW_some] <;> rfl)|(simp[*,errW_none,errW_some] <;> rfl),yb' GE320.out⟩
def impl_in.f (a0:Int) (a1:Int) (a2:Int):Option (Bool):=if a1≤a0 then (some (decide (a0≤a2))) else (some false)
set_option maxHeartbeats 8000000 in
set_option maxRecDepth 100000 in
theorem impl_in.calls (a0:Int) (a1:Int) (a2:Int) (r:Bool) (w:World) (h:impl_in.f a0 a1 a2=some r) :
  Calls Try.prog 81 #[.int .i64 a0, .int .i64 a1, .int .i64 a2] w fun e w'=>e = .returned (.bool r)∧Drawn0 w w':=by
 have H:(if a1≤a0 then (some (decide (a0≤a2))) else (some false))=some r:=h
 clear h;by_cases c4:a1≤a0
 ·
  rw[if_pos c4] at H;have c4b0:decide (a1≤a0)=true:=dt' c4;clear c4;obtain rfl:=os' H;go_enter Try.func81,Try.ntmps81;go_wp2;go_ret
  exact ⟨xs',by repeat (first|exact Drawn0.refl _|apply Drawn0.step)⟩
 ·
  rw[if_neg c4] at H;have c4b0:decide (a1≤a0)=false:=df' c4;clear c4;obtain rfl:=os' H;go_enter Try.func81,Try.ntmps81;go_wp2;go_ret
  exact ⟨xs',by repeat (first|exact Drawn0.refl _|apply Drawn0.step)⟩
def PredOn (g:Nat) (lb:Array Value) (p:Int→Bool) (xs:List Int) (w:World):Prop :=
 ∀ x,x ∈ xs→∀ W:World,Below w.heap.size w W→Calls Try.prog g (#[.int .i64 x] ++ lb) W fun e w'=>e = .returned (.bool (p x))∧Below W.heap.size W w'
set_option maxHeartbeats 2000000 in
set_option maxRecDepth 100000 in
theorem IndexFunc_any (g:Nat) (lb:Array Value) (p:Int→Bool) (eg:∀ args w,(callFunc g args).run Try.prog w = .ok (.enter g args) w) (A0:Option Addr) (c0:Nat) (xs:List Int) (w:World) (hr:Kd.C (Kd.int .i64) w A0 xs.length xs) (hl:xs.length≤c0) (hbig:xs.length≤9223372036854775807)
  (hp:PredOn g lb p xs w) :
  Calls Try.prog 124 #[.slice A0 xs.length c0, .func (.func g) #[] lb] w fun e w'=>e = .returned (.int .i64 (idxF p xs))∧Below w.heap.size w w':=by
 have HP:=am' hp
 have HR:=am' hr
 clear hp hr;go_enter Try.func124,Try.ntmps124
 go_wp2
 go_loopg [5,8] xs.length (fun gg _ s8 wr=>∃ kk:Nat,kk≤xs.length∧xs.length - kk≤gg∧s8 = .int .i64 kk∧Aside0 (Below w.heap.size w wr)∧Aside0 (∀ j,j < kk→p (rd xs (j:Nat))=false))
 case atStart=>exact ⟨0,Nat.zero_le _,by omega,rfl,⟨Below.refl _ w⟩,⟨fun j hj=>absurd hj (Nat.not_lt_zero _)⟩⟩
 case round =>
  obtain ⟨kk,hkk,hg,rfl,BW,AA⟩:=hrel;by_cases hlt:kk < xs.length
  ·
   have hltz:(kk:Int) < (xs.length:Int):=by omega
   obtain ⟨ad,e0,hx0⟩:=Kd.at_int HR.out (kk:Int) (by omega) hltz;cases e0;have hx:=(BW.out.cell (bl' w _ hx0)).trans hx0;clear hx0;rw[Int.toNat_natCast] at hx;have hcall:=HP.out (rd xs kk) (rd_mem xs kk hlt) wr BW.out;generalize hy:rd xs kk=y at hx hcall
   have B:Aside0 (rd xs kk=y):=⟨hy⟩
   clear hy;cases hq:p y with
   | true =>
    rw[hq] at hcall;go_wp2_with fail;refine hcall.mono ?_
    rintro e w' ⟨rfl,hb'⟩
    clear hcall hx;go_wp2;go_ret
    refine ⟨?_,bt' BW.out hb'⟩;rw[idxF_hit p xs kk hlt (by rw[B.out];exact hq) AA.out];rfl
   | false =>
    rw[hq] at hcall;go_wp2_with fail;refine hcall.mono ?_
    rintro e w' ⟨rfl,hb'⟩
    clear hcall hx;go_wp2;go_roundg (xs.length - (kk+1))
    case measure=>omega
    case rel =>
     refine ⟨kk+1,by omega,by omega,by go_num,⟨bt' BW.out hb'⟩,⟨fun j hj=>?_⟩⟩;by_cases e:j=kk
     ·
      subst e;rw[B.out];exact hq
     ·
      exact AA.out j (by omega)
  ·
   have hltz:¬ (kk:Int) < (xs.length:Int):=by omega
   have:kk=xs.length:=by omega
   subst this;go_wp2;go_ret
   refine ⟨?_,BW.out⟩;rw[idxF_miss p xs AA.out];rfl
set_option maxHeartbeats 2000000 in
set_option maxRecDepth 100000 in
theorem ContainsFunc_any (g:Nat) (lb:Array Value) (p:Int→Bool) (eg:∀ args w,(callFunc g args).run Try.prog w = .ok (.enter g args) w) (A0:Option Addr) (c0:Nat) (xs:List Int) (w:World) (hr:Kd.C (Kd.int .i64) w A0 xs.length xs) (hl:xs.length≤c0) (hbig:xs.length≤9223372036854775807)
  (hp:PredOn g lb p xs w) :
  Calls Try.prog 110 #[.slice A0 xs.length c0, .func (.func g) #[] lb] w fun e w'=>e = .returned (.bool (xs.any p))∧Below w.heap.size w w':=by
 have HH:=am' (IndexFunc_any g lb p eg A0 c0 xs w hr hl hbig hp)
 clear hr hl hp;go_enter Try.func110,Try.ntmps110
 go_wp2_with (go_at_call 124;refine HH.out.mono ?_;rintro e w' ⟨rfl,hb⟩)
 go_ret
 refine ⟨?_,hb⟩
 rw[← idxF_any]
 rfl
theorem in_calls (x lo hi:Int) (w:World):Calls Try.prog 81 #[.int .i64 x, .int .i64 lo, .int .i64 hi] w fun e w'=>e = .returned (.bool (inB lo hi x))∧Below w.heap.size w w' :=
 (impl_in.calls x lo hi (inB lo hi x) w (by unfold impl_in.f inB;by_cases h:lo≤x <;> simp [h])).mono fun e w' ⟨he,hd⟩=>⟨he,hd.below⟩
theorem areIn1_calls (x lo hi:Int) (b1 b2:Nat) (w:World) (h1:w.cell? ⟨b1,0,none⟩=some (.int .i64 lo)) (h2:w.cell? ⟨b2,0,none⟩=some (.int .i64 hi)) :
  Calls Try.prog 111 #[.int .i64 x, .pointer (some ⟨b1,0,none⟩), .pointer (some ⟨b2,0,none⟩)] w fun e w'=>e = .returned (.bool (!inB lo hi x))∧Below w.heap.size w w':=by
 go_enter Try.func111,Try.ntmps111
 go_wp2_with (go_at_call 81;refine (in_calls _ _ _ _).mono ?_;rintro e w' ⟨rfl,hb⟩)
 go_ret
 exact ⟨rfl,hb⟩
theorem areIn_pred (lo hi:Int) (b1 b2:Nat) (xs:List Int) (w:World) (h1:w.cell? ⟨b1,0,none⟩=some (.int .i64 lo)) (h2:w.cell? ⟨b2,0,none⟩=some (.int .i64 hi)) :
  PredOn 111 #[.pointer (some ⟨b1,0,none⟩), .pointer (some ⟨b2,0,none⟩)] (fun x => !inB lo hi x) xs w:=fun x _ W hb =>
 areIn1_calls x lo hi b1 b2 W ((hb.cell (bl' w _ h1)).trans h1) ((hb.cell (bl' w _ h2)).trans h2)
def impl_areIn.f (l0:List Int) (a1 a2 a3 a4:Int):Option Bool:=some (inB a3 a4 (l0.length:Int) && l0.all (inB a1 a2))
set_option maxHeartbeats 2000000 in
set_option maxRecDepth 100000 in
theorem impl_areIn.calls (A0:Option Addr) (c0:Nat) (l0:List Int) (a1 a2 a3 a4:Int) (r:Bool) (w:World) (hr0:Kd.C (Kd.int .i64) w A0 l0.length l0) (hc0:l0.length≤c0) (h:impl_areIn.f l0 a1 a2 a3 a4=some r) :
  Calls Try.prog 82 #[.slice A0 l0.length c0, .int .i64 a1, .int .i64 a2, .int .i64 a3, .int .i64 a4] w fun e w'=>e = .returned (.bool r)∧Below w.heap.size w w':=by
 have hbig:l0.length≤9223372036854775807:=hr0.2.1
 have HC:=am' (fun (w1:World) (h1:Below w.heap.size w w1) (b1 b2:Nat) (e1:w1.cell? ⟨b1,0,none⟩=some (.int .i64 a1)) (e2:w1.cell? ⟨b2,0,none⟩=some (.int .i64 a2)) =>
  ContainsFunc_any 111 #[.pointer (some ⟨b1,0,none⟩), .pointer (some ⟨b2,0,none⟩)] (fun x => !inB a1 a2 x) (enters_of Try.func111 xk' rfl) A0 c0 l0 w1 (cb' hr0 h1) hc0 hbig (areIn_pred a1 a2 b1 b2 l0 w1 e1 e2))
 clear hr0;cases hi:inB a3 a4 (l0.length:Int) with
 | false =>
  obtain rfl:false=r:=by unfold impl_areIn.f at h;simpa [hi] using h
  clear h;go_enter Try.func82,Try.ntmps82;go_wp2_with (go_at_call 81;refine (in_calls _ _ _ _).mono ?_;rintro e w' ⟨rfl,hb⟩);go_ret
  exact ⟨rfl,(after_alloc (after_alloc hb).1).1⟩
 | true =>
  obtain rfl:l0.all (inB a1 a2)=r:=by unfold impl_areIn.f at h;simpa [hi] using h
  clear h;go_enter Try.func82,Try.ntmps82;go_wp2_with (go_at_call 81;refine (in_calls _ _ _ _).mono ?_;rintro e w' ⟨rfl,hb⟩);have h2:=after_alloc hb;have h1:=after_alloc h2.1;rw[World.size_alloc] at h2;refine (HC.out w' h1.1 _ _ ((bc' h1.2 0).trans rfl) ((bc' h2.2 0).trans rfl)).mono ?_
  rintro e w2 ⟨rfl,hb2⟩
  clear hb h2;have HB2:=am' (bt' h1.1 hb2);clear h1 hb2;go_wp2;go_ret
  refine ⟨?_,HB2.out⟩;rw[← any_not_all];rfl
def cmp_isNaN_int.f (a0:Int):Option (Bool):=some (a0 != a0)
set_option maxHeartbeats 8000000 in
set_option maxRecDepth 100000 in
theorem cmp_isNaN_int.calls (a0:Int) (r:Bool) (w:World) (h:cmp_isNaN_int.f a0=some r) :
  Calls Try.prog 125 #[.int .i64 a0] w fun e w'=>e = .returned (.bool r)∧Drawn0 w w':=by
 have H:(some (a0 != a0))=some r:=h
 clear h;obtain rfl:=os' H
 go_enter Try.func125,Try.ntmps125
 go_wp2
 go_ret
 exact ⟨xs',by repeat (first|exact Drawn0.refl _|apply Drawn0.step)⟩
def cmp_Compare_int.f (a0:Int) (a1:Int):Option (Int):=(cmp_isNaN_int.f a0).bind fun t335=>((cmp_isNaN_int.f a1).bind fun t336=>(if t335=true then (if t336=true then (some 0) else (some (-1))) else (if t336=true then (some 1) else (if a0 < a1 then (some (-1)) else (if a0 > a1 then (some 1) else (some 0))))))
set_option maxHeartbeats 8000000 in
set_option maxRecDepth 100000 in
theorem cmp_Compare_int.calls (a0:Int) (a1:Int) (r:Int) (w:World) (h:cmp_Compare_int.f a0 a1=some r) :
  Calls Try.prog 112 #[.int .i64 a0, .int .i64 a1] w fun e w'=>e = .returned (.int .i64 r)∧Drawn0 w w':=by
 have H:((cmp_isNaN_int.f a0).bind fun t335=>((cmp_isNaN_int.f a1).bind fun t336=>(if t335=true then (if t336=true then (some 0) else (some (-1))) else (if t336=true then (some 1) else (if a0 < a1 then (some (-1)) else (if a0 > a1 then (some 1) else (some 0)))))))=some r:=h
 clear h;replace H:=Option.bind_eq_some_iff.mp H
 obtain ⟨t335,A30,H⟩:=H
 replace H:((cmp_isNaN_int.f a1).bind fun t336=>(if t335=true then (if t336=true then (some 0) else (some (-1))) else (if t336=true then (some 1) else (if a0 < a1 then (some (-1)) else (if a0 > a1 then (some 1) else (some 0))))))=some r:=H
 have A3:=am' A30
 clear A30;replace H:=Option.bind_eq_some_iff.mp H
 obtain ⟨t336,A40,H⟩:=H
 replace H:(if t335=true then (if t336=true then (some 0) else (some (-1))) else (if t336=true then (some 1) else (if a0 < a1 then (some (-1)) else (if a0 > a1 then (some 1) else (some 0)))))=some r:=H
 have A4:=am' A40
 clear A40;by_cases c5:t335=true
 ·
  subst c5;have H1:(if t336=true then (some 0) else (some (-1)))=some r:=by rw[if_pos rfl] at H;exact H
  clear H;have H:=H1;clear H1;by_cases c6:t336=true
  ·
   subst c6;have H1:(some 0)=some r:=by rw[if_pos rfl] at H;exact H
   clear H;have H:=H1;clear H1;obtain rfl:=os' H;go_enter Try.func112,Try.ntmps112;go_wp2_with (first|((with_reducible refine gate_callee (f:=125) rfl ?_);refine goesL_ (some 8) rfl rfl Try.func125 xk' rfl #[.int .i64 a0] rfl xl' ?_;(with_reducible refine (cmp_isNaN_int.calls a0 true _ A3.out).mono ?_);rintro e w' ⟨rfl,⟨nd,rfl⟩⟩;refine ⟨_,rfl,?_⟩)|((with_reducible refine gate_callee (f:=125) rfl ?_);refine goesL_ (some 10) rfl rfl Try.func125 xk' rfl #[.int .i64 a1] rfl xl' ?_;(with_reducible refine (cmp_isNaN_int.calls a1 true _ A4.out).mono ?_);rintro e w' ⟨rfl,⟨nd,rfl⟩⟩;refine ⟨_,rfl,?_⟩));go_ret
   exact ⟨xs',by repeat (first|exact Drawn0.refl _|apply Drawn0.step)⟩
  ·
   replace c6:=Bool.eq_false_iff.mpr c6;subst c6;have H1:(some (-1))=some r:=by rw[if_neg (show ¬ (false=true) by decide)] at H;exact H
   clear H;have H:=H1;clear H1;obtain rfl:=os' H;go_enter Try.func112,Try.ntmps112;go_wp2_with (first|((with_reducible refine gate_callee (f:=125) rfl ?_);refine goesL_ (some 8) rfl rfl Try.func125 xk' rfl #[.int .i64 a0] rfl xl' ?_;(with_reducible refine (cmp_isNaN_int.calls a0 true _ A3.out).mono ?_);rintro e w' ⟨rfl,⟨nd,rfl⟩⟩;refine ⟨_,rfl,?_⟩)|((with_reducible refine gate_callee (f:=125) rfl ?_);refine goesL_ (some 10) rfl rfl Try.func125 xk' rfl #[.int .i64 a1] rfl xl' ?_;(with_reducible refine (cmp_isNaN_int.calls a1 false _ A4.out).mono ?_);rintro e w' ⟨rfl,⟨nd,rfl⟩⟩;refine ⟨_,rfl,?_⟩));go_ret
   exact ⟨xs',by repeat (first|exact Drawn0.refl _|apply Drawn0.step)⟩
 ·
  replace c5:=Bool.eq_false_iff.mpr c5;subst c5;have H1:(if t336=true then (some 1) else (if a0 < a1 then (some (-1)) else (if a0 > a1 then (some 1) else (some 0))))=some r:=by rw[if_neg (show ¬ (false=true) by decide)] at H;exact H
  clear H;have H:=H1;clear H1;by_cases c7:t336=true
  ·
   subst c7;have H1:(some 1)=some r:=by rw[if_pos rfl] at H;exact H
   clear H;have H:=H1;clear H1;obtain rfl:=os' H;go_enter Try.func112,Try.ntmps112;go_wp2_with (first|((with_reducible refine gate_callee (f:=125) rfl ?_);refine goesL_ (some 8) rfl rfl Try.func125 xk' rfl #[.int .i64 a0] rfl xl' ?_;(with_reducible refine (cmp_isNaN_int.calls a0 false _ A3.out).mono ?_);rintro e w' ⟨rfl,⟨nd,rfl⟩⟩;refine ⟨_,rfl,?_⟩)|((with_reducible refine gate_callee (f:=125) rfl ?_);refine goesL_ (some 10) rfl rfl Try.func125 xk' rfl #[.int .i64 a1] rfl xl' ?_;(with_reducible refine (cmp_isNaN_int.calls a1 true _ A4.out).mono ?_);rintro e w' ⟨rfl,⟨nd,rfl⟩⟩;refine ⟨_,rfl,?_⟩));go_ret
   exact ⟨xs',by repeat (first|exact Drawn0.refl _|apply Drawn0.step)⟩
  ·
   replace c7:=Bool.eq_false_iff.mpr c7;subst c7;have H1:(if a0 < a1 then (some (-1)) else (if a0 > a1 then (some 1) else (some 0)))=some r:=by rw[if_neg (show ¬ (false=true) by decide)] at H;exact H
   clear H;have H:=H1;clear H1;by_cases c8:a0 < a1
   ·
    rw[if_pos c8] at H;have c8b0:decide (a0 < a1)=true:=dt' c8;clear c8;obtain rfl:=os' H;go_enter Try.func112,Try.ntmps112;go_wp2_with (first|((with_reducible refine gate_callee (f:=125) rfl ?_);refine goesL_ (some 8) rfl rfl Try.func125 xk' rfl #[.int .i64 a0] rfl xl' ?_;(with_reducible refine (cmp_isNaN_int.calls a0 false _ A3.out).mono ?_);rintro e w' ⟨rfl,⟨nd,rfl⟩⟩;refine ⟨_,rfl,?_⟩)|((with_reducible refine gate_callee (f:=125) rfl ?_);refine goesL_ (some 10) rfl rfl Try.func125 xk' rfl #[.int .i64 a1] rfl xl' ?_;(with_reducible refine (cmp_isNaN_int.calls a1 false _ A4.out).mono ?_);rintro e w' ⟨rfl,⟨nd,rfl⟩⟩;refine ⟨_,rfl,?_⟩));go_ret
    exact ⟨xs',by repeat (first|exact Drawn0.refl _|apply Drawn0.step)⟩
   ·
    rw[if_neg c8] at H;have c8b0:decide (a0 < a1)=false:=df' c8;clear c8;by_cases c9:a0 > a1
    ·
     rw[if_pos c9] at H;have c9b0:decide (a1 < a0)=true:=dt' c9;clear c9;obtain rfl:=os' H;go_enter Try.func112,Try.ntmps112;go_wp2_with (first|((with_reducible refine gate_callee (f:=125) rfl ?_);refine goesL_ (some 8) rfl rfl Try.func125 xk' rfl #[.int .i64 a0] rfl xl' ?_;(with_reducible refine (cmp_isNaN_int.calls a0 false _ A3.out).mono ?_);rintro e w' ⟨rfl,⟨nd,rfl⟩⟩;refine ⟨_,rfl,?_⟩)|((with_reducible refine gate_callee (f:=125) rfl ?_);refine goesL_ (some 10) rfl rfl Try.func125 xk' rfl #[.int .i64 a1] rfl xl' ?_;(with_reducible refine (cmp_isNaN_int.calls a1 false _ A4.out).mono ?_);rintro e w' ⟨rfl,⟨nd,rfl⟩⟩;refine ⟨_,rfl,?_⟩));go_ret
     exact ⟨xs',by repeat (first|exact Drawn0.refl _|apply Drawn0.step)⟩
    ·
     rw[if_neg c9] at H;have c9b0:decide (a1 < a0)=false:=df' c9;clear c9;obtain rfl:=os' H;go_enter Try.func112,Try.ntmps112;go_wp2_with (first|((with_reducible refine gate_callee (f:=125) rfl ?_);refine goesL_ (some 8) rfl rfl Try.func125 xk' rfl #[.int .i64 a0] rfl xl' ?_;(with_reducible refine (cmp_isNaN_int.calls a0 false _ A3.out).mono ?_);rintro e w' ⟨rfl,⟨nd,rfl⟩⟩;refine ⟨_,rfl,?_⟩)|((with_reducible refine gate_callee (f:=125) rfl ?_);refine goesL_ (some 10) rfl rfl Try.func125 xk' rfl #[.int .i64 a1] rfl xl' ?_;(with_reducible refine (cmp_isNaN_int.calls a1 false _ A4.out).mono ?_);rintro e w' ⟨rfl,⟨nd,rfl⟩⟩;refine ⟨_,rfl,?_⟩));go_ret
     exact ⟨xs',by repeat (first|exact Drawn0.refl _|apply Drawn0.step)⟩
def slices_Compare_int_int.l0:Nat→List Int→List Int→List Int→Int→Int→Option (Int)
 | 0,_,_,_,_,_=>none
 | k+1,x0,x1,x9,x10,x11=>if x11 < x10 then (if 0≤x11 then (if x11 < (x9.length:Int) then (if x11 ≥ (x1.length:Int) then (some 1) else (if x11 < (x1.length:Int) then ((cmp_Compare_int.f (rd x9 x11) (rd x1 x11)).bind fun t339=>(if t339=0 then (slices_Compare_int_int.l0 k x0 x1 x9 x10 (wrap64 (x11+1))) else (some t339))) else (none))) else (none)) else (none)) else (if (x0.length:Int) < (x1.length:Int) then (some (-1)) else (some 0))
def slices_Compare_int_int.f (k:Nat) (l0:List Int) (l1:List Int):Option (Int):=slices_Compare_int_int.l0 k l0 l1 l0 (l0.length:Int) 0
set_option maxHeartbeats 8000000 in
set_option maxRecDepth 100000 in
theorem slices_Compare_int_int.calls (k:Nat) (A0:Option Addr) (c0:Nat) (l0:List Int) (A1:Option Addr) (c1:Nat) (l1:List Int) (r:Int) (w:World) (hr0:Kd.C (Kd.int .i64) w A0 l0.length l0) (hc0:l0.length≤c0) (hr1:Kd.C (Kd.int .i64) w A1 l1.length l1) (hc1:l1.length≤c1) (h:slices_Compare_int_int.f k l0 l1=some r) :
  Calls Try.prog 83 #[.slice A0 l0.length c0, .slice A1 l1.length c1] w fun e w'=>e = .returned (.int .i64 r)∧Drawn0 w w':=by
 have HR0:=am' hr0
 have HC0:=am' hc0
 clear hr0 hc0;have HR1:=am' hr1
 have HC1:=am' hc1
 clear hr1 hc1;have H:(slices_Compare_int_int.l0 k l0 l1 l0 (l0.length:Int) 0)=some r:=h
 clear h;have H':=am' H
 clear H;go_enter Try.func83,Try.ntmps83
 go_wp2
 go_loopg [11] k (fun kq v11 w'=>∃ (x11_1:Int),v11 = .int .i64 x11_1∧Aside0 (slices_Compare_int_int.l0 kq l0 l1 l0 (l0.length:Int) x11_1=some r)∧Aside0 (kq≤k)∧Drawn0 w w')
 case atStart=>exact ⟨(0),xs',H',⟨Nat.le_refl _⟩,by repeat (first|exact Drawn0.refl _|apply Drawn0.step)⟩
 case round =>
  clear H';try clear c1
  try clear p2
  obtain ⟨x11_1,rfl,HA,HK1,⟨m1,rfl⟩⟩:=hrel;cases gk with
  | zero=>exact absurd HA.out (by simp[slices_Compare_int_int.l0])
  | succ k1 =>
   have H:=HA.out;clear HA;simp only[slices_Compare_int_int.l0] at H;by_cases c3:x11_1 < (l0.length:Int)
   ·
    rw[if_pos c3] at H;have c3b0:decide (x11_1 < (l0.length:Int))=true:=dt' c3;clear c3;by_cases c4:0≤x11_1
    ·
     rw[if_pos c4] at H;have c4b0:decide (0≤x11_1)=true:=dt' c4;clear c4;by_cases c5:x11_1 < (l0.length:Int)
     ·
      rw[if_pos c5] at H;have c5b0:decide (x11_1 < (l0.length:Int))=true:=dt' c5;clear c5;by_cases c6:x11_1 ≥ (l1.length:Int)
      ·
       rw[if_pos c6] at H;have c6b0:decide ((l1.length:Int)≤x11_1)=true:=dt' c6;clear c6;obtain rfl:=os' H;have p337:0≤(x11_1:Int):=od' xa';have q337:x11_1 < (l0.length:Int):=od' xa';obtain ⟨ad337,e337,hx337_0⟩:=Kd.at_int HR0.out x11_1 p337 q337;cases e337;replace p337:=eq_true p337;replace q337:=eq_true q337;go_wp2;go_ret
       exact ⟨xs',by repeat (first|exact Drawn0.refl _|apply Drawn0.step)⟩
      ·
       rw[if_neg c6] at H;have c6b0:decide ((l1.length:Int)≤x11_1)=false:=df' c6;clear c6;by_cases c7:x11_1 < (l1.length:Int)
       ·
        rw[if_pos c7] at H;have c7b0:decide (x11_1 < (l1.length:Int))=true:=dt' c7;clear c7;replace H:=Option.bind_eq_some_iff.mp H;obtain ⟨t339,A80,H⟩:=H;replace H:(if t339=0 then (slices_Compare_int_int.l0 k1 l0 l1 l0 (l0.length:Int) (wrap64 (x11_1+1))) else (some t339))=some r:=H;have A8:=am' A80;clear A80;by_cases c9:t339=0
        ·
         rw[if_pos c9] at H;have c9b0:(t339 == 0)=true:=beq_iff_eq.mpr c9;have c9b1:(t339 != 0)=false:=bne_eq_false_iff_eq.mpr c9;clear c9;have H':=am' H;clear H;have p337:0≤(x11_1:Int):=od' xa';have q337:x11_1 < (l0.length:Int):=od' xa';obtain ⟨ad337,e337,hx337_0⟩:=Kd.at_int HR0.out x11_1 p337 q337;cases e337;replace p337:=eq_true p337;replace q337:=eq_true q337;have p338:0≤(x11_1:Int):=od' xa';have q338:x11_1 < (l1.length:Int):=od' xa';obtain ⟨ad338,e338,hx338_0⟩:=Kd.at_int HR1.out x11_1 p338 q338;cases e338;replace p338:=eq_true p338;replace q338:=eq_true q338;go_wp2_with (first|((with_reducible refine gate_callee (f:=112) rfl ?_);refine goesL_ (some 26) rfl rfl Try.func112 xk' rfl #[.int .i64 (rd l0 x11_1), .int .i64 (rd l1 x11_1)] rfl xl' ?_;(with_reducible refine (cmp_Compare_int.calls (rd l0 x11_1) (rd l1 x11_1) t339 _ A8.out).mono ?_);rintro e w' ⟨rfl,⟨nd,rfl⟩⟩;refine ⟨_,rfl,?_⟩));go_roundg k1
         case measure=>have:=HK1.out;omega
         case rel=>exact ⟨(wrap64 (x11_1+1)),xs',H',⟨by have:=HK1.out;omega⟩,by repeat (first|exact Drawn0.refl _|apply Drawn0.step)⟩
        ·
         rw[if_neg c9] at H;have c9b0:(t339 == 0)=false:=beq_eq_false_iff_ne.mpr c9;have c9b1:(t339 != 0)=true:=bne_iff_ne.mpr c9;obtain rfl:=os' H;have p337:0≤(x11_1:Int):=od' xa';have q337:x11_1 < (l0.length:Int):=od' xa';obtain ⟨ad337,e337,hx337_0⟩:=Kd.at_int HR0.out x11_1 p337 q337;cases e337;replace p337:=eq_true p337;replace q337:=eq_true q337;have p338:0≤(x11_1:Int):=od' xa';have q338:x11_1 < (l1.length:Int):=od' xa';obtain ⟨ad338,e338,hx338_0⟩:=Kd.at_int HR1.out x11_1 p338 q338;cases e338;replace p338:=eq_true p338;replace q338:=eq_true q338;go_wp2_with (first|((with_reducible refine gate_callee (f:=112) rfl ?_);refine goesL_ (some 26) rfl rfl Try.func112 xk' rfl #[.int .i64 (rd l0 x11_1), .int .i64 (rd l1 x11_1)] rfl xl' ?_;(with_reducible refine (cmp_Compare_int.calls (rd l0 x11_1) (rd l1 x11_1) t339 _ A8.out).mono ?_);rintro e w' ⟨rfl,⟨nd,rfl⟩⟩;refine ⟨_,rfl,?_⟩));go_ret
         exact ⟨xs',by repeat (first|exact Drawn0.refl _|apply Drawn0.step)⟩
       ·
        rw[if_neg c7] at H;exact absurd H (by simp)
     ·
      rw[if_neg c5] at H;exact absurd H (by simp)
    ·
     rw[if_neg c4] at H;exact absurd H (by simp)
   ·
    rw[if_neg c3] at H;have c3b0:decide (x11_1 < (l0.length:Int))=false:=df' c3;clear c3;by_cases c10:(l0.length:Int) < (l1.length:Int)
    ·
     rw[if_pos c10] at H;have c10b0:decide ((l0.length:Int) < (l1.length:Int))=true:=dt' c10;have c10b1:decide (l0.length < l1.length)=true:=dt' (Int.ofNat_lt.mp c10);clear c10;obtain rfl:=os' H;go_wp2;go_ret
     exact ⟨xs',by repeat (first|exact Drawn0.refl _|apply Drawn0.step)⟩
    ·
     rw[if_neg c10] at H;have c10b0:decide ((l0.length:Int) < (l1.length:Int))=false:=df' c10;have c10b1:decide (l0.length < l1.length)=false:=df' (fun h=>c10 (Int.ofNat_lt.mpr h));clear c10;obtain rfl:=os' H;go_wp2;go_ret
     exact ⟨xs',by repeat (first|exact Drawn0.refl _|apply Drawn0.step)⟩
end Go.Proofs.Ytmfofjloklafoaa.C5
