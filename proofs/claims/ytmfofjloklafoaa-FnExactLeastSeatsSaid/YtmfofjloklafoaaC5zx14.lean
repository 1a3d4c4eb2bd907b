import Derived.Test.YtmfofjloklafoaaC5zx0
import Derived.Test.YtmfofjloklafoaaC5zx13
import Derived.Test.YtmfofjloklafoaaC5zAl
namespace Go.Proofs.Ytmfofjloklafoaa.C5
open Go.RowKit Go.Proofs.YtmfofjloklafoaaW.PrintWords Go.Proofs.YtmfofjloklafoaaW.PrintLast Go.Proofs.YtmfofjloklafoaaW.PrintMore Go.Proofs.Ytmfofjloklafoaa.H
attribute [local go_sem] max2_int min2_int max_two min_two max_three min_three max_four min_four
set_option linter.unusedVariables false
set_option linter.unusedSimpArgs false
def impl_Keep_dangers.l0:Nat→List (List Int)→List (List Int)→Int→Int→List Bool→Bool→Option ((List (List Int)))
 | 0,_,_,_,_,_,_=>none
 | k+1,x5,x10,x11,x12,x380000,x380001=>if x12 < x11 then (if 0≤x12 then (if x12 < (x10.length:Int) then (if 0 < ((rd_L1 x10 x12).length:Int) then (if 0≤(rd (rd_L1 x10 x12) 0) then (if (rd (rd_L1 x10 x12) 0) < (x380000.length:Int) then (if ((rdOf false x380000 (rd (rd_L1 x10 x12) 0)) != x380001)=true then (if 1 < ((rd_L1 x10 x12).length:Int) then (if 0≤(rd (rd_L1 x10 x12) 1) then (if (rd (rd_L1 x10 x12) 1) < (x380000.length:Int) then (if ((rdOf false x380000 (rd (rd_L1 x10 x12) 1)) != x380001)=true then ((slices_Clone_int_int.f (rd_L1 x10 x12)).bind fun t388=>(if x5.length < 5864062014805 then (impl_Keep_dangers.l0 k (x5 ++ [t388]) x10 x11 (wrap64 (x12+1)) x380000 x380001) else (none))) else (impl_Keep_dangers.l0 k x5 x10 x11 (wrap64 (x12+1)) x380000 x380001)) else (none)) else (none)) else (none)) else (impl_Keep_dangers.l0 k x5 x10 x11 (wrap64 (x12+1)) x380000 x380001)) else (none)) else (none)) else (none)) else (none)) else (none)) else (some x5)
def impl_Keep_dangers.f (k:Nat) (a0_0:Int) (l0_1:List (List Int)) (a0_2:Int) (l1_0:List Bool) (a1_1:Bool):Option ((List (List Int))):=impl_Keep_dangers.l0 k (([]:List (List Int))) l0_1 (l0_1.length:Int) 0 l1_0 a1_1
set_option maxHeartbeats 8000000 in
set_option maxRecDepth 100000 in
theorem impl_Keep_dangers.calls (k:Nat) (a0_0:Int) (A0_1:Option Addr) (c0_1:Nat) (l0_1:List (List Int)) (a0_2:Int) (A1_0:Option Addr) (c1_0:Nat) (l1_0:List Bool) (a1_1:Bool) (r:List (List Int)) (w:World) (hr0_1:Kd.C (Kd.slice 3 (Kd.int .i64)) w A0_1 l0_1.length l0_1) (hc0_1:l0_1.length≤c0_1) (hr1_0:Kd.C Kd.bool w A1_0 l1_0.length l1_0) (hc1_0:l1_0.length≤c1_0) (h:impl_Keep_dangers.f k a0_0 l0_1 a0_2 l1_0 a1_1=some r) :
  Calls Try.prog 77 #[.agg #[.int .i64 a0_0, .slice A0_1 l0_1.length c0_1, .int .i64 a0_2], .agg #[.slice A1_0 l1_0.length c1_0, .bool a1_1]] w fun e w'=>∃ v0_:Value,e = .returned (v0_)∧Kd.S (Kd.slice 3 (Kd.int .i64)) 43 w' w.heap.size (fun _=>True) v0_ r∧Below w.heap.size w w':=by
 have hu32:=Try.underlying32
 have hu34:=Try.underlying34
 have HR0_1:=am' hr0_1
 have HC0_1:=am' hc0_1
 clear hr0_1 hc0_1;have HR1_0:=am' hr1_0
 have HC1_0:=am' hc1_0
 clear hr1_0 hc1_0;have HB:=am' (Below.refl w.heap.size w)
 have H:(impl_Keep_dangers.l0 k (([]:List (List Int))) l0_1 (l0_1.length:Int) 0 l1_0 a1_1)=some r:=h
 clear h;obtain ⟨y380,hy380⟩:∃ y_:List (List Int),y_=(([]:List (List Int))):=⟨_,rfl⟩
 replace H:(impl_Keep_dangers.l0 k y380 l0_1 (l0_1.length:Int) 0 l1_0 a1_1)=some r:=by first|(rw[hy380];with_reducible exact H)|(have H2_:=(Option.bind_some _ _).symm.trans H;rw[hy380];with_reducible exact H2_)|(have H2_:=(Option.bind_some _ _).symm.trans H;with_reducible exact H2_)|with_reducible exact H|(rw[hy380];exact H)|exact H
 have Ny380:=am' hy380
 clear hy380;have H':=am' H
 clear H;go_enter Try.func77,Try.ntmps77
 go_wp2_with (first|((with_reducible refine gate_dst (N:=2) rfl ?_);refine box_event ?hg (N:=2) ?hd (cs:=#[.int .i64 a0_0, .slice A0_1 l0_1.length c0_1, .int .i64 a0_2]) (t:=32) ?hr ?_;(case hd=>rfl);(case hg=>rfl);(case hr=>first|(go_simp;done)|(go_simp;rfl));intro gb378 hg w3 hbox hb;have n0_:=am' (bt' xb' hb);have n1_:=am' (hbox);have n2_:=am' ((by rw[hg];exact (bz' xb'):w.heap.size≤gb378));have n3_:=am' ((by rw[hg];exact (bz' xb'):w.heap.size≤gb378));clear HB;have HB:=n0_;have BK378:=n1_;have GW378:=n2_;have GE378:=n3_;clear n0_ n1_ n2_ n3_;clear hb hbox hg)|((with_reducible refine gate_dst (N:=3) rfl ?_);refine box_event ?hg (N:=3) ?hd (cs:=#[.slice A1_0 l1_0.length c1_0, .bool a1_1]) (t:=34) ?hr ?_;(case hd=>rfl);(case hg=>rfl);(case hr=>first|(go_simp;done)|(go_simp;rfl));intro gb379 hg w4 hbox hb;have n0_:=am' (bb' (g:=gb378) (o := .cells #[.int .i64 a0_0, .slice A0_1 l0_1.length c0_1, .int .i64 a0_2] 32 (0,0)) (kk' BK378.out) hb);have n1_:=am' (bt' (yb' GE378.out) hb);have n2_:=am' (hbox);have n3_:=am' ((by rw[hg];exact (bz' (yb' GE378.out)):w.heap.size≤gb379));have n4_:=am' ((by rw[hg];exact (bz' (yb' GE378.out)):w.heap.size≤gb379));have n5_:=am' ((by rw[hg];exact Nat.ne_of_lt (blk_lt (g:=gb378) (o := .cells #[.int .i64 a0_0, .slice A0_1 l0_1.length c0_1, .int .i64 a0_2] 32 (0,0)) (kk' BK378.out)):gb378≠gb379));have n6_:=am' ((by rw[hg];exact Nat.ne_of_gt (blk_lt (g:=gb378) (o := .cells #[.int .i64 a0_0, .slice A0_1 l0_1.length c0_1, .int .i64 a0_2] 32 (0,0)) (kk' BK378.out)):gb379≠gb378));clear BK378;clear HB;have BK378:=n0_;have HB:=n1_;have BK379:=n2_;have GW379:=n3_;have GE379:=n4_;have NB378_379:=n5_;have NB379_378:=n6_;clear n0_ n1_ n2_ n3_ n4_ n5_ n6_;clear hb hbox hg)|((with_reducible refine gate_dst (N:=8) rfl ?_);refine Kd.S_lit (Kd.slice 3 (Kd.int .i64)) _ 43 ?hg (N:=8) ?hd (xs:=([]:List (List Int))) (inner:=[]) (ok:=fun _=>True) (okp:=fun _=>True) ?hr ?hp (fun _ hk=>hk) trivial (Below.refl _ _) (Nat.le_refl _) (by simp) ?_;(case hd=>rfl);(case hg=>rfl);(case hr=>first|(go_simp;done)|(go_simp;rfl));(case hp=>exact (Reps.none _ _));intro v381 w5 ho6 hb hg_ hnew_;clear hg_ hnew_;(first|rw[← Ny380.out] at ho6|(simp only[Int.reduceToNat] at ho6;rw[← Ny380.out] at ho6));have n0_:=am' (Kd.S_lower ho6 (bz' (y2' GE378.out GE379.out)));have n1_:=am' (bb' (g:=gb378) (o := .cells #[.int .i64 a0_0, .slice A0_1 l0_1.length c0_1, .int .i64 a0_2] 32 (0,0)) (kk' BK378.out) hb);have n2_:=am' (bb' (g:=gb379) (o := .cells #[.slice A1_0 l1_0.length c1_0, .bool a1_1] 34 (0,0)) (kk' BK379.out) hb);have n3_:=am' (bt' (y2' GE378.out GE379.out) hb);clear BK378;clear BK379;clear HB;have HO382:=n0_;have BK378:=n1_;have BK379:=n2_;have HB:=n3_;clear n0_ n1_ n2_ n3_;clear hb ho6;have hnb7:=NB378_379.out;have hnc7:=NB379_378.out;have hcz8_0:w5.cell? ⟨gb378,0,none⟩=some (.int .i64 a0_0):=(bc' BK378.out 0).trans rfl;have hcz8_1:w5.cell? ⟨gb378,1,none⟩=some (.slice A0_1 l0_1.length c0_1):=(bc' BK378.out 1).trans rfl;have hcz8_2:w5.cell? ⟨gb378,2,none⟩=some (.int .i64 a0_2):=(bc' BK378.out 2).trans rfl;have hfz8_0:=bf' BK378.out 0;have hfz8_1:=bf' BK378.out 1;have hfz8_2:=bf' BK378.out 2))
 repeat (go_quiet (first|((with_reducible refine gate_dst (N:=2) rfl ?_);refine box_event ?hg (N:=2) ?hd (cs:=#[.int .i64 a0_0, .slice A0_1 l0_1.length c0_1, .int .i64 a0_2]) (t:=32) ?hr ?_;(case hd=>rfl);(case hg=>rfl);(case hr=>first|(go_simp;done)|(go_simp;rfl));intro gb378 hg w3 hbox hb;have n0_:=am' (bt' xb' hb);have n1_:=am' (hbox);have n2_:=am' ((by rw[hg];exact (bz' xb'):w.heap.size≤gb378));have n3_:=am' ((by rw[hg];exact (bz' xb'):w.heap.size≤gb378));clear HB;have HB:=n0_;have BK378:=n1_;have GW378:=n2_;have GE378:=n3_;clear n0_ n1_ n2_ n3_;clear hb hbox hg)|((with_reducible refine gate_dst (N:=3) rfl ?_);refine box_event ?hg (N:=3) ?hd (cs:=#[.slice A1_0 l1_0.length c1_0, .bool a1_1]) (t:=34) ?hr ?_;(case hd=>rfl);(case hg=>rfl);(case hr=>first|(go_simp;done)|(go_simp;rfl));intro gb379 hg w4 hbox hb;have n0_:=am' (bb' (g:=gb378) (o := .cells #[.int .i64 a0_0, .slice A0_1 l0_1.length c0_1, .int .i64 a0_2] 32 (0,0)) (kk' BK378.out) hb);have n1_:=am' (bt' (yb' GE378.out) hb);have n2_:=am' (hbox);have n3_:=am' ((by rw[hg];exact (bz' (yb' GE378.out)):w.heap.size≤gb379));have n4_:=am' ((by rw[hg];exact (bz' (yb' GE378.out)):w.heap.size≤gb379));have n5_:=am' ((by rw[hg];exact Nat.ne_of_lt (blk_lt (g:=gb378) (o := .cells #[.int .i64 a0_0, .slice A0_1 l0_1.length c0_1, .int .i64 a0_2] 32 (0,0)) (kk' BK378.out)):gb378≠gb379));have n6_:=am' ((by rw[hg];exact Nat.ne_of_gt (blk_lt (g:=gb378) (o := .cells #[.int .i64 a0_0, .slice A0_1 l0_1.length c0_1, .int .i64 a0_2] 32 (0,0)) (kk' BK378.out)):gb379≠gb378));clear BK378;clear HB;have BK378:=n0_;have HB:=n1_;have BK379:=n2_;have GW379:=n3_;have GE379:=n4_;have NB378_379:=n5_;have NB379_378:=n6_;clear n0_ n1_ n2_ n3_ n4_ n5_ n6_;clear hb hbox hg)|((with_reducible refine gate_dst (N:=8) rfl ?_);refine Kd.S_lit (Kd.slice 3 (Kd.int .i64)) _ 43 ?hg (N:=8) ?hd (xs:=([]:List (List Int))) (inner:=[]) (ok:=fun _=>True) (okp:=fun _=>True) ?hr ?hp (fun _ hk=>hk) trivial (Below.refl _ _) (Nat.le_refl _) (by simp) ?_;(case hd=>rfl);(case hg=>rfl);(case hr=>first|(go_simp;done)|(go_simp;rfl));(case hp=>exact (Reps.none _ _));intro v381 w5 ho6 hb hg_ hnew_;clear hg_ hnew_;(first|rw[← Ny380.out] at ho6|(simp only[Int.reduceToNat] at ho6;rw[← Ny380.out] at ho6));have n0_:=am' (Kd.S_lower ho6 (bz' (y2' GE378.out GE379.out)));have n1_:=am' (bb' (g:=gb378) (o := .cells #[.int .i64 a0_0, .slice A0_1 l0_1.length c0_1, .int .i64 a0_2] 32 (0,0)) (kk' BK378.out) hb);have n2_:=am' (bb' (g:=gb379) (o := .cells #[.slice A1_0 l1_0.length c1_0, .bool a1_1] 34 (0,0)) (kk' BK379.out) hb);have n3_:=am' (bt' (y2' GE378.out GE379.out) hb);clear BK378;clear BK379;clear HB;have HO382:=n0_;have BK378:=n1_;have BK379:=n2_;have HB:=n3_;clear n0_ n1_ n2_ n3_;clear hb ho6;have hnb7:=NB378_379.out;have hnc7:=NB379_378.out;have hcz8_0:w5.cell? ⟨gb378,0,none⟩=some (.int .i64 a0_0):=(bc' BK378.out 0).trans rfl;have hcz8_1:w5.cell? ⟨gb378,1,none⟩=some (.slice A0_1 l0_1.length c0_1):=(bc' BK378.out 1).trans rfl;have hcz8_2:w5.cell? ⟨gb378,2,none⟩=some (.int .i64 a0_2):=(bc' BK378.out 2).trans rfl;have hfz8_0:=bf' BK378.out 0;have hfz8_1:=bf' BK378.out 1;have hfz8_2:=bf' BK378.out 2));try go_wp2_with (first|((with_reducible refine gate_dst (N:=2) rfl ?_);refine box_event ?hg (N:=2) ?hd (cs:=#[.int .i64 a0_0, .slice A0_1 l0_1.length c0_1, .int .i64 a0_2]) (t:=32) ?hr ?_;(case hd=>rfl);(case hg=>rfl);(case hr=>first|(go_simp;done)|(go_simp;rfl));intro gb378 hg w3 hbox hb;have n0_:=am' (bt' xb' hb);have n1_:=am' (hbox);have n2_:=am' ((by rw[hg];exact (bz' xb'):w.heap.size≤gb378));have n3_:=am' ((by rw[hg];exact (bz' xb'):w.heap.size≤gb378));clear HB;have HB:=n0_;have BK378:=n1_;have GW378:=n2_;have GE378:=n3_;clear n0_ n1_ n2_ n3_;clear hb hbox hg)|((with_reducible refine gate_dst (N:=3) rfl ?_);refine box_event ?hg (N:=3) ?hd (cs:=#[.slice A1_0 l1_0.length c1_0, .bool a1_1]) (t:=34) ?hr ?_;(case hd=>rfl);(case hg=>rfl);(case hr=>first|(go_simp;done)|(go_simp;rfl));intro gb379 hg w4 hbox hb;have n0_:=am' (bb' (g:=gb378) (o := .cells #[.int .i64 a0_0, .slice A0_1 l0_1.length c0_1, .int .i64 a0_2] 32 (0,0)) (kk' BK378.out) hb);have n1_:=am' (bt' (yb' GE378.out) hb);have n2_:=am' (hbox);have n3_:=am' ((by rw[hg];exact (bz' (yb' GE378.out)):w.heap.size≤gb379));have n4_:=am' ((by rw[hg];exact (bz' (yb' GE378.out)):w.heap.size≤gb379));have n5_:=am' ((by rw[hg];exact Nat.ne_of_lt (blk_lt (g:=gb378) (o := .cells #[.int .i64 a0_0, .slice A0_1 l0_1.length c0_1, .int .i64 a0_2] 32 (0,0)) (kk' BK378.out)):gb378≠gb379));have n6_:=am' ((by rw[hg];exact Nat.ne_of_gt (blk_lt (g:=gb378) (o := .cells #[.int .i64 a0_0, .slice A0_1 l0_1.length c0_1, .int .i64 a0_2] 32 (0,0)) (kk' BK378.out)):gb379≠gb378));clear BK378;clear HB;have BK378:=n0_;have HB:=n1_;have BK379:=n2_;have GW379:=n3_;have GE379:=n4_;have NB378_379:=n5_;have NB379_378:=n6_;clear n0_ n1_ n2_ n3_ n4_ n5_ n6_;clear hb hbox hg)|((with_reducible refine gate_dst (N:=8) rfl ?_);refine Kd.S_lit (Kd.slice 3 (Kd.int .i64)) _ 43 ?hg (N:=8) ?hd (xs:=([]:List (List Int))) (inner:=[]) (ok:=fun _=>True) (okp:=fun _=>True) ?hr ?hp (fun _ hk=>hk) trivial (Below.refl _ _) (Nat.le_refl _) (by simp) ?_;(case hd=>rfl);(case hg=>rfl);(case hr=>first|(go_simp;done)|(go_simp;rfl));(case hp=>exact (Reps.none _ _));intro v381 w5 ho6 hb hg_ hnew_;clear hg_ hnew_;(first|rw[← Ny380.out] at ho6|(simp only[Int.reduceToNat] at ho6;rw[← Ny380.out] at ho6));have n0_:=am' (Kd.S_lower ho6 (bz' (y2' GE378.out GE379.out)));have n1_:=am' (bb' (g:=gb378) (o := .cells #[.int .i64 a0_0, .slice A0_1 l0_1.length c0_1, .int .i64 a0_2] 32 (0,0)) (kk' BK378.out) hb);have n2_:=am' (bb' (g:=gb379) (o := .cells #[.slice A1_0 l1_0.length c1_0, .bool a1_1] 34 (0,0)) (kk' BK379.out) hb);have n3_:=am' (bt' (y2' GE378.out GE379.out) hb);clear BK378;clear BK379;clear HB;have HO382:=n0_;have BK378:=n1_;have BK379:=n2_;have HB:=n3_;clear n0_ n1_ n2_ n3_;clear hb ho6;have hnb7:=NB378_379.out;have hnc7:=NB379_378.out;have hcz8_0:w5.cell? ⟨gb378,0,none⟩=some (.int .i64 a0_0):=(bc' BK378.out 0).trans rfl;have hcz8_1:w5.cell? ⟨gb378,1,none⟩=some (.slice A0_1 l0_1.length c0_1):=(bc' BK378.out 1).trans rfl;have hcz8_2:w5.cell? ⟨gb378,2,none⟩=some (.int .i64 a0_2):=(bc' BK378.out 2).trans rfl;have hfz8_0:=bf' BK378.out 0;have hfz8_1:=bf' BK378.out 1;have hfz8_2:=bf' BK378.out 2)))
 go_loopg [5,12] k (fun kq v5 v12 w'=>∃ (x5_1:List (List Int)) (x12_1:Int),v12 = .int .i64 x12_1∧Aside0 (impl_Keep_dangers.l0 kq x5_1 l0_1 (l0_1.length:Int) x12_1 l1_0 a1_1=some r)∧Aside0 (kq≤k)∧Aside0 (Kd.S (Kd.slice 3 (Kd.int .i64)) 43 w' w.heap.size (fun _=>True) v5 x5_1)∧Aside0 (w'.heap[gb378]? = some (.cells #[.int .i64 a0_0,(.slice A0_1 l0_1.length c0_1), .int .i64 a0_2] 32 (0,0)))∧Aside0 (w'.heap[gb379]? = some (.cells #[(.slice A1_0 l1_0.length c1_0), .bool a1_1] 34 (0,0)))∧Aside0 (Below w.heap.size w w'))
 case atStart=>exact ⟨(y380),(0),xs',H',⟨Nat.le_refl _⟩,⟨kS' HO382.out⟩,⟨kk' BK378.out⟩,⟨kk' BK379.out⟩,⟨y2' GE378.out GE379.out⟩⟩
 case round =>
  clear H';try clear c1
  try clear p2
  try clear c7
  try clear hcz8_0
  try clear hcz8_1
  try clear hcz8_2
  try clear hfz8_0
  try clear hfz8_1
  try clear hfz8_2
  obtain ⟨x5_1,x12_1,rfl,HA,HK1,HO_5,BK378,BK379,HB⟩:=hrel;cases gk with
  | zero=>exact absurd HA.out (by simp[impl_Keep_dangers.l0])
  | succ k1 =>
   have H:=HA.out;clear HA;simp only[impl_Keep_dangers.l0] at H;by_cases c9:x12_1 < (l0_1.length:Int)
   ·
    rw[if_pos c9] at H;have c9b0:decide (x12_1 < (l0_1.length:Int))=true:=dt' c9;clear c9;by_cases c10:0≤x12_1
    ·
     rw[if_pos c10] at H;have c10b0:decide (0≤x12_1)=true:=dt' c10;clear c10;by_cases c11:x12_1 < (l0_1.length:Int)
     ·
      rw[if_pos c11] at H;have c11b0:decide (x12_1 < (l0_1.length:Int))=true:=dt' c11;clear c11;by_cases c12:0 < ((rd_L1 l0_1 x12_1).length:Int)
      ·
       rw[if_pos c12] at H;have c12b0:decide (0 < ((rd_L1 l0_1 x12_1).length:Int))=true:=dt' c12;have c12b1:decide (0 < (rd_L1 l0_1 x12_1).length)=true:=dt' (by omega);clear c12;by_cases c13:0≤(rd (rd_L1 l0_1 x12_1) 0)
       ·
        rw[if_pos c13] at H;have c13b0:decide (0≤(rd (rd_L1 l0_1 x12_1) 0))=true:=dt' c13;clear c13;by_cases c14:(rd (rd_L1 l0_1 x12_1) 0) < (l1_0.length:Int)
        ·
         rw[if_pos c14] at H;have c14b0:decide ((rd (rd_L1 l0_1 x12_1) 0) < (l1_0.length:Int))=true:=dt' c14;clear c14;by_cases c15:((rdOf false l1_0 (rd (rd_L1 l0_1 x12_1) 0)) != a1_1)=true
         ·
          rw[if_pos c15] at H;have c15b0:((rdOf false l1_0 (rd (rd_L1 l0_1 x12_1) 0)) != a1_1)=true:=c15
          (try (have c15b1:decide ((rdOf false l1_0 (rd (rd_L1 l0_1 x12_1) 0))=a1_1)=false:=by simpa using c15))
          (try (have c15b2:((rdOf false l1_0 (rd (rd_L1 l0_1 x12_1) 0)) == a1_1)=false:=by simpa using c15))
          (try (have c15b3:¬ ((rdOf false l1_0 (rd (rd_L1 l0_1 x12_1) 0))=a1_1):=by simpa using c15))
          clear c15;by_cases c16:1 < ((rd_L1 l0_1 x12_1).length:Int)
          ·
           rw[if_pos c16] at H;have c16b0:decide (1 < ((rd_L1 l0_1 x12_1).length:Int))=true:=dt' c16;have c16b1:decide (1 < (rd_L1 l0_1 x12_1).length)=true:=dt' (by omega);clear c16;by_cases c17:0≤(rd (rd_L1 l0_1 x12_1) 1)
           ·
            rw[if_pos c17] at H;have c17b0:decide (0≤(rd (rd_L1 l0_1 x12_1) 1))=true:=dt' c17;clear c17;by_cases c18:(rd (rd_L1 l0_1 x12_1) 1) < (l1_0.length:Int)
            ·
             rw[if_pos c18] at H;have c18b0:decide ((rd (rd_L1 l0_1 x12_1) 1) < (l1_0.length:Int))=true:=dt' c18;clear c18;by_cases c19:((rdOf false l1_0 (rd (rd_L1 l0_1 x12_1) 1)) != a1_1)=true
             ·
              rw[if_pos c19] at H;have c19b0:((rdOf false l1_0 (rd (rd_L1 l0_1 x12_1) 1)) != a1_1)=true:=c19
              (try (have c19b1:decide ((rdOf false l1_0 (rd (rd_L1 l0_1 x12_1) 1))=a1_1)=false:=by simpa using c19))
              (try (have c19b2:((rdOf false l1_0 (rd (rd_L1 l0_1 x12_1) 1)) == a1_1)=false:=by simpa using c19))
              (try (have c19b3:¬ ((rdOf false l1_0 (rd (rd_L1 l0_1 x12_1) 1))=a1_1):=by simpa using c19))
              clear c19;replace H:=Option.bind_eq_some_iff.mp H;obtain ⟨t388,A200,H⟩:=H;replace H:(if x5_1.length < 5864062014805 then (impl_Keep_dangers.l0 k1 (x5_1 ++ [t388]) l0_1 (l0_1.length:Int) (wrap64 (x12_1+1)) l1_0 a1_1) else (none))=some r:=H;have A20:=am' A200;clear A200;by_cases c21:x5_1.length < 5864062014805
              ·
               rw[if_pos c21] at H;have LMc21:=am' c21;clear c21;obtain ⟨y391,hy391⟩:∃ y_:List (List Int),y_=(x5_1 ++ [t388]):=⟨_,rfl⟩
               replace H:(impl_Keep_dangers.l0 k1 y391 l0_1 (l0_1.length:Int) (wrap64 (x12_1+1)) l1_0 a1_1)=some r:=by first|(rw[hy391];with_reducible exact H)|(have H2_:=(Option.bind_some _ _).symm.trans H;rw[hy391];with_reducible exact H2_)|(have H2_:=(Option.bind_some _ _).symm.trans H;with_reducible exact H2_)|with_reducible exact H|(rw[hy391];exact H)|exact H
               have Ny391:=am' hy391;clear hy391;have H':=am' H;clear H;have p383:0≤(x12_1:Int):=od' xa';have q383:x12_1 < (l0_1.length:Int):=od' xa';obtain ⟨ad383,A383_0,c383_0,e383,hx383_0,hl383_0,hi383_0⟩:=at_L1 HR0_1.out x12_1 p383 q383;cases e383;replace hx383_0:=(HB.out.cell (bl' w _ hx383_0)).trans hx383_0;have HR383_0:=am' hi383_0;have HC383_0:=am' hl383_0;clear hi383_0 hl383_0;replace p383:=eq_true p383;replace q383:=eq_true q383;have hnb22:=NB379_378.out;have hnc22:=NB378_379.out;have hcz23_0:wr.cell? ⟨gb379,0,none⟩=some (.slice A1_0 l1_0.length c1_0):=(bc' BK379.out 0).trans rfl;have hcz23_1:wr.cell? ⟨gb379,1,none⟩=some (.bool a1_1):=(bc' BK379.out 1).trans rfl;have hfz23_0:=bf' BK379.out 0;have hfz23_1:=bf' BK379.out 1;have p384:0≤(0:Int):=(by omega)
               have q384:0 < ((rd_L1 l0_1 x12_1).length:Int):=od' xa';obtain ⟨ad384,e384,hx384_0⟩:=Kd.at_int HR383_0.out 0 p384 q384;cases e384;have qi384:(0 < (rd_L1 l0_1 x12_1).length)=True:=eq_true (by omega)
               (try rw [show ((0:Int)).toNat=0 from rfl] at hx384_0)
               (try rw [Addr.add_zero'] at hx384_0)
               replace hx384_0:=(HB.out.cell (bl' w _ hx384_0)).trans hx384_0;replace p384:=eq_true p384;replace q384:=eq_true q384;have p385:0≤((rd (rd_L1 l0_1 x12_1) 0):Int):=od' xa';have q385:(rd (rd_L1 l0_1 x12_1) 0) < (l1_0.length:Int):=od' xa';obtain ⟨ad385,e385,hx385_0⟩:=Kd.at_bool HR1_0.out (rd (rd_L1 l0_1 x12_1) 0) p385 q385;cases e385;replace hx385_0:=(HB.out.cell (bl' w _ hx385_0)).trans hx385_0;replace p385:=eq_true p385;replace q385:=eq_true q385;have p386:0≤(1:Int):=(by omega)
               have q386:1 < ((rd_L1 l0_1 x12_1).length:Int):=od' xa';obtain ⟨ad386,e386,hx386_0⟩:=Kd.at_int HR383_0.out 1 p386 q386;obtain rfl:ad384=ad386:=(by injection e386)
               (try simp only[show (1:Int).toNat=1 from rfl,Nat.reduceMul,Nat.reduceEqDiff,Go.Addr.add,↓reduceIte] at hx386_0)
               have qi386:(1 < (rd_L1 l0_1 x12_1).length)=True:=eq_true (by omega)
               (try rw [show ((1:Int)).toNat=1 from rfl] at hx386_0)
               replace hx386_0:=(HB.out.cell (bl' w _ hx386_0)).trans hx386_0;replace p386:=eq_true p386;replace q386:=eq_true q386;have p387:0≤((rd (rd_L1 l0_1 x12_1) 1):Int):=od' xa';have q387:(rd (rd_L1 l0_1 x12_1) 1) < (l1_0.length:Int):=od' xa';obtain ⟨ad387,e387,hx387_0⟩:=Kd.at_bool HR1_0.out (rd (rd_L1 l0_1 x12_1) 1) p387 q387;obtain rfl:ad385=ad387:=(by injection e387)
               replace hx387_0:=(HB.out.cell (bl' w _ hx387_0)).trans hx387_0;replace p387:=eq_true p387;replace q387:=eq_true q387;go_wp2_with (first|(go_at_call 103;(with_reducible refine (slices_Clone_int_int.calls _ _ (rd_L1 l0_1 x12_1) t388 _ ?side1 ?side2 A20.out).mono ?_);(case side1=>exact kc' (cb' HR383_0.out HB.out));(case side2=>exact HC383_0.out);rintro e w24 ⟨v389,rfl,ho0,hb⟩;have n0_:=am' (Kd.S_elder' (kS' HO_5.out) (Kd.R_base ho0) hb);have n1_:=am' (Kd.R_lower ho0 (bz' (y2' GE378.out GE379.out)));have n2_:=am' (bb' (g:=gb378) (o := .cells #[.int .i64 a0_0, .slice (some ad383) l0_1.length c0_1, .int .i64 a0_2] 32 (0,0)) (kk' BK378.out) hb);have n3_:=am' (bb' (g:=gb379) (o := .cells #[.slice (some ad385) l1_0.length c1_0, .bool a1_1] 34 (0,0)) (kk' BK379.out) hb);have n4_:=am' (bt' (y2' GE378.out GE379.out) hb);clear HO_5;clear BK378;clear BK379;clear HB;have HO_5:=n0_;have HO390:=n1_;have BK378:=n2_;have BK379:=n3_;have HB:=n4_;clear n0_ n1_ n2_ n3_ n4_;(try clear hb);(try clear hb2);(try clear hk);(try clear hi);(try clear ho0);obtain ⟨Ao26,co26,eo26⟩:=Kd.R_slice HO390.out;subst eo26)|((with_reducible refine gate_builtin (b := .append) (xs:=#[.tmp 38, .tmp 41]) rfl ?_);at_builtin;refine Kd.S_append (Kd.slice 3 (Kd.int .i64)) (w0:=w) w.heap.size rfl (.tmp 38) (.tmp 41) 22 43 (.slice none 0 0) 24 rfl Try.underlying22 info43 rfl (by decide) (by omega) u5 x5_1 t388 [.slice Ao26 t388.length co26] (fun _=>True) (fun k_=>some k_=(.slice Ao26 t388.length co26:Value).ownBlock) rfl rfl ?aP (fun k_ hk_=>((Kd.R_mono (ok':=fun k_=>((fun _=>True)) k_∧some k_≠(u5:Value).ownBlock) (Kd.R_apart' (HO390.out) (Kd.S_typed HO_5.out) (by decide)) (fun k_ hk=>⟨trivial,hk.2⟩))).1 k_ hk_.symm) ?aF ?aO ?aB ?aS ?aL ?_;(case aP=>exact Kd.M_row (Kd.R_mono (Kd.R_tight rfl (Kd.R_mono (ok':=fun k_=>((fun _=>True)) k_∧some k_≠(u5:Value).ownBlock) (Kd.R_apart' (HO390.out) (Kd.S_typed HO_5.out) (by decide)) (fun k_ hk=>⟨trivial,hk.2⟩))) (fun _ h_=>h_)));(case aB=>exact (y2' GE378.out GE379.out));(case aF=>exact (fun _ _=>trivial));(case aO=>exact (by (with_reducible repeat (first|apply Kd.S_alloc|apply Kd.S_drewN|apply Kd.S_drew));exact Kd.S_mono HO_5.out (fun k_ hk=>⟨trivial,fun e_=>hk.2 e_⟩)));(case aS=>exact (bz' (y2' GE378.out GE379.out)));(case aL=>have:=LMc21.out;omega);intro v392 w25 ho hb hg hat;rw[← Ny391.out] at ho;have n0_:=am' (blk_grown (g:=gb378) (o := .cells #[.int .i64 a0_0, .slice (some ad383) l0_1.length c0_1, .int .i64 a0_2] 32 (0,0)) (kk' BK378.out) hg (Kd.S_ne HO_5.out BK378.out (by decide)));have n1_:=am' (blk_grown (g:=gb379) (o := .cells #[.slice (some ad385) l1_0.length c1_0, .bool a1_1] 34 (0,0)) (kk' BK379.out) hg (Kd.S_ne HO_5.out BK379.out (by decide)));have n2_:=am' (hb);have n3_:=am' (ho);clear BK378;clear BK379;clear HB;clear HO_5;clear HO390;have BK378:=n0_;have BK379:=n1_;have HB:=n2_;have HO393:=n3_;clear n0_ n1_ n2_ n3_;clear ho hb hg hat))
               repeat (go_quiet (first|(go_at_call 103;(with_reducible refine (slices_Clone_int_int.calls _ _ (rd_L1 l0_1 x12_1) t388 _ ?side1 ?side2 A20.out).mono ?_);(case side1=>exact kc' (cb' HR383_0.out HB.out));(case side2=>exact HC383_0.out);rintro e w24 ⟨v389,rfl,ho0,hb⟩;have n0_:=am' (Kd.S_elder' (kS' HO_5.out) (Kd.R_base ho0) hb);have n1_:=am' (Kd.R_lower ho0 (bz' (y2' GE378.out GE379.out)));have n2_:=am' (bb' (g:=gb378) (o := .cells #[.int .i64 a0_0, .slice (some ad383) l0_1.length c0_1, .int .i64 a0_2] 32 (0,0)) (kk' BK378.out) hb);have n3_:=am' (bb' (g:=gb379) (o := .cells #[.slice (some ad385) l1_0.length c1_0, .bool a1_1] 34 (0,0)) (kk' BK379.out) hb);have n4_:=am' (bt' (y2' GE378.out GE379.out) hb);clear HO_5;clear BK378;clear BK379;clear HB;have HO_5:=n0_;have HO390:=n1_;have BK378:=n2_;have BK379:=n3_;have HB:=n4_;clear n0_ n1_ n2_ n3_ n4_;(try clear hb);(try clear hb2);(try clear hk);(try clear hi);(try clear ho0);obtain ⟨Ao26,co26,eo26⟩:=Kd.R_slice HO390.out;subst eo26)|((with_reducible refine gate_builtin (b := .append) (xs:=#[.tmp 38, .tmp 41]) rfl ?_);at_builtin;refine Kd.S_append (Kd.slice 3 (Kd.int .i64)) (w0:=w) w.heap.size rfl (.tmp 38) (.tmp 41) 22 43 (.slice none 0 0) 24 rfl Try.underlying22 info43 rfl (by decide) (by omega) u5 x5_1 t388 [.slice Ao26 t388.length co26] (fun _=>True) (fun k_=>some k_=(.slice Ao26 t388.length co26:Value).ownBlock) rfl rfl ?aP (fun k_ hk_=>((Kd.R_mono (ok':=fun k_=>((fun _=>True)) k_∧some k_≠(u5:Value).ownBlock) (Kd.R_apart' (HO390.out) (Kd.S_typed HO_5.out) (by decide)) (fun k_ hk=>⟨trivial,hk.2⟩))).1 k_ hk_.symm) ?aF ?aO ?aB ?aS ?aL ?_;(case aP=>exact Kd.M_row (Kd.R_mono (Kd.R_tight rfl (Kd.R_mono (ok':=fun k_=>((fun _=>True)) k_∧some k_≠(u5:Value).ownBlock) (Kd.R_apart' (HO390.out) (Kd.S_typed HO_5.out) (by decide)) (fun k_ hk=>⟨trivial,hk.2⟩))) (fun _ h_=>h_)));(case aB=>exact (y2' GE378.out GE379.out));(case aF=>exact (fun _ _=>trivial));(case aO=>exact (by (with_reducible repeat (first|apply Kd.S_alloc|apply Kd.S_drewN|apply Kd.S_drew));exact Kd.S_mono HO_5.out (fun k_ hk=>⟨trivial,fun e_=>hk.2 e_⟩)));(case aS=>exact (bz' (y2' GE378.out GE379.out)));(case aL=>have:=LMc21.out;omega);intro v392 w25 ho hb hg hat;rw[← Ny391.out] at ho;have n0_:=am' (blk_grown (g:=gb378) (o := .cells #[.int .i64 a0_0, .slice (some ad383) l0_1.length c0_1, .int .i64 a0_2] 32 (0,0)) (kk' BK378.out) hg (Kd.S_ne HO_5.out BK378.out (by decide)));have n1_:=am' (blk_grown (g:=gb379) (o := .cells #[.slice (some ad385) l1_0.length c1_0, .bool a1_1] 34 (0,0)) (kk' BK379.out) hg (Kd.S_ne HO_5.out BK379.out (by decide)));have n2_:=am' (hb);have n3_:=am' (ho);clear BK378;clear BK379;clear HB;clear HO_5;clear HO390;have BK378:=n0_;have BK379:=n1_;have HB:=n2_;have HO393:=n3_;clear n0_ n1_ n2_ n3_;clear ho hb hg hat));try go_wp2_with (first|(go_at_call 103;(with_reducible refine (slices_Clone_int_int.calls _ _ (rd_L1 l0_1 x12_1) t388 _ ?side1 ?side2 A20.out).mono ?_);(case side1=>exact kc' (cb' HR383_0.out HB.out));(case side2=>exact HC383_0.out);rintro e w24 ⟨v389,rfl,ho0,hb⟩;have n0_:=am' (Kd.S_elder' (kS' HO_5.out) (Kd.R_base ho0) hb);have n1_:=am' (Kd.R_lower ho0 (bz' (y2' GE378.out GE379.out)));have n2_:=am' (bb' (g:=gb378) (o := .cells #[.int .i64 a0_0, .slice (some ad383) l0_1.length c0_1, .int .i64 a0_2] 32 (0,0)) (kk' BK378.out) hb);have n3_:=am' (bb' (g:=gb379) (o := .cells #[.slice (some ad385) l1_0.length c1_0, .bool a1_1] 34 (0,0)) (kk' BK379.out) hb);have n4_:=am' (bt' (y2' GE378.out GE379.out) hb);clear HO_5;clear BK378;clear BK379;clear HB;have HO_5:=n0_;have HO390:=n1_;have BK378:=n2_;have BK379:=n3_;have HB:=n4_;clear n0_ n1_ n2_ n3_ n4_;(try clear hb);(try clear hb2);(try clear hk);(try clear hi);(try clear ho0);obtain ⟨Ao26,co26,eo26⟩:=Kd.R_slice HO390.out;subst eo26)|((with_reducible refine gate_builtin (b := .append) (xs:=#[.tmp 38, .tmp 41]) rfl ?_);at_builtin;refine Kd.S_append (Kd.slice 3 (Kd.int .i64)) (w0:=w) w.heap.size rfl (.tmp 38) (.tmp 41) 22 43 (.slice none 0 0) 24 rfl Try.underlying22 info43 rfl (by decide) (by omega) u5 x5_1 t388 [.slice Ao26 t388.length co26] (fun _=>True) (fun k_=>some k_=(.slice Ao26 t388.length co26:Value).ownBlock) rfl rfl ?aP (fun k_ hk_=>((Kd.R_mono (ok':=fun k_=>((fun _=>True)) k_∧some k_≠(u5:Value).ownBlock) (Kd.R_apart' (HO390.out) (Kd.S_typed HO_5.out) (by decide)) (fun k_ hk=>⟨trivial,hk.2⟩))).1 k_ hk_.symm) ?aF ?aO ?aB ?aS ?aL ?_;(case aP=>exact Kd.M_row (Kd.R_mono (Kd.R_tight rfl (Kd.R_mono (ok':=fun k_=>((fun _=>True)) k_∧some k_≠(u5:Value).ownBlock) (Kd.R_apart' (HO390.out) (Kd.S_typed HO_5.out) (by decide)) (fun k_ hk=>⟨trivial,hk.2⟩))) (fun _ h_=>h_)));(case aB=>exact (y2' GE378.out GE379.out));(case aF=>exact (fun _ _=>trivial));(case aO=>exact (by (with_reducible repeat (first|apply Kd.S_alloc|apply Kd.S_drewN|apply Kd.S_drew));exact Kd.S_mono HO_5.out (fun k_ hk=>⟨trivial,fun e_=>hk.2 e_⟩)));(case aS=>exact (bz' (y2' GE378.out GE379.out)));(case aL=>have:=LMc21.out;omega);intro v392 w25 ho hb hg hat;rw[← Ny391.out] at ho;have n0_:=am' (blk_grown (g:=gb378) (o := .cells #[.int .i64 a0_0, .slice (some ad383) l0_1.length c0_1, .int .i64 a0_2] 32 (0,0)) (kk' BK378.out) hg (Kd.S_ne HO_5.out BK378.out (by decide)));have n1_:=am' (blk_grown (g:=gb379) (o := .cells #[.slice (some ad385) l1_0.length c1_0, .bool a1_1] 34 (0,0)) (kk' BK379.out) hg (Kd.S_ne HO_5.out BK379.out (by decide)));have n2_:=am' (hb);have n3_:=am' (ho);clear BK378;clear BK379;clear HB;clear HO_5;clear HO390;have BK378:=n0_;have BK379:=n1_;have HB:=n2_;have HO393:=n3_;clear n0_ n1_ n2_ n3_;clear ho hb hg hat)))
               go_roundg k1
               case measure=>have:=HK1.out;omega
               case rel=>exact ⟨(y391),(wrap64 (x12_1+1)),xs',H',⟨by have:=HK1.out;omega⟩,⟨kS' HO393.out⟩,⟨kk' BK378.out⟩,⟨kk' BK379.out⟩,⟨y2' GE378.out GE379.out⟩⟩
              ·
               rw[if_neg c21] at H;exact absurd H (by simp)
             ·
              rw[if_neg c19] at H;have c19b0:((rdOf false l1_0 (rd (rd_L1 l0_1 x12_1) 1)) != a1_1)=false:=by simpa using c19
              (try (have c19b1:decide ((rdOf false l1_0 (rd (rd_L1 l0_1 x12_1) 1))=a1_1)=true:=by simpa using c19))
              (try (have c19b2:((rdOf false l1_0 (rd (rd_L1 l0_1 x12_1) 1)) == a1_1)=true:=by simpa using c19))
              clear c19;have H':=am' H;clear H;have p383:0≤(x12_1:Int):=od' xa';have q383:x12_1 < (l0_1.length:Int):=od' xa';obtain ⟨ad383,A383_0,c383_0,e383,hx383_0,hl383_0,hi383_0⟩:=at_L1 HR0_1.out x12_1 p383 q383;cases e383;replace hx383_0:=(HB.out.cell (bl' w _ hx383_0)).trans hx383_0;have HR383_0:=am' hi383_0;have HC383_0:=am' hl383_0;clear hi383_0 hl383_0;replace p383:=eq_true p383;replace q383:=eq_true q383;have hnb27:=NB379_378.out;have hnc27:=NB378_379.out;have hcz28_0:wr.cell? ⟨gb379,0,none⟩=some (.slice A1_0 l1_0.length c1_0):=(bc' BK379.out 0).trans rfl;have hcz28_1:wr.cell? ⟨gb379,1,none⟩=some (.bool a1_1):=(bc' BK379.out 1).trans rfl;have hfz28_0:=bf' BK379.out 0;have hfz28_1:=bf' BK379.out 1;have p384:0≤(0:Int):=(by omega)
              have q384:0 < ((rd_L1 l0_1 x12_1).length:Int):=od' xa';obtain ⟨ad384,e384,hx384_0⟩:=Kd.at_int HR383_0.out 0 p384 q384;cases e384;have qi384:(0 < (rd_L1 l0_1 x12_1).length)=True:=eq_true (by omega)
              (try rw [show ((0:Int)).toNat=0 from rfl] at hx384_0)
              (try rw [Addr.add_zero'] at hx384_0)
              replace hx384_0:=(HB.out.cell (bl' w _ hx384_0)).trans hx384_0;replace p384:=eq_true p384;replace q384:=eq_true q384;have p385:0≤((rd (rd_L1 l0_1 x12_1) 0):Int):=od' xa';have q385:(rd (rd_L1 l0_1 x12_1) 0) < (l1_0.length:Int):=od' xa';obtain ⟨ad385,e385,hx385_0⟩:=Kd.at_bool HR1_0.out (rd (rd_L1 l0_1 x12_1) 0) p385 q385;cases e385;replace hx385_0:=(HB.out.cell (bl' w _ hx385_0)).trans hx385_0;replace p385:=eq_true p385;replace q385:=eq_true q385;have p386:0≤(1:Int):=(by omega)
              have q386:1 < ((rd_L1 l0_1 x12_1).length:Int):=od' xa';obtain ⟨ad386,e386,hx386_0⟩:=Kd.at_int HR383_0.out 1 p386 q386;obtain rfl:ad384=ad386:=(by injection e386)
              (try simp only[show (1:Int).toNat=1 from rfl,Nat.reduceMul,Nat.reduceEqDiff,Go.Addr.add,↓reduceIte] at hx386_0)
              have qi386:(1 < (rd_L1 l0_1 x12_1).length)=True:=eq_true (by omega)
              (try rw [show ((1:Int)).toNat=1 from rfl] at hx386_0)
              replace hx386_0:=(HB.out.cell (bl' w _ hx386_0)).trans hx386_0;replace p386:=eq_true p386;replace q386:=eq_true q386;have p387:0≤((rd (rd_L1 l0_1 x12_1) 1):Int):=od' xa';have q387:(rd (rd_L1 l0_1 x12_1) 1) < (l1_0.length:Int):=od' xa';obtain ⟨ad387,e387,hx387_0⟩:=Kd.at_bool HR1_0.out (rd (rd_L1 l0_1 x12_1) 1) p387 q387;obtain rfl:ad385=ad387:=(by injection e387)
              replace hx387_0:=(HB.out.cell (bl' w _ hx387_0)).trans hx387_0;replace p387:=eq_true p387;replace q387:=eq_true q387;go_wp2
              repeat (go_quiet (fail);try go_wp2)
              go_roundg k1
              case measure=>have:=HK1.out;omega
              case rel=>exact ⟨(x5_1),(wrap64 (x12_1+1)),xs',H',⟨by have:=HK1.out;omega⟩,⟨kS' HO_5.out⟩,⟨kk' BK378.out⟩,⟨kk' BK379.out⟩,⟨y2' GE378.out GE379.out⟩⟩
            ·
             rw[if_neg c18] at H;exact absurd H (by simp)
           ·
            rw[if_neg c17] at H;exact absurd H (by simp)
          ·
           rw[if_neg c16] at H;exact absurd H (by simp)
         ·
          rw[if_neg c15] at H;have c15b0:((rdOf false l1_0 (rd (rd_L1 l0_1 x12_1) 0)) != a1_1)=false:=by simpa using c15
          (try (have c15b1:decide ((rdOf false l1_0 (rd (rd_L1 l0_1 x12_1) 0))=a1_1)=true:=by simpa using c15))
          (try (have c15b2:((rdOf false l1_0 (rd (rd_L1 l0_1 x12_1) 0)) == a1_1)=true:=by simpa using c15))
          clear c15;have H':=am' H;clear H;have p383:0≤(x12_1:Int):=od' xa';have q383:x12_1 < (l0_1.length:Int):=od' xa';obtain ⟨ad383,A383_0,c383_0,e383,hx383_0,hl383_0,hi383_0⟩:=at_L1 HR0_1.out x12_1 p383 q383;cases e383;replace hx383_0:=(HB.out.cell (bl' w _ hx383_0)).trans hx383_0;have HR383_0:=am' hi383_0;have HC383_0:=am' hl383_0;clear hi383_0 hl383_0;replace p383:=eq_true p383;replace q383:=eq_true q383;have hnb29:=NB379_378.out;have hnc29:=NB378_379.out;have hcz30_0:wr.cell? ⟨gb379,0,none⟩=some (.slice A1_0 l1_0.length c1_0):=(bc' BK379.out 0).trans rfl;have hcz30_1:wr.cell? ⟨gb379,1,none⟩=some (.bool a1_1):=(bc' BK379.out 1).trans rfl;have hfz30_0:=bf' BK379.out 0;have hfz30_1:=bf' BK379.out 1;have p384:0≤(0:Int):=(by omega)
          have q384:0 < ((rd_L1 l0_1 x12_1).length:Int):=od' xa';obtain ⟨ad384,e384,hx384_0⟩:=Kd.at_int HR383_0.out 0 p384 q384;cases e384;have qi384:(0 < (rd_L1 l0_1 x12_1).length)=True:=eq_true (by omega)
          (try rw [show ((0:Int)).toNat=0 from rfl] at hx384_0)
          (try rw [Addr.add_zero'] at hx384_0)
          replace hx384_0:=(HB.out.cell (bl' w _ hx384_0)).trans hx384_0;replace p384:=eq_true p384;replace q384:=eq_true q384;have p385:0≤((rd (rd_L1 l0_1 x12_1) 0):Int):=od' xa';have q385:(rd (rd_L1 l0_1 x12_1) 0) < (l1_0.length:Int):=od' xa';obtain ⟨ad385,e385,hx385_0⟩:=Kd.at_bool HR1_0.out (rd (rd_L1 l0_1 x12_1) 0) p385 q385;cases e385;replace hx385_0:=(HB.out.cell (bl' w _ hx385_0)).trans hx385_0;replace p385:=eq_true p385;replace q385:=eq_true q385;go_wp2
          repeat (go_quiet (fail);try go_wp2)
          go_roundg k1
          case measure=>have:=HK1.out;omega
          case rel=>exact ⟨(x5_1),(wrap64 (x12_1+1)),xs',H',⟨by have:=HK1.out;omega⟩,⟨kS' HO_5.out⟩,⟨kk' BK378.out⟩,⟨kk' BK379.out⟩,⟨y2' GE378.out GE379.out⟩⟩
        ·
         rw[if_neg c14] at H;exact absurd H (by simp)
       ·
        rw[if_neg c13] at H;exact absurd H (by simp)
      ·
       rw[if_neg c12] at H;exact absurd H (by simp)
     ·
      rw[if_neg c11] at H;exact absurd H (by simp)
    ·
     rw[if_neg c10] at H;exact absurd H (by simp)
   ·
    rw[if_neg c9] at H;have c9b0:decide (x12_1 < (l0_1.length:Int))=false:=df' c9;clear c9;obtain rfl:=os' H;go_wp2
    repeat (go_quiet (fail);try go_wp2)
    go_ret
    exact ⟨_,by first|rfl|(simp[errW_none,errW_some] <;> rfl)|(simp[*,errW_none,errW_some] <;> rfl),kS' HO_5.out,y2' GE378.out GE379.out⟩
set_option maxHeartbeats 2000000 in
set_option maxRecDepth 100000 in
theorem state_any (A:Option Addr) (n c:Nat) (b:Bool) (w:World):Calls Try.prog 93 #[.agg #[.slice A n c, .bool b]] w fun e w'=>e = .returned (.agg #[.slice A n c, .bool b])∧Below w.heap.size w w':=by
 have hu:=Try.underlying34
 have hus:=Try.underlying73
 have HB:=am' (two_blocks w (.cells #[.slice A n c, .bool b] 34) (.cells #[.slice A n c, .bool b] 73))
 go_enter Try.func93,Try.ntmps93
 go_wp2_with fail
 refine bodyPost_ret (results_cell_row rfl _ _ (w.heap.size+1) 73 #[.slice A n c, .bool b] (0,0) _ rfl HB.out.2.1 Try.underlying73 rfl xk') rfl ?_
 exact ⟨rfl,HB.out.2.2⟩
set_option maxHeartbeats 2000000 in
set_option maxRecDepth 100000 in
theorem ridden_any (k:Nat) (A0:Option Addr) (c0:Nat) (l0:List Bool) (b:Bool) (A1:Option Addr) (c1:Nat) (l1:List Int) (r1:List Bool) (r2:Bool) (w:World) (hr0:Kd.C Kd.bool w A0 l0.length l0) (hc0:l0.length≤c0) (hr1:Kd.C (Kd.int .i64) w A1 l1.length l1) (hc1:l1.length≤c1) (h:impl_State_moved.f k l0 b l1=some (r1,r2)) :
  Calls Try.prog 74 #[.agg #[.slice A0 l0.length c0, .bool b], .slice A1 l1.length c1] w fun e w'=>∃ v0_:Value,e = .returned (.agg #[v0_, .bool r2])∧Kd.R Kd.bool 4 w' w.heap.size (fun _=>True) v0_ r1∧Below w.heap.size w w':=by
 have hu:=Try.underlying34
 have hus:=Try.underlying73
 have HB:=am' (two_blocks w (.cells #[.slice A0 l0.length c0, .bool b] 34) (.cells #[.slice none 0 0, .bool false] 34))
 have HM:=am' (fun (W:World) (hb:Below w.heap.size w W)=>impl_State_moved.calls k A0 c0 l0 b A1 c1 l1 r1 r2 W (cb' hr0 hb) hc0 (cb' hr1 hb) hc1 h)
 clear hr0 hr1 h;go_enter Try.func74,Try.ntmps74
 go_wp2_with fail
 refine (state_any A0 l0.length c0 b _).mono ?_
 rintro e w2 ⟨rfl,hb⟩
 have HB2:=am' (bt' HB.out.2.2 hb)
 have HX:=am' (bb' HB.out.1 hb)
 have HY:=am' (bb' HB.out.2.1 hb)
 clear hb;go_wp2_with fail
 refine (HM.out _ HB2.out).mono ?_
 rintro e w3 ⟨v0,rfl,hR,hb⟩
 obtain ⟨Av,cv,rfl⟩:=Kd.R_slice hR
 have HR:=am' hR
 have HB3:=am' (bt' HB2.out hb)
 have HY3:=am' (ka' (bb' HY.out hb) (.cells #[.slice Av r1.length cv, .bool r2] 73))
 have HN:=am' (heap_alloc_new w3 (.cells #[.slice Av r1.length cv, .bool r2] 73))
 clear hR hb;obtain ⟨c0_,f0_,c1_,f1_⟩:=put2 HY3.out (.slice Av r1.length cv) (.bool r2)
 go_wp2_with fail
 have HKP:=am' (put2_kept (w3.alloc (.cells #[.slice Av r1.length cv, .bool r2] 73)) (w.heap.size+1) (.slice Av r1.length cv) (.bool r2))
 have HLT:=am' (blk_lt HY.out)
 refine bodyPost_ret (results_cell_row rfl _ _ (w.heap.size+1) 34 #[.slice Av r1.length cv, .bool r2] (0,0) _ rfl (put2_blk HY3.out _ _) Try.underlying34 rfl xk') rfl ?_
 refine ⟨_,rfl,Kd.R_lower (Kd.R_mono (Kd.R_kept (Kd.R_bound (ra' HR.out _)) HKP.out (fun k hk q=>by have h1:=hk.2.1;have h2:=HLT.out;omega)) (fun _ _=>trivial)) (HB2.out.size),bs' (bs' (ba' HB3.out _) (by omega)) (by omega)⟩
def KeepFr (pk pb:Nat) (n:Int) (A0:Option Addr) (c0:Nat) (l0:List (List Int)) (m:Int) (A1:Option Addr) (c1:Nat) (l1:List Bool) (tr:Bool) (W:World) (O:Nat→Prop):Prop :=
 (W.heap[pk]? = some (.cells #[.int .i64 n, .slice A0 l0.length c0, .int .i64 m] 32 (0,0))∧¬ O pk)∧(W.heap[pb]? = some (.cells #[.slice A1 l1.length c1, .bool tr] 34 (0,0))∧¬ O pb)∧Kd.F (Kd.slice 3 (Kd.int .i64)) W (fun k=>¬ O k) A0 l0.length l0∧Kd.F Kd.bool W (fun k=>¬ O k) A1 l1.length l1∧l0.length≤c0∧l1.length≤c1
theorem KeepFr.turn {pk pb:Nat} {n:Int} {A0:Option Addr} {c0:Nat} {l0:List (List Int)} {m:Int} {A1:Option Addr} {c1:Nat} {l1:List Bool} {tr:Bool} {w W:World} {O O':Nat→Prop} (h:KeepFr pk pb n A0 c0 l0 m A1 c1 l1 tr w O) (hk:Kept w W O) (ho:∀ k,O' k→O k∨w.heap.size≤k):KeepFr pk pb n A0 c0 l0 m A1 c1 l1 tr W O':=by
 obtain ⟨⟨h1,g1⟩,⟨h2,g2⟩,h3,h4,h5,h6⟩:=h
 refine ⟨⟨blk_kept h1 hk g1,fun q=>?_⟩,⟨blk_kept h2 hk g2,fun q=>?_⟩,Kd.F_mono (Kd.F_kept (Kd.F_bound h3) hk (fun _ q=>q.1)) (fun k q q2=>by rcases ho k q2 with q3|q3;exact q.1 q3;omega),Kd.F_mono (Kd.F_kept (Kd.F_bound h4) hk (fun _ q=>q.1)) (fun k q q2=>by rcases ho k q2 with q3|q3;exact q.1 q3;omega),h5,h6⟩
 ·
  rcases ho _ q with q|q
  ·
   exact g1 q
  ·
   have:=blk_lt h1;omega
 ·
  rcases ho _ q with q|q
  ·
   exact g2 q
  ·
   have:=blk_lt h2;omega
def keepInv (B bo pk pb:Nat) (n:Int) (A0:Option Addr) (c0:Nat) (l0:List (List Int)) (m:Int) (A1:Option Addr) (c1:Nat) (l1:List Bool) (tr:Bool) (s:List (List Int)) (W:World) (O:Nat→Prop):Prop:=OutInv B bo s W O∧KeepFr pk pb n A0 c0 l0 m A1 c1 l1 tr W O
def keepS (k:Nat) (n:Int) (l0:List (List Int)) (m:Int) (l1:List Bool) (tr:Bool) (s:List (List Int)) (l:List Int):Option (List (List Int)):=(impl_State_moved.f k l1 tr l).bind fun mm=>(impl_Keep_dangers.f k n l0 m mm.1 mm.2).bind fun d=>if d.length=0 then pushS s l else some s
set_option maxHeartbeats 4000000 in
set_option maxRecDepth 100000 in
theorem keep1_each (k:Nat) (B bo pk pb:Nat) (n:Int) (A0:Option Addr) (c0:Nat) (l0:List (List Int)) (m:Int) (A1:Option Addr) (c1:Nat) (l1:List Bool) (tr:Bool):EachOk B 92 #[.pointer (some ⟨pk,0,none⟩), .pointer (some ⟨pb,0,none⟩), .pointer (some ⟨bo,0,none⟩)] (keepInv B bo pk pb n A0 c0 l0 m A1 c1 l1 tr) (keepS k n l0 m l1 tr):=by
 intro s s' O W0 W vl l hinv hbel hR hs;obtain ⟨hout,hfr⟩:=hinv
 have hfr:=hfr.turn (O':=O) (Kept.of_below hbel O) (fun _ h => .inl h)
 obtain ⟨Al,cl,rfl,hlc,hC⟩:=Kd.R_reads hR
 unfold keepS at hs
 obtain ⟨⟨r1,r2⟩,hmv,hs⟩:=Option.bind_eq_some_iff.mp hs
 obtain ⟨d,hd,hs⟩:=Option.bind_eq_some_iff.mp hs
 have HRD:=am' (fun (W1:World) (hb:Below W.heap.size W W1)=>ridden_any k A1 c1 l1 tr Al cl l r1 r2 W1 (cb' (Kd.F_now hfr.2.2.2.1) hb) hfr.2.2.2.2.2 (cb' hC hb) hlc hmv)
 have HDG:=am' (fun (W1:World) (hb:Below W.heap.size W W1) (Av:Option Addr) (cv:Nat) (hc:Kd.C Kd.bool W1 Av r1.length r1) (hcv:r1.length≤cv)=>impl_Keep_dangers.calls k n A0 c0 l0 m Av cv r1 r2 d W1 (cb' (Kd.F_now hfr.2.2.1) hb) hfr.2.2.2.2.1 hc hcv hd)
 have x0:W.cell? ⟨pk,0,none⟩=some (.int .i64 n):=(bc' hfr.1.1 0).trans rfl
 have x1:W.cell? ⟨pk,1,none⟩=some (.slice A0 l0.length c0):=(bc' hfr.1.1 1).trans rfl
 have x2:W.cell? ⟨pk,2,none⟩=some (.int .i64 m):=(bc' hfr.1.1 2).trans rfl
 have x3:W.cell? ⟨pb,0,none⟩=some (.slice A1 l1.length c1):=(bc' hfr.2.1.1 0).trans rfl
 have x4:W.cell? ⟨pb,1,none⟩=some (.bool tr):=(bc' hfr.2.1.1 1).trans rfl
 have hu:=Try.underlying32
 have hub:=Try.underlying34
 have HFR:=am' hfr
 have HOUT:=am' hout
 have HBEL:=am' hbel
 have HR0:=am' hR
 clear hfr hout hbel hR hC hlc hmv hd;obtain ⟨nd,hnd⟩:∃ nd,nd=d.length:=⟨_,rfl⟩
 rw[← hnd] at hs
 have HND:=am' hnd
 clear hnd;by_cases hz:nd=0
 ·
  rw[if_pos hz] at hs;obtain ⟨v,hbo,hB,hS,rfl⟩:=HOUT.out
  obtain ⟨hlim,rfl⟩:s.length < 1099511627776∧s ++ [l]=s':=by
   unfold pushS at hs
   by_cases h:s.length < 1099511627776
   ·
    rw[if_pos h] at hs;exact ⟨h,os' hs⟩
   ·
    rw[if_neg h] at hs;cases hs
  subst hz;have hinfo:=am' (show (Try.prog.info? 43).map (fun i=>(i.zero,i.size,i.bytes))=some (some (.slice none 0 0),1,24) by kernel_rfl);have HL:=am' hlim;have HBO0:=am' hbo;have HS0:=am' hS;have HBE:=am' hB;have HLO:=am' (blk_lt hbo);have HVL:=am' (Kd.S_lt hS);clear hbo hS hs hlim hB HOUT;go_enter Try.func92,Try.ntmps92;go_wp2_with fail;refine start_ (n:=7) (S:=fun w'=>w'.cell? ⟨pk,0,none⟩=some (.int .i64 n)∧w'.cell? ⟨pk,1,none⟩=some (.slice A0 l0.length c0)∧w'.cell? ⟨pk,2,none⟩=some (.int .i64 m)∧w'.cell? ⟨pb,0,none⟩=some (.slice A1 l1.length c1)∧w'.cell? ⟨pb,1,none⟩=some (.bool tr)) (ds:=[]) #[false,false,false,false,false,false,false] xk' rfl rfl ⟨x0,x1,x2,x3,x4⟩ (fun hHeld=>?_);refine take_ (i:=0) (N:=some 5) (v:=?_) (a':=?_) #[true,false,false,false,false,false,false] rfl rfl xk' (fun _ _ _ h=>h) (Or.inl ⟨by rfl,?_⟩) hHeld ?_ ?_
  rotate_left
  ·
   rintro w' ⟨s0_,s1_,s2_,s3_,s4_⟩
   go_simp;with_reducible rfl
  rotate_left
  ·
   simp only[Act.put,sa',sb',sc',i64_w,i32_w];rfl
  refine take_ (i:=1) (N:=some 6) (v:=?_) (a':=?_) #[true,true,false,false,false,false,false] rfl rfl xk' (fun _ _ _ h=>h) (Or.inl ⟨by rfl,?_⟩) hHeld ?_ ?_
  rotate_left
  ·
   rintro w' ⟨s0_,s1_,s2_,s3_,s4_⟩
   go_simp;with_reducible rfl
  rotate_left
  ·
   simp only[Act.put,sa',sb',sc',i64_w,i32_w];rfl
  refine pure_ (i:=2) (N:=some 7) (v:=?_) (a':=?_) #[true,true,true,false,false,false,false] rfl rfl xk' (fun _ _ _ h=>h) (Or.inl ⟨by rfl,?_⟩) ?_ ?_
  rotate_left
  ·
   intro w';go_simp;with_reducible rfl
  rotate_left
  ·
   simp only[Act.put,sa',sb',sc',i64_w,i32_w];rfl
  refine one_ (i:=3) (N:=some 8) #[true,true,true,true,false,false,false] rfl rfl xk' (by decide) (fun K hK=>?_);refine goes_ Try.func74 xk' rfl #[.agg #[.slice A1 l1.length c1, .bool tr], .slice Al l.length cl] (by rfl) rfl rfl (by (try simp only[List.map_toArray,List.map_cons,List.map_nil]);first|done|rfl) ?_
  refine (HRD.out _ (below_drew (Below.refl _ _))).mono ?_
  rintro e w2 ⟨v2,rfl,hR2,hb2⟩
  have hb2:=bt' (below_drew (Below.refl W.heap.size W)) hb2;obtain ⟨Av,cv,rfl⟩:=Kd.R_slice hR2;have HR2:=am' hR2;have HB2:=am' hb2;have y0:=(hb2.cell (bl' W _ x0)).trans x0;have y1:=(hb2.cell (bl' W _ x1)).trans x1;have y2:=(hb2.cell (bl' W _ x2)).trans x2;have y3:=(hb2.cell (bl' W _ x3)).trans x3;have y4:=(hb2.cell (bl' W _ x4)).trans x4;clear hR2 hb2;refine ⟨_,rfl,?_⟩;refine hK.out _ _ ⟨y0,y1,y2,y3,y4⟩ (fun hHeld=>?_);clear hK K;refine norm_ (a':=?_) ?_ ?_
  rotate_left
  ·
   show Act.put _ (some 8) _=_
   simp only[Act.put,sa',sb',sc',i64_w,i32_w];rfl
  refine one_ (i:=4) (N:=some 9) #[true,true,true,true,true,false,false] rfl rfl xk' (by decide) (fun K hK=>?_);refine goes_ Try.func77 xk' rfl #[.agg #[.int .i64 n, .slice A0 l0.length c0, .int .i64 m], .agg #[.slice Av r1.length cv, .bool r2]] (by rfl) rfl rfl (by (try simp only[List.map_toArray,List.map_cons,List.map_nil]);first|done|rfl) ?_
  refine (HDG.out _ HB2.out Av cv (Kd.R_reads' HR2.out).2.2 (Kd.R_reads' HR2.out).2.1).mono ?_
  rintro e w3 ⟨v3,rfl,hS3,hb3⟩
  obtain ⟨Ad,cd,rfl⟩:=Kd.S_slice hS3;rw[← HND.out];have hb3:=bt' HB2.out hb3;have HB3:=am' hb3;have z0:=(hb3.cell (bl' W _ x0)).trans x0;have z1:=(hb3.cell (bl' W _ x1)).trans x1;have z2:=(hb3.cell (bl' W _ x2)).trans x2;have z3:=(hb3.cell (bl' W _ x3)).trans x3;have z4:=(hb3.cell (bl' W _ x4)).trans x4;clear hS3 hb3 y0 y1 y2 y3 y4;refine ⟨_,rfl,?_⟩;refine hK.out _ _ ⟨z0,z1,z2,z3,z4⟩ (fun hHeld=>?_);clear hK K;refine norm_ (a':=?_) ?_ ?_
  rotate_left
  ·
   show Act.put _ (some 9) _=_
   simp only[Act.put,sa',sb',sc',i64_w,i32_w];rfl
  refine pure_ (i:=5) (N:=some 10) (v:=?_) (a':=?_) #[true,true,true,true,true,true,false] rfl rfl xk' (fun _ _ _ h=>h) (Or.inl ⟨by rfl,?_⟩) ?_ ?_
  rotate_left
  ·
   intro w';go_simp;with_reducible rfl
  rotate_left
  ·
   simp only[Act.put,sa',sb',sc',i64_w,i32_w];rfl
  refine pure_ (i:=6) (N:=some 11) (v:=?_) (a':=?_) #[true,true,true,true,true,true,true] rfl rfl xk' (fun _ _ _ h=>h) (Or.inl ⟨by rfl,?_⟩) ?_ ?_
  rotate_left
  ·
   intro w';go_simp;with_reducible rfl
  rotate_left
  ·
   simp only[Act.put,sa',sb',sc',i64_w,i32_w];rfl
  refine done_ xk' ?_
  have hb2:Below W0.heap.size W0 w3:=bt' HBEL.out HB3.out;have HSZ:=am' hb2.size;have HBO:=am' (bb' HBO0.out hb2);have HS:=am' (Kd.S_mono (Kd.S_old HS0.out hb2) (ok':=fun k=>k≠bo∧¬ W0.heap.size≤k) (fun k hk=>⟨hk.1,by omega⟩));have HR:=am' (rb' HR0.out HB3.out);have HBB:=am' (show Below B W w3 from HB3.out.mono (by have:=HBEL.out.size;have:=HLO.out;have:=HBE.out;omega));clear hb2 x0 x1 x2 x3 x4 z0 z1 z2 z3 z4;have y0:w3.cell? ⟨bo,0,none⟩=some v:=(bc' HBO.out 0).trans rfl;have y1:=bf' HBO.out 0;go_wp2_with ((with_reducible refine gate_builtin (b := .append) (xs:=#[.tmp 12, .tmp 14]) rfl ?_);at_builtin;refine Kd.S_append (Kd.slice 3 (Kd.int .i64)) (w0:=W) B rfl (.tmp 12) (.tmp 14) 22 43 (.slice none 0 0) 24 rfl Try.underlying22 hinfo.out rfl (by decide) (by omega) v s l [.slice Al l.length cl] (fun k=>k≠bo) (fun k=>W0.heap.size≤k∧k < w3.heap.size∧k≠bo) rfl rfl ?aP ?aK ?aF ?aO ?aB ?aS ?aL ?_;(case aP=>exact ⟨_,rfl,Kd.R_lower (Kd.R_mono (Kd.R_bound HR.out) (fun k hk=>⟨hk.2.1,hk.2.2.1,by have:=HLO.out;have:=hk.2.1;omega⟩)) (by have:=HLO.out;have:=HBE.out;omega)⟩);(case aK=>exact fun k hk=>⟨hk.2.2,fun e=>by have:=HVL.out k e.symm;omega⟩);(case aF=>exact fun k hk=>by have:=HLO.out;have:=HSZ.out;omega);(case aO=>exact Kd.S_mono HS.out (fun k hk=>⟨hk.1,fun q=>hk.2 q.1⟩));(case aB=>exact HBB.out);(case aS=>have:=HLO.out;have:=HSZ.out;have:=HBE.out;omega);(case aL=>have:=HL.out;omega);intro v1 w1 ho hb hg hat;obtain ⟨A1_,c1_,e1⟩:=Kd.S_slice ho;rw[List.length_append,List.length_singleton] at e1;subst e1;have HY:=am' ((hg.block bo (Nat.lt_of_lt_of_le HLO.out HSZ.out) (Kd.S_away HS.out (fun k hk=>hk.1))).trans HBO.out);have z0:w1.cell? ⟨bo,0,none⟩=some v:=(bc' HY.out 0).trans rfl;have z1:=bf' HY.out 0;have HO:=am' ho;have HB1:=am' hb;have HG1:=am' hg;have HA1:=am' hat;clear ho hb hg hat);go_end0
  have hkp:Kept W (w1.setCell ⟨bo,0,none⟩ (.slice A1_ (s.length+1) c1_)) (fun k=>k=bo∨some k=v.ownBlock):=Kept.setCell (Kept.of_grown HG1.out (Kept.of_below HB3.out _) (fun k hk => .inl (.inr hk.symm))) (.inl (.inl rfl)) _
  have hnew:∀ k,(k=bo∨some k=(Value.slice A1_ (s.length+1) c1_).ownBlock)→(k=bo∨some k=v.ownBlock)∨W.heap.size≤k:=by
   rintro k (rfl|hk)
   ·
    exact .inl (.inl rfl)
   ·
    rcases HA1.out with q|⟨b,q,hb⟩
    ·
     exact .inl (.inr (hk.trans q))
    ·
     rw[q] at hk;cases hk;exact .inr (Nat.le_trans HB3.out.size hb)
  exact ⟨rfl,HB1.out.setCell HBE.out _,_,⟨⟨_,blk_put HY.out 0 _ rfl,HBE.out,Kd.S_far HO.out (p:=⟨bo,0,none⟩) (fun k hk=>hk) _,rfl⟩,HFR.out.turn hkp hnew⟩,hkp,hnew⟩
 ·
  rw[if_neg hz] at hs;obtain rfl:=os' hs;have hq1:((nd:Int) == 0)=false:=by rw[beq_eq_false_iff_ne];omega
  have hq2:decide ((nd:Int)=0)=false:=df' (by omega);have hq3:¬ (nd:Int)=0:=by omega
  clear hs;go_enter Try.func92,Try.ntmps92;go_wp2_with fail;refine start_ (n:=7) (S:=fun w'=>w'.cell? ⟨pk,0,none⟩=some (.int .i64 n)∧w'.cell? ⟨pk,1,none⟩=some (.slice A0 l0.length c0)∧w'.cell? ⟨pk,2,none⟩=some (.int .i64 m)∧w'.cell? ⟨pb,0,none⟩=some (.slice A1 l1.length c1)∧w'.cell? ⟨pb,1,none⟩=some (.bool tr)) (ds:=[]) #[false,false,false,false,false,false,false] xk' rfl rfl ⟨x0,x1,x2,x3,x4⟩ (fun hHeld=>?_);refine take_ (i:=0) (N:=some 5) (v:=?_) (a':=?_) #[true,false,false,false,false,false,false] rfl rfl xk' (fun _ _ _ h=>h) (Or.inl ⟨by rfl,?_⟩) hHeld ?_ ?_
  rotate_left
  ·
   rintro w' ⟨s0_,s1_,s2_,s3_,s4_⟩
   go_simp;with_reducible rfl
  rotate_left
  ·
   simp only[Act.put,sa',sb',sc',i64_w,i32_w];rfl
  refine take_ (i:=1) (N:=some 6) (v:=?_) (a':=?_) #[true,true,false,false,false,false,false] rfl rfl xk' (fun _ _ _ h=>h) (Or.inl ⟨by rfl,?_⟩) hHeld ?_ ?_
  rotate_left
  ·
   rintro w' ⟨s0_,s1_,s2_,s3_,s4_⟩
   go_simp;with_reducible rfl
  rotate_left
  ·
   simp only[Act.put,sa',sb',sc',i64_w,i32_w];rfl
  refine pure_ (i:=2) (N:=some 7) (v:=?_) (a':=?_) #[true,true,true,false,false,false,false] rfl rfl xk' (fun _ _ _ h=>h) (Or.inl ⟨by rfl,?_⟩) ?_ ?_
  rotate_left
  ·
   intro w';go_simp;with_reducible rfl
  rotate_left
  ·
   simp only[Act.put,sa',sb',sc',i64_w,i32_w];rfl
  refine one_ (i:=3) (N:=some 8) #[true,true,true,true,false,false,false] rfl rfl xk' (by decide) (fun K hK=>?_);refine goes_ Try.func74 xk' rfl #[.agg #[.slice A1 l1.length c1, .bool tr], .slice Al l.length cl] (by rfl) rfl rfl (by (try simp only[List.map_toArray,List.map_cons,List.map_nil]);first|done|rfl) ?_
  refine (HRD.out _ (below_drew (Below.refl _ _))).mono ?_
  rintro e w2 ⟨v2,rfl,hR2,hb2⟩
  have hb2:=bt' (below_drew (Below.refl W.heap.size W)) hb2;obtain ⟨Av,cv,rfl⟩:=Kd.R_slice hR2;have HR2:=am' hR2;have HB2:=am' hb2;have y0:=(hb2.cell (bl' W _ x0)).trans x0;have y1:=(hb2.cell (bl' W _ x1)).trans x1;have y2:=(hb2.cell (bl' W _ x2)).trans x2;have y3:=(hb2.cell (bl' W _ x3)).trans x3;have y4:=(hb2.cell (bl' W _ x4)).trans x4;clear hR2 hb2;refine ⟨_,rfl,?_⟩;refine hK.out _ _ ⟨y0,y1,y2,y3,y4⟩ (fun hHeld=>?_);clear hK K;refine norm_ (a':=?_) ?_ ?_
  rotate_left
  ·
   show Act.put _ (some 8) _=_
   simp only[Act.put,sa',sb',sc',i64_w,i32_w];rfl
  refine one_ (i:=4) (N:=some 9) #[true,true,true,true,true,false,false] rfl rfl xk' (by decide) (fun K hK=>?_);refine goes_ Try.func77 xk' rfl #[.agg #[.int .i64 n, .slice A0 l0.length c0, .int .i64 m], .agg #[.slice Av r1.length cv, .bool r2]] (by rfl) rfl rfl (by (try simp only[List.map_toArray,List.map_cons,List.map_nil]);first|done|rfl) ?_
  refine (HDG.out _ HB2.out Av cv (Kd.R_reads' HR2.out).2.2 (Kd.R_reads' HR2.out).2.1).mono ?_
  rintro e w3 ⟨v3,rfl,hS3,hb3⟩
  obtain ⟨Ad,cd,rfl⟩:=Kd.S_slice hS3;rw[← HND.out];have hb3:=bt' HB2.out hb3;have HB3:=am' hb3;have z0:=(hb3.cell (bl' W _ x0)).trans x0;have z1:=(hb3.cell (bl' W _ x1)).trans x1;have z2:=(hb3.cell (bl' W _ x2)).trans x2;have z3:=(hb3.cell (bl' W _ x3)).trans x3;have z4:=(hb3.cell (bl' W _ x4)).trans x4;clear hS3 hb3 y0 y1 y2 y3 y4;refine ⟨_,rfl,?_⟩;refine hK.out _ _ ⟨z0,z1,z2,z3,z4⟩ (fun hHeld=>?_);clear hK K;refine norm_ (a':=?_) ?_ ?_
  rotate_left
  ·
   show Act.put _ (some 9) _=_
   simp only[Act.put,sa',sb',sc',i64_w,i32_w];rfl
  refine pure_ (i:=5) (N:=some 10) (v:=?_) (a':=?_) #[true,true,true,true,true,true,false] rfl rfl xk' (fun _ _ _ h=>h) (Or.inl ⟨by rfl,?_⟩) ?_ ?_
  rotate_left
  ·
   intro w';go_simp;with_reducible rfl
  rotate_left
  ·
   simp only[Act.put,sa',sb',sc',i64_w,i32_w];rfl
  refine pure_ (i:=6) (N:=some 11) (v:=?_) (a':=?_) #[true,true,true,true,true,true,true] rfl rfl xk' (fun _ _ _ h=>h) (Or.inl ⟨by rfl,?_⟩) ?_ ?_
  rotate_left
  ·
   intro w';go_simp;with_reducible rfl
  rotate_left
  ·
   simp only[Act.put,sa',sb',sc',i64_w,i32_w];rfl
  refine done_ xk' ?_
  go_wp2;go_end0
  have hb2:Below W0.heap.size W0 w3:=HBEL.out.trans (HB3.out.mono HBEL.out.size)
  have hBW:B≤W.heap.size:=by
   obtain ⟨v,h1,h2,_⟩:=HOUT.out;have:=blk_lt h1;have:=HBEL.out.size;omega
  exact ⟨rfl,HB3.out.mono hBW,O,⟨HOUT.out.below hb2,HFR.out.turn (Kept.of_below HB3.out O) (fun _ h => .inl h)⟩,Kept.of_below HB3.out O,fun k h => .inl h⟩
def impl_Keep_rides.f (k:Nat) (a0_0:Int) (l0_1:List (List Int)) (a0_2:Int) (l1_0:List Bool) (a1_1:Bool):Option (List (List Int)) :=
 (keepS k a0_0 l0_1 a0_2 l1_0 a1_1 [] []).bind fun s1=>(impl_State_side.f k l1_0 a1_1 a1_1).bind fun sd=>if sd.length≤20 then (grpsF a0_2 sd []).foldlM (keepS k a0_0 l0_1 a0_2 l1_0 a1_1) s1 else none
set_option maxHeartbeats 4000000 in
set_option maxRecDepth 100000 in
theorem impl_Keep_rides.calls (k:Nat) (a0_0:Int) (A0_1:Option Addr) (c0_1:Nat) (l0_1:List (List Int)) (a0_2:Int) (A1_0:Option Addr) (c1_0:Nat) (l1_0:List Bool) (a1_1:Bool) (r:List (List Int)) (w:World) (hr0_1:Kd.C (Kd.slice 3 (Kd.int .i64)) w A0_1 l0_1.length l0_1) (hc0_1:l0_1.length≤c0_1) (hr1_0:Kd.C Kd.bool w A1_0 l1_0.length l1_0) (hc1_0:l1_0.length≤c1_0) (h:impl_Keep_rides.f k a0_0 l0_1 a0_2 l1_0 a1_1=some r) :
  Calls Try.prog 58 #[.agg #[.int .i64 a0_0, .slice A0_1 l0_1.length c0_1, .int .i64 a0_2], .agg #[.slice A1_0 l1_0.length c1_0, .bool a1_1]] w fun e w'=>∃ v0_:Value,e = .returned (v0_)∧Kd.S (Kd.slice 3 (Kd.int .i64)) 43 w' w.heap.size (fun _=>True) v0_ r∧Below w.heap.size w w':=by
 have hu:=Try.underlying32
 have hub:=Try.underlying34
 unfold impl_Keep_rides.f at h
 obtain ⟨s1,hs1,h⟩:=Option.bind_eq_some_iff.mp h
 obtain ⟨sd,hsd,h⟩:=Option.bind_eq_some_iff.mp h
 by_cases hlen:sd.length≤20
 ·
  rw[if_pos hlen] at h;have HD:=am' (fun (W:World) (hb:Below w.heap.size w W)=>impl_State_side.calls k A1_0 c1_0 l1_0 a1_1 a1_1 sd W (cb' hr1_0 hb) hc1_0 hsd);have HB0:=am' (four_blocks w (.cells #[.int .i64 a0_0, .slice A0_1 l0_1.length c0_1, .int .i64 a0_2] 32) (.cells #[.slice A1_0 l1_0.length c1_0, .bool a1_1] 34) (.cells #[] 43) (.cells #[.slice (some ⟨w.heap.size+1+1,0,none⟩) 0 0] 22));have HF0:=am' (Kd.C_F (Kd.heap_slice 3 (Kd.heap_int .i64)) hr0_1);have HF1:=am' (Kd.C_F Kd.heap_bool hr1_0);have HS1:=am' hs1;have HFO:=am' h;have HLEN:=am' hlen;clear hr0_1 hr1_0 hsd hlen h hs1;go_enter Try.func58,Try.ntmps58;go_wp2_with fail;have hsz:((((w.alloc (.cells #[.int .i64 a0_0, .slice A0_1 l0_1.length c0_1, .int .i64 a0_2] 32)).alloc (.cells #[.slice A1_0 l1_0.length c1_0, .bool a1_1] 34)).alloc (.cells #[] 43)).alloc (.cells #[.slice (some ⟨w.heap.size+1+1,0,none⟩) 0 0] 22)).heap.size=w.heap.size+1+1+1+1:=by simp only[World.size_alloc]
  generalize hW3:(((w.alloc (.cells #[.int .i64 a0_0, .slice A0_1 l0_1.length c0_1, .int .i64 a0_2] 32)).alloc (.cells #[.slice A1_0 l1_0.length c1_0, .bool a1_1] 34)).alloc (.cells #[] 43)).alloc (.cells #[.slice (some ⟨w.heap.size+1+1,0,none⟩) 0 0] 22)=W3 at HB0 hsz ⊢
  clear hW3;have HW3:=am' HB0.out.2.2.2.2;have HSZ:=am' hsz
  have HIN:=am' (show OutInv w.heap.size (w.heap.size+1+1+1) [] W3 (fun k=>k=(w.heap.size+1+1+1)∨some k=(Value.slice (some ⟨w.heap.size+1+1,0,none⟩) 0 0).ownBlock) from
   ⟨_,HB0.out.2.2.2.1,by omega,S_empty _ HB0.out.2.2.1 (by omega) (by omega),rfl⟩)
  have hno:∀ k,(k=(w.heap.size+1+1+1)∨some k=(Value.slice (some ⟨w.heap.size+1+1,0,none⟩) 0 0).ownBlock)→w.heap.size+1+1≤k:=by
   rintro k (rfl|q)
   ·
    omega
   ·
    have q:=os' (show some _=some _ from q);simp at q;omega
  have HNO:=am' hno;clear hno
  have HCF:=am' (show KeepFr w.heap.size (w.heap.size+1) a0_0 A0_1 c0_1 l0_1 a0_2 A1_0 c1_0 l1_0 a1_1 W3 (fun k=>k=(w.heap.size+1+1+1)∨some k=(Value.slice (some ⟨w.heap.size+1+1,0,none⟩) 0 0).ownBlock) from
   ⟨⟨HB0.out.1,fun q=>by have:=HNO.out _ q;omega⟩,⟨HB0.out.2.1,fun q=>by have:=HNO.out _ q;omega⟩,Kd.F_mono (Kd.F_below HF0.out HW3.out) (fun k hk q=>by have:=HNO.out _ q;omega),Kd.F_mono (Kd.F_below HF1.out HW3.out) (fun k hk q=>by have:=HNO.out _ q;omega),hc0_1,hc1_0⟩)
  clear hsz HF0 HF1;have HBA:=am' (ba' (Below.refl W3.heap.size W3) (.cells #[] 3));have HNB:=am' (heap_alloc_new W3 (.cells #[] 3))
  have hRE:Kd.R (Kd.int .i64) 3 (W3.alloc (.cells #[] 3)) W3.heap.size (fun _=>True) (.slice (some ⟨w.heap.size+1+1+1+1,0,none⟩) 0 0) []:=by
   have:=Kd.S_R (S_empty (Kd.int .i64) (ok:=fun _=>True) HNB.out (Nat.le_refl _) trivial);rw[HSZ.out] at this ⊢;exact this
  refine (keep1_each k w.heap.size (w.heap.size+1+1+1) w.heap.size (w.heap.size+1) a0_0 A0_1 c0_1 l0_1 a0_2 A1_0 c1_0 l1_0 a1_1 [] s1 _ W3 _ _ [] ⟨HIN.out,HCF.out⟩ HBA.out hRE HS1.out).mono ?_
  rintro e w4 ⟨rfl,hb4,O4,hinv4,hk4,ho4⟩
  have HB4:=am' (show Below w.heap.size w w4 from (HW3.out.trans (HBA.out.mono (by have:=HW3.out.size;omega))).trans hb4);have HI4:=am' hinv4;have x0:w4.cell? ⟨w.heap.size+1,0,none⟩=some (.slice A1_0 l1_0.length c1_0):=(bc' hinv4.2.2.1.1 0).trans rfl;have x1:w4.cell? ⟨w.heap.size+1,1,none⟩=some (.bool a1_1):=(bc' hinv4.2.2.1.1 1).trans rfl;have x2:w4.cell? ⟨w.heap.size,2,none⟩=some (.int .i64 a0_2):=(bc' hinv4.2.1.1 2).trans rfl;have HOL:=am' (OutInv.lt s1 w4 O4 hinv4.1);have HNK:=am' (show ¬ O4 w.heap.size from hinv4.2.1.2);have HNB2:=am' (show ¬ O4 (w.heap.size+1) from hinv4.2.2.1.2);clear hb4 hinv4 hk4 ho4 hRE;go_wp2_with fail;refine start_ (n:=9) (S:=fun w'=>w'.cell? ⟨w.heap.size+1,0,none⟩=some (.slice A1_0 l1_0.length c1_0)∧w'.cell? ⟨w.heap.size+1,1,none⟩=some (.bool a1_1)∧w'.cell? ⟨w.heap.size,2,none⟩=some (.int .i64 a0_2)) (ds:=[]) #[false,false,false,false,false,false,false,false,false] xk' rfl rfl ⟨x0,x1,x2⟩ (fun hHeld=>?_);refine take_ (i:=0) (N:=some 12) (v:=?_) (a':=?_) #[true,false,false,false,false,false,false,false,false] rfl rfl xk' (fun _ _ _ h=>h) (Or.inl ⟨by rfl,?_⟩) hHeld ?_ ?_
  rotate_left
  ·
   rintro w' ⟨s0_,s1_,s2_⟩
   go_simp;with_reducible rfl
  rotate_left
  ·
   simp only[Act.put,sa',sb',sc',i64_w,i32_w];rfl
  refine pure_ (i:=2) (N:=some 14) (v:=?_) (a':=?_) #[true,false,true,false,false,false,false,false,false] rfl rfl xk' (fun _ _ _ h=>h) (Or.inl ⟨by rfl,?_⟩) ?_ ?_
  rotate_left
  ·
   intro w';go_simp;with_reducible rfl
  rotate_left
  ·
   simp only[Act.put,sa',sb',sc',i64_w,i32_w];rfl
  refine take_ (i:=3) (N:=some 15) (v:=?_) (a':=?_) #[true,false,true,true,false,false,false,false,false] rfl rfl xk' (fun _ _ _ h=>h) (Or.inl ⟨by rfl,?_⟩) hHeld ?_ ?_
  rotate_left
  ·
   rintro w' ⟨s0_,s1_,s2_⟩
   go_simp;with_reducible rfl
  rotate_left
  ·
   simp only[Act.put,sa',sb',sc',i64_w,i32_w];rfl
  refine pure_ (i:=5) (N:=some 17) (v:=?_) (a':=?_) #[true,false,true,true,false,true,false,false,false] rfl rfl xk' (fun _ _ _ h=>h) (Or.inl ⟨by rfl,?_⟩) ?_ ?_
  rotate_left
  ·
   intro w';go_simp;with_reducible rfl
  rotate_left
  ·
   simp only[Act.put,sa',sb',sc',i64_w,i32_w];rfl
  refine take_ (i:=6) (N:=some 18) (v:=?_) (a':=?_) #[true,false,true,true,false,true,true,false,false] rfl rfl xk' (fun _ _ _ h=>h) (Or.inl ⟨by rfl,?_⟩) hHeld ?_ ?_
  rotate_left
  ·
   rintro w' ⟨s0_,s1_,s2_⟩
   go_simp;with_reducible rfl
  rotate_left
  ·
   simp only[Act.put,sa',sb',sc',i64_w,i32_w];rfl
  refine pure_ (i:=7) (N:=some 19) (v:=?_) (a':=?_) #[true,false,true,true,false,true,true,true,false] rfl rfl xk' (fun _ _ _ h=>h) (Or.inl ⟨by rfl,?_⟩) ?_ ?_
  rotate_left
  ·
   intro w';go_simp;with_reducible rfl
  rotate_left
  ·
   simp only[Act.put,sa',sb',sc',i64_w,i32_w];rfl
  refine one_ (i:=1) (N:=some 13) #[true,true,true,true,false,true,true,true,false] rfl rfl xk' (by decide) (fun K hK=>?_);refine goes_ Try.func93 xk' rfl #[.agg #[.slice A1_0 l1_0.length c1_0, .bool a1_1]] (by rfl) rfl rfl (by (try simp only[List.map_toArray,List.map_cons,List.map_nil]);first|done|rfl) ?_
  refine (state_any A1_0 l1_0.length c1_0 a1_1 _).mono ?_
  rintro e w5 ⟨rfl,hb5⟩
  have hb5:=bt' (below_drew (Below.refl w4.heap.size w4)) hb5;have HB5:=am' hb5;have y0:=(hb5.cell (bl' w4 _ x0)).trans x0;have y1:=(hb5.cell (bl' w4 _ x1)).trans x1;have y2:=(hb5.cell (bl' w4 _ x2)).trans x2;clear hb5;refine ⟨_,rfl,?_⟩;refine hK.out _ _ ⟨y0,y1,y2⟩ (fun hHeld=>?_);clear hK K;refine norm_ (a':=?_) ?_ ?_
  rotate_left
  ·
   show Act.put _ (some 13) _=_
   simp only[Act.put,sa',sb',sc',i64_w,i32_w];rfl
  refine one_ (i:=4) (N:=some 16) #[true,true,true,true,true,true,true,true,false] rfl rfl xk' (by decide) (fun K hK=>?_);refine goes_ Try.func66 xk' rfl #[.agg #[.slice A1_0 l1_0.length c1_0, .bool a1_1], .bool a1_1] (by rfl) rfl rfl (by (try simp only[List.map_toArray,List.map_cons,List.map_nil]);first|done|rfl) ?_
  refine (HD.out _ (HB4.out.trans (HB5.out.mono HB4.out.size))).mono ?_
  rintro e w6 ⟨v6,rfl,hR6,hb6⟩
  obtain ⟨As,cs,rfl⟩:=Kd.R_slice hR6;have HR6:=am' hR6;have HS56:=am' HB5.out.size;have hb6:=bt' HB5.out hb6;have HB6:=am' hb6;have z0:=(hb6.cell (bl' w4 _ x0)).trans x0;have z1:=(hb6.cell (bl' w4 _ x1)).trans x1;have z2:=(hb6.cell (bl' w4 _ x2)).trans x2;clear hR6 hb6 y0 y1 y2;refine ⟨_,rfl,?_⟩;refine hK.out _ _ ⟨z0,z1,z2⟩ (fun hHeld=>?_);clear hK K;refine norm_ (a':=?_) ?_ ?_
  rotate_left
  ·
   show Act.put _ (some 16) _=_
   simp only[Act.put,sa',sb',sc',i64_w,i32_w];rfl
  refine one_ (i:=8) (N:=some 20) #[true,true,true,true,true,true,true,true,true] rfl rfl xk' (by decide) (fun K hK=>?_);refine goes_ Try.func67 xk' rfl #[.slice As sd.length cs, .int .i64 a0_2, .func (.func 92) #[] #[.pointer (some ⟨w.heap.size,0,none⟩), .pointer (some ⟨w.heap.size+1,0,none⟩), .pointer (some ⟨(w.heap.size+1+1+1),0,none⟩)]] (by rfl) rfl rfl (by (try simp only[List.map_toArray,List.map_cons,List.map_nil]);first|done|rfl) ?_
  refine (groups_any (keep1_each k w.heap.size (w.heap.size+1+1+1) w.heap.size (w.heap.size+1) a0_0 A0_1 c0_1 l0_1 a0_2 A1_0 c1_0 l1_0 a1_1) (fun s W O h=>OutInv.lt s W O h.1) (enters_of Try.func92 xk' rfl) sd a0_2 As cs (Kd.R_reads' HR6.out).2.1 (by have:=HLEN.out;omega) s1 r O4 _ (by have:=HB4.out.size;have:=HB6.out.size;omega) (fun W hb=>⟨HI4.out.1.below (bt' HB6.out hb),HI4.out.2.turn (Kept.of_below (bt' HB6.out hb) _) (fun _ h => .inl h)⟩) (Kd.F_mono (Kd.R_F (Kd.R_bound HR6.out)) (fun k hk q=>by have h1:=HOL.out k q;have h2:=hk.2.1;have h3:=HS56.out;omega)) HFO.out).mono ?_
  rintro e w7 ⟨rfl,hb7,O7,⟨⟨v7,hv7,_,hS7,_⟩,_⟩,hk7,ho7⟩
  have HV7:=am' hv7;have HS7:=am' hS7;have HB7:=am' (show Below w.heap.size w w7 from (HB4.out.trans (HB6.out.mono HB4.out.size)).trans hb7);have u0:=cell_kept z0 hk7 (fun q=>HNB2.out q);have u1:=cell_kept z1 hk7 (fun q=>HNB2.out q);have u2:=cell_kept z2 hk7 (fun q=>HNK.out q);clear hb7 hv7 hS7 hk7 ho7;refine ⟨_,rfl,?_⟩;refine hK.out _ _ ⟨u0,u1,u2⟩ (fun hHeld=>?_);clear hK K;refine norm_ (a':=?_) ?_ ?_
  rotate_left
  ·
   show Act.put _ (some 20) _=_
   simp only[Act.put,sa',sb',sc',i64_w,i32_w];rfl
  refine done_ xk' ?_
  have hv7:w7.cell? ⟨(w.heap.size+1+1+1),0,none⟩=some v7:=(bc' HV7.out 0).trans rfl;go_wp2;go_ret
  exact ⟨_,rfl,Kd.S_mono HS7.out (fun _ _=>trivial),HB7.out⟩
 ·
  rw[if_neg hlen] at h;cases h
end Go.Proofs.Ytmfofjloklafoaa.C5
