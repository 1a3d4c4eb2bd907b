import Derived.Test.YtihieplobgehaaaC2zx0
import Derived.Test.YtihieplobgehaaaC2zx1
import Derived.Test.YtihieplobgehaaaC2zx2
import Derived.Test.YtihieplobgehaaaC2zx3
import Derived.Test.YtihieplobgehaaaC2zx4
import Derived.Test.YtihieplobgehaaaC2zx5
import Derived.Test.YtihieplobgehaaaC2zAl
namespace Go.Proofs.Ytihieplobgehaaa.C2
open Go.RowKit Go.Proofs.YtihieplobgehaaaW.PrintWords Go.Proofs.YtihieplobgehaaaW.PrintLast Go.Proofs.YtihieplobgehaaaW.PrintMore Go.Proofs.Ytihieplobgehaaa.H
attribute [local go_sem] max2_int min2_int max_two min_two max_three min_three max_four min_four
set_option linter.unusedVariables false
set_option linter.unusedSimpArgs false
mutual
def spec_seFar.l0:Nat→List Int→List Bool→Int→Int→List Int→Int→List Bool→Bool→Option (List Int)
 | 0,_,_,_,_,_,_,_,_=>none
 | k+1,x5,x6,x25,x26,x174000,x174001,x175000,x175001=>if x26 < x25 then (if 0≤x26 then (if x26 < (x5.length:Int) then (spec_seFar.l0 k (x5.set (x26:Int).toNat (-1)) x6 x25 (wrap64 (x26+1)) x174000 x174001 x175000 x175001) else (none)) else (none)) else ((spec_seIndex.f k x175000 x175001).bind fun t182=>(if 0≤t182 then (if t182 < (x5.length:Int) then (spec_seFar.l1 k (x5.set (t182:Int).toNat 0) x6 x174000 x174001) else (none)) else (none)))
def spec_seFar.l1:Nat→List Int→List Bool→List Int→Int→Option (List Int)
 | 0,_,_,_,_=>none
 | k+1,x5,x6,x174000,x174001=>spec_seFar.l2 k x5 x6 (-1) x5 (x5.length:Int) 0 x174000 x174001
def spec_seFar.l2:Nat→List Int→List Bool→Int→List Int→Int→Int→List Int→Int→Option (List Int)
 | 0,_,_,_,_,_,_,_,_=>none
 | k+1,x5,x6,x8,x37,x38,x39,x174000,x174001=>if x39 < x38 then (if 0≤x39 then (if x39 < (x37.length:Int) then (if x39 < (x6.length:Int) then (if rdOf false x6 x39=true then (spec_seFar.l2 k x5 x6 x8 x37 x38 (wrap64 (x39+1)) x174000 x174001) else (if (rd x37 x39) ≥ 0 then (if x8 < 0 then (spec_seFar.l2 k x5 x6 x39 x37 x38 (wrap64 (x39+1)) x174000 x174001) else (if 0≤x8 then (if x8 < (x5.length:Int) then (if (rd x37 x39) < (rd x5 x8) then (spec_seFar.l2 k x5 x6 x39 x37 x38 (wrap64 (x39+1)) x174000 x174001) else (spec_seFar.l2 k x5 x6 x8 x37 x38 (wrap64 (x39+1)) x174000 x174001)) else (none)) else (none))) else (spec_seFar.l2 k x5 x6 x8 x37 x38 (wrap64 (x39+1)) x174000 x174001))) else (none)) else (none)) else (none)) else (if x8 < 0 then (some x5) else (if 0≤x8 then (if x8 < (x6.length:Int) then ((spec_seState.f k x8 (x174000.length:Int)).bind fun bt188=>((spec_paTrips.f k x174000 x174001 bt188.1 bt188.2).bind fun t193=>(spec_seFar.l3 k x5 (x6.set (x8:Int).toNat true) x8 t193 (t193.length:Int) 0 x174000 x174001 bt188.1 bt188.2))) else (none)) else (none)))
def spec_seFar.l3:Nat→List Int→List Bool→Int→List (List Int)→Int→Int→List Int→Int→List Bool→Bool→Option (List Int)
 | 0,_,_,_,_,_,_,_,_,_,_=>none
 | k+1,x5,x6,x8,x80,x81,x82,x174000,x174001,x193000,x193001=>if x82 < x81 then (if 0≤x82 then (if x82 < (x80.length:Int) then ((spec_paCross.f k x193000 x193001 (rd_L2 x80 x82)).bind fun bt197=>((spec_seIndex.f k bt197.1 bt197.2).bind fun t201=>(if 0≤x8 then (if x8 < (x5.length:Int) then ((spec_paTime.f k x174000 x174001 (rd_L2 x80 x82)).bind fun t203=>(if 0≤t201 then (if t201 < (x5.length:Int) then (if (rd x5 t201) < 0 then (spec_seFar.l3 k (x5.set (t201:Int).toNat (wrap64 ((rd x5 x8)+t203))) x6 x8 x80 x81 (wrap64 (x82+1)) x174000 x174001 x193000 x193001) else (if (wrap64 ((rd x5 x8)+t203)) < (rd x5 t201) then (spec_seFar.l3 k (x5.set (t201:Int).toNat (wrap64 ((rd x5 x8)+t203))) x6 x8 x80 x81 (wrap64 (x82+1)) x174000 x174001 x193000 x193001) else (spec_seFar.l3 k x5 x6 x8 x80 x81 (wrap64 (x82+1)) x174000 x174001 x193000 x193001))) else (none)) else (none))) else (none)) else (none)))) else (none)) else (none)) else (spec_seFar.l1 k x5 x6 x174000 x174001)
end
def spec_seFar.f (k:Nat) (l0_0:List Int) (a0_1:Int) (l1_0:List Bool) (a1_1:Bool):Option (List Int):=if 0≤(shl .i64 2 (l0_0.length:Int)) then (if (shl .i64 2 (l0_0.length:Int):Int).toNat≤35184372088832 then ((some (List.replicate (shl .i64 2 (l0_0.length:Int):Int).toNat 0:List Int)).bind fun y175=>(if 0≤(y175.length:Int) then (if ((y175.length:Int):Int).toNat≤281474976710656 then (spec_seFar.l0 k y175 (List.replicate ((y175.length:Int):Int).toNat false) (y175.length:Int) 0 l0_0 a0_1 l1_0 a1_1) else (none)) else (none))) else (none)) else (none)
def spec_seFar.T24:Bool × List (List Nat × List Nat):=(true,[([],[]),([],[]),([0,1],[0,1]),([2],[2]),([],[]),([],[]),([4,5],[4,5]),([3,6],[3,6]),([7,6,0,1,2,3,4,5,6,7],[7])])
def spec_seFar.B24:List Nat:=[0,0,3,7,0,0,48,127,255]
theorem spec_seFar.tab24:rtab .any (opsOf Try.f25 24)=spec_seFar.T24:=by kernel_rfl
theorem spec_seFar.bits24:waitsOk spec_seFar.T24.2 spec_seFar.B24=true:=by kernel_rfl
set_option maxHeartbeats 8000000 in
set_option maxRecDepth 100000 in
theorem spec_seFar.calls (k:Nat) (A0_0:Option Addr) (c0_0:Nat) (l0_0:List Int) (a0_1:Int) (A1_0:Option Addr) (c1_0:Nat) (l1_0:List Bool) (a1_1:Bool) (r:List Int) (w:World) (hr0_0:Kd.C (Kd.int .i64) w A0_0 l0_0.length l0_0) (hc0_0:l0_0.length≤c0_0) (hr1_0:Kd.C Kd.bool w A1_0 l1_0.length l1_0) (hc1_0:l1_0.length≤c1_0) (h:spec_seFar.f k l0_0 a0_1 l1_0 a1_1=some r) :
  Calls Try.prog 25 #[.agg #[.slice A0_0 l0_0.length c0_0, .int .i64 a0_1], .agg #[.slice A1_0 l1_0.length c1_0, .bool a1_1]] w fun e w'=>∃ v0_:Value,e = .returned (v0_)∧Kd.R (Kd.int .i64) 3 w' w.heap.size (fun _=>True) v0_ r∧Below w.heap.size w w':=by
 have hu28:=Try.underlying28
 have hu54:=Try.underlying54
 have HR0_0:=am' hr0_0
 have HC0_0:=am' hc0_0
 clear hr0_0 hc0_0;have HR1_0:=am' hr1_0
 have HC1_0:=am' hc1_0
 clear hr1_0 hc1_0;have HB:=am' (Below.refl w.heap.size w)
 have H:(if 0≤(shl .i64 2 (l0_0.length:Int)) then (if (shl .i64 2 (l0_0.length:Int):Int).toNat≤35184372088832 then ((some (List.replicate (shl .i64 2 (l0_0.length:Int):Int).toNat 0:List Int)).bind fun y175=>(if 0≤(y175.length:Int) then (if ((y175.length:Int):Int).toNat≤281474976710656 then (spec_seFar.l0 k y175 (List.replicate ((y175.length:Int):Int).toNat false) (y175.length:Int) 0 l0_0 a0_1 l1_0 a1_1) else (none)) else (none))) else (none)) else (none))=some r:=h
 clear h;obtain ⟨ji3,hji3⟩:∃ j_:Int,(shl .i64 2 (l0_0.length:Int))=j_:=⟨_,rfl⟩
 replace H:(if 0≤(ji3) then (if (ji3:Int).toNat≤35184372088832 then ((some (List.replicate (ji3:Int).toNat 0:List Int)).bind fun y175=>(if 0≤(y175.length:Int) then (if ((y175.length:Int):Int).toNat≤281474976710656 then (spec_seFar.l0 k y175 (List.replicate ((y175.length:Int):Int).toNat false) (y175.length:Int) 0 l0_0 a0_1 l1_0 a1_1) else (none)) else (none))) else (none)) else (none))=some r:=by first|(rw[hji3] at H;exact H)|(simp only[hji3] at H ⊢;exact H)
 have hji3_:(IntKind.i64.wrap (2 * 2 ^ min (l0_0.length:Int).toNat 64))=ji3:=hji3
 have hji3z:(l0_0.length:Int)≤64→(IntKind.i64.wrap (2 * 2 ^ (l0_0.length:Int).toNat))=ji3:=shl_small hji3
 have hji3p:(IntKind.i64.wrap (2 * 2 ^ min l0_0.length 64))=ji3:=hji3_
 have hji3q:(l0_0.length:Int)≤64→(IntKind.i64.wrap (2 * 2 ^ l0_0.length))=ji3:=hji3z
 have hji3y:(wrap64 (2 * 2 ^ min (l0_0.length:Int).toNat 64))=ji3:=(i64_w _).symm.trans hji3_
 have hji3x:(l0_0.length:Int)≤64→(wrap64 (2 * 2 ^ (l0_0.length:Int).toNat))=ji3:=fun h_=>(i64_w _).symm.trans (hji3z h_)
 by_cases c4:0≤(ji3)
 ·
  rw[if_pos c4] at H;have c4b0:=eq_true c4;have c4b1:decide (0≤(ji3))=true:=dt' c4;clear c4;by_cases c5:(ji3:Int).toNat≤35184372088832
  ·
   rw[if_pos c5] at H;have c5b0:=eq_true c5;have c5b1:decide ((ji3:Int).toNat≤35184372088832)=true:=dt' c5;clear c5;obtain ⟨y175,hy175⟩:∃ y_:List Int,y_=(List.replicate (ji3:Int).toNat 0):=⟨_,rfl⟩
   replace H:(if 0≤(y175.length:Int) then (if ((y175.length:Int):Int).toNat≤281474976710656 then (spec_seFar.l0 k y175 (List.replicate ((y175.length:Int):Int).toNat false) (y175.length:Int) 0 l0_0 a0_1 l1_0 a1_1) else (none)) else (none))=some r:=by first|(rw[hy175];with_reducible exact H)|(have H2_:=(Option.bind_some _ _).symm.trans H;rw[hy175];with_reducible exact H2_)|(have H2_:=(Option.bind_some _ _).symm.trans H;with_reducible exact H2_)|with_reducible exact H|(rw[hy175];exact H)|exact H
   have Ny175:=am' hy175;clear hy175;by_cases c6:0≤(y175.length:Int)
   ·
    rw[if_pos c6] at H;have c6b0:=eq_true c6;have c6b1:decide (0≤(y175.length:Int))=true:=dt' c6;clear c6;by_cases c7:((y175.length:Int):Int).toNat≤281474976710656
    ·
     rw[if_pos c7] at H;have c7b0:=eq_true c7;have c7b1:decide (((y175.length:Int):Int).toNat≤281474976710656)=true:=dt' c7;clear c7;obtain ⟨y178,hy178⟩:∃ y_:List Bool,y_=(List.replicate ((y175.length:Int):Int).toNat false):=⟨_,rfl⟩
     replace H:(spec_seFar.l0 k y175 y178 (y175.length:Int) 0 l0_0 a0_1 l1_0 a1_1)=some r:=by first|(rw[hy178];with_reducible exact H)|(have H2_:=(Option.bind_some _ _).symm.trans H;rw[hy178];with_reducible exact H2_)|(have H2_:=(Option.bind_some _ _).symm.trans H;with_reducible exact H2_)|with_reducible exact H|(rw[hy178];exact H)|exact H
     have Ny178:=am' hy178;clear hy178;have H':=am' H;clear H;go_enter Try.func25,Try.ntmps25;go_wp2_with (first|((with_reducible refine gate_dst (N:=2) rfl ?_);refine box_event ?hg (N:=2) ?hd (cs:=#[.slice A0_0 l0_0.length c0_0, .int .i64 a0_1]) (t:=28) ?hr ?_;(case hd=>rfl);(case hg=>rfl);(case hr=>first|(go_simp;done)|(go_simp;rfl));intro gb173 hg w8 hbox hb;have n0_:=am' (bt' xb' hb);have n1_:=am' (hbox);have n2_:=am' ((by rw[hg];exact (bz' xb'):w.heap.size≤gb173));have n3_:=am' ((by rw[hg];exact (bz' xb'):w.heap.size≤gb173));clear HB;have HB:=n0_;have BK173:=n1_;have GW173:=n2_;have GE173:=n3_;clear n0_ n1_ n2_ n3_;clear hb hbox hg)|((with_reducible refine gate_dst (N:=3) rfl ?_);refine box_event ?hg (N:=3) ?hd (cs:=#[.slice A1_0 l1_0.length c1_0, .bool a1_1]) (t:=54) ?hr ?_;(case hd=>rfl);(case hg=>rfl);(case hr=>first|(go_simp;done)|(go_simp;rfl));intro gb174 hg w9 hbox hb;have n0_:=am' (bb' (g:=gb173) (o := .cells #[.slice A0_0 l0_0.length c0_0, .int .i64 a0_1] 28 (0,0)) (kk' BK173.out) hb);have n1_:=am' (bt' (yb' GE173.out) hb);have n2_:=am' (hbox);have n3_:=am' ((by rw[hg];exact (bz' (yb' GE173.out)):w.heap.size≤gb174));have n4_:=am' ((by rw[hg];exact (bz' (yb' GE173.out)):w.heap.size≤gb174));have n5_:=am' ((by rw[hg];exact Nat.ne_of_lt (blk_lt (g:=gb173) (o := .cells #[.slice A0_0 l0_0.length c0_0, .int .i64 a0_1] 28 (0,0)) (kk' BK173.out)):gb173≠gb174));have n6_:=am' ((by rw[hg];exact Nat.ne_of_gt (blk_lt (g:=gb173) (o := .cells #[.slice A0_0 l0_0.length c0_0, .int .i64 a0_1] 28 (0,0)) (kk' BK173.out)):gb174≠gb173));clear BK173;clear HB;have BK173:=n0_;have HB:=n1_;have BK174:=n2_;have GW174:=n3_;have GE174:=n4_;have NB173_174:=n5_;have NB174_173:=n6_;clear n0_ n1_ n2_ n3_ n4_ n5_ n6_;clear hb hbox hg;have hnb10:=NB173_174.out;have hnc10:=NB174_173.out;have hcz11_0:w9.cell? ⟨gb173,0,none⟩=some (.slice A0_0 l0_0.length c0_0):=(bc' BK173.out 0).trans rfl;have hcz11_1:w9.cell? ⟨gb173,1,none⟩=some (.int .i64 a0_1):=(bc' BK173.out 1).trans rfl;have hfz11_0:=bf' BK173.out 0;have hfz11_1:=bf' BK173.out 1)|((with_reducible refine gate_dst (N:=20) rfl ?_);refine Kd.R_make (Kd.int .i64) _ 3 rfl (N:=20) rfl 22 _ _ rfl ji3 rfl rfl Try.underlying22 (.int .i64 0) 8 info3 rfl (by decide) (by omega) 0 (ok:=fun _=>True) (okp:=fun _=>True) rfl (fun _ hk=>hk) trivial (od' xa') (Nat.le_trans (Nat.mul_le_mul_right _ (od' xa':ji3.toNat≤35184372088832)) (by omega)) (Below.refl _ _) (Nat.le_refl _) ?_;intro v176 w12 ho13 hb hg_ hnew_;clear hg_ hnew_;(first|rw[← Ny175.out] at ho13|(simp only[Int.reduceToNat] at ho13;rw[← Ny175.out] at ho13));have n0_:=am' (Kd.R_lower ho13 (bz' (y2' GE173.out GE174.out)));have n1_:=am' (bb' (g:=gb173) (o := .cells #[.slice A0_0 l0_0.length c0_0, .int .i64 a0_1] 28 (0,0)) (kk' BK173.out) hb);have n2_:=am' (bb' (g:=gb174) (o := .cells #[.slice A1_0 l1_0.length c1_0, .bool a1_1] 54 (0,0)) (kk' BK174.out) hb);have n3_:=am' (bt' (y2' GE173.out GE174.out) hb);clear BK173;clear BK174;clear HB;have HO177:=n0_;have BK173:=n1_;have BK174:=n2_;have HB:=n3_;clear n0_ n1_ n2_ n3_;clear hb ho13;obtain ⟨Ao14,co14,eo14⟩:=Kd.R_slice HO177.out;subst eo14)|((with_reducible refine gate_dst (N:=23) rfl ?_);refine Kd.R_make Kd.bool _ 4 rfl (N:=23) rfl 52 _ _ rfl (y175.length:Int) rfl rfl Try.underlying52 (.bool false) 1 info4 rfl (by decide) (by omega) false (ok:=fun _=>True) (okp:=fun _=>True) rfl (fun _ hk=>hk) trivial (od' xa') (Nat.le_trans (Nat.mul_le_mul_right _ (od' xa':(y175.length:Int).toNat≤281474976710656)) (by omega)) (Below.refl _ _) (Nat.le_refl _) ?_;intro v179 w15 ho16 hb hg_ hnew_;clear hg_ hnew_;(first|rw[← Ny178.out] at ho16|(simp only[Int.reduceToNat] at ho16;rw[← Ny178.out] at ho16));have n0_:=am' (rb' (kr' HO177.out) hb);have n1_:=am' (Kd.R_lower ho16 (bz' (y2' GE173.out GE174.out)));have n2_:=am' (bb' (g:=gb173) (o := .cells #[.slice A0_0 l0_0.length c0_0, .int .i64 a0_1] 28 (0,0)) (kk' BK173.out) hb);have n3_:=am' (bb' (g:=gb174) (o := .cells #[.slice A1_0 l1_0.length c1_0, .bool a1_1] 54 (0,0)) (kk' BK174.out) hb);have n4_:=am' (bt' (y2' GE173.out GE174.out) hb);clear HO177;clear BK173;clear BK174;clear HB;have HO177:=n0_;have HO180:=n1_;have BK173:=n2_;have BK174:=n3_;have HB:=n4_;clear n0_ n1_ n2_ n3_ n4_;clear hb ho16))
     go_loopg [26] k (fun kq v26 w'=>∃ (x5_1:List Int) (x26_1:Int),v26 = .int .i64 x26_1∧Aside0 (spec_seFar.l0 kq x5_1 y178 (y175.length:Int) x26_1 l0_0 a0_1 l1_0 a1_1=some r)∧Aside0 (kq≤k)∧Aside0 (Kd.R (Kd.int .i64) 3 w' w.heap.size (fun _=>True) (.slice Ao14 y175.length co14) x5_1)∧Aside0 (Kd.R Kd.bool 4 w' w.heap.size (fun _=>True) v179 y178)∧Aside0 (w'.heap[gb173]? = some (.cells #[(.slice A0_0 l0_0.length c0_0), .int .i64 a0_1] 28 (0,0)))∧Aside0 (w'.heap[gb174]? = some (.cells #[(.slice A1_0 l1_0.length c1_0), .bool a1_1] 54 (0,0)))∧Aside0 (Below w.heap.size w w'))
     case atStart=>exact ⟨(y175),(0),xs',H',⟨Nat.le_refl _⟩,⟨kr' HO177.out⟩,⟨kr' HO180.out⟩,⟨kk' BK173.out⟩,⟨kk' BK174.out⟩,⟨y2' GE173.out GE174.out⟩⟩
     case round =>
      clear H';try clear c1
      try clear c2
      try clear p2
      try clear c4
      try clear c4b0
      try clear c4b1
      try clear c5
      try clear c5b0
      try clear c5b1
      try clear c6
      try clear c6b0
      try clear c6b1
      try clear p6
      try clear c7
      try clear c7b0
      try clear c7b1
      try clear c10
      try clear hcz11_0
      try clear hcz11_1
      try clear hfz11_0
      try clear hfz11_1
      obtain ⟨x5_1,x26_1,rfl,HA,HK1,HO_5,HO_6,BK173,BK174,HB⟩:=hrel;have hl5_1:=(Kd.R_reads' HO_5.out).1;rw[hl5_1] at HO_5
      (try simp only[hl5_1])
      (try simp only[hl5_1] at BK173)
      (try simp only[hl5_1] at BK174)
      (try simp only[hl5_1] at HO_6)
      cases gk with
      | zero=>exact absurd HA.out (by simp[spec_seFar.l0])
      | succ k1 =>
       have H:=HA.out;clear HA;simp only[spec_seFar.l0] at H;by_cases c17:x26_1 < (y175.length:Int)
       ·
        rw[if_pos c17] at H;have c17b0:decide (x26_1 < (y175.length:Int))=true:=dt' c17;clear c17;by_cases c18:0≤x26_1
        ·
         rw[if_pos c18] at H;have c18b0:decide (0≤x26_1)=true:=dt' c18;clear c18;by_cases c19:x26_1 < (x5_1.length:Int)
         ·
          rw[if_pos c19] at H;have c19b0:decide (x26_1 < (x5_1.length:Int))=true:=dt' c19;clear c19;obtain ⟨y181,hy181⟩:∃ y_:List Int,y_=(x5_1.set (x26_1:Int).toNat (-1)):=⟨_,rfl⟩
          replace H:(spec_seFar.l0 k1 y181 y178 (y175.length:Int) (wrap64 (x26_1+1)) l0_0 a0_1 l1_0 a1_1)=some r:=by first|(rw[hy181];with_reducible exact H)|(have H2_:=(Option.bind_some _ _).symm.trans H;rw[hy181];with_reducible exact H2_)|(have H2_:=(Option.bind_some _ _).symm.trans H;with_reducible exact H2_)|with_reducible exact H|(rw[hy181];exact H)|exact H
          have Ny181:=am' hy181;clear hy181;have H':=am' H;clear H;have p20:0≤(x26_1:Int):=od' xa';have q20:(x26_1:Int) < ((x5_1.length:Int):Int):=od' xa';obtain ⟨go20,co20,eo20,gb20,gl20,cl20,HG20⟩:=Kd.R_form HO_5.out (by omega)
          (first|cases eo20|(injection eo20 with ea_ en_ ec_;(first|subst ea_|(injection ea_ with ea_;subst ea_));subst ec_;clear en_))
          have GB20:=am' gb20;have GG20:=am' HG20;clear gb20 gl20 HG20;obtain ⟨hx20_0,hf20_0⟩:=Kd.R_celln 0 HO_5.out (x26_1:Int) p20 q20;replace p20:=eq_true p20;replace q20:=eq_true q20;have HP21:=Kd.R_putg HO_5.out (x26_1:Int) (-1);go_wp2_with (first|((with_reducible refine gate_store (t:=3) (p:=31) rfl ?_);refine store_event (t:=3) (p:=31) (v:=?vo_w22) (w1:=(wr.setCell ⟨go20,(x26_1:Int).toNat,none⟩ (.int .i64 (-1)))) ?hg ?ho ?hn ?hr ?_;(case ho=>rfl);(case hg=>rfl);(case hn=>rfl);(case hr=>first|(go_simp;done)|(go_simp;rfl));intro w22 hw;have hg:wr.grownBy w22 (some go20):=(by rw[hw];exact HP21.2);have hp_:Kd.R (Kd.int .i64) 3 w22 w.heap.size (fun _=>True) (.slice (some ⟨go20,0,none⟩) x5_1.length co14) y181:=(by rw[hw,Ny181.out];exact HP21.1);clear HP21;have n0_:=am' (hp_);have n1_:=am' (Kd.R_over' (v:=(.slice (some ⟨go20,0,none⟩) x5_1.length co14)) (kr' HO_6.out) (Kd.R_typed HO_5.out) (by decide) hg);have n2_:=am' (blk_grown (g:=gb173) (o := .cells #[.slice A0_0 l0_0.length c0_0, .int .i64 a0_1] 28 (0,0)) (kk' BK173.out) hg (Kd.R_ne HO_5.out BK173.out (by decide)));have n3_:=am' (blk_grown (g:=gb174) (o := .cells #[.slice A1_0 l1_0.length c1_0, .bool a1_1] 54 (0,0)) (kk' BK174.out) hg (Kd.R_ne HO_5.out BK174.out (by decide)));have n4_:=am' ((by rw[hw];exact bs' (HB.out) GB20.out:Below w.heap.size w w22));clear HO_5;clear HO_6;clear BK173;clear BK174;clear HB;have HO_5:=n0_;have HO_6:=n1_;have BK173:=n2_;have BK174:=n3_;have HB:=n4_;clear n0_ n1_ n2_ n3_ n4_;clear hg hw hp_))
          (try simp only[← hl5_1])
          go_roundg k1
          case measure=>have:=HK1.out;omega
          case rel=>exact ⟨(y181),(wrap64 (x26_1+1)),xs',H',⟨by have:=HK1.out;omega⟩,⟨by (try simp only[hl5_1]);(with_reducible repeat (first|apply ra'|apply rn'|apply rw'));exact HO_5.out⟩,⟨by (try simp only[hl5_1]);(with_reducible repeat (first|apply ra'|apply rn'|apply rw'));exact HO_6.out⟩,⟨by (try simp only[hl5_1]);(with_reducible repeat (first|refine kn' ?_ _|refine kd' ?_|refine ka' ?_ _));exact BK173.out⟩,⟨by (try simp only[hl5_1]);(with_reducible repeat (first|refine kn' ?_ _|refine kd' ?_|refine ka' ?_ _));exact BK174.out⟩,⟨y2' GE173.out GE174.out⟩⟩
         ·
          rw[if_neg c19] at H;exact absurd H (by simp)
        ·
         rw[if_neg c18] at H;exact absurd H (by simp)
       ·
        rw[if_neg c17] at H;have c17b0:decide (x26_1 < (y175.length:Int))=false:=df' c17
        (try (have c17bz:=c17b0;rw[hl5_1] at c17bz))
        clear c17;replace H:=Option.bind_eq_some_iff.mp H;obtain ⟨t182,A230,H⟩:=H;replace H:(if 0≤t182 then (if t182 < (x5_1.length:Int) then (spec_seFar.l1 k1 (x5_1.set (t182:Int).toNat 0) y178 l0_0 a0_1) else (none)) else (none))=some r:=H;have A23:=am' A230;clear A230;by_cases c24:0≤t182
        ·
         rw[if_pos c24] at H;have c24b0:decide (0≤t182)=true:=dt' c24;clear c24;by_cases c25:t182 < (x5_1.length:Int)
         ·
          rw[if_pos c25] at H;have c25b0:decide (t182 < (x5_1.length:Int))=true:=dt' c25;clear c25;obtain ⟨y183,hy183⟩:∃ y_:List Int,y_=(x5_1.set (t182:Int).toNat 0):=⟨_,rfl⟩
          replace H:(spec_seFar.l1 k1 y183 y178 l0_0 a0_1)=some r:=by first|(rw[hy183];with_reducible exact H)|(have H2_:=(Option.bind_some _ _).symm.trans H;rw[hy183];with_reducible exact H2_)|(have H2_:=(Option.bind_some _ _).symm.trans H;with_reducible exact H2_)|with_reducible exact H|(rw[hy183];exact H)|exact H
          have Ny183:=am' hy183;clear hy183;have H':=am' H;clear H;have hnb27:=NB174_173.out;have hnc27:=NB173_174.out;have hcz28_0:wr.cell? ⟨gb174,0,none⟩=some (.slice A1_0 l1_0.length c1_0):=(bc' BK174.out 0).trans rfl;have hcz28_1:wr.cell? ⟨gb174,1,none⟩=some (.bool a1_1):=(bc' BK174.out 1).trans rfl;have hfz28_0:=bf' BK174.out 0;have hfz28_1:=bf' BK174.out 1;go_wp2_with (first|((with_reducible refine gate_callee (f:=40) rfl ?_);refine goesL_ (some 35) rfl rfl Try.func40 xk' rfl #[.agg #[.slice A1_0 l1_0.length c1_0, .bool a1_1]] rfl xl' ?_;(with_reducible refine (spec_seIndex.calls k1 _ _ l1_0 a1_1 t182 _ ?side1 ?side2 A23.out).mono ?_);(case side1=>exact kc' (cb' HR1_0.out HB.out));(case side2=>exact HC1_0.out);rintro e w29 ⟨rfl,hb⟩;refine ⟨_,rfl,?_⟩;have n0_:=am' (rb' (kr' HO_5.out) hb);have n1_:=am' (rb' (kr' HO_6.out) hb);have n2_:=am' (bb' (g:=gb173) (o := .cells #[.slice A0_0 l0_0.length c0_0, .int .i64 a0_1] 28 (0,0)) (kk' BK173.out) hb);have n3_:=am' (bb' (g:=gb174) (o := .cells #[.slice A1_0 l1_0.length c1_0, .bool a1_1] 54 (0,0)) (kk' BK174.out) hb);have n4_:=am' (bt' (y2' GE173.out GE174.out) hb);clear HO_5;clear HO_6;clear BK173;clear BK174;clear HB;have HO_5:=n0_;have HO_6:=n1_;have BK173:=n2_;have BK174:=n3_;have HB:=n4_;clear n0_ n1_ n2_ n3_ n4_;(try clear hb);(try clear hb2);(try clear hk);(try clear hi);have p26:0≤(t182:Int):=od' xa';have q26:(t182:Int) < ((x5_1.length:Int):Int):=od' xa';obtain ⟨go26,co26,eo26,gb26,gl26,cl26,HG26⟩:=Kd.R_form HO_5.out (by omega);(first|cases eo26|(injection eo26 with ea_ en_ ec_;(first|subst ea_|(injection ea_ with ea_;subst ea_));subst ec_;clear en_));have GB26:=am' gb26;have GG26:=am' HG26;clear gb26 gl26 HG26;obtain ⟨hx26_0,hf26_0⟩:=Kd.R_celln 0 HO_5.out (t182:Int) p26 q26;replace p26:=eq_true p26;replace q26:=eq_true q26;obtain ⟨hy30_,hz30_⟩:=Kd.R_celln 0 HO_5.out (t182:Int) (od' xa') (od' xa');have HP30:=Kd.R_putg HO_5.out (t182:Int) 0)|((with_reducible refine gate_store (t:=3) (p:=36) rfl ?_);refine store_event (t:=3) (p:=36) (v:=?vo_w31) (w1:=(w29.setCell ⟨go26,(t182:Int).toNat,none⟩ (.int .i64 0))) ?hg ?ho ?hn ?hr ?_;(case ho=>rfl);(case hg=>rfl);(case hn=>rfl);(case hr=>first|(go_simp;done)|(go_simp;rfl));intro w31 hw;have hg:w29.grownBy w31 (some go26):=(by rw[hw];exact HP30.2);have hp_:Kd.R (Kd.int .i64) 3 w31 w.heap.size (fun _=>True) (.slice (some ⟨go26,0,none⟩) x5_1.length co14) y183:=(by rw[hw,Ny183.out];exact HP30.1);clear HP30;have n0_:=am' (hp_);have n1_:=am' (Kd.R_over' (v:=(.slice (some ⟨go26,0,none⟩) x5_1.length co14)) (kr' HO_6.out) (Kd.R_typed HO_5.out) (by decide) hg);have n2_:=am' (blk_grown (g:=gb173) (o := .cells #[.slice A0_0 l0_0.length c0_0, .int .i64 a0_1] 28 (0,0)) (kk' BK173.out) hg (Kd.R_ne HO_5.out BK173.out (by decide)));have n3_:=am' (blk_grown (g:=gb174) (o := .cells #[.slice A1_0 l1_0.length c1_0, .bool a1_1] 54 (0,0)) (kk' BK174.out) hg (Kd.R_ne HO_5.out BK174.out (by decide)));have n4_:=am' ((by rw[hw];exact bs' (HB.out) GB26.out:Below w.heap.size w w31));clear HO_5;clear HO_6;clear BK173;clear BK174;clear HB;have HO_5:=n0_;have HO_6:=n1_;have BK173:=n2_;have BK174:=n3_;have HB:=n4_;clear n0_ n1_ n2_ n3_ n4_;clear hg hw hp_))
          go_loopg [] k1 (fun kq w'=>∃ (x5_2:List Int) (x6_2:List Bool),Aside0 (spec_seFar.l1 kq x5_2 x6_2 l0_0 a0_1=some r)∧Aside0 (kq≤k1)∧Aside0 (Kd.R (Kd.int .i64) 3 w' w.heap.size (fun _=>True) (.slice (some ⟨go26,0,none⟩) x5_1.length co14) x5_2)∧Aside0 (Kd.R Kd.bool 4 w' w.heap.size (fun _=>True) v179 x6_2)∧Aside0 (w'.heap[gb173]? = some (.cells #[(.slice A0_0 l0_0.length c0_0), .int .i64 a0_1] 28 (0,0)))∧Aside0 (w'.heap[gb174]? = some (.cells #[(.slice A1_0 l1_0.length c1_0), .bool a1_1] 54 (0,0)))∧Aside0 (Below w.heap.size w w'))
          case atStart=>exact ⟨(y183),(y178),H',⟨Nat.le_refl _⟩,⟨by (try simp only[hl5_1]);(with_reducible repeat (first|apply ra'|apply rn'|apply rw'));exact HO_5.out⟩,⟨by (try simp only[hl5_1]);(with_reducible repeat (first|apply ra'|apply rn'|apply rw'));exact HO_6.out⟩,⟨by (try simp only[hl5_1]);(with_reducible repeat (first|refine kn' ?_ _|refine kd' ?_|refine ka' ?_ _));exact BK173.out⟩,⟨by (try simp only[hl5_1]);(with_reducible repeat (first|refine kn' ?_ _|refine kd' ?_|refine ka' ?_ _));exact BK174.out⟩,⟨y2' GE173.out GE174.out⟩⟩
          case round =>
           clear H';try clear c1
           try clear c2
           try clear p2
           try clear q2
           try clear hx2
           try clear hf2
           try clear c4
           try clear c4b0
           try clear c4b1
           try clear c5
           try clear c5b0
           try clear c5b1
           try clear c6
           try clear c6b0
           try clear c6b1
           try clear p6
           try clear c7
           try clear c7b0
           try clear c7b1
           try clear c10
           try clear c17
           try clear c17b0
           try clear c18
           try clear c18b0
           try clear c19
           try clear c19b0
           try clear p20
           try clear q20
           try clear hx20
           try clear hf20
           try clear c24
           try clear c24b0
           try clear c25
           try clear c25b0
           try clear p26
           try clear q26
           try clear hx26
           try clear hf26
           try clear c27
           try clear hcz11_0
           try clear hcz11_1
           try clear hcz28_0
           try clear hcz28_1
           try clear hfz11_0
           try clear hfz11_1
           try clear hfz28_0
           try clear hfz28_1
           try clear hx20_0
           try clear hx26_0
           try clear p2
           try clear p20
           try clear p26
           try clear p6
           try clear q20
           try clear q26
           obtain ⟨x5_2,x6_2,HA,HK2,HO_5,HO_6,BK173,BK174,HB⟩:=hrel;have hl5_2:=(Kd.R_reads' HO_5.out).1;rw[hl5_2] at HO_5
           (try simp only[hl5_2])
           (try simp only[hl5_2] at BK173)
           (try simp only[hl5_2] at BK174)
           (try simp only[hl5_2] at HO_6)
           cases gk with
           | zero=>exact absurd HA.out (by simp[spec_seFar.l1])
           | succ k2 =>
            have H:=HA.out;clear HA;simp only[spec_seFar.l1] at H;have H':=am' H;clear H;go_wp2;go_loopg [8,39] k2 (fun kq v8 v39 w'=>∃ (x8_3:Int) (x39_3:Int),v8 = .int .i64 x8_3∧v39 = .int .i64 x39_3∧Aside0 (spec_seFar.l2 kq x5_2 x6_2 x8_3 x5_2 (x5_2.length:Int) x39_3 l0_0 a0_1=some r)∧Aside0 (kq≤k2)∧Aside0 (Kd.R (Kd.int .i64) 3 w' w.heap.size (fun _=>True) (.slice (some ⟨go26,0,none⟩) x5_2.length co14) x5_2)∧Aside0 (Kd.R Kd.bool 4 w' w.heap.size (fun _=>True) v179 x6_2)∧Aside0 (Kd.R (Kd.int .i64) 3 w' w.heap.size (fun _=>True) (.slice (some ⟨go26,0,none⟩) x5_2.length co14) x5_2)∧Aside0 (w'.heap[gb173]? = some (.cells #[(.slice A0_0 l0_0.length c0_0), .int .i64 a0_1] 28 (0,0)))∧Aside0 (w'.heap[gb174]? = some (.cells #[(.slice A1_0 l1_0.length c1_0), .bool a1_1] 54 (0,0)))∧Aside0 (Below w.heap.size w w'))
            case atStart=>exact ⟨((-1)),(0),xs',xs',H',⟨Nat.le_refl _⟩,⟨by (try simp only[hl5_1]);(try simp only[hl5_2]);(with_reducible repeat (first|apply ra'|apply rn'|apply rw'));exact HO_5.out⟩,⟨by (try simp only[hl5_1]);(try simp only[hl5_2]);(with_reducible repeat (first|apply ra'|apply rn'|apply rw'));exact HO_6.out⟩,⟨by (try simp only[hl5_1]);(try simp only[hl5_2]);(with_reducible repeat (first|apply ra'|apply rn'|apply rw'));exact HO_5.out⟩,⟨by (try simp only[hl5_1]);(try simp only[hl5_2]);(with_reducible repeat (first|refine kn' ?_ _|refine kd' ?_|refine ka' ?_ _));exact BK173.out⟩,⟨by (try simp only[hl5_1]);(try simp only[hl5_2]);(with_reducible repeat (first|refine kn' ?_ _|refine kd' ?_|refine ka' ?_ _));exact BK174.out⟩,⟨y2' GE173.out GE174.out⟩⟩
            case round =>
             clear H';try clear c1
             try clear c2
             try clear p2
             try clear q2
             try clear hx2
             try clear hf2
             try clear c4
             try clear c4b0
             try clear c4b1
             try clear c5
             try clear c5b0
             try clear c5b1
             try clear c6
             try clear c6b0
             try clear c6b1
             try clear p6
             try clear c7
             try clear c7b0
             try clear c7b1
             try clear c10
             try clear c17
             try clear c17b0
             try clear c18
             try clear c18b0
             try clear c19
             try clear c19b0
             try clear p20
             try clear q20
             try clear hx20
             try clear hf20
             try clear c24
             try clear c24b0
             try clear c25
             try clear c25b0
             try clear p26
             try clear q26
             try clear hx26
             try clear hf26
             try clear c27
             try clear hcz11_0
             try clear hcz11_1
             try clear hcz28_0
             try clear hcz28_1
             try clear hfz11_0
             try clear hfz11_1
             try clear hfz28_0
             try clear hfz28_1
             try clear hx20_0
             try clear hx26_0
             try clear p2
             try clear p20
             try clear p26
             try clear p6
             try clear q2
             try clear q20
             try clear q26
             obtain ⟨x8_3,x39_3,rfl,rfl,HA,HK3,HO_5,HO_6,HO_37,BK173,BK174,HB⟩:=hrel;cases gk with
             | zero=>exact absurd HA.out (by simp[spec_seFar.l2])
             | succ k3 =>
              have H:=HA.out;clear HA;simp only[spec_seFar.l2] at H;by_cases c32:x39_3 < (x5_2.length:Int)
              ·
               rw[if_pos c32] at H;have c32b0:decide (x39_3 < (x5_2.length:Int))=true:=dt' c32;clear c32;by_cases c33:0≤x39_3
               ·
                rw[if_pos c33] at H;have c33b0:decide (0≤x39_3)=true:=dt' c33;clear c33;by_cases c34:x39_3 < (x5_2.length:Int)
                ·
                 rw[if_pos c34] at H;have c34b0:decide (x39_3 < (x5_2.length:Int))=true:=dt' c34;clear c34;by_cases c35:x39_3 < (x6_2.length:Int)
                 ·
                  rw[if_pos c35] at H;have c35b0:decide (x39_3 < (x6_2.length:Int))=true:=dt' c35;clear c35;obtain ⟨bq36,hbq36⟩:∃ b_:Bool,b_=(rdOf false x6_2 x39_3):=⟨_,rfl⟩
                  replace H:(if bq36=true then (spec_seFar.l2 k3 x5_2 x6_2 x8_3 x5_2 (x5_2.length:Int) (wrap64 (x39_3+1)) l0_0 a0_1) else (if (rd x5_2 x39_3) ≥ 0 then (if x8_3 < 0 then (spec_seFar.l2 k3 x5_2 x6_2 x39_3 x5_2 (x5_2.length:Int) (wrap64 (x39_3+1)) l0_0 a0_1) else (if 0≤x8_3 then (if x8_3 < (x5_2.length:Int) then (if (rd x5_2 x39_3) < (rd x5_2 x8_3) then (spec_seFar.l2 k3 x5_2 x6_2 x39_3 x5_2 (x5_2.length:Int) (wrap64 (x39_3+1)) l0_0 a0_1) else (spec_seFar.l2 k3 x5_2 x6_2 x8_3 x5_2 (x5_2.length:Int) (wrap64 (x39_3+1)) l0_0 a0_1)) else (none)) else (none))) else (spec_seFar.l2 k3 x5_2 x6_2 x8_3 x5_2 (x5_2.length:Int) (wrap64 (x39_3+1)) l0_0 a0_1)))=some r:=by rw[← hbq36] at H;exact H
                  have Nbq36:=am' hbq36;clear hbq36;by_cases c37:bq36=true
                  ·
                   subst c37;have H1:(spec_seFar.l2 k3 x5_2 x6_2 x8_3 x5_2 (x5_2.length:Int) (wrap64 (x39_3+1)) l0_0 a0_1)=some r:=by rw[if_pos rfl] at H;exact H
                   clear H;have H:=H1;clear H1;have H':=am' H;clear H;have p184:0≤(x39_3:Int):=od' xa';have q184:x39_3 < (x5_2.length:Int):=od' xa';obtain ⟨ad184,e184,hx184_0⟩:=Kd.at_int (Kd.R_reads' HO_37.out).2.2 x39_3 p184 q184;obtain rfl:(⟨go26,0,none⟩:Addr)=ad184:=(by injection e184)
                   (first|simp only[add_plain] at hx184_0|simp only[add_at] at hx184_0|simp only[Addr.add,Nat.zero_add] at hx184_0|skip)
                   replace p184:=eq_true p184;replace q184:=eq_true q184;obtain ⟨Ao38,co38,eo38⟩:=Kd.R_slice HO_6.out;subst eo38;have p185:0≤(x39_3:Int):=od' xa';have q185:x39_3 < (x6_2.length:Int):=od' xa';obtain ⟨ad185,e185,hx185_0⟩:=Kd.at_bool (Kd.R_reads' HO_6.out).2.2 x39_3 p185 q185
                   (try rw [← Nbq36.out] at hx185_0)
                   cases e185
                   replace p185:=eq_true p185;replace q185:=eq_true q185;go_wp2;go_roundg k3
                   case measure=>have:=HK1.out;have:=HK2.out;have:=HK3.out;omega
                   case rel=>exact ⟨(x8_3),(wrap64 (x39_3+1)),xs',xs',H',⟨by have:=HK1.out;have:=HK2.out;have:=HK3.out;omega⟩,⟨by (try simp only[hl5_1]);(try simp only[hl5_2]);(with_reducible repeat (first|apply ra'|apply rn'|apply rw'));exact HO_5.out⟩,⟨by (try simp only[hl5_1]);(try simp only[hl5_2]);(with_reducible repeat (first|apply ra'|apply rn'|apply rw'));exact HO_6.out⟩,⟨by (try simp only[hl5_1]);(try simp only[hl5_2]);(with_reducible repeat (first|apply ra'|apply rn'|apply rw'));exact HO_37.out⟩,⟨by (try simp only[hl5_1]);(try simp only[hl5_2]);(with_reducible repeat (first|refine kn' ?_ _|refine kd' ?_|refine ka' ?_ _));exact BK173.out⟩,⟨by (try simp only[hl5_1]);(try simp only[hl5_2]);(with_reducible repeat (first|refine kn' ?_ _|refine kd' ?_|refine ka' ?_ _));exact BK174.out⟩,⟨y2' GE173.out GE174.out⟩⟩
                  ·
                   replace c37:=Bool.eq_false_iff.mpr c37;subst c37;have H1:(if (rd x5_2 x39_3) ≥ 0 then (if x8_3 < 0 then (spec_seFar.l2 k3 x5_2 x6_2 x39_3 x5_2 (x5_2.length:Int) (wrap64 (x39_3+1)) l0_0 a0_1) else (if 0≤x8_3 then (if x8_3 < (x5_2.length:Int) then (if (rd x5_2 x39_3) < (rd x5_2 x8_3) then (spec_seFar.l2 k3 x5_2 x6_2 x39_3 x5_2 (x5_2.length:Int) (wrap64 (x39_3+1)) l0_0 a0_1) else (spec_seFar.l2 k3 x5_2 x6_2 x8_3 x5_2 (x5_2.length:Int) (wrap64 (x39_3+1)) l0_0 a0_1)) else (none)) else (none))) else (spec_seFar.l2 k3 x5_2 x6_2 x8_3 x5_2 (x5_2.length:Int) (wrap64 (x39_3+1)) l0_0 a0_1))=some r:=by rw[if_neg (show ¬ (false=true) by decide)] at H;exact H
                   clear H;have H:=H1;clear H1;by_cases c39:(rd x5_2 x39_3) ≥ 0
                   ·
                    rw[if_pos c39] at H;have c39b0:decide (0≤(rd x5_2 x39_3))=true:=dt' c39;clear c39;by_cases c40:x8_3 < 0
                    ·
                     rw[if_pos c40] at H;have c40b0:decide (x8_3 < 0)=true:=dt' c40;clear c40;have H':=am' H;clear H;have p184:0≤(x39_3:Int):=od' xa';have q184:x39_3 < (x5_2.length:Int):=od' xa';obtain ⟨ad184,e184,hx184_0⟩:=Kd.at_int (Kd.R_reads' HO_37.out).2.2 x39_3 p184 q184;obtain rfl:(⟨go26,0,none⟩:Addr)=ad184:=(by injection e184)
                     (first|simp only[add_plain] at hx184_0|simp only[add_at] at hx184_0|simp only[Addr.add,Nat.zero_add] at hx184_0|skip)
                     replace p184:=eq_true p184;replace q184:=eq_true q184;obtain ⟨Ao41,co41,eo41⟩:=Kd.R_slice HO_6.out;subst eo41;have p185:0≤(x39_3:Int):=od' xa';have q185:x39_3 < (x6_2.length:Int):=od' xa';obtain ⟨ad185,e185,hx185_0⟩:=Kd.at_bool (Kd.R_reads' HO_6.out).2.2 x39_3 p185 q185
                     (try rw [← Nbq36.out] at hx185_0)
                     cases e185
                     replace p185:=eq_true p185;replace q185:=eq_true q185;go_wp2;go_roundg k3
                     case measure=>have:=HK1.out;have:=HK2.out;have:=HK3.out;omega
                     case rel=>exact ⟨(x39_3),(wrap64 (x39_3+1)),xs',xs',H',⟨by have:=HK1.out;have:=HK2.out;have:=HK3.out;omega⟩,⟨by (try simp only[hl5_1]);(try simp only[hl5_2]);(with_reducible repeat (first|apply ra'|apply rn'|apply rw'));exact HO_5.out⟩,⟨by (try simp only[hl5_1]);(try simp only[hl5_2]);(with_reducible repeat (first|apply ra'|apply rn'|apply rw'));exact HO_6.out⟩,⟨by (try simp only[hl5_1]);(try simp only[hl5_2]);(with_reducible repeat (first|apply ra'|apply rn'|apply rw'));exact HO_37.out⟩,⟨by (try simp only[hl5_1]);(try simp only[hl5_2]);(with_reducible repeat (first|refine kn' ?_ _|refine kd' ?_|refine ka' ?_ _));exact BK173.out⟩,⟨by (try simp only[hl5_1]);(try simp only[hl5_2]);(with_reducible repeat (first|refine kn' ?_ _|refine kd' ?_|refine ka' ?_ _));exact BK174.out⟩,⟨y2' GE173.out GE174.out⟩⟩
                    ·
                     rw[if_neg c40] at H;have c40b0:decide (x8_3 < 0)=false:=df' c40;clear c40;by_cases c42:0≤x8_3
                     ·
                      rw[if_pos c42] at H;have c42b0:decide (0≤x8_3)=true:=dt' c42;clear c42;by_cases c43:x8_3 < (x5_2.length:Int)
                      ·
                       rw[if_pos c43] at H;have c43b0:decide (x8_3 < (x5_2.length:Int))=true:=dt' c43;clear c43;by_cases c44:(rd x5_2 x39_3) < (rd x5_2 x8_3)
                       ·
                        rw[if_pos c44] at H;have c44b0:decide ((rd x5_2 x39_3) < (rd x5_2 x8_3))=true:=dt' c44;clear c44;have H':=am' H;clear H;have p184:0≤(x39_3:Int):=od' xa';have q184:x39_3 < (x5_2.length:Int):=od' xa';obtain ⟨ad184,e184,hx184_0⟩:=Kd.at_int (Kd.R_reads' HO_37.out).2.2 x39_3 p184 q184;obtain rfl:(⟨go26,0,none⟩:Addr)=ad184:=(by injection e184)
                        (first|simp only[add_plain] at hx184_0|simp only[add_at] at hx184_0|simp only[Addr.add,Nat.zero_add] at hx184_0|skip)
                        replace p184:=eq_true p184;replace q184:=eq_true q184;obtain ⟨Ao45,co45,eo45⟩:=Kd.R_slice HO_6.out;subst eo45;have p185:0≤(x39_3:Int):=od' xa';have q185:x39_3 < (x6_2.length:Int):=od' xa';obtain ⟨ad185,e185,hx185_0⟩:=Kd.at_bool (Kd.R_reads' HO_6.out).2.2 x39_3 p185 q185
                        (try rw [← Nbq36.out] at hx185_0)
                        cases e185
                        replace p185:=eq_true p185;replace q185:=eq_true q185;have p186:0≤(x8_3:Int):=od' xa';have q186:x8_3 < (x5_2.length:Int):=od' xa';obtain ⟨ad186,e186,hx186_0⟩:=Kd.at_int (Kd.R_reads' HO_5.out).2.2 x8_3 p186 q186;obtain rfl:(⟨go26,0,none⟩:Addr)=ad186:=(by injection e186)
                        (first|simp only[add_plain] at hx186_0|simp only[add_at] at hx186_0|simp only[Addr.add,Nat.zero_add] at hx186_0|skip)
                        replace p186:=eq_true p186;replace q186:=eq_true q186;go_wp2;go_roundg k3
                        case measure=>have:=HK1.out;have:=HK2.out;have:=HK3.out;omega
                        case rel=>exact ⟨(x39_3),(wrap64 (x39_3+1)),xs',xs',H',⟨by have:=HK1.out;have:=HK2.out;have:=HK3.out;omega⟩,⟨by (try simp only[hl5_1]);(try simp only[hl5_2]);(with_reducible repeat (first|apply ra'|apply rn'|apply rw'));exact HO_5.out⟩,⟨by (try simp only[hl5_1]);(try simp only[hl5_2]);(with_reducible repeat (first|apply ra'|apply rn'|apply rw'));exact HO_6.out⟩,⟨by (try simp only[hl5_1]);(try simp only[hl5_2]);(with_reducible repeat (first|apply ra'|apply rn'|apply rw'));exact HO_37.out⟩,⟨by (try simp only[hl5_1]);(try simp only[hl5_2]);(with_reducible repeat (first|refine kn' ?_ _|refine kd' ?_|refine ka' ?_ _));exact BK173.out⟩,⟨by (try simp only[hl5_1]);(try simp only[hl5_2]);(with_reducible repeat (first|refine kn' ?_ _|refine kd' ?_|refine ka' ?_ _));exact BK174.out⟩,⟨y2' GE173.out GE174.out⟩⟩
                       ·
                        rw[if_neg c44] at H;have c44b0:decide ((rd x5_2 x39_3) < (rd x5_2 x8_3))=false:=df' c44;clear c44;have H':=am' H;clear H;have p184:0≤(x39_3:Int):=od' xa';have q184:x39_3 < (x5_2.length:Int):=od' xa';obtain ⟨ad184,e184,hx184_0⟩:=Kd.at_int (Kd.R_reads' HO_37.out).2.2 x39_3 p184 q184;obtain rfl:(⟨go26,0,none⟩:Addr)=ad184:=(by injection e184)
                        (first|simp only[add_plain] at hx184_0|simp only[add_at] at hx184_0|simp only[Addr.add,Nat.zero_add] at hx184_0|skip)
                        replace p184:=eq_true p184;replace q184:=eq_true q184;obtain ⟨Ao46,co46,eo46⟩:=Kd.R_slice HO_6.out;subst eo46;have p185:0≤(x39_3:Int):=od' xa';have q185:x39_3 < (x6_2.length:Int):=od' xa';obtain ⟨ad185,e185,hx185_0⟩:=Kd.at_bool (Kd.R_reads' HO_6.out).2.2 x39_3 p185 q185
                        (try rw [← Nbq36.out] at hx185_0)
                        cases e185
                        replace p185:=eq_true p185;replace q185:=eq_true q185;have p186:0≤(x8_3:Int):=od' xa';have q186:x8_3 < (x5_2.length:Int):=od' xa';obtain ⟨ad186,e186,hx186_0⟩:=Kd.at_int (Kd.R_reads' HO_5.out).2.2 x8_3 p186 q186;obtain rfl:(⟨go26,0,none⟩:Addr)=ad186:=(by injection e186)
                        (first|simp only[add_plain] at hx186_0|simp only[add_at] at hx186_0|simp only[Addr.add,Nat.zero_add] at hx186_0|skip)
                        replace p186:=eq_true p186;replace q186:=eq_true q186;go_wp2;go_roundg k3
                        case measure=>have:=HK1.out;have:=HK2.out;have:=HK3.out;omega
                        case rel=>exact ⟨(x8_3),(wrap64 (x39_3+1)),xs',xs',H',⟨by have:=HK1.out;have:=HK2.out;have:=HK3.out;omega⟩,⟨by (try simp only[hl5_1]);(try simp only[hl5_2]);(with_reducible repeat (first|apply ra'|apply rn'|apply rw'));exact HO_5.out⟩,⟨by (try simp only[hl5_1]);(try simp only[hl5_2]);(with_reducible repeat (first|apply ra'|apply rn'|apply rw'));exact HO_6.out⟩,⟨by (try simp only[hl5_1]);(try simp only[hl5_2]);(with_reducible repeat (first|apply ra'|apply rn'|apply rw'));exact HO_37.out⟩,⟨by (try simp only[hl5_1]);(try simp only[hl5_2]);(with_reducible repeat (first|refine kn' ?_ _|refine kd' ?_|refine ka' ?_ _));exact BK173.out⟩,⟨by (try simp only[hl5_1]);(try simp only[hl5_2]);(with_reducible repeat (first|refine kn' ?_ _|refine kd' ?_|refine ka' ?_ _));exact BK174.out⟩,⟨y2' GE173.out GE174.out⟩⟩
                      ·
                       rw[if_neg c43] at H;exact absurd H (by simp)
                     ·
                      rw[if_neg c42] at H;exact absurd H (by simp)
                   ·
                    rw[if_neg c39] at H;have c39b0:decide (0≤(rd x5_2 x39_3))=false:=df' c39;clear c39;have H':=am' H;clear H;have p184:0≤(x39_3:Int):=od' xa';have q184:x39_3 < (x5_2.length:Int):=od' xa';obtain ⟨ad184,e184,hx184_0⟩:=Kd.at_int (Kd.R_reads' HO_37.out).2.2 x39_3 p184 q184;obtain rfl:(⟨go26,0,none⟩:Addr)=ad184:=(by injection e184)
                    (first|simp only[add_plain] at hx184_0|simp only[add_at] at hx184_0|simp only[Addr.add,Nat.zero_add] at hx184_0|skip)
                    replace p184:=eq_true p184;replace q184:=eq_true q184;obtain ⟨Ao47,co47,eo47⟩:=Kd.R_slice HO_6.out;subst eo47;have p185:0≤(x39_3:Int):=od' xa';have q185:x39_3 < (x6_2.length:Int):=od' xa';obtain ⟨ad185,e185,hx185_0⟩:=Kd.at_bool (Kd.R_reads' HO_6.out).2.2 x39_3 p185 q185
                    (try rw [← Nbq36.out] at hx185_0)
                    cases e185
                    replace p185:=eq_true p185;replace q185:=eq_true q185;go_wp2;go_roundg k3
                    case measure=>have:=HK1.out;have:=HK2.out;have:=HK3.out;omega
                    case rel=>exact ⟨(x8_3),(wrap64 (x39_3+1)),xs',xs',H',⟨by have:=HK1.out;have:=HK2.out;have:=HK3.out;omega⟩,⟨by (try simp only[hl5_1]);(try simp only[hl5_2]);(with_reducible repeat (first|apply ra'|apply rn'|apply rw'));exact HO_5.out⟩,⟨by (try simp only[hl5_1]);(try simp only[hl5_2]);(with_reducible repeat (first|apply ra'|apply rn'|apply rw'));exact HO_6.out⟩,⟨by (try simp only[hl5_1]);(try simp only[hl5_2]);(with_reducible repeat (first|apply ra'|apply rn'|apply rw'));exact HO_37.out⟩,⟨by (try simp only[hl5_1]);(try simp only[hl5_2]);(with_reducible repeat (first|refine kn' ?_ _|refine kd' ?_|refine ka' ?_ _));exact BK173.out⟩,⟨by (try simp only[hl5_1]);(try simp only[hl5_2]);(with_reducible repeat (first|refine kn' ?_ _|refine kd' ?_|refine ka' ?_ _));exact BK174.out⟩,⟨y2' GE173.out GE174.out⟩⟩
                 ·
                  rw[if_neg c35] at H;exact absurd H (by simp)
                ·
                 rw[if_neg c34] at H;exact absurd H (by simp)
               ·
                rw[if_neg c33] at H;exact absurd H (by simp)
              ·
               rw[if_neg c32] at H;have c32b0:decide (x39_3 < (x5_2.length:Int))=false:=df' c32;clear c32;by_cases c48:x8_3 < 0
               ·
                rw[if_pos c48] at H;have c48b0:decide (x8_3 < 0)=true:=dt' c48;clear c48;obtain rfl:=os' H;go_wp2;go_ret
                exact ⟨_,by first|rfl|(simp[errW_none,errW_some] <;> rfl)|(simp only[← hji3];first|rfl|(simp[errW_none,errW_some] <;> rfl))|(simp[*,errW_none,errW_some] <;> rfl),kr' HO_5.out,y2' GE173.out GE174.out⟩
               ·
                rw[if_neg c48] at H;have c48b0:decide (x8_3 < 0)=false:=df' c48;clear c48;by_cases c49:0≤x8_3
                ·
                 rw[if_pos c49] at H;have c49b0:decide (0≤x8_3)=true:=dt' c49;clear c49;by_cases c50:x8_3 < (x6_2.length:Int)
                 ·
                  rw[if_pos c50] at H;have c50b0:decide (x8_3 < (x6_2.length:Int))=true:=dt' c50;clear c50;obtain ⟨y187,hy187⟩:∃ y_:List Bool,y_=(x6_2.set (x8_3:Int).toNat true):=⟨_,rfl⟩
                  replace H:((spec_seState.f k3 x8_3 (l0_0.length:Int)).bind fun bt188=>((spec_paTrips.f k3 l0_0 a0_1 bt188.1 bt188.2).bind fun t193=>(spec_seFar.l3 k3 x5_2 y187 x8_3 t193 (t193.length:Int) 0 l0_0 a0_1 bt188.1 bt188.2)))=some r:=by first|(rw[hy187];with_reducible exact H)|(have H2_:=(Option.bind_some _ _).symm.trans H;rw[hy187];with_reducible exact H2_)|(have H2_:=(Option.bind_some _ _).symm.trans H;with_reducible exact H2_)|with_reducible exact H|(rw[hy187];exact H)|exact H
                  have Ny187:=am' hy187;clear hy187;replace H:=Option.bind_eq_some_iff.mp H;obtain ⟨⟨t188,t191⟩,A520,H⟩:=H;replace H:((spec_paTrips.f k3 l0_0 a0_1 t188 t191).bind fun t193=>(spec_seFar.l3 k3 x5_2 y187 x8_3 t193 (t193.length:Int) 0 l0_0 a0_1 t188 t191))=some r:=H;have A52:=am' A520;clear A520;replace H:=Option.bind_eq_some_iff.mp H;obtain ⟨t193,A530,H⟩:=H;replace H:(spec_seFar.l3 k3 x5_2 y187 x8_3 t193 (t193.length:Int) 0 l0_0 a0_1 t188 t191)=some r:=H;have A53:=am' A530;clear A530;have H':=am' H;clear H;have p51:0≤(x8_3:Int):=od' xa';have q51:(x8_3:Int) < ((x6_2.length:Int):Int):=od' xa';obtain ⟨go51,co51,eo51,gb51,gl51,cl51,HG51⟩:=Kd.R_form HO_6.out (by omega)
                  (first|cases eo51|(injection eo51 with ea_ en_ ec_;(first|subst ea_|(injection ea_ with ea_;subst ea_));subst ec_;clear en_))
                  have GB51:=am' gb51;have GG51:=am' HG51;clear gb51 gl51 HG51;obtain ⟨hx51_0,hf51_0⟩:=Kd.R_celln false HO_6.out (x8_3:Int) p51 q51;replace p51:=eq_true p51;replace q51:=eq_true q51;have HP54:=Kd.R_putg HO_6.out (x8_3:Int) true;go_wp2_with (first|((with_reducible refine gate_store (t:=4) (p:=72) rfl ?_);refine store_event (t:=4) (p:=72) (v:=?vo_w55) (w1:=(wr.setCell ⟨go51,(x8_3:Int).toNat,none⟩ (.bool true))) ?hg ?ho ?hn ?hr ?_;(case ho=>rfl);(case hg=>rfl);(case hn=>rfl);(case hr=>first|(go_simp;done)|(go_simp;rfl));intro w55 hw;have hg:wr.grownBy w55 (some go51):=(by rw[hw];exact HP54.2);have hp_:Kd.R Kd.bool 4 w55 w.heap.size (fun _=>True) (.slice (some ⟨go51,0,none⟩) x6_2.length co51) y187:=(by rw[hw,Ny187.out];exact HP54.1);clear HP54;have n0_:=am' (Kd.R_over' (v:=(.slice (some ⟨go51,0,none⟩) x6_2.length co51)) (kr' HO_5.out) (Kd.R_typed HO_6.out) (by decide) hg);have n1_:=am' (hp_);have n2_:=am' (Kd.R_over' (v:=(.slice (some ⟨go51,0,none⟩) x6_2.length co51)) (kr' HO_37.out) (Kd.R_typed HO_6.out) (by decide) hg);have n3_:=am' (blk_grown (g:=gb173) (o := .cells #[.slice A0_0 l0_0.length c0_0, .int .i64 a0_1] 28 (0,0)) (kk' BK173.out) hg (Kd.R_ne HO_6.out BK173.out (by decide)));have n4_:=am' (blk_grown (g:=gb174) (o := .cells #[.slice A1_0 l1_0.length c1_0, .bool a1_1] 54 (0,0)) (kk' BK174.out) hg (Kd.R_ne HO_6.out BK174.out (by decide)));have n5_:=am' ((by rw[hw];exact bs' (HB.out) GB51.out:Below w.heap.size w w55));clear HO_5;clear HO_6;clear HO_37;clear BK173;clear BK174;clear HB;have HO_5:=n0_;have HO_6:=n1_;have HO_37:=n2_;have BK173:=n3_;have BK174:=n4_;have HB:=n5_;clear n0_ n1_ n2_ n3_ n4_ n5_;clear hg hw hp_;have hnb56:=NB173_174.out;have hnc56:=NB174_173.out;have hcz57_0:w55.cell? ⟨gb173,0,none⟩=some (.slice A0_0 l0_0.length c0_0):=(bc' BK173.out 0).trans rfl;have hcz57_1:w55.cell? ⟨gb173,1,none⟩=some (.int .i64 a0_1):=(bc' BK173.out 1).trans rfl;have hfz57_0:=bf' BK173.out 0;have hfz57_1:=bf' BK173.out 1)|((with_reducible refine gate_callee (f:=28) rfl ?_);refine goesL_ (some 77) rfl rfl Try.func28 xk' rfl #[.int .i64 x8_3, .int .i64 (l0_0.length:Int)] rfl xl' ?_;(with_reducible refine (spec_seState.calls k3 x8_3 (l0_0.length:Int) t188 t191 _ A52.out).mono ?_);rintro e w58 ⟨v189,rfl,ho0,hb⟩;refine ⟨_,rfl,?_⟩;have n0_:=am' (rb' (kr' HO_5.out) hb);have n1_:=am' (Kd.R_elder' (kr' HO_6.out) (Kd.R_base ho0) hb);have n2_:=am' (rb' (kr' HO_37.out) hb);have n3_:=am' (Kd.R_lower (Kd.R_new' ho0 (Kd.R_lt (kr' HO_6.out))) (bz' (y2' GE173.out GE174.out)));have n4_:=am' (bb' (g:=gb173) (o := .cells #[.slice A0_0 l0_0.length c0_0, .int .i64 a0_1] 28 (0,0)) (kk' BK173.out) hb);have n5_:=am' (bb' (g:=gb174) (o := .cells #[.slice A1_0 l1_0.length c1_0, .bool a1_1] 54 (0,0)) (kk' BK174.out) hb);have n6_:=am' (bt' (y2' GE173.out GE174.out) hb);clear HO_5;clear HO_6;clear HO_37;clear BK173;clear BK174;clear HB;have HO_5:=n0_;have HO_6:=n1_;have HO_37:=n2_;have HO190:=n3_;have BK173:=n4_;have BK174:=n5_;have HB:=n6_;clear n0_ n1_ n2_ n3_ n4_ n5_ n6_;(try clear hb);(try clear hb2);(try clear hk);(try clear hi);(try clear ho0))|((with_reducible refine gate_dst (N:=11) rfl ?_);refine box_event ?hg (N:=11) ?hd (cs:=#[.slice none 0 0, .bool false]) (t:=54) ?hr ?_;(case hd=>rfl);(case hg=>rfl);(case hr=>first|(go_simp;done)|(go_simp;rfl));intro gb192 hg w59 hbox hb;have n0_:=am' (rb' (kr' HO_5.out) hb);have n1_:=am' (rb' (kr' HO_6.out) hb);have n2_:=am' (rb' (kr' HO_37.out) hb);have n3_:=am' (rb' (kr' HO190.out) hb);have n4_:=am' (bb' (g:=gb173) (o := .cells #[.slice A0_0 l0_0.length c0_0, .int .i64 a0_1] 28 (0,0)) (kk' BK173.out) hb);have n5_:=am' (bb' (g:=gb174) (o := .cells #[.slice A1_0 l1_0.length c1_0, .bool a1_1] 54 (0,0)) (kk' BK174.out) hb);have n6_:=am' (bt' (y2' GE173.out GE174.out) hb);have n7_:=am' (hbox);have n8_:=am' ((by rw[hg];exact (bz' (y2' GE173.out GE174.out)):w.heap.size≤gb192));have n9_:=am' ((by rw[hg];exact (bz' (y2' GE173.out GE174.out)):w.heap.size≤gb192));have n10_:=am' ((by rw[hg];exact Nat.ne_of_lt (blk_lt (g:=gb173) (o := .cells #[.slice A0_0 l0_0.length c0_0, .int .i64 a0_1] 28 (0,0)) (kk' BK173.out)):gb173≠gb192));have n11_:=am' ((by rw[hg];exact Nat.ne_of_gt (blk_lt (g:=gb173) (o := .cells #[.slice A0_0 l0_0.length c0_0, .int .i64 a0_1] 28 (0,0)) (kk' BK173.out)):gb192≠gb173));have n12_:=am' ((by rw[hg];exact Nat.ne_of_lt (blk_lt (g:=gb174) (o := .cells #[.slice A1_0 l1_0.length c1_0, .bool a1_1] 54 (0,0)) (kk' BK174.out)):gb174≠gb192));have n13_:=am' ((by rw[hg];exact Nat.ne_of_gt (blk_lt (g:=gb174) (o := .cells #[.slice A1_0 l1_0.length c1_0, .bool a1_1] 54 (0,0)) (kk' BK174.out)):gb192≠gb174));clear HO_5;clear HO_6;clear HO_37;clear HO190;clear BK173;clear BK174;clear HB;have HO_5:=n0_;have HO_6:=n1_;have HO_37:=n2_;have HO190:=n3_;have BK173:=n4_;have BK174:=n5_;have HB:=n6_;have BK192:=n7_;have GW192:=n8_;have GE192:=n9_;have NB173_192:=n10_;have NB192_173:=n11_;have NB174_192:=n12_;have NB192_174:=n13_;clear n0_ n1_ n2_ n3_ n4_ n5_ n6_ n7_ n8_ n9_ n10_ n11_ n12_ n13_;clear hb hbox hg;obtain ⟨Ao60,co60,eo60⟩:=Kd.R_slice HO190.out;subst eo60;have hnb61:=NB192_173.out;have hnc61:=NB173_192.out;have hnb62:=NB192_174.out;have hnc62:=NB174_192.out;have hcz63_0:w59.cell? ⟨gb192,0,none⟩=some (.slice none 0 0):=(bc' BK192.out 0).trans rfl;have hcz63_1:w59.cell? ⟨gb192,1,none⟩=some (.bool false):=(bc' BK192.out 1).trans rfl;have hfz63_0:=bf' BK192.out 0;have hfz63_1:=bf' BK192.out 1;have hcz64_0:w59.cell? ⟨gb173,0,none⟩=some (.slice A0_0 l0_0.length c0_0):=(bc' BK173.out 0).trans rfl;have hcz64_1:w59.cell? ⟨gb173,1,none⟩=some (.int .i64 a0_1):=(bc' BK173.out 1).trans rfl;have hfz64_0:=bf' BK173.out 0;have hfz64_1:=bf' BK173.out 1)|((with_reducible refine gate_callee (f:=50) rfl ?_);refine goesL_ (some 80) rfl rfl Try.func50 xk' rfl #[.agg #[.slice A0_0 l0_0.length c0_0, .int .i64 a0_1], .agg #[.slice Ao60 t188.length co60, .bool t191]] rfl xl' ?_;(with_reducible refine (spec_paTrips.calls k3 _ _ l0_0 a0_1 _ _ t188 t191 t193 _ ?side1 ?side2 ?side3 ?side4 A53.out).mono ?_);(case side1=>exact cb' HR0_0.out (y3' GE173.out GE174.out GE192.out));(case side2=>exact HC0_0.out);(case side3=>refine (Kd.R_reads' (e:=4) (base:=w.heap.size) (ok:=fun k_=>(True∧some k_≠(.slice (some ⟨go51,0,none⟩) x6_2.length co51:Value).ownBlock)) (n:=t188.length) (c:=co60) ?_).2.2;exact (by (with_reducible repeat (first|apply ra'|apply rn'|apply rw'));exact (Kd.R_mono (Kd.R_far (p:=⟨gb192,1,none⟩) (Kd.R_far (p:=⟨gb192,0,none⟩) (Kd.R_types HO190.out BK192.out (by decide)) (fun _ hk=>hk.2) (.slice Ao60 t188.length co60)) (fun _ hk=>hk.2) (.bool t191)) (fun _ h_=>h_.1))));(case side4=>exact (Kd.R_reads' HO190.out).2.1);rintro e w65 ⟨v194,rfl,ho0,hb⟩;refine ⟨_,rfl,?_⟩;have n0_:=am' (rb' (by (with_reducible repeat (first|apply ra'|apply rn'|apply rw'));exact (Kd.R_mono (Kd.R_far (p:=⟨gb192,1,none⟩) (Kd.R_far (p:=⟨gb192,0,none⟩) (Kd.R_types HO_5.out BK192.out (by decide)) (fun _ hk=>hk.2) (.slice Ao60 t188.length co60)) (fun _ hk=>hk.2) (.bool t191)) (fun _ h_=>h_.1))) hb);have n1_:=am' (rb' (by (with_reducible repeat (first|apply ra'|apply rn'|apply rw'));exact (Kd.R_mono (Kd.R_far (p:=⟨gb192,1,none⟩) (Kd.R_far (p:=⟨gb192,0,none⟩) (Kd.R_types HO_6.out BK192.out (by decide)) (fun _ hk=>hk.2) (.slice Ao60 t188.length co60)) (fun _ hk=>hk.2) (.bool t191)) (fun _ h_=>h_.1))) hb);have n2_:=am' (rb' (by (with_reducible repeat (first|apply ra'|apply rn'|apply rw'));exact (Kd.R_mono (Kd.R_far (p:=⟨gb192,1,none⟩) (Kd.R_far (p:=⟨gb192,0,none⟩) (Kd.R_types HO_37.out BK192.out (by decide)) (fun _ hk=>hk.2) (.slice Ao60 t188.length co60)) (fun _ hk=>hk.2) (.bool t191)) (fun _ h_=>h_.1))) hb);have n3_:=am' (rb' (by (with_reducible repeat (first|apply ra'|apply rn'|apply rw'));exact (Kd.R_mono (Kd.R_far (p:=⟨gb192,1,none⟩) (Kd.R_far (p:=⟨gb192,0,none⟩) (Kd.R_types HO190.out BK192.out (by decide)) (fun _ hk=>hk.2) (.slice Ao60 t188.length co60)) (fun _ hk=>hk.2) (.bool t191)) (fun _ h_=>h_.1))) hb);have n4_:=am' (Kd.N_lower (Kd.N_mono (ok':=fun k_=>some k_≠(.slice (some ⟨go26,0,none⟩) x5_2.length co14:Value).ownBlock∧some k_≠(.slice (some ⟨go51,0,none⟩) x6_2.length co51:Value).ownBlock∧some k_≠(.slice (some ⟨go26,0,none⟩) x5_2.length co14:Value).ownBlock∧some k_≠(.slice Ao60 t188.length co60:Value).ownBlock∧k_≠gb173∧k_≠gb174∧k_≠gb192) ho0 (fun k_ hk_=>⟨(Kd.fresh' (Kd.R_lt (by (with_reducible repeat (first|apply ra'|apply rn'|apply rw'));exact (Kd.R_mono (Kd.R_far (p:=⟨gb192,1,none⟩) (Kd.R_far (p:=⟨gb192,0,none⟩) (Kd.R_types HO_5.out BK192.out (by decide)) (fun _ hk=>hk.2) (.slice Ao60 t188.length co60)) (fun _ hk=>hk.2) (.bool t191)) (fun _ h_=>h_.1)))) k_ hk_),(Kd.fresh' (Kd.R_lt (by (with_reducible repeat (first|apply ra'|apply rn'|apply rw'));exact (Kd.R_mono (Kd.R_far (p:=⟨gb192,1,none⟩) (Kd.R_far (p:=⟨gb192,0,none⟩) (Kd.R_types HO_6.out BK192.out (by decide)) (fun _ hk=>hk.2) (.slice Ao60 t188.length co60)) (fun _ hk=>hk.2) (.bool t191)) (fun _ h_=>h_.1)))) k_ hk_),(Kd.fresh' (Kd.R_lt (by (with_reducible repeat (first|apply ra'|apply rn'|apply rw'));exact (Kd.R_mono (Kd.R_far (p:=⟨gb192,1,none⟩) (Kd.R_far (p:=⟨gb192,0,none⟩) (Kd.R_types HO_37.out BK192.out (by decide)) (fun _ hk=>hk.2) (.slice Ao60 t188.length co60)) (fun _ hk=>hk.2) (.bool t191)) (fun _ h_=>h_.1)))) k_ hk_),(Kd.fresh' (Kd.R_lt (by (with_reducible repeat (first|apply ra'|apply rn'|apply rw'));exact (Kd.R_mono (Kd.R_far (p:=⟨gb192,1,none⟩) (Kd.R_far (p:=⟨gb192,0,none⟩) (Kd.R_types HO190.out BK192.out (by decide)) (fun _ hk=>hk.2) (.slice Ao60 t188.length co60)) (fun _ hk=>hk.2) (.bool t191)) (fun _ h_=>h_.1)))) k_ hk_),(Kd.freshB (g:=gb173) (o := .cells #[.slice A0_0 l0_0.length c0_0, .int .i64 a0_1] 28 (0,0)) (by (with_reducible repeat (first|refine kn' ?_ _|refine kd' ?_|refine ka' ?_ _));refine blk_far ?_ NB173_192.out _;(with_reducible repeat (first|refine kn' ?_ _|refine kd' ?_|refine ka' ?_ _));refine blk_far ?_ NB173_192.out _;(with_reducible repeat (first|refine kn' ?_ _|refine kd' ?_|refine ka' ?_ _));exact BK173.out) k_ hk_),(Kd.freshB (g:=gb174) (o := .cells #[.slice A1_0 l1_0.length c1_0, .bool a1_1] 54 (0,0)) (by (with_reducible repeat (first|refine kn' ?_ _|refine kd' ?_|refine ka' ?_ _));refine blk_far ?_ NB174_192.out _;(with_reducible repeat (first|refine kn' ?_ _|refine kd' ?_|refine ka' ?_ _));refine blk_far ?_ NB174_192.out _;(with_reducible repeat (first|refine kn' ?_ _|refine kd' ?_|refine ka' ?_ _));exact BK174.out) k_ hk_),(Kd.freshB (g:=gb192) (o := .cells #[.slice Ao60 t188.length co60, .bool t191] 54 (0,0)) (by (with_reducible repeat (first|refine kn' ?_ _|refine kd' ?_|refine ka' ?_ _));refine blk_put (cs:=#[.slice Ao60 t188.length co60, .bool false]) ?_ 1 _ rfl;(with_reducible repeat (first|refine kn' ?_ _|refine kd' ?_|refine ka' ?_ _));refine blk_put (cs:=#[.slice none 0 0, .bool false]) ?_ 0 _ rfl;(with_reducible repeat (first|refine kn' ?_ _|refine kd' ?_|refine ka' ?_ _));exact BK192.out) k_ hk_)⟩)) (bz' (y3' GE173.out GE174.out GE192.out)));have n5_:=am' (bb' (g:=gb173) (o := .cells #[.slice A0_0 l0_0.length c0_0, .int .i64 a0_1] 28 (0,0)) (by (with_reducible repeat (first|refine kn' ?_ _|refine kd' ?_|refine ka' ?_ _));refine blk_far ?_ NB173_192.out _;(with_reducible repeat (first|refine kn' ?_ _|refine kd' ?_|refine ka' ?_ _));refine blk_far ?_ NB173_192.out _;(with_reducible repeat (first|refine kn' ?_ _|refine kd' ?_|refine ka' ?_ _));exact BK173.out) hb);have n6_:=am' (bb' (g:=gb174) (o := .cells #[.slice A1_0 l1_0.length c1_0, .bool a1_1] 54 (0,0)) (by (with_reducible repeat (first|refine kn' ?_ _|refine kd' ?_|refine ka' ?_ _));refine blk_far ?_ NB174_192.out _;(with_reducible repeat (first|refine kn' ?_ _|refine kd' ?_|refine ka' ?_ _));refine blk_far ?_ NB174_192.out _;(with_reducible repeat (first|refine kn' ?_ _|refine kd' ?_|refine ka' ?_ _));exact BK174.out) hb);have n7_:=am' (bb' (g:=gb192) (o := .cells #[.slice Ao60 t188.length co60, .bool t191] 54 (0,0)) (by (with_reducible repeat (first|refine kn' ?_ _|refine kd' ?_|refine ka' ?_ _));refine blk_put (cs:=#[.slice Ao60 t188.length co60, .bool false]) ?_ 1 _ rfl;(with_reducible repeat (first|refine kn' ?_ _|refine kd' ?_|refine ka' ?_ _));refine blk_put (cs:=#[.slice none 0 0, .bool false]) ?_ 0 _ rfl;(with_reducible repeat (first|refine kn' ?_ _|refine kd' ?_|refine ka' ?_ _));exact BK192.out) hb);have n8_:=am' (bt' (y3' GE173.out GE174.out GE192.out) hb);clear HO_5;clear HO_6;clear HO_37;clear HO190;clear BK173;clear BK174;clear BK192;clear HB;have HO_5:=n0_;have HO_6:=n1_;have HO_37:=n2_;have HO190:=n3_;have HO195:=n4_;have BK173:=n5_;have BK174:=n6_;have BK192:=n7_;have HB:=n8_;clear n0_ n1_ n2_ n3_ n4_ n5_ n6_ n7_ n8_;(try clear hb);(try clear hb2);(try clear hk);(try clear hi);(try clear ho0);obtain ⟨Ao66,co66,eo66⟩:=Kd.N_slice HO195.out;subst eo66))
                  go_loopg [82] k3 (fun kq v82 w'=>∃ (x5_4:List Int) (x82_4:Int),v82 = .int .i64 x82_4∧Aside0 (spec_seFar.l3 kq x5_4 y187 x8_3 t193 (t193.length:Int) x82_4 l0_0 a0_1 t188 t191=some r)∧Aside0 (kq≤k3)∧Aside0 (Kd.R (Kd.int .i64) 3 w' w.heap.size (fun _=>True) (.slice (some ⟨go26,0,none⟩) x5_2.length co14) x5_4)∧Aside0 (Kd.R Kd.bool 4 w' w.heap.size (fun k_=>some k_≠((.slice Ao60 t188.length co60):Value).ownBlock) (.slice (some ⟨go51,0,none⟩) x6_2.length co51) y187)∧Aside0 (Kd.N (Kd.slice 3 (Kd.int .i64)) 22 w' w.heap.size (fun k_=>some k_≠((.slice (some ⟨go26,0,none⟩) x5_2.length co14):Value).ownBlock∧some k_≠((.slice (some ⟨go51,0,none⟩) x6_2.length co51):Value).ownBlock∧some k_≠((.slice Ao60 t188.length co60):Value).ownBlock∧k_≠gb173∧k_≠gb174∧k_≠gb192) (.slice Ao66 t193.length co66) t193)∧Aside0 (Kd.R Kd.bool 4 w' w.heap.size (fun k_=>some k_≠((.slice (some ⟨go51,0,none⟩) x6_2.length co51):Value).ownBlock) (.slice Ao60 t188.length co60) t188)∧Aside0 (w'.heap[gb173]? = some (.cells #[(.slice A0_0 l0_0.length c0_0), .int .i64 a0_1] 28 (0,0)))∧Aside0 (w'.heap[gb174]? = some (.cells #[(.slice A1_0 l1_0.length c1_0), .bool a1_1] 54 (0,0)))∧Aside0 (w'.heap[gb192]? = some (.cells #[(.slice Ao60 t188.length co60), .bool t191] 54 (0,0)))∧Aside0 (Below w.heap.size w w'))
                  case atStart=>exact ⟨(x5_2),(0),xs',H',⟨Nat.le_refl _⟩,⟨by (try simp only[hl5_1]);(try simp only[hl5_2]);(with_reducible repeat (first|apply ra'|apply rn'|apply rw'));exact HO_5.out⟩,⟨by (try simp only[hl5_1]);(try simp only[hl5_2]);(with_reducible repeat (first|apply ra'|apply rn'|apply rw'));exact Kd.R_mono HO_6.out (fun _ hk=>hk.2)⟩,⟨by (try simp only[hl5_1]);(try simp only[hl5_2]);(with_reducible repeat (first|apply Kd.N_alloc|apply Kd.N_drewN|apply Kd.N_drew));exact Kd.N_mono HO195.out (fun _ hk=>⟨hk.1,⟨hk.2.1,⟨hk.2.2.2.1,⟨hk.2.2.2.2.1,⟨hk.2.2.2.2.2.1,hk.2.2.2.2.2.2⟩⟩⟩⟩⟩)⟩,⟨by (try simp only[hl5_1]);(try simp only[hl5_2]);(with_reducible repeat (first|apply ra'|apply rn'|apply rw'));exact Kd.R_mono HO190.out (fun _ hk=>hk.2)⟩,⟨by (try simp only[hl5_1]);(try simp only[hl5_2]);(with_reducible repeat (first|refine kn' ?_ _|refine kd' ?_|refine ka' ?_ _));exact BK173.out⟩,⟨by (try simp only[hl5_1]);(try simp only[hl5_2]);(with_reducible repeat (first|refine kn' ?_ _|refine kd' ?_|refine ka' ?_ _));exact BK174.out⟩,⟨by (try simp only[hl5_1]);(try simp only[hl5_2]);(with_reducible repeat (first|refine kn' ?_ _|refine kd' ?_|refine ka' ?_ _));exact BK192.out⟩,⟨y3' GE173.out GE174.out GE192.out⟩⟩
                  case round =>
                   clear H';try clear c1
                   try clear p1
                   try clear q1
                   try clear hx1
                   try clear c2
                   try clear p2
                   try clear q2
                   try clear hx2
                   try clear hf2
                   try clear c3
                   try clear q3
                   try clear c4
                   try clear c4b0
                   try clear c4b1
                   try clear c5
                   try clear c5b0
                   try clear c5b1
                   try clear p5
                   try clear q5
                   try clear hx5
                   try clear hf5
                   try clear c6
                   try clear c6b0
                   try clear c6b1
                   try clear p6
                   try clear c7
                   try clear c7b0
                   try clear c7b1
                   try clear c10
                   try clear c17
                   try clear c17b0
                   try clear c18
                   try clear c18b0
                   try clear p18
                   try clear q18
                   try clear hx18
                   try clear c19
                   try clear c19b0
                   try clear p20
                   try clear q20
                   try clear hx20
                   try clear hf20
                   try clear c24
                   try clear c24b0
                   try clear c25
                   try clear c25b0
                   try clear p26
                   try clear q26
                   try clear hx26
                   try clear hf26
                   try clear c27
                   try clear c28
                   try clear c32
                   try clear c32b0
                   try clear c33
                   try clear c33b0
                   try clear c34
                   try clear c34b0
                   try clear c35
                   try clear c35b0
                   try clear q36
                   try clear c37
                   try clear c39
                   try clear c39b0
                   try clear c40
                   try clear c40b0
                   try clear c42
                   try clear c42b0
                   try clear c43
                   try clear c43b0
                   try clear c44
                   try clear c44b0
                   try clear c48
                   try clear c48b0
                   try clear c49
                   try clear c49b0
                   try clear c50
                   try clear c50b0
                   try clear p51
                   try clear q51
                   try clear hx51
                   try clear hf51
                   try clear c56
                   try clear c61
                   try clear c62
                   try clear p64
                   try clear hcz11_0
                   try clear hcz11_1
                   try clear hcz28_0
                   try clear hcz28_1
                   try clear hcz57_0
                   try clear hcz57_1
                   try clear hcz63_0
                   try clear hcz63_1
                   try clear hcz64_0
                   try clear hcz64_1
                   try clear hfz11_0
                   try clear hfz11_1
                   try clear hfz28_0
                   try clear hfz28_1
                   try clear hfz57_0
                   try clear hfz57_1
                   try clear hfz63_0
                   try clear hfz63_1
                   try clear hfz64_0
                   try clear hfz64_1
                   try clear hx184_0
                   try clear hx185_0
                   try clear hx186_0
                   try clear hx20_0
                   try clear hx26_0
                   try clear hx51_0
                   try clear p184
                   try clear p185
                   try clear p186
                   try clear p2
                   try clear p20
                   try clear p26
                   try clear p51
                   try clear p6
                   try clear q184
                   try clear q185
                   try clear q186
                   try clear q2
                   try clear q20
                   try clear q26
                   try clear q51
                   obtain ⟨x5_4,x82_4,rfl,HA,HK4,HO_5,HO_6,HO_80,HO_193000,BK173,BK174,BK192,HB⟩:=hrel;have hl5_4:=(Kd.R_reads' HO_5.out).1;rw[hl5_4] at HO_5
                   (try simp only[hl5_4])
                   (try simp only[hl5_4] at BK173)
                   (try simp only[hl5_4] at BK174)
                   (try simp only[hl5_4] at BK192)
                   (try simp only[hl5_4] at HO_6)
                   (try simp only[hl5_4] at HO_80)
                   (try simp only[hl5_4] at HO_193000)
                   have hl6_4:=(Kd.R_reads' HO_6.out).1;rw[hl6_4] at HO_6
                   (try simp only[hl6_4])
                   (try simp only[hl6_4] at BK173)
                   (try simp only[hl6_4] at BK174)
                   (try simp only[hl6_4] at BK192)
                   (try simp only[hl6_4] at HO_5)
                   (try simp only[hl6_4] at HO_80)
                   (try simp only[hl6_4] at HO_193000)
                   cases gk with
                   | zero=>exact absurd HA.out (by simp[spec_seFar.l3])
                   | succ k4 =>
                    have H:=HA.out;clear HA;simp only[spec_seFar.l3] at H;by_cases c67:x82_4 < (t193.length:Int)
                    ·
                     rw[if_pos c67] at H;have c67b0:decide (x82_4 < (t193.length:Int))=true:=dt' c67;clear c67;by_cases c68:0≤x82_4
                     ·
                      rw[if_pos c68] at H;have c68b0:decide (0≤x82_4)=true:=dt' c68;clear c68;by_cases c69:x82_4 < (t193.length:Int)
                      ·
                       rw[if_pos c69] at H;have c69b0:decide (x82_4 < (t193.length:Int))=true:=dt' c69;clear c69;replace H:=Option.bind_eq_some_iff.mp H;obtain ⟨⟨t197,t200⟩,A700,H⟩:=H;replace H:((spec_seIndex.f k4 t197 t200).bind fun t201=>(if 0≤x8_3 then (if x8_3 < (x5_4.length:Int) then ((spec_paTime.f k4 l0_0 a0_1 (rd_L2 t193 x82_4)).bind fun t203=>(if 0≤t201 then (if t201 < (x5_4.length:Int) then (if (rd x5_4 t201) < 0 then (spec_seFar.l3 k4 (x5_4.set (t201:Int).toNat (wrap64 ((rd x5_4 x8_3)+t203))) y187 x8_3 t193 (t193.length:Int) (wrap64 (x82_4+1)) l0_0 a0_1 t188 t191) else (if (wrap64 ((rd x5_4 x8_3)+t203)) < (rd x5_4 t201) then (spec_seFar.l3 k4 (x5_4.set (t201:Int).toNat (wrap64 ((rd x5_4 x8_3)+t203))) y187 x8_3 t193 (t193.length:Int) (wrap64 (x82_4+1)) l0_0 a0_1 t188 t191) else (spec_seFar.l3 k4 x5_4 y187 x8_3 t193 (t193.length:Int) (wrap64 (x82_4+1)) l0_0 a0_1 t188 t191))) else (none)) else (none))) else (none)) else (none)))=some r:=H;have A70:=am' A700;clear A700;replace H:=Option.bind_eq_some_iff.mp H;obtain ⟨t201,A710,H⟩:=H;replace H:(if 0≤x8_3 then (if x8_3 < (x5_4.length:Int) then ((spec_paTime.f k4 l0_0 a0_1 (rd_L2 t193 x82_4)).bind fun t203=>(if 0≤t201 then (if t201 < (x5_4.length:Int) then (if (rd x5_4 t201) < 0 then (spec_seFar.l3 k4 (x5_4.set (t201:Int).toNat (wrap64 ((rd x5_4 x8_3)+t203))) y187 x8_3 t193 (t193.length:Int) (wrap64 (x82_4+1)) l0_0 a0_1 t188 t191) else (if (wrap64 ((rd x5_4 x8_3)+t203)) < (rd x5_4 t201) then (spec_seFar.l3 k4 (x5_4.set (t201:Int).toNat (wrap64 ((rd x5_4 x8_3)+t203))) y187 x8_3 t193 (t193.length:Int) (wrap64 (x82_4+1)) l0_0 a0_1 t188 t191) else (spec_seFar.l3 k4 x5_4 y187 x8_3 t193 (t193.length:Int) (wrap64 (x82_4+1)) l0_0 a0_1 t188 t191))) else (none)) else (none))) else (none)) else (none))=some r:=H;have A71:=am' A710;clear A710;by_cases c72:0≤x8_3
                       ·
                        rw[if_pos c72] at H;have c72b0:decide (0≤x8_3)=true:=dt' c72;clear c72;by_cases c73:x8_3 < (x5_4.length:Int)
                        ·
                         rw[if_pos c73] at H;have c73b0:decide (x8_3 < (x5_4.length:Int))=true:=dt' c73;clear c73;replace H:=Option.bind_eq_some_iff.mp H;obtain ⟨t203,A740,H⟩:=H;replace H:(if 0≤t201 then (if t201 < (x5_4.length:Int) then (if (rd x5_4 t201) < 0 then (spec_seFar.l3 k4 (x5_4.set (t201:Int).toNat (wrap64 ((rd x5_4 x8_3)+t203))) y187 x8_3 t193 (t193.length:Int) (wrap64 (x82_4+1)) l0_0 a0_1 t188 t191) else (if (wrap64 ((rd x5_4 x8_3)+t203)) < (rd x5_4 t201) then (spec_seFar.l3 k4 (x5_4.set (t201:Int).toNat (wrap64 ((rd x5_4 x8_3)+t203))) y187 x8_3 t193 (t193.length:Int) (wrap64 (x82_4+1)) l0_0 a0_1 t188 t191) else (spec_seFar.l3 k4 x5_4 y187 x8_3 t193 (t193.length:Int) (wrap64 (x82_4+1)) l0_0 a0_1 t188 t191))) else (none)) else (none))=some r:=H;have A74:=am' A740;clear A740;by_cases c75:0≤t201
                         ·
                          rw[if_pos c75] at H;have c75b0:decide (0≤t201)=true:=dt' c75;clear c75;by_cases c76:t201 < (x5_4.length:Int)
                          ·
                           rw[if_pos c76] at H;have c76b0:decide (t201 < (x5_4.length:Int))=true:=dt' c76;clear c76;by_cases c77:(rd x5_4 t201) < 0
                           ·
                            rw[if_pos c77] at H;have c77b0:decide ((rd x5_4 t201) < 0)=true:=dt' c77;clear c77;obtain ⟨y205,hy205⟩:∃ y_:List Int,y_=(x5_4.set (t201:Int).toNat (wrap64 ((rd x5_4 x8_3)+t203))):=⟨_,rfl⟩
                            replace H:(spec_seFar.l3 k4 y205 y187 x8_3 t193 (t193.length:Int) (wrap64 (x82_4+1)) l0_0 a0_1 t188 t191)=some r:=by first|(rw[hy205];with_reducible exact H)|(have H2_:=(Option.bind_some _ _).symm.trans H;rw[hy205];with_reducible exact H2_)|(have H2_:=(Option.bind_some _ _).symm.trans H;with_reducible exact H2_)|with_reducible exact H|(rw[hy205];exact H)|exact H
                            have Ny205:=am' hy205;clear hy205;have H':=am' H;clear H;have p196:0≤(x82_4:Int):=od' xa';have q196:x82_4 < (t193.length:Int):=od' xa';obtain ⟨ad196,A196_0,c196_0,e196,hx196_0,hl196_0,hi196_0⟩:=at_L2 (Kd.N_reads' HO_80.out).2.2 x82_4 p196 q196;cases e196;obtain ⟨ce196,hce196,hMe196,hcc196⟩:=Kd.N_get HO_80.out [] x82_4 p196 (by first|exact q196|exact od' xa'|(have e_:=(Kd.N_reads' HO_80.out).1;omega));obtain ⟨ua196_0,uc196_0,rfl,ul196_0,ge196_0⟩:=Kd.FK_slice_open hMe196;have hv196_0:=hcc196 0 _ rfl;rw[Nat.add_zero,show ((Kd.slice 3 (Kd.int .i64))).sz=1 from rfl,Nat.mul_one] at hv196_0;replace hv196_0:=os' (hv196_0.symm.trans hx196_0);injection hv196_0 with hva_ hvn_ hvc_
                            rw[hva_] at ge196_0;rw[hvc_] at ul196_0;have HL196_0:=am' (show Kd.V (Kd.int .i64) 3 _ w.heap.size _ _ (rd_L2 t193 x82_4) from Kd.V_mk ul196_0 ge196_0);clear hva_ hvn_ hvc_ ge196_0 ul196_0;clear hcc196 hce196;have HR196_0:=am' hi196_0;have HC196_0:=am' hl196_0;clear hi196_0 hl196_0;replace p196:=eq_true p196;replace q196:=eq_true q196;have hnb79:=NB192_173.out;have hnc79:=NB173_192.out;have hnb80:=NB192_174.out;have hnc80:=NB174_192.out;have hcz81_0:wr.cell? ⟨gb192,0,none⟩=some (.slice Ao60 t188.length co60):=(bc' BK192.out 0).trans rfl;have hcz81_1:wr.cell? ⟨gb192,1,none⟩=some (.bool t191):=(bc' BK192.out 1).trans rfl;have hfz81_0:=bf' BK192.out 0;have hfz81_1:=bf' BK192.out 1
                            try go_wp2_with (first|((with_reducible refine gate_callee (f:=44) rfl ?_);refine goesL_ (some 88) rfl rfl Try.func44 xk' rfl #[.agg #[.slice Ao60 t188.length co60, .bool t191], .slice A196_0 (rd_L2 t193 x82_4).length c196_0] rfl xl' ?_;(with_reducible refine (spec_paCross.calls k4 _ _ t188 t191 _ _ (rd_L2 t193 x82_4) t197 t200 _ ?side1 ?side2 ?side3 ?side4 A70.out).mono ?_);(case side1=>exact kc' ((Kd.R_reads' HO_193000.out).2.2));(case side2=>exact (Kd.R_reads' HO_193000.out).2.1);(case side3=>exact kc' (kx' HR196_0.out));(case side4=>exact HC196_0.out);rintro e w82 ⟨v198,rfl,ho0,hb⟩;refine ⟨_,rfl,?_⟩;have n0_:=am' (rb' (kr' HO_5.out) hb);have n1_:=am' (Kd.R_elder' (kr' HO_6.out) (Kd.R_base ho0) hb);have n2_:=am' (Kd.N_elder' (kN' HO_80.out) (Kd.R_base ho0) hb);have n3_:=am' (Kd.R_elder' (kr' HO_193000.out) (Kd.R_base ho0) hb);have n4_:=am' (Kd.V_elder' (kV' HL196_0.out) (Kd.R_base ho0) hb);have n5_:=am' (Kd.R_lower (Kd.R_new' (Kd.R_new' ho0 (Kd.R_lt (kr' HO_6.out))) (Kd.R_lt (kr' HO_193000.out))) (bz' (y3' GE173.out GE174.out GE192.out)));have n6_:=am' (bb' (g:=gb173) (o := .cells #[.slice A0_0 l0_0.length c0_0, .int .i64 a0_1] 28 (0,0)) (kk' BK173.out) hb);have n7_:=am' (bb' (g:=gb174) (o := .cells #[.slice A1_0 l1_0.length c1_0, .bool a1_1] 54 (0,0)) (kk' BK174.out) hb);have n8_:=am' (bb' (g:=gb192) (o := .cells #[.slice Ao60 t188.length co60, .bool t191] 54 (0,0)) (kk' BK192.out) hb);have n9_:=am' (cb' (kx' HR196_0.out) hb);have n10_:=am' (bt' (y3' GE173.out GE174.out GE192.out) hb);clear HO_5;clear HO_6;clear HO_80;clear HO_193000;clear HL196_0;clear BK173;clear BK174;clear BK192;clear HR196_0;clear HB;have HO_5:=n0_;have HO_6:=n1_;have HO_80:=n2_;have HO_193000:=n3_;have HL196_0:=n4_;have HO199:=n5_;have BK173:=n6_;have BK174:=n7_;have BK192:=n8_;have HR196_0:=n9_;have HB:=n10_;clear n0_ n1_ n2_ n3_ n4_ n5_ n6_ n7_ n8_ n9_ n10_;(try clear hb);(try clear hb2);(try clear hk);(try clear hi);(try clear ho0);obtain ⟨Ao83,co83,eo83⟩:=Kd.R_slice HO199.out;subst eo83)|((with_reducible refine gate_callee (f:=40) rfl ?_);refine goesL_ (some 89) rfl rfl Try.func40 xk' rfl #[.agg #[.slice Ao83 t197.length co83, .bool t200]] rfl xl' ?_;(with_reducible refine (spec_seIndex.calls k4 _ _ t197 t200 t201 _ ?side1 ?side2 A71.out).mono ?_);(case side1=>exact kc' ((Kd.R_reads' HO199.out).2.2));(case side2=>exact (Kd.R_reads' HO199.out).2.1);rintro e w84 ⟨rfl,hb⟩;refine ⟨_,rfl,?_⟩;have n0_:=am' (rb' (kr' HO_5.out) hb);have n1_:=am' (rb' (kr' HO_6.out) hb);have n2_:=am' (Kd.N_below (kN' HO_80.out) hb);have n3_:=am' (rb' (kr' HO_193000.out) hb);have n4_:=am' (Kd.V_below (kV' HL196_0.out) hb);have n5_:=am' (rb' (kr' HO199.out) hb);have n6_:=am' (bb' (g:=gb173) (o := .cells #[.slice A0_0 l0_0.length c0_0, .int .i64 a0_1] 28 (0,0)) (kk' BK173.out) hb);have n7_:=am' (bb' (g:=gb174) (o := .cells #[.slice A1_0 l1_0.length c1_0, .bool a1_1] 54 (0,0)) (kk' BK174.out) hb);have n8_:=am' (bb' (g:=gb192) (o := .cells #[.slice Ao60 t188.length co60, .bool t191] 54 (0,0)) (kk' BK192.out) hb);have n9_:=am' (cb' (kx' HR196_0.out) hb);have n10_:=am' (bt' (y3' GE173.out GE174.out GE192.out) hb);clear HO_5;clear HO_6;clear HO_80;clear HO_193000;clear HL196_0;clear HO199;clear BK173;clear BK174;clear BK192;clear HR196_0;clear HB;have HO_5:=n0_;have HO_6:=n1_;have HO_80:=n2_;have HO_193000:=n3_;have HL196_0:=n4_;have HO199:=n5_;have BK173:=n6_;have BK174:=n7_;have BK192:=n8_;have HR196_0:=n9_;have HB:=n10_;clear n0_ n1_ n2_ n3_ n4_ n5_ n6_ n7_ n8_ n9_ n10_;(try clear hb);(try clear hb2);(try clear hk);(try clear hi)))
                            have n0_:=am' (rw' HO_5.out);have n1_:=am' (rw' HO_6.out);have n2_:=am' (Kd.N_drew HO_80.out);have n3_:=am' (rw' HO_193000.out);have n4_:=am' (Kd.V_drew HL196_0.out);have n5_:=am' (rw' HO199.out);have n6_:=am' (kd' BK173.out);have n7_:=am' (kd' BK174.out);have n8_:=am' (kd' BK192.out);have n9_:=am' (cd' HR196_0.out);have n10_:=am' (be' HB.out);clear HO_5;clear HO_6;clear HO_80;clear HO_193000;clear HL196_0;clear HO199;clear BK173;clear BK174;clear BK192;clear HR196_0;clear HB;have HO_5:=n0_;have HO_6:=n1_;have HO_80:=n2_;have HO_193000:=n3_;have HL196_0:=n4_;have HO199:=n5_;have BK173:=n6_;have BK174:=n7_;have BK192:=n8_;have HR196_0:=n9_;have HB:=n10_;clear n0_ n1_ n2_ n3_ n4_ n5_ n6_ n7_ n8_ n9_ n10_;have p202:0≤(x8_3:Int):=od' xa';have q202:x8_3 < (x5_4.length:Int):=od' xa';obtain ⟨ad202,e202,hx202_0⟩:=Kd.at_int (Kd.R_reads' HO_5.out).2.2 x8_3 p202 q202;obtain rfl:(⟨go26,0,none⟩:Addr)=ad202:=(by injection e202)
                            (first|simp only[add_plain] at hx202_0|simp only[add_at] at hx202_0|simp only[Addr.add,Nat.zero_add] at hx202_0|skip)
                            replace p202:=eq_true p202;replace q202:=eq_true q202;refine start_ (n:=9) (S:=fun w'=>w'.cell? ⟨gb173,0,none⟩=some (.slice A0_0 l0_0.length c0_0)∧w'.cell? ⟨gb173,1,none⟩=some (.int .i64 a0_1)∧w'.cell? ⟨go26,(x8_3).toNat,none⟩=some (.int .i64 (rd x5_4 x8_3))) (ds:=[]) #[false,false,false,false,false,false,false,false,false] xk' rfl rfl ⟨(bc' BK173.out 0).trans rfl,(bc' BK173.out 1).trans rfl,hx202_0⟩ (fun hHeld=>?_);refine with_tabW spec_seFar.tab24 spec_seFar.bits24 (fun HT_ HW_=>?_);generalize w84.drew=w85 at HO_5 HO_6 HO_80 HO_193000 HL196_0 HO199 BK173 BK174 BK192 HR196_0 HB hx202_0 hHeld ⊢
                            refine pure_ (i:=0) (N:=some 90) (v:=?_) (a':=?_) #[true,false,false,false,false,false,false,false,false] rfl rfl (any_of HT_.out xk') (fun _ _ _ h=>h) (Or.inl ⟨by rfl,?_⟩) ?_ ?_
                            rotate_left
                            ·
                             intro w';go_simp;with_reducible rfl
                            rotate_left
                            ·
                             simp only[Act.put,sa',sb',sc',i64_w,i32_w];rfl
                            refine pure_ (i:=1) (N:=some 91) (v:=?_) (a':=?_) #[true,true,false,false,false,false,false,false,false] rfl rfl (any_of HT_.out xk') (fun _ _ _ h=>h) (Or.inl ⟨by rfl,?_⟩) ?_ ?_
                            rotate_left
                            ·
                             intro w';go_simp;with_reducible rfl
                            rotate_left
                            ·
                             simp only[Act.put,sa',sb',sc',i64_w,i32_w];rfl
                            refine pure_ (i:=2) (N:=some 92) (v:=?_) (a':=?_) #[true,true,true,false,false,false,false,false,false] rfl rfl (any_of HT_.out xk') (fun _ _ _ h=>h) (Or.inl ⟨by rfl,?_⟩) ?_ ?_
                            rotate_left
                            ·
                             intro w';go_simp;with_reducible rfl
                            rotate_left
                            ·
                             simp only[Act.put,sa',sb',sc',i64_w,i32_w];rfl
                            refine pure_ (i:=5) (N:=some 95) (v:=?_) (a':=?_) #[true,true,true,false,false,true,false,false,false] rfl rfl (any_of HT_.out xk') (fun _ _ _ h=>h) (Or.inl ⟨by rfl,?_⟩) ?_ ?_
                            rotate_left
                            ·
                             intro w';go_simp;with_reducible rfl
                            rotate_left
                            ·
                             simp only[Act.put,sa',sb',sc',i64_w,i32_w];rfl
                            refine take_ (i:=3) (N:=some 93) (v:=?_) (a':=?_) #[true,true,true,true,false,true,false,false,false] rfl rfl (take_ofW HT_.out HW_.out xk') (fun _ _ _ h=>h) (Or.inl ⟨by rfl,?_⟩) hHeld ?_ ?_
                            rotate_left
                            ·
                             rintro w' ⟨s0,s1,s2⟩
                             go_simp;with_reducible rfl
                            rotate_left
                            ·
                             simp only[Act.put,sa',sb',sc',i64_w,i32_w];rfl
                            refine take_ (i:=4) (N:=some 94) (v:=?_) (a':=?_) #[true,true,true,true,true,true,false,false,false] rfl rfl (take_ofW HT_.out HW_.out xk') (fun _ _ _ h=>h) (Or.inl ⟨by rfl,?_⟩) hHeld ?_ ?_
                            rotate_left
                            ·
                             rintro w' ⟨s0,s1,s2⟩
                             go_simp;with_reducible rfl
                            rotate_left
                            ·
                             simp only[Act.put,sa',sb',sc',i64_w,i32_w];rfl
                            refine one_ (i:=6) (N:=some 96) #[true,true,true,true,true,true,true,false,false] rfl rfl (one_of HT_.out xk') (by decide) (fun K hK=>?_);refine goes_ Try.func51 xk' rfl #[.agg #[.slice A0_0 l0_0.length c0_0, .int .i64 a0_1], .slice A196_0 (rd_L2 t193 x82_4).length c196_0] (by rfl) rfl rfl xl' ?_
                            with_reducible refine (spec_paTime.calls k4 _ _ l0_0 a0_1 _ _ (rd_L2 t193 x82_4) t203 _ ?side1 ?side2 ?side3 ?side4 A74.out).mono ?_
                            (case side1=>exact kc' (cb' HR0_0.out HB.out))
                            (case side2=>exact HC0_0.out)
                            (case side3=>exact kc' (kx' HR196_0.out))
                            (case side4=>exact HC196_0.out)
                            rintro e w86 ⟨rfl,hb⟩
                            have HS2_:=(hb.cell (bl' _ _ (hHeld.2.2))).trans (hHeld.2.2);refine ⟨_,rfl,?_⟩;have n0_:=am' (rb' (kr' HO_5.out) hb);have n1_:=am' (rb' (kr' HO_6.out) hb);have n2_:=am' (Kd.N_below (kN' HO_80.out) hb);have n3_:=am' (rb' (kr' HO_193000.out) hb);have n4_:=am' (Kd.V_below (kV' HL196_0.out) hb);have n5_:=am' (rb' (kr' HO199.out) hb);have n6_:=am' (bb' (g:=gb173) (o := .cells #[.slice A0_0 l0_0.length c0_0, .int .i64 a0_1] 28 (0,0)) (kk' BK173.out) hb);have n7_:=am' (bb' (g:=gb174) (o := .cells #[.slice A1_0 l1_0.length c1_0, .bool a1_1] 54 (0,0)) (kk' BK174.out) hb);have n8_:=am' (bb' (g:=gb192) (o := .cells #[.slice Ao60 t188.length co60, .bool t191] 54 (0,0)) (kk' BK192.out) hb);have n9_:=am' (cb' (kx' HR196_0.out) hb);have n10_:=am' (bt' (y3' GE173.out GE174.out GE192.out) hb);clear HO_5;clear HO_6;clear HO_80;clear HO_193000;clear HL196_0;clear HO199;clear BK173;clear BK174;clear BK192;clear HR196_0;clear HB;have HO_5:=n0_;have HO_6:=n1_;have HO_80:=n2_;have HO_193000:=n3_;have HL196_0:=n4_;have HO199:=n5_;have BK173:=n6_;have BK174:=n7_;have BK192:=n8_;have HR196_0:=n9_;have HB:=n10_;clear n0_ n1_ n2_ n3_ n4_ n5_ n6_ n7_ n8_ n9_ n10_
                            (try clear hb)
                            (try clear hb2)
                            (try clear hk)
                            (try clear hi)
                            refine hK.out _ _ ⟨(bc' BK173.out 0).trans rfl,(bc' BK173.out 1).trans rfl,HS2_⟩ (fun hHeld=>?_);clear hK K;refine norm_ (a':=?_) ?_ ?_
                            rotate_left
                            ·
                             show Act.put _ (some 96) _=_
                             simp only[Act.put,sa',sb',sc',i64_w,i32_w];rfl
                            refine pure_ (i:=7) (N:=some 97) (v:=?_) (a':=?_) #[true,true,true,true,true,true,true,true,false] rfl rfl (any_of HT_.out xk') (fun _ _ _ h=>h) (Or.inl ⟨by rfl,?_⟩) ?_ ?_
                            rotate_left
                            ·
                             intro w';go_simp;with_reducible rfl
                            rotate_left
                            ·
                             simp only[Act.put,sa',sb',sc',i64_w,i32_w];rfl
                            refine pure_ (i:=8) (N:=some 15) (v:=?_) (a':=?_) #[true,true,true,true,true,true,true,true,true] rfl rfl (any_of HT_.out xk') (fun _ _ _ h=>h) (Or.inl ⟨by rfl,?_⟩) ?_ ?_
                            rotate_left
                            ·
                             intro w';go_simp;with_reducible rfl
                            rotate_left
                            ·
                             simp only[Act.put,sa',sb',sc',i64_w,i32_w];rfl
                            refine done_ (done_of HT_.out xk') ?_
                            have p204:0≤(t201:Int):=od' xa';have q204:t201 < (x5_4.length:Int):=od' xa';obtain ⟨ad204,e204,hx204_0⟩:=Kd.at_int (Kd.R_reads' HO_5.out).2.2 t201 p204 q204;obtain rfl:(⟨go26,0,none⟩:Addr)=ad204:=(by injection e204)
                            (first|simp only[add_plain] at hx204_0|simp only[add_at] at hx204_0|simp only[Addr.add,Nat.zero_add] at hx204_0|skip)
                            replace p204:=eq_true p204;replace q204:=eq_true q204;have p78:0≤(t201:Int):=od' xa';have q78:(t201:Int) < ((x5_4.length:Int):Int):=od' xa';obtain ⟨hx78_0,hf78_0⟩:=Kd.R_celln 0 HO_5.out (t201:Int) p78 q78;replace p78:=eq_true p78;replace q78:=eq_true q78;obtain ⟨hy87_,hz87_⟩:=Kd.R_celln 0 HO_5.out (t201:Int) (od' xa') (od' xa');have HP87:=Kd.R_putg HO_5.out (t201:Int) (wrap64 ((rd x5_4 x8_3)+t203))
                            try go_wp2_with (first|((with_reducible refine gate_store (t:=3) (p:=114) rfl ?_);refine store_event (t:=3) (p:=114) (v:=?vo_w88) (w1:=(w86.setCell ⟨go26,(t201:Int).toNat,none⟩ (.int .i64 (wrap64 ((rd x5_4 x8_3)+t203))))) ?hg ?ho ?hn ?hr ?_;(case ho=>rfl);(case hg=>rfl);(case hn=>rfl);(case hr=>first|(go_simp;done)|(go_simp;rfl));intro w88 hw;have hg:w86.grownBy w88 (some go26):=(by rw[hw];exact HP87.2);have hp_:Kd.R (Kd.int .i64) 3 w88 w.heap.size (fun _=>True) (.slice (some ⟨go26,0,none⟩) x5_4.length co14) y205:=(by rw[hw,Ny205.out];exact HP87.1);clear HP87;have n0_:=am' (hp_);have n1_:=am' (Kd.R_over' (v:=(.slice (some ⟨go26,0,none⟩) x5_4.length co14)) (kr' HO_6.out) (Kd.R_typed HO_5.out) (by decide) hg);have n2_:=am' (Kd.N_afterv (v:=(.slice (some ⟨go26,0,none⟩) x5_4.length co14)) (v1:=(.slice (some ⟨go26,0,none⟩) x5_4.length co14)) (ok:=(fun k_=>some k_≠(.slice (some ⟨go51,0,none⟩) y187.length co51:Value).ownBlock∧some k_≠(.slice Ao60 t188.length co60:Value).ownBlock∧some k_≠(.slice Ao83 t197.length co83:Value).ownBlock∧k_≠gb173∧k_≠gb174∧k_≠gb192)) (by (with_reducible repeat (first|apply Kd.N_alloc|apply Kd.N_drewN|apply Kd.N_drew));exact Kd.N_mono HO_80.out (fun _ hk=>⟨⟨hk.1.2.1,⟨hk.1.2.2.1,⟨hk.2,⟨hk.1.2.2.2.1,⟨hk.1.2.2.2.2.1,hk.1.2.2.2.2.2⟩⟩⟩⟩⟩,hk.1.1⟩)) hg (.inl rfl));have n3_:=am' (Kd.R_over' (v:=(.slice (some ⟨go26,0,none⟩) x5_4.length co14)) (kr' HO_193000.out) (Kd.R_typed HO_5.out) (by decide) hg);have n4_:=am' (blk_grown (g:=gb173) (o := .cells #[.slice A0_0 l0_0.length c0_0, .int .i64 a0_1] 28 (0,0)) (kk' BK173.out) hg (Kd.R_ne HO_5.out BK173.out (by decide)));have n5_:=am' (blk_grown (g:=gb174) (o := .cells #[.slice A1_0 l1_0.length c1_0, .bool a1_1] 54 (0,0)) (kk' BK174.out) hg (Kd.R_ne HO_5.out BK174.out (by decide)));have n6_:=am' (blk_grown (g:=gb192) (o := .cells #[.slice Ao60 t188.length co60, .bool t191] 54 (0,0)) (kk' BK192.out) hg (Kd.R_ne HO_5.out BK192.out (by decide)));have n7_:=am' (Kd.V_afterv (v:=(.slice (some ⟨go26,0,none⟩) x5_4.length co14)) (v1:=(.slice (some ⟨go26,0,none⟩) x5_4.length co14)) (ok:=(fun k_=>some k_≠(.slice (some ⟨go51,0,none⟩) y187.length co51:Value).ownBlock∧some k_≠(.slice (some ad196) t193.length co66:Value).ownBlock∧some k_≠(.slice Ao60 t188.length co60:Value).ownBlock∧some k_≠(.slice Ao83 t197.length co83:Value).ownBlock∧k_≠gb173∧k_≠gb174∧k_≠gb192)) (by (with_reducible repeat (first|apply Kd.V_alloc|apply Kd.V_drewN|apply Kd.V_drew));exact Kd.V_mono HL196_0.out (fun _ hk=>⟨⟨hk.1.1.2.1,⟨hk.1.2,⟨hk.1.1.2.2.1,⟨hk.2,⟨hk.1.1.2.2.2.1,⟨hk.1.1.2.2.2.2.1,hk.1.1.2.2.2.2.2⟩⟩⟩⟩⟩⟩,hk.1.1.1⟩)) hg (.inl rfl));have n8_:=am' (Kd.R_over' (v:=(.slice (some ⟨go26,0,none⟩) x5_4.length co14)) (kr' HO199.out) (Kd.R_typed HO_5.out) (by decide) hg);have n9_:=am' ((by rw[hw];exact bs' (HB.out) GB26.out:Below w.heap.size w w88));clear HO_5;clear HO_6;clear HO_80;clear HO_193000;clear BK173;clear BK174;clear BK192;clear HL196_0;clear HO199;clear HB;have HO_5:=n0_;have HO_6:=n1_;have HO_80:=n2_;have HO_193000:=n3_;have BK173:=n4_;have BK174:=n5_;have BK192:=n6_;have HL196_0:=n7_;have HO199:=n8_;have HB:=n9_;clear n0_ n1_ n2_ n3_ n4_ n5_ n6_ n7_ n8_ n9_;clear hg hw hp_))
                            (try simp only[← hl5_4,← hl6_4])
                            go_roundg k4
                            case measure=>have:=HK1.out;have:=HK2.out;have:=HK3.out;have:=HK4.out;omega
                            case rel=>exact ⟨(y205),(wrap64 (x82_4+1)),xs',H',⟨by have:=HK1.out;have:=HK2.out;have:=HK3.out;have:=HK4.out;omega⟩,⟨by (try simp only[hl5_1]);(try simp only[hl5_2]);(try simp only[hl5_4]);(try simp only[hl6_4]);(with_reducible repeat (first|apply ra'|apply rn'|apply rw'));exact HO_5.out⟩,⟨by (try simp only[hl5_1]);(try simp only[hl5_2]);(try simp only[hl5_4]);(try simp only[hl6_4]);(with_reducible repeat (first|apply ra'|apply rn'|apply rw'));exact Kd.R_mono HO_6.out (fun _ hk=>hk.1)⟩,⟨by (try simp only[hl5_1]);(try simp only[hl5_2]);(try simp only[hl5_4]);(try simp only[hl6_4]);(with_reducible repeat (first|apply Kd.N_alloc|apply Kd.N_drewN|apply Kd.N_drew));exact Kd.N_mono HO_80.out (fun _ hk=>⟨hk.2,⟨hk.1.1,⟨hk.1.2.1,⟨hk.1.2.2.2.1,⟨hk.1.2.2.2.2.1,hk.1.2.2.2.2.2⟩⟩⟩⟩⟩)⟩,⟨by (try simp only[hl5_1]);(try simp only[hl5_2]);(try simp only[hl5_4]);(try simp only[hl6_4]);(with_reducible repeat (first|apply ra'|apply rn'|apply rw'));exact Kd.R_mono HO_193000.out (fun _ hk=>hk.1)⟩,⟨by (try simp only[hl5_1]);(try simp only[hl5_2]);(try simp only[hl5_4]);(try simp only[hl6_4]);(with_reducible repeat (first|refine kn' ?_ _|refine kd' ?_|refine ka' ?_ _));exact BK173.out⟩,⟨by (try simp only[hl5_1]);(try simp only[hl5_2]);(try simp only[hl5_4]);(try simp only[hl6_4]);(with_reducible repeat (first|refine kn' ?_ _|refine kd' ?_|refine ka' ?_ _));exact BK174.out⟩,⟨by (try simp only[hl5_1]);(try simp only[hl5_2]);(try simp only[hl5_4]);(try simp only[hl6_4]);(with_reducible repeat (first|refine kn' ?_ _|refine kd' ?_|refine ka' ?_ _));exact BK192.out⟩,⟨y3' GE173.out GE174.out GE192.out⟩⟩
                           ·
                            rw[if_neg c77] at H;have c77b0:decide ((rd x5_4 t201) < 0)=false:=df' c77;clear c77;by_cases c89:(wrap64 ((rd x5_4 x8_3)+t203)) < (rd x5_4 t201)
                            ·
                             rw[if_pos c89] at H;have c89b0:decide ((wrap64 ((rd x5_4 x8_3)+t203)) < (rd x5_4 t201))=true:=dt' c89;clear c89;obtain ⟨y207,hy207⟩:∃ y_:List Int,y_=(x5_4.set (t201:Int).toNat (wrap64 ((rd x5_4 x8_3)+t203))):=⟨_,rfl⟩
                             replace H:(spec_seFar.l3 k4 y207 y187 x8_3 t193 (t193.length:Int) (wrap64 (x82_4+1)) l0_0 a0_1 t188 t191)=some r:=by first|(rw[hy207];with_reducible exact H)|(have H2_:=(Option.bind_some _ _).symm.trans H;rw[hy207];with_reducible exact H2_)|(have H2_:=(Option.bind_some _ _).symm.trans H;with_reducible exact H2_)|with_reducible exact H|(rw[hy207];exact H)|exact H
                             have Ny207:=am' hy207;clear hy207;have H':=am' H;clear H;have p196:0≤(x82_4:Int):=od' xa';have q196:x82_4 < (t193.length:Int):=od' xa';obtain ⟨ad196,A196_0,c196_0,e196,hx196_0,hl196_0,hi196_0⟩:=at_L2 (Kd.N_reads' HO_80.out).2.2 x82_4 p196 q196;cases e196;obtain ⟨ce196,hce196,hMe196,hcc196⟩:=Kd.N_get HO_80.out [] x82_4 p196 (by first|exact q196|exact od' xa'|(have e_:=(Kd.N_reads' HO_80.out).1;omega));obtain ⟨ua196_0,uc196_0,rfl,ul196_0,ge196_0⟩:=Kd.FK_slice_open hMe196;have hv196_0:=hcc196 0 _ rfl;rw[Nat.add_zero,show ((Kd.slice 3 (Kd.int .i64))).sz=1 from rfl,Nat.mul_one] at hv196_0;replace hv196_0:=os' (hv196_0.symm.trans hx196_0);injection hv196_0 with hva_ hvn_ hvc_
                             rw[hva_] at ge196_0;rw[hvc_] at ul196_0;have HL196_0:=am' (show Kd.V (Kd.int .i64) 3 _ w.heap.size _ _ (rd_L2 t193 x82_4) from Kd.V_mk ul196_0 ge196_0);clear hva_ hvn_ hvc_ ge196_0 ul196_0;clear hcc196 hce196;have HR196_0:=am' hi196_0;have HC196_0:=am' hl196_0;clear hi196_0 hl196_0;replace p196:=eq_true p196;replace q196:=eq_true q196;have hnb91:=NB192_173.out;have hnc91:=NB173_192.out;have hnb92:=NB192_174.out;have hnc92:=NB174_192.out;have hcz93_0:wr.cell? ⟨gb192,0,none⟩=some (.slice Ao60 t188.length co60):=(bc' BK192.out 0).trans rfl;have hcz93_1:wr.cell? ⟨gb192,1,none⟩=some (.bool t191):=(bc' BK192.out 1).trans rfl;have hfz93_0:=bf' BK192.out 0;have hfz93_1:=bf' BK192.out 1
                             try go_wp2_with (first|((with_reducible refine gate_callee (f:=44) rfl ?_);refine goesL_ (some 88) rfl rfl Try.func44 xk' rfl #[.agg #[.slice Ao60 t188.length co60, .bool t191], .slice A196_0 (rd_L2 t193 x82_4).length c196_0] rfl xl' ?_;(with_reducible refine (spec_paCross.calls k4 _ _ t188 t191 _ _ (rd_L2 t193 x82_4) t197 t200 _ ?side1 ?side2 ?side3 ?side4 A70.out).mono ?_);(case side1=>exact kc' ((Kd.R_reads' HO_193000.out).2.2));(case side2=>exact (Kd.R_reads' HO_193000.out).2.1);(case side3=>exact kc' (kx' HR196_0.out));(case side4=>exact HC196_0.out);rintro e w94 ⟨v198,rfl,ho0,hb⟩;refine ⟨_,rfl,?_⟩;have n0_:=am' (rb' (kr' HO_5.out) hb);have n1_:=am' (Kd.R_elder' (kr' HO_6.out) (Kd.R_base ho0) hb);have n2_:=am' (Kd.N_elder' (kN' HO_80.out) (Kd.R_base ho0) hb);have n3_:=am' (Kd.R_elder' (kr' HO_193000.out) (Kd.R_base ho0) hb);have n4_:=am' (Kd.V_elder' (kV' HL196_0.out) (Kd.R_base ho0) hb);have n5_:=am' (Kd.R_lower (Kd.R_new' (Kd.R_new' ho0 (Kd.R_lt (kr' HO_6.out))) (Kd.R_lt (kr' HO_193000.out))) (bz' (y3' GE173.out GE174.out GE192.out)));have n6_:=am' (bb' (g:=gb173) (o := .cells #[.slice A0_0 l0_0.length c0_0, .int .i64 a0_1] 28 (0,0)) (kk' BK173.out) hb);have n7_:=am' (bb' (g:=gb174) (o := .cells #[.slice A1_0 l1_0.length c1_0, .bool a1_1] 54 (0,0)) (kk' BK174.out) hb);have n8_:=am' (bb' (g:=gb192) (o := .cells #[.slice Ao60 t188.length co60, .bool t191] 54 (0,0)) (kk' BK192.out) hb);have n9_:=am' (cb' (kx' HR196_0.out) hb);have n10_:=am' (bt' (y3' GE173.out GE174.out GE192.out) hb);clear HO_5;clear HO_6;clear HO_80;clear HO_193000;clear HL196_0;clear BK173;clear BK174;clear BK192;clear HR196_0;clear HB;have HO_5:=n0_;have HO_6:=n1_;have HO_80:=n2_;have HO_193000:=n3_;have HL196_0:=n4_;have HO199:=n5_;have BK173:=n6_;have BK174:=n7_;have BK192:=n8_;have HR196_0:=n9_;have HB:=n10_;clear n0_ n1_ n2_ n3_ n4_ n5_ n6_ n7_ n8_ n9_ n10_;(try clear hb);(try clear hb2);(try clear hk);(try clear hi);(try clear ho0);obtain ⟨Ao95,co95,eo95⟩:=Kd.R_slice HO199.out;subst eo95)|((with_reducible refine gate_callee (f:=40) rfl ?_);refine goesL_ (some 89) rfl rfl Try.func40 xk' rfl #[.agg #[.slice Ao95 t197.length co95, .bool t200]] rfl xl' ?_;(with_reducible refine (spec_seIndex.calls k4 _ _ t197 t200 t201 _ ?side1 ?side2 A71.out).mono ?_);(case side1=>exact kc' ((Kd.R_reads' HO199.out).2.2));(case side2=>exact (Kd.R_reads' HO199.out).2.1);rintro e w96 ⟨rfl,hb⟩;refine ⟨_,rfl,?_⟩;have n0_:=am' (rb' (kr' HO_5.out) hb);have n1_:=am' (rb' (kr' HO_6.out) hb);have n2_:=am' (Kd.N_below (kN' HO_80.out) hb);have n3_:=am' (rb' (kr' HO_193000.out) hb);have n4_:=am' (Kd.V_below (kV' HL196_0.out) hb);have n5_:=am' (rb' (kr' HO199.out) hb);have n6_:=am' (bb' (g:=gb173) (o := .cells #[.slice A0_0 l0_0.length c0_0, .int .i64 a0_1] 28 (0,0)) (kk' BK173.out) hb);have n7_:=am' (bb' (g:=gb174) (o := .cells #[.slice A1_0 l1_0.length c1_0, .bool a1_1] 54 (0,0)) (kk' BK174.out) hb);have n8_:=am' (bb' (g:=gb192) (o := .cells #[.slice Ao60 t188.length co60, .bool t191] 54 (0,0)) (kk' BK192.out) hb);have n9_:=am' (cb' (kx' HR196_0.out) hb);have n10_:=am' (bt' (y3' GE173.out GE174.out GE192.out) hb);clear HO_5;clear HO_6;clear HO_80;clear HO_193000;clear HL196_0;clear HO199;clear BK173;clear BK174;clear BK192;clear HR196_0;clear HB;have HO_5:=n0_;have HO_6:=n1_;have HO_80:=n2_;have HO_193000:=n3_;have HL196_0:=n4_;have HO199:=n5_;have BK173:=n6_;have BK174:=n7_;have BK192:=n8_;have HR196_0:=n9_;have HB:=n10_;clear n0_ n1_ n2_ n3_ n4_ n5_ n6_ n7_ n8_ n9_ n10_;(try clear hb);(try clear hb2);(try clear hk);(try clear hi)))
                             have n0_:=am' (rw' HO_5.out);have n1_:=am' (rw' HO_6.out);have n2_:=am' (Kd.N_drew HO_80.out);have n3_:=am' (rw' HO_193000.out);have n4_:=am' (Kd.V_drew HL196_0.out);have n5_:=am' (rw' HO199.out);have n6_:=am' (kd' BK173.out);have n7_:=am' (kd' BK174.out);have n8_:=am' (kd' BK192.out);have n9_:=am' (cd' HR196_0.out);have n10_:=am' (be' HB.out);clear HO_5;clear HO_6;clear HO_80;clear HO_193000;clear HL196_0;clear HO199;clear BK173;clear BK174;clear BK192;clear HR196_0;clear HB;have HO_5:=n0_;have HO_6:=n1_;have HO_80:=n2_;have HO_193000:=n3_;have HL196_0:=n4_;have HO199:=n5_;have BK173:=n6_;have BK174:=n7_;have BK192:=n8_;have HR196_0:=n9_;have HB:=n10_;clear n0_ n1_ n2_ n3_ n4_ n5_ n6_ n7_ n8_ n9_ n10_;have p202:0≤(x8_3:Int):=od' xa';have q202:x8_3 < (x5_4.length:Int):=od' xa';obtain ⟨ad202,e202,hx202_0⟩:=Kd.at_int (Kd.R_reads' HO_5.out).2.2 x8_3 p202 q202;obtain rfl:(⟨go26,0,none⟩:Addr)=ad202:=(by injection e202)
                             (first|simp only[add_plain] at hx202_0|simp only[add_at] at hx202_0|simp only[Addr.add,Nat.zero_add] at hx202_0|skip)
                             replace p202:=eq_true p202;replace q202:=eq_true q202;refine start_ (n:=9) (S:=fun w'=>w'.cell? ⟨gb173,0,none⟩=some (.slice A0_0 l0_0.length c0_0)∧w'.cell? ⟨gb173,1,none⟩=some (.int .i64 a0_1)∧w'.cell? ⟨go26,(x8_3).toNat,none⟩=some (.int .i64 (rd x5_4 x8_3))) (ds:=[]) #[false,false,false,false,false,false,false,false,false] xk' rfl rfl ⟨(bc' BK173.out 0).trans rfl,(bc' BK173.out 1).trans rfl,hx202_0⟩ (fun hHeld=>?_);refine with_tabW spec_seFar.tab24 spec_seFar.bits24 (fun HT_ HW_=>?_);generalize w96.drew=w97 at HO_5 HO_6 HO_80 HO_193000 HL196_0 HO199 BK173 BK174 BK192 HR196_0 HB hx202_0 hHeld ⊢
                             refine pure_ (i:=0) (N:=some 90) (v:=?_) (a':=?_) #[true,false,false,false,false,false,false,false,false] rfl rfl (any_of HT_.out xk') (fun _ _ _ h=>h) (Or.inl ⟨by rfl,?_⟩) ?_ ?_
                             rotate_left
                             ·
                              intro w';go_simp;with_reducible rfl
                             rotate_left
                             ·
                              simp only[Act.put,sa',sb',sc',i64_w,i32_w];rfl
                             refine pure_ (i:=1) (N:=some 91) (v:=?_) (a':=?_) #[true,true,false,false,false,false,false,false,false] rfl rfl (any_of HT_.out xk') (fun _ _ _ h=>h) (Or.inl ⟨by rfl,?_⟩) ?_ ?_
                             rotate_left
                             ·
                              intro w';go_simp;with_reducible rfl
                             rotate_left
                             ·
                              simp only[Act.put,sa',sb',sc',i64_w,i32_w];rfl
                             refine pure_ (i:=2) (N:=some 92) (v:=?_) (a':=?_) #[true,true,true,false,false,false,false,false,false] rfl rfl (any_of HT_.out xk') (fun _ _ _ h=>h) (Or.inl ⟨by rfl,?_⟩) ?_ ?_
                             rotate_left
                             ·
                              intro w';go_simp;with_reducible rfl
                             rotate_left
                             ·
                              simp only[Act.put,sa',sb',sc',i64_w,i32_w];rfl
                             refine pure_ (i:=5) (N:=some 95) (v:=?_) (a':=?_) #[true,true,true,false,false,true,false,false,false] rfl rfl (any_of HT_.out xk') (fun _ _ _ h=>h) (Or.inl ⟨by rfl,?_⟩) ?_ ?_
                             rotate_left
                             ·
                              intro w';go_simp;with_reducible rfl
                             rotate_left
                             ·
                              simp only[Act.put,sa',sb',sc',i64_w,i32_w];rfl
                             refine take_ (i:=3) (N:=some 93) (v:=?_) (a':=?_) #[true,true,true,true,false,true,false,false,false] rfl rfl (take_ofW HT_.out HW_.out xk') (fun _ _ _ h=>h) (Or.inl ⟨by rfl,?_⟩) hHeld ?_ ?_
                             rotate_left
                             ·
                              rintro w' ⟨s0,s1,s2⟩
                              go_simp;with_reducible rfl
                             rotate_left
                             ·
                              simp only[Act.put,sa',sb',sc',i64_w,i32_w];rfl
                             refine take_ (i:=4) (N:=some 94) (v:=?_) (a':=?_) #[true,true,true,true,true,true,false,false,false] rfl rfl (take_ofW HT_.out HW_.out xk') (fun _ _ _ h=>h) (Or.inl ⟨by rfl,?_⟩) hHeld ?_ ?_
                             rotate_left
                             ·
                              rintro w' ⟨s0,s1,s2⟩
                              go_simp;with_reducible rfl
                             rotate_left
                             ·
                              simp only[Act.put,sa',sb',sc',i64_w,i32_w];rfl
                             refine one_ (i:=6) (N:=some 96) #[true,true,true,true,true,true,true,false,false] rfl rfl (one_of HT_.out xk') (by decide) (fun K hK=>?_);refine goes_ Try.func51 xk' rfl #[.agg #[.slice A0_0 l0_0.length c0_0, .int .i64 a0_1], .slice A196_0 (rd_L2 t193 x82_4).length c196_0] (by rfl) rfl rfl xl' ?_
                             with_reducible refine (spec_paTime.calls k4 _ _ l0_0 a0_1 _ _ (rd_L2 t193 x82_4) t203 _ ?side1 ?side2 ?side3 ?side4 A74.out).mono ?_
                             (case side1=>exact kc' (cb' HR0_0.out HB.out))
                             (case side2=>exact HC0_0.out)
                             (case side3=>exact kc' (kx' HR196_0.out))
                             (case side4=>exact HC196_0.out)
                             rintro e w98 ⟨rfl,hb⟩
                             have HS2_:=(hb.cell (bl' _ _ (hHeld.2.2))).trans (hHeld.2.2);refine ⟨_,rfl,?_⟩;have n0_:=am' (rb' (kr' HO_5.out) hb);have n1_:=am' (rb' (kr' HO_6.out) hb);have n2_:=am' (Kd.N_below (kN' HO_80.out) hb);have n3_:=am' (rb' (kr' HO_193000.out) hb);have n4_:=am' (Kd.V_below (kV' HL196_0.out) hb);have n5_:=am' (rb' (kr' HO199.out) hb);have n6_:=am' (bb' (g:=gb173) (o := .cells #[.slice A0_0 l0_0.length c0_0, .int .i64 a0_1] 28 (0,0)) (kk' BK173.out) hb);have n7_:=am' (bb' (g:=gb174) (o := .cells #[.slice A1_0 l1_0.length c1_0, .bool a1_1] 54 (0,0)) (kk' BK174.out) hb);have n8_:=am' (bb' (g:=gb192) (o := .cells #[.slice Ao60 t188.length co60, .bool t191] 54 (0,0)) (kk' BK192.out) hb);have n9_:=am' (cb' (kx' HR196_0.out) hb);have n10_:=am' (bt' (y3' GE173.out GE174.out GE192.out) hb);clear HO_5;clear HO_6;clear HO_80;clear HO_193000;clear HL196_0;clear HO199;clear BK173;clear BK174;clear BK192;clear HR196_0;clear HB;have HO_5:=n0_;have HO_6:=n1_;have HO_80:=n2_;have HO_193000:=n3_;have HL196_0:=n4_;have HO199:=n5_;have BK173:=n6_;have BK174:=n7_;have BK192:=n8_;have HR196_0:=n9_;have HB:=n10_;clear n0_ n1_ n2_ n3_ n4_ n5_ n6_ n7_ n8_ n9_ n10_
                             (try clear hb)
                             (try clear hb2)
                             (try clear hk)
                             (try clear hi)
                             refine hK.out _ _ ⟨(bc' BK173.out 0).trans rfl,(bc' BK173.out 1).trans rfl,HS2_⟩ (fun hHeld=>?_);clear hK K;refine norm_ (a':=?_) ?_ ?_
                             rotate_left
                             ·
                              show Act.put _ (some 96) _=_
                              simp only[Act.put,sa',sb',sc',i64_w,i32_w];rfl
                             refine pure_ (i:=7) (N:=some 97) (v:=?_) (a':=?_) #[true,true,true,true,true,true,true,true,false] rfl rfl (any_of HT_.out xk') (fun _ _ _ h=>h) (Or.inl ⟨by rfl,?_⟩) ?_ ?_
                             rotate_left
                             ·
                              intro w';go_simp;with_reducible rfl
                             rotate_left
                             ·
                              simp only[Act.put,sa',sb',sc',i64_w,i32_w];rfl
                             refine pure_ (i:=8) (N:=some 15) (v:=?_) (a':=?_) #[true,true,true,true,true,true,true,true,true] rfl rfl (any_of HT_.out xk') (fun _ _ _ h=>h) (Or.inl ⟨by rfl,?_⟩) ?_ ?_
                             rotate_left
                             ·
                              intro w';go_simp;with_reducible rfl
                             rotate_left
                             ·
                              simp only[Act.put,sa',sb',sc',i64_w,i32_w];rfl
                             refine done_ (done_of HT_.out xk') ?_
                             have p204:0≤(t201:Int):=od' xa';have q204:t201 < (x5_4.length:Int):=od' xa';obtain ⟨ad204,e204,hx204_0⟩:=Kd.at_int (Kd.R_reads' HO_5.out).2.2 t201 p204 q204;obtain rfl:(⟨go26,0,none⟩:Addr)=ad204:=(by injection e204)
                             (first|simp only[add_plain] at hx204_0|simp only[add_at] at hx204_0|simp only[Addr.add,Nat.zero_add] at hx204_0|skip)
                             replace p204:=eq_true p204;replace q204:=eq_true q204;have p206:0≤(t201:Int):=od' xa';have q206:t201 < (x5_4.length:Int):=od' xa';obtain ⟨ad206,e206,hx206_0⟩:=Kd.at_int (Kd.R_reads' HO_5.out).2.2 t201 p206 q206;obtain rfl:(⟨go26,0,none⟩:Addr)=ad206:=(by injection e206)
                             (first|simp only[add_plain] at hx206_0|simp only[add_at] at hx206_0|simp only[Addr.add,Nat.zero_add] at hx206_0|skip)
                             replace p206:=eq_true p206;replace q206:=eq_true q206;have p90:0≤(t201:Int):=od' xa';have q90:(t201:Int) < ((x5_4.length:Int):Int):=od' xa';obtain ⟨hx90_0,hf90_0⟩:=Kd.R_celln 0 HO_5.out (t201:Int) p90 q90;replace p90:=eq_true p90;replace q90:=eq_true q90;obtain ⟨hy99_,hz99_⟩:=Kd.R_celln 0 HO_5.out (t201:Int) (od' xa') (od' xa');have HP99:=Kd.R_putg HO_5.out (t201:Int) (wrap64 ((rd x5_4 x8_3)+t203))
                             try go_wp2_with (first|((with_reducible refine gate_store (t:=3) (p:=114) rfl ?_);refine store_event (t:=3) (p:=114) (v:=?vo_w100) (w1:=(w98.setCell ⟨go26,(t201:Int).toNat,none⟩ (.int .i64 (wrap64 ((rd x5_4 x8_3)+t203))))) ?hg ?ho ?hn ?hr ?_;(case ho=>rfl);(case hg=>rfl);(case hn=>rfl);(case hr=>first|(go_simp;done)|(go_simp;rfl));intro w100 hw;have hg:w98.grownBy w100 (some go26):=(by rw[hw];exact HP99.2);have hp_:Kd.R (Kd.int .i64) 3 w100 w.heap.size (fun _=>True) (.slice (some ⟨go26,0,none⟩) x5_4.length co14) y207:=(by rw[hw,Ny207.out];exact HP99.1);clear HP99;have n0_:=am' (hp_);have n1_:=am' (Kd.R_over' (v:=(.slice (some ⟨go26,0,none⟩) x5_4.length co14)) (kr' HO_6.out) (Kd.R_typed HO_5.out) (by decide) hg);have n2_:=am' (Kd.N_afterv (v:=(.slice (some ⟨go26,0,none⟩) x5_4.length co14)) (v1:=(.slice (some ⟨go26,0,none⟩) x5_4.length co14)) (ok:=(fun k_=>some k_≠(.slice (some ⟨go51,0,none⟩) y187.length co51:Value).ownBlock∧some k_≠(.slice Ao60 t188.length co60:Value).ownBlock∧some k_≠(.slice Ao95 t197.length co95:Value).ownBlock∧k_≠gb173∧k_≠gb174∧k_≠gb192)) (by (with_reducible repeat (first|apply Kd.N_alloc|apply Kd.N_drewN|apply Kd.N_drew));exact Kd.N_mono HO_80.out (fun _ hk=>⟨⟨hk.1.2.1,⟨hk.1.2.2.1,⟨hk.2,⟨hk.1.2.2.2.1,⟨hk.1.2.2.2.2.1,hk.1.2.2.2.2.2⟩⟩⟩⟩⟩,hk.1.1⟩)) hg (.inl rfl));have n3_:=am' (Kd.R_over' (v:=(.slice (some ⟨go26,0,none⟩) x5_4.length co14)) (kr' HO_193000.out) (Kd.R_typed HO_5.out) (by decide) hg);have n4_:=am' (blk_grown (g:=gb173) (o := .cells #[.slice A0_0 l0_0.length c0_0, .int .i64 a0_1] 28 (0,0)) (kk' BK173.out) hg (Kd.R_ne HO_5.out BK173.out (by decide)));have n5_:=am' (blk_grown (g:=gb174) (o := .cells #[.slice A1_0 l1_0.length c1_0, .bool a1_1] 54 (0,0)) (kk' BK174.out) hg (Kd.R_ne HO_5.out BK174.out (by decide)));have n6_:=am' (blk_grown (g:=gb192) (o := .cells #[.slice Ao60 t188.length co60, .bool t191] 54 (0,0)) (kk' BK192.out) hg (Kd.R_ne HO_5.out BK192.out (by decide)));have n7_:=am' (Kd.V_afterv (v:=(.slice (some ⟨go26,0,none⟩) x5_4.length co14)) (v1:=(.slice (some ⟨go26,0,none⟩) x5_4.length co14)) (ok:=(fun k_=>some k_≠(.slice (some ⟨go51,0,none⟩) y187.length co51:Value).ownBlock∧some k_≠(.slice (some ad196) t193.length co66:Value).ownBlock∧some k_≠(.slice Ao60 t188.length co60:Value).ownBlock∧some k_≠(.slice Ao95 t197.length co95:Value).ownBlock∧k_≠gb173∧k_≠gb174∧k_≠gb192)) (by (with_reducible repeat (first|apply Kd.V_alloc|apply Kd.V_drewN|apply Kd.V_drew));exact Kd.V_mono HL196_0.out (fun _ hk=>⟨⟨hk.1.1.2.1,⟨hk.1.2,⟨hk.1.1.2.2.1,⟨hk.2,⟨hk.1.1.2.2.2.1,⟨hk.1.1.2.2.2.2.1,hk.1.1.2.2.2.2.2⟩⟩⟩⟩⟩⟩,hk.1.1.1⟩)) hg (.inl rfl));have n8_:=am' (Kd.R_over' (v:=(.slice (some ⟨go26,0,none⟩) x5_4.length co14)) (kr' HO199.out) (Kd.R_typed HO_5.out) (by decide) hg);have n9_:=am' ((by rw[hw];exact bs' (HB.out) GB26.out:Below w.heap.size w w100));clear HO_5;clear HO_6;clear HO_80;clear HO_193000;clear BK173;clear BK174;clear BK192;clear HL196_0;clear HO199;clear HB;have HO_5:=n0_;have HO_6:=n1_;have HO_80:=n2_;have HO_193000:=n3_;have BK173:=n4_;have BK174:=n5_;have BK192:=n6_;have HL196_0:=n7_;have HO199:=n8_;have HB:=n9_;clear n0_ n1_ n2_ n3_ n4_ n5_ n6_ n7_ n8_ n9_;clear hg hw hp_))
                             (try simp only[← hl5_4,← hl6_4])
                             go_roundg k4
                             case measure=>have:=HK1.out;have:=HK2.out;have:=HK3.out;have:=HK4.out;omega
                             case rel=>exact ⟨(y207),(wrap64 (x82_4+1)),xs',H',⟨by have:=HK1.out;have:=HK2.out;have:=HK3.out;have:=HK4.out;omega⟩,⟨by (try simp only[hl5_1]);(try simp only[hl5_2]);(try simp only[hl5_4]);(try simp only[hl6_4]);(with_reducible repeat (first|apply ra'|apply rn'|apply rw'));exact HO_5.out⟩,⟨by (try simp only[hl5_1]);(try simp only[hl5_2]);(try simp only[hl5_4]);(try simp only[hl6_4]);(with_reducible repeat (first|apply ra'|apply rn'|apply rw'));exact Kd.R_mono HO_6.out (fun _ hk=>hk.1)⟩,⟨by (try simp only[hl5_1]);(try simp only[hl5_2]);(try simp only[hl5_4]);(try simp only[hl6_4]);(with_reducible repeat (first|apply Kd.N_alloc|apply Kd.N_drewN|apply Kd.N_drew));exact Kd.N_mono HO_80.out (fun _ hk=>⟨hk.2,⟨hk.1.1,⟨hk.1.2.1,⟨hk.1.2.2.2.1,⟨hk.1.2.2.2.2.1,hk.1.2.2.2.2.2⟩⟩⟩⟩⟩)⟩,⟨by (try simp only[hl5_1]);(try simp only[hl5_2]);(try simp only[hl5_4]);(try simp only[hl6_4]);(with_reducible repeat (first|apply ra'|apply rn'|apply rw'));exact Kd.R_mono HO_193000.out (fun _ hk=>hk.1)⟩,⟨by (try simp only[hl5_1]);(try simp only[hl5_2]);(try simp only[hl5_4]);(try simp only[hl6_4]);(with_reducible repeat (first|refine kn' ?_ _|refine kd' ?_|refine ka' ?_ _));exact BK173.out⟩,⟨by (try simp only[hl5_1]);(try simp only[hl5_2]);(try simp only[hl5_4]);(try simp only[hl6_4]);(with_reducible repeat (first|refine kn' ?_ _|refine kd' ?_|refine ka' ?_ _));exact BK174.out⟩,⟨by (try simp only[hl5_1]);(try simp only[hl5_2]);(try simp only[hl5_4]);(try simp only[hl6_4]);(with_reducible repeat (first|refine kn' ?_ _|refine kd' ?_|refine ka' ?_ _));exact BK192.out⟩,⟨y3' GE173.out GE174.out GE192.out⟩⟩
                            ·
                             rw[if_neg c89] at H;have c89b0:decide ((wrap64 ((rd x5_4 x8_3)+t203)) < (rd x5_4 t201))=false:=df' c89;clear c89;have H':=am' H;clear H;have p196:0≤(x82_4:Int):=od' xa';have q196:x82_4 < (t193.length:Int):=od' xa';obtain ⟨ad196,A196_0,c196_0,e196,hx196_0,hl196_0,hi196_0⟩:=at_L2 (Kd.N_reads' HO_80.out).2.2 x82_4 p196 q196;cases e196;obtain ⟨ce196,hce196,hMe196,hcc196⟩:=Kd.N_get HO_80.out [] x82_4 p196 (by first|exact q196|exact od' xa'|(have e_:=(Kd.N_reads' HO_80.out).1;omega));obtain ⟨ua196_0,uc196_0,rfl,ul196_0,ge196_0⟩:=Kd.FK_slice_open hMe196;have hv196_0:=hcc196 0 _ rfl;rw[Nat.add_zero,show ((Kd.slice 3 (Kd.int .i64))).sz=1 from rfl,Nat.mul_one] at hv196_0;replace hv196_0:=os' (hv196_0.symm.trans hx196_0);injection hv196_0 with hva_ hvn_ hvc_
                             rw[hva_] at ge196_0;rw[hvc_] at ul196_0;have HL196_0:=am' (show Kd.V (Kd.int .i64) 3 _ w.heap.size _ _ (rd_L2 t193 x82_4) from Kd.V_mk ul196_0 ge196_0);clear hva_ hvn_ hvc_ ge196_0 ul196_0;clear hcc196 hce196;have HR196_0:=am' hi196_0;have HC196_0:=am' hl196_0;clear hi196_0 hl196_0;replace p196:=eq_true p196;replace q196:=eq_true q196;have hnb101:=NB192_173.out;have hnc101:=NB173_192.out;have hnb102:=NB192_174.out;have hnc102:=NB174_192.out;have hcz103_0:wr.cell? ⟨gb192,0,none⟩=some (.slice Ao60 t188.length co60):=(bc' BK192.out 0).trans rfl;have hcz103_1:wr.cell? ⟨gb192,1,none⟩=some (.bool t191):=(bc' BK192.out 1).trans rfl;have hfz103_0:=bf' BK192.out 0;have hfz103_1:=bf' BK192.out 1
                             try go_wp2_with (first|((with_reducible refine gate_callee (f:=44) rfl ?_);refine goesL_ (some 88) rfl rfl Try.func44 xk' rfl #[.agg #[.slice Ao60 t188.length co60, .bool t191], .slice A196_0 (rd_L2 t193 x82_4).length c196_0] rfl xl' ?_;(with_reducible refine (spec_paCross.calls k4 _ _ t188 t191 _ _ (rd_L2 t193 x82_4) t197 t200 _ ?side1 ?side2 ?side3 ?side4 A70.out).mono ?_);(case side1=>exact kc' ((Kd.R_reads' HO_193000.out).2.2));(case side2=>exact (Kd.R_reads' HO_193000.out).2.1);(case side3=>exact kc' (kx' HR196_0.out));(case side4=>exact HC196_0.out);rintro e w104 ⟨v198,rfl,ho0,hb⟩;refine ⟨_,rfl,?_⟩;have n0_:=am' (rb' (kr' HO_5.out) hb);have n1_:=am' (Kd.R_elder' (kr' HO_6.out) (Kd.R_base ho0) hb);have n2_:=am' (Kd.N_elder' (kN' HO_80.out) (Kd.R_base ho0) hb);have n3_:=am' (Kd.R_elder' (kr' HO_193000.out) (Kd.R_base ho0) hb);have n4_:=am' (Kd.V_elder' (kV' HL196_0.out) (Kd.R_base ho0) hb);have n5_:=am' (Kd.R_lower (Kd.R_new' (Kd.R_new' ho0 (Kd.R_lt (kr' HO_6.out))) (Kd.R_lt (kr' HO_193000.out))) (bz' (y3' GE173.out GE174.out GE192.out)));have n6_:=am' (bb' (g:=gb173) (o := .cells #[.slice A0_0 l0_0.length c0_0, .int .i64 a0_1] 28 (0,0)) (kk' BK173.out) hb);have n7_:=am' (bb' (g:=gb174) (o := .cells #[.slice A1_0 l1_0.length c1_0, .bool a1_1] 54 (0,0)) (kk' BK174.out) hb);have n8_:=am' (bb' (g:=gb192) (o := .cells #[.slice Ao60 t188.length co60, .bool t191] 54 (0,0)) (kk' BK192.out) hb);have n9_:=am' (cb' (kx' HR196_0.out) hb);have n10_:=am' (bt' (y3' GE173.out GE174.out GE192.out) hb);clear HO_5;clear HO_6;clear HO_80;clear HO_193000;clear HL196_0;clear BK173;clear BK174;clear BK192;clear HR196_0;clear HB;have HO_5:=n0_;have HO_6:=n1_;have HO_80:=n2_;have HO_193000:=n3_;have HL196_0:=n4_;have HO199:=n5_;have BK173:=n6_;have BK174:=n7_;have BK192:=n8_;have HR196_0:=n9_;have HB:=n10_;clear n0_ n1_ n2_ n3_ n4_ n5_ n6_ n7_ n8_ n9_ n10_;(try clear hb);(try clear hb2);(try clear hk);(try clear hi);(try clear ho0);obtain ⟨Ao105,co105,eo105⟩:=Kd.R_slice HO199.out;subst eo105)|((with_reducible refine gate_callee (f:=40) rfl ?_);refine goesL_ (some 89) rfl rfl Try.func40 xk' rfl #[.agg #[.slice Ao105 t197.length co105, .bool t200]] rfl xl' ?_;(with_reducible refine (spec_seIndex.calls k4 _ _ t197 t200 t201 _ ?side1 ?side2 A71.out).mono ?_);(case side1=>exact kc' ((Kd.R_reads' HO199.out).2.2));(case side2=>exact (Kd.R_reads' HO199.out).2.1);rintro e w106 ⟨rfl,hb⟩;refine ⟨_,rfl,?_⟩;have n0_:=am' (rb' (kr' HO_5.out) hb);have n1_:=am' (rb' (kr' HO_6.out) hb);have n2_:=am' (Kd.N_below (kN' HO_80.out) hb);have n3_:=am' (rb' (kr' HO_193000.out) hb);have n4_:=am' (Kd.V_below (kV' HL196_0.out) hb);have n5_:=am' (rb' (kr' HO199.out) hb);have n6_:=am' (bb' (g:=gb173) (o := .cells #[.slice A0_0 l0_0.length c0_0, .int .i64 a0_1] 28 (0,0)) (kk' BK173.out) hb);have n7_:=am' (bb' (g:=gb174) (o := .cells #[.slice A1_0 l1_0.length c1_0, .bool a1_1] 54 (0,0)) (kk' BK174.out) hb);have n8_:=am' (bb' (g:=gb192) (o := .cells #[.slice Ao60 t188.length co60, .bool t191] 54 (0,0)) (kk' BK192.out) hb);have n9_:=am' (cb' (kx' HR196_0.out) hb);have n10_:=am' (bt' (y3' GE173.out GE174.out GE192.out) hb);clear HO_5;clear HO_6;clear HO_80;clear HO_193000;clear HL196_0;clear HO199;clear BK173;clear BK174;clear BK192;clear HR196_0;clear HB;have HO_5:=n0_;have HO_6:=n1_;have HO_80:=n2_;have HO_193000:=n3_;have HL196_0:=n4_;have HO199:=n5_;have BK173:=n6_;have BK174:=n7_;have BK192:=n8_;have HR196_0:=n9_;have HB:=n10_;clear n0_ n1_ n2_ n3_ n4_ n5_ n6_ n7_ n8_ n9_ n10_;(try clear hb);(try clear hb2);(try clear hk);(try clear hi)))
                             have n0_:=am' (rw' HO_5.out);have n1_:=am' (rw' HO_6.out);have n2_:=am' (Kd.N_drew HO_80.out);have n3_:=am' (rw' HO_193000.out);have n4_:=am' (Kd.V_drew HL196_0.out);have n5_:=am' (rw' HO199.out);have n6_:=am' (kd' BK173.out);have n7_:=am' (kd' BK174.out);have n8_:=am' (kd' BK192.out);have n9_:=am' (cd' HR196_0.out);have n10_:=am' (be' HB.out);clear HO_5;clear HO_6;clear HO_80;clear HO_193000;clear HL196_0;clear HO199;clear BK173;clear BK174;clear BK192;clear HR196_0;clear HB;have HO_5:=n0_;have HO_6:=n1_;have HO_80:=n2_;have HO_193000:=n3_;have HL196_0:=n4_;have HO199:=n5_;have BK173:=n6_;have BK174:=n7_;have BK192:=n8_;have HR196_0:=n9_;have HB:=n10_;clear n0_ n1_ n2_ n3_ n4_ n5_ n6_ n7_ n8_ n9_ n10_;have p202:0≤(x8_3:Int):=od' xa';have q202:x8_3 < (x5_4.length:Int):=od' xa';obtain ⟨ad202,e202,hx202_0⟩:=Kd.at_int (Kd.R_reads' HO_5.out).2.2 x8_3 p202 q202;obtain rfl:(⟨go26,0,none⟩:Addr)=ad202:=(by injection e202)
                             (first|simp only[add_plain] at hx202_0|simp only[add_at] at hx202_0|simp only[Addr.add,Nat.zero_add] at hx202_0|skip)
                             replace p202:=eq_true p202;replace q202:=eq_true q202;refine start_ (n:=9) (S:=fun w'=>w'.cell? ⟨gb173,0,none⟩=some (.slice A0_0 l0_0.length c0_0)∧w'.cell? ⟨gb173,1,none⟩=some (.int .i64 a0_1)∧w'.cell? ⟨go26,(x8_3).toNat,none⟩=some (.int .i64 (rd x5_4 x8_3))) (ds:=[]) #[false,false,false,false,false,false,false,false,false] xk' rfl rfl ⟨(bc' BK173.out 0).trans rfl,(bc' BK173.out 1).trans rfl,hx202_0⟩ (fun hHeld=>?_);refine with_tabW spec_seFar.tab24 spec_seFar.bits24 (fun HT_ HW_=>?_);generalize w106.drew=w107 at HO_5 HO_6 HO_80 HO_193000 HL196_0 HO199 BK173 BK174 BK192 HR196_0 HB hx202_0 hHeld ⊢
                             refine pure_ (i:=0) (N:=some 90) (v:=?_) (a':=?_) #[true,false,false,false,false,false,false,false,false] rfl rfl (any_of HT_.out xk') (fun _ _ _ h=>h) (Or.inl ⟨by rfl,?_⟩) ?_ ?_
                             rotate_left
                             ·
                              intro w';go_simp;with_reducible rfl
                             rotate_left
                             ·
                              simp only[Act.put,sa',sb',sc',i64_w,i32_w];rfl
                             refine pure_ (i:=1) (N:=some 91) (v:=?_) (a':=?_) #[true,true,false,false,false,false,false,false,false] rfl rfl (any_of HT_.out xk') (fun _ _ _ h=>h) (Or.inl ⟨by rfl,?_⟩) ?_ ?_
                             rotate_left
                             ·
                              intro w';go_simp;with_reducible rfl
                             rotate_left
                             ·
                              simp only[Act.put,sa',sb',sc',i64_w,i32_w];rfl
                             refine pure_ (i:=2) (N:=some 92) (v:=?_) (a':=?_) #[true,true,true,false,false,false,false,false,false] rfl rfl (any_of HT_.out xk') (fun _ _ _ h=>h) (Or.inl ⟨by rfl,?_⟩) ?_ ?_
                             rotate_left
                             ·
                              intro w';go_simp;with_reducible rfl
                             rotate_left
                             ·
                              simp only[Act.put,sa',sb',sc',i64_w,i32_w];rfl
                             refine pure_ (i:=5) (N:=some 95) (v:=?_) (a':=?_) #[true,true,true,false,false,true,false,false,false] rfl rfl (any_of HT_.out xk') (fun _ _ _ h=>h) (Or.inl ⟨by rfl,?_⟩) ?_ ?_
                             rotate_left
                             ·
                              intro w';go_simp;with_reducible rfl
                             rotate_left
                             ·
                              simp only[Act.put,sa',sb',sc',i64_w,i32_w];rfl
                             refine take_ (i:=3) (N:=some 93) (v:=?_) (a':=?_) #[true,true,true,true,false,true,false,false,false] rfl rfl (take_ofW HT_.out HW_.out xk') (fun _ _ _ h=>h) (Or.inl ⟨by rfl,?_⟩) hHeld ?_ ?_
                             rotate_left
                             ·
                              rintro w' ⟨s0,s1,s2⟩
                              go_simp;with_reducible rfl
                             rotate_left
                             ·
                              simp only[Act.put,sa',sb',sc',i64_w,i32_w];rfl
                             refine take_ (i:=4) (N:=some 94) (v:=?_) (a':=?_) #[true,true,true,true,true,true,false,false,false] rfl rfl (take_ofW HT_.out HW_.out xk') (fun _ _ _ h=>h) (Or.inl ⟨by rfl,?_⟩) hHeld ?_ ?_
                             rotate_left
                             ·
                              rintro w' ⟨s0,s1,s2⟩
                              go_simp;with_reducible rfl
                             rotate_left
                             ·
                              simp only[Act.put,sa',sb',sc',i64_w,i32_w];rfl
                             refine one_ (i:=6) (N:=some 96) #[true,true,true,true,true,true,true,false,false] rfl rfl (one_of HT_.out xk') (by decide) (fun K hK=>?_);refine goes_ Try.func51 xk' rfl #[.agg #[.slice A0_0 l0_0.length c0_0, .int .i64 a0_1], .slice A196_0 (rd_L2 t193 x82_4).length c196_0] (by rfl) rfl rfl xl' ?_
                             with_reducible refine (spec_paTime.calls k4 _ _ l0_0 a0_1 _ _ (rd_L2 t193 x82_4) t203 _ ?side1 ?side2 ?side3 ?side4 A74.out).mono ?_
                             (case side1=>exact kc' (cb' HR0_0.out HB.out))
                             (case side2=>exact HC0_0.out)
                             (case side3=>exact kc' (kx' HR196_0.out))
                             (case side4=>exact HC196_0.out)
                             rintro e w108 ⟨rfl,hb⟩
                             have HS2_:=(hb.cell (bl' _ _ (hHeld.2.2))).trans (hHeld.2.2);refine ⟨_,rfl,?_⟩;have n0_:=am' (rb' (kr' HO_5.out) hb);have n1_:=am' (rb' (kr' HO_6.out) hb);have n2_:=am' (Kd.N_below (kN' HO_80.out) hb);have n3_:=am' (rb' (kr' HO_193000.out) hb);have n4_:=am' (Kd.V_below (kV' HL196_0.out) hb);have n5_:=am' (rb' (kr' HO199.out) hb);have n6_:=am' (bb' (g:=gb173) (o := .cells #[.slice A0_0 l0_0.length c0_0, .int .i64 a0_1] 28 (0,0)) (kk' BK173.out) hb);have n7_:=am' (bb' (g:=gb174) (o := .cells #[.slice A1_0 l1_0.length c1_0, .bool a1_1] 54 (0,0)) (kk' BK174.out) hb);have n8_:=am' (bb' (g:=gb192) (o := .cells #[.slice Ao60 t188.length co60, .bool t191] 54 (0,0)) (kk' BK192.out) hb);have n9_:=am' (cb' (kx' HR196_0.out) hb);have n10_:=am' (bt' (y3' GE173.out GE174.out GE192.out) hb);clear HO_5;clear HO_6;clear HO_80;clear HO_193000;clear HL196_0;clear HO199;clear BK173;clear BK174;clear BK192;clear HR196_0;clear HB;have HO_5:=n0_;have HO_6:=n1_;have HO_80:=n2_;have HO_193000:=n3_;have HL196_0:=n4_;have HO199:=n5_;have BK173:=n6_;have BK174:=n7_;have BK192:=n8_;have HR196_0:=n9_;have HB:=n10_;clear n0_ n1_ n2_ n3_ n4_ n5_ n6_ n7_ n8_ n9_ n10_
                             (try clear hb)
                             (try clear hb2)
                             (try clear hk)
                             (try clear hi)
                             refine hK.out _ _ ⟨(bc' BK173.out 0).trans rfl,(bc' BK173.out 1).trans rfl,HS2_⟩ (fun hHeld=>?_);clear hK K;refine norm_ (a':=?_) ?_ ?_
                             rotate_left
                             ·
                              show Act.put _ (some 96) _=_
                              simp only[Act.put,sa',sb',sc',i64_w,i32_w];rfl
                             refine pure_ (i:=7) (N:=some 97) (v:=?_) (a':=?_) #[true,true,true,true,true,true,true,true,false] rfl rfl (any_of HT_.out xk') (fun _ _ _ h=>h) (Or.inl ⟨by rfl,?_⟩) ?_ ?_
                             rotate_left
                             ·
                              intro w';go_simp;with_reducible rfl
                             rotate_left
                             ·
                              simp only[Act.put,sa',sb',sc',i64_w,i32_w];rfl
                             refine pure_ (i:=8) (N:=some 15) (v:=?_) (a':=?_) #[true,true,true,true,true,true,true,true,true] rfl rfl (any_of HT_.out xk') (fun _ _ _ h=>h) (Or.inl ⟨by rfl,?_⟩) ?_ ?_
                             rotate_left
                             ·
                              intro w';go_simp;with_reducible rfl
                             rotate_left
                             ·
                              simp only[Act.put,sa',sb',sc',i64_w,i32_w];rfl
                             refine done_ (done_of HT_.out xk') ?_
                             have p204:0≤(t201:Int):=od' xa';have q204:t201 < (x5_4.length:Int):=od' xa';obtain ⟨ad204,e204,hx204_0⟩:=Kd.at_int (Kd.R_reads' HO_5.out).2.2 t201 p204 q204;obtain rfl:(⟨go26,0,none⟩:Addr)=ad204:=(by injection e204)
                             (first|simp only[add_plain] at hx204_0|simp only[add_at] at hx204_0|simp only[Addr.add,Nat.zero_add] at hx204_0|skip)
                             replace p204:=eq_true p204;replace q204:=eq_true q204;have p206:0≤(t201:Int):=od' xa';have q206:t201 < (x5_4.length:Int):=od' xa';obtain ⟨ad206,e206,hx206_0⟩:=Kd.at_int (Kd.R_reads' HO_5.out).2.2 t201 p206 q206;obtain rfl:(⟨go26,0,none⟩:Addr)=ad206:=(by injection e206)
                             (first|simp only[add_plain] at hx206_0|simp only[add_at] at hx206_0|simp only[Addr.add,Nat.zero_add] at hx206_0|skip)
                             replace p206:=eq_true p206;replace q206:=eq_true q206
                             try go_wp2
                             (try simp only[← hl5_4,← hl6_4])
                             go_roundg k4
                             case measure=>have:=HK1.out;have:=HK2.out;have:=HK3.out;have:=HK4.out;omega
                             case rel=>exact ⟨(x5_4),(wrap64 (x82_4+1)),xs',H',⟨by have:=HK1.out;have:=HK2.out;have:=HK3.out;have:=HK4.out;omega⟩,⟨by (try simp only[hl5_1]);(try simp only[hl5_2]);(try simp only[hl5_4]);(try simp only[hl6_4]);(with_reducible repeat (first|apply ra'|apply rn'|apply rw'));exact HO_5.out⟩,⟨by (try simp only[hl5_1]);(try simp only[hl5_2]);(try simp only[hl5_4]);(try simp only[hl6_4]);(with_reducible repeat (first|apply ra'|apply rn'|apply rw'));exact Kd.R_mono HO_6.out (fun _ hk=>hk.1)⟩,⟨by (try simp only[hl5_1]);(try simp only[hl5_2]);(try simp only[hl5_4]);(try simp only[hl6_4]);(with_reducible repeat (first|apply Kd.N_alloc|apply Kd.N_drewN|apply Kd.N_drew));exact Kd.N_mono HO_80.out (fun _ hk=>⟨hk.1.1,⟨hk.1.2.1,⟨hk.1.2.2.1,⟨hk.1.2.2.2.1,⟨hk.1.2.2.2.2.1,hk.1.2.2.2.2.2⟩⟩⟩⟩⟩)⟩,⟨by (try simp only[hl5_1]);(try simp only[hl5_2]);(try simp only[hl5_4]);(try simp only[hl6_4]);(with_reducible repeat (first|apply ra'|apply rn'|apply rw'));exact Kd.R_mono HO_193000.out (fun _ hk=>hk.1)⟩,⟨by (try simp only[hl5_1]);(try simp only[hl5_2]);(try simp only[hl5_4]);(try simp only[hl6_4]);(with_reducible repeat (first|refine kn' ?_ _|refine kd' ?_|refine ka' ?_ _));exact BK173.out⟩,⟨by (try simp only[hl5_1]);(try simp only[hl5_2]);(try simp only[hl5_4]);(try simp only[hl6_4]);(with_reducible repeat (first|refine kn' ?_ _|refine kd' ?_|refine ka' ?_ _));exact BK174.out⟩,⟨by (try simp only[hl5_1]);(try simp only[hl5_2]);(try simp only[hl5_4]);(try simp only[hl6_4]);(with_reducible repeat (first|refine kn' ?_ _|refine kd' ?_|refine ka' ?_ _));exact BK192.out⟩,⟨y3' GE173.out GE174.out GE192.out⟩⟩
                          ·
                           rw[if_neg c76] at H;exact absurd H (by simp)
                         ·
                          rw[if_neg c75] at H;exact absurd H (by simp)
                        ·
                         rw[if_neg c73] at H;exact absurd H (by simp)
                       ·
                        rw[if_neg c72] at H;exact absurd H (by simp)
                      ·
                       rw[if_neg c69] at H;exact absurd H (by simp)
                     ·
                      rw[if_neg c68] at H;exact absurd H (by simp)
                    ·
                     rw[if_neg c67] at H;have c67b0:decide (x82_4 < (t193.length:Int))=false:=df' c67;clear c67;have H':=am' H;clear H;go_wp2
                     (try simp only[← hl5_2,← hl5_4,← hl6_4])
                     go_roundg k4
                     case measure=>have:=HK1.out;have:=HK2.out;have:=HK3.out;have:=HK4.out;omega
                     case rel=>exact ⟨(x5_4),(y187),H',⟨by have:=HK1.out;have:=HK2.out;have:=HK3.out;have:=HK4.out;omega⟩,⟨by (try simp only[hl5_1]);(try simp only[hl5_2]);(try simp only[hl5_4]);(try simp only[hl6_4]);(with_reducible repeat (first|apply ra'|apply rn'|apply rw'));exact HO_5.out⟩,⟨by (try simp only[hl5_1]);(try simp only[hl5_2]);(try simp only[hl5_4]);(try simp only[hl6_4]);(with_reducible repeat (first|apply ra'|apply rn'|apply rw'));exact Kd.R_mono HO_6.out (fun _ hk=>trivial)⟩,⟨by (try simp only[hl5_1]);(try simp only[hl5_2]);(try simp only[hl5_4]);(try simp only[hl6_4]);(with_reducible repeat (first|refine kn' ?_ _|refine kd' ?_|refine ka' ?_ _));exact BK173.out⟩,⟨by (try simp only[hl5_1]);(try simp only[hl5_2]);(try simp only[hl5_4]);(try simp only[hl6_4]);(with_reducible repeat (first|refine kn' ?_ _|refine kd' ?_|refine ka' ?_ _));exact BK174.out⟩,⟨y3' GE173.out GE174.out GE192.out⟩⟩
                 ·
                  rw[if_neg c50] at H;exact absurd H (by simp)
                ·
                 rw[if_neg c49] at H;exact absurd H (by simp)
         ·
          rw[if_neg c25] at H;exact absurd H (by simp)
        ·
         rw[if_neg c24] at H;exact absurd H (by simp)
    ·
     rw[if_neg c7] at H;exact absurd H (by simp)
   ·
    rw[if_neg c6] at H;exact absurd H (by simp)
  ·
   rw[if_neg c5] at H;exact absurd H (by simp)
 ·
  rw[if_neg c4] at H;exact absurd H (by simp)
end Go.Proofs.Ytihieplobgehaaa.C2
