import Derived.Test.YtdomojenlofieaaC2zx0
import Derived.Test.YtdomojenlofieaaC2zx6
import Derived.Test.YtdomojenlofieaaC2zx8
import Derived.Test.YtdomojenlofieaaC2zx9
import Derived.Test.YtdomojenlofieaaC2zAl
namespace Go.Proofs.Ytdomojenlofieaa.C2
open Go.RowKit Go.Proofs.YtdomojenlofieaaW.PrintWords Go.Proofs.YtdomojenlofieaaW.PrintLast Go.Proofs.YtdomojenlofieaaW.PrintMore Go.Proofs.Ytdomojenlofieaa.H
attribute [local go_sem] max2_int min2_int max_two min_two max_three min_three max_four min_four
set_option linter.unusedVariables false
set_option linter.unusedSimpArgs false
mutual
def impl_Night_isRound.l0:Nat→List (List Int)→List (List Int)→Int→Int→List Int→Int→Int→List Bool→Int→Option (Bool)
 | 0,_,_,_,_,_,_,_,_,_=>none
 | k+1,x2,x15,x16,x17,x262000,x262001,x262002,x263000,x263001=>if x17 < x16 then (if 0≤x17 then (if x17 < (x15.length:Int) then ((impl_Night_isGroup.f k x262000 x262001 x262002 (rd_L2 x15 x17)).bind fun t265=>(if t265=true then (if 0 < ((rd_L2 x15 x17).length:Int) then (if 0≤(rd (rd_L2 x15 x17) 0) then (if (rd (rd_L2 x15 x17) 0) < (x263000.length:Int) then ((impl_Night_torches.f x262000 x262001 x262002 x263000 x263001 (rdOf false x263000 (rd (rd_L2 x15 x17) 0))).bind fun t268=>(if t268=0 then (impl_Night_isRound.j1 k x2 x17 (rd_L2 x15 x17) x15 x16 x17 true x262000 x262001 x262002 x263000 x263001) else ((impl_State_are.f x263000 false (rd_L2 x15 x17) (rdOf false x263000 (rd (rd_L2 x15 x17) 0))).bind fun t271=>(impl_Night_isRound.j1 k x2 x17 (rd_L2 x15 x17) x15 x16 x17 (!t271) x262000 x262001 x262002 x263000 x263001)))) else (none)) else (none)) else (none)) else (impl_Night_isRound.j1 k x2 x17 (rd_L2 x15 x17) x15 x16 x17 true x262000 x262001 x262002 x263000 x263001))) else (none)) else (none)) else (some true)
def impl_Night_isRound.j1:Nat→List (List Int)→Int→List Int→List (List Int)→Int→Int→Bool→List Int→Int→Int→List Bool→Int→Option (Bool)
 | 0,_,_,_,_,_,_,_,_,_,_,_,_=>none
 | k+1,x2,x7,x8,x15,x16,x17,x53,x262000,x262001,x262002,x263000,x263001=>if x53=true then (some false) else (if x7 > 0 then (if 0≤(wrap64 (x7 - 1)) then (if (wrap64 (x7 - 1)) < (x2.length:Int) then ((slices_Compare_int_int.f k (rd_L2 x2 (wrap64 (x7 - 1))) x8).bind fun t273=>(if t273 ≥ 0 then (some false) else ((impl_Night_together.f x262000 x262001 x262002 x263000 x263001 (rd_L2 x2 (wrap64 (x7 - 1))) x8).bind fun t275=>(if t275=true then (impl_Night_isRound.l0 k x2 x15 x16 (wrap64 (x17+1)) x262000 x262001 x262002 x263000 x263001) else (some false))))) else (none)) else (none)) else (impl_Night_isRound.l0 k x2 x15 x16 (wrap64 (x17+1)) x262000 x262001 x262002 x263000 x263001))
end
def impl_Night_isRound.f (k:Nat) (l0_0:List Int) (a0_1:Int) (a0_2:Int) (l1_0:List Bool) (a1_1:Int) (l2:List (List Int)):Option (Bool):=(impl_in.f (l2.length:Int) 1 a0_2).bind fun t263=>(if t263=true then (impl_Night_isRound.l0 k l2 l2 (l2.length:Int) 0 l0_0 a0_1 a0_2 l1_0 a1_1) else (some false))
def impl_Night_isRound.T6:Bool × List (List Nat × List Nat):=(true,[([],[]),([],[]),([0,1],[0,1]),([2],[2]),([3,2],[3]),([4],[4]),([4],[4]),([4],[4]),([7,4],[4,7]),([4],[4]),([9,4],[4,9]),([10,4],[4,10]),([8,11,4],[4,8,11]),([12,4],[4,12]),([5,6,13,4,4],[4,5,6,13]),([14,4],[4,14]),([4,15],[4,15]),([16,14],[16]),([17],[17]),([18,17],[17,18]),([19,17],[17,19]),([17],[17]),([17],[17]),([22,17],[17,22]),([17],[17]),([24,17],[17,24]),([25,17],[17,25]),([23,26,17],[17,23,26]),([27,17],[17,27]),([20,21,28,17,17],[17,20,21,28]),([29,17],[17,29]),([17,30],[17,30])])
def impl_Night_isRound.B6:List Nat:=[0,0,3,7,15,31,31,31,159,31,543,1567,3999,8095,16383,32767,65535,131071,262143,524287,1048575,262143,262143,4456447,262143,17039359,50593791,130285567,264503295,536870911,1073741823,2147483647]
theorem impl_Night_isRound.tab6:rtab .any (opsOf Try.f59 6)=impl_Night_isRound.T6:=by kernel_rfl
theorem impl_Night_isRound.bits6:waitsOk impl_Night_isRound.T6.2 impl_Night_isRound.B6=true:=by kernel_rfl
def impl_Night_isRound.T8:Bool × List (List Nat × List Nat):=(true,[([],[]),([0],[0]),([1],[1]),([2],[2]),([2],[2]),([4,2],[2,4]),([3,5,2],[2,3,5]),([6,2],[2,6]),([2],[2]),([7,8,2,2],[2,7,8]),([9,2],[2,9]),([10,9,2],[2,10]),([11],[11]),([11],[11]),([11],[11]),([11],[11]),([15,11],[11,15]),([14,16,11],[11,14,16]),([17,11],[11,17]),([11],[11]),([12,13,18,19,11,11],[11,12,13,18,19]),([20,11],[11,20]),([11,21,2],[2,11,21]),([2,22],[2,22])])
def impl_Night_isRound.B8:List Nat:=[0,1,3,7,7,23,63,127,7,511,1023,2047,4095,4095,4095,4095,36863,118783,249855,4095,1048575,2097151,4194303,8388607]
theorem impl_Night_isRound.tab8:rtab .any (opsOf Try.f59 8)=impl_Night_isRound.T8:=by kernel_rfl
theorem impl_Night_isRound.bits8:waitsOk impl_Night_isRound.T8.2 impl_Night_isRound.B8=true:=by kernel_rfl
set_option maxHeartbeats 8000000 in
set_option maxRecDepth 100000 in
theorem impl_Night_isRound.calls (k:Nat) (A0_0:Option Addr) (c0_0:Nat) (l0_0:List Int) (a0_1:Int) (a0_2:Int) (A1_0:Option Addr) (c1_0:Nat) (l1_0:List Bool) (a1_1:Int) (A2:Option Addr) (c2:Nat) (l2:List (List Int)) (r:Bool) (w:World) (hr0_0:Kd.C (Kd.int .i64) w A0_0 l0_0.length l0_0) (hc0_0:l0_0.length≤c0_0) (hr1_0:Kd.C Kd.bool w A1_0 l1_0.length l1_0) (hc1_0:l1_0.length≤c1_0) (hr2:Kd.C (Kd.slice 3 (Kd.int .i64)) w A2 l2.length l2) (hc2:l2.length≤c2) (h:impl_Night_isRound.f k l0_0 a0_1 a0_2 l1_0 a1_1 l2=some r) :
  Calls Try.prog 59 #[.agg #[.slice A0_0 l0_0.length c0_0, .int .i64 a0_1, .int .i64 a0_2], .agg #[.slice A1_0 l1_0.length c1_0, .int .i64 a1_1], .slice A2 l2.length c2] w fun e w'=>e = .returned (.bool r)∧Below w.heap.size w w':=by
 have hu35:=Try.underlying35
 have hu32:=Try.underlying32
 have hu80:=Try.underlying80
 have HR0_0:=am' hr0_0
 have HC0_0:=am' hc0_0
 clear hr0_0 hc0_0;have HR1_0:=am' hr1_0
 have HC1_0:=am' hc1_0
 clear hr1_0 hc1_0;have HR2:=am' hr2
 have HC2:=am' hc2
 clear hr2 hc2;have HB:=am' (Below.refl w.heap.size w)
 have H:((impl_in.f (l2.length:Int) 1 a0_2).bind fun t263=>(if t263=true then (impl_Night_isRound.l0 k l2 l2 (l2.length:Int) 0 l0_0 a0_1 a0_2 l1_0 a1_1) else (some false)))=some r:=h
 clear h;replace H:=Option.bind_eq_some_iff.mp H
 obtain ⟨t263,A40,H⟩:=H
 replace H:(if t263=true then (impl_Night_isRound.l0 k l2 l2 (l2.length:Int) 0 l0_0 a0_1 a0_2 l1_0 a1_1) else (some false))=some r:=H
 have A4:=am' A40
 clear A40;by_cases c5:t263=true
 ·
  subst c5;have H1:(impl_Night_isRound.l0 k l2 l2 (l2.length:Int) 0 l0_0 a0_1 a0_2 l1_0 a1_1)=some r:=by rw[if_pos rfl] at H;exact H
  clear H;have H:=H1;clear H1;have H':=am' H;clear H;go_enter Try.func59,Try.ntmps59;go_wp2_with (first|((with_reducible refine gate_dst (N:=3) rfl ?_);refine box_event ?hg (N:=3) ?hd (cs:=#[.slice A0_0 l0_0.length c0_0, .int .i64 a0_1, .int .i64 a0_2]) (t:=35) ?hr ?_;(case hd=>rfl);(case hg=>rfl);(case hr=>first|(go_simp;done)|(go_simp;rfl));intro gb261 hg w6 hbox hb;have n0_:=am' (bt' xb' hb);have n1_:=am' (hbox);have n2_:=am' ((by rw[hg];exact (bz' xb'):w.heap.size≤gb261));have n3_:=am' ((by rw[hg];exact (bz' xb'):w.heap.size≤gb261));clear HB;have HB:=n0_;have BK261:=n1_;have GW261:=n2_;have GE261:=n3_;clear n0_ n1_ n2_ n3_;clear hb hbox hg)|((with_reducible refine gate_dst (N:=4) rfl ?_);refine box_event ?hg (N:=4) ?hd (cs:=#[.slice A1_0 l1_0.length c1_0, .int .i64 a1_1]) (t:=32) ?hr ?_;(case hd=>rfl);(case hg=>rfl);(case hr=>first|(go_simp;done)|(go_simp;rfl));intro gb262 hg w7 hbox hb;have n0_:=am' (bb' (g:=gb261) (o := .cells #[.slice A0_0 l0_0.length c0_0, .int .i64 a0_1, .int .i64 a0_2] 35 (0,0)) (kk' BK261.out) hb);have n1_:=am' (bt' (yb' GE261.out) hb);have n2_:=am' (hbox);have n3_:=am' ((by rw[hg];exact (bz' (yb' GE261.out)):w.heap.size≤gb262));have n4_:=am' ((by rw[hg];exact (bz' (yb' GE261.out)):w.heap.size≤gb262));have n5_:=am' ((by rw[hg];exact Nat.ne_of_lt (blk_lt (g:=gb261) (o := .cells #[.slice A0_0 l0_0.length c0_0, .int .i64 a0_1, .int .i64 a0_2] 35 (0,0)) (kk' BK261.out)):gb261≠gb262));have n6_:=am' ((by rw[hg];exact Nat.ne_of_gt (blk_lt (g:=gb261) (o := .cells #[.slice A0_0 l0_0.length c0_0, .int .i64 a0_1, .int .i64 a0_2] 35 (0,0)) (kk' BK261.out)):gb262≠gb261));clear BK261;clear HB;have BK261:=n0_;have HB:=n1_;have BK262:=n2_;have GW262:=n3_;have GE262:=n4_;have NB261_262:=n5_;have NB262_261:=n6_;clear n0_ n1_ n2_ n3_ n4_ n5_ n6_;clear hb hbox hg;have hnb8:=NB261_262.out;have hnc8:=NB262_261.out;have hcz9_0:w7.cell? ⟨gb261,0,none⟩=some (.slice A0_0 l0_0.length c0_0):=(bc' BK261.out 0).trans rfl;have hcz9_1:w7.cell? ⟨gb261,1,none⟩=some (.int .i64 a0_1):=(bc' BK261.out 1).trans rfl;have hcz9_2:w7.cell? ⟨gb261,2,none⟩=some (.int .i64 a0_2):=(bc' BK261.out 2).trans rfl;have hfz9_0:=bf' BK261.out 0;have hfz9_1:=bf' BK261.out 1;have hfz9_2:=bf' BK261.out 2)|((with_reducible refine gate_callee (f:=66) rfl ?_);refine goesL_ (some 13) rfl rfl Try.func66 xk' rfl #[.int .i64 (l2.length:Int), .int .i64 1, .int .i64 a0_2] rfl xl' ?_;(with_reducible refine (impl_in.calls (l2.length:Int) 1 a0_2 true _ A4.out).mono ?_);rintro e w' ⟨rfl,⟨nd,rfl⟩⟩;refine ⟨_,rfl,?_⟩))
  go_loopg [17] k (fun kq v17 w'=>∃ (x17_1:Int),v17 = .int .i64 x17_1∧Aside0 (impl_Night_isRound.l0 kq l2 l2 (l2.length:Int) x17_1 l0_0 a0_1 a0_2 l1_0 a1_1=some r)∧Aside0 (kq≤k)∧Aside0 (w'.heap[gb261]? = some (.cells #[(.slice A0_0 l0_0.length c0_0), .int .i64 a0_1, .int .i64 a0_2] 35 (0,0)))∧Aside0 (w'.heap[gb262]? = some (.cells #[(.slice A1_0 l1_0.length c1_0), .int .i64 a1_1] 32 (0,0)))∧Aside0 (Below w.heap.size w w'))
  case atStart=>exact ⟨(0),xs',H',⟨Nat.le_refl _⟩,⟨kk' BK261.out⟩,⟨kk' BK262.out⟩,⟨y2' GE261.out GE262.out⟩⟩
  case round =>
   clear H';try clear c1
   try clear c2
   try clear p2
   try clear c5
   try clear c6
   try clear c8
   try clear hcz9_0
   try clear hcz9_1
   try clear hcz9_2
   try clear hfz9_0
   try clear hfz9_1
   try clear hfz9_2
   obtain ⟨x17_1,rfl,HA,HK1,BK261,BK262,HB⟩:=hrel;cases gk with
   | zero=>exact absurd HA.out (by simp[impl_Night_isRound.l0])
   | succ k1 =>
    have H:=HA.out;clear HA;simp only[impl_Night_isRound.l0] at H;by_cases c10:x17_1 < (l2.length:Int)
    ·
     rw[if_pos c10] at H;have c10b0:decide (x17_1 < (l2.length:Int))=true:=dt' c10;clear c10;by_cases c11:0≤x17_1
     ·
      rw[if_pos c11] at H;have c11b0:decide (0≤x17_1)=true:=dt' c11;clear c11;by_cases c12:x17_1 < (l2.length:Int)
      ·
       rw[if_pos c12] at H;have c12b0:decide (x17_1 < (l2.length:Int))=true:=dt' c12;clear c12;have HC13:=am' H;clear H;have p264:0≤(x17_1:Int):=od' xa';have q264:x17_1 < (l2.length:Int):=od' xa';obtain ⟨ad264,A264_0,c264_0,e264,hx264_0,hl264_0,hi264_0⟩:=at_L2 HR2.out x17_1 p264 q264;cases e264;replace hx264_0:=(HB.out.cell (bl' w _ hx264_0)).trans hx264_0;have HR264_0:=am' hi264_0;have HC264_0:=am' hl264_0;clear hi264_0 hl264_0;replace p264:=eq_true p264;replace q264:=eq_true q264;go_upto_region 6 with (fail)
       go_cut [53] (fun v53 wc=>∃ (kq:Nat) (x53_12:Bool),v53 = .bool x53_12∧Aside0 (impl_Night_isRound.j1 kq l2 x17_1 (rd_L2 l2 x17_1) l2 (l2.length:Int) x17_1 x53_12 l0_0 a0_1 a0_2 l1_0 a1_1=some r)∧Aside0 (kq≤k1)∧Aside0 (wc.heap[gb261]? = some (.cells #[(.slice A0_0 l0_0.length c0_0), .int .i64 a0_1, .int .i64 a0_2] 35 (0,0)))∧Aside0 (wc.heap[gb262]? = some (.cells #[(.slice A1_0 l1_0.length c1_0), .int .i64 a1_1] 32 (0,0)))∧Aside0 (Below w.heap.size w wc))
       case first =>
        have H:=HC13.out;clear HC13;replace H:=Option.bind_eq_some_iff.mp H;obtain ⟨t265,A140,H⟩:=H;replace H:(if t265=true then (if 0 < ((rd_L2 l2 x17_1).length:Int) then (if 0≤(rd (rd_L2 l2 x17_1) 0) then (if (rd (rd_L2 l2 x17_1) 0) < (l1_0.length:Int) then ((impl_Night_torches.f l0_0 a0_1 a0_2 l1_0 a1_1 (rdOf false l1_0 (rd (rd_L2 l2 x17_1) 0))).bind fun t268=>(if t268=0 then (impl_Night_isRound.j1 k1 l2 x17_1 (rd_L2 l2 x17_1) l2 (l2.length:Int) x17_1 true l0_0 a0_1 a0_2 l1_0 a1_1) else ((impl_State_are.f l1_0 false (rd_L2 l2 x17_1) (rdOf false l1_0 (rd (rd_L2 l2 x17_1) 0))).bind fun t271=>(impl_Night_isRound.j1 k1 l2 x17_1 (rd_L2 l2 x17_1) l2 (l2.length:Int) x17_1 (!t271) l0_0 a0_1 a0_2 l1_0 a1_1)))) else (none)) else (none)) else (none)) else (impl_Night_isRound.j1 k1 l2 x17_1 (rd_L2 l2 x17_1) l2 (l2.length:Int) x17_1 true l0_0 a0_1 a0_2 l1_0 a1_1))=some r:=H;have A14:=am' A140;clear A140;by_cases c15:t265=true
        ·
         subst c15;have H1:(if 0 < ((rd_L2 l2 x17_1).length:Int) then (if 0≤(rd (rd_L2 l2 x17_1) 0) then (if (rd (rd_L2 l2 x17_1) 0) < (l1_0.length:Int) then ((impl_Night_torches.f l0_0 a0_1 a0_2 l1_0 a1_1 (rdOf false l1_0 (rd (rd_L2 l2 x17_1) 0))).bind fun t268=>(if t268=0 then (impl_Night_isRound.j1 k1 l2 x17_1 (rd_L2 l2 x17_1) l2 (l2.length:Int) x17_1 true l0_0 a0_1 a0_2 l1_0 a1_1) else ((impl_State_are.f l1_0 false (rd_L2 l2 x17_1) (rdOf false l1_0 (rd (rd_L2 l2 x17_1) 0))).bind fun t271=>(impl_Night_isRound.j1 k1 l2 x17_1 (rd_L2 l2 x17_1) l2 (l2.length:Int) x17_1 (!t271) l0_0 a0_1 a0_2 l1_0 a1_1)))) else (none)) else (none)) else (none))=some r:=by rw[if_pos rfl] at H;exact H
         clear H;have H:=H1;clear H1;by_cases c16:0 < ((rd_L2 l2 x17_1).length:Int)
         ·
          rw[if_pos c16] at H;have c16b0:decide (0 < ((rd_L2 l2 x17_1).length:Int))=true:=dt' c16;have c16b1:decide (0 < (rd_L2 l2 x17_1).length)=true:=dt' (by omega);clear c16;(first|rw[c16b0]|(simp only[i64_w,i32_w];rw[c16b0])|rw[c16b1]|skip)
          by_cases c17:0≤(rd (rd_L2 l2 x17_1) 0)
          ·
           rw[if_pos c17] at H;have c17b0:decide (0≤(rd (rd_L2 l2 x17_1) 0))=true:=dt' c17;clear c17;by_cases c18:(rd (rd_L2 l2 x17_1) 0) < (l1_0.length:Int)
           ·
            rw[if_pos c18] at H;have c18b0:decide ((rd (rd_L2 l2 x17_1) 0) < (l1_0.length:Int))=true:=dt' c18;clear c18;replace H:=Option.bind_eq_some_iff.mp H;obtain ⟨t268,A190,H⟩:=H;replace H:(if t268=0 then (impl_Night_isRound.j1 k1 l2 x17_1 (rd_L2 l2 x17_1) l2 (l2.length:Int) x17_1 true l0_0 a0_1 a0_2 l1_0 a1_1) else ((impl_State_are.f l1_0 false (rd_L2 l2 x17_1) (rdOf false l1_0 (rd (rd_L2 l2 x17_1) 0))).bind fun t271=>(impl_Night_isRound.j1 k1 l2 x17_1 (rd_L2 l2 x17_1) l2 (l2.length:Int) x17_1 (!t271) l0_0 a0_1 a0_2 l1_0 a1_1)))=some r:=H;have A19:=am' A190;clear A190;by_cases c20:t268=0
            ·
             rw[if_pos c20] at H;have c20b0:(t268 == 0)=true:=beq_iff_eq.mpr c20;have c20b1:(t268 != 0)=false:=bne_eq_false_iff_eq.mpr c20;clear c20;have H':=am' H;clear H;try go_wp2
             have n0_:=am' (kd' BK261.out);have n1_:=am' (kd' BK262.out);have n2_:=am' (be' HB.out);clear BK261;clear BK262;clear HB;have BK261:=n0_;have BK262:=n1_;have HB:=n2_;clear n0_ n1_ n2_;have p266:0≤(0:Int):=(by omega)
             have q266:0 < ((rd_L2 l2 x17_1).length:Int):=od' xa';obtain ⟨ad266,e266,hx266_0⟩:=Kd.at_int HR264_0.out 0 p266 q266;have hw266_0:=hx266_0;(try rw [show ((0:Int)).toNat=0 from rfl] at hw266_0)
             (try rw [show 0 * 1=0 from rfl] at hw266_0)
             (try rw [Addr.add_zero'] at hw266_0)
             cases e266
             have qi266:(0 < (rd_L2 l2 x17_1).length)=True:=eq_true (by omega)
             (try rw [show ((0:Int)).toNat=0 from rfl] at hx266_0)
             (try rw [Addr.add_zero'] at hx266_0)
             replace hx266_0:=(HB.out.cell (bl' w _ hx266_0)).trans hx266_0;replace p266:=eq_true p266;replace q266:=eq_true q266;have p267:0≤((rd (rd_L2 l2 x17_1) 0):Int):=od' xa';have q267:(rd (rd_L2 l2 x17_1) 0) < (l1_0.length:Int):=od' xa';obtain ⟨ad267,e267,hx267_0⟩:=Kd.at_bool HR1_0.out (rd (rd_L2 l2 x17_1) 0) p267 q267;have hw267_0:=hx267_0;cases e267;replace hx267_0:=(HB.out.cell (bl' w _ hx267_0)).trans hx267_0;replace p267:=eq_true p267;replace q267:=eq_true q267;refine start_ (n:=32) (S:=fun w'=>w'.cell? ⟨gb261,0,none⟩=some (.slice A0_0 l0_0.length c0_0)∧w'.cell? ⟨gb261,1,none⟩=some (.int .i64 a0_1)∧w'.cell? ⟨gb261,2,none⟩=some (.int .i64 a0_2)∧w'.cell? ⟨gb262,0,none⟩=some (.slice (some ad267) l1_0.length c1_0)∧w'.cell? ⟨gb262,1,none⟩=some (.int .i64 a1_1)∧w'.cell? ad266=some (.int .i64 (rd (rd_L2 l2 x17_1) 0))∧w'.cell? (ad267.add ((rd (rd_L2 l2 x17_1) 0)).toNat)=some (.bool (rdOf false l1_0 (rd (rd_L2 l2 x17_1) 0)))) (ds:=[]) #[false,false,false,false,false,false,false,false,false,false,false,false,false,false,false,false,false,false,false,false,false,false,false,false,false,false,false,false,false,false,false,false] xk' rfl rfl ⟨(bc' BK261.out 0).trans rfl,(bc' BK261.out 1).trans rfl,(bc' BK261.out 2).trans rfl,(bc' BK262.out 0).trans rfl,(bc' BK262.out 1).trans rfl,((HB.out.cell (bl' w _ hw266_0)).trans hw266_0),((HB.out.cell (bl' w _ hw267_0)).trans hw267_0)⟩ (fun hHeld=>?_);refine with_tabW impl_Night_isRound.tab6 impl_Night_isRound.bits6 (fun HT_ HW_=>?_);generalize wr.drew=w21 at BK261 BK262 HB hx266_0 hx267_0 hHeld ⊢
             refine pure_ (i:=1) (N:=some 23) (v:=?_) (a':=?_) #[false,true,false,false,false,false,false,false,false,false,false,false,false,false,false,false,false,false,false,false,false,false,false,false,false,false,false,false,false,false,false,false] rfl rfl (any_of HT_.out xk') (fun _ _ _ h=>h) (Or.inl ⟨by rfl,?_⟩) ?_ ?_
             rotate_left
             ·
              intro w';go_simp;with_reducible rfl
             rotate_left
             ·
              simp only[Act.put,sa',sb',sc',i64_w,i32_w];rfl
             refine take_ (i:=0) (N:=some 22) (v:=?_) (a':=?_) #[true,true,false,false,false,false,false,false,false,false,false,false,false,false,false,false,false,false,false,false,false,false,false,false,false,false,false,false,false,false,false,false] rfl rfl (take_ofW HT_.out HW_.out xk') (fun _ _ _ h=>h) (Or.inl ⟨by rfl,?_⟩) hHeld ?_ ?_
             rotate_left
             ·
              rintro w' ⟨s0,s1,s2,s3,s4,s5,s6⟩
              go_simp;with_reducible rfl
             rotate_left
             ·
              simp only[Act.put,sa',sb',sc',i64_w,i32_w];rfl
             refine one_ (i:=2) (N:=some 24) #[true,true,true,false,false,false,false,false,false,false,false,false,false,false,false,false,false,false,false,false,false,false,false,false,false,false,false,false,false,false,false,false] rfl rfl (one_of HT_.out xk') (by decide) (fun K hK=>?_);refine goes_ Try.func75 xk' rfl #[.agg #[.slice A0_0 l0_0.length c0_0, .int .i64 a0_1, .int .i64 a0_2], .slice (some ad266) (rd_L2 l2 x17_1).length c264_0] (by rfl) rfl rfl xl' ?_
             with_reducible refine (impl_Night_isGroup.calls k1 _ _ l0_0 a0_1 a0_2 _ _ (rd_L2 l2 x17_1) true _ ?side1 ?side2 ?side3 ?side4 A14.out).mono ?_
             (case side1=>exact kc' (cb' HR0_0.out HB.out))
             (case side2=>exact HC0_0.out)
             (case side3=>exact kc' (cb' HR264_0.out HB.out))
             (case side4=>exact HC264_0.out)
             rintro e w22 ⟨rfl,hb⟩
             refine ⟨_,rfl,?_⟩;have n0_:=am' (bb' (g:=gb261) (o := .cells #[.slice A0_0 l0_0.length c0_0, .int .i64 a0_1, .int .i64 a0_2] 35 (0,0)) (kk' BK261.out) hb);have n1_:=am' (bb' (g:=gb262) (o := .cells #[.slice (some ad267) l1_0.length c1_0, .int .i64 a1_1] 32 (0,0)) (kk' BK262.out) hb);have n2_:=am' (bt' (y2' GE261.out GE262.out) hb);clear BK261;clear BK262;clear HB;have BK261:=n0_;have BK262:=n1_;have HB:=n2_;clear n0_ n1_ n2_;(try clear hb)
             (try clear hb2)
             (try clear hk)
             (try clear hi)
             refine hK.out _ _ ⟨(bc' BK261.out 0).trans rfl,(bc' BK261.out 1).trans rfl,(bc' BK261.out 2).trans rfl,(bc' BK262.out 0).trans rfl,(bc' BK262.out 1).trans rfl,((HB.out.cell (bl' w _ hw266_0)).trans hw266_0),((HB.out.cell (bl' w _ hw267_0)).trans hw267_0)⟩ (fun hHeld=>?_);clear hK K;refine norm_ (a':=?_) ?_ ?_
             rotate_left
             ·
              show Act.put _ (some 24) _=_
              simp only[Act.put,sa',sb',sc',i64_w,i32_w];rfl
             refine pure_ (i:=3) (N:=some 25) (v:=?_) (a':=?_) #[true,true,true,true,false,false,false,false,false,false,false,false,false,false,false,false,false,false,false,false,false,false,false,false,false,false,false,false,false,false,false,false] rfl rfl (any_of HT_.out xk') (fun _ _ _ h=>h) (Or.inl ⟨by rfl,?_⟩) ?_ ?_
             rotate_left
             ·
              intro w';go_simp;with_reducible rfl
             rotate_left
             ·
              simp only[Act.put,sa',sb',sc',i64_w,i32_w];rfl
             refine pure_ (i:=4) (N:=some 26) (v:=?_) (a':=?_) #[true,true,true,true,true,false,false,false,false,false,false,false,false,false,false,false,false,false,false,false,false,false,false,false,false,false,false,false,false,false,false,false] rfl rfl (any_of HT_.out xk') (fun _ _ _ h=>h) (Or.inl ⟨by rfl,?_⟩) ?_ ?_
             rotate_left
             ·
              intro w';go_simp;with_reducible rfl
             rotate_left
             ·
              simp only[Act.put,sa',sb',sc',i64_w,i32_w];rfl
             refine pure_ (i:=7) (N:=some 29) (v:=?_) (a':=?_) #[true,true,true,true,true,false,false,true,false,false,false,false,false,false,false,false,false,false,false,false,false,false,false,false,false,false,false,false,false,false,false,false] rfl rfl (any_of HT_.out xk') (fun _ _ _ h=>h) (Or.inl ⟨by rfl,?_⟩) ?_ ?_
             rotate_left
             ·
              intro w';go_simp;with_reducible rfl
             rotate_left
             ·
              simp only[Act.put,sa',sb',sc',i64_w,i32_w];rfl
             refine pure_ (i:=9) (N:=some 31) (v:=?_) (a':=?_) #[true,true,true,true,true,false,false,true,false,true,false,false,false,false,false,false,false,false,false,false,false,false,false,false,false,false,false,false,false,false,false,false] rfl rfl (any_of HT_.out xk') (fun _ _ _ h=>h) (Or.inl ⟨by rfl,?_⟩) ?_ ?_
             rotate_left
             ·
              intro w';go_simp;with_reducible rfl
             rotate_left
             ·
              simp only[Act.put,sa',sb',sc',i64_w,i32_w];rfl
             refine pure_ (i:=10) (N:=some 32) (v:=?_) (a':=?_) #[true,true,true,true,true,false,false,true,false,true,true,false,false,false,false,false,false,false,false,false,false,false,false,false,false,false,false,false,false,false,false,false] rfl rfl (any_of HT_.out xk') (fun _ _ _ h=>h) (Or.inl ⟨by rfl,?_⟩) ?_ ?_
             rotate_left
             ·
              intro w';go_simp;with_reducible rfl
             rotate_left
             ·
              simp only[Act.put,sa',sb',sc',i64_w,i32_w];rfl
             refine take_ (i:=5) (N:=some 27) (v:=?_) (a':=?_) #[true,true,true,true,true,true,false,true,false,true,true,false,false,false,false,false,false,false,false,false,false,false,false,false,false,false,false,false,false,false,false,false] rfl rfl (take_ofW HT_.out HW_.out xk') (fun _ _ _ h=>h) (Or.inl ⟨by rfl,?_⟩) hHeld ?_ ?_
             rotate_left
             ·
              rintro w' ⟨s0,s1,s2,s3,s4,s5,s6⟩
              go_simp;with_reducible rfl
             rotate_left
             ·
              simp only[Act.put,sa',sb',sc',i64_w,i32_w];rfl
             refine take_ (i:=6) (N:=some 28) (v:=?_) (a':=?_) #[true,true,true,true,true,true,true,true,false,true,true,false,false,false,false,false,false,false,false,false,false,false,false,false,false,false,false,false,false,false,false,false] rfl rfl (take_ofW HT_.out HW_.out xk') (fun _ _ _ h=>h) (Or.inl ⟨by rfl,?_⟩) hHeld ?_ ?_
             rotate_left
             ·
              rintro w' ⟨s0,s1,s2,s3,s4,s5,s6⟩
              go_simp;with_reducible rfl
             rotate_left
             ·
              simp only[Act.put,sa',sb',sc',i64_w,i32_w];rfl
             refine take_ (i:=8) (N:=some 30) (v:=?_) (a':=?_) #[true,true,true,true,true,true,true,true,true,true,true,false,false,false,false,false,false,false,false,false,false,false,false,false,false,false,false,false,false,false,false,false] rfl rfl (take_ofW HT_.out HW_.out xk') (fun _ _ _ h=>h) (Or.inl ⟨by rfl,?_⟩) hHeld ?_ ?_
             rotate_left
             ·
              rintro w' ⟨s0,s1,s2,s3,s4,s5,s6⟩
              go_simp;with_reducible rfl
             rotate_left
             ·
              simp only[Act.put,sa',sb',sc',i64_w,i32_w];rfl
             refine take_ (i:=11) (N:=some 33) (v:=?_) (a':=?_) #[true,true,true,true,true,true,true,true,true,true,true,true,false,false,false,false,false,false,false,false,false,false,false,false,false,false,false,false,false,false,false,false] rfl rfl (take_ofW HT_.out HW_.out xk') (fun _ _ _ h=>h) (Or.inl ⟨by rfl,?_⟩) hHeld ?_ ?_
             rotate_left
             ·
              rintro w' ⟨s0,s1,s2,s3,s4,s5,s6⟩
              go_simp;with_reducible rfl
             rotate_left
             ·
              simp only[Act.put,sa',sb',sc',i64_w,i32_w];rfl
             refine pure_ (i:=12) (N:=some 34) (v:=?_) (a':=?_) #[true,true,true,true,true,true,true,true,true,true,true,true,true,false,false,false,false,false,false,false,false,false,false,false,false,false,false,false,false,false,false,false] rfl rfl (any_of HT_.out xk') (fun _ _ _ h=>h) (Or.inl ⟨by rfl,?_⟩) ?_ ?_
             rotate_left
             ·
              intro w';go_simp;with_reducible rfl
             rotate_left
             ·
              simp only[Act.put,sa',sb',sc',i64_w,i32_w];rfl
             refine take_ (i:=13) (N:=some 35) (v:=?_) (a':=?_) #[true,true,true,true,true,true,true,true,true,true,true,true,true,true,false,false,false,false,false,false,false,false,false,false,false,false,false,false,false,false,false,false] rfl rfl (take_ofW HT_.out HW_.out xk') (fun _ _ _ h=>h) (Or.inl ⟨by rfl,?_⟩) hHeld ?_ ?_
             rotate_left
             ·
              rintro w' ⟨s0,s1,s2,s3,s4,s5,s6⟩
              go_simp;with_reducible rfl
             rotate_left
             ·
              simp only[Act.put,sa',sb',sc',i64_w,i32_w];rfl
             refine one_ (i:=14) (N:=some 36) #[true,true,true,true,true,true,true,true,true,true,true,true,true,true,true,false,false,false,false,false,false,false,false,false,false,false,false,false,false,false,false,false] rfl rfl (one_of HT_.out xk') (by decide) (fun K hK=>?_);refine goes_ Try.func76 xk' rfl #[.agg #[.slice A0_0 l0_0.length c0_0, .int .i64 a0_1, .int .i64 a0_2], .agg #[.slice (some ad267) l1_0.length c1_0, .int .i64 a1_1], .bool (rdOf false l1_0 (rd (rd_L2 l2 x17_1) 0))] (by rfl) rfl rfl xl' ?_
             with_reducible refine (impl_Night_torches.calls _ _ l0_0 a0_1 a0_2 _ _ l1_0 a1_1 (rdOf false l1_0 (rd (rd_L2 l2 x17_1) 0)) t268 _ ?side1 ?side2 ?side3 ?side4 A19.out).mono ?_
             (case side1=>exact kc' (cb' HR0_0.out HB.out))
             (case side2=>exact HC0_0.out)
             (case side3=>exact kc' (cb' HR1_0.out HB.out))
             (case side4=>exact HC1_0.out)
             rintro e w23 ⟨rfl,hb⟩
             refine ⟨_,rfl,?_⟩;have n0_:=am' (bb' (g:=gb261) (o := .cells #[.slice A0_0 l0_0.length c0_0, .int .i64 a0_1, .int .i64 a0_2] 35 (0,0)) (kk' BK261.out) hb);have n1_:=am' (bb' (g:=gb262) (o := .cells #[.slice (some ad267) l1_0.length c1_0, .int .i64 a1_1] 32 (0,0)) (kk' BK262.out) hb);have n2_:=am' (bt' (y2' GE261.out GE262.out) hb);clear BK261;clear BK262;clear HB;have BK261:=n0_;have BK262:=n1_;have HB:=n2_;clear n0_ n1_ n2_;(try clear hb)
             (try clear hb2)
             (try clear hk)
             (try clear hi)
             refine hK.out _ _ ⟨(bc' BK261.out 0).trans rfl,(bc' BK261.out 1).trans rfl,(bc' BK261.out 2).trans rfl,(bc' BK262.out 0).trans rfl,(bc' BK262.out 1).trans rfl,((HB.out.cell (bl' w _ hw266_0)).trans hw266_0),((HB.out.cell (bl' w _ hw267_0)).trans hw267_0)⟩ (fun hHeld=>?_);clear hK K;refine norm_ (a':=?_) ?_ ?_
             rotate_left
             ·
              show Act.put _ (some 36) _=_
              simp only[Act.put,sa',sb',sc',i64_w,i32_w];rfl
             refine pure_ (i:=15) (N:=some 37) (v:=?_) (a':=?_) #[true,true,true,true,true,true,true,true,true,true,true,true,true,true,true,true,false,false,false,false,false,false,false,false,false,false,false,false,false,false,false,false] rfl rfl (any_of HT_.out xk') (fun _ _ _ h=>h) (Or.inl ⟨by rfl,?_⟩) ?_ ?_
             rotate_left
             ·
              intro w';go_simp;with_reducible rfl
             rotate_left
             ·
              simp only[Act.put,sa',sb',sc',i64_w,i32_w];rfl
             refine pure_ (i:=16) (N:=some 38) (v:=?_) (a':=?_) #[true,true,true,true,true,true,true,true,true,true,true,true,true,true,true,true,true,false,false,false,false,false,false,false,false,false,false,false,false,false,false,false] rfl rfl (any_of HT_.out xk') (fun _ _ _ h=>h) (Or.inl ⟨by rfl,?_⟩) ?_ ?_
             rotate_left
             ·
              intro w';go_simp;with_reducible rfl
             rotate_left
             ·
              simp only[Act.put,sa',sb',sc',i64_w,i32_w];rfl
             refine pure_ (i:=17) (N:=some 39) (v:=?_) (a':=?_) #[true,true,true,true,true,true,true,true,true,true,true,true,true,true,true,true,true,true,false,false,false,false,false,false,false,false,false,false,false,false,false,false] rfl rfl (any_of HT_.out xk') (fun _ _ _ h=>h) (Or.inl ⟨by rfl,?_⟩) ?_ ?_
             rotate_left
             ·
              intro w';go_simp;with_reducible rfl
             rotate_left
             ·
              simp only[Act.put,sa',sb',sc',i64_w,i32_w];rfl
             refine pure_ (i:=18) (N:=some 40) (v:=undef) (a':=?_) #[true,true,true,true,true,true,true,true,true,true,true,true,true,true,true,true,true,true,true,false,false,false,false,false,false,false,false,false,false,false,false,false] rfl rfl (any_of HT_.out xk') (fun _ _ _ h=>h) (Or.inr ⟨by rfl,rfl⟩) ?_ ?_
             rotate_left
             ·
              simp only[Act.put,sa',sb',sc',i64_w,i32_w];rfl
             refine pure_ (i:=19) (N:=some 41) (v:=undef) (a':=?_) #[true,true,true,true,true,true,true,true,true,true,true,true,true,true,true,true,true,true,true,true,false,false,false,false,false,false,false,false,false,false,false,false] rfl rfl (any_of HT_.out xk') (fun _ _ _ h=>h) (Or.inr ⟨by rfl,rfl⟩) ?_ ?_
             rotate_left
             ·
              simp only[Act.put,sa',sb',sc',i64_w,i32_w];rfl
             refine pure_ (i:=20) (N:=some 42) (v:=undef) (a':=?_) #[true,true,true,true,true,true,true,true,true,true,true,true,true,true,true,true,true,true,true,true,true,false,false,false,false,false,false,false,false,false,false,false] rfl rfl (any_of HT_.out xk') (fun _ _ _ h=>h) (Or.inr ⟨by rfl,rfl⟩) ?_ ?_
             rotate_left
             ·
              simp only[Act.put,sa',sb',sc',i64_w,i32_w];rfl
             refine pure_ (i:=21) (N:=some 43) (v:=undef) (a':=?_) #[true,true,true,true,true,true,true,true,true,true,true,true,true,true,true,true,true,true,true,true,true,true,false,false,false,false,false,false,false,false,false,false] rfl rfl (any_of HT_.out xk') (fun _ _ _ h=>h) (Or.inr ⟨by rfl,rfl⟩) ?_ ?_
             rotate_left
             ·
              simp only[Act.put,sa',sb',sc',i64_w,i32_w];rfl
             refine pure_ (i:=22) (N:=some 44) (v:=undef) (a':=?_) #[true,true,true,true,true,true,true,true,true,true,true,true,true,true,true,true,true,true,true,true,true,true,true,false,false,false,false,false,false,false,false,false] rfl rfl (any_of HT_.out xk') (fun _ _ _ h=>h) (Or.inr ⟨by rfl,rfl⟩) ?_ ?_
             rotate_left
             ·
              simp only[Act.put,sa',sb',sc',i64_w,i32_w];rfl
             refine pure_ (i:=23) (N:=some 45) (v:=undef) (a':=?_) #[true,true,true,true,true,true,true,true,true,true,true,true,true,true,true,true,true,true,true,true,true,true,true,true,false,false,false,false,false,false,false,false] rfl rfl (any_of HT_.out xk') (fun _ _ _ h=>h) (Or.inr ⟨by rfl,rfl⟩) ?_ ?_
             rotate_left
             ·
              simp only[Act.put,sa',sb',sc',i64_w,i32_w];rfl
             refine pure_ (i:=24) (N:=some 46) (v:=undef) (a':=?_) #[true,true,true,true,true,true,true,true,true,true,true,true,true,true,true,true,true,true,true,true,true,true,true,true,true,false,false,false,false,false,false,false] rfl rfl (any_of HT_.out xk') (fun _ _ _ h=>h) (Or.inr ⟨by rfl,rfl⟩) ?_ ?_
             rotate_left
             ·
              simp only[Act.put,sa',sb',sc',i64_w,i32_w];rfl
             refine pure_ (i:=25) (N:=some 47) (v:=undef) (a':=?_) #[true,true,true,true,true,true,true,true,true,true,true,true,true,true,true,true,true,true,true,true,true,true,true,true,true,true,false,false,false,false,false,false] rfl rfl (any_of HT_.out xk') (fun _ _ _ h=>h) (Or.inr ⟨by rfl,rfl⟩) ?_ ?_
             rotate_left
             ·
              simp only[Act.put,sa',sb',sc',i64_w,i32_w];rfl
             refine pure_ (i:=26) (N:=some 48) (v:=undef) (a':=?_) #[true,true,true,true,true,true,true,true,true,true,true,true,true,true,true,true,true,true,true,true,true,true,true,true,true,true,true,false,false,false,false,false] rfl rfl (any_of HT_.out xk') (fun _ _ _ h=>h) (Or.inr ⟨by rfl,rfl⟩) ?_ ?_
             rotate_left
             ·
              simp only[Act.put,sa',sb',sc',i64_w,i32_w];rfl
             refine pure_ (i:=27) (N:=some 49) (v:=undef) (a':=?_) #[true,true,true,true,true,true,true,true,true,true,true,true,true,true,true,true,true,true,true,true,true,true,true,true,true,true,true,true,false,false,false,false] rfl rfl (any_of HT_.out xk') (fun _ _ _ h=>h) (Or.inr ⟨by rfl,rfl⟩) ?_ ?_
             rotate_left
             ·
              simp only[Act.put,sa',sb',sc',i64_w,i32_w];rfl
             refine pure_ (i:=28) (N:=some 50) (v:=undef) (a':=?_) #[true,true,true,true,true,true,true,true,true,true,true,true,true,true,true,true,true,true,true,true,true,true,true,true,true,true,true,true,true,false,false,false] rfl rfl (any_of HT_.out xk') (fun _ _ _ h=>h) (Or.inr ⟨by rfl,rfl⟩) ?_ ?_
             rotate_left
             ·
              simp only[Act.put,sa',sb',sc',i64_w,i32_w];rfl
             refine pure_ (i:=29) (N:=some 51) (v:=undef) (a':=?_) #[true,true,true,true,true,true,true,true,true,true,true,true,true,true,true,true,true,true,true,true,true,true,true,true,true,true,true,true,true,true,false,false] rfl rfl (any_of HT_.out xk') (fun _ _ _ h=>h) (Or.inr ⟨by rfl,rfl⟩) ?_ ?_
             rotate_left
             ·
              simp only[Act.put,sa',sb',sc',i64_w,i32_w];rfl
             refine pure_ (i:=30) (N:=some 52) (v:=undef) (a':=?_) #[true,true,true,true,true,true,true,true,true,true,true,true,true,true,true,true,true,true,true,true,true,true,true,true,true,true,true,true,true,true,true,false] rfl rfl (any_of HT_.out xk') (fun _ _ _ h=>h) (Or.inr ⟨by rfl,rfl⟩) ?_ ?_
             rotate_left
             ·
              simp only[Act.put,sa',sb',sc',i64_w,i32_w];rfl
             refine pure_ (i:=31) (N:=some 53) (v:=?_) (a':=?_) #[true,true,true,true,true,true,true,true,true,true,true,true,true,true,true,true,true,true,true,true,true,true,true,true,true,true,true,true,true,true,true,true] rfl rfl (any_of HT_.out xk') (fun _ _ _ h=>h) (Or.inl ⟨by rfl,?_⟩) ?_ ?_
             rotate_left
             ·
              intro w';go_simp;with_reducible rfl
             rotate_left
             ·
              simp only[Act.put,sa',sb',sc',i64_w,i32_w];rfl
             refine done_ (done_of HT_.out xk') ?_
             try go_wp2
             go_meet
             case rel=>exact ⟨_,(true),xs',H',⟨by have:=HK1.out;first|omega|exact Nat.le_refl _⟩,⟨kk' BK261.out⟩,⟨kk' BK262.out⟩,⟨y2' GE261.out GE262.out⟩⟩
            ·
             rw[if_neg c20] at H;have c20b0:(t268 == 0)=false:=beq_eq_false_iff_ne.mpr c20;have c20b1:(t268 != 0)=true:=bne_iff_ne.mpr c20;replace H:=Option.bind_eq_some_iff.mp H;obtain ⟨t271,A240,H⟩:=H;replace H:(impl_Night_isRound.j1 k1 l2 x17_1 (rd_L2 l2 x17_1) l2 (l2.length:Int) x17_1 (!t271) l0_0 a0_1 a0_2 l1_0 a1_1)=some r:=H;have A24:=am' A240;clear A240;have H':=am' H;clear H;try go_wp2
             have n0_:=am' (kd' BK261.out);have n1_:=am' (kd' BK262.out);have n2_:=am' (be' HB.out);clear BK261;clear BK262;clear HB;have BK261:=n0_;have BK262:=n1_;have HB:=n2_;clear n0_ n1_ n2_;have p266:0≤(0:Int):=(by omega)
             have q266:0 < ((rd_L2 l2 x17_1).length:Int):=od' xa';obtain ⟨ad266,e266,hx266_0⟩:=Kd.at_int HR264_0.out 0 p266 q266;have hw266_0:=hx266_0;(try rw [show ((0:Int)).toNat=0 from rfl] at hw266_0)
             (try rw [show 0 * 1=0 from rfl] at hw266_0)
             (try rw [Addr.add_zero'] at hw266_0)
             cases e266
             have qi266:(0 < (rd_L2 l2 x17_1).length)=True:=eq_true (by omega)
             (try rw [show ((0:Int)).toNat=0 from rfl] at hx266_0)
             (try rw [Addr.add_zero'] at hx266_0)
             replace hx266_0:=(HB.out.cell (bl' w _ hx266_0)).trans hx266_0;replace p266:=eq_true p266;replace q266:=eq_true q266;have p267:0≤((rd (rd_L2 l2 x17_1) 0):Int):=od' xa';have q267:(rd (rd_L2 l2 x17_1) 0) < (l1_0.length:Int):=od' xa';obtain ⟨ad267,e267,hx267_0⟩:=Kd.at_bool HR1_0.out (rd (rd_L2 l2 x17_1) 0) p267 q267;have hw267_0:=hx267_0;cases e267;replace hx267_0:=(HB.out.cell (bl' w _ hx267_0)).trans hx267_0;replace p267:=eq_true p267;replace q267:=eq_true q267;have p269:0≤(0:Int):=(by omega)
             have q269:0 < ((rd_L2 l2 x17_1).length:Int):=od' xa';obtain ⟨ad269,e269,hx269_0⟩:=Kd.at_int HR264_0.out 0 p269 q269;have hw269_0:=hx269_0;(try rw [show ((0:Int)).toNat=0 from rfl] at hw269_0)
             (try rw [show 0 * 1=0 from rfl] at hw269_0)
             (try rw [Addr.add_zero'] at hw269_0)
             obtain rfl:ad266=ad269:=(by injection e269)
             have qi269:(0 < (rd_L2 l2 x17_1).length)=True:=eq_true (by omega)
             (try rw [show ((0:Int)).toNat=0 from rfl] at hx269_0)
             (try rw [Addr.add_zero'] at hx269_0)
             replace hx269_0:=(HB.out.cell (bl' w _ hx269_0)).trans hx269_0;replace p269:=eq_true p269;replace q269:=eq_true q269;have p270:0≤((rd (rd_L2 l2 x17_1) 0):Int):=od' xa';have q270:(rd (rd_L2 l2 x17_1) 0) < (l1_0.length:Int):=od' xa';obtain ⟨ad270,e270,hx270_0⟩:=Kd.at_bool HR1_0.out (rd (rd_L2 l2 x17_1) 0) p270 q270;have hw270_0:=hx270_0;obtain rfl:ad267=ad270:=(by injection e270)
             replace hx270_0:=(HB.out.cell (bl' w _ hx270_0)).trans hx270_0;replace p270:=eq_true p270;replace q270:=eq_true q270;refine start_ (n:=32) (S:=fun w'=>w'.cell? ⟨gb261,0,none⟩=some (.slice A0_0 l0_0.length c0_0)∧w'.cell? ⟨gb261,1,none⟩=some (.int .i64 a0_1)∧w'.cell? ⟨gb261,2,none⟩=some (.int .i64 a0_2)∧w'.cell? ⟨gb262,0,none⟩=some (.slice (some ad267) l1_0.length c1_0)∧w'.cell? ⟨gb262,1,none⟩=some (.int .i64 a1_1)∧w'.cell? ad266=some (.int .i64 (rd (rd_L2 l2 x17_1) 0))∧w'.cell? (ad267.add ((rd (rd_L2 l2 x17_1) 0)).toNat)=some (.bool (rdOf false l1_0 (rd (rd_L2 l2 x17_1) 0)))∧w'.cell? ad266=some (.int .i64 (rd (rd_L2 l2 x17_1) 0))∧w'.cell? (ad267.add ((rd (rd_L2 l2 x17_1) 0)).toNat)=some (.bool (rdOf false l1_0 (rd (rd_L2 l2 x17_1) 0)))) (ds:=[]) #[false,false,false,false,false,false,false,false,false,false,false,false,false,false,false,false,false,false,false,false,false,false,false,false,false,false,false,false,false,false,false,false] xk' rfl rfl ⟨(bc' BK261.out 0).trans rfl,(bc' BK261.out 1).trans rfl,(bc' BK261.out 2).trans rfl,(bc' BK262.out 0).trans rfl,(bc' BK262.out 1).trans rfl,((HB.out.cell (bl' w _ hw266_0)).trans hw266_0),((HB.out.cell (bl' w _ hw267_0)).trans hw267_0),((HB.out.cell (bl' w _ hw269_0)).trans hw269_0),((HB.out.cell (bl' w _ hw270_0)).trans hw270_0)⟩ (fun hHeld=>?_);refine with_tabW impl_Night_isRound.tab6 impl_Night_isRound.bits6 (fun HT_ HW_=>?_);generalize wr.drew=w25 at BK261 BK262 HB hx266_0 hx267_0 hx269_0 hx270_0 hHeld ⊢
             refine pure_ (i:=1) (N:=some 23) (v:=?_) (a':=?_) #[false,true,false,false,false,false,false,false,false,false,false,false,false,false,false,false,false,false,false,false,false,false,false,false,false,false,false,false,false,false,false,false] rfl rfl (any_of HT_.out xk') (fun _ _ _ h=>h) (Or.inl ⟨by rfl,?_⟩) ?_ ?_
             rotate_left
             ·
              intro w';go_simp;with_reducible rfl
             rotate_left
             ·
              simp only[Act.put,sa',sb',sc',i64_w,i32_w];rfl
             refine take_ (i:=0) (N:=some 22) (v:=?_) (a':=?_) #[true,true,false,false,false,false,false,false,false,false,false,false,false,false,false,false,false,false,false,false,false,false,false,false,false,false,false,false,false,false,false,false] rfl rfl (take_ofW HT_.out HW_.out xk') (fun _ _ _ h=>h) (Or.inl ⟨by rfl,?_⟩) hHeld ?_ ?_
             rotate_left
             ·
              rintro w' ⟨s0,s1,s2,s3,s4,s5,s6,s7,s8⟩
              go_simp;with_reducible rfl
             rotate_left
             ·
              simp only[Act.put,sa',sb',sc',i64_w,i32_w];rfl
             refine one_ (i:=2) (N:=some 24) #[true,true,true,false,false,false,false,false,false,false,false,false,false,false,false,false,false,false,false,false,false,false,false,false,false,false,false,false,false,false,false,false] rfl rfl (one_of HT_.out xk') (by decide) (fun K hK=>?_);refine goes_ Try.func75 xk' rfl #[.agg #[.slice A0_0 l0_0.length c0_0, .int .i64 a0_1, .int .i64 a0_2], .slice (some ad266) (rd_L2 l2 x17_1).length c264_0] (by rfl) rfl rfl xl' ?_
             with_reducible refine (impl_Night_isGroup.calls k1 _ _ l0_0 a0_1 a0_2 _ _ (rd_L2 l2 x17_1) true _ ?side1 ?side2 ?side3 ?side4 A14.out).mono ?_
             (case side1=>exact kc' (cb' HR0_0.out HB.out))
             (case side2=>exact HC0_0.out)
             (case side3=>exact kc' (cb' HR264_0.out HB.out))
             (case side4=>exact HC264_0.out)
             rintro e w26 ⟨rfl,hb⟩
             refine ⟨_,rfl,?_⟩;have n0_:=am' (bb' (g:=gb261) (o := .cells #[.slice A0_0 l0_0.length c0_0, .int .i64 a0_1, .int .i64 a0_2] 35 (0,0)) (kk' BK261.out) hb);have n1_:=am' (bb' (g:=gb262) (o := .cells #[.slice (some ad267) l1_0.length c1_0, .int .i64 a1_1] 32 (0,0)) (kk' BK262.out) hb);have n2_:=am' (bt' (y2' GE261.out GE262.out) hb);clear BK261;clear BK262;clear HB;have BK261:=n0_;have BK262:=n1_;have HB:=n2_;clear n0_ n1_ n2_;(try clear hb)
             (try clear hb2)
             (try clear hk)
             (try clear hi)
             refine hK.out _ _ ⟨(bc' BK261.out 0).trans rfl,(bc' BK261.out 1).trans rfl,(bc' BK261.out 2).trans rfl,(bc' BK262.out 0).trans rfl,(bc' BK262.out 1).trans rfl,((HB.out.cell (bl' w _ hw266_0)).trans hw266_0),((HB.out.cell (bl' w _ hw267_0)).trans hw267_0),((HB.out.cell (bl' w _ hw269_0)).trans hw269_0),((HB.out.cell (bl' w _ hw270_0)).trans hw270_0)⟩ (fun hHeld=>?_);clear hK K;refine norm_ (a':=?_) ?_ ?_
             rotate_left
             ·
              show Act.put _ (some 24) _=_
              simp only[Act.put,sa',sb',sc',i64_w,i32_w];rfl
             refine pure_ (i:=3) (N:=some 25) (v:=?_) (a':=?_) #[true,true,true,true,false,false,false,false,false,false,false,false,false,false,false,false,false,false,false,false,false,false,false,false,false,false,false,false,false,false,false,false] rfl rfl (any_of HT_.out xk') (fun _ _ _ h=>h) (Or.inl ⟨by rfl,?_⟩) ?_ ?_
             rotate_left
             ·
              intro w';go_simp;with_reducible rfl
             rotate_left
             ·
              simp only[Act.put,sa',sb',sc',i64_w,i32_w];rfl
             refine pure_ (i:=4) (N:=some 26) (v:=?_) (a':=?_) #[true,true,true,true,true,false,false,false,false,false,false,false,false,false,false,false,false,false,false,false,false,false,false,false,false,false,false,false,false,false,false,false] rfl rfl (any_of HT_.out xk') (fun _ _ _ h=>h) (Or.inl ⟨by rfl,?_⟩) ?_ ?_
             rotate_left
             ·
              intro w';go_simp;with_reducible rfl
             rotate_left
             ·
              simp only[Act.put,sa',sb',sc',i64_w,i32_w];rfl
             refine pure_ (i:=7) (N:=some 29) (v:=?_) (a':=?_) #[true,true,true,true,true,false,false,true,false,false,false,false,false,false,false,false,false,false,false,false,false,false,false,false,false,false,false,false,false,false,false,false] rfl rfl (any_of HT_.out xk') (fun _ _ _ h=>h) (Or.inl ⟨by rfl,?_⟩) ?_ ?_
             rotate_left
             ·
              intro w';go_simp;with_reducible rfl
             rotate_left
             ·
              simp only[Act.put,sa',sb',sc',i64_w,i32_w];rfl
             refine pure_ (i:=9) (N:=some 31) (v:=?_) (a':=?_) #[true,true,true,true,true,false,false,true,false,true,false,false,false,false,false,false,false,false,false,false,false,false,false,false,false,false,false,false,false,false,false,false] rfl rfl (any_of HT_.out xk') (fun _ _ _ h=>h) (Or.inl ⟨by rfl,?_⟩) ?_ ?_
             rotate_left
             ·
              intro w';go_simp;with_reducible rfl
             rotate_left
             ·
              simp only[Act.put,sa',sb',sc',i64_w,i32_w];rfl
             refine pure_ (i:=10) (N:=some 32) (v:=?_) (a':=?_) #[true,true,true,true,true,false,false,true,false,true,true,false,false,false,false,false,false,false,false,false,false,false,false,false,false,false,false,false,false,false,false,false] rfl rfl (any_of HT_.out xk') (fun _ _ _ h=>h) (Or.inl ⟨by rfl,?_⟩) ?_ ?_
             rotate_left
             ·
              intro w';go_simp;with_reducible rfl
             rotate_left
             ·
              simp only[Act.put,sa',sb',sc',i64_w,i32_w];rfl
             refine take_ (i:=5) (N:=some 27) (v:=?_) (a':=?_) #[true,true,true,true,true,true,false,true,false,true,true,false,false,false,false,false,false,false,false,false,false,false,false,false,false,false,false,false,false,false,false,false] rfl rfl (take_ofW HT_.out HW_.out xk') (fun _ _ _ h=>h) (Or.inl ⟨by rfl,?_⟩) hHeld ?_ ?_
             rotate_left
             ·
              rintro w' ⟨s0,s1,s2,s3,s4,s5,s6,s7,s8⟩
              go_simp;with_reducible rfl
             rotate_left
             ·
              simp only[Act.put,sa',sb',sc',i64_w,i32_w];rfl
             refine take_ (i:=6) (N:=some 28) (v:=?_) (a':=?_) #[true,true,true,true,true,true,true,true,false,true,true,false,false,false,false,false,false,false,false,false,false,false,false,false,false,false,false,false,false,false,false,false] rfl rfl (take_ofW HT_.out HW_.out xk') (fun _ _ _ h=>h) (Or.inl ⟨by rfl,?_⟩) hHeld ?_ ?_
             rotate_left
             ·
              rintro w' ⟨s0,s1,s2,s3,s4,s5,s6,s7,s8⟩
              go_simp;with_reducible rfl
             rotate_left
             ·
              simp only[Act.put,sa',sb',sc',i64_w,i32_w];rfl
             refine take_ (i:=8) (N:=some 30) (v:=?_) (a':=?_) #[true,true,true,true,true,true,true,true,true,true,true,false,false,false,false,false,false,false,false,false,false,false,false,false,false,false,false,false,false,false,false,false] rfl rfl (take_ofW HT_.out HW_.out xk') (fun _ _ _ h=>h) (Or.inl ⟨by rfl,?_⟩) hHeld ?_ ?_
             rotate_left
             ·
              rintro w' ⟨s0,s1,s2,s3,s4,s5,s6,s7,s8⟩
              go_simp;with_reducible rfl
             rotate_left
             ·
              simp only[Act.put,sa',sb',sc',i64_w,i32_w];rfl
             refine take_ (i:=11) (N:=some 33) (v:=?_) (a':=?_) #[true,true,true,true,true,true,true,true,true,true,true,true,false,false,false,false,false,false,false,false,false,false,false,false,false,false,false,false,false,false,false,false] rfl rfl (take_ofW HT_.out HW_.out xk') (fun _ _ _ h=>h) (Or.inl ⟨by rfl,?_⟩) hHeld ?_ ?_
             rotate_left
             ·
              rintro w' ⟨s0,s1,s2,s3,s4,s5,s6,s7,s8⟩
              go_simp;with_reducible rfl
             rotate_left
             ·
              simp only[Act.put,sa',sb',sc',i64_w,i32_w];rfl
             refine pure_ (i:=12) (N:=some 34) (v:=?_) (a':=?_) #[true,true,true,true,true,true,true,true,true,true,true,true,true,false,false,false,false,false,false,false,false,false,false,false,false,false,false,false,false,false,false,false] rfl rfl (any_of HT_.out xk') (fun _ _ _ h=>h) (Or.inl ⟨by rfl,?_⟩) ?_ ?_
             rotate_left
             ·
              intro w';go_simp;with_reducible rfl
             rotate_left
             ·
              simp only[Act.put,sa',sb',sc',i64_w,i32_w];rfl
             refine take_ (i:=13) (N:=some 35) (v:=?_) (a':=?_) #[true,true,true,true,true,true,true,true,true,true,true,true,true,true,false,false,false,false,false,false,false,false,false,false,false,false,false,false,false,false,false,false] rfl rfl (take_ofW HT_.out HW_.out xk') (fun _ _ _ h=>h) (Or.inl ⟨by rfl,?_⟩) hHeld ?_ ?_
             rotate_left
             ·
              rintro w' ⟨s0,s1,s2,s3,s4,s5,s6,s7,s8⟩
              go_simp;with_reducible rfl
             rotate_left
             ·
              simp only[Act.put,sa',sb',sc',i64_w,i32_w];rfl
             refine one_ (i:=14) (N:=some 36) #[true,true,true,true,true,true,true,true,true,true,true,true,true,true,true,false,false,false,false,false,false,false,false,false,false,false,false,false,false,false,false,false] rfl rfl (one_of HT_.out xk') (by decide) (fun K hK=>?_);refine goes_ Try.func76 xk' rfl #[.agg #[.slice A0_0 l0_0.length c0_0, .int .i64 a0_1, .int .i64 a0_2], .agg #[.slice (some ad267) l1_0.length c1_0, .int .i64 a1_1], .bool (rdOf false l1_0 (rd (rd_L2 l2 x17_1) 0))] (by rfl) rfl rfl xl' ?_
             with_reducible refine (impl_Night_torches.calls _ _ l0_0 a0_1 a0_2 _ _ l1_0 a1_1 (rdOf false l1_0 (rd (rd_L2 l2 x17_1) 0)) t268 _ ?side1 ?side2 ?side3 ?side4 A19.out).mono ?_
             (case side1=>exact kc' (cb' HR0_0.out HB.out))
             (case side2=>exact HC0_0.out)
             (case side3=>exact kc' (cb' HR1_0.out HB.out))
             (case side4=>exact HC1_0.out)
             rintro e w27 ⟨rfl,hb⟩
             refine ⟨_,rfl,?_⟩;have n0_:=am' (bb' (g:=gb261) (o := .cells #[.slice A0_0 l0_0.length c0_0, .int .i64 a0_1, .int .i64 a0_2] 35 (0,0)) (kk' BK261.out) hb);have n1_:=am' (bb' (g:=gb262) (o := .cells #[.slice (some ad267) l1_0.length c1_0, .int .i64 a1_1] 32 (0,0)) (kk' BK262.out) hb);have n2_:=am' (bt' (y2' GE261.out GE262.out) hb);clear BK261;clear BK262;clear HB;have BK261:=n0_;have BK262:=n1_;have HB:=n2_;clear n0_ n1_ n2_;(try clear hb)
             (try clear hb2)
             (try clear hk)
             (try clear hi)
             refine hK.out _ _ ⟨(bc' BK261.out 0).trans rfl,(bc' BK261.out 1).trans rfl,(bc' BK261.out 2).trans rfl,(bc' BK262.out 0).trans rfl,(bc' BK262.out 1).trans rfl,((HB.out.cell (bl' w _ hw266_0)).trans hw266_0),((HB.out.cell (bl' w _ hw267_0)).trans hw267_0),((HB.out.cell (bl' w _ hw269_0)).trans hw269_0),((HB.out.cell (bl' w _ hw270_0)).trans hw270_0)⟩ (fun hHeld=>?_);clear hK K;refine norm_ (a':=?_) ?_ ?_
             rotate_left
             ·
              show Act.put _ (some 36) _=_
              simp only[Act.put,sa',sb',sc',i64_w,i32_w];rfl
             refine pure_ (i:=15) (N:=some 37) (v:=?_) (a':=?_) #[true,true,true,true,true,true,true,true,true,true,true,true,true,true,true,true,false,false,false,false,false,false,false,false,false,false,false,false,false,false,false,false] rfl rfl (any_of HT_.out xk') (fun _ _ _ h=>h) (Or.inl ⟨by rfl,?_⟩) ?_ ?_
             rotate_left
             ·
              intro w';go_simp;with_reducible rfl
             rotate_left
             ·
              simp only[Act.put,sa',sb',sc',i64_w,i32_w];rfl
             refine pure_ (i:=16) (N:=some 38) (v:=?_) (a':=?_) #[true,true,true,true,true,true,true,true,true,true,true,true,true,true,true,true,true,false,false,false,false,false,false,false,false,false,false,false,false,false,false,false] rfl rfl (any_of HT_.out xk') (fun _ _ _ h=>h) (Or.inl ⟨by rfl,?_⟩) ?_ ?_
             rotate_left
             ·
              intro w';go_simp;with_reducible rfl
             rotate_left
             ·
              simp only[Act.put,sa',sb',sc',i64_w,i32_w];rfl
             refine pure_ (i:=17) (N:=some 39) (v:=?_) (a':=?_) #[true,true,true,true,true,true,true,true,true,true,true,true,true,true,true,true,true,true,false,false,false,false,false,false,false,false,false,false,false,false,false,false] rfl rfl (any_of HT_.out xk') (fun _ _ _ h=>h) (Or.inl ⟨by rfl,?_⟩) ?_ ?_
             rotate_left
             ·
              intro w';go_simp;with_reducible rfl
             rotate_left
             ·
              simp only[Act.put,sa',sb',sc',i64_w,i32_w];rfl
             refine pure_ (i:=18) (N:=some 40) (v:=?_) (a':=?_) #[true,true,true,true,true,true,true,true,true,true,true,true,true,true,true,true,true,true,true,false,false,false,false,false,false,false,false,false,false,false,false,false] rfl rfl (any_of HT_.out xk') (fun _ _ _ h=>h) (Or.inl ⟨by rfl,?_⟩) ?_ ?_
             rotate_left
             ·
              intro w';go_simp;with_reducible rfl
             rotate_left
             ·
              simp only[Act.put,sa',sb',sc',i64_w,i32_w];rfl
             refine pure_ (i:=21) (N:=some 43) (v:=?_) (a':=?_) #[true,true,true,true,true,true,true,true,true,true,true,true,true,true,true,true,true,true,true,false,false,true,false,false,false,false,false,false,false,false,false,false] rfl rfl (any_of HT_.out xk') (fun _ _ _ h=>h) (Or.inl ⟨by rfl,?_⟩) ?_ ?_
             rotate_left
             ·
              intro w';go_simp;with_reducible rfl
             rotate_left
             ·
              simp only[Act.put,sa',sb',sc',i64_w,i32_w];rfl
             refine pure_ (i:=22) (N:=some 44) (v:=?_) (a':=?_) #[true,true,true,true,true,true,true,true,true,true,true,true,true,true,true,true,true,true,true,false,false,true,true,false,false,false,false,false,false,false,false,false] rfl rfl (any_of HT_.out xk') (fun _ _ _ h=>h) (Or.inl ⟨by rfl,?_⟩) ?_ ?_
             rotate_left
             ·
              intro w';go_simp;with_reducible rfl
             rotate_left
             ·
              simp only[Act.put,sa',sb',sc',i64_w,i32_w];rfl
             refine pure_ (i:=24) (N:=some 46) (v:=?_) (a':=?_) #[true,true,true,true,true,true,true,true,true,true,true,true,true,true,true,true,true,true,true,false,false,true,true,false,true,false,false,false,false,false,false,false] rfl rfl (any_of HT_.out xk') (fun _ _ _ h=>h) (Or.inl ⟨by rfl,?_⟩) ?_ ?_
             rotate_left
             ·
              intro w';go_simp;with_reducible rfl
             rotate_left
             ·
              simp only[Act.put,sa',sb',sc',i64_w,i32_w];rfl
             refine pure_ (i:=25) (N:=some 47) (v:=?_) (a':=?_) #[true,true,true,true,true,true,true,true,true,true,true,true,true,true,true,true,true,true,true,false,false,true,true,false,true,true,false,false,false,false,false,false] rfl rfl (any_of HT_.out xk') (fun _ _ _ h=>h) (Or.inl ⟨by rfl,?_⟩) ?_ ?_
             rotate_left
             ·
              intro w';go_simp;with_reducible rfl
             rotate_left
             ·
              simp only[Act.put,sa',sb',sc',i64_w,i32_w];rfl
             refine take_ (i:=19) (N:=some 41) (v:=?_) (a':=?_) #[true,true,true,true,true,true,true,true,true,true,true,true,true,true,true,true,true,true,true,true,false,true,true,false,true,true,false,false,false,false,false,false] rfl rfl (take_ofW HT_.out HW_.out xk') (fun _ _ _ h=>h) (Or.inl ⟨by rfl,?_⟩) hHeld ?_ ?_
             rotate_left
             ·
              rintro w' ⟨s0,s1,s2,s3,s4,s5,s6,s7,s8⟩
              go_simp;with_reducible rfl
             rotate_left
             ·
              simp only[Act.put,sa',sb',sc',i64_w,i32_w];rfl
             refine pure_ (i:=20) (N:=some 42) (v:=?_) (a':=?_) #[true,true,true,true,true,true,true,true,true,true,true,true,true,true,true,true,true,true,true,true,true,true,true,false,true,true,false,false,false,false,false,false] rfl rfl (any_of HT_.out xk') (fun _ _ _ h=>h) (Or.inl ⟨by rfl,?_⟩) ?_ ?_
             rotate_left
             ·
              intro w';go_simp;with_reducible rfl
             rotate_left
             ·
              simp only[Act.put,sa',sb',sc',i64_w,i32_w];rfl
             refine take_ (i:=23) (N:=some 45) (v:=?_) (a':=?_) #[true,true,true,true,true,true,true,true,true,true,true,true,true,true,true,true,true,true,true,true,true,true,true,true,true,true,false,false,false,false,false,false] rfl rfl (take_ofW HT_.out HW_.out xk') (fun _ _ _ h=>h) (Or.inl ⟨by rfl,?_⟩) hHeld ?_ ?_
             rotate_left
             ·
              rintro w' ⟨s0,s1,s2,s3,s4,s5,s6,s7,s8⟩
              go_simp;with_reducible rfl
             rotate_left
             ·
              simp only[Act.put,sa',sb',sc',i64_w,i32_w];rfl
             refine take_ (i:=26) (N:=some 48) (v:=?_) (a':=?_) #[true,true,true,true,true,true,true,true,true,true,true,true,true,true,true,true,true,true,true,true,true,true,true,true,true,true,true,false,false,false,false,false] rfl rfl (take_ofW HT_.out HW_.out xk') (fun _ _ _ h=>h) (Or.inl ⟨by rfl,?_⟩) hHeld ?_ ?_
             rotate_left
             ·
              rintro w' ⟨s0,s1,s2,s3,s4,s5,s6,s7,s8⟩
              go_simp;with_reducible rfl
             rotate_left
             ·
              simp only[Act.put,sa',sb',sc',i64_w,i32_w];rfl
             refine pure_ (i:=27) (N:=some 49) (v:=?_) (a':=?_) #[true,true,true,true,true,true,true,true,true,true,true,true,true,true,true,true,true,true,true,true,true,true,true,true,true,true,true,true,false,false,false,false] rfl rfl (any_of HT_.out xk') (fun _ _ _ h=>h) (Or.inl ⟨by rfl,?_⟩) ?_ ?_
             rotate_left
             ·
              intro w';go_simp;with_reducible rfl
             rotate_left
             ·
              simp only[Act.put,sa',sb',sc',i64_w,i32_w];rfl
             refine take_ (i:=28) (N:=some 50) (v:=?_) (a':=?_) #[true,true,true,true,true,true,true,true,true,true,true,true,true,true,true,true,true,true,true,true,true,true,true,true,true,true,true,true,true,false,false,false] rfl rfl (take_ofW HT_.out HW_.out xk') (fun _ _ _ h=>h) (Or.inl ⟨by rfl,?_⟩) hHeld ?_ ?_
             rotate_left
             ·
              rintro w' ⟨s0,s1,s2,s3,s4,s5,s6,s7,s8⟩
              go_simp;with_reducible rfl
             rotate_left
             ·
              simp only[Act.put,sa',sb',sc',i64_w,i32_w];rfl
             refine one_ (i:=29) (N:=some 51) #[true,true,true,true,true,true,true,true,true,true,true,true,true,true,true,true,true,true,true,true,true,true,true,true,true,true,true,true,true,true,false,false] rfl rfl (one_of HT_.out xk') (by decide) (fun K hK=>?_);refine goes_ Try.func77 xk' rfl #[.agg #[.slice (some ad267) l1_0.length c1_0, .bool false], .slice (some ad266) (rd_L2 l2 x17_1).length c264_0, .bool (rdOf false l1_0 (rd (rd_L2 l2 x17_1) 0))] (by rfl) rfl rfl xl' ?_
             with_reducible refine (impl_State_are.calls _ _ l1_0 false _ _ (rd_L2 l2 x17_1) (rdOf false l1_0 (rd (rd_L2 l2 x17_1) 0)) t271 _ ?side1 ?side2 ?side3 ?side4 A24.out).mono ?_
             (case side1=>exact kc' (cb' HR1_0.out HB.out))
             (case side2=>exact HC1_0.out)
             (case side3=>exact kc' (cb' HR264_0.out HB.out))
             (case side4=>exact HC264_0.out)
             rintro e w28 ⟨rfl,hb⟩
             refine ⟨_,rfl,?_⟩;have n0_:=am' (bb' (g:=gb261) (o := .cells #[.slice A0_0 l0_0.length c0_0, .int .i64 a0_1, .int .i64 a0_2] 35 (0,0)) (kk' BK261.out) hb);have n1_:=am' (bb' (g:=gb262) (o := .cells #[.slice (some ad267) l1_0.length c1_0, .int .i64 a1_1] 32 (0,0)) (kk' BK262.out) hb);have n2_:=am' (bt' (y2' GE261.out GE262.out) hb);clear BK261;clear BK262;clear HB;have BK261:=n0_;have BK262:=n1_;have HB:=n2_;clear n0_ n1_ n2_;(try clear hb)
             (try clear hb2)
             (try clear hk)
             (try clear hi)
             refine hK.out _ _ ⟨(bc' BK261.out 0).trans rfl,(bc' BK261.out 1).trans rfl,(bc' BK261.out 2).trans rfl,(bc' BK262.out 0).trans rfl,(bc' BK262.out 1).trans rfl,((HB.out.cell (bl' w _ hw266_0)).trans hw266_0),((HB.out.cell (bl' w _ hw267_0)).trans hw267_0),((HB.out.cell (bl' w _ hw269_0)).trans hw269_0),((HB.out.cell (bl' w _ hw270_0)).trans hw270_0)⟩ (fun hHeld=>?_);clear hK K;refine norm_ (a':=?_) ?_ ?_
             rotate_left
             ·
              show Act.put _ (some 51) _=_
              simp only[Act.put,sa',sb',sc',i64_w,i32_w];rfl
             refine pure_ (i:=30) (N:=some 52) (v:=?_) (a':=?_) #[true,true,true,true,true,true,true,true,true,true,true,true,true,true,true,true,true,true,true,true,true,true,true,true,true,true,true,true,true,true,true,false] rfl rfl (any_of HT_.out xk') (fun _ _ _ h=>h) (Or.inl ⟨by rfl,?_⟩) ?_ ?_
             rotate_left
             ·
              intro w';go_simp;with_reducible rfl
             rotate_left
             ·
              simp only[Act.put,sa',sb',sc',i64_w,i32_w];rfl
             refine pure_ (i:=31) (N:=some 53) (v:=?_) (a':=?_) #[true,true,true,true,true,true,true,true,true,true,true,true,true,true,true,true,true,true,true,true,true,true,true,true,true,true,true,true,true,true,true,true] rfl rfl (any_of HT_.out xk') (fun _ _ _ h=>h) (Or.inl ⟨by rfl,?_⟩) ?_ ?_
             rotate_left
             ·
              intro w';go_simp;with_reducible rfl
             rotate_left
             ·
              simp only[Act.put,sa',sb',sc',i64_w,i32_w];rfl
             refine done_ (done_of HT_.out xk') ?_
             try go_wp2
             go_meet
             case rel=>exact ⟨_,(!t271),xs',H',⟨by have:=HK1.out;first|omega|exact Nat.le_refl _⟩,⟨kk' BK261.out⟩,⟨kk' BK262.out⟩,⟨y2' GE261.out GE262.out⟩⟩
           ·
            rw[if_neg c18] at H;exact absurd H (by simp)
          ·
           rw[if_neg c17] at H;exact absurd H (by simp)
         ·
          rw[if_neg c16] at H;exact absurd H (by simp)
        ·
         replace c15:=Bool.eq_false_iff.mpr c15;subst c15;have H1:(impl_Night_isRound.j1 k1 l2 x17_1 (rd_L2 l2 x17_1) l2 (l2.length:Int) x17_1 true l0_0 a0_1 a0_2 l1_0 a1_1)=some r:=by rw[if_neg (show ¬ (false=true) by decide)] at H;exact H
         clear H;have H:=H1;clear H1;have H':=am' H;clear H;try go_wp2
         have n0_:=am' (kd' BK261.out);have n1_:=am' (kd' BK262.out);have n2_:=am' (be' HB.out);clear BK261;clear BK262;clear HB;have BK261:=n0_;have BK262:=n1_;have HB:=n2_;clear n0_ n1_ n2_;refine start_ (n:=32) (S:=fun w'=>w'.cell? ⟨gb261,0,none⟩=some (.slice A0_0 l0_0.length c0_0)∧w'.cell? ⟨gb261,1,none⟩=some (.int .i64 a0_1)∧w'.cell? ⟨gb261,2,none⟩=some (.int .i64 a0_2)) (ds:=[]) #[false,false,false,false,false,false,false,false,false,false,false,false,false,false,false,false,false,false,false,false,false,false,false,false,false,false,false,false,false,false,false,false] xk' rfl rfl ⟨(bc' BK261.out 0).trans rfl,(bc' BK261.out 1).trans rfl,(bc' BK261.out 2).trans rfl⟩ (fun hHeld=>?_);refine with_tabW impl_Night_isRound.tab6 impl_Night_isRound.bits6 (fun HT_ HW_=>?_);generalize wr.drew=w29 at BK261 BK262 HB hHeld ⊢
         refine pure_ (i:=1) (N:=some 23) (v:=?_) (a':=?_) #[false,true,false,false,false,false,false,false,false,false,false,false,false,false,false,false,false,false,false,false,false,false,false,false,false,false,false,false,false,false,false,false] rfl rfl (any_of HT_.out xk') (fun _ _ _ h=>h) (Or.inl ⟨by rfl,?_⟩) ?_ ?_
         rotate_left
         ·
          intro w';go_simp;with_reducible rfl
         rotate_left
         ·
          simp only[Act.put,sa',sb',sc',i64_w,i32_w];rfl
         refine take_ (i:=0) (N:=some 22) (v:=?_) (a':=?_) #[true,true,false,false,false,false,false,false,false,false,false,false,false,false,false,false,false,false,false,false,false,false,false,false,false,false,false,false,false,false,false,false] rfl rfl (take_ofW HT_.out HW_.out xk') (fun _ _ _ h=>h) (Or.inl ⟨by rfl,?_⟩) hHeld ?_ ?_
         rotate_left
         ·
          rintro w' ⟨s0,s1,s2⟩
          go_simp;with_reducible rfl
         rotate_left
         ·
          simp only[Act.put,sa',sb',sc',i64_w,i32_w];rfl
         refine one_ (i:=2) (N:=some 24) #[true,true,true,false,false,false,false,false,false,false,false,false,false,false,false,false,false,false,false,false,false,false,false,false,false,false,false,false,false,false,false,false] rfl rfl (one_of HT_.out xk') (by decide) (fun K hK=>?_);refine goes_ Try.func75 xk' rfl #[.agg #[.slice A0_0 l0_0.length c0_0, .int .i64 a0_1, .int .i64 a0_2], .slice A264_0 (rd_L2 l2 x17_1).length c264_0] (by rfl) rfl rfl xl' ?_
         with_reducible refine (impl_Night_isGroup.calls k1 _ _ l0_0 a0_1 a0_2 _ _ (rd_L2 l2 x17_1) false _ ?side1 ?side2 ?side3 ?side4 A14.out).mono ?_
         (case side1=>exact kc' (cb' HR0_0.out HB.out))
         (case side2=>exact HC0_0.out)
         (case side3=>exact kc' (cb' HR264_0.out HB.out))
         (case side4=>exact HC264_0.out)
         rintro e w30 ⟨rfl,hb⟩
         refine ⟨_,rfl,?_⟩;have n0_:=am' (bb' (g:=gb261) (o := .cells #[.slice A0_0 l0_0.length c0_0, .int .i64 a0_1, .int .i64 a0_2] 35 (0,0)) (kk' BK261.out) hb);have n1_:=am' (bb' (g:=gb262) (o := .cells #[.slice A1_0 l1_0.length c1_0, .int .i64 a1_1] 32 (0,0)) (kk' BK262.out) hb);have n2_:=am' (bt' (y2' GE261.out GE262.out) hb);clear BK261;clear BK262;clear HB;have BK261:=n0_;have BK262:=n1_;have HB:=n2_;clear n0_ n1_ n2_;(try clear hb)
         (try clear hb2)
         (try clear hk)
         (try clear hi)
         refine hK.out _ _ ⟨(bc' BK261.out 0).trans rfl,(bc' BK261.out 1).trans rfl,(bc' BK261.out 2).trans rfl⟩ (fun hHeld=>?_);clear hK K;refine norm_ (a':=?_) ?_ ?_
         rotate_left
         ·
          show Act.put _ (some 24) _=_
          simp only[Act.put,sa',sb',sc',i64_w,i32_w];rfl
         refine pure_ (i:=3) (N:=some 25) (v:=?_) (a':=?_) #[true,true,true,true,false,false,false,false,false,false,false,false,false,false,false,false,false,false,false,false,false,false,false,false,false,false,false,false,false,false,false,false] rfl rfl (any_of HT_.out xk') (fun _ _ _ h=>h) (Or.inl ⟨by rfl,?_⟩) ?_ ?_
         rotate_left
         ·
          intro w';go_simp;with_reducible rfl
         rotate_left
         ·
          simp only[Act.put,sa',sb',sc',i64_w,i32_w];rfl
         refine pure_ (i:=4) (N:=some 26) (v:=?_) (a':=?_) #[true,true,true,true,true,false,false,false,false,false,false,false,false,false,false,false,false,false,false,false,false,false,false,false,false,false,false,false,false,false,false,false] rfl rfl (any_of HT_.out xk') (fun _ _ _ h=>h) (Or.inl ⟨by rfl,?_⟩) ?_ ?_
         rotate_left
         ·
          intro w';go_simp;with_reducible rfl
         rotate_left
         ·
          simp only[Act.put,sa',sb',sc',i64_w,i32_w];rfl
         refine pure_ (i:=5) (N:=some 27) (v:=undef) (a':=?_) #[true,true,true,true,true,true,false,false,false,false,false,false,false,false,false,false,false,false,false,false,false,false,false,false,false,false,false,false,false,false,false,false] rfl rfl (any_of HT_.out xk') (fun _ _ _ h=>h) (Or.inr ⟨by rfl,rfl⟩) ?_ ?_
         rotate_left
         ·
          simp only[Act.put,sa',sb',sc',i64_w,i32_w];rfl
         refine pure_ (i:=6) (N:=some 28) (v:=undef) (a':=?_) #[true,true,true,true,true,true,true,false,false,false,false,false,false,false,false,false,false,false,false,false,false,false,false,false,false,false,false,false,false,false,false,false] rfl rfl (any_of HT_.out xk') (fun _ _ _ h=>h) (Or.inr ⟨by rfl,rfl⟩) ?_ ?_
         rotate_left
         ·
          simp only[Act.put,sa',sb',sc',i64_w,i32_w];rfl
         refine pure_ (i:=7) (N:=some 29) (v:=undef) (a':=?_) #[true,true,true,true,true,true,true,true,false,false,false,false,false,false,false,false,false,false,false,false,false,false,false,false,false,false,false,false,false,false,false,false] rfl rfl (any_of HT_.out xk') (fun _ _ _ h=>h) (Or.inr ⟨by rfl,rfl⟩) ?_ ?_
         rotate_left
         ·
          simp only[Act.put,sa',sb',sc',i64_w,i32_w];rfl
         refine pure_ (i:=8) (N:=some 30) (v:=undef) (a':=?_) #[true,true,true,true,true,true,true,true,true,false,false,false,false,false,false,false,false,false,false,false,false,false,false,false,false,false,false,false,false,false,false,false] rfl rfl (any_of HT_.out xk') (fun _ _ _ h=>h) (Or.inr ⟨by rfl,rfl⟩) ?_ ?_
         rotate_left
         ·
          simp only[Act.put,sa',sb',sc',i64_w,i32_w];rfl
         refine pure_ (i:=9) (N:=some 31) (v:=undef) (a':=?_) #[true,true,true,true,true,true,true,true,true,true,false,false,false,false,false,false,false,false,false,false,false,false,false,false,false,false,false,false,false,false,false,false] rfl rfl (any_of HT_.out xk') (fun _ _ _ h=>h) (Or.inr ⟨by rfl,rfl⟩) ?_ ?_
         rotate_left
         ·
          simp only[Act.put,sa',sb',sc',i64_w,i32_w];rfl
         refine pure_ (i:=10) (N:=some 32) (v:=undef) (a':=?_) #[true,true,true,true,true,true,true,true,true,true,true,false,false,false,false,false,false,false,false,false,false,false,false,false,false,false,false,false,false,false,false,false] rfl rfl (any_of HT_.out xk') (fun _ _ _ h=>h) (Or.inr ⟨by rfl,rfl⟩) ?_ ?_
         rotate_left
         ·
          simp only[Act.put,sa',sb',sc',i64_w,i32_w];rfl
         refine pure_ (i:=11) (N:=some 33) (v:=undef) (a':=?_) #[true,true,true,true,true,true,true,true,true,true,true,true,false,false,false,false,false,false,false,false,false,false,false,false,false,false,false,false,false,false,false,false] rfl rfl (any_of HT_.out xk') (fun _ _ _ h=>h) (Or.inr ⟨by rfl,rfl⟩) ?_ ?_
         rotate_left
         ·
          simp only[Act.put,sa',sb',sc',i64_w,i32_w];rfl
         refine pure_ (i:=12) (N:=some 34) (v:=undef) (a':=?_) #[true,true,true,true,true,true,true,true,true,true,true,true,true,false,false,false,false,false,false,false,false,false,false,false,false,false,false,false,false,false,false,false] rfl rfl (any_of HT_.out xk') (fun _ _ _ h=>h) (Or.inr ⟨by rfl,rfl⟩) ?_ ?_
         rotate_left
         ·
          simp only[Act.put,sa',sb',sc',i64_w,i32_w];rfl
         refine pure_ (i:=13) (N:=some 35) (v:=undef) (a':=?_) #[true,true,true,true,true,true,true,true,true,true,true,true,true,true,false,false,false,false,false,false,false,false,false,false,false,false,false,false,false,false,false,false] rfl rfl (any_of HT_.out xk') (fun _ _ _ h=>h) (Or.inr ⟨by rfl,rfl⟩) ?_ ?_
         rotate_left
         ·
          simp only[Act.put,sa',sb',sc',i64_w,i32_w];rfl
         refine pure_ (i:=14) (N:=some 36) (v:=undef) (a':=?_) #[true,true,true,true,true,true,true,true,true,true,true,true,true,true,true,false,false,false,false,false,false,false,false,false,false,false,false,false,false,false,false,false] rfl rfl (any_of HT_.out xk') (fun _ _ _ h=>h) (Or.inr ⟨by rfl,rfl⟩) ?_ ?_
         rotate_left
         ·
          simp only[Act.put,sa',sb',sc',i64_w,i32_w];rfl
         refine pure_ (i:=15) (N:=some 37) (v:=undef) (a':=?_) #[true,true,true,true,true,true,true,true,true,true,true,true,true,true,true,true,false,false,false,false,false,false,false,false,false,false,false,false,false,false,false,false] rfl rfl (any_of HT_.out xk') (fun _ _ _ h=>h) (Or.inr ⟨by rfl,rfl⟩) ?_ ?_
         rotate_left
         ·
          simp only[Act.put,sa',sb',sc',i64_w,i32_w];rfl
         refine pure_ (i:=16) (N:=some 38) (v:=?_) (a':=?_) #[true,true,true,true,true,true,true,true,true,true,true,true,true,true,true,true,true,false,false,false,false,false,false,false,false,false,false,false,false,false,false,false] rfl rfl (any_of HT_.out xk') (fun _ _ _ h=>h) (Or.inl ⟨by rfl,?_⟩) ?_ ?_
         rotate_left
         ·
          intro w';go_simp;with_reducible rfl
         rotate_left
         ·
          simp only[Act.put,sa',sb',sc',i64_w,i32_w];rfl
         refine pure_ (i:=17) (N:=some 39) (v:=?_) (a':=?_) #[true,true,true,true,true,true,true,true,true,true,true,true,true,true,true,true,true,true,false,false,false,false,false,false,false,false,false,false,false,false,false,false] rfl rfl (any_of HT_.out xk') (fun _ _ _ h=>h) (Or.inl ⟨by rfl,?_⟩) ?_ ?_
         rotate_left
         ·
          intro w';go_simp;with_reducible rfl
         rotate_left
         ·
          simp only[Act.put,sa',sb',sc',i64_w,i32_w];rfl
         refine pure_ (i:=18) (N:=some 40) (v:=undef) (a':=?_) #[true,true,true,true,true,true,true,true,true,true,true,true,true,true,true,true,true,true,true,false,false,false,false,false,false,false,false,false,false,false,false,false] rfl rfl (any_of HT_.out xk') (fun _ _ _ h=>h) (Or.inr ⟨by rfl,rfl⟩) ?_ ?_
         rotate_left
         ·
          simp only[Act.put,sa',sb',sc',i64_w,i32_w];rfl
         refine pure_ (i:=19) (N:=some 41) (v:=undef) (a':=?_) #[true,true,true,true,true,true,true,true,true,true,true,true,true,true,true,true,true,true,true,true,false,false,false,false,false,false,false,false,false,false,false,false] rfl rfl (any_of HT_.out xk') (fun _ _ _ h=>h) (Or.inr ⟨by rfl,rfl⟩) ?_ ?_
         rotate_left
         ·
          simp only[Act.put,sa',sb',sc',i64_w,i32_w];rfl
         refine pure_ (i:=20) (N:=some 42) (v:=undef) (a':=?_) #[true,true,true,true,true,true,true,true,true,true,true,true,true,true,true,true,true,true,true,true,true,false,false,false,false,false,false,false,false,false,false,false] rfl rfl (any_of HT_.out xk') (fun _ _ _ h=>h) (Or.inr ⟨by rfl,rfl⟩) ?_ ?_
         rotate_left
         ·
          simp only[Act.put,sa',sb',sc',i64_w,i32_w];rfl
         refine pure_ (i:=21) (N:=some 43) (v:=undef) (a':=?_) #[true,true,true,true,true,true,true,true,true,true,true,true,true,true,true,true,true,true,true,true,true,true,false,false,false,false,false,false,false,false,false,false] rfl rfl (any_of HT_.out xk') (fun _ _ _ h=>h) (Or.inr ⟨by rfl,rfl⟩) ?_ ?_
         rotate_left
         ·
          simp only[Act.put,sa',sb',sc',i64_w,i32_w];rfl
         refine pure_ (i:=22) (N:=some 44) (v:=undef) (a':=?_) #[true,true,true,true,true,true,true,true,true,true,true,true,true,true,true,true,true,true,true,true,true,true,true,false,false,false,false,false,false,false,false,false] rfl rfl (any_of HT_.out xk') (fun _ _ _ h=>h) (Or.inr ⟨by rfl,rfl⟩) ?_ ?_
         rotate_left
         ·
          simp only[Act.put,sa',sb',sc',i64_w,i32_w];rfl
         refine pure_ (i:=23) (N:=some 45) (v:=undef) (a':=?_) #[true,true,true,true,true,true,true,true,true,true,true,true,true,true,true,true,true,true,true,true,true,true,true,true,false,false,false,false,false,false,false,false] rfl rfl (any_of HT_.out xk') (fun _ _ _ h=>h) (Or.inr ⟨by rfl,rfl⟩) ?_ ?_
         rotate_left
         ·
          simp only[Act.put,sa',sb',sc',i64_w,i32_w];rfl
         refine pure_ (i:=24) (N:=some 46) (v:=undef) (a':=?_) #[true,true,true,true,true,true,true,true,true,true,true,true,true,true,true,true,true,true,true,true,true,true,true,true,true,false,false,false,false,false,false,false] rfl rfl (any_of HT_.out xk') (fun _ _ _ h=>h) (Or.inr ⟨by rfl,rfl⟩) ?_ ?_
         rotate_left
         ·
          simp only[Act.put,sa',sb',sc',i64_w,i32_w];rfl
         refine pure_ (i:=25) (N:=some 47) (v:=undef) (a':=?_) #[true,true,true,true,true,true,true,true,true,true,true,true,true,true,true,true,true,true,true,true,true,true,true,true,true,true,false,false,false,false,false,false] rfl rfl (any_of HT_.out xk') (fun _ _ _ h=>h) (Or.inr ⟨by rfl,rfl⟩) ?_ ?_
         rotate_left
         ·
          simp only[Act.put,sa',sb',sc',i64_w,i32_w];rfl
         refine pure_ (i:=26) (N:=some 48) (v:=undef) (a':=?_) #[true,true,true,true,true,true,true,true,true,true,true,true,true,true,true,true,true,true,true,true,true,true,true,true,true,true,true,false,false,false,false,false] rfl rfl (any_of HT_.out xk') (fun _ _ _ h=>h) (Or.inr ⟨by rfl,rfl⟩) ?_ ?_
         rotate_left
         ·
          simp only[Act.put,sa',sb',sc',i64_w,i32_w];rfl
         refine pure_ (i:=27) (N:=some 49) (v:=undef) (a':=?_) #[true,true,true,true,true,true,true,true,true,true,true,true,true,true,true,true,true,true,true,true,true,true,true,true,true,true,true,true,false,false,false,false] rfl rfl (any_of HT_.out xk') (fun _ _ _ h=>h) (Or.inr ⟨by rfl,rfl⟩) ?_ ?_
         rotate_left
         ·
          simp only[Act.put,sa',sb',sc',i64_w,i32_w];rfl
         refine pure_ (i:=28) (N:=some 50) (v:=undef) (a':=?_) #[true,true,true,true,true,true,true,true,true,true,true,true,true,true,true,true,true,true,true,true,true,true,true,true,true,true,true,true,true,false,false,false] rfl rfl (any_of HT_.out xk') (fun _ _ _ h=>h) (Or.inr ⟨by rfl,rfl⟩) ?_ ?_
         rotate_left
         ·
          simp only[Act.put,sa',sb',sc',i64_w,i32_w];rfl
         refine pure_ (i:=29) (N:=some 51) (v:=undef) (a':=?_) #[true,true,true,true,true,true,true,true,true,true,true,true,true,true,true,true,true,true,true,true,true,true,true,true,true,true,true,true,true,true,false,false] rfl rfl (any_of HT_.out xk') (fun _ _ _ h=>h) (Or.inr ⟨by rfl,rfl⟩) ?_ ?_
         rotate_left
         ·
          simp only[Act.put,sa',sb',sc',i64_w,i32_w];rfl
         refine pure_ (i:=30) (N:=some 52) (v:=undef) (a':=?_) #[true,true,true,true,true,true,true,true,true,true,true,true,true,true,true,true,true,true,true,true,true,true,true,true,true,true,true,true,true,true,true,false] rfl rfl (any_of HT_.out xk') (fun _ _ _ h=>h) (Or.inr ⟨by rfl,rfl⟩) ?_ ?_
         rotate_left
         ·
          simp only[Act.put,sa',sb',sc',i64_w,i32_w];rfl
         refine pure_ (i:=31) (N:=some 53) (v:=?_) (a':=?_) #[true,true,true,true,true,true,true,true,true,true,true,true,true,true,true,true,true,true,true,true,true,true,true,true,true,true,true,true,true,true,true,true] rfl rfl (any_of HT_.out xk') (fun _ _ _ h=>h) (Or.inl ⟨by rfl,?_⟩) ?_ ?_
         rotate_left
         ·
          intro w';go_simp;with_reducible rfl
         rotate_left
         ·
          simp only[Act.put,sa',sb',sc',i64_w,i32_w];rfl
         refine done_ (done_of HT_.out xk') ?_
         try go_wp2
         go_meet
         case rel=>exact ⟨_,(true),xs',H',⟨by have:=HK1.out;first|omega|exact Nat.le_refl _⟩,⟨kk' BK261.out⟩,⟨kk' BK262.out⟩,⟨y2' GE261.out GE262.out⟩⟩
       case rest =>
        clear HC13;try clear c1
        try clear c2
        try clear p2
        try clear q2
        try clear hx2
        try clear qi2
        try clear c7
        try clear c15
        try clear c16
        try clear c17
        try clear c18
        try clear c26
        try clear p26
        try clear q26
        try clear hx26
        try clear qi26
        try clear p27
        try clear q27
        try clear hx27
        try clear hx266_0
        try clear hx267_0
        try clear hx269_0
        try clear hx270_0
        try clear p266
        try clear p267
        try clear p269
        try clear p270
        try clear q266
        try clear q267
        try clear q269
        try clear q270
        obtain ⟨kq,x53_12,rfl,HA,HJ12,BK261,BK262,HB⟩:=hcut;cases kq with
        | zero=>exact absurd HA.out (by simp[impl_Night_isRound.j1])
        | succ kj12 =>
         have H:=HA.out;clear HA;simp only[impl_Night_isRound.j1] at H;by_cases c31:x53_12=true
         ·
          subst c31;have H1:(some false)=some r:=by rw[if_pos rfl] at H;exact H
          clear H;have H:=H1;clear H1;obtain rfl:=os' H;go_wp2;go_ret
          exact ⟨by first|rfl|(simp[errW_none,errW_some] <;> rfl)|(simp[*,errW_none,errW_some] <;> rfl),y2' GE261.out GE262.out⟩
         ·
          replace c31:=Bool.eq_false_iff.mpr c31;subst c31;have H1:(if x17_1 > 0 then (if 0≤(wrap64 (x17_1 - 1)) then (if (wrap64 (x17_1 - 1)) < (l2.length:Int) then ((slices_Compare_int_int.f kj12 (rd_L2 l2 (wrap64 (x17_1 - 1))) (rd_L2 l2 x17_1)).bind fun t273=>(if t273 ≥ 0 then (some false) else ((impl_Night_together.f l0_0 a0_1 a0_2 l1_0 a1_1 (rd_L2 l2 (wrap64 (x17_1 - 1))) (rd_L2 l2 x17_1)).bind fun t275=>(if t275=true then (impl_Night_isRound.l0 kj12 l2 l2 (l2.length:Int) (wrap64 (x17_1+1)) l0_0 a0_1 a0_2 l1_0 a1_1) else (some false))))) else (none)) else (none)) else (impl_Night_isRound.l0 kj12 l2 l2 (l2.length:Int) (wrap64 (x17_1+1)) l0_0 a0_1 a0_2 l1_0 a1_1))=some r:=by rw[if_neg (show ¬ (false=true) by decide)] at H;exact H
          clear H;have H:=H1;clear H1;by_cases c32:x17_1 > 0
          ·
           rw[if_pos c32] at H;have c32b0:decide (0 < x17_1)=true:=dt' c32;clear c32;obtain ⟨ji33,hji33⟩:∃ j_:Int,(wrap64 (x17_1 - 1))=j_:=⟨_,rfl⟩
           replace H:(if 0≤(ji33) then (if (ji33) < (l2.length:Int) then ((slices_Compare_int_int.f kj12 (rd_L2 l2 (ji33)) (rd_L2 l2 x17_1)).bind fun t273=>(if t273 ≥ 0 then (some false) else ((impl_Night_together.f l0_0 a0_1 a0_2 l1_0 a1_1 (rd_L2 l2 (ji33)) (rd_L2 l2 x17_1)).bind fun t275=>(if t275=true then (impl_Night_isRound.l0 kj12 l2 l2 (l2.length:Int) (wrap64 (x17_1+1)) l0_0 a0_1 a0_2 l1_0 a1_1) else (some false))))) else (none)) else (none))=some r:=by first|(rw[hji33] at H;exact H)|(simp only[hji33] at H ⊢;exact H)
           have hji33w:(IntKind.i64.wrap (x17_1 - 1))=ji33:=(i64_w _).trans hji33;by_cases c34:0≤(ji33)
           ·
            rw[if_pos c34] at H;have c34b0:decide (0≤(ji33))=true:=dt' c34;clear c34;by_cases c35:(ji33) < (l2.length:Int)
            ·
             rw[if_pos c35] at H;have c35b0:decide ((ji33) < (l2.length:Int))=true:=dt' c35;clear c35;replace H:=Option.bind_eq_some_iff.mp H;obtain ⟨t273,A360,H⟩:=H;replace H:(if t273 ≥ 0 then (some false) else ((impl_Night_together.f l0_0 a0_1 a0_2 l1_0 a1_1 (rd_L2 l2 (ji33)) (rd_L2 l2 x17_1)).bind fun t275=>(if t275=true then (impl_Night_isRound.l0 kj12 l2 l2 (l2.length:Int) (wrap64 (x17_1+1)) l0_0 a0_1 a0_2 l1_0 a1_1) else (some false))))=some r:=H;have A36:=am' A360;clear A360;by_cases c37:t273 ≥ 0
             ·
              rw[if_pos c37] at H;have c37b0:decide (0≤t273)=true:=dt' c37;clear c37;obtain rfl:=os' H
              try go_wp2
              have n0_:=am' (kd' BK261.out);have n1_:=am' (kd' BK262.out);have n2_:=am' (be' HB.out);clear BK261;clear BK262;clear HB;have BK261:=n0_;have BK262:=n1_;have HB:=n2_;clear n0_ n1_ n2_;have p272:0≤((ji33):Int):=od' xa';have q272:(ji33) < (l2.length:Int):=od' xa';obtain ⟨ad272,A272_0,c272_0,e272,hx272_0,hl272_0,hi272_0⟩:=at_L2 HR2.out (ji33) p272 q272;have hw272_0:=hx272_0;obtain rfl:ad264=ad272:=(by injection e272)
              replace hx272_0:=(HB.out.cell (bl' w _ hx272_0)).trans hx272_0;have HR272_0:=am' hi272_0;have HC272_0:=am' hl272_0;clear hi272_0 hl272_0;replace p272:=eq_true p272;replace q272:=eq_true q272;refine start_ (n:=24) (S:=fun w'=>w'.cell? (ad264.add ((ji33)).toNat)=some (.slice A272_0 (rd_L2 l2 (ji33)).length c272_0)) (ds:=[]) #[false,false,false,false,false,false,false,false,false,false,false,false,false,false,false,false,false,false,false,false,false,false,false,false] xk' rfl rfl (((HB.out.cell (bl' w _ hw272_0)).trans hw272_0)) (fun hHeld=>?_);refine with_tabW impl_Night_isRound.tab8 impl_Night_isRound.bits8 (fun HT_ HW_=>?_);generalize wc.drew=w38 at BK261 BK262 HB HR272_0 hx272_0 hHeld ⊢
              refine pure_ (i:=0) (N:=some 54) (v:=?_) (a':=?_) #[true,false,false,false,false,false,false,false,false,false,false,false,false,false,false,false,false,false,false,false,false,false,false,false] rfl rfl (any_of HT_.out xk') (fun _ _ _ h=>h) (Or.inl ⟨by rfl,?_⟩) ?_ ?_
              rotate_left
              ·
               intro w';go_simp;with_reducible rfl
              rotate_left
              ·
               simp only[Act.put,sa',sb',sc',i64_w,i32_w];rfl
              refine pure_ (i:=1) (N:=some 55) (v:=?_) (a':=?_) #[true,true,false,false,false,false,false,false,false,false,false,false,false,false,false,false,false,false,false,false,false,false,false,false] rfl rfl (any_of HT_.out xk') (fun _ _ _ h=>h) (Or.inl ⟨by rfl,?_⟩) ?_ ?_
              rotate_left
              ·
               intro w';go_simp;with_reducible rfl
              rotate_left
              ·
               simp only[Act.put,sa',sb',sc',i64_w,i32_w];rfl
              refine pure_ (i:=2) (N:=some 56) (v:=?_) (a':=?_) #[true,true,true,false,false,false,false,false,false,false,false,false,false,false,false,false,false,false,false,false,false,false,false,false] rfl rfl (any_of HT_.out xk') (fun _ _ _ h=>h) (Or.inl ⟨by rfl,?_⟩) ?_ ?_
              rotate_left
              ·
               intro w';go_simp;with_reducible rfl
              rotate_left
              ·
               simp only[Act.put,sa',sb',sc',i64_w,i32_w];rfl
              refine pure_ (i:=3) (N:=some 57) (v:=?_) (a':=?_) #[true,true,true,true,false,false,false,false,false,false,false,false,false,false,false,false,false,false,false,false,false,false,false,false] rfl rfl (any_of HT_.out xk') (fun _ _ _ h=>h) (Or.inl ⟨by rfl,?_⟩) ?_ ?_
              rotate_left
              ·
               intro w';go_simp;with_reducible rfl
              rotate_left
              ·
               simp only[Act.put,sa',sb',sc',i64_w,i32_w];rfl
              refine pure_ (i:=4) (N:=some 58) (v:=?_) (a':=?_) #[true,true,true,true,true,false,false,false,false,false,false,false,false,false,false,false,false,false,false,false,false,false,false,false] rfl rfl (any_of HT_.out xk') (fun _ _ _ h=>h) (Or.inl ⟨by rfl,?_⟩) ?_ ?_
              rotate_left
              ·
               intro w';go_simp;with_reducible rfl
              rotate_left
              ·
               simp only[Act.put,sa',sb',sc',i64_w,i32_w];rfl
              refine pure_ (i:=5) (N:=some 59) (v:=?_) (a':=?_) #[true,true,true,true,true,true,false,false,false,false,false,false,false,false,false,false,false,false,false,false,false,false,false,false] rfl rfl (any_of HT_.out xk') (fun _ _ _ h=>h) (Or.inl ⟨by rfl,?_⟩) ?_ ?_
              rotate_left
              ·
               intro w';go_simp;with_reducible rfl
              rotate_left
              ·
               simp only[Act.put,sa',sb',sc',i64_w,i32_w];rfl
              refine pure_ (i:=6) (N:=some 60) (v:=?_) (a':=?_) #[true,true,true,true,true,true,true,false,false,false,false,false,false,false,false,false,false,false,false,false,false,false,false,false] rfl rfl (any_of HT_.out xk') (fun _ _ _ h=>h) (Or.inl ⟨by rfl,?_⟩) ?_ ?_
              rotate_left
              ·
               intro w';go_simp;with_reducible rfl
              rotate_left
              ·
               simp only[Act.put,sa',sb',sc',i64_w,i32_w];rfl
              refine pure_ (i:=8) (N:=some 62) (v:=?_) (a':=?_) #[true,true,true,true,true,true,true,false,true,false,false,false,false,false,false,false,false,false,false,false,false,false,false,false] rfl rfl (any_of HT_.out xk') (fun _ _ _ h=>h) (Or.inl ⟨by rfl,?_⟩) ?_ ?_
              rotate_left
              ·
               intro w';go_simp;with_reducible rfl
              rotate_left
              ·
               simp only[Act.put,sa',sb',sc',i64_w,i32_w];rfl
              refine take_ (i:=7) (N:=some 61) (v:=?_) (a':=?_) #[true,true,true,true,true,true,true,true,true,false,false,false,false,false,false,false,false,false,false,false,false,false,false,false] rfl rfl (take_ofW HT_.out HW_.out xk') (fun _ _ _ h=>h) (Or.inl ⟨by rfl,?_⟩) hHeld ?_ ?_
              rotate_left
              ·
               intro w' s0;go_simp;with_reducible rfl
              rotate_left
              ·
               simp only[Act.put,sa',sb',sc',i64_w,i32_w];rfl
              refine one_ (i:=9) (N:=some 63) #[true,true,true,true,true,true,true,true,true,true,false,false,false,false,false,false,false,false,false,false,false,false,false,false] rfl rfl (one_of HT_.out xk') (by decide) (fun K hK=>?_);refine goes_ Try.func78 xk' rfl #[.slice A272_0 (rd_L2 l2 (ji33)).length c272_0, .slice A264_0 (rd_L2 l2 x17_1).length c264_0] (by rfl) rfl rfl (by (try simp only[List.map_toArray,List.map_cons,List.map_nil]);first|done|(simp only[hji33];rfl)|rfl|(simp only[List.length_drop,List.length_take];rfl)) ?_
              with_reducible refine (slices_Compare_int_int.calls kj12 _ _ (rd_L2 l2 (ji33)) _ _ (rd_L2 l2 x17_1) t273 _ ?side1 ?side2 ?side3 ?side4 A36.out).mono ?_
              (case side1=>exact kc' (cb' HR272_0.out HB.out))
              (case side2=>exact HC272_0.out)
              (case side3=>exact kc' (cb' HR264_0.out HB.out))
              (case side4=>exact HC264_0.out)
              rintro e w' ⟨rfl,⟨nd,rfl⟩⟩
              refine ⟨_,rfl,?_⟩;refine hK.out _ _ (((HB.out.cell (bl' w _ hw272_0)).trans hw272_0)) (fun hHeld=>?_);clear hK K;refine norm_ (a':=?_) ?_ ?_
              rotate_left
              ·
               show Act.put _ (some 63) _=_
               simp only[Act.put,sa',sb',sc',i64_w,i32_w];rfl
              refine pure_ (i:=10) (N:=some 64) (v:=?_) (a':=?_) #[true,true,true,true,true,true,true,true,true,true,true,false,false,false,false,false,false,false,false,false,false,false,false,false] rfl rfl (any_of HT_.out xk') (fun _ _ _ h=>h) (Or.inl ⟨by rfl,?_⟩) ?_ ?_
              rotate_left
              ·
               intro w';go_simp;with_reducible rfl
              rotate_left
              ·
               simp only[Act.put,sa',sb',sc',i64_w,i32_w];rfl
              refine pure_ (i:=11) (N:=some 65) (v:=?_) (a':=?_) #[true,true,true,true,true,true,true,true,true,true,true,true,false,false,false,false,false,false,false,false,false,false,false,false] rfl rfl (any_of HT_.out xk') (fun _ _ _ h=>h) (Or.inl ⟨by rfl,?_⟩) ?_ ?_
              rotate_left
              ·
               intro w';go_simp;with_reducible rfl
              rotate_left
              ·
               simp only[Act.put,sa',sb',sc',i64_w,i32_w];rfl
              refine pure_ (i:=12) (N:=some 66) (v:=undef) (a':=?_) #[true,true,true,true,true,true,true,true,true,true,true,true,true,false,false,false,false,false,false,false,false,false,false,false] rfl rfl (any_of HT_.out xk') (fun _ _ _ h=>h) (Or.inr ⟨by rfl,rfl⟩) ?_ ?_
              rotate_left
              ·
               simp only[Act.put,sa',sb',sc',i64_w,i32_w];rfl
              refine pure_ (i:=13) (N:=some 67) (v:=undef) (a':=?_) #[true,true,true,true,true,true,true,true,true,true,true,true,true,true,false,false,false,false,false,false,false,false,false,false] rfl rfl (any_of HT_.out xk') (fun _ _ _ h=>h) (Or.inr ⟨by rfl,rfl⟩) ?_ ?_
              rotate_left
              ·
               simp only[Act.put,sa',sb',sc',i64_w,i32_w];rfl
              refine pure_ (i:=14) (N:=some 68) (v:=undef) (a':=?_) #[true,true,true,true,true,true,true,true,true,true,true,true,true,true,true,false,false,false,false,false,false,false,false,false] rfl rfl (any_of HT_.out xk') (fun _ _ _ h=>h) (Or.inr ⟨by rfl,rfl⟩) ?_ ?_
              rotate_left
              ·
               simp only[Act.put,sa',sb',sc',i64_w,i32_w];rfl
              refine pure_ (i:=15) (N:=some 69) (v:=undef) (a':=?_) #[true,true,true,true,true,true,true,true,true,true,true,true,true,true,true,true,false,false,false,false,false,false,false,false] rfl rfl (any_of HT_.out xk') (fun _ _ _ h=>h) (Or.inr ⟨by rfl,rfl⟩) ?_ ?_
              rotate_left
              ·
               simp only[Act.put,sa',sb',sc',i64_w,i32_w];rfl
              refine pure_ (i:=16) (N:=some 70) (v:=undef) (a':=?_) #[true,true,true,true,true,true,true,true,true,true,true,true,true,true,true,true,true,false,false,false,false,false,false,false] rfl rfl (any_of HT_.out xk') (fun _ _ _ h=>h) (Or.inr ⟨by rfl,rfl⟩) ?_ ?_
              rotate_left
              ·
               simp only[Act.put,sa',sb',sc',i64_w,i32_w];rfl
              refine pure_ (i:=17) (N:=some 71) (v:=undef) (a':=?_) #[true,true,true,true,true,true,true,true,true,true,true,true,true,true,true,true,true,true,false,false,false,false,false,false] rfl rfl (any_of HT_.out xk') (fun _ _ _ h=>h) (Or.inr ⟨by rfl,rfl⟩) ?_ ?_
              rotate_left
              ·
               simp only[Act.put,sa',sb',sc',i64_w,i32_w];rfl
              refine pure_ (i:=18) (N:=some 72) (v:=undef) (a':=?_) #[true,true,true,true,true,true,true,true,true,true,true,true,true,true,true,true,true,true,true,false,false,false,false,false] rfl rfl (any_of HT_.out xk') (fun _ _ _ h=>h) (Or.inr ⟨by rfl,rfl⟩) ?_ ?_
              rotate_left
              ·
               simp only[Act.put,sa',sb',sc',i64_w,i32_w];rfl
              refine pure_ (i:=19) (N:=some 73) (v:=undef) (a':=?_) #[true,true,true,true,true,true,true,true,true,true,true,true,true,true,true,true,true,true,true,true,false,false,false,false] rfl rfl (any_of HT_.out xk') (fun _ _ _ h=>h) (Or.inr ⟨by rfl,rfl⟩) ?_ ?_
              rotate_left
              ·
               simp only[Act.put,sa',sb',sc',i64_w,i32_w];rfl
              refine pure_ (i:=20) (N:=some 74) (v:=undef) (a':=?_) #[true,true,true,true,true,true,true,true,true,true,true,true,true,true,true,true,true,true,true,true,true,false,false,false] rfl rfl (any_of HT_.out xk') (fun _ _ _ h=>h) (Or.inr ⟨by rfl,rfl⟩) ?_ ?_
              rotate_left
              ·
               simp only[Act.put,sa',sb',sc',i64_w,i32_w];rfl
              refine pure_ (i:=21) (N:=some 75) (v:=undef) (a':=?_) #[true,true,true,true,true,true,true,true,true,true,true,true,true,true,true,true,true,true,true,true,true,true,false,false] rfl rfl (any_of HT_.out xk') (fun _ _ _ h=>h) (Or.inr ⟨by rfl,rfl⟩) ?_ ?_
              rotate_left
              ·
               simp only[Act.put,sa',sb',sc',i64_w,i32_w];rfl
              refine pure_ (i:=22) (N:=some 76) (v:=?_) (a':=?_) #[true,true,true,true,true,true,true,true,true,true,true,true,true,true,true,true,true,true,true,true,true,true,true,false] rfl rfl (any_of HT_.out xk') (fun _ _ _ h=>h) (Or.inl ⟨by rfl,?_⟩) ?_ ?_
              rotate_left
              ·
               intro w';go_simp;with_reducible rfl
              rotate_left
              ·
               simp only[Act.put,sa',sb',sc',i64_w,i32_w];rfl
              refine pure_ (i:=23) (N:=some 77) (v:=?_) (a':=?_) #[true,true,true,true,true,true,true,true,true,true,true,true,true,true,true,true,true,true,true,true,true,true,true,true] rfl rfl (any_of HT_.out xk') (fun _ _ _ h=>h) (Or.inl ⟨by rfl,?_⟩) ?_ ?_
              rotate_left
              ·
               intro w';go_simp;with_reducible rfl
              rotate_left
              ·
               simp only[Act.put,sa',sb',sc',i64_w,i32_w];rfl
              refine done_ (done_of HT_.out xk') ?_
              try go_wp2
              go_ret
              exact ⟨by first|rfl|(simp[errW_none,errW_some] <;> rfl)|(simp only[← hji33];first|rfl|(simp[errW_none,errW_some] <;> rfl))|(simp[*,errW_none,errW_some] <;> rfl),y2' GE261.out GE262.out⟩
             ·
              rw[if_neg c37] at H;have c37b0:decide (0≤t273)=false:=df' c37;clear c37;replace H:=Option.bind_eq_some_iff.mp H;obtain ⟨t275,A390,H⟩:=H;replace H:(if t275=true then (impl_Night_isRound.l0 kj12 l2 l2 (l2.length:Int) (wrap64 (x17_1+1)) l0_0 a0_1 a0_2 l1_0 a1_1) else (some false))=some r:=H;have A39:=am' A390;clear A390;by_cases c40:t275=true
              ·
               subst c40;have H1:(impl_Night_isRound.l0 kj12 l2 l2 (l2.length:Int) (wrap64 (x17_1+1)) l0_0 a0_1 a0_2 l1_0 a1_1)=some r:=by rw[if_pos rfl] at H;exact H
               clear H;have H:=H1;clear H1;have H':=am' H;clear H;try go_wp2
               have n0_:=am' (kd' BK261.out);have n1_:=am' (kd' BK262.out);have n2_:=am' (be' HB.out);clear BK261;clear BK262;clear HB;have BK261:=n0_;have BK262:=n1_;have HB:=n2_;clear n0_ n1_ n2_;have p272:0≤((ji33):Int):=od' xa';have q272:(ji33) < (l2.length:Int):=od' xa';obtain ⟨ad272,A272_0,c272_0,e272,hx272_0,hl272_0,hi272_0⟩:=at_L2 HR2.out (ji33) p272 q272;have hw272_0:=hx272_0;obtain rfl:ad264=ad272:=(by injection e272)
               replace hx272_0:=(HB.out.cell (bl' w _ hx272_0)).trans hx272_0;have HR272_0:=am' hi272_0;have HC272_0:=am' hl272_0;clear hi272_0 hl272_0;replace p272:=eq_true p272;replace q272:=eq_true q272;have p274:0≤((ji33):Int):=od' xa';have q274:(ji33) < (l2.length:Int):=od' xa';obtain ⟨ad274,A274_0,c274_0,e274,hx274_0,hl274_0,hi274_0⟩:=at_L2 HR2.out (ji33) p274 q274;have hw274_0:=hx274_0;obtain rfl:ad264=ad274:=(by injection e274)
               replace hx274_0:=(HB.out.cell (bl' w _ hx274_0)).trans hx274_0;have HR274_0:=am' hi274_0;have HC274_0:=am' hl274_0;clear hi274_0 hl274_0;replace p274:=eq_true p274;replace q274:=eq_true q274;have ea_:=os' (hx272_0.symm.trans hx274_0);injection ea_ with ea_ en_ ec_
               subst ea_;subst ec_;clear en_;refine start_ (n:=24) (S:=fun w'=>w'.cell? ⟨gb261,0,none⟩=some (.slice A0_0 l0_0.length c0_0)∧w'.cell? ⟨gb261,1,none⟩=some (.int .i64 a0_1)∧w'.cell? ⟨gb261,2,none⟩=some (.int .i64 a0_2)∧w'.cell? ⟨gb262,0,none⟩=some (.slice A1_0 l1_0.length c1_0)∧w'.cell? ⟨gb262,1,none⟩=some (.int .i64 a1_1)∧w'.cell? (ad264.add ((ji33)).toNat)=some (.slice A272_0 (rd_L2 l2 (ji33)).length c272_0)∧w'.cell? (ad264.add ((ji33)).toNat)=some (.slice A272_0 (rd_L2 l2 (ji33)).length c272_0)) (ds:=[]) #[false,false,false,false,false,false,false,false,false,false,false,false,false,false,false,false,false,false,false,false,false,false,false,false] xk' rfl rfl ⟨(bc' BK261.out 0).trans rfl,(bc' BK261.out 1).trans rfl,(bc' BK261.out 2).trans rfl,(bc' BK262.out 0).trans rfl,(bc' BK262.out 1).trans rfl,((HB.out.cell (bl' w _ hw272_0)).trans hw272_0),((HB.out.cell (bl' w _ hw274_0)).trans hw274_0)⟩ (fun hHeld=>?_);refine with_tabW impl_Night_isRound.tab8 impl_Night_isRound.bits8 (fun HT_ HW_=>?_);generalize wc.drew=w41 at BK261 BK262 HB HR272_0 HR274_0 hx272_0 hx274_0 hHeld ⊢
               refine pure_ (i:=0) (N:=some 54) (v:=?_) (a':=?_) #[true,false,false,false,false,false,false,false,false,false,false,false,false,false,false,false,false,false,false,false,false,false,false,false] rfl rfl (any_of HT_.out xk') (fun _ _ _ h=>h) (Or.inl ⟨by rfl,?_⟩) ?_ ?_
               rotate_left
               ·
                intro w';go_simp;with_reducible rfl
               rotate_left
               ·
                simp only[Act.put,sa',sb',sc',i64_w,i32_w];rfl
               refine pure_ (i:=1) (N:=some 55) (v:=?_) (a':=?_) #[true,true,false,false,false,false,false,false,false,false,false,false,false,false,false,false,false,false,false,false,false,false,false,false] rfl rfl (any_of HT_.out xk') (fun _ _ _ h=>h) (Or.inl ⟨by rfl,?_⟩) ?_ ?_
               rotate_left
               ·
                intro w';go_simp;with_reducible rfl
               rotate_left
               ·
                simp only[Act.put,sa',sb',sc',i64_w,i32_w];rfl
               refine pure_ (i:=2) (N:=some 56) (v:=?_) (a':=?_) #[true,true,true,false,false,false,false,false,false,false,false,false,false,false,false,false,false,false,false,false,false,false,false,false] rfl rfl (any_of HT_.out xk') (fun _ _ _ h=>h) (Or.inl ⟨by rfl,?_⟩) ?_ ?_
               rotate_left
               ·
                intro w';go_simp;with_reducible rfl
               rotate_left
               ·
                simp only[Act.put,sa',sb',sc',i64_w,i32_w];rfl
               refine pure_ (i:=3) (N:=some 57) (v:=?_) (a':=?_) #[true,true,true,true,false,false,false,false,false,false,false,false,false,false,false,false,false,false,false,false,false,false,false,false] rfl rfl (any_of HT_.out xk') (fun _ _ _ h=>h) (Or.inl ⟨by rfl,?_⟩) ?_ ?_
               rotate_left
               ·
                intro w';go_simp;with_reducible rfl
               rotate_left
               ·
                simp only[Act.put,sa',sb',sc',i64_w,i32_w];rfl
               refine pure_ (i:=4) (N:=some 58) (v:=?_) (a':=?_) #[true,true,true,true,true,false,false,false,false,false,false,false,false,false,false,false,false,false,false,false,false,false,false,false] rfl rfl (any_of HT_.out xk') (fun _ _ _ h=>h) (Or.inl ⟨by rfl,?_⟩) ?_ ?_
               rotate_left
               ·
                intro w';go_simp;with_reducible rfl
               rotate_left
               ·
                simp only[Act.put,sa',sb',sc',i64_w,i32_w];rfl
               refine pure_ (i:=5) (N:=some 59) (v:=?_) (a':=?_) #[true,true,true,true,true,true,false,false,false,false,false,false,false,false,false,false,false,false,false,false,false,false,false,false] rfl rfl (any_of HT_.out xk') (fun _ _ _ h=>h) (Or.inl ⟨by rfl,?_⟩) ?_ ?_
               rotate_left
               ·
                intro w';go_simp;with_reducible rfl
               rotate_left
               ·
                simp only[Act.put,sa',sb',sc',i64_w,i32_w];rfl
               refine pure_ (i:=6) (N:=some 60) (v:=?_) (a':=?_) #[true,true,true,true,true,true,true,false,false,false,false,false,false,false,false,false,false,false,false,false,false,false,false,false] rfl rfl (any_of HT_.out xk') (fun _ _ _ h=>h) (Or.inl ⟨by rfl,?_⟩) ?_ ?_
               rotate_left
               ·
                intro w';go_simp;with_reducible rfl
               rotate_left
               ·
                simp only[Act.put,sa',sb',sc',i64_w,i32_w];rfl
               refine pure_ (i:=8) (N:=some 62) (v:=?_) (a':=?_) #[true,true,true,true,true,true,true,false,true,false,false,false,false,false,false,false,false,false,false,false,false,false,false,false] rfl rfl (any_of HT_.out xk') (fun _ _ _ h=>h) (Or.inl ⟨by rfl,?_⟩) ?_ ?_
               rotate_left
               ·
                intro w';go_simp;with_reducible rfl
               rotate_left
               ·
                simp only[Act.put,sa',sb',sc',i64_w,i32_w];rfl
               refine take_ (i:=7) (N:=some 61) (v:=?_) (a':=?_) #[true,true,true,true,true,true,true,true,true,false,false,false,false,false,false,false,false,false,false,false,false,false,false,false] rfl rfl (take_ofW HT_.out HW_.out xk') (fun _ _ _ h=>h) (Or.inl ⟨by rfl,?_⟩) hHeld ?_ ?_
               rotate_left
               ·
                rintro w' ⟨s0,s1,s2,s3,s4,s5,s6⟩
                go_simp;with_reducible rfl
               rotate_left
               ·
                simp only[Act.put,sa',sb',sc',i64_w,i32_w];rfl
               refine one_ (i:=9) (N:=some 63) #[true,true,true,true,true,true,true,true,true,true,false,false,false,false,false,false,false,false,false,false,false,false,false,false] rfl rfl (one_of HT_.out xk') (by decide) (fun K hK=>?_);refine goes_ Try.func78 xk' rfl #[.slice A272_0 (rd_L2 l2 (ji33)).length c272_0, .slice A264_0 (rd_L2 l2 x17_1).length c264_0] (by rfl) rfl rfl (by (try simp only[List.map_toArray,List.map_cons,List.map_nil]);first|done|(simp only[hji33];rfl)|rfl|(simp only[List.length_drop,List.length_take];rfl)) ?_
               with_reducible refine (slices_Compare_int_int.calls kj12 _ _ (rd_L2 l2 (ji33)) _ _ (rd_L2 l2 x17_1) t273 _ ?side1 ?side2 ?side3 ?side4 A36.out).mono ?_
               (case side1=>exact kc' (cb' HR272_0.out HB.out))
               (case side2=>exact HC272_0.out)
               (case side3=>exact kc' (cb' HR264_0.out HB.out))
               (case side4=>exact HC264_0.out)
               rintro e w' ⟨rfl,⟨nd,rfl⟩⟩
               refine ⟨_,rfl,?_⟩;refine hK.out _ _ ⟨(bc' BK261.out 0).trans rfl,(bc' BK261.out 1).trans rfl,(bc' BK261.out 2).trans rfl,(bc' BK262.out 0).trans rfl,(bc' BK262.out 1).trans rfl,((HB.out.cell (bl' w _ hw272_0)).trans hw272_0),((HB.out.cell (bl' w _ hw274_0)).trans hw274_0)⟩ (fun hHeld=>?_);clear hK K;refine norm_ (a':=?_) ?_ ?_
               rotate_left
               ·
                show Act.put _ (some 63) _=_
                simp only[Act.put,sa',sb',sc',i64_w,i32_w];rfl
               refine pure_ (i:=10) (N:=some 64) (v:=?_) (a':=?_) #[true,true,true,true,true,true,true,true,true,true,true,false,false,false,false,false,false,false,false,false,false,false,false,false] rfl rfl (any_of HT_.out xk') (fun _ _ _ h=>h) (Or.inl ⟨by rfl,?_⟩) ?_ ?_
               rotate_left
               ·
                intro w';go_simp;with_reducible rfl
               rotate_left
               ·
                simp only[Act.put,sa',sb',sc',i64_w,i32_w];rfl
               refine pure_ (i:=11) (N:=some 65) (v:=?_) (a':=?_) #[true,true,true,true,true,true,true,true,true,true,true,true,false,false,false,false,false,false,false,false,false,false,false,false] rfl rfl (any_of HT_.out xk') (fun _ _ _ h=>h) (Or.inl ⟨by rfl,?_⟩) ?_ ?_
               rotate_left
               ·
                intro w';go_simp;with_reducible rfl
               rotate_left
               ·
                simp only[Act.put,sa',sb',sc',i64_w,i32_w];rfl
               refine pure_ (i:=14) (N:=some 68) (v:=?_) (a':=?_) #[true,true,true,true,true,true,true,true,true,true,true,true,false,false,true,false,false,false,false,false,false,false,false,false] rfl rfl (any_of HT_.out xk') (fun _ _ _ h=>h) (Or.inl ⟨by rfl,?_⟩) ?_ ?_
               rotate_left
               ·
                intro w';go_simp;with_reducible rfl
               rotate_left
               ·
                simp only[Act.put,sa',sb',sc',i64_w,i32_w];rfl
               refine pure_ (i:=15) (N:=some 69) (v:=?_) (a':=?_) #[true,true,true,true,true,true,true,true,true,true,true,true,false,false,true,true,false,false,false,false,false,false,false,false] rfl rfl (any_of HT_.out xk') (fun _ _ _ h=>h) (Or.inl ⟨by rfl,?_⟩) ?_ ?_
               rotate_left
               ·
                intro w';go_simp;with_reducible rfl
               rotate_left
               ·
                simp only[Act.put,sa',sb',sc',i64_w,i32_w];rfl
               refine pure_ (i:=16) (N:=some 70) (v:=?_) (a':=?_) #[true,true,true,true,true,true,true,true,true,true,true,true,false,false,true,true,true,false,false,false,false,false,false,false] rfl rfl (any_of HT_.out xk') (fun _ _ _ h=>h) (Or.inl ⟨by rfl,?_⟩) ?_ ?_
               rotate_left
               ·
                intro w';go_simp;with_reducible rfl
               rotate_left
               ·
                simp only[Act.put,sa',sb',sc',i64_w,i32_w];rfl
               refine pure_ (i:=17) (N:=some 71) (v:=?_) (a':=?_) #[true,true,true,true,true,true,true,true,true,true,true,true,false,false,true,true,true,true,false,false,false,false,false,false] rfl rfl (any_of HT_.out xk') (fun _ _ _ h=>h) (Or.inl ⟨by rfl,?_⟩) ?_ ?_
               rotate_left
               ·
                intro w';go_simp;with_reducible rfl
               rotate_left
               ·
                simp only[Act.put,sa',sb',sc',i64_w,i32_w];rfl
               refine pure_ (i:=19) (N:=some 73) (v:=?_) (a':=?_) #[true,true,true,true,true,true,true,true,true,true,true,true,false,false,true,true,true,true,false,true,false,false,false,false] rfl rfl (any_of HT_.out xk') (fun _ _ _ h=>h) (Or.inl ⟨by rfl,?_⟩) ?_ ?_
               rotate_left
               ·
                intro w';go_simp;with_reducible rfl
               rotate_left
               ·
                simp only[Act.put,sa',sb',sc',i64_w,i32_w];rfl
               refine take_ (i:=12) (N:=some 66) (v:=?_) (a':=?_) #[true,true,true,true,true,true,true,true,true,true,true,true,true,false,true,true,true,true,false,true,false,false,false,false] rfl rfl (take_ofW HT_.out HW_.out xk') (fun _ _ _ h=>h) (Or.inl ⟨by rfl,?_⟩) hHeld ?_ ?_
               rotate_left
               ·
                rintro w' ⟨s0,s1,s2,s3,s4,s5,s6⟩
                go_simp;with_reducible rfl
               rotate_left
               ·
                simp only[Act.put,sa',sb',sc',i64_w,i32_w];rfl
               refine take_ (i:=13) (N:=some 67) (v:=?_) (a':=?_) #[true,true,true,true,true,true,true,true,true,true,true,true,true,true,true,true,true,true,false,true,false,false,false,false] rfl rfl (take_ofW HT_.out HW_.out xk') (fun _ _ _ h=>h) (Or.inl ⟨by rfl,?_⟩) hHeld ?_ ?_
               rotate_left
               ·
                rintro w' ⟨s0,s1,s2,s3,s4,s5,s6⟩
                go_simp;with_reducible rfl
               rotate_left
               ·
                simp only[Act.put,sa',sb',sc',i64_w,i32_w];rfl
               refine take_ (i:=18) (N:=some 72) (v:=?_) (a':=?_) #[true,true,true,true,true,true,true,true,true,true,true,true,true,true,true,true,true,true,true,true,false,false,false,false] rfl rfl (take_ofW HT_.out HW_.out xk') (fun _ _ _ h=>h) (Or.inl ⟨by rfl,?_⟩) hHeld ?_ ?_
               rotate_left
               ·
                rintro w' ⟨s0,s1,s2,s3,s4,s5,s6⟩
                go_simp;with_reducible rfl
               rotate_left
               ·
                simp only[Act.put,sa',sb',sc',i64_w,i32_w];rfl
               refine one_ (i:=20) (N:=some 74) #[true,true,true,true,true,true,true,true,true,true,true,true,true,true,true,true,true,true,true,true,true,false,false,false] rfl rfl (one_of HT_.out xk') (by decide) (fun K hK=>?_);refine goes_ Try.func79 xk' rfl #[.agg #[.slice A0_0 l0_0.length c0_0, .int .i64 a0_1, .int .i64 a0_2], .agg #[.slice A1_0 l1_0.length c1_0, .int .i64 a1_1], .slice A272_0 (rd_L2 l2 (ji33)).length c272_0, .slice A264_0 (rd_L2 l2 x17_1).length c264_0] (by rfl) rfl rfl (by (try simp only[List.map_toArray,List.map_cons,List.map_nil]);first|done|(simp only[hji33];rfl)|rfl|(simp only[List.length_drop,List.length_take];rfl)) ?_
               with_reducible refine (impl_Night_together.calls _ _ l0_0 a0_1 a0_2 _ _ l1_0 a1_1 _ _ (rd_L2 l2 (ji33)) _ _ (rd_L2 l2 x17_1) true _ ?side1 ?side2 ?side3 ?side4 ?side5 ?side6 ?side7 ?side8 A39.out).mono ?_
               (case side1=>exact kc' (cb' HR0_0.out (y2' GE261.out GE262.out)))
               (case side2=>exact HC0_0.out)
               (case side3=>exact kc' (cb' HR1_0.out (y2' GE261.out GE262.out)))
               (case side4=>exact HC1_0.out)
               (case side5=>exact kc' (cb' HR274_0.out (y2' GE261.out GE262.out)))
               (case side6=>exact HC274_0.out)
               (case side7=>exact kc' (cb' HR264_0.out (y2' GE261.out GE262.out)))
               (case side8=>exact HC264_0.out)
               rintro e w42 ⟨rfl,hb⟩
               refine ⟨_,rfl,?_⟩;have n0_:=am' (bb' (g:=gb261) (o := .cells #[.slice A0_0 l0_0.length c0_0, .int .i64 a0_1, .int .i64 a0_2] 35 (0,0)) (kk' BK261.out) hb);have n1_:=am' (bb' (g:=gb262) (o := .cells #[.slice A1_0 l1_0.length c1_0, .int .i64 a1_1] 32 (0,0)) (kk' BK262.out) hb);have n2_:=am' (bt' (y2' GE261.out GE262.out) hb);clear BK261;clear BK262;clear HB;have BK261:=n0_;have BK262:=n1_;have HB:=n2_;clear n0_ n1_ n2_;(try clear hb)
               (try clear hb2)
               (try clear hk)
               (try clear hi)
               refine hK.out _ _ ⟨(bc' BK261.out 0).trans rfl,(bc' BK261.out 1).trans rfl,(bc' BK261.out 2).trans rfl,(bc' BK262.out 0).trans rfl,(bc' BK262.out 1).trans rfl,((HB.out.cell (bl' w _ hw272_0)).trans hw272_0),((HB.out.cell (bl' w _ hw274_0)).trans hw274_0)⟩ (fun hHeld=>?_);clear hK K;refine norm_ (a':=?_) ?_ ?_
               rotate_left
               ·
                show Act.put _ (some 74) _=_
                simp only[Act.put,sa',sb',sc',i64_w,i32_w];rfl
               refine pure_ (i:=21) (N:=some 75) (v:=?_) (a':=?_) #[true,true,true,true,true,true,true,true,true,true,true,true,true,true,true,true,true,true,true,true,true,true,false,false] rfl rfl (any_of HT_.out xk') (fun _ _ _ h=>h) (Or.inl ⟨by rfl,?_⟩) ?_ ?_
               rotate_left
               ·
                intro w';go_simp;with_reducible rfl
               rotate_left
               ·
                simp only[Act.put,sa',sb',sc',i64_w,i32_w];rfl
               refine pure_ (i:=22) (N:=some 76) (v:=?_) (a':=?_) #[true,true,true,true,true,true,true,true,true,true,true,true,true,true,true,true,true,true,true,true,true,true,true,false] rfl rfl (any_of HT_.out xk') (fun _ _ _ h=>h) (Or.inl ⟨by rfl,?_⟩) ?_ ?_
               rotate_left
               ·
                intro w';go_simp;with_reducible rfl
               rotate_left
               ·
                simp only[Act.put,sa',sb',sc',i64_w,i32_w];rfl
               refine pure_ (i:=23) (N:=some 77) (v:=?_) (a':=?_) #[true,true,true,true,true,true,true,true,true,true,true,true,true,true,true,true,true,true,true,true,true,true,true,true] rfl rfl (any_of HT_.out xk') (fun _ _ _ h=>h) (Or.inl ⟨by rfl,?_⟩) ?_ ?_
               rotate_left
               ·
                intro w';go_simp;with_reducible rfl
               rotate_left
               ·
                simp only[Act.put,sa',sb',sc',i64_w,i32_w];rfl
               refine done_ (done_of HT_.out xk') ?_
               try go_wp2
               go_roundg kj12
               case measure=>have:=HK1.out;have:=HJ12.out;omega
               case rel=>exact ⟨(wrap64 (x17_1+1)),xs',H',⟨by have:=HK1.out;have:=HJ12.out;omega⟩,⟨kk' BK261.out⟩,⟨kk' BK262.out⟩,⟨y2' GE261.out GE262.out⟩⟩
              ·
               replace c40:=Bool.eq_false_iff.mpr c40;subst c40;have H1:(some false)=some r:=by rw[if_neg (show ¬ (false=true) by decide)] at H;exact H
               clear H;have H:=H1;clear H1;obtain rfl:=os' H
               try go_wp2
               have n0_:=am' (kd' BK261.out);have n1_:=am' (kd' BK262.out);have n2_:=am' (be' HB.out);clear BK261;clear BK262;clear HB;have BK261:=n0_;have BK262:=n1_;have HB:=n2_;clear n0_ n1_ n2_;have p272:0≤((ji33):Int):=od' xa';have q272:(ji33) < (l2.length:Int):=od' xa';obtain ⟨ad272,A272_0,c272_0,e272,hx272_0,hl272_0,hi272_0⟩:=at_L2 HR2.out (ji33) p272 q272;have hw272_0:=hx272_0;obtain rfl:ad264=ad272:=(by injection e272)
               replace hx272_0:=(HB.out.cell (bl' w _ hx272_0)).trans hx272_0;have HR272_0:=am' hi272_0;have HC272_0:=am' hl272_0;clear hi272_0 hl272_0;replace p272:=eq_true p272;replace q272:=eq_true q272;have p274:0≤((ji33):Int):=od' xa';have q274:(ji33) < (l2.length:Int):=od' xa';obtain ⟨ad274,A274_0,c274_0,e274,hx274_0,hl274_0,hi274_0⟩:=at_L2 HR2.out (ji33) p274 q274;have hw274_0:=hx274_0;obtain rfl:ad264=ad274:=(by injection e274)
               replace hx274_0:=(HB.out.cell (bl' w _ hx274_0)).trans hx274_0;have HR274_0:=am' hi274_0;have HC274_0:=am' hl274_0;clear hi274_0 hl274_0;replace p274:=eq_true p274;replace q274:=eq_true q274;have ea_:=os' (hx272_0.symm.trans hx274_0);injection ea_ with ea_ en_ ec_
               subst ea_;subst ec_;clear en_;refine start_ (n:=24) (S:=fun w'=>w'.cell? ⟨gb261,0,none⟩=some (.slice A0_0 l0_0.length c0_0)∧w'.cell? ⟨gb261,1,none⟩=some (.int .i64 a0_1)∧w'.cell? ⟨gb261,2,none⟩=some (.int .i64 a0_2)∧w'.cell? ⟨gb262,0,none⟩=some (.slice A1_0 l1_0.length c1_0)∧w'.cell? ⟨gb262,1,none⟩=some (.int .i64 a1_1)∧w'.cell? (ad264.add ((ji33)).toNat)=some (.slice A272_0 (rd_L2 l2 (ji33)).length c272_0)∧w'.cell? (ad264.add ((ji33)).toNat)=some (.slice A272_0 (rd_L2 l2 (ji33)).length c272_0)) (ds:=[]) #[false,false,false,false,false,false,false,false,false,false,false,false,false,false,false,false,false,false,false,false,false,false,false,false] xk' rfl rfl ⟨(bc' BK261.out 0).trans rfl,(bc' BK261.out 1).trans rfl,(bc' BK261.out 2).trans rfl,(bc' BK262.out 0).trans rfl,(bc' BK262.out 1).trans rfl,((HB.out.cell (bl' w _ hw272_0)).trans hw272_0),((HB.out.cell (bl' w _ hw274_0)).trans hw274_0)⟩ (fun hHeld=>?_);refine with_tabW impl_Night_isRound.tab8 impl_Night_isRound.bits8 (fun HT_ HW_=>?_);generalize wc.drew=w43 at BK261 BK262 HB HR272_0 HR274_0 hx272_0 hx274_0 hHeld ⊢
               refine pure_ (i:=0) (N:=some 54) (v:=?_) (a':=?_) #[true,false,false,false,false,false,false,false,false,false,false,false,false,false,false,false,false,false,false,false,false,false,false,false] rfl rfl (any_of HT_.out xk') (fun _ _ _ h=>h) (Or.inl ⟨by rfl,?_⟩) ?_ ?_
               rotate_left
               ·
                intro w';go_simp;with_reducible rfl
               rotate_left
               ·
                simp only[Act.put,sa',sb',sc',i64_w,i32_w];rfl
               refine pure_ (i:=1) (N:=some 55) (v:=?_) (a':=?_) #[true,true,false,false,false,false,false,false,false,false,false,false,false,false,false,false,false,false,false,false,false,false,false,false] rfl rfl (any_of HT_.out xk') (fun _ _ _ h=>h) (Or.inl ⟨by rfl,?_⟩) ?_ ?_
               rotate_left
               ·
                intro w';go_simp;with_reducible rfl
               rotate_left
               ·
                simp only[Act.put,sa',sb',sc',i64_w,i32_w];rfl
               refine pure_ (i:=2) (N:=some 56) (v:=?_) (a':=?_) #[true,true,true,false,false,false,false,false,false,false,false,false,false,false,false,false,false,false,false,false,false,false,false,false] rfl rfl (any_of HT_.out xk') (fun _ _ _ h=>h) (Or.inl ⟨by rfl,?_⟩) ?_ ?_
               rotate_left
               ·
                intro w';go_simp;with_reducible rfl
               rotate_left
               ·
                simp only[Act.put,sa',sb',sc',i64_w,i32_w];rfl
               refine pure_ (i:=3) (N:=some 57) (v:=?_) (a':=?_) #[true,true,true,true,false,false,false,false,false,false,false,false,false,false,false,false,false,false,false,false,false,false,false,false] rfl rfl (any_of HT_.out xk') (fun _ _ _ h=>h) (Or.inl ⟨by rfl,?_⟩) ?_ ?_
               rotate_left
               ·
                intro w';go_simp;with_reducible rfl
               rotate_left
               ·
                simp only[Act.put,sa',sb',sc',i64_w,i32_w];rfl
               refine pure_ (i:=4) (N:=some 58) (v:=?_) (a':=?_) #[true,true,true,true,true,false,false,false,false,false,false,false,false,false,false,false,false,false,false,false,false,false,false,false] rfl rfl (any_of HT_.out xk') (fun _ _ _ h=>h) (Or.inl ⟨by rfl,?_⟩) ?_ ?_
               rotate_left
               ·
                intro w';go_simp;with_reducible rfl
               rotate_left
               ·
                simp only[Act.put,sa',sb',sc',i64_w,i32_w];rfl
               refine pure_ (i:=5) (N:=some 59) (v:=?_) (a':=?_) #[true,true,true,true,true,true,false,false,false,false,false,false,false,false,false,false,false,false,false,false,false,false,false,false] rfl rfl (any_of HT_.out xk') (fun _ _ _ h=>h) (Or.inl ⟨by rfl,?_⟩) ?_ ?_
               rotate_left
               ·
                intro w';go_simp;with_reducible rfl
               rotate_left
               ·
                simp only[Act.put,sa',sb',sc',i64_w,i32_w];rfl
               refine pure_ (i:=6) (N:=some 60) (v:=?_) (a':=?_) #[true,true,true,true,true,true,true,false,false,false,false,false,false,false,false,false,false,false,false,false,false,false,false,false] rfl rfl (any_of HT_.out xk') (fun _ _ _ h=>h) (Or.inl ⟨by rfl,?_⟩) ?_ ?_
               rotate_left
               ·
                intro w';go_simp;with_reducible rfl
               rotate_left
               ·
                simp only[Act.put,sa',sb',sc',i64_w,i32_w];rfl
               refine pure_ (i:=8) (N:=some 62) (v:=?_) (a':=?_) #[true,true,true,true,true,true,true,false,true,false,false,false,false,false,false,false,false,false,false,false,false,false,false,false] rfl rfl (any_of HT_.out xk') (fun _ _ _ h=>h) (Or.inl ⟨by rfl,?_⟩) ?_ ?_
               rotate_left
               ·
                intro w';go_simp;with_reducible rfl
               rotate_left
               ·
                simp only[Act.put,sa',sb',sc',i64_w,i32_w];rfl
               refine take_ (i:=7) (N:=some 61) (v:=?_) (a':=?_) #[true,true,true,true,true,true,true,true,true,false,false,false,false,false,false,false,false,false,false,false,false,false,false,false] rfl rfl (take_ofW HT_.out HW_.out xk') (fun _ _ _ h=>h) (Or.inl ⟨by rfl,?_⟩) hHeld ?_ ?_
               rotate_left
               ·
                rintro w' ⟨s0,s1,s2,s3,s4,s5,s6⟩
                go_simp;with_reducible rfl
               rotate_left
               ·
                simp only[Act.put,sa',sb',sc',i64_w,i32_w];rfl
               refine one_ (i:=9) (N:=some 63) #[true,true,true,true,true,true,true,true,true,true,false,false,false,false,false,false,false,false,false,false,false,false,false,false] rfl rfl (one_of HT_.out xk') (by decide) (fun K hK=>?_);refine goes_ Try.func78 xk' rfl #[.slice A272_0 (rd_L2 l2 (ji33)).length c272_0, .slice A264_0 (rd_L2 l2 x17_1).length c264_0] (by rfl) rfl rfl (by (try simp only[List.map_toArray,List.map_cons,List.map_nil]);first|done|(simp only[hji33];rfl)|rfl|(simp only[List.length_drop,List.length_take];rfl)) ?_
               with_reducible refine (slices_Compare_int_int.calls kj12 _ _ (rd_L2 l2 (ji33)) _ _ (rd_L2 l2 x17_1) t273 _ ?side1 ?side2 ?side3 ?side4 A36.out).mono ?_
               (case side1=>exact kc' (cb' HR272_0.out HB.out))
               (case side2=>exact HC272_0.out)
               (case side3=>exact kc' (cb' HR264_0.out HB.out))
               (case side4=>exact HC264_0.out)
               rintro e w' ⟨rfl,⟨nd,rfl⟩⟩
               refine ⟨_,rfl,?_⟩;refine hK.out _ _ ⟨(bc' BK261.out 0).trans rfl,(bc' BK261.out 1).trans rfl,(bc' BK261.out 2).trans rfl,(bc' BK262.out 0).trans rfl,(bc' BK262.out 1).trans rfl,((HB.out.cell (bl' w _ hw272_0)).trans hw272_0),((HB.out.cell (bl' w _ hw274_0)).trans hw274_0)⟩ (fun hHeld=>?_);clear hK K;refine norm_ (a':=?_) ?_ ?_
               rotate_left
               ·
                show Act.put _ (some 63) _=_
                simp only[Act.put,sa',sb',sc',i64_w,i32_w];rfl
               refine pure_ (i:=10) (N:=some 64) (v:=?_) (a':=?_) #[true,true,true,true,true,true,true,true,true,true,true,false,false,false,false,false,false,false,false,false,false,false,false,false] rfl rfl (any_of HT_.out xk') (fun _ _ _ h=>h) (Or.inl ⟨by rfl,?_⟩) ?_ ?_
               rotate_left
               ·
                intro w';go_simp;with_reducible rfl
               rotate_left
               ·
                simp only[Act.put,sa',sb',sc',i64_w,i32_w];rfl
               refine pure_ (i:=11) (N:=some 65) (v:=?_) (a':=?_) #[true,true,true,true,true,true,true,true,true,true,true,true,false,false,false,false,false,false,false,false,false,false,false,false] rfl rfl (any_of HT_.out xk') (fun _ _ _ h=>h) (Or.inl ⟨by rfl,?_⟩) ?_ ?_
               rotate_left
               ·
                intro w';go_simp;with_reducible rfl
               rotate_left
               ·
                simp only[Act.put,sa',sb',sc',i64_w,i32_w];rfl
               refine pure_ (i:=14) (N:=some 68) (v:=?_) (a':=?_) #[true,true,true,true,true,true,true,true,true,true,true,true,false,false,true,false,false,false,false,false,false,false,false,false] rfl rfl (any_of HT_.out xk') (fun _ _ _ h=>h) (Or.inl ⟨by rfl,?_⟩) ?_ ?_
               rotate_left
               ·
                intro w';go_simp;with_reducible rfl
               rotate_left
               ·
                simp only[Act.put,sa',sb',sc',i64_w,i32_w];rfl
               refine pure_ (i:=15) (N:=some 69) (v:=?_) (a':=?_) #[true,true,true,true,true,true,true,true,true,true,true,true,false,false,true,true,false,false,false,false,false,false,false,false] rfl rfl (any_of HT_.out xk') (fun _ _ _ h=>h) (Or.inl ⟨by rfl,?_⟩) ?_ ?_
               rotate_left
               ·
                intro w';go_simp;with_reducible rfl
               rotate_left
               ·
                simp only[Act.put,sa',sb',sc',i64_w,i32_w];rfl
               refine pure_ (i:=16) (N:=some 70) (v:=?_) (a':=?_) #[true,true,true,true,true,true,true,true,true,true,true,true,false,false,true,true,true,false,false,false,false,false,false,false] rfl rfl (any_of HT_.out xk') (fun _ _ _ h=>h) (Or.inl ⟨by rfl,?_⟩) ?_ ?_
               rotate_left
               ·
                intro w';go_simp;with_reducible rfl
               rotate_left
               ·
                simp only[Act.put,sa',sb',sc',i64_w,i32_w];rfl
               refine pure_ (i:=17) (N:=some 71) (v:=?_) (a':=?_) #[true,true,true,true,true,true,true,true,true,true,true,true,false,false,true,true,true,true,false,false,false,false,false,false] rfl rfl (any_of HT_.out xk') (fun _ _ _ h=>h) (Or.inl ⟨by rfl,?_⟩) ?_ ?_
               rotate_left
               ·
                intro w';go_simp;with_reducible rfl
               rotate_left
               ·
                simp only[Act.put,sa',sb',sc',i64_w,i32_w];rfl
               refine pure_ (i:=19) (N:=some 73) (v:=?_) (a':=?_) #[true,true,true,true,true,true,true,true,true,true,true,true,false,false,true,true,true,true,false,true,false,false,false,false] rfl rfl (any_of HT_.out xk') (fun _ _ _ h=>h) (Or.inl ⟨by rfl,?_⟩) ?_ ?_
               rotate_left
               ·
                intro w';go_simp;with_reducible rfl
               rotate_left
               ·
                simp only[Act.put,sa',sb',sc',i64_w,i32_w];rfl
               refine take_ (i:=12) (N:=some 66) (v:=?_) (a':=?_) #[true,true,true,true,true,true,true,true,true,true,true,true,true,false,true,true,true,true,false,true,false,false,false,false] rfl rfl (take_ofW HT_.out HW_.out xk') (fun _ _ _ h=>h) (Or.inl ⟨by rfl,?_⟩) hHeld ?_ ?_
               rotate_left
               ·
                rintro w' ⟨s0,s1,s2,s3,s4,s5,s6⟩
                go_simp;with_reducible rfl
               rotate_left
               ·
                simp only[Act.put,sa',sb',sc',i64_w,i32_w];rfl
               refine take_ (i:=13) (N:=some 67) (v:=?_) (a':=?_) #[true,true,true,true,true,true,true,true,true,true,true,true,true,true,true,true,true,true,false,true,false,false,false,false] rfl rfl (take_ofW HT_.out HW_.out xk') (fun _ _ _ h=>h) (Or.inl ⟨by rfl,?_⟩) hHeld ?_ ?_
               rotate_left
               ·
                rintro w' ⟨s0,s1,s2,s3,s4,s5,s6⟩
                go_simp;with_reducible rfl
               rotate_left
               ·
                simp only[Act.put,sa',sb',sc',i64_w,i32_w];rfl
               refine take_ (i:=18) (N:=some 72) (v:=?_) (a':=?_) #[true,true,true,true,true,true,true,true,true,true,true,true,true,true,true,true,true,true,true,true,false,false,false,false] rfl rfl (take_ofW HT_.out HW_.out xk') (fun _ _ _ h=>h) (Or.inl ⟨by rfl,?_⟩) hHeld ?_ ?_
               rotate_left
               ·
                rintro w' ⟨s0,s1,s2,s3,s4,s5,s6⟩
                go_simp;with_reducible rfl
               rotate_left
               ·
                simp only[Act.put,sa',sb',sc',i64_w,i32_w];rfl
               refine one_ (i:=20) (N:=some 74) #[true,true,true,true,true,true,true,true,true,true,true,true,true,true,true,true,true,true,true,true,true,false,false,false] rfl rfl (one_of HT_.out xk') (by decide) (fun K hK=>?_);refine goes_ Try.func79 xk' rfl #[.agg #[.slice A0_0 l0_0.length c0_0, .int .i64 a0_1, .int .i64 a0_2], .agg #[.slice A1_0 l1_0.length c1_0, .int .i64 a1_1], .slice A272_0 (rd_L2 l2 (ji33)).length c272_0, .slice A264_0 (rd_L2 l2 x17_1).length c264_0] (by rfl) rfl rfl (by (try simp only[List.map_toArray,List.map_cons,List.map_nil]);first|done|(simp only[hji33];rfl)|rfl|(simp only[List.length_drop,List.length_take];rfl)) ?_
               with_reducible refine (impl_Night_together.calls _ _ l0_0 a0_1 a0_2 _ _ l1_0 a1_1 _ _ (rd_L2 l2 (ji33)) _ _ (rd_L2 l2 x17_1) false _ ?side1 ?side2 ?side3 ?side4 ?side5 ?side6 ?side7 ?side8 A39.out).mono ?_
               (case side1=>exact kc' (cb' HR0_0.out (y2' GE261.out GE262.out)))
               (case side2=>exact HC0_0.out)
               (case side3=>exact kc' (cb' HR1_0.out (y2' GE261.out GE262.out)))
               (case side4=>exact HC1_0.out)
               (case side5=>exact kc' (cb' HR274_0.out (y2' GE261.out GE262.out)))
               (case side6=>exact HC274_0.out)
               (case side7=>exact kc' (cb' HR264_0.out (y2' GE261.out GE262.out)))
               (case side8=>exact HC264_0.out)
               rintro e w44 ⟨rfl,hb⟩
               refine ⟨_,rfl,?_⟩;have n0_:=am' (bb' (g:=gb261) (o := .cells #[.slice A0_0 l0_0.length c0_0, .int .i64 a0_1, .int .i64 a0_2] 35 (0,0)) (kk' BK261.out) hb);have n1_:=am' (bb' (g:=gb262) (o := .cells #[.slice A1_0 l1_0.length c1_0, .int .i64 a1_1] 32 (0,0)) (kk' BK262.out) hb);have n2_:=am' (bt' (y2' GE261.out GE262.out) hb);clear BK261;clear BK262;clear HB;have BK261:=n0_;have BK262:=n1_;have HB:=n2_;clear n0_ n1_ n2_;(try clear hb)
               (try clear hb2)
               (try clear hk)
               (try clear hi)
               refine hK.out _ _ ⟨(bc' BK261.out 0).trans rfl,(bc' BK261.out 1).trans rfl,(bc' BK261.out 2).trans rfl,(bc' BK262.out 0).trans rfl,(bc' BK262.out 1).trans rfl,((HB.out.cell (bl' w _ hw272_0)).trans hw272_0),((HB.out.cell (bl' w _ hw274_0)).trans hw274_0)⟩ (fun hHeld=>?_);clear hK K;refine norm_ (a':=?_) ?_ ?_
               rotate_left
               ·
                show Act.put _ (some 74) _=_
                simp only[Act.put,sa',sb',sc',i64_w,i32_w];rfl
               refine pure_ (i:=21) (N:=some 75) (v:=?_) (a':=?_) #[true,true,true,true,true,true,true,true,true,true,true,true,true,true,true,true,true,true,true,true,true,true,false,false] rfl rfl (any_of HT_.out xk') (fun _ _ _ h=>h) (Or.inl ⟨by rfl,?_⟩) ?_ ?_
               rotate_left
               ·
                intro w';go_simp;with_reducible rfl
               rotate_left
               ·
                simp only[Act.put,sa',sb',sc',i64_w,i32_w];rfl
               refine pure_ (i:=22) (N:=some 76) (v:=?_) (a':=?_) #[true,true,true,true,true,true,true,true,true,true,true,true,true,true,true,true,true,true,true,true,true,true,true,false] rfl rfl (any_of HT_.out xk') (fun _ _ _ h=>h) (Or.inl ⟨by rfl,?_⟩) ?_ ?_
               rotate_left
               ·
                intro w';go_simp;with_reducible rfl
               rotate_left
               ·
                simp only[Act.put,sa',sb',sc',i64_w,i32_w];rfl
               refine pure_ (i:=23) (N:=some 77) (v:=?_) (a':=?_) #[true,true,true,true,true,true,true,true,true,true,true,true,true,true,true,true,true,true,true,true,true,true,true,true] rfl rfl (any_of HT_.out xk') (fun _ _ _ h=>h) (Or.inl ⟨by rfl,?_⟩) ?_ ?_
               rotate_left
               ·
                intro w';go_simp;with_reducible rfl
               rotate_left
               ·
                simp only[Act.put,sa',sb',sc',i64_w,i32_w];rfl
               refine done_ (done_of HT_.out xk') ?_
               try go_wp2
               go_ret
               exact ⟨by first|rfl|(simp[errW_none,errW_some] <;> rfl)|(simp only[← hji33];first|rfl|(simp[errW_none,errW_some] <;> rfl))|(simp[*,errW_none,errW_some] <;> rfl),y2' GE261.out GE262.out⟩
            ·
             rw[if_neg c35] at H;exact absurd H (by simp)
           ·
            rw[if_neg c34] at H;exact absurd H (by simp)
          ·
           rw[if_neg c32] at H;have c32b0:decide (0 < x17_1)=false:=df' c32;clear c32;have H':=am' H;clear H;try go_wp2
           have n0_:=am' (kd' BK261.out);have n1_:=am' (kd' BK262.out);have n2_:=am' (be' HB.out);clear BK261;clear BK262;clear HB;have BK261:=n0_;have BK262:=n1_;have HB:=n2_;clear n0_ n1_ n2_;refine start_ (n:=24) (S:=fun w'=>True) (ds:=[]) #[false,false,false,false,false,false,false,false,false,false,false,false,false,false,false,false,false,false,false,false,false,false,false,false] xk' rfl rfl trivial (fun hHeld=>?_);refine with_tabW impl_Night_isRound.tab8 impl_Night_isRound.bits8 (fun HT_ HW_=>?_);generalize wc.drew=w45 at BK261 BK262 HB hHeld ⊢
           refine pure_ (i:=0) (N:=some 54) (v:=?_) (a':=?_) #[true,false,false,false,false,false,false,false,false,false,false,false,false,false,false,false,false,false,false,false,false,false,false,false] rfl rfl (any_of HT_.out xk') (fun _ _ _ h=>h) (Or.inl ⟨by rfl,?_⟩) ?_ ?_
           rotate_left
           ·
            intro w';go_simp;with_reducible rfl
           rotate_left
           ·
            simp only[Act.put,sa',sb',sc',i64_w,i32_w];rfl
           refine pure_ (i:=1) (N:=some 55) (v:=?_) (a':=?_) #[true,true,false,false,false,false,false,false,false,false,false,false,false,false,false,false,false,false,false,false,false,false,false,false] rfl rfl (any_of HT_.out xk') (fun _ _ _ h=>h) (Or.inl ⟨by rfl,?_⟩) ?_ ?_
           rotate_left
           ·
            intro w';go_simp;with_reducible rfl
           rotate_left
           ·
            simp only[Act.put,sa',sb',sc',i64_w,i32_w];rfl
           refine pure_ (i:=2) (N:=some 56) (v:=?_) (a':=?_) #[true,true,true,false,false,false,false,false,false,false,false,false,false,false,false,false,false,false,false,false,false,false,false,false] rfl rfl (any_of HT_.out xk') (fun _ _ _ h=>h) (Or.inl ⟨by rfl,?_⟩) ?_ ?_
           rotate_left
           ·
            intro w';go_simp;with_reducible rfl
           rotate_left
           ·
            simp only[Act.put,sa',sb',sc',i64_w,i32_w];rfl
           refine pure_ (i:=3) (N:=some 57) (v:=undef) (a':=?_) #[true,true,true,true,false,false,false,false,false,false,false,false,false,false,false,false,false,false,false,false,false,false,false,false] rfl rfl (any_of HT_.out xk') (fun _ _ _ h=>h) (Or.inr ⟨by rfl,rfl⟩) ?_ ?_
           rotate_left
           ·
            simp only[Act.put,sa',sb',sc',i64_w,i32_w];rfl
           refine pure_ (i:=4) (N:=some 58) (v:=undef) (a':=?_) #[true,true,true,true,true,false,false,false,false,false,false,false,false,false,false,false,false,false,false,false,false,false,false,false] rfl rfl (any_of HT_.out xk') (fun _ _ _ h=>h) (Or.inr ⟨by rfl,rfl⟩) ?_ ?_
           rotate_left
           ·
            simp only[Act.put,sa',sb',sc',i64_w,i32_w];rfl
           refine pure_ (i:=5) (N:=some 59) (v:=undef) (a':=?_) #[true,true,true,true,true,true,false,false,false,false,false,false,false,false,false,false,false,false,false,false,false,false,false,false] rfl rfl (any_of HT_.out xk') (fun _ _ _ h=>h) (Or.inr ⟨by rfl,rfl⟩) ?_ ?_
           rotate_left
           ·
            simp only[Act.put,sa',sb',sc',i64_w,i32_w];rfl
           refine pure_ (i:=6) (N:=some 60) (v:=undef) (a':=?_) #[true,true,true,true,true,true,true,false,false,false,false,false,false,false,false,false,false,false,false,false,false,false,false,false] rfl rfl (any_of HT_.out xk') (fun _ _ _ h=>h) (Or.inr ⟨by rfl,rfl⟩) ?_ ?_
           rotate_left
           ·
            simp only[Act.put,sa',sb',sc',i64_w,i32_w];rfl
           refine pure_ (i:=7) (N:=some 61) (v:=undef) (a':=?_) #[true,true,true,true,true,true,true,true,false,false,false,false,false,false,false,false,false,false,false,false,false,false,false,false] rfl rfl (any_of HT_.out xk') (fun _ _ _ h=>h) (Or.inr ⟨by rfl,rfl⟩) ?_ ?_
           rotate_left
           ·
            simp only[Act.put,sa',sb',sc',i64_w,i32_w];rfl
           refine pure_ (i:=8) (N:=some 62) (v:=undef) (a':=?_) #[true,true,true,true,true,true,true,true,true,false,false,false,false,false,false,false,false,false,false,false,false,false,false,false] rfl rfl (any_of HT_.out xk') (fun _ _ _ h=>h) (Or.inr ⟨by rfl,rfl⟩) ?_ ?_
           rotate_left
           ·
            simp only[Act.put,sa',sb',sc',i64_w,i32_w];rfl
           refine pure_ (i:=9) (N:=some 63) (v:=undef) (a':=?_) #[true,true,true,true,true,true,true,true,true,true,false,false,false,false,false,false,false,false,false,false,false,false,false,false] rfl rfl (any_of HT_.out xk') (fun _ _ _ h=>h) (Or.inr ⟨by rfl,rfl⟩) ?_ ?_
           rotate_left
           ·
            simp only[Act.put,sa',sb',sc',i64_w,i32_w];rfl
           refine pure_ (i:=10) (N:=some 64) (v:=undef) (a':=?_) #[true,true,true,true,true,true,true,true,true,true,true,false,false,false,false,false,false,false,false,false,false,false,false,false] rfl rfl (any_of HT_.out xk') (fun _ _ _ h=>h) (Or.inr ⟨by rfl,rfl⟩) ?_ ?_
           rotate_left
           ·
            simp only[Act.put,sa',sb',sc',i64_w,i32_w];rfl
           refine pure_ (i:=11) (N:=some 65) (v:=undef) (a':=?_) #[true,true,true,true,true,true,true,true,true,true,true,true,false,false,false,false,false,false,false,false,false,false,false,false] rfl rfl (any_of HT_.out xk') (fun _ _ _ h=>h) (Or.inr ⟨by rfl,rfl⟩) ?_ ?_
           rotate_left
           ·
            simp only[Act.put,sa',sb',sc',i64_w,i32_w];rfl
           refine pure_ (i:=12) (N:=some 66) (v:=undef) (a':=?_) #[true,true,true,true,true,true,true,true,true,true,true,true,true,false,false,false,false,false,false,false,false,false,false,false] rfl rfl (any_of HT_.out xk') (fun _ _ _ h=>h) (Or.inr ⟨by rfl,rfl⟩) ?_ ?_
           rotate_left
           ·
            simp only[Act.put,sa',sb',sc',i64_w,i32_w];rfl
           refine pure_ (i:=13) (N:=some 67) (v:=undef) (a':=?_) #[true,true,true,true,true,true,true,true,true,true,true,true,true,true,false,false,false,false,false,false,false,false,false,false] rfl rfl (any_of HT_.out xk') (fun _ _ _ h=>h) (Or.inr ⟨by rfl,rfl⟩) ?_ ?_
           rotate_left
           ·
            simp only[Act.put,sa',sb',sc',i64_w,i32_w];rfl
           refine pure_ (i:=14) (N:=some 68) (v:=undef) (a':=?_) #[true,true,true,true,true,true,true,true,true,true,true,true,true,true,true,false,false,false,false,false,false,false,false,false] rfl rfl (any_of HT_.out xk') (fun _ _ _ h=>h) (Or.inr ⟨by rfl,rfl⟩) ?_ ?_
           rotate_left
           ·
            simp only[Act.put,sa',sb',sc',i64_w,i32_w];rfl
           refine pure_ (i:=15) (N:=some 69) (v:=undef) (a':=?_) #[true,true,true,true,true,true,true,true,true,true,true,true,true,true,true,true,false,false,false,false,false,false,false,false] rfl rfl (any_of HT_.out xk') (fun _ _ _ h=>h) (Or.inr ⟨by rfl,rfl⟩) ?_ ?_
           rotate_left
           ·
            simp only[Act.put,sa',sb',sc',i64_w,i32_w];rfl
           refine pure_ (i:=16) (N:=some 70) (v:=undef) (a':=?_) #[true,true,true,true,true,true,true,true,true,true,true,true,true,true,true,true,true,false,false,false,false,false,false,false] rfl rfl (any_of HT_.out xk') (fun _ _ _ h=>h) (Or.inr ⟨by rfl,rfl⟩) ?_ ?_
           rotate_left
           ·
            simp only[Act.put,sa',sb',sc',i64_w,i32_w];rfl
           refine pure_ (i:=17) (N:=some 71) (v:=undef) (a':=?_) #[true,true,true,true,true,true,true,true,true,true,true,true,true,true,true,true,true,true,false,false,false,false,false,false] rfl rfl (any_of HT_.out xk') (fun _ _ _ h=>h) (Or.inr ⟨by rfl,rfl⟩) ?_ ?_
           rotate_left
           ·
            simp only[Act.put,sa',sb',sc',i64_w,i32_w];rfl
           refine pure_ (i:=18) (N:=some 72) (v:=undef) (a':=?_) #[true,true,true,true,true,true,true,true,true,true,true,true,true,true,true,true,true,true,true,false,false,false,false,false] rfl rfl (any_of HT_.out xk') (fun _ _ _ h=>h) (Or.inr ⟨by rfl,rfl⟩) ?_ ?_
           rotate_left
           ·
            simp only[Act.put,sa',sb',sc',i64_w,i32_w];rfl
           refine pure_ (i:=19) (N:=some 73) (v:=undef) (a':=?_) #[true,true,true,true,true,true,true,true,true,true,true,true,true,true,true,true,true,true,true,true,false,false,false,false] rfl rfl (any_of HT_.out xk') (fun _ _ _ h=>h) (Or.inr ⟨by rfl,rfl⟩) ?_ ?_
           rotate_left
           ·
            simp only[Act.put,sa',sb',sc',i64_w,i32_w];rfl
           refine pure_ (i:=20) (N:=some 74) (v:=undef) (a':=?_) #[true,true,true,true,true,true,true,true,true,true,true,true,true,true,true,true,true,true,true,true,true,false,false,false] rfl rfl (any_of HT_.out xk') (fun _ _ _ h=>h) (Or.inr ⟨by rfl,rfl⟩) ?_ ?_
           rotate_left
           ·
            simp only[Act.put,sa',sb',sc',i64_w,i32_w];rfl
           refine pure_ (i:=21) (N:=some 75) (v:=undef) (a':=?_) #[true,true,true,true,true,true,true,true,true,true,true,true,true,true,true,true,true,true,true,true,true,true,false,false] rfl rfl (any_of HT_.out xk') (fun _ _ _ h=>h) (Or.inr ⟨by rfl,rfl⟩) ?_ ?_
           rotate_left
           ·
            simp only[Act.put,sa',sb',sc',i64_w,i32_w];rfl
           refine pure_ (i:=22) (N:=some 76) (v:=undef) (a':=?_) #[true,true,true,true,true,true,true,true,true,true,true,true,true,true,true,true,true,true,true,true,true,true,true,false] rfl rfl (any_of HT_.out xk') (fun _ _ _ h=>h) (Or.inr ⟨by rfl,rfl⟩) ?_ ?_
           rotate_left
           ·
            simp only[Act.put,sa',sb',sc',i64_w,i32_w];rfl
           refine pure_ (i:=23) (N:=some 77) (v:=?_) (a':=?_) #[true,true,true,true,true,true,true,true,true,true,true,true,true,true,true,true,true,true,true,true,true,true,true,true] rfl rfl (any_of HT_.out xk') (fun _ _ _ h=>h) (Or.inl ⟨by rfl,?_⟩) ?_ ?_
           rotate_left
           ·
            intro w';go_simp;with_reducible rfl
           rotate_left
           ·
            simp only[Act.put,sa',sb',sc',i64_w,i32_w];rfl
           refine done_ (done_of HT_.out xk') ?_
           try go_wp2
           go_roundg kj12
           case measure=>have:=HK1.out;have:=HJ12.out;omega
           case rel=>exact ⟨(wrap64 (x17_1+1)),xs',H',⟨by have:=HK1.out;have:=HJ12.out;omega⟩,⟨kk' BK261.out⟩,⟨kk' BK262.out⟩,⟨y2' GE261.out GE262.out⟩⟩
      ·
       rw[if_neg c12] at H;exact absurd H (by simp)
     ·
      rw[if_neg c11] at H;exact absurd H (by simp)
    ·
     rw[if_neg c10] at H;have c10b0:decide (x17_1 < (l2.length:Int))=false:=df' c10;clear c10;obtain rfl:=os' H;go_wp2;go_ret
     exact ⟨by first|rfl|(simp[errW_none,errW_some] <;> rfl)|(simp[*,errW_none,errW_some] <;> rfl),y2' GE261.out GE262.out⟩
 ·
  replace c5:=Bool.eq_false_iff.mpr c5;subst c5;have H1:(some false)=some r:=by rw[if_neg (show ¬ (false=true) by decide)] at H;exact H
  clear H;have H:=H1;clear H1;obtain rfl:=os' H;go_enter Try.func59,Try.ntmps59;go_wp2_with (first|((with_reducible refine gate_dst (N:=3) rfl ?_);refine box_event ?hg (N:=3) ?hd (cs:=#[.slice A0_0 l0_0.length c0_0, .int .i64 a0_1, .int .i64 a0_2]) (t:=35) ?hr ?_;(case hd=>rfl);(case hg=>rfl);(case hr=>first|(go_simp;done)|(go_simp;rfl));intro gb261 hg w46 hbox hb;have n0_:=am' (bt' xb' hb);have n1_:=am' (hbox);have n2_:=am' ((by rw[hg];exact (bz' xb'):w.heap.size≤gb261));have n3_:=am' ((by rw[hg];exact (bz' xb'):w.heap.size≤gb261));clear HB;have HB:=n0_;have BK261:=n1_;have GW261:=n2_;have GE261:=n3_;clear n0_ n1_ n2_ n3_;clear hb hbox hg)|((with_reducible refine gate_dst (N:=4) rfl ?_);refine box_event ?hg (N:=4) ?hd (cs:=#[.slice A1_0 l1_0.length c1_0, .int .i64 a1_1]) (t:=32) ?hr ?_;(case hd=>rfl);(case hg=>rfl);(case hr=>first|(go_simp;done)|(go_simp;rfl));intro gb262 hg w47 hbox hb;have n0_:=am' (bb' (g:=gb261) (o := .cells #[.slice A0_0 l0_0.length c0_0, .int .i64 a0_1, .int .i64 a0_2] 35 (0,0)) (kk' BK261.out) hb);have n1_:=am' (bt' (yb' GE261.out) hb);have n2_:=am' (hbox);have n3_:=am' ((by rw[hg];exact (bz' (yb' GE261.out)):w.heap.size≤gb262));have n4_:=am' ((by rw[hg];exact (bz' (yb' GE261.out)):w.heap.size≤gb262));have n5_:=am' ((by rw[hg];exact Nat.ne_of_lt (blk_lt (g:=gb261) (o := .cells #[.slice A0_0 l0_0.length c0_0, .int .i64 a0_1, .int .i64 a0_2] 35 (0,0)) (kk' BK261.out)):gb261≠gb262));have n6_:=am' ((by rw[hg];exact Nat.ne_of_gt (blk_lt (g:=gb261) (o := .cells #[.slice A0_0 l0_0.length c0_0, .int .i64 a0_1, .int .i64 a0_2] 35 (0,0)) (kk' BK261.out)):gb262≠gb261));clear BK261;clear HB;have BK261:=n0_;have HB:=n1_;have BK262:=n2_;have GW262:=n3_;have GE262:=n4_;have NB261_262:=n5_;have NB262_261:=n6_;clear n0_ n1_ n2_ n3_ n4_ n5_ n6_;clear hb hbox hg;have hnb48:=NB261_262.out;have hnc48:=NB262_261.out;have hcz49_0:w47.cell? ⟨gb261,0,none⟩=some (.slice A0_0 l0_0.length c0_0):=(bc' BK261.out 0).trans rfl;have hcz49_1:w47.cell? ⟨gb261,1,none⟩=some (.int .i64 a0_1):=(bc' BK261.out 1).trans rfl;have hcz49_2:w47.cell? ⟨gb261,2,none⟩=some (.int .i64 a0_2):=(bc' BK261.out 2).trans rfl;have hfz49_0:=bf' BK261.out 0;have hfz49_1:=bf' BK261.out 1;have hfz49_2:=bf' BK261.out 2)|((with_reducible refine gate_callee (f:=66) rfl ?_);refine goesL_ (some 13) rfl rfl Try.func66 xk' rfl #[.int .i64 (l2.length:Int), .int .i64 1, .int .i64 a0_2] rfl xl' ?_;(with_reducible refine (impl_in.calls (l2.length:Int) 1 a0_2 false _ A4.out).mono ?_);rintro e w' ⟨rfl,⟨nd,rfl⟩⟩;refine ⟨_,rfl,?_⟩))
  go_ret
  exact ⟨by first|rfl|(simp[errW_none,errW_some] <;> rfl)|(simp[*,errW_none,errW_some] <;> rfl),y2' GE261.out GE262.out⟩
end Go.Proofs.Ytdomojenlofieaa.C2
