import Derived.Test.YtihieplobgehaaaC2zx0
import Derived.Test.YtihieplobgehaaaC2zx4
import Derived.Test.YtihieplobgehaaaC2zAl
namespace Go.Proofs.Ytihieplobgehaaa.C2
open Go.RowKit Go.Proofs.YtihieplobgehaaaW.PrintWords Go.Proofs.YtihieplobgehaaaW.PrintLast Go.Proofs.YtihieplobgehaaaW.PrintMore Go.Proofs.Ytihieplobgehaaa.H
attribute [local go_sem] max2_int min2_int max_two min_two max_three min_three max_four min_four
set_option linter.unusedVariables false
set_option linter.unusedSimpArgs false
def spec_paTime.l0:Nat→Int→List Int→Int→Int→List Int→Int→Option (Int)
 | 0,_,_,_,_,_,_=>none
 | k+1,x5,x8,x9,x10,x170000,x170001=>if x10 < x9 then (if 0≤x10 then (if x10 < (x8.length:Int) then (if 0≤(rd x8 x10) then (if (rd x8 x10) < (x170000.length:Int) then ((spec_l1Most.f x5 (rd x170000 (rd x8 x10))).bind fun t172=>(spec_paTime.l0 k t172 x8 x9 (wrap64 (x10+1)) x170000 x170001)) else (none)) else (none)) else (none)) else (none)) else (some x5)
def spec_paTime.f (k:Nat) (l0_0:List Int) (a0_1:Int) (l1:List Int):Option (Int):=spec_paTime.l0 k 0 l1 (l1.length:Int) 0 l0_0 a0_1
set_option maxHeartbeats 8000000 in
set_option maxRecDepth 100000 in
theorem spec_paTime.calls (k:Nat) (A0_0:Option Addr) (c0_0:Nat) (l0_0:List Int) (a0_1:Int) (A1:Option Addr) (c1:Nat) (l1:List Int) (r:Int) (w:World) (hr0_0:Kd.C (Kd.int .i64) w A0_0 l0_0.length l0_0) (hc0_0:l0_0.length≤c0_0) (hr1:Kd.C (Kd.int .i64) w A1 l1.length l1) (hc1:l1.length≤c1) (h:spec_paTime.f k l0_0 a0_1 l1=some r) :
  Calls Try.prog 51 #[.agg #[.slice A0_0 l0_0.length c0_0, .int .i64 a0_1], .slice A1 l1.length c1] w fun e w'=>e = .returned (.int .i64 r)∧Below w.heap.size w w':=by
 have hu28:=Try.underlying28
 have HR0_0:=am' hr0_0
 have HC0_0:=am' hc0_0
 clear hr0_0 hc0_0;have HR1:=am' hr1
 have HC1:=am' hc1
 clear hr1 hc1;have HB:=am' (Below.refl w.heap.size w)
 have H:(spec_paTime.l0 k 0 l1 (l1.length:Int) 0 l0_0 a0_1)=some r:=h
 clear h;have H':=am' H
 clear H;go_enter Try.func51,Try.ntmps51
 go_wp2_with (first|((with_reducible refine gate_dst (N:=2) rfl ?_);refine box_event ?hg (N:=2) ?hd (cs:=#[.slice A0_0 l0_0.length c0_0, .int .i64 a0_1]) (t:=28) ?hr ?_;(case hd=>rfl);(case hg=>rfl);(case hr=>first|(go_simp;done)|(go_simp;rfl));intro gb169 hg w3 hbox hb;have n0_:=am' (bt' xb' hb);have n1_:=am' (hbox);have n2_:=am' ((by rw[hg];exact (bz' xb'):w.heap.size≤gb169));have n3_:=am' ((by rw[hg];exact (bz' xb'):w.heap.size≤gb169));clear HB;have HB:=n0_;have BK169:=n1_;have GW169:=n2_;have GE169:=n3_;clear n0_ n1_ n2_ n3_;clear hb hbox hg))
 go_loopg [5,10] k (fun kq v5 v10 w'=>∃ (x5_1:Int) (x10_1:Int),v5 = .int .i64 x5_1∧v10 = .int .i64 x10_1∧Aside0 (spec_paTime.l0 kq x5_1 l1 (l1.length:Int) x10_1 l0_0 a0_1=some r)∧Aside0 (kq≤k)∧Aside0 (w'.heap[gb169]? = some (.cells #[(.slice A0_0 l0_0.length c0_0), .int .i64 a0_1] 28 (0,0)))∧Aside0 (Below w.heap.size w w'))
 case atStart=>exact ⟨(0),(0),xs',xs',H',⟨Nat.le_refl _⟩,⟨kk' BK169.out⟩,⟨yb' GE169.out⟩⟩
 case round =>
  clear H';try clear c1
  try clear p2
  obtain ⟨x5_1,x10_1,rfl,rfl,HA,HK1,BK169,HB⟩:=hrel;cases gk with
  | zero=>exact absurd HA.out (by simp[spec_paTime.l0])
  | succ k1 =>
   have H:=HA.out;clear HA;simp only[spec_paTime.l0] at H;by_cases c4:x10_1 < (l1.length:Int)
   ·
    rw[if_pos c4] at H;have c4b0:decide (x10_1 < (l1.length:Int))=true:=dt' c4;clear c4;by_cases c5:0≤x10_1
    ·
     rw[if_pos c5] at H;have c5b0:decide (0≤x10_1)=true:=dt' c5;clear c5;by_cases c6:x10_1 < (l1.length:Int)
     ·
      rw[if_pos c6] at H;have c6b0:decide (x10_1 < (l1.length:Int))=true:=dt' c6;clear c6;by_cases c7:0≤(rd l1 x10_1)
      ·
       rw[if_pos c7] at H;have c7b0:decide (0≤(rd l1 x10_1))=true:=dt' c7;clear c7;by_cases c8:(rd l1 x10_1) < (l0_0.length:Int)
       ·
        rw[if_pos c8] at H;have c8b0:decide ((rd l1 x10_1) < (l0_0.length:Int))=true:=dt' c8;clear c8;replace H:=Option.bind_eq_some_iff.mp H;obtain ⟨t172,A90,H⟩:=H;replace H:(spec_paTime.l0 k1 t172 l1 (l1.length:Int) (wrap64 (x10_1+1)) l0_0 a0_1)=some r:=H;have A9:=am' A90;clear A90;have H':=am' H;clear H;have p170:0≤(x10_1:Int):=od' xa';have q170:x10_1 < (l1.length:Int):=od' xa';obtain ⟨ad170,e170,hx170_0⟩:=Kd.at_int HR1.out x10_1 p170 q170;cases e170;replace hx170_0:=(HB.out.cell (bl' w _ hx170_0)).trans hx170_0;replace p170:=eq_true p170;replace q170:=eq_true q170;have hcz10_0:wr.cell? ⟨gb169,0,none⟩=some (.slice A0_0 l0_0.length c0_0):=(bc' BK169.out 0).trans rfl;have hcz10_1:wr.cell? ⟨gb169,1,none⟩=some (.int .i64 a0_1):=(bc' BK169.out 1).trans rfl;have hfz10_0:=bf' BK169.out 0;have hfz10_1:=bf' BK169.out 1;have p171:0≤((rd l1 x10_1):Int):=od' xa';have q171:(rd l1 x10_1) < (l0_0.length:Int):=od' xa';obtain ⟨ad171,e171,hx171_0⟩:=Kd.at_int HR0_0.out (rd l1 x10_1) p171 q171;cases e171;replace hx171_0:=(HB.out.cell (bl' w _ hx171_0)).trans hx171_0;replace p171:=eq_true p171;replace q171:=eq_true q171;go_wp2_with (first|((with_reducible refine gate_callee (f:=29) rfl ?_);refine goesL_ (some 20) rfl rfl Try.func29 xk' rfl #[.int .i64 x5_1, .int .i64 (rd l0_0 (rd l1 x10_1))] rfl xl' ?_;(with_reducible refine (spec_l1Most.calls x5_1 (rd l0_0 (rd l1 x10_1)) t172 _ A9.out).mono ?_);rintro e w' ⟨rfl,⟨nd,rfl⟩⟩;refine ⟨_,rfl,?_⟩));go_roundg k1
        case measure=>have:=HK1.out;omega
        case rel=>exact ⟨(t172),(wrap64 (x10_1+1)),xs',xs',H',⟨by have:=HK1.out;omega⟩,⟨kk' BK169.out⟩,⟨yb' GE169.out⟩⟩
       ·
        rw[if_neg c8] at H;exact absurd H (by simp)
      ·
       rw[if_neg c7] at H;exact absurd H (by simp)
     ·
      rw[if_neg c6] at H;exact absurd H (by simp)
    ·
     rw[if_neg c5] at H;exact absurd H (by simp)
   ·
    rw[if_neg c4] at H;have c4b0:decide (x10_1 < (l1.length:Int))=false:=df' c4;clear c4;obtain rfl:=os' H;go_wp2;go_ret
    exact ⟨by first|rfl|(simp[errW_none,errW_some] <;> rfl)|(simp[*,errW_none,errW_some] <;> rfl),yb' GE169.out⟩
end Go.Proofs.Ytihieplobgehaaa.C2
