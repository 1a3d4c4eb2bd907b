import Derived.Test.YtihieplobgehaaaC1zx0
import Derived.Test.YtihieplobgehaaaC1zx4
import Derived.Test.YtihieplobgehaaaC1zAl
namespace Go.Proofs.Ytihieplobgehaaa.C1
open Go.RowKit Go.Proofs.YtihieplobgehaaaW.PrintWords Go.Proofs.YtihieplobgehaaaW.PrintLast Go.Proofs.YtihieplobgehaaaW.PrintMore Go.Proofs.Ytihieplobgehaaa.H
attribute [local go_sem] max2_int min2_int max_two min_two max_three min_three max_four min_four
set_option linter.unusedVariables false
set_option linter.unusedSimpArgs false
def spec_paTime.l0:Nat→Int→List Int→Int→Int→List Int→Int→Option (Int)
 | 0,_,_,_,_,_,_=>none
 | k+1,x5,x8,x9,x10,x186000,x186001=>if x10 < x9 then (if 0≤x10 then (if x10 < (x8.length:Int) then (if 0≤(rd x8 x10) then (if (rd x8 x10) < (x186000.length:Int) then ((spec_l1Most.f x5 (rd x186000 (rd x8 x10))).bind fun t188=>(spec_paTime.l0 k t188 x8 x9 (wrap64 (x10+1)) x186000 x186001)) else (none)) else (none)) else (none)) else (none)) else (some x5)
def spec_paTime.f (k:Nat) (l0_0:List Int) (a0_1:Int) (l1:List Int):Option (Int):=spec_paTime.l0 k 0 l1 (l1.length:Int) 0 l0_0 a0_1
set_option maxHeartbeats 8000000 in
set_option maxRecDepth 100000 in
theorem spec_paTime.calls (k:Nat) (A0_0:Option Addr) (c0_0:Nat) (l0_0:List Int) (a0_1:Int) (A1:Option Addr) (c1:Nat) (l1:List Int) (r:Int) (w:World) (hr0_0:Kd.C (Kd.int .i64) w A0_0 l0_0.length l0_0) (hc0_0:l0_0.length≤c0_0) (hr1:Kd.C (Kd.int .i64) w A1 l1.length l1) (hc1:l1.length≤c1) (h:spec_paTime.f k l0_0 a0_1 l1=some r) :
  Calls Try.prog 51 #[.agg #[.slice A0_0 l0_0.length c0_0, .int .i64 a0_1], .slice A1 l1.length c1] w fun e w'=>e = .returned (.int .i64 r)∧Below w.heap.size w w':=by
 have hu28:=Try.underlying28
 have HR0_0:=am' hr0_0
 have HC0_0:=am' hc0_0
 clear hr0_0 hc0_0;have HR1:=am' hr1
 have HC1:=am' hc1
 clear hr1 hc1;have HB:=am' (Below.refl w.heap.size w)
 have H:(spec_paTime.l0 k 0 l1 (l1.length:Int) 0 l0_0 a0_1)=some r:=h
 clear h;have H':=am' H
 clear H;go_enter Try.func51,Try.ntmps51
 go_wp2_with (first|((with_reducible refine gate_dst (N:=2) rfl ?_);refine box_event ?hg (N:=2) ?hd (cs:=#[.slice A0_0 l0_0.length c0_0, .int .i64 a0_1]) (t:=28) ?hr ?_;(case hd=>rfl);(case hg=>rfl);(case hr=>first|(go_simp;done)|(go_simp;rfl));intro gb185 hg w3 hbox hb;have n0_:=am' (below_step (by repeat (first|(with_reducible first|exact HB.out|apply ba'|apply bd'|apply be')|exact HB.out)) hb);have n1_:=am' (hbox);have n2_:=am' ((by rw[hg];exact (below_size (by repeat (first|(with_reducible first|exact HB.out|apply ba'|apply bd'|apply be')|exact HB.out))):w.heap.size≤gb185));have n3_:=am' ((by rw[hg];exact (below_size (by repeat (first|(with_reducible first|exact HB.out|apply ba'|apply bd'|apply be')|exact HB.out))):w.heap.size≤gb185));clear HB;have HB:=n0_;have BK185:=n1_;have GW185:=n2_;have GE185:=n3_;clear n0_ n1_ n2_ n3_;clear hb hbox hg))
 go_loopg [5,10] k (fun kq v5 v10 w'=>∃ (x5_1:Int) (x10_1:Int),v5 = .int .i64 x5_1∧v10 = .int .i64 x10_1∧Aside0 (spec_paTime.l0 kq x5_1 l1 (l1.length:Int) x10_1 l0_0 a0_1=some r)∧Aside0 (kq≤k)∧Aside0 (w'.heap[gb185]? = some (.cells #[(.slice A0_0 l0_0.length c0_0), .int .i64 a0_1] 28 (0,0)))∧Aside0 (Below w.heap.size w w'))
 case atStart=>exact ⟨(0),(0),(by first|rfl|(simp;done)|(simp[*];done)),(by first|rfl|(simp;done)|(simp[*];done)),H',⟨Nat.le_refl _⟩,⟨by (with_reducible repeat (first|refine kn' ?_ _|refine kd' ?_|refine ka' ?_ _));exact BK185.out⟩,⟨by repeat (first|(with_reducible first|exact HB.out|apply ba'|apply bd'|apply be'|refine bs' ?_ GE185.out)|exact HB.out)⟩⟩
 case round =>
  clear H';try clear c1
  try clear p2
  obtain ⟨x5_1,x10_1,rfl,rfl,HA,HK1,BK185,HB⟩:=hrel;cases gk with
  | zero=>exact absurd HA.out (by simp[spec_paTime.l0])
  | succ k1 =>
   have H:=HA.out;clear HA;simp only[spec_paTime.l0] at H;by_cases c4:x10_1 < (l1.length:Int)
   ·
    rw[if_pos c4] at H;have c4b0:decide (x10_1 < (l1.length:Int))=true:=decide_eq_true c4;clear c4;by_cases c5:0≤x10_1
    ·
     rw[if_pos c5] at H;have c5b0:decide (0≤x10_1)=true:=decide_eq_true c5;clear c5;by_cases c6:x10_1 < (l1.length:Int)
     ·
      rw[if_pos c6] at H;have c6b0:decide (x10_1 < (l1.length:Int))=true:=decide_eq_true c6;clear c6;by_cases c7:0≤(rd l1 x10_1)
      ·
       rw[if_pos c7] at H;have c7b0:decide (0≤(rd l1 x10_1))=true:=decide_eq_true c7;clear c7;by_cases c8:(rd l1 x10_1) < (l0_0.length:Int)
       ·
        rw[if_pos c8] at H;have c8b0:decide ((rd l1 x10_1) < (l0_0.length:Int))=true:=decide_eq_true c8;clear c8;replace H:=Option.bind_eq_some_iff.mp H;obtain ⟨t188,A90,H⟩:=H;replace H:(spec_paTime.l0 k1 t188 l1 (l1.length:Int) (wrap64 (x10_1+1)) l0_0 a0_1)=some r:=H;have A9:=am' A90;clear A90;have H':=am' H;clear H;have p186:0≤(x10_1:Int):=of_decide_eq_true (by first|(with_reducible assumption)|assumption);have q186:x10_1 < (l1.length:Int):=of_decide_eq_true (by first|(with_reducible assumption)|assumption);obtain ⟨ad186,e186,hx186_0⟩:=Kd.at_int HR1.out x10_1 p186 q186;cases e186;replace hx186_0:=(HB.out.cell (bl' w _ hx186_0)).trans hx186_0;replace p186:=eq_true p186;replace q186:=eq_true q186;have hcz10_0:wr.cell? ⟨gb185,0,none⟩=some (.slice A0_0 l0_0.length c0_0):=(blk_cell BK185.out 0).trans rfl;have hcz10_1:wr.cell? ⟨gb185,1,none⟩=some (.int .i64 a0_1):=(blk_cell BK185.out 1).trans rfl;have hfz10_0:=blk_frozen BK185.out 0;have hfz10_1:=blk_frozen BK185.out 1;have p187:0≤((rd l1 x10_1):Int):=of_decide_eq_true (by first|(with_reducible assumption)|assumption);have q187:(rd l1 x10_1) < (l0_0.length:Int):=of_decide_eq_true (by first|(with_reducible assumption)|assumption);obtain ⟨ad187,e187,hx187_0⟩:=Kd.at_int HR0_0.out (rd l1 x10_1) p187 q187;cases e187;replace hx187_0:=(HB.out.cell (bl' w _ hx187_0)).trans hx187_0;replace p187:=eq_true p187;replace q187:=eq_true q187;go_wp2_with (first|((with_reducible refine gate_callee (f:=29) rfl ?_);refine goesL_ (some 20) rfl rfl Try.func29 (by kernel_rfl) rfl #[.int .i64 x5_1, .int .i64 (rd l0_0 (rd l1 x10_1))] rfl (by (try simp only[List.map_toArray,List.map_cons,List.map_nil]);first|done|rfl|(simp only[List.length_drop,List.length_take];rfl)) ?_;(with_reducible refine (spec_l1Most.calls x5_1 (rd l0_0 (rd l1 x10_1)) t188 _ A9.out).mono ?_);rintro e w' ⟨rfl,⟨nd,rfl⟩⟩;refine ⟨_,rfl,?_⟩));go_roundg k1
        case measure=>have:=HK1.out;omega
        case rel=>exact ⟨(t188),(wrap64 (x10_1+1)),(by first|rfl|(simp;done)|(simp[*];done)),(by first|rfl|(simp;done)|(simp[*];done)),H',⟨by have:=HK1.out;omega⟩,⟨by (with_reducible repeat (first|refine kn' ?_ _|refine kd' ?_|refine ka' ?_ _));exact BK185.out⟩,⟨by repeat (first|(with_reducible first|exact HB.out|apply ba'|apply bd'|apply be'|refine bs' ?_ GE185.out)|exact HB.out)⟩⟩
       ·
        rw[if_neg c8] at H;exact absurd H (by simp)
      ·
       rw[if_neg c7] at H;exact absurd H (by simp)
     ·
      rw[if_neg c6] at H;exact absurd H (by simp)
    ·
     rw[if_neg c5] at H;exact absurd H (by simp)
   ·
    rw[if_neg c4] at H;have c4b0:decide (x10_1 < (l1.length:Int))=false:=decide_eq_false c4;clear c4;obtain rfl:=Option.some.inj H;go_wp2;go_ret
    exact ⟨by first|rfl|(simp[errW_none,errW_some] <;> rfl)|(simp[*,errW_none,errW_some] <;> rfl),by repeat (first|(with_reducible first|exact HB.out|apply ba'|apply bd'|apply be'|refine bs' ?_ GE185.out)|exact HB.out)⟩
end Go.Proofs.Ytihieplobgehaaa.C1
