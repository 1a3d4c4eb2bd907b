import Derived.Test.YtihieplobgehaaaC2zx0
import Derived.Test.YtihieplobgehaaaC2zAl
namespace Go.Proofs.Ytihieplobgehaaa.C2
open Go.RowKit Go.Proofs.YtihieplobgehaaaW.PrintWords Go.Proofs.YtihieplobgehaaaW.PrintLast Go.Proofs.YtihieplobgehaaaW.PrintMore Go.Proofs.Ytihieplobgehaaa.H
attribute [local go_sem] max2_int min2_int max_two min_two max_three min_three max_four min_four
set_option linter.unusedVariables false
set_option linter.unusedSimpArgs false
mutual
def spec_seIndex.j0:Nat→Int→List Bool→Bool→Option (Int)
 | 0,_,_,_=>none
 | k+1,x3,x116000,x116001=>spec_seIndex.l0 k x3 x116000 (x116000.length:Int) 0
def spec_seIndex.l0:Nat→Int→List Bool→Int→Int→Option (Int)
 | 0,_,_,_,_=>none
 | k+1,x3,x9,x10,x11=>if x11 < x10 then (if 0≤x11 then (if x11 < (x9.length:Int) then (if rdOf false x9 x11=true then (spec_seIndex.l0 k (wrap64 ((wrap64 (x3 * 2))+1)) x9 x10 (wrap64 (x11+1))) else (spec_seIndex.l0 k (wrap64 (x3 * 2)) x9 x10 (wrap64 (x11+1)))) else (none)) else (none)) else (some x3)
end
def spec_seIndex.f (k:Nat) (l0_0:List Bool) (a0_1:Bool):Option (Int):=if a0_1=true then (spec_seIndex.j0 k 1 l0_0 a0_1) else (spec_seIndex.j0 k 0 l0_0 a0_1)
theorem spec_seIndex.mono_l:∀ k,(∀ y0 y1 y2,LeO (spec_seIndex.j0 k y0 y1 y2) (spec_seIndex.j0 (k+1) y0 y1 y2))∧(∀ y0 y1 y2 y3,LeO (spec_seIndex.l0 k y0 y1 y2 y3) (spec_seIndex.l0 (k+1) y0 y1 y2 y3))
 | 0=>⟨fun _ _ _ r h=>by simp[spec_seIndex.j0] at h,fun _ _ _ _ r h=>by simp[spec_seIndex.l0] at h⟩
 | k+1=>by
  obtain ⟨ih0,ih1⟩:=spec_seIndex.mono_l k;refine ⟨?_,?_⟩
  ·
   intro y0 y1 y2;unfold spec_seIndex.j0
   repeat' first
   | (with_reducible exact ih0 _ _ _)
   | (with_reducible exact ih1 _ _ _ _)
   | (with_reducible exact LeO.refl _)
   | (with_reducible exact LeO.none _)
   | (with_reducible refine LeO.ite ?_ ?_)
   | (with_reducible refine LeO.bind ?_ (fun _=>?_))
   | exact ih0 _ _ _
   | exact ih1 _ _ _ _
   | exact LeO.none _
   | refine LeO.ite ?_ ?_
   | refine LeO.bind ?_ (fun _=>?_)
  ·
   intro y0 y1 y2 y3;unfold spec_seIndex.l0
   repeat' first
   | (with_reducible exact ih0 _ _ _)
   | (with_reducible exact ih1 _ _ _ _)
   | (with_reducible exact LeO.refl _)
   | (with_reducible exact LeO.none _)
   | (with_reducible refine LeO.ite ?_ ?_)
   | (with_reducible refine LeO.bind ?_ (fun _=>?_))
   | exact ih0 _ _ _
   | exact ih1 _ _ _ _
   | exact LeO.none _
   | refine LeO.ite ?_ ?_
   | refine LeO.bind ?_ (fun _=>?_)
theorem spec_seIndex.mono:∀ a0 a1 k,LeO (spec_seIndex.f k a0 a1) (spec_seIndex.f (k+1) a0 a1):=by
 intro a0 a1 k;obtain ⟨ih0,ih1⟩:=spec_seIndex.mono_l k
 unfold spec_seIndex.f
 repeat' first
   | (with_reducible exact ih0 _ _ _)
   | (with_reducible exact ih1 _ _ _ _)
   | (with_reducible exact LeO.refl _)
   | (with_reducible exact LeO.none _)
   | (with_reducible refine LeO.ite ?_ ?_)
   | (with_reducible refine LeO.bind ?_ (fun _=>?_))
   | exact ih0 _ _ _
   | exact ih1 _ _ _ _
   | exact LeO.none _
   | refine LeO.ite ?_ ?_
   | refine LeO.bind ?_ (fun _=>?_)
set_option maxHeartbeats 8000000 in
set_option maxRecDepth 100000 in
theorem spec_seIndex.calls (k:Nat) (A0_0:Option Addr) (c0_0:Nat) (l0_0:List Bool) (a0_1:Bool) (r:Int) (w:World) (hr0_0:Kd.C Kd.bool w A0_0 l0_0.length l0_0) (hc0_0:l0_0.length≤c0_0) (h:spec_seIndex.f k l0_0 a0_1=some r) :
  Calls Try.prog 40 #[.agg #[.slice A0_0 l0_0.length c0_0, .bool a0_1]] w fun e w'=>e = .returned (.int .i64 r)∧Below w.heap.size w w':=by
 have hu54:=Try.underlying54
 have HR0_0:=am' hr0_0
 have HC0_0:=am' hc0_0
 clear hr0_0 hc0_0;have HB:=am' (Below.refl w.heap.size w)
 have H:(if a0_1=true then (spec_seIndex.j0 k 1 l0_0 a0_1) else (spec_seIndex.j0 k 0 l0_0 a0_1))=some r:=h
 clear h;have HC2:=am' H
 clear H;go_enter Try.func40,Try.ntmps40
 go_upto_if 7 with (first|((with_reducible refine gate_dst (N:=1) rfl ?_);refine box_event ?hg (N:=1) ?hd (cs:=#[.slice A0_0 l0_0.length c0_0, .bool a0_1]) (t:=54) ?hr ?_;(case hd=>rfl);(case hg=>rfl);(case hr=>first|(go_simp;done)|(go_simp;rfl));intro gb115 hg w3 hbox hb;have n0_:=am' (bt' xb' hb);have n1_:=am' (hbox);have n2_:=am' ((by rw[hg];exact (bz' xb'):w.heap.size≤gb115));have n3_:=am' ((by rw[hg];exact (bz' xb'):w.heap.size≤gb115));clear HB;have HB:=n0_;have BK115:=n1_;have GW115:=n2_;have GE115:=n3_;clear n0_ n1_ n2_ n3_;clear hb hbox hg;have hcz4_0:w3.cell? ⟨gb115,0,none⟩=some (.slice A0_0 l0_0.length c0_0):=(bc' BK115.out 0).trans rfl;have hcz4_1:w3.cell? ⟨gb115,1,none⟩=some (.bool a0_1):=(bc' BK115.out 1).trans rfl;have hfz4_0:=bf' BK115.out 0;have hfz4_1:=bf' BK115.out 1))
 (try simp only[Act.put,sa',sb',sc'])
 go_cut [3] (fun v3 wc=>∃ (kq:Nat) (x3_1:Int),v3 = .int .i64 x3_1∧Aside0 (spec_seIndex.j0 kq x3_1 l0_0 a0_1=some r)∧Aside0 (kq≤k)∧Aside0 (wc.heap[gb115]? = some (.cells #[(.slice A0_0 l0_0.length c0_0), .bool a0_1] 54 (0,0)))∧Aside0 (Below w.heap.size w wc))
 case first =>
  have H:=HC2.out;clear HC2;by_cases c5:a0_1=true
  ·
   subst c5;have H1:(spec_seIndex.j0 k 1 l0_0 true)=some r:=by rw[if_pos rfl] at H;exact H
   clear H;have H:=H1;clear H1;have H':=am' H;clear H;go_wp2;go_meet
   case rel=>exact ⟨_,(1),xs',H',⟨by first|omega|exact Nat.le_refl _⟩,⟨kk' BK115.out⟩,⟨yb' GE115.out⟩⟩
  ·
   replace c5:=Bool.eq_false_iff.mpr c5;subst c5;have H1:(spec_seIndex.j0 k 0 l0_0 false)=some r:=by rw[if_neg (show ¬ (false=true) by decide)] at H;exact H
   clear H;have H:=H1;clear H1;have H':=am' H;clear H;go_wp2;go_meet
   case rel=>exact ⟨_,(0),xs',H',⟨by first|omega|exact Nat.le_refl _⟩,⟨kk' BK115.out⟩,⟨yb' GE115.out⟩⟩
 case rest =>
  clear HC2;try clear p2
  try clear c4
  try clear c5
  try clear hcz4_0
  try clear hcz4_1
  try clear hfz4_0
  try clear hfz4_1
  obtain ⟨kq,x3_1,rfl,HA,HJ1,BK115,HB⟩:=hcut;cases kq with
  | zero=>exact absurd HA.out (by simp[spec_seIndex.j0])
  | succ kj1 =>
   have H:=HA.out;clear HA;simp only[spec_seIndex.j0] at H;have H':=am' H;clear H;have hcz6_0:wc.cell? ⟨gb115,0,none⟩=some (.slice A0_0 l0_0.length c0_0):=(bc' BK115.out 0).trans rfl;have hcz6_1:wc.cell? ⟨gb115,1,none⟩=some (.bool a0_1):=(bc' BK115.out 1).trans rfl;have hfz6_0:=bf' BK115.out 0;have hfz6_1:=bf' BK115.out 1;go_wp2;go_loopg [3,11] kj1 (fun kq v3 v11 w'=>∃ (x3_2:Int) (x11_2:Int),v3 = .int .i64 x3_2∧v11 = .int .i64 x11_2∧Aside0 (spec_seIndex.l0 kq x3_2 l0_0 (l0_0.length:Int) x11_2=some r)∧Aside0 (kq≤kj1)∧Aside0 (w'.heap[gb115]? = some (.cells #[(.slice A0_0 l0_0.length c0_0), .bool a0_1] 54 (0,0)))∧Aside0 (Below w.heap.size w w'))
   case atStart=>exact ⟨(x3_1),(0),xs',xs',H',⟨Nat.le_refl _⟩,⟨kk' BK115.out⟩,⟨yb' GE115.out⟩⟩
   case round =>
    clear H';try clear p2
    try clear c4
    try clear c5
    try clear hcz4_0
    try clear hcz4_1
    try clear hcz6_0
    try clear hcz6_1
    try clear hfz4_0
    try clear hfz4_1
    try clear hfz6_0
    try clear hfz6_1
    try clear p2
    obtain ⟨x3_2,x11_2,rfl,rfl,HA,HK2,BK115,HB⟩:=hrel;cases gk with
    | zero=>exact absurd HA.out (by simp[spec_seIndex.l0])
    | succ k2 =>
     have H:=HA.out;clear HA;simp only[spec_seIndex.l0] at H;by_cases c7:x11_2 < (l0_0.length:Int)
     ·
      rw[if_pos c7] at H;have c7b0:decide (x11_2 < (l0_0.length:Int))=true:=dt' c7;clear c7;by_cases c8:0≤x11_2
      ·
       rw[if_pos c8] at H;have c8b0:decide (0≤x11_2)=true:=dt' c8;clear c8;by_cases c9:x11_2 < (l0_0.length:Int)
       ·
        rw[if_pos c9] at H;have c9b0:decide (x11_2 < (l0_0.length:Int))=true:=dt' c9;clear c9;obtain ⟨bq10,hbq10⟩:∃ b_:Bool,b_=(rdOf false l0_0 x11_2):=⟨_,rfl⟩
        replace H:(if bq10=true then (spec_seIndex.l0 k2 (wrap64 ((wrap64 (x3_2 * 2))+1)) l0_0 (l0_0.length:Int) (wrap64 (x11_2+1))) else (spec_seIndex.l0 k2 (wrap64 (x3_2 * 2)) l0_0 (l0_0.length:Int) (wrap64 (x11_2+1))))=some r:=by rw[← hbq10] at H;exact H
        have Nbq10:=am' hbq10;clear hbq10;by_cases c11:bq10=true
        ·
         subst c11;have H1:(spec_seIndex.l0 k2 (wrap64 ((wrap64 (x3_2 * 2))+1)) l0_0 (l0_0.length:Int) (wrap64 (x11_2+1)))=some r:=by rw[if_pos rfl] at H;exact H
         clear H;have H:=H1;clear H1;have H':=am' H;clear H;have p116:0≤(x11_2:Int):=od' xa';have q116:x11_2 < (l0_0.length:Int):=od' xa';obtain ⟨ad116,e116,hx116_0⟩:=Kd.at_bool HR0_0.out x11_2 p116 q116
         (try rw [← Nbq10.out] at hx116_0)
         cases e116
         replace hx116_0:=(HB.out.cell (bl' w _ hx116_0)).trans hx116_0;replace p116:=eq_true p116;replace q116:=eq_true q116;go_wp2;go_roundg k2
         case measure=>have:=HJ1.out;have:=HK2.out;omega
         case rel=>exact ⟨(wrap64 ((wrap64 (x3_2 * 2))+1)),(wrap64 (x11_2+1)),xs',xs',H',⟨by have:=HJ1.out;have:=HK2.out;omega⟩,⟨kk' BK115.out⟩,⟨yb' GE115.out⟩⟩
        ·
         replace c11:=Bool.eq_false_iff.mpr c11;subst c11;have H1:(spec_seIndex.l0 k2 (wrap64 (x3_2 * 2)) l0_0 (l0_0.length:Int) (wrap64 (x11_2+1)))=some r:=by rw[if_neg (show ¬ (false=true) by decide)] at H;exact H
         clear H;have H:=H1;clear H1;have H':=am' H;clear H;have p116:0≤(x11_2:Int):=od' xa';have q116:x11_2 < (l0_0.length:Int):=od' xa';obtain ⟨ad116,e116,hx116_0⟩:=Kd.at_bool HR0_0.out x11_2 p116 q116
         (try rw [← Nbq10.out] at hx116_0)
         cases e116
         replace hx116_0:=(HB.out.cell (bl' w _ hx116_0)).trans hx116_0;replace p116:=eq_true p116;replace q116:=eq_true q116;go_wp2;go_roundg k2
         case measure=>have:=HJ1.out;have:=HK2.out;omega
         case rel=>exact ⟨(wrap64 (x3_2 * 2)),(wrap64 (x11_2+1)),xs',xs',H',⟨by have:=HJ1.out;have:=HK2.out;omega⟩,⟨kk' BK115.out⟩,⟨yb' GE115.out⟩⟩
       ·
        rw[if_neg c9] at H;exact absurd H (by simp)
      ·
       rw[if_neg c8] at H;exact absurd H (by simp)
     ·
      rw[if_neg c7] at H;have c7b0:decide (x11_2 < (l0_0.length:Int))=false:=df' c7;clear c7;obtain rfl:=os' H;go_wp2;go_ret
      exact ⟨by first|rfl|(simp[errW_none,errW_some] <;> rfl)|(simp[*,errW_none,errW_some] <;> rfl),yb' GE115.out⟩
end Go.Proofs.Ytihieplobgehaaa.C2
