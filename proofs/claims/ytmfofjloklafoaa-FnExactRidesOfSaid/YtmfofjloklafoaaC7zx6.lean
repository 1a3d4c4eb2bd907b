import Derived.Test.YtmfofjloklafoaaC7zx0
import Derived.Test.YtmfofjloklafoaaC7zx1
import Derived.Test.YtmfofjloklafoaaC7zx4
import Derived.Test.YtmfofjloklafoaaC7zx5
import Derived.Test.YtmfofjloklafoaaC7zAl
namespace Go.Proofs.Ytmfofjloklafoaa.C7
open Go.RowKit Go.Proofs.YtmfofjloklafoaaW.PrintWords Go.Proofs.YtmfofjloklafoaaW.PrintLast Go.Proofs.YtmfofjloklafoaaW.PrintMore Go.Proofs.Ytmfofjloklafoaa.H
attribute [local go_sem] max2_int min2_int max_two min_two max_three min_three max_four min_four
set_option linter.unusedVariables false
set_option linter.unusedSimpArgs false
mutual
def spec_keCan.j0:Nat→List Int→Bool→Int→List (List Int)→Int→List Bool→Bool→Option (Bool)
 | 0,_,_,_,_,_,_,_=>none
 | k+1,x2,x21,x183000,x183001,x183002,x184000,x184001=>if x21=true then (some false) else (spec_keCan.l0 k x2 x2 (x2.length:Int) 0 x183000 x183001 x183002 x184000 x184001)
def spec_keCan.l0:Nat→List Int→List Int→Int→Int→Int→List (List Int)→Int→List Bool→Bool→Option (Bool)
 | 0,_,_,_,_,_,_,_,_,_=>none
 | k+1,x2,x22,x23,x24,x183000,x183001,x183002,x184000,x184001=>if x24 < x23 then (if 0≤x24 then (if x24 < (x22.length:Int) then (if 0≤(rd x22 x24) then (if (rd x22 x24) < (x184000.length:Int) then (if ((rdOf false x184000 (rd x22 x24)) != x184001)=true then (some false) else (spec_keCan.l0 k x2 x22 x23 (wrap64 (x24+1)) x183000 x183001 x183002 x184000 x184001)) else (none)) else (none)) else (none)) else (none)) else ((spec_keRide.f k x184000 x184001 x2).bind fun bt187=>((spec_keNow.f k x183000 x183001 x183002 bt187.1 bt187.2).bind fun t191=>(some ((t191.length:Int) == 0))))
end
def spec_keCan.f (k:Nat) (a0_0:Int) (l0_1:List (List Int)) (a0_2:Int) (l1_0:List Bool) (a1_1:Bool) (l2:List Int):Option (Bool):=if (l2.length:Int) > a0_2 then (spec_keCan.j0 k l2 true a0_0 l0_1 a0_2 l1_0 a1_1) else ((spec_l1Rising.f k l2 0 (wrap64 (a0_0 - 1))).bind fun t184=>(spec_keCan.j0 k l2 (!t184) a0_0 l0_1 a0_2 l1_0 a1_1))
def spec_keCan.T6:Bool × List (List Nat × List Nat):=(true,[([],[]),([0],[0]),([],[]),([1,2],[1,2]),([3],[3]),([],[]),([5],[5]),([4,6],[4,6])])
def spec_keCan.B6:List Nat:=[0,1,0,7,15,0,32,127]
theorem spec_keCan.tab6:rtab .any (opsOf Try.f75 6)=spec_keCan.T6:=by kernel_rfl
theorem spec_keCan.bits6:waitsOk spec_keCan.T6.2 spec_keCan.B6=true:=by kernel_rfl
def spec_keCan.T9:Bool × List (List Nat × List Nat):=(true,[([],[]),([],[]),([],[]),([1,2],[1,2]),([0,3,3],[0,3]),([4],[4]),([5],[5]),([6,4,0,1,2,3,4,5,6],[6])])
def spec_keCan.B9:List Nat:=[0,0,0,6,15,31,63,127]
theorem spec_keCan.tab9:rtab .any (opsOf Try.f75 9)=spec_keCan.T9:=by kernel_rfl
theorem spec_keCan.bits9:waitsOk spec_keCan.T9.2 spec_keCan.B9=true:=by kernel_rfl
set_option maxHeartbeats 8000000 in
set_option maxRecDepth 100000 in
theorem spec_keCan.calls (k:Nat) (a0_0:Int) (A0_1:Option Addr) (c0_1:Nat) (l0_1:List (List Int)) (a0_2:Int) (A1_0:Option Addr) (c1_0:Nat) (l1_0:List Bool) (a1_1:Bool) (A2:Option Addr) (c2:Nat) (l2:List Int) (r:Bool) (w:World) (hr0_1:Kd.C (Kd.slice 3 (Kd.int .i64)) w A0_1 l0_1.length l0_1) (hc0_1:l0_1.length≤c0_1) (hr1_0:Kd.C Kd.bool w A1_0 l1_0.length l1_0) (hc1_0:l1_0.length≤c1_0) (hr2:Kd.C (Kd.int .i64) w A2 l2.length l2) (hc2:l2.length≤c2) (h:spec_keCan.f k a0_0 l0_1 a0_2 l1_0 a1_1 l2=some r) :
  Calls Try.prog 75 #[.agg #[.int .i64 a0_0, .slice A0_1 l0_1.length c0_1, .int .i64 a0_2], .agg #[.slice A1_0 l1_0.length c1_0, .bool a1_1], .slice A2 l2.length c2] w fun e w'=>e = .returned (.bool r)∧Below w.heap.size w w':=by
 have hu32:=Try.underlying32
 have hu34:=Try.underlying34
 have HR0_1:=am' hr0_1
 have HC0_1:=am' hc0_1
 clear hr0_1 hc0_1;have HR1_0:=am' hr1_0
 have HC1_0:=am' hc1_0
 clear hr1_0 hc1_0;have HR2:=am' hr2
 have HC2:=am' hc2
 clear hr2 hc2;have HB:=am' (Below.refl w.heap.size w)
 have H:(if (l2.length:Int) > a0_2 then (spec_keCan.j0 k l2 true a0_0 l0_1 a0_2 l1_0 a1_1) else ((spec_l1Rising.f k l2 0 (wrap64 (a0_0 - 1))).bind fun t184=>(spec_keCan.j0 k l2 (!t184) a0_0 l0_1 a0_2 l1_0 a1_1)))=some r:=h
 clear h;have HC4:=am' H
 clear H;go_enter Try.func75,Try.ntmps75
 go_upto_region 1 with (first|((with_reducible refine gate_dst (N:=3) rfl ?_);refine box_event ?hg (N:=3) ?hd (cs:=#[.int .i64 a0_0, .slice A0_1 l0_1.length c0_1, .int .i64 a0_2]) (t:=32) ?hr ?_;(case hd=>rfl);(case hg=>rfl);(case hr=>first|(go_simp;done)|(go_simp;rfl));intro gb182 hg w5 hbox hb;have n0_:=am' (below_step (by repeat (first|(with_reducible first|exact HB.out|apply ba'|apply bd'|apply be')|exact HB.out)) hb);have n1_:=am' (hbox);have n2_:=am' ((by rw[hg];exact (below_size (by repeat (first|(with_reducible first|exact HB.out|apply ba'|apply bd'|apply be')|exact HB.out))):w.heap.size≤gb182));have n3_:=am' ((by rw[hg];exact (below_size (by repeat (first|(with_reducible first|exact HB.out|apply ba'|apply bd'|apply be')|exact HB.out))):w.heap.size≤gb182));clear HB;have HB:=n0_;have BK182:=n1_;have GW182:=n2_;have GE182:=n3_;clear n0_ n1_ n2_ n3_;clear hb hbox hg)|((with_reducible refine gate_dst (N:=4) rfl ?_);refine box_event ?hg (N:=4) ?hd (cs:=#[.slice A1_0 l1_0.length c1_0, .bool a1_1]) (t:=34) ?hr ?_;(case hd=>rfl);(case hg=>rfl);(case hr=>first|(go_simp;done)|(go_simp;rfl));intro gb183 hg w6 hbox hb;have n0_:=am' (blk_below (g:=gb182) (o := .cells #[.int .i64 a0_0, .slice A0_1 l0_1.length c0_1, .int .i64 a0_2] 32 (0,0)) (by (with_reducible repeat (first|refine kn' ?_ _|refine kd' ?_|refine ka' ?_ _));exact BK182.out) hb);have n1_:=am' (below_step (by repeat (first|(with_reducible first|exact HB.out|apply ba'|apply bd'|apply be'|refine bs' ?_ GE182.out)|exact HB.out)) hb);have n2_:=am' (hbox);have n3_:=am' ((by rw[hg];exact (below_size (by repeat (first|(with_reducible first|exact HB.out|apply ba'|apply bd'|apply be'|refine bs' ?_ GE182.out)|exact HB.out))):w.heap.size≤gb183));have n4_:=am' ((by rw[hg];exact (below_size (by repeat (first|(with_reducible first|exact HB.out|apply ba'|apply bd'|apply be'|refine bs' ?_ GE182.out)|exact HB.out))):w.heap.size≤gb183));have n5_:=am' ((by rw[hg];exact Nat.ne_of_lt (blk_lt (g:=gb182) (o := .cells #[.int .i64 a0_0, .slice A0_1 l0_1.length c0_1, .int .i64 a0_2] 32 (0,0)) (by (with_reducible repeat (first|refine kn' ?_ _|refine kd' ?_|refine ka' ?_ _));exact BK182.out)):gb182≠gb183));have n6_:=am' ((by rw[hg];exact Nat.ne_of_gt (blk_lt (g:=gb182) (o := .cells #[.int .i64 a0_0, .slice A0_1 l0_1.length c0_1, .int .i64 a0_2] 32 (0,0)) (by (with_reducible repeat (first|refine kn' ?_ _|refine kd' ?_|refine ka' ?_ _));exact BK182.out)):gb183≠gb182));clear BK182;clear HB;have BK182:=n0_;have HB:=n1_;have BK183:=n2_;have GW183:=n3_;have GE183:=n4_;have NB182_183:=n5_;have NB183_182:=n6_;clear n0_ n1_ n2_ n3_ n4_ n5_ n6_;clear hb hbox hg))
 (try simp only[Act.put,sa',sb',sc'])
 go_cut [21] (fun v21 wc=>∃ (kq:Nat) (x21_3:Bool),v21 = .bool x21_3∧Aside0 (spec_keCan.j0 kq l2 x21_3 a0_0 l0_1 a0_2 l1_0 a1_1=some r)∧Aside0 (kq≤k)∧Aside0 (wc.heap[gb182]? = some (.cells #[.int .i64 a0_0,(.slice A0_1 l0_1.length c0_1), .int .i64 a0_2] 32 (0,0)))∧Aside0 (wc.heap[gb183]? = some (.cells #[(.slice A1_0 l1_0.length c1_0), .bool a1_1] 34 (0,0)))∧Aside0 (Below w.heap.size w wc))
 case first =>
  have H:=HC4.out;clear HC4;by_cases c7:(l2.length:Int) > a0_2
  ·
   rw[if_pos c7] at H;have c7b0:decide (a0_2 < (l2.length:Int))=true:=decide_eq_true c7;clear c7;(first|rw[c7b0]|(simp only[i64_w,i32_w];rw[c7b0])|skip)
   have H':=am' H;clear H;have hnb8:=NB182_183.out;have hnc8:=NB183_182.out;have hcz9_0:w6.cell? ⟨gb182,0,none⟩=some (.int .i64 a0_0):=(blk_cell BK182.out 0).trans rfl;have hcz9_1:w6.cell? ⟨gb182,1,none⟩=some (.slice A0_1 l0_1.length c0_1):=(blk_cell BK182.out 1).trans rfl;have hcz9_2:w6.cell? ⟨gb182,2,none⟩=some (.int .i64 a0_2):=(blk_cell BK182.out 2).trans rfl;have hfz9_0:=blk_frozen BK182.out 0;have hfz9_1:=blk_frozen BK182.out 1;have hfz9_2:=blk_frozen BK182.out 2;go_wp2;go_meet
   case rel=>exact ⟨_,(true),(by first|rfl|(simp;done)|(simp[*];done)),H',⟨by first|omega|exact Nat.le_refl _⟩,⟨by (with_reducible repeat (first|refine kn' ?_ _|refine kd' ?_|refine ka' ?_ _));exact BK182.out⟩,⟨by (with_reducible repeat (first|refine kn' ?_ _|refine kd' ?_|refine ka' ?_ _));exact BK183.out⟩,⟨by repeat (first|(with_reducible first|exact HB.out|apply ba'|apply bd'|apply be'|refine bs' ?_ GE182.out|refine bs' ?_ GE183.out)|exact HB.out)⟩⟩
  ·
   rw[if_neg c7] at H;have c7b0:decide (a0_2 < (l2.length:Int))=false:=decide_eq_false c7;clear c7;(first|rw[c7b0]|(simp only[i64_w,i32_w];rw[c7b0])|skip)
   replace H:=Option.bind_eq_some_iff.mp H;obtain ⟨t184,A100,H⟩:=H;replace H:(spec_keCan.j0 k l2 (!t184) a0_0 l0_1 a0_2 l1_0 a1_1)=some r:=H;have A10:=am' A100;clear A100;have H':=am' H;clear H;have hnb11:=NB182_183.out;have hnc11:=NB183_182.out;have hcz12_0:w6.cell? ⟨gb182,0,none⟩=some (.int .i64 a0_0):=(blk_cell BK182.out 0).trans rfl;have hcz12_1:w6.cell? ⟨gb182,1,none⟩=some (.slice A0_1 l0_1.length c0_1):=(blk_cell BK182.out 1).trans rfl;have hcz12_2:w6.cell? ⟨gb182,2,none⟩=some (.int .i64 a0_2):=(blk_cell BK182.out 2).trans rfl;have hfz12_0:=blk_frozen BK182.out 0;have hfz12_1:=blk_frozen BK182.out 1;have hfz12_2:=blk_frozen BK182.out 2;go_wp2_with (first|(go_at_call 95;(with_reducible refine (spec_l1Rising.calls k _ _ l2 0 (wrap64 (a0_0 - 1)) t184 _ ?side1 ?side2 A10.out).mono ?_);(case side1=>repeat (first|exact (Kd.C_below HR2.out HB.out)|(with_reducible refine ca' ?_ _)|(with_reducible refine cn' ?_ _)|(with_reducible refine cd' ?_)));(case side2=>exact HC2.out);rintro e w' ⟨rfl,⟨nd,rfl⟩⟩));go_meet
   case rel=>exact ⟨_,(!t184),(by first|rfl|(simp;done)|(simp[*];done)),H',⟨by first|omega|exact Nat.le_refl _⟩,⟨by (with_reducible repeat (first|refine kn' ?_ _|refine kd' ?_|refine ka' ?_ _));exact BK182.out⟩,⟨by (with_reducible repeat (first|refine kn' ?_ _|refine kd' ?_|refine ka' ?_ _));exact BK183.out⟩,⟨by repeat (first|(with_reducible first|exact HB.out|apply ba'|apply bd'|apply be'|refine bs' ?_ GE182.out|refine bs' ?_ GE183.out)|exact HB.out)⟩⟩
 case rest =>
  clear HC4;try clear c1
  try clear c2
  try clear p2
  try clear p6
  try clear c7
  try clear c7b0
  try clear c8
  try clear c11
  try clear hcz12_0
  try clear hcz12_1
  try clear hcz12_2
  try clear hcz9_0
  try clear hcz9_1
  try clear hcz9_2
  try clear hfz12_0
  try clear hfz12_1
  try clear hfz12_2
  try clear hfz9_0
  try clear hfz9_1
  try clear hfz9_2
  obtain ⟨kq,x21_3,rfl,HA,HJ3,BK182,BK183,HB⟩:=hcut;cases kq with
  | zero=>exact absurd HA.out (by simp[spec_keCan.j0])
  | succ kj3 =>
   have H:=HA.out;clear HA;simp only[spec_keCan.j0] at H;by_cases c13:x21_3=true
   ·
    subst c13;have H1:(some false)=some r:=by rw[if_pos rfl] at H;exact H
    clear H;have H:=H1;clear H1;obtain rfl:=Option.some.inj H;go_wp2;go_ret
    exact ⟨by first|rfl|(simp[errW_none,errW_some] <;> rfl)|(simp[*,errW_none,errW_some] <;> rfl),by repeat (first|(with_reducible first|exact HB.out|apply ba'|apply bd'|apply be'|refine bs' ?_ GE182.out|refine bs' ?_ GE183.out)|exact HB.out)⟩
   ·
    replace c13:=Bool.eq_false_iff.mpr c13;subst c13;have H1:(spec_keCan.l0 kj3 l2 l2 (l2.length:Int) 0 a0_0 l0_1 a0_2 l1_0 a1_1)=some r:=by rw[if_neg (show ¬ (false=true) by decide)] at H;exact H
    clear H;have H:=H1;clear H1;have H':=am' H;clear H;go_wp2;go_loopg [24] kj3 (fun kq v24 w'=>∃ (x24_2:Int),v24 = .int .i64 x24_2∧Aside0 (spec_keCan.l0 kq l2 l2 (l2.length:Int) x24_2 a0_0 l0_1 a0_2 l1_0 a1_1=some r)∧Aside0 (kq≤kj3)∧Aside0 (w'.heap[gb182]? = some (.cells #[.int .i64 a0_0,(.slice A0_1 l0_1.length c0_1), .int .i64 a0_2] 32 (0,0)))∧Aside0 (w'.heap[gb183]? = some (.cells #[(.slice A1_0 l1_0.length c1_0), .bool a1_1] 34 (0,0)))∧Aside0 (Below w.heap.size w w'))
    case atStart=>exact ⟨(0),(by first|rfl|(simp;done)|(simp[*];done)),H',⟨Nat.le_refl _⟩,⟨by (with_reducible repeat (first|refine kn' ?_ _|refine kd' ?_|refine ka' ?_ _));exact BK182.out⟩,⟨by (with_reducible repeat (first|refine kn' ?_ _|refine kd' ?_|refine ka' ?_ _));exact BK183.out⟩,⟨by repeat (first|(with_reducible first|exact HB.out|apply ba'|apply bd'|apply be'|refine bs' ?_ GE182.out|refine bs' ?_ GE183.out)|exact HB.out)⟩⟩
    case round =>
     clear H';try clear c1
     try clear c2
     try clear p2
     try clear p6
     try clear c7
     try clear c7b0
     try clear c8
     try clear c11
     try clear c13
     try clear hcz12_0
     try clear hcz12_1
     try clear hcz12_2
     try clear hcz9_0
     try clear hcz9_1
     try clear hcz9_2
     try clear hfz12_0
     try clear hfz12_1
     try clear hfz12_2
     try clear hfz9_0
     try clear hfz9_1
     try clear hfz9_2
     try clear p2
     try clear p6
     obtain ⟨x24_2,rfl,HA,HK2,BK182,BK183,HB⟩:=hrel;cases gk with
     | zero=>exact absurd HA.out (by simp[spec_keCan.l0])
     | succ k2 =>
      have H:=HA.out;clear HA;simp only[spec_keCan.l0] at H;by_cases c14:x24_2 < (l2.length:Int)
      ·
       rw[if_pos c14] at H;have c14b0:decide (x24_2 < (l2.length:Int))=true:=decide_eq_true c14;clear c14;by_cases c15:0≤x24_2
       ·
        rw[if_pos c15] at H;have c15b0:decide (0≤x24_2)=true:=decide_eq_true c15;clear c15;by_cases c16:x24_2 < (l2.length:Int)
        ·
         rw[if_pos c16] at H;have c16b0:decide (x24_2 < (l2.length:Int))=true:=decide_eq_true c16;clear c16;by_cases c17:0≤(rd l2 x24_2)
         ·
          rw[if_pos c17] at H;have c17b0:decide (0≤(rd l2 x24_2))=true:=decide_eq_true c17;clear c17;by_cases c18:(rd l2 x24_2) < (l1_0.length:Int)
          ·
           rw[if_pos c18] at H;have c18b0:decide ((rd l2 x24_2) < (l1_0.length:Int))=true:=decide_eq_true c18;clear c18;by_cases c19:((rdOf false l1_0 (rd l2 x24_2)) != a1_1)=true
           ·
            rw[if_pos c19] at H;have c19b0:((rdOf false l1_0 (rd l2 x24_2)) != a1_1)=true:=c19
            (try (have c19b1:decide ((rdOf false l1_0 (rd l2 x24_2))=a1_1)=false:=by simpa using c19))
            (try (have c19b2:((rdOf false l1_0 (rd l2 x24_2)) == a1_1)=false:=by simpa using c19))
            (try (have c19b3:¬ ((rdOf false l1_0 (rd l2 x24_2))=a1_1):=by simpa using c19))
            clear c19;obtain rfl:=Option.some.inj H;have p185:0≤(x24_2:Int):=of_decide_eq_true (by first|(with_reducible assumption)|assumption);have q185:x24_2 < (l2.length:Int):=of_decide_eq_true (by first|(with_reducible assumption)|assumption);obtain ⟨ad185,e185,hx185_0⟩:=Kd.at_int HR2.out x24_2 p185 q185;cases e185;replace hx185_0:=(HB.out.cell (bl' w _ hx185_0)).trans hx185_0;replace p185:=eq_true p185;replace q185:=eq_true q185
            try go_wp2
            have n0_:=am' (kd' BK182.out);have n1_:=am' (kd' BK183.out);have n2_:=am' (be' HB.out);clear BK182;clear BK183;clear HB;have BK182:=n0_;have BK183:=n1_;have HB:=n2_;clear n0_ n1_ n2_;have p186:0≤((rd l2 x24_2):Int):=of_decide_eq_true (by first|(with_reducible assumption)|assumption);have q186:(rd l2 x24_2) < (l1_0.length:Int):=of_decide_eq_true (by first|(with_reducible assumption)|assumption);obtain ⟨ad186,e186,hx186_0⟩:=Kd.at_bool HR1_0.out (rd l2 x24_2) p186 q186;have hw186_0:=hx186_0;cases e186;replace hx186_0:=(HB.out.cell (bl' w _ hx186_0)).trans hx186_0;replace p186:=eq_true p186;replace q186:=eq_true q186;refine start_ (n:=8) (S:=fun w'=>w'.cell? ⟨gb183,0,none⟩=some (.slice (some ad186) l1_0.length c1_0)∧w'.cell? ⟨gb183,1,none⟩=some (.bool a1_1)∧w'.cell? (ad186.add ((rd l2 x24_2)).toNat)=some (.bool (rdOf false l1_0 (rd l2 x24_2)))) (ds:=[]) #[false,false,false,false,false,false,false,false] (by kernel_rfl) rfl rfl ⟨(blk_cell BK183.out 0).trans rfl,(blk_cell BK183.out 1).trans rfl,((HB.out.cell (bl' w _ hw186_0)).trans hw186_0)⟩ (fun hHeld=>?_);refine with_tabW spec_keCan.tab6 spec_keCan.bits6 (fun HT_ HW_=>?_);generalize wr.drew=w20 at BK182 BK183 HB hx186_0 hHeld ⊢
            refine pure_ (i:=0) (N:=some 28) (v:=?_) (a':=?_) #[true,false,false,false,false,false,false,false] rfl rfl (any_of HT_.out (by kernel_rfl)) (fun _ _ _ h=>h) (Or.inl ⟨by rfl,?_⟩) ?_ ?_
            rotate_left
            ·
             intro w';go_simp;with_reducible rfl
            rotate_left
            ·
             simp only[Act.put,sa',sb',sc',i64_w,i32_w];rfl
            refine pure_ (i:=2) (N:=some 30) (v:=?_) (a':=?_) #[true,false,true,false,false,false,false,false] rfl rfl (any_of HT_.out (by kernel_rfl)) (fun _ _ _ h=>h) (Or.inl ⟨by rfl,?_⟩) ?_ ?_
            rotate_left
            ·
             intro w';go_simp;with_reducible rfl
            rotate_left
            ·
             simp only[Act.put,sa',sb',sc',i64_w,i32_w];rfl
            refine pure_ (i:=5) (N:=some 33) (v:=?_) (a':=?_) #[true,false,true,false,false,true,false,false] rfl rfl (any_of HT_.out (by kernel_rfl)) (fun _ _ _ h=>h) (Or.inl ⟨by rfl,?_⟩) ?_ ?_
            rotate_left
            ·
             intro w';go_simp;with_reducible rfl
            rotate_left
            ·
             simp only[Act.put,sa',sb',sc',i64_w,i32_w];rfl
            refine take_ (i:=1) (N:=some 29) (v:=?_) (a':=?_) #[true,true,true,false,false,true,false,false] rfl rfl (take_ofW HT_.out HW_.out (by kernel_rfl)) (fun _ _ _ h=>h) (Or.inl ⟨by rfl,?_⟩) hHeld ?_ ?_
            rotate_left
            ·
             rintro w' ⟨s0,s1,s2⟩
             go_simp;with_reducible rfl
            rotate_left
            ·
             simp only[Act.put,sa',sb',sc',i64_w,i32_w];rfl
            refine pure_ (i:=3) (N:=some 31) (v:=?_) (a':=?_) #[true,true,true,true,false,true,false,false] rfl rfl (any_of HT_.out (by kernel_rfl)) (fun _ _ _ h=>h) (Or.inl ⟨by rfl,?_⟩) ?_ ?_
            rotate_left
            ·
             intro w';go_simp;with_reducible rfl
            rotate_left
            ·
             simp only[Act.put,sa',sb',sc',i64_w,i32_w];rfl
            refine take_ (i:=4) (N:=some 32) (v:=?_) (a':=?_) #[true,true,true,true,true,true,false,false] rfl rfl (take_ofW HT_.out HW_.out (by kernel_rfl)) (fun _ _ _ h=>h) (Or.inl ⟨by rfl,?_⟩) hHeld ?_ ?_
            rotate_left
            ·
             rintro w' ⟨s0,s1,s2⟩
             go_simp;with_reducible rfl
            rotate_left
            ·
             simp only[Act.put,sa',sb',sc',i64_w,i32_w];rfl
            refine take_ (i:=6) (N:=some 34) (v:=?_) (a':=?_) #[true,true,true,true,true,true,true,false] rfl rfl (take_ofW HT_.out HW_.out (by kernel_rfl)) (fun _ _ _ h=>h) (Or.inl ⟨by rfl,?_⟩) hHeld ?_ ?_
            rotate_left
            ·
             rintro w' ⟨s0,s1,s2⟩
             go_simp;with_reducible rfl
            rotate_left
            ·
             simp only[Act.put,sa',sb',sc',i64_w,i32_w];rfl
            refine pure_ (i:=7) (N:=some 35) (v:=?_) (a':=?_) #[true,true,true,true,true,true,true,true] rfl rfl (any_of HT_.out (by kernel_rfl)) (fun _ _ _ h=>h) (Or.inl ⟨by rfl,?_⟩) ?_ ?_
            rotate_left
            ·
             intro w';go_simp;with_reducible rfl
            rotate_left
            ·
             simp only[Act.put,sa',sb',sc',i64_w,i32_w];rfl
            refine done_ (done_of HT_.out (by kernel_rfl)) ?_
            try go_wp2
            go_ret
            exact ⟨by first|rfl|(simp[errW_none,errW_some] <;> rfl)|(simp[*,errW_none,errW_some] <;> rfl),by repeat (first|(with_reducible first|exact HB.out|apply ba'|apply bd'|apply be'|refine bs' ?_ GE182.out|refine bs' ?_ GE183.out)|exact HB.out)⟩
           ·
            rw[if_neg c19] at H;have c19b0:((rdOf false l1_0 (rd l2 x24_2)) != a1_1)=false:=by simpa using c19
            (try (have c19b1:decide ((rdOf false l1_0 (rd l2 x24_2))=a1_1)=true:=by simpa using c19))
            (try (have c19b2:((rdOf false l1_0 (rd l2 x24_2)) == a1_1)=true:=by simpa using c19))
            clear c19;have H':=am' H;clear H;have p185:0≤(x24_2:Int):=of_decide_eq_true (by first|(with_reducible assumption)|assumption);have q185:x24_2 < (l2.length:Int):=of_decide_eq_true (by first|(with_reducible assumption)|assumption);obtain ⟨ad185,e185,hx185_0⟩:=Kd.at_int HR2.out x24_2 p185 q185;cases e185;replace hx185_0:=(HB.out.cell (bl' w _ hx185_0)).trans hx185_0;replace p185:=eq_true p185;replace q185:=eq_true q185
            try go_wp2
            have n0_:=am' (kd' BK182.out);have n1_:=am' (kd' BK183.out);have n2_:=am' (be' HB.out);clear BK182;clear BK183;clear HB;have BK182:=n0_;have BK183:=n1_;have HB:=n2_;clear n0_ n1_ n2_;have p186:0≤((rd l2 x24_2):Int):=of_decide_eq_true (by first|(with_reducible assumption)|assumption);have q186:(rd l2 x24_2) < (l1_0.length:Int):=of_decide_eq_true (by first|(with_reducible assumption)|assumption);obtain ⟨ad186,e186,hx186_0⟩:=Kd.at_bool HR1_0.out (rd l2 x24_2) p186 q186;have hw186_0:=hx186_0;cases e186;replace hx186_0:=(HB.out.cell (bl' w _ hx186_0)).trans hx186_0;replace p186:=eq_true p186;replace q186:=eq_true q186;refine start_ (n:=8) (S:=fun w'=>w'.cell? ⟨gb183,0,none⟩=some (.slice (some ad186) l1_0.length c1_0)∧w'.cell? ⟨gb183,1,none⟩=some (.bool a1_1)∧w'.cell? (ad186.add ((rd l2 x24_2)).toNat)=some (.bool (rdOf false l1_0 (rd l2 x24_2)))) (ds:=[]) #[false,false,false,false,false,false,false,false] (by kernel_rfl) rfl rfl ⟨(blk_cell BK183.out 0).trans rfl,(blk_cell BK183.out 1).trans rfl,((HB.out.cell (bl' w _ hw186_0)).trans hw186_0)⟩ (fun hHeld=>?_);refine with_tabW spec_keCan.tab6 spec_keCan.bits6 (fun HT_ HW_=>?_);generalize wr.drew=w21 at BK182 BK183 HB hx186_0 hHeld ⊢
            refine pure_ (i:=0) (N:=some 28) (v:=?_) (a':=?_) #[true,false,false,false,false,false,false,false] rfl rfl (any_of HT_.out (by kernel_rfl)) (fun _ _ _ h=>h) (Or.inl ⟨by rfl,?_⟩) ?_ ?_
            rotate_left
            ·
             intro w';go_simp;with_reducible rfl
            rotate_left
            ·
             simp only[Act.put,sa',sb',sc',i64_w,i32_w];rfl
            refine pure_ (i:=2) (N:=some 30) (v:=?_) (a':=?_) #[true,false,true,false,false,false,false,false] rfl rfl (any_of HT_.out (by kernel_rfl)) (fun _ _ _ h=>h) (Or.inl ⟨by rfl,?_⟩) ?_ ?_
            rotate_left
            ·
             intro w';go_simp;with_reducible rfl
            rotate_left
            ·
             simp only[Act.put,sa',sb',sc',i64_w,i32_w];rfl
            refine pure_ (i:=5) (N:=some 33) (v:=?_) (a':=?_) #[true,false,true,false,false,true,false,false] rfl rfl (any_of HT_.out (by kernel_rfl)) (fun _ _ _ h=>h) (Or.inl ⟨by rfl,?_⟩) ?_ ?_
            rotate_left
            ·
             intro w';go_simp;with_reducible rfl
            rotate_left
            ·
             simp only[Act.put,sa',sb',sc',i64_w,i32_w];rfl
            refine take_ (i:=1) (N:=some 29) (v:=?_) (a':=?_) #[true,true,true,false,false,true,false,false] rfl rfl (take_ofW HT_.out HW_.out (by kernel_rfl)) (fun _ _ _ h=>h) (Or.inl ⟨by rfl,?_⟩) hHeld ?_ ?_
            rotate_left
            ·
             rintro w' ⟨s0,s1,s2⟩
             go_simp;with_reducible rfl
            rotate_left
            ·
             simp only[Act.put,sa',sb',sc',i64_w,i32_w];rfl
            refine pure_ (i:=3) (N:=some 31) (v:=?_) (a':=?_) #[true,true,true,true,false,true,false,false] rfl rfl (any_of HT_.out (by kernel_rfl)) (fun _ _ _ h=>h) (Or.inl ⟨by rfl,?_⟩) ?_ ?_
            rotate_left
            ·
             intro w';go_simp;with_reducible rfl
            rotate_left
            ·
             simp only[Act.put,sa',sb',sc',i64_w,i32_w];rfl
            refine take_ (i:=4) (N:=some 32) (v:=?_) (a':=?_) #[true,true,true,true,true,true,false,false] rfl rfl (take_ofW HT_.out HW_.out (by kernel_rfl)) (fun _ _ _ h=>h) (Or.inl ⟨by rfl,?_⟩) hHeld ?_ ?_
            rotate_left
            ·
             rintro w' ⟨s0,s1,s2⟩
             go_simp;with_reducible rfl
            rotate_left
            ·
             simp only[Act.put,sa',sb',sc',i64_w,i32_w];rfl
            refine take_ (i:=6) (N:=some 34) (v:=?_) (a':=?_) #[true,true,true,true,true,true,true,false] rfl rfl (take_ofW HT_.out HW_.out (by kernel_rfl)) (fun _ _ _ h=>h) (Or.inl ⟨by rfl,?_⟩) hHeld ?_ ?_
            rotate_left
            ·
             rintro w' ⟨s0,s1,s2⟩
             go_simp;with_reducible rfl
            rotate_left
            ·
             simp only[Act.put,sa',sb',sc',i64_w,i32_w];rfl
            refine pure_ (i:=7) (N:=some 35) (v:=?_) (a':=?_) #[true,true,true,true,true,true,true,true] rfl rfl (any_of HT_.out (by kernel_rfl)) (fun _ _ _ h=>h) (Or.inl ⟨by rfl,?_⟩) ?_ ?_
            rotate_left
            ·
             intro w';go_simp;with_reducible rfl
            rotate_left
            ·
             simp only[Act.put,sa',sb',sc',i64_w,i32_w];rfl
            refine done_ (done_of HT_.out (by kernel_rfl)) ?_
            try go_wp2
            go_roundg k2
            case measure=>have:=HJ3.out;have:=HK2.out;omega
            case rel=>exact ⟨(wrap64 (x24_2+1)),(by first|rfl|(simp;done)|(simp[*];done)),H',⟨by have:=HJ3.out;have:=HK2.out;omega⟩,⟨by (with_reducible repeat (first|refine kn' ?_ _|refine kd' ?_|refine ka' ?_ _));exact BK182.out⟩,⟨by (with_reducible repeat (first|refine kn' ?_ _|refine kd' ?_|refine ka' ?_ _));exact BK183.out⟩,⟨by repeat (first|(with_reducible first|exact HB.out|apply ba'|apply bd'|apply be'|refine bs' ?_ GE182.out|refine bs' ?_ GE183.out)|exact HB.out)⟩⟩
          ·
           rw[if_neg c18] at H;exact absurd H (by simp)
         ·
          rw[if_neg c17] at H;exact absurd H (by simp)
        ·
         rw[if_neg c16] at H;exact absurd H (by simp)
       ·
        rw[if_neg c15] at H;exact absurd H (by simp)
      ·
       rw[if_neg c14] at H;have c14b0:decide (x24_2 < (l2.length:Int))=false:=decide_eq_false c14;clear c14;replace H:=Option.bind_eq_some_iff.mp H;obtain ⟨⟨t187,t190⟩,A220,H⟩:=H;replace H:((spec_keNow.f k2 a0_0 l0_1 a0_2 t187 t190).bind fun t191=>(some ((t191.length:Int) == 0)))=some r:=H;have A22:=am' A220;clear A220;replace H:=Option.bind_eq_some_iff.mp H;obtain ⟨t191,A230,H⟩:=H;replace H:(some ((t191.length:Int) == 0))=some r:=H;have A23:=am' A230;clear A230;obtain rfl:=Option.some.inj H
       try go_wp2
       have n0_:=am' (kd' BK182.out);have n1_:=am' (kd' BK183.out);have n2_:=am' (be' HB.out);clear BK182;clear BK183;clear HB;have BK182:=n0_;have BK183:=n1_;have HB:=n2_;clear n0_ n1_ n2_;refine start_ (n:=8) (S:=fun w'=>w'.cell? ⟨gb182,0,none⟩=some (.int .i64 a0_0)∧w'.cell? ⟨gb182,1,none⟩=some (.slice A0_1 l0_1.length c0_1)∧w'.cell? ⟨gb182,2,none⟩=some (.int .i64 a0_2)∧w'.cell? ⟨gb183,0,none⟩=some (.slice A1_0 l1_0.length c1_0)∧w'.cell? ⟨gb183,1,none⟩=some (.bool a1_1)) (ds:=[]) #[false,false,false,false,false,false,false,false] (by kernel_rfl) rfl rfl ⟨(blk_cell BK182.out 0).trans rfl,(blk_cell BK182.out 1).trans rfl,(blk_cell BK182.out 2).trans rfl,(blk_cell BK183.out 0).trans rfl,(blk_cell BK183.out 1).trans rfl⟩ (fun hHeld=>?_);refine with_tabW spec_keCan.tab9 spec_keCan.bits9 (fun HT_ HW_=>?_);generalize wr.drew=w24 at BK182 BK183 HB hHeld ⊢
       refine pure_ (i:=2) (N:=some 39) (v:=?_) (a':=?_) #[false,false,true,false,false,false,false,false] rfl rfl (any_of HT_.out (by kernel_rfl)) (fun _ _ _ h=>h) (Or.inl ⟨by rfl,?_⟩) ?_ ?_
       rotate_left
       ·
        intro w';go_simp;with_reducible rfl
       rotate_left
       ·
        simp only[Act.put,sa',sb',sc',i64_w,i32_w];rfl
       refine take_ (i:=0) (N:=some 37) (v:=?_) (a':=?_) #[true,false,true,false,false,false,false,false] rfl rfl (take_ofW HT_.out HW_.out (by kernel_rfl)) (fun _ _ _ h=>h) (Or.inl ⟨by rfl,?_⟩) hHeld ?_ ?_
       rotate_left
       ·
        rintro w' ⟨s0,s1,s2,s3,s4⟩
        go_simp;with_reducible rfl
       rotate_left
       ·
        simp only[Act.put,sa',sb',sc',i64_w,i32_w];rfl
       refine take_ (i:=1) (N:=some 38) (v:=?_) (a':=?_) #[true,true,true,false,false,false,false,false] rfl rfl (take_ofW HT_.out HW_.out (by kernel_rfl)) (fun _ _ _ h=>h) (Or.inl ⟨by rfl,?_⟩) hHeld ?_ ?_
       rotate_left
       ·
        rintro w' ⟨s0,s1,s2,s3,s4⟩
        go_simp;with_reducible rfl
       rotate_left
       ·
        simp only[Act.put,sa',sb',sc',i64_w,i32_w];rfl
       refine one_ (i:=3) (N:=some 40) #[true,true,true,true,false,false,false,false] rfl rfl (one_of HT_.out (by kernel_rfl)) (by decide) (fun K hK=>?_);refine goes_ Try.func76 (by kernel_rfl) rfl #[.agg #[.slice A1_0 l1_0.length c1_0, .bool a1_1], .slice A2 l2.length c2] (by rfl) rfl rfl (by (try simp only[List.map_toArray,List.map_cons,List.map_nil]);first|done|rfl|(simp only[List.length_drop,List.length_take];rfl)) ?_
       with_reducible refine (spec_keRide.calls k2 _ _ l1_0 a1_1 _ _ l2 t187 t190 _ ?side1 ?side2 ?side3 ?side4 A22.out).mono ?_
       (case side1=>repeat (first|exact (Kd.C_below HR1_0.out HB.out)|(with_reducible refine ca' ?_ _)|(with_reducible refine cn' ?_ _)|(with_reducible refine cd' ?_)))
       (case side2=>exact HC1_0.out)
       (case side3=>repeat (first|exact (Kd.C_below HR2.out HB.out)|(with_reducible refine ca' ?_ _)|(with_reducible refine cn' ?_ _)|(with_reducible refine cd' ?_)))
       (case side4=>exact HC2.out)
       rintro e w25 ⟨v188,rfl,ho0,hb⟩
       refine ⟨_,rfl,?_⟩;have n0_:=am' (Kd.R_lower ho0 (below_size (by repeat (first|(with_reducible first|exact HB.out|apply ba'|apply bd'|apply be'|refine bs' ?_ GE182.out|refine bs' ?_ GE183.out)|exact HB.out))));have n1_:=am' (blk_below (g:=gb182) (o := .cells #[.int .i64 a0_0, .slice A0_1 l0_1.length c0_1, .int .i64 a0_2] 32 (0,0)) (by (with_reducible repeat (first|refine kn' ?_ _|refine kd' ?_|refine ka' ?_ _));exact BK182.out) hb);have n2_:=am' (blk_below (g:=gb183) (o := .cells #[.slice A1_0 l1_0.length c1_0, .bool a1_1] 34 (0,0)) (by (with_reducible repeat (first|refine kn' ?_ _|refine kd' ?_|refine ka' ?_ _));exact BK183.out) hb);have n3_:=am' (below_step (by repeat (first|(with_reducible first|exact HB.out|apply ba'|apply bd'|apply be'|refine bs' ?_ GE182.out|refine bs' ?_ GE183.out)|exact HB.out)) hb);clear BK182;clear BK183;clear HB;have HO189:=n0_;have BK182:=n1_;have BK183:=n2_;have HB:=n3_;clear n0_ n1_ n2_ n3_;(try clear hb)
       (try clear hb2)
       (try clear hk)
       (try clear hi)
       (try clear ho0)
       obtain ⟨Ao26,co26,eo26⟩:=Kd.R_slice HO189.out
       (first|subst eo26|(injection eo26 with f1_ f2_ f3_;have f4_:=f1_.symm;have f5_:=f3_.symm;clear f1_ f2_ f3_;subst f4_;subst f5_))
       refine hK.out _ _ ⟨(blk_cell BK182.out 0).trans rfl,(blk_cell BK182.out 1).trans rfl,(blk_cell BK182.out 2).trans rfl,(blk_cell BK183.out 0).trans rfl,(blk_cell BK183.out 1).trans rfl⟩ (fun hHeld=>?_);clear hK K;refine norm_ (a':=?_) ?_ ?_
       rotate_left
       ·
        show Act.put _ (some 40) _=_
        simp only[Act.put,sa',sb',sc',i64_w,i32_w];rfl
       refine one_ (i:=4) (N:=some 41) #[true,true,true,true,true,false,false,false] rfl rfl (one_of HT_.out (by kernel_rfl)) (by decide) (fun K hK=>?_);refine goes_ Try.func78 (by kernel_rfl) rfl #[.agg #[.int .i64 a0_0, .slice A0_1 l0_1.length c0_1, .int .i64 a0_2], .agg #[.slice Ao26 t187.length co26, .bool t190]] (by rfl) rfl rfl (by (try simp only[List.map_toArray,List.map_cons,List.map_nil]);first|done|rfl|(simp only[List.length_drop,List.length_take];rfl)) ?_
       with_reducible refine (spec_keNow.calls k2 a0_0 _ _ l0_1 a0_2 _ _ t187 t190 t191 _ ?side1 ?side2 ?side3 ?side4 A23.out).mono ?_
       (case side1=>repeat (first|exact (Kd.C_below HR0_1.out HB.out)|(with_reducible refine ca' ?_ _)|(with_reducible refine cn' ?_ _)|(with_reducible refine cd' ?_)))
       (case side2=>exact HC0_1.out)
       (case side3=>repeat (first|exact (Kd.R_reads' HO189.out).2.2|(with_reducible refine ca' ?_ _)|(with_reducible refine cn' ?_ _)|(with_reducible refine cd' ?_)))
       (case side4=>exact (Kd.R_reads' HO189.out).2.1)
       rintro e w27 ⟨v192,rfl,ho0,hb⟩
       refine ⟨_,rfl,?_⟩;have n0_:=am' (Kd.R_below (by (with_reducible repeat (first|apply ra'|apply rn'|apply rw'));exact HO189.out) hb);have n1_:=am' (Kd.S_lower ho0 (below_size (by repeat (first|(with_reducible first|exact HB.out|apply ba'|apply bd'|apply be'|refine bs' ?_ GE182.out|refine bs' ?_ GE183.out)|exact HB.out))));have n2_:=am' (blk_below (g:=gb182) (o := .cells #[.int .i64 a0_0, .slice A0_1 l0_1.length c0_1, .int .i64 a0_2] 32 (0,0)) (by (with_reducible repeat (first|refine kn' ?_ _|refine kd' ?_|refine ka' ?_ _));exact BK182.out) hb);have n3_:=am' (blk_below (g:=gb183) (o := .cells #[.slice A1_0 l1_0.length c1_0, .bool a1_1] 34 (0,0)) (by (with_reducible repeat (first|refine kn' ?_ _|refine kd' ?_|refine ka' ?_ _));exact BK183.out) hb);have n4_:=am' (below_step (by repeat (first|(with_reducible first|exact HB.out|apply ba'|apply bd'|apply be'|refine bs' ?_ GE182.out|refine bs' ?_ GE183.out)|exact HB.out)) hb);clear HO189;clear BK182;clear BK183;clear HB;have HO189:=n0_;have HO193:=n1_;have BK182:=n2_;have BK183:=n3_;have HB:=n4_;clear n0_ n1_ n2_ n3_ n4_;(try clear hb)
       (try clear hb2)
       (try clear hk)
       (try clear hi)
       (try clear ho0)
       obtain ⟨Ao28,co28,eo28⟩:=Kd.S_slice HO193.out
       (first|subst eo28|(injection eo28 with f1_ f2_ f3_;have f4_:=f1_.symm;have f5_:=f3_.symm;clear f1_ f2_ f3_;subst f4_;subst f5_))
       refine hK.out _ _ ⟨(blk_cell BK182.out 0).trans rfl,(blk_cell BK182.out 1).trans rfl,(blk_cell BK182.out 2).trans rfl,(blk_cell BK183.out 0).trans rfl,(blk_cell BK183.out 1).trans rfl⟩ (fun hHeld=>?_);clear hK K;refine norm_ (a':=?_) ?_ ?_
       rotate_left
       ·
        show Act.put _ (some 41) _=_
        simp only[Act.put,sa',sb',sc',i64_w,i32_w];rfl
       refine pure_ (i:=5) (N:=some 42) (v:=?_) (a':=?_) #[true,true,true,true,true,true,false,false] rfl rfl (any_of HT_.out (by kernel_rfl)) (fun _ _ _ h=>h) (Or.inl ⟨by rfl,?_⟩) ?_ ?_
       rotate_left
       ·
        intro w';go_simp;with_reducible rfl
       rotate_left
       ·
        simp only[Act.put,sa',sb',sc',i64_w,i32_w];rfl
       refine pure_ (i:=6) (N:=some 43) (v:=?_) (a':=?_) #[true,true,true,true,true,true,true,false] rfl rfl (any_of HT_.out (by kernel_rfl)) (fun _ _ _ h=>h) (Or.inl ⟨by rfl,?_⟩) ?_ ?_
       rotate_left
       ·
        intro w';go_simp;with_reducible rfl
       rotate_left
       ·
        simp only[Act.put,sa',sb',sc',i64_w,i32_w];rfl
       refine pure_ (i:=7) (N:=some 6) (v:=?_) (a':=?_) #[true,true,true,true,true,true,true,true] rfl rfl (any_of HT_.out (by kernel_rfl)) (fun _ _ _ h=>h) (Or.inl ⟨by rfl,?_⟩) ?_ ?_
       rotate_left
       ·
        intro w';go_simp;with_reducible rfl
       rotate_left
       ·
        simp only[Act.put,sa',sb',sc',i64_w,i32_w];rfl
       refine done_ (done_of HT_.out (by kernel_rfl)) ?_
       try go_wp2
       go_ret
       exact ⟨by first|rfl|(simp[errW_none,errW_some] <;> rfl)|(simp[*,errW_none,errW_some] <;> rfl),by repeat (first|(with_reducible first|exact HB.out|apply ba'|apply bd'|apply be'|refine bs' ?_ GE182.out|refine bs' ?_ GE183.out)|exact HB.out)⟩
end Go.Proofs.Ytmfofjloklafoaa.C7
