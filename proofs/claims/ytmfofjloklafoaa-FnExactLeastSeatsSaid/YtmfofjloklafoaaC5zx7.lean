import Derived.Test.YtmfofjloklafoaaC5zx0
import Derived.Test.YtmfofjloklafoaaC5zx2
import Derived.Test.YtmfofjloklafoaaC5zx5
import Derived.Test.YtmfofjloklafoaaC5zx6
import Derived.Test.YtmfofjloklafoaaC5zAl
namespace Go.Proofs.Ytmfofjloklafoaa.C5
open Go.RowKit Go.Proofs.YtmfofjloklafoaaW.PrintWords Go.Proofs.YtmfofjloklafoaaW.PrintLast Go.Proofs.YtmfofjloklafoaaW.PrintMore Go.Proofs.Ytmfofjloklafoaa.H
attribute [local go_sem] max2_int min2_int max_two min_two max_three min_three max_four min_four
set_option linter.unusedVariables false
set_option linter.unusedSimpArgs false
mutual
def spec_keCan.j0:Nat→List Int→Bool→Int→List (List Int)→Int→List Bool→Bool→Option (Bool)
 | 0,_,_,_,_,_,_,_=>none
 | k+1,x2,x21,x205000,x205001,x205002,x206000,x206001=>if x21=true then (some false) else (spec_keCan.l0 k x2 x2 (x2.length:Int) 0 x205000 x205001 x205002 x206000 x206001)
def spec_keCan.l0:Nat→List Int→List Int→Int→Int→Int→List (List Int)→Int→List Bool→Bool→Option (Bool)
 | 0,_,_,_,_,_,_,_,_,_=>none
 | k+1,x2,x22,x23,x24,x205000,x205001,x205002,x206000,x206001=>if x24 < x23 then (if 0≤x24 then (if x24 < (x22.length:Int) then (if 0≤(rd x22 x24) then (if (rd x22 x24) < (x206000.length:Int) then (if ((rdOf false x206000 (rd x22 x24)) != x206001)=true then (some false) else (spec_keCan.l0 k x2 x22 x23 (wrap64 (x24+1)) x205000 x205001 x205002 x206000 x206001)) else (none)) else (none)) else (none)) else (none)) else ((spec_keRide.f k x206000 x206001 x2).bind fun bt209=>((spec_keNow.f k x205000 x205001 x205002 bt209.1 bt209.2).bind fun t213=>(some ((t213.length:Int) == 0))))
end
def spec_keCan.f (k:Nat) (a0_0:Int) (l0_1:List (List Int)) (a0_2:Int) (l1_0:List Bool) (a1_1:Bool) (l2:List Int):Option (Bool):=if (l2.length:Int) > a0_2 then (spec_keCan.j0 k l2 true a0_0 l0_1 a0_2 l1_0 a1_1) else ((spec_l1Rising.f k l2 0 (wrap64 (a0_0 - 1))).bind fun t206=>(spec_keCan.j0 k l2 (!t206) a0_0 l0_1 a0_2 l1_0 a1_1))
def spec_keCan.T6:Bool × List (List Nat × List Nat):=(true,[([],[]),([0],[0]),([],[]),([1,2],[1,2]),([3],[3]),([],[]),([5],[5]),([4,6],[4,6])])
def spec_keCan.B6:List Nat:=[0,1,0,7,15,0,32,127]
theorem spec_keCan.tab6:rtab .any (opsOf Try.f75 6)=spec_keCan.T6:=by kernel_rfl
theorem spec_keCan.bits6:waitsOk spec_keCan.T6.2 spec_keCan.B6=true:=by kernel_rfl
def spec_keCan.T9:Bool × List (List Nat × List Nat):=(true,[([],[]),([],[]),([],[]),([1,2],[1,2]),([0,3,3],[0,3]),([4],[4]),([5],[5]),([6,4,0,1,2,3,4,5,6],[6])])
def spec_keCan.B9:List Nat:=[0,0,0,6,15,31,63,127]
theorem spec_keCan.tab9:rtab .any (opsOf Try.f75 9)=spec_keCan.T9:=by kernel_rfl
theorem spec_keCan.bits9:waitsOk spec_keCan.T9.2 spec_keCan.B9=true:=by kernel_rfl
set_option maxHeartbeats 8000000 in
set_option maxRecDepth 100000 in
theorem spec_keCan.calls (k:Nat) (a0_0:Int) (A0_1:Option Addr) (c0_1:Nat) (l0_1:List (List Int)) (a0_2:Int) (A1_0:Option Addr) (c1_0:Nat) (l1_0:List Bool) (a1_1:Bool) (A2:Option Addr) (c2:Nat) (l2:List Int) (r:Bool) (w:World) (hr0_1:Kd.C (Kd.slice 3 (Kd.int .i64)) w A0_1 l0_1.length l0_1) (hc0_1:l0_1.length≤c0_1) (hr1_0:Kd.C Kd.bool w A1_0 l1_0.length l1_0) (hc1_0:l1_0.length≤c1_0) (hr2:Kd.C (Kd.int .i64) w A2 l2.length l2) (hc2:l2.length≤c2) (h:spec_keCan.f k a0_0 l0_1 a0_2 l1_0 a1_1 l2=some r) :
  Calls Try.prog 75 #[.agg #[.int .i64 a0_0, .slice A0_1 l0_1.length c0_1, .int .i64 a0_2], .agg #[.slice A1_0 l1_0.length c1_0, .bool a1_1], .slice A2 l2.length c2] w fun e w'=>e = .returned (.bool r)∧Below w.heap.size w w':=by
 have hu32:=Try.underlying32
 have hu34:=Try.underlying34
 have HR0_1:=am' hr0_1
 have HC0_1:=am' hc0_1
 clear hr0_1 hc0_1;have HR1_0:=am' hr1_0
 have HC1_0:=am' hc1_0
 clear hr1_0 hc1_0;have HR2:=am' hr2
 have HC2:=am' hc2
 clear hr2 hc2;have HB:=am' (Below.refl w.heap.size w)
 have H:(if (l2.length:Int) > a0_2 then (spec_keCan.j0 k l2 true a0_0 l0_1 a0_2 l1_0 a1_1) else ((spec_l1Rising.f k l2 0 (wrap64 (a0_0 - 1))).bind fun t206=>(spec_keCan.j0 k l2 (!t206) a0_0 l0_1 a0_2 l1_0 a1_1)))=some r:=h
 clear h;have HC4:=am' H
 clear H;go_enter Try.func75,Try.ntmps75
 go_upto_region 1 with (first|((with_reducible refine gate_dst (N:=3) rfl ?_);refine box_event ?hg (N:=3) ?hd (cs:=#[.int .i64 a0_0, .slice A0_1 l0_1.length c0_1, .int .i64 a0_2]) (t:=32) ?hr ?_;(case hd=>rfl);(case hg=>rfl);(case hr=>first|(go_simp;done)|(go_simp;rfl));intro gb204 hg w5 hbox hb;have n0_:=am' (bt' xb' hb);have n1_:=am' (hbox);have n2_:=am' ((by rw[hg];exact (bz' xb'):w.heap.size≤gb204));have n3_:=am' ((by rw[hg];exact (bz' xb'):w.heap.size≤gb204));clear HB;have HB:=n0_;have BK204:=n1_;have GW204:=n2_;have GE204:=n3_;clear n0_ n1_ n2_ n3_;clear hb hbox hg)|((with_reducible refine gate_dst (N:=4) rfl ?_);refine box_event ?hg (N:=4) ?hd (cs:=#[.slice A1_0 l1_0.length c1_0, .bool a1_1]) (t:=34) ?hr ?_;(case hd=>rfl);(case hg=>rfl);(case hr=>first|(go_simp;done)|(go_simp;rfl));intro gb205 hg w6 hbox hb;have n0_:=am' (bb' (g:=gb204) (o := .cells #[.int .i64 a0_0, .slice A0_1 l0_1.length c0_1, .int .i64 a0_2] 32 (0,0)) (kk' BK204.out) hb);have n1_:=am' (bt' (yb' GE204.out) hb);have n2_:=am' (hbox);have n3_:=am' ((by rw[hg];exact (bz' (yb' GE204.out)):w.heap.size≤gb205));have n4_:=am' ((by rw[hg];exact (bz' (yb' GE204.out)):w.heap.size≤gb205));have n5_:=am' ((by rw[hg];exact Nat.ne_of_lt (blk_lt (g:=gb204) (o := .cells #[.int .i64 a0_0, .slice A0_1 l0_1.length c0_1, .int .i64 a0_2] 32 (0,0)) (kk' BK204.out)):gb204≠gb205));have n6_:=am' ((by rw[hg];exact Nat.ne_of_gt (blk_lt (g:=gb204) (o := .cells #[.int .i64 a0_0, .slice A0_1 l0_1.length c0_1, .int .i64 a0_2] 32 (0,0)) (kk' BK204.out)):gb205≠gb204));clear BK204;clear HB;have BK204:=n0_;have HB:=n1_;have BK205:=n2_;have GW205:=n3_;have GE205:=n4_;have NB204_205:=n5_;have NB205_204:=n6_;clear n0_ n1_ n2_ n3_ n4_ n5_ n6_;clear hb hbox hg))
 (try simp only[Act.put,sa',sb',sc'])
 go_cut [21] (fun v21 wc=>∃ (kq:Nat) (x21_3:Bool),v21 = .bool x21_3∧Aside0 (spec_keCan.j0 kq l2 x21_3 a0_0 l0_1 a0_2 l1_0 a1_1=some r)∧Aside0 (kq≤k)∧Aside0 (wc.heap[gb204]? = some (.cells #[.int .i64 a0_0,(.slice A0_1 l0_1.length c0_1), .int .i64 a0_2] 32 (0,0)))∧Aside0 (wc.heap[gb205]? = some (.cells #[(.slice A1_0 l1_0.length c1_0), .bool a1_1] 34 (0,0)))∧Aside0 (Below w.heap.size w wc))
 case first =>
  have H:=HC4.out;clear HC4;by_cases c7:(l2.length:Int) > a0_2
  ·
   rw[if_pos c7] at H;have c7b0:decide (a0_2 < (l2.length:Int))=true:=dt' c7;clear c7;(first|rw[c7b0]|(simp only[i64_w,i32_w];rw[c7b0])|skip)
   have H':=am' H;clear H;have hnb8:=NB204_205.out;have hnc8:=NB205_204.out;have hcz9_0:w6.cell? ⟨gb204,0,none⟩=some (.int .i64 a0_0):=(bc' BK204.out 0).trans rfl;have hcz9_1:w6.cell? ⟨gb204,1,none⟩=some (.slice A0_1 l0_1.length c0_1):=(bc' BK204.out 1).trans rfl;have hcz9_2:w6.cell? ⟨gb204,2,none⟩=some (.int .i64 a0_2):=(bc' BK204.out 2).trans rfl;have hfz9_0:=bf' BK204.out 0;have hfz9_1:=bf' BK204.out 1;have hfz9_2:=bf' BK204.out 2;go_wp2;go_meet
   case rel=>exact ⟨_,(true),xs',H',⟨by first|omega|exact Nat.le_refl _⟩,⟨kk' BK204.out⟩,⟨kk' BK205.out⟩,⟨y2' GE204.out GE205.out⟩⟩
  ·
   rw[if_neg c7] at H;have c7b0:decide (a0_2 < (l2.length:Int))=false:=df' c7;clear c7;(first|rw[c7b0]|(simp only[i64_w,i32_w];rw[c7b0])|skip)
   replace H:=Option.bind_eq_some_iff.mp H;obtain ⟨t206,A100,H⟩:=H;replace H:(spec_keCan.j0 k l2 (!t206) a0_0 l0_1 a0_2 l1_0 a1_1)=some r:=H;have A10:=am' A100;clear A100;have H':=am' H;clear H;have hnb11:=NB204_205.out;have hnc11:=NB205_204.out;have hcz12_0:w6.cell? ⟨gb204,0,none⟩=some (.int .i64 a0_0):=(bc' BK204.out 0).trans rfl;have hcz12_1:w6.cell? ⟨gb204,1,none⟩=some (.slice A0_1 l0_1.length c0_1):=(bc' BK204.out 1).trans rfl;have hcz12_2:w6.cell? ⟨gb204,2,none⟩=some (.int .i64 a0_2):=(bc' BK204.out 2).trans rfl;have hfz12_0:=bf' BK204.out 0;have hfz12_1:=bf' BK204.out 1;have hfz12_2:=bf' BK204.out 2;go_wp2_with (first|(go_at_call 95;(with_reducible refine (spec_l1Rising.calls k _ _ l2 0 (wrap64 (a0_0 - 1)) t206 _ ?side1 ?side2 A10.out).mono ?_);(case side1=>exact kc' (cb' HR2.out HB.out));(case side2=>exact HC2.out);rintro e w' ⟨rfl,⟨nd,rfl⟩⟩));go_meet
   case rel=>exact ⟨_,(!t206),xs',H',⟨by first|omega|exact Nat.le_refl _⟩,⟨kk' BK204.out⟩,⟨kk' BK205.out⟩,⟨y2' GE204.out GE205.out⟩⟩
 case rest =>
  clear HC4;try clear c1
  try clear c2
  try clear p2
  try clear p6
  try clear c7
  try clear c7b0
  try clear c8
  try clear c11
  try clear hcz12_0
  try clear hcz12_1
  try clear hcz12_2
  try clear hcz9_0
  try clear hcz9_1
  try clear hcz9_2
  try clear hfz12_0
  try clear hfz12_1
  try clear hfz12_2
  try clear hfz9_0
  try clear hfz9_1
  try clear hfz9_2
  obtain ⟨kq,x21_3,rfl,HA,HJ3,BK204,BK205,HB⟩:=hcut;cases kq with
  | zero=>exact absurd HA.out (by simp[spec_keCan.j0])
  | succ kj3 =>
   have H:=HA.out;clear HA;simp only[spec_keCan.j0] at H;by_cases c13:x21_3=true
   ·
    subst c13;have H1:(some false)=some r:=by rw[if_pos rfl] at H;exact H
    clear H;have H:=H1;clear H1;obtain rfl:=os' H;go_wp2;go_ret
    exact ⟨by first|rfl|(simp[errW_none,errW_some] <;> rfl)|(simp[*,errW_none,errW_some] <;> rfl),y2' GE204.out GE205.out⟩
   ·
    replace c13:=Bool.eq_false_iff.mpr c13;subst c13;have H1:(spec_keCan.l0 kj3 l2 l2 (l2.length:Int) 0 a0_0 l0_1 a0_2 l1_0 a1_1)=some r:=by rw[if_neg (show ¬ (false=true) by decide)] at H;exact H
    clear H;have H:=H1;clear H1;have H':=am' H;clear H;go_wp2;go_loopg [24] kj3 (fun kq v24 w'=>∃ (x24_2:Int),v24 = .int .i64 x24_2∧Aside0 (spec_keCan.l0 kq l2 l2 (l2.length:Int) x24_2 a0_0 l0_1 a0_2 l1_0 a1_1=some r)∧Aside0 (kq≤kj3)∧Aside0 (w'.heap[gb204]? = some (.cells #[.int .i64 a0_0,(.slice A0_1 l0_1.length c0_1), .int .i64 a0_2] 32 (0,0)))∧Aside0 (w'.heap[gb205]? = some (.cells #[(.slice A1_0 l1_0.length c1_0), .bool a1_1] 34 (0,0)))∧Aside0 (Below w.heap.size w w'))
    case atStart=>exact ⟨(0),xs',H',⟨Nat.le_refl _⟩,⟨kk' BK204.out⟩,⟨kk' BK205.out⟩,⟨y2' GE204.out GE205.out⟩⟩
    case round =>
     clear H';try clear c1
     try clear c2
     try clear p2
     try clear p6
     try clear c7
     try clear c7b0
     try clear c8
     try clear c11
     try clear c13
     try clear hcz12_0
     try clear hcz12_1
     try clear hcz12_2
     try clear hcz9_0
     try clear hcz9_1
     try clear hcz9_2
     try clear hfz12_0
     try clear hfz12_1
     try clear hfz12_2
     try clear hfz9_0
     try clear hfz9_1
     try clear hfz9_2
     try clear p2
     try clear p6
     obtain ⟨x24_2,rfl,HA,HK2,BK204,BK205,HB⟩:=hrel;cases gk with
     | zero=>exact absurd HA.out (by simp[spec_keCan.l0])
     | succ k2 =>
      have H:=HA.out;clear HA;simp only[spec_keCan.l0] at H;by_cases c14:x24_2 < (l2.length:Int)
      ·
       rw[if_pos c14] at H;have c14b0:decide (x24_2 < (l2.length:Int))=true:=dt' c14;clear c14;by_cases c15:0≤x24_2
       ·
        rw[if_pos c15] at H;have c15b0:decide (0≤x24_2)=true:=dt' c15;clear c15;by_cases c16:x24_2 < (l2.length:Int)
        ·
         rw[if_pos c16] at H;have c16b0:decide (x24_2 < (l2.length:Int))=true:=dt' c16;clear c16;by_cases c17:0≤(rd l2 x24_2)
         ·
          rw[if_pos c17] at H;have c17b0:decide (0≤(rd l2 x24_2))=true:=dt' c17;clear c17;by_cases c18:(rd l2 x24_2) < (l1_0.length:Int)
          ·
           rw[if_pos c18] at H;have c18b0:decide ((rd l2 x24_2) < (l1_0.length:Int))=true:=dt' c18;clear c18;by_cases c19:((rdOf false l1_0 (rd l2 x24_2)) != a1_1)=true
           ·
            rw[if_pos c19] at H;have c19b0:((rdOf false l1_0 (rd l2 x24_2)) != a1_1)=true:=c19
            (try (have c19b1:decide ((rdOf false l1_0 (rd l2 x24_2))=a1_1)=false:=by simpa using c19))
            (try (have c19b2:((rdOf false l1_0 (rd l2 x24_2)) == a1_1)=false:=by simpa using c19))
            (try (have c19b3:¬ ((rdOf false l1_0 (rd l2 x24_2))=a1_1):=by simpa using c19))
            clear c19;obtain rfl:=os' H;have p207:0≤(x24_2:Int):=od' xa';have q207:x24_2 < (l2.length:Int):=od' xa';obtain ⟨ad207,e207,hx207_0⟩:=Kd.at_int HR2.out x24_2 p207 q207;cases e207;replace hx207_0:=(HB.out.cell (bl' w _ hx207_0)).trans hx207_0;replace p207:=eq_true p207;replace q207:=eq_true q207
            try go_wp2
            have n0_:=am' (kd' BK204.out);have n1_:=am' (kd' BK205.out);have n2_:=am' (be' HB.out);clear BK204;clear BK205;clear HB;have BK204:=n0_;have BK205:=n1_;have HB:=n2_;clear n0_ n1_ n2_;have p208:0≤((rd l2 x24_2):Int):=od' xa';have q208:(rd l2 x24_2) < (l1_0.length:Int):=od' xa';obtain ⟨ad208,e208,hx208_0⟩:=Kd.at_bool HR1_0.out (rd l2 x24_2) p208 q208;have hw208_0:=hx208_0;cases e208;replace hx208_0:=(HB.out.cell (bl' w _ hx208_0)).trans hx208_0;replace p208:=eq_true p208;replace q208:=eq_true q208;refine start_ (n:=8) (S:=fun w'=>w'.cell? ⟨gb205,0,none⟩=some (.slice (some ad208) l1_0.length c1_0)∧w'.cell? ⟨gb205,1,none⟩=some (.bool a1_1)∧w'.cell? (ad208.add ((rd l2 x24_2)).toNat)=some (.bool (rdOf false l1_0 (rd l2 x24_2)))) (ds:=[]) #[false,false,false,false,false,false,false,false] xk' rfl rfl ⟨(bc' BK205.out 0).trans rfl,(bc' BK205.out 1).trans rfl,((HB.out.cell (bl' w _ hw208_0)).trans hw208_0)⟩ (fun hHeld=>?_);refine with_tabW spec_keCan.tab6 spec_keCan.bits6 (fun HT_ HW_=>?_);generalize wr.drew=w20 at BK204 BK205 HB hx208_0 hHeld ⊢
            refine pure_ (i:=0) (N:=some 28) (v:=?_) (a':=?_) #[true,false,false,false,false,false,false,false] rfl rfl (any_of HT_.out xk') (fun _ _ _ h=>h) (Or.inl ⟨by rfl,?_⟩) ?_ ?_
            rotate_left
            ·
             intro w';go_simp;with_reducible rfl
            rotate_left
            ·
             simp only[Act.put,sa',sb',sc',i64_w,i32_w];rfl
            refine pure_ (i:=2) (N:=some 30) (v:=?_) (a':=?_) #[true,false,true,false,false,false,false,false] rfl rfl (any_of HT_.out xk') (fun _ _ _ h=>h) (Or.inl ⟨by rfl,?_⟩) ?_ ?_
            rotate_left
            ·
             intro w';go_simp;with_reducible rfl
            rotate_left
            ·
             simp only[Act.put,sa',sb',sc',i64_w,i32_w];rfl
            refine pure_ (i:=5) (N:=some 33) (v:=?_) (a':=?_) #[true,false,true,false,false,true,false,false] rfl rfl (any_of HT_.out xk') (fun _ _ _ h=>h) (Or.inl ⟨by rfl,?_⟩) ?_ ?_
            rotate_left
            ·
             intro w';go_simp;with_reducible rfl
            rotate_left
            ·
             simp only[Act.put,sa',sb',sc',i64_w,i32_w];rfl
            refine take_ (i:=1) (N:=some 29) (v:=?_) (a':=?_) #[true,true,true,false,false,true,false,false] rfl rfl (take_ofW HT_.out HW_.out xk') (fun _ _ _ h=>h) (Or.inl ⟨by rfl,?_⟩) hHeld ?_ ?_
            rotate_left
            ·
             rintro w' ⟨s0,s1,s2⟩
             go_simp;with_reducible rfl
            rotate_left
            ·
             simp only[Act.put,sa',sb',sc',i64_w,i32_w];rfl
            refine pure_ (i:=3) (N:=some 31) (v:=?_) (a':=?_) #[true,true,true,true,false,true,false,false] rfl rfl (any_of HT_.out xk') (fun _ _ _ h=>h) (Or.inl ⟨by rfl,?_⟩) ?_ ?_
            rotate_left
            ·
             intro w';go_simp;with_reducible rfl
            rotate_left
            ·
             simp only[Act.put,sa',sb',sc',i64_w,i32_w];rfl
            refine take_ (i:=4) (N:=some 32) (v:=?_) (a':=?_) #[true,true,true,true,true,true,false,false] rfl rfl (take_ofW HT_.out HW_.out xk') (fun _ _ _ h=>h) (Or.inl ⟨by rfl,?_⟩) hHeld ?_ ?_
            rotate_left
            ·
             rintro w' ⟨s0,s1,s2⟩
             go_simp;with_reducible rfl
            rotate_left
            ·
             simp only[Act.put,sa',sb',sc',i64_w,i32_w];rfl
            refine take_ (i:=6) (N:=some 34) (v:=?_) (a':=?_) #[true,true,true,true,true,true,true,false] rfl rfl (take_ofW HT_.out HW_.out xk') (fun _ _ _ h=>h) (Or.inl ⟨by rfl,?_⟩) hHeld ?_ ?_
            rotate_left
            ·
             rintro w' ⟨s0,s1,s2⟩
             go_simp;with_reducible rfl
            rotate_left
            ·
             simp only[Act.put,sa',sb',sc',i64_w,i32_w];rfl
            refine pure_ (i:=7) (N:=some 35) (v:=?_) (a':=?_) #[true,true,true,true,true,true,true,true] rfl rfl (any_of HT_.out xk') (fun _ _ _ h=>h) (Or.inl ⟨by rfl,?_⟩) ?_ ?_
            rotate_left
            ·
             intro w';go_simp;with_reducible rfl
            rotate_left
            ·
             simp only[Act.put,sa',sb',sc',i64_w,i32_w];rfl
            refine done_ (done_of HT_.out xk') ?_
            try go_wp2
            go_ret
            exact ⟨by first|rfl|(simp[errW_none,errW_some] <;> rfl)|(simp[*,errW_none,errW_some] <;> rfl),y2' GE204.out GE205.out⟩
           ·
            rw[if_neg c19] at H;have c19b0:((rdOf false l1_0 (rd l2 x24_2)) != a1_1)=false:=by simpa using c19
            (try (have c19b1:decide ((rdOf false l1_0 (rd l2 x24_2))=a1_1)=true:=by simpa using c19))
            (try (have c19b2:((rdOf false l1_0 (rd l2 x24_2)) == a1_1)=true:=by simpa using c19))
            clear c19;have H':=am' H;clear H;have p207:0≤(x24_2:Int):=od' xa';have q207:x24_2 < (l2.length:Int):=od' xa';obtain ⟨ad207,e207,hx207_0⟩:=Kd.at_int HR2.out x24_2 p207 q207;cases e207;replace hx207_0:=(HB.out.cell (bl' w _ hx207_0)).trans hx207_0;replace p207:=eq_true p207;replace q207:=eq_true q207
            try go_wp2
            have n0_:=am' (kd' BK204.out);have n1_:=am' (kd' BK205.out);have n2_:=am' (be' HB.out);clear BK204;clear BK205;clear HB;have BK204:=n0_;have BK205:=n1_;have HB:=n2_;clear n0_ n1_ n2_;have p208:0≤((rd l2 x24_2):Int):=od' xa';have q208:(rd l2 x24_2) < (l1_0.length:Int):=od' xa';obtain ⟨ad208,e208,hx208_0⟩:=Kd.at_bool HR1_0.out (rd l2 x24_2) p208 q208;have hw208_0:=hx208_0;cases e208;replace hx208_0:=(HB.out.cell (bl' w _ hx208_0)).trans hx208_0;replace p208:=eq_true p208;replace q208:=eq_true q208;refine start_ (n:=8) (S:=fun w'=>w'.cell? ⟨gb205,0,none⟩=some (.slice (some ad208) l1_0.length c1_0)∧w'.cell? ⟨gb205,1,none⟩=some (.bool a1_1)∧w'.cell? (ad208.add ((rd l2 x24_2)).toNat)=some (.bool (rdOf false l1_0 (rd l2 x24_2)))) (ds:=[]) #[false,false,false,false,false,false,false,false] xk' rfl rfl ⟨(bc' BK205.out 0).trans rfl,(bc' BK205.out 1).trans rfl,((HB.out.cell (bl' w _ hw208_0)).trans hw208_0)⟩ (fun hHeld=>?_);refine with_tabW spec_keCan.tab6 spec_keCan.bits6 (fun HT_ HW_=>?_);generalize wr.drew=w21 at BK204 BK205 HB hx208_0 hHeld ⊢
            refine pure_ (i:=0) (N:=some 28) (v:=?_) (a':=?_) #[true,false,false,false,false,false,false,false] rfl rfl (any_of HT_.out xk') (fun _ _ _ h=>h) (Or.inl ⟨by rfl,?_⟩) ?_ ?_
            rotate_left
            ·
             intro w';go_simp;with_reducible rfl
            rotate_left
            ·
             simp only[Act.put,sa',sb',sc',i64_w,i32_w];rfl
            refine pure_ (i:=2) (N:=some 30) (v:=?_) (a':=?_) #[true,false,true,false,false,false,false,false] rfl rfl (any_of HT_.out xk') (fun _ _ _ h=>h) (Or.inl ⟨by rfl,?_⟩) ?_ ?_
            rotate_left
            ·
             intro w';go_simp;with_reducible rfl
            rotate_left
            ·
             simp only[Act.put,sa',sb',sc',i64_w,i32_w];rfl
            refine pure_ (i:=5) (N:=some 33) (v:=?_) (a':=?_) #[true,false,true,false,false,true,false,false] rfl rfl (any_of HT_.out xk') (fun _ _ _ h=>h) (Or.inl ⟨by rfl,?_⟩) ?_ ?_
            rotate_left
            ·
             intro w';go_simp;with_reducible rfl
            rotate_left
            ·
             simp only[Act.put,sa',sb',sc',i64_w,i32_w];rfl
            refine take_ (i:=1) (N:=some 29) (v:=?_) (a':=?_) #[true,true,true,false,false,true,false,false] rfl rfl (take_ofW HT_.out HW_.out xk') (fun _ _ _ h=>h) (Or.inl ⟨by rfl,?_⟩) hHeld ?_ ?_
            rotate_left
            ·
             rintro w' ⟨s0,s1,s2⟩
             go_simp;with_reducible rfl
            rotate_left
            ·
             simp only[Act.put,sa',sb',sc',i64_w,i32_w];rfl
            refine pure_ (i:=3) (N:=some 31) (v:=?_) (a':=?_) #[true,true,true,true,false,true,false,false] rfl rfl (any_of HT_.out xk') (fun _ _ _ h=>h) (Or.inl ⟨by rfl,?_⟩) ?_ ?_
            rotate_left
            ·
             intro w';go_simp;with_reducible rfl
            rotate_left
            ·
             simp only[Act.put,sa',sb',sc',i64_w,i32_w];rfl
            refine take_ (i:=4) (N:=some 32) (v:=?_) (a':=?_) #[true,true,true,true,true,true,false,false] rfl rfl (take_ofW HT_.out HW_.out xk') (fun _ _ _ h=>h) (Or.inl ⟨by rfl,?_⟩) hHeld ?_ ?_
            rotate_left
            ·
             rintro w' ⟨s0,s1,s2⟩
             go_simp;with_reducible rfl
            rotate_left
            ·
             simp only[Act.put,sa',sb',sc',i64_w,i32_w];rfl
            refine take_ (i:=6) (N:=some 34) (v:=?_) (a':=?_) #[true,true,true,true,true,true,true,false] rfl rfl (take_ofW HT_.out HW_.out xk') (fun _ _ _ h=>h) (Or.inl ⟨by rfl,?_⟩) hHeld ?_ ?_
            rotate_left
            ·
             rintro w' ⟨s0,s1,s2⟩
             go_simp;with_reducible rfl
            rotate_left
            ·
             simp only[Act.put,sa',sb',sc',i64_w,i32_w];rfl
            refine pure_ (i:=7) (N:=some 35) (v:=?_) (a':=?_) #[true,true,true,true,true,true,true,true] rfl rfl (any_of HT_.out xk') (fun _ _ _ h=>h) (Or.inl ⟨by rfl,?_⟩) ?_ ?_
            rotate_left
            ·
             intro w';go_simp;with_reducible rfl
            rotate_left
            ·
             simp only[Act.put,sa',sb',sc',i64_w,i32_w];rfl
            refine done_ (done_of HT_.out xk') ?_
            try go_wp2
            go_roundg k2
            case measure=>have:=HJ3.out;have:=HK2.out;omega
            case rel=>exact ⟨(wrap64 (x24_2+1)),xs',H',⟨by have:=HJ3.out;have:=HK2.out;omega⟩,⟨kk' BK204.out⟩,⟨kk' BK205.out⟩,⟨y2' GE204.out GE205.out⟩⟩
          ·
           rw[if_neg c18] at H;exact absurd H (by simp)
         ·
          rw[if_neg c17] at H;exact absurd H (by simp)
        ·
         rw[if_neg c16] at H;exact absurd H (by simp)
       ·
        rw[if_neg c15] at H;exact absurd H (by simp)
      ·
       rw[if_neg c14] at H;have c14b0:decide (x24_2 < (l2.length:Int))=false:=df' c14;clear c14;replace H:=Option.bind_eq_some_iff.mp H;obtain ⟨⟨t209,t212⟩,A220,H⟩:=H;replace H:((spec_keNow.f k2 a0_0 l0_1 a0_2 t209 t212).bind fun t213=>(some ((t213.length:Int) == 0)))=some r:=H;have A22:=am' A220;clear A220;replace H:=Option.bind_eq_some_iff.mp H;obtain ⟨t213,A230,H⟩:=H;replace H:(some ((t213.length:Int) == 0))=some r:=H;have A23:=am' A230;clear A230;obtain rfl:=os' H
       try go_wp2
       have n0_:=am' (kd' BK204.out);have n1_:=am' (kd' BK205.out);have n2_:=am' (be' HB.out);clear BK204;clear BK205;clear HB;have BK204:=n0_;have BK205:=n1_;have HB:=n2_;clear n0_ n1_ n2_;refine start_ (n:=8) (S:=fun w'=>w'.cell? ⟨gb204,0,none⟩=some (.int .i64 a0_0)∧w'.cell? ⟨gb204,1,none⟩=some (.slice A0_1 l0_1.length c0_1)∧w'.cell? ⟨gb204,2,none⟩=some (.int .i64 a0_2)∧w'.cell? ⟨gb205,0,none⟩=some (.slice A1_0 l1_0.length c1_0)∧w'.cell? ⟨gb205,1,none⟩=some (.bool a1_1)) (ds:=[]) #[false,false,false,false,false,false,false,false] xk' rfl rfl ⟨(bc' BK204.out 0).trans rfl,(bc' BK204.out 1).trans rfl,(bc' BK204.out 2).trans rfl,(bc' BK205.out 0).trans rfl,(bc' BK205.out 1).trans rfl⟩ (fun hHeld=>?_);refine with_tabW spec_keCan.tab9 spec_keCan.bits9 (fun HT_ HW_=>?_);generalize wr.drew=w24 at BK204 BK205 HB hHeld ⊢
       refine pure_ (i:=2) (N:=some 39) (v:=?_) (a':=?_) #[false,false,true,false,false,false,false,false] rfl rfl (any_of HT_.out xk') (fun _ _ _ h=>h) (Or.inl ⟨by rfl,?_⟩) ?_ ?_
       rotate_left
       ·
        intro w';go_simp;with_reducible rfl
       rotate_left
       ·
        simp only[Act.put,sa',sb',sc',i64_w,i32_w];rfl
       refine take_ (i:=0) (N:=some 37) (v:=?_) (a':=?_) #[true,false,true,false,false,false,false,false] rfl rfl (take_ofW HT_.out HW_.out xk') (fun _ _ _ h=>h) (Or.inl ⟨by rfl,?_⟩) hHeld ?_ ?_
       rotate_left
       ·
        rintro w' ⟨s0,s1,s2,s3,s4⟩
        go_simp;with_reducible rfl
       rotate_left
       ·
        simp only[Act.put,sa',sb',sc',i64_w,i32_w];rfl
       refine take_ (i:=1) (N:=some 38) (v:=?_) (a':=?_) #[true,true,true,false,false,false,false,false] rfl rfl (take_ofW HT_.out HW_.out xk') (fun _ _ _ h=>h) (Or.inl ⟨by rfl,?_⟩) hHeld ?_ ?_
       rotate_left
       ·
        rintro w' ⟨s0,s1,s2,s3,s4⟩
        go_simp;with_reducible rfl
       rotate_left
       ·
        simp only[Act.put,sa',sb',sc',i64_w,i32_w];rfl
       refine one_ (i:=3) (N:=some 40) #[true,true,true,true,false,false,false,false] rfl rfl (one_of HT_.out xk') (by decide) (fun K hK=>?_);refine goes_ Try.func76 xk' rfl #[.agg #[.slice A1_0 l1_0.length c1_0, .bool a1_1], .slice A2 l2.length c2] (by rfl) rfl rfl xl' ?_
       with_reducible refine (spec_keRide.calls k2 _ _ l1_0 a1_1 _ _ l2 t209 t212 _ ?side1 ?side2 ?side3 ?side4 A22.out).mono ?_
       (case side1=>exact kc' (cb' HR1_0.out HB.out))
       (case side2=>exact HC1_0.out)
       (case side3=>exact kc' (cb' HR2.out HB.out))
       (case side4=>exact HC2.out)
       rintro e w25 ⟨v210,rfl,ho0,hb⟩
       refine ⟨_,rfl,?_⟩;have n0_:=am' (Kd.R_lower ho0 (bz' (y2' GE204.out GE205.out)));have n1_:=am' (bb' (g:=gb204) (o := .cells #[.int .i64 a0_0, .slice A0_1 l0_1.length c0_1, .int .i64 a0_2] 32 (0,0)) (kk' BK204.out) hb);have n2_:=am' (bb' (g:=gb205) (o := .cells #[.slice A1_0 l1_0.length c1_0, .bool a1_1] 34 (0,0)) (kk' BK205.out) hb);have n3_:=am' (bt' (y2' GE204.out GE205.out) hb);clear BK204;clear BK205;clear HB;have HO211:=n0_;have BK204:=n1_;have BK205:=n2_;have HB:=n3_;clear n0_ n1_ n2_ n3_;(try clear hb)
       (try clear hb2)
       (try clear hk)
       (try clear hi)
       (try clear ho0)
       obtain ⟨Ao26,co26,eo26⟩:=Kd.R_slice HO211.out
       (first|subst eo26|(injection eo26 with f1_ f2_ f3_;have f4_:=f1_.symm;have f5_:=f3_.symm;clear f1_ f2_ f3_;subst f4_;subst f5_))
       refine hK.out _ _ ⟨(bc' BK204.out 0).trans rfl,(bc' BK204.out 1).trans rfl,(bc' BK204.out 2).trans rfl,(bc' BK205.out 0).trans rfl,(bc' BK205.out 1).trans rfl⟩ (fun hHeld=>?_);clear hK K;refine norm_ (a':=?_) ?_ ?_
       rotate_left
       ·
        show Act.put _ (some 40) _=_
        simp only[Act.put,sa',sb',sc',i64_w,i32_w];rfl
       refine one_ (i:=4) (N:=some 41) #[true,true,true,true,true,false,false,false] rfl rfl (one_of HT_.out xk') (by decide) (fun K hK=>?_);refine goes_ Try.func78 xk' rfl #[.agg #[.int .i64 a0_0, .slice A0_1 l0_1.length c0_1, .int .i64 a0_2], .agg #[.slice Ao26 t209.length co26, .bool t212]] (by rfl) rfl rfl xl' ?_
       with_reducible refine (spec_keNow.calls k2 a0_0 _ _ l0_1 a0_2 _ _ t209 t212 t213 _ ?side1 ?side2 ?side3 ?side4 A23.out).mono ?_
       (case side1=>exact kc' (cb' HR0_1.out HB.out))
       (case side2=>exact HC0_1.out)
       (case side3=>exact kc' ((Kd.R_reads' HO211.out).2.2))
       (case side4=>exact (Kd.R_reads' HO211.out).2.1)
       rintro e w27 ⟨v214,rfl,ho0,hb⟩
       refine ⟨_,rfl,?_⟩;have n0_:=am' (rb' (kr' HO211.out) hb);have n1_:=am' (Kd.S_lower ho0 (bz' (y2' GE204.out GE205.out)));have n2_:=am' (bb' (g:=gb204) (o := .cells #[.int .i64 a0_0, .slice A0_1 l0_1.length c0_1, .int .i64 a0_2] 32 (0,0)) (kk' BK204.out) hb);have n3_:=am' (bb' (g:=gb205) (o := .cells #[.slice A1_0 l1_0.length c1_0, .bool a1_1] 34 (0,0)) (kk' BK205.out) hb);have n4_:=am' (bt' (y2' GE204.out GE205.out) hb);clear HO211;clear BK204;clear BK205;clear HB;have HO211:=n0_;have HO215:=n1_;have BK204:=n2_;have BK205:=n3_;have HB:=n4_;clear n0_ n1_ n2_ n3_ n4_;(try clear hb)
       (try clear hb2)
       (try clear hk)
       (try clear hi)
       (try clear ho0)
       obtain ⟨Ao28,co28,eo28⟩:=Kd.S_slice HO215.out
       (first|subst eo28|(injection eo28 with f1_ f2_ f3_;have f4_:=f1_.symm;have f5_:=f3_.symm;clear f1_ f2_ f3_;subst f4_;subst f5_))
       refine hK.out _ _ ⟨(bc' BK204.out 0).trans rfl,(bc' BK204.out 1).trans rfl,(bc' BK204.out 2).trans rfl,(bc' BK205.out 0).trans rfl,(bc' BK205.out 1).trans rfl⟩ (fun hHeld=>?_);clear hK K;refine norm_ (a':=?_) ?_ ?_
       rotate_left
       ·
        show Act.put _ (some 41) _=_
        simp only[Act.put,sa',sb',sc',i64_w,i32_w];rfl
       refine pure_ (i:=5) (N:=some 42) (v:=?_) (a':=?_) #[true,true,true,true,true,true,false,false] rfl rfl (any_of HT_.out xk') (fun _ _ _ h=>h) (Or.inl ⟨by rfl,?_⟩) ?_ ?_
       rotate_left
       ·
        intro w';go_simp;with_reducible rfl
       rotate_left
       ·
        simp only[Act.put,sa',sb',sc',i64_w,i32_w];rfl
       refine pure_ (i:=6) (N:=some 43) (v:=?_) (a':=?_) #[true,true,true,true,true,true,true,false] rfl rfl (any_of HT_.out xk') (fun _ _ _ h=>h) (Or.inl ⟨by rfl,?_⟩) ?_ ?_
       rotate_left
       ·
        intro w';go_simp;with_reducible rfl
       rotate_left
       ·
        simp only[Act.put,sa',sb',sc',i64_w,i32_w];rfl
       refine pure_ (i:=7) (N:=some 6) (v:=?_) (a':=?_) #[true,true,true,true,true,true,true,true] rfl rfl (any_of HT_.out xk') (fun _ _ _ h=>h) (Or.inl ⟨by rfl,?_⟩) ?_ ?_
       rotate_left
       ·
        intro w';go_simp;with_reducible rfl
       rotate_left
       ·
        simp only[Act.put,sa',sb',sc',i64_w,i32_w];rfl
       refine done_ (done_of HT_.out xk') ?_
       try go_wp2
       go_ret
       exact ⟨by first|rfl|(simp[errW_none,errW_some] <;> rfl)|(simp[*,errW_none,errW_some] <;> rfl),y2' GE204.out GE205.out⟩
end Go.Proofs.Ytmfofjloklafoaa.C5
