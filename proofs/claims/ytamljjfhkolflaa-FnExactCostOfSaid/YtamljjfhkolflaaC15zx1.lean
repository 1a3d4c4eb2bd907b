import Derived.Test.YtamljjfhkolflaaC15zx0
import Derived.Test.YtamljjfhkolflaaC15zAl
namespace Go.Proofs.Ytamljjfhkolflaa.C15
open Go.RowKit Go.Proofs.YtamljjfhkolflaaW.PrintWords Go.Proofs.YtamljjfhkolflaaW.PrintLast Go.Proofs.YtamljjfhkolflaaW.PrintMore Go.Proofs.Ytamljjfhkolflaa.H
attribute [local go_sem] max2_int min2_int max_two min_two max_three min_three max_four min_four
set_option linter.unusedVariables false
set_option linter.unusedSimpArgs false
def laws_szIntS.f (l0:List Int) (a1:Int):Option (Int):=if (wrap64 (a1 - (l0.length:Int))) < 0 then (some (-1)) else (some (wrap64 (a1 - (l0.length:Int))))
set_option maxHeartbeats 8000000 in
set_option maxRecDepth 100000 in
theorem laws_szIntS.calls (A0:Option Addr) (c0:Nat) (l0:List Int) (a1:Int) (r:Int) (w:World) (hr0:Kd.C (Kd.int .i64) w A0 l0.length l0) (hc0:l0.length≤c0) (h:laws_szIntS.f l0 a1=some r) :
  Calls Try.prog 58 #[.slice A0 l0.length c0, .int .i64 a1] w fun e w'=>e = .returned (.int .i64 r)∧Drawn0 w w':=by
 have HR0:=am' hr0
 have HC0:=am' hc0
 clear hr0 hc0;have H:(if (wrap64 (a1 - (l0.length:Int))) < 0 then (some (-1)) else (some (wrap64 (a1 - (l0.length:Int)))))=some r:=h
 clear h;by_cases c3:(wrap64 (a1 - (l0.length:Int))) < 0
 ·
  rw[if_pos c3] at H;have c3b0:decide ((wrap64 (a1 - (l0.length:Int))) < 0)=true:=decide_eq_true c3;clear c3;obtain rfl:=Option.some.inj H;go_enter Try.func58,Try.ntmps58;go_wp2;go_ret
  exact ⟨by first|rfl|(simp;done)|(simp[*];done),by repeat (first|exact Drawn0.refl _|apply Drawn0.step)⟩
 ·
  rw[if_neg c3] at H;have c3b0:decide ((wrap64 (a1 - (l0.length:Int))) < 0)=false:=decide_eq_false c3;clear c3;obtain rfl:=Option.some.inj H;go_enter Try.func58,Try.ntmps58;go_wp2;go_ret
  exact ⟨by first|rfl|(simp;done)|(simp[*];done),by repeat (first|exact Drawn0.refl _|apply Drawn0.step)⟩
def laws_szParty.f (l0_0:List Int) (a0_1:Int) (a1:Int):Option (Int):=(laws_szIntS.f l0_0 a1).bind fun t102=>(if t102 < 0 then (some (-1)) else (some t102))
set_option maxHeartbeats 8000000 in
set_option maxRecDepth 100000 in
theorem laws_szParty.calls (A0_0:Option Addr) (c0_0:Nat) (l0_0:List Int) (a0_1:Int) (a1:Int) (r:Int) (w:World) (hr0_0:Kd.C (Kd.int .i64) w A0_0 l0_0.length l0_0) (hc0_0:l0_0.length≤c0_0) (h:laws_szParty.f l0_0 a0_1 a1=some r) :
  Calls Try.prog 16 #[.agg #[.slice A0_0 l0_0.length c0_0, .int .i64 a0_1], .int .i64 a1] w fun e w'=>e = .returned (.int .i64 r)∧Below w.heap.size w w':=by
 have hu24:=Try.underlying24
 have HR0_0:=am' hr0_0
 have HC0_0:=am' hc0_0
 clear hr0_0 hc0_0;have HB:=am' (Below.refl w.heap.size w)
 have H:((laws_szIntS.f l0_0 a1).bind fun t102=>(if t102 < 0 then (some (-1)) else (some t102)))=some r:=h
 clear h;replace H:=Option.bind_eq_some_iff.mp H
 obtain ⟨t102,A30,H⟩:=H
 replace H:(if t102 < 0 then (some (-1)) else (some t102))=some r:=H
 have A3:=am' A30
 clear A30;by_cases c4:t102 < 0
 ·
  rw[if_pos c4] at H;have c4b0:decide (t102 < 0)=true:=decide_eq_true c4;clear c4;obtain rfl:=Option.some.inj H;go_enter Try.func16,Try.ntmps16;go_wp2_with (first|((with_reducible refine gate_dst (N:=2) rfl ?_);refine box_event ?hg (N:=2) ?hd (cs:=#[.slice A0_0 l0_0.length c0_0, .int .i64 a0_1]) (t:=24) ?hr ?_;(case hd=>rfl);(case hg=>rfl);(case hr=>first|(go_simp;done)|(go_simp;rfl));intro gb101 hg w5 hbox hb;have n0_:=am' (below_step (by repeat (first|(with_reducible first|exact HB.out|apply ba'|apply bd'|apply be')|exact HB.out)) hb);have n1_:=am' (hbox);have n2_:=am' ((by rw[hg];exact (below_size (by repeat (first|(with_reducible first|exact HB.out|apply ba'|apply bd'|apply be')|exact HB.out))):w.heap.size≤gb101));have n3_:=am' ((by rw[hg];exact (below_size (by repeat (first|(with_reducible first|exact HB.out|apply ba'|apply bd'|apply be')|exact HB.out))):w.heap.size≤gb101));clear HB;have HB:=n0_;have BK101:=n1_;have GW101:=n2_;have GE101:=n3_;clear n0_ n1_ n2_ n3_;clear hb hbox hg;have hcz6_0:w5.cell? ⟨gb101,0,none⟩=some (.slice A0_0 l0_0.length c0_0):=(blk_cell BK101.out 0).trans rfl;have hcz6_1:w5.cell? ⟨gb101,1,none⟩=some (.int .i64 a0_1):=(blk_cell BK101.out 1).trans rfl;have hfz6_0:=blk_frozen BK101.out 0;have hfz6_1:=blk_frozen BK101.out 1)|((with_reducible refine gate_callee (f:=58) rfl ?_);refine goesL_ (some 8) rfl rfl Try.func58 (by kernel_rfl) rfl #[.slice A0_0 l0_0.length c0_0, .int .i64 a1] rfl (by (try simp only[List.map_toArray,List.map_cons,List.map_nil]);first|done|rfl|(simp only[List.length_drop,List.length_take];rfl)) ?_;(with_reducible refine (laws_szIntS.calls _ _ l0_0 a1 t102 _ ?side1 ?side2 A3.out).mono ?_);(case side1=>repeat (first|exact (Kd.C_below HR0_0.out HB.out)|(with_reducible refine ca' ?_ _)|(with_reducible refine cn' ?_ _)|(with_reducible refine cd' ?_)));(case side2=>exact HC0_0.out);rintro e w' ⟨rfl,⟨nd,rfl⟩⟩;refine ⟨_,rfl,?_⟩));go_ret
  exact ⟨by first|rfl|(simp[errW_none,errW_some] <;> rfl)|(simp[*,errW_none,errW_some] <;> rfl),by repeat (first|(with_reducible first|exact HB.out|apply ba'|apply bd'|apply be'|refine bs' ?_ GE101.out)|exact HB.out)⟩
 ·
  rw[if_neg c4] at H;have c4b0:decide (t102 < 0)=false:=decide_eq_false c4;clear c4;obtain rfl:=Option.some.inj H;go_enter Try.func16,Try.ntmps16;go_wp2_with (first|((with_reducible refine gate_dst (N:=2) rfl ?_);refine box_event ?hg (N:=2) ?hd (cs:=#[.slice A0_0 l0_0.length c0_0, .int .i64 a0_1]) (t:=24) ?hr ?_;(case hd=>rfl);(case hg=>rfl);(case hr=>first|(go_simp;done)|(go_simp;rfl));intro gb101 hg w7 hbox hb;have n0_:=am' (below_step (by repeat (first|(with_reducible first|exact HB.out|apply ba'|apply bd'|apply be')|exact HB.out)) hb);have n1_:=am' (hbox);have n2_:=am' ((by rw[hg];exact (below_size (by repeat (first|(with_reducible first|exact HB.out|apply ba'|apply bd'|apply be')|exact HB.out))):w.heap.size≤gb101));have n3_:=am' ((by rw[hg];exact (below_size (by repeat (first|(with_reducible first|exact HB.out|apply ba'|apply bd'|apply be')|exact HB.out))):w.heap.size≤gb101));clear HB;have HB:=n0_;have BK101:=n1_;have GW101:=n2_;have GE101:=n3_;clear n0_ n1_ n2_ n3_;clear hb hbox hg;have hcz8_0:w7.cell? ⟨gb101,0,none⟩=some (.slice A0_0 l0_0.length c0_0):=(blk_cell BK101.out 0).trans rfl;have hcz8_1:w7.cell? ⟨gb101,1,none⟩=some (.int .i64 a0_1):=(blk_cell BK101.out 1).trans rfl;have hfz8_0:=blk_frozen BK101.out 0;have hfz8_1:=blk_frozen BK101.out 1)|((with_reducible refine gate_callee (f:=58) rfl ?_);refine goesL_ (some 8) rfl rfl Try.func58 (by kernel_rfl) rfl #[.slice A0_0 l0_0.length c0_0, .int .i64 a1] rfl (by (try simp only[List.map_toArray,List.map_cons,List.map_nil]);first|done|rfl|(simp only[List.length_drop,List.length_take];rfl)) ?_;(with_reducible refine (laws_szIntS.calls _ _ l0_0 a1 t102 _ ?side1 ?side2 A3.out).mono ?_);(case side1=>repeat (first|exact (Kd.C_below HR0_0.out HB.out)|(with_reducible refine ca' ?_ _)|(with_reducible refine cn' ?_ _)|(with_reducible refine cd' ?_)));(case side2=>exact HC0_0.out);rintro e w' ⟨rfl,⟨nd,rfl⟩⟩;refine ⟨_,rfl,?_⟩));go_ret
  exact ⟨by first|rfl|(simp[errW_none,errW_some] <;> rfl)|(simp[*,errW_none,errW_some] <;> rfl),by repeat (first|(with_reducible first|exact HB.out|apply ba'|apply bd'|apply be'|refine bs' ?_ GE101.out)|exact HB.out)⟩
def laws_toIntS.l0:Nat→List Int→List Int→Int→Option (List Int)
 | 0,_,_,_=>none
 | k+1,x0,x3,x4=>if x4 < (x0.length:Int) then (if 0≤x4 then (if x4 < (x3.length:Int) then (laws_toIntS.l0 k x0 (x3.set (x4:Int).toNat (rd x0 x4)) (wrap64 (x4+1))) else (none)) else (none)) else (some x3)
def laws_toIntS.f (k:Nat) (l0:List Int):Option (List Int):=if 0≤(l0.length:Int) then (if ((l0.length:Int):Int).toNat≤35184372088832 then (laws_toIntS.l0 k l0 (List.replicate ((l0.length:Int):Int).toNat 0) 0) else (none)) else (none)
set_option maxHeartbeats 8000000 in
set_option maxRecDepth 100000 in
theorem laws_toIntS.calls (k:Nat) (A0:Option Addr) (c0:Nat) (l0:List Int) (r:List Int) (w:World) (hr0:Kd.C (Kd.int .i64) w A0 l0.length l0) (hc0:l0.length≤c0) (h:laws_toIntS.f k l0=some r) :
  Calls Try.prog 63 #[.slice A0 l0.length c0] w fun e w'=>∃ v0_:Value,e = .returned (v0_)∧Kd.R (Kd.int .i64) 3 w' w.heap.size (fun _=>True) v0_ r∧Below w.heap.size w w':=by
 have HR0:=am' hr0
 have HC0:=am' hc0
 clear hr0 hc0;have HB:=am' (Below.refl w.heap.size w)
 have H:(if 0≤(l0.length:Int) then (if ((l0.length:Int):Int).toNat≤35184372088832 then (laws_toIntS.l0 k l0 (List.replicate ((l0.length:Int):Int).toNat 0) 0) else (none)) else (none))=some r:=h
 clear h;by_cases c2:0≤(l0.length:Int)
 ·
  rw[if_pos c2] at H;have c2b0:=eq_true c2;have c2b1:decide (0≤(l0.length:Int))=true:=decide_eq_true c2;clear c2;by_cases c3:((l0.length:Int):Int).toNat≤35184372088832
  ·
   rw[if_pos c3] at H;have c3b0:=eq_true c3;have c3b1:decide (((l0.length:Int):Int).toNat≤35184372088832)=true:=decide_eq_true c3;clear c3;obtain ⟨y103,hy103⟩:∃ y_:List Int,y_=(List.replicate ((l0.length:Int):Int).toNat 0):=⟨_,rfl⟩
   replace H:(laws_toIntS.l0 k l0 y103 0)=some r:=by first|(rw[hy103];with_reducible exact H)|(have H2_:=(Option.bind_some _ _).symm.trans H;rw[hy103];with_reducible exact H2_)|(have H2_:=(Option.bind_some _ _).symm.trans H;with_reducible exact H2_)|with_reducible exact H|(rw[hy103];exact H)|exact H
   have Ny103:=am' hy103;clear hy103;have H':=am' H;clear H;go_enter Try.func63,Try.ntmps63;go_wp2_with (first|((with_reducible refine gate_dst (N:=7) rfl ?_);refine Kd.R_make (Kd.int .i64) _ 3 rfl (N:=7) rfl 22 _ _ rfl (l0.length:Int) rfl rfl Try.underlying22 (.int .i64 0) 8 info3 rfl (by decide) (by omega) 0 (ok:=fun _=>True) (okp:=fun _=>True) rfl (fun _ hk=>hk) trivial (of_decide_eq_true (by first|(with_reducible assumption)|assumption)) (Nat.le_trans (Nat.mul_le_mul_right _ (of_decide_eq_true (by first|(with_reducible assumption)|assumption):(l0.length:Int).toNat≤35184372088832)) (by omega)) (Below.refl _ _) (Nat.le_refl _) ?_;intro v104 w4 ho5 hb hg_ hnew_;clear hg_ hnew_;(first|rw[← Ny103.out] at ho5|(simp only[Int.reduceToNat] at ho5;rw[← Ny103.out] at ho5));have n0_:=am' (Kd.R_lower ho5 (below_size (by repeat (first|(with_reducible first|exact HB.out|apply ba'|apply bd'|apply be')|exact HB.out))));have n1_:=am' (below_step (by repeat (first|(with_reducible first|exact HB.out|apply ba'|apply bd'|apply be')|exact HB.out)) hb);clear HB;have HO105:=n0_;have HB:=n1_;clear n0_ n1_;clear hb ho5));go_loopg [4] k (fun kq v4 w'=>∃ (x3_1:List Int) (x4_1:Int),v4 = .int .i64 x4_1∧Aside0 (laws_toIntS.l0 kq l0 x3_1 x4_1=some r)∧Aside0 (kq≤k)∧Aside0 (Kd.R (Kd.int .i64) 3 w' w.heap.size (fun _=>True) v104 x3_1)∧Aside0 (Below w.heap.size w w'))
   case atStart=>exact ⟨(y103),(0),(by first|rfl|(simp;done)|(simp[*];done)),H',⟨Nat.le_refl _⟩,⟨by (with_reducible repeat (first|apply ra'|apply rn'|apply rw'));exact HO105.out⟩,⟨by repeat (first|(with_reducible first|exact HB.out|apply ba'|apply bd'|apply be')|exact HB.out)⟩⟩
   case round =>
    clear H';try clear c2
    try clear c2b0
    try clear c2b1
    try clear p2
    try clear c3
    try clear c3b0
    try clear c3b1
    obtain ⟨x3_1,x4_1,rfl,HA,HK1,HO_3,HB⟩:=hrel;cases gk with
    | zero=>exact absurd HA.out (by simp[laws_toIntS.l0])
    | succ k1 =>
     have H:=HA.out;clear HA;simp only[laws_toIntS.l0] at H;by_cases c6:x4_1 < (l0.length:Int)
     ·
      rw[if_pos c6] at H;have c6b0:decide (x4_1 < (l0.length:Int))=true:=decide_eq_true c6;clear c6;by_cases c7:0≤x4_1
      ·
       rw[if_pos c7] at H;have c7b0:decide (0≤x4_1)=true:=decide_eq_true c7;clear c7;by_cases c8:x4_1 < (x3_1.length:Int)
       ·
        rw[if_pos c8] at H;have c8b0:decide (x4_1 < (x3_1.length:Int))=true:=decide_eq_true c8;clear c8;obtain ⟨y107,hy107⟩:∃ y_:List Int,y_=(x3_1.set (x4_1:Int).toNat (rd l0 x4_1)):=⟨_,rfl⟩
        replace H:(laws_toIntS.l0 k1 l0 y107 (wrap64 (x4_1+1)))=some r:=by first|(rw[hy107];with_reducible exact H)|(have H2_:=(Option.bind_some _ _).symm.trans H;rw[hy107];with_reducible exact H2_)|(have H2_:=(Option.bind_some _ _).symm.trans H;with_reducible exact H2_)|with_reducible exact H|(rw[hy107];exact H)|exact H
        have Ny107:=am' hy107;clear hy107;have H':=am' H;clear H;have p106:0≤(x4_1:Int):=of_decide_eq_true (by first|(with_reducible assumption)|assumption);have q106:x4_1 < (l0.length:Int):=of_decide_eq_true (by first|(with_reducible assumption)|assumption);obtain ⟨ad106,e106,hx106_0⟩:=Kd.at_int HR0.out x4_1 p106 q106;cases e106;replace hx106_0:=(HB.out.cell (bl' w _ hx106_0)).trans hx106_0;replace p106:=eq_true p106;replace q106:=eq_true q106;have p9:0≤(x4_1:Int):=of_decide_eq_true (by first|(with_reducible assumption)|assumption);have q9:(x4_1:Int) < ((x3_1.length:Int):Int):=of_decide_eq_true (by first|(with_reducible assumption)|assumption);obtain ⟨go9,co9,eo9,gb9,gl9,cl9,HG9⟩:=Kd.R_form HO_3.out (by omega)
        (first|cases eo9|(injection eo9 with ea_ en_ ec_;(first|subst ea_|(injection ea_ with ea_;subst ea_));subst ec_;clear en_))
        have GB9:=am' gb9;have GG9:=am' HG9;clear gb9 gl9 HG9;obtain ⟨hx9_0,hf9_0⟩:=Kd.R_celln 0 HO_3.out (x4_1:Int) p9 q9;replace p9:=eq_true p9;replace q9:=eq_true q9;have HP10:=Kd.R_putg HO_3.out (x4_1:Int) (rd l0 x4_1);go_wp2_with (first|((with_reducible refine gate_store (t:=3) (p:=20) rfl ?_);refine store_event (t:=3) (p:=20) (v:=?vo_w11) (w1:=(wr.setCell ⟨go9,(x4_1:Int).toNat,none⟩ (.int .i64 (rd l0 x4_1)))) ?hg ?ho ?hn ?hr ?_;(case ho=>rfl);(case hg=>rfl);(case hn=>rfl);(case hr=>first|(go_simp;done)|(go_simp;rfl));intro w11 hw;have hg:wr.grownBy w11 (some go9):=(by rw[hw];exact HP10.2);have hp_:Kd.R (Kd.int .i64) 3 w11 w.heap.size (fun _=>True) (.slice (some ⟨go9,0,none⟩) x3_1.length co9) y107:=(by rw[hw,Ny107.out];exact HP10.1);clear HP10;have n0_:=am' (hp_);have n1_:=am' ((by rw[hw];exact bs' (HB.out) GB9.out:Below w.heap.size w w11));clear HO_3;clear HB;have HO_3:=n0_;have HB:=n1_;clear n0_ n1_;clear hg hw hp_));go_roundg k1
        case measure=>have:=HK1.out;omega
        case rel=>exact ⟨(y107),(wrap64 (x4_1+1)),(by first|rfl|(simp;done)|(simp[*];done)),H',⟨by have:=HK1.out;omega⟩,⟨by (with_reducible repeat (first|apply ra'|apply rn'|apply rw'));exact HO_3.out⟩,⟨by repeat (first|(with_reducible first|exact HB.out|apply ba'|apply bd'|apply be')|exact HB.out)⟩⟩
       ·
        rw[if_neg c8] at H;exact absurd H (by simp)
      ·
       rw[if_neg c7] at H;exact absurd H (by simp)
     ·
      rw[if_neg c6] at H;have c6b0:decide (x4_1 < (l0.length:Int))=false:=decide_eq_false c6;clear c6;obtain rfl:=Option.some.inj H;go_wp2;go_ret
      exact ⟨_,by first|rfl|(simp[errW_none,errW_some] <;> rfl)|(simp[*,errW_none,errW_some] <;> rfl),by (with_reducible repeat (first|apply ra'|apply rn'|apply rw'));exact HO_3.out,by repeat (first|(with_reducible first|exact HB.out|apply ba'|apply bd'|apply be')|exact HB.out)⟩
  ·
   rw[if_neg c3] at H;exact absurd H (by simp)
 ·
  rw[if_neg c2] at H;exact absurd H (by simp)
def laws_toParty.f (k:Nat) (l0_0:List Int) (a0_1:Int):Option (List Int × Int):=(laws_toIntS.f k l0_0).bind fun t111=>(some (t111,a0_1))
set_option maxHeartbeats 8000000 in
set_option maxRecDepth 100000 in
theorem laws_toParty.calls (k:Nat) (A0_0:Option Addr) (c0_0:Nat) (l0_0:List Int) (a0_1:Int) (r1:List Int) (r2:Int) (w:World) (hr0_0:Kd.C (Kd.int .i64) w A0_0 l0_0.length l0_0) (hc0_0:l0_0.length≤c0_0) (h:laws_toParty.f k l0_0 a0_1=some (r1,r2)) :
  Calls Try.prog 18 #[.agg #[.slice A0_0 l0_0.length c0_0, .int .i64 a0_1]] w fun e w'=>∃ v0_:Value,e = .returned (.agg #[v0_, .int .i64 r2])∧Kd.R (Kd.int .i64) 3 w' w.heap.size (fun _=>True) v0_ r1∧Below w.heap.size w w':=by
 have hu24:=Try.underlying24
 have hu28:=Try.underlying28
 have HR0_0:=am' hr0_0
 have HC0_0:=am' hc0_0
 clear hr0_0 hc0_0;have HB:=am' (Below.refl w.heap.size w)
 have H:((laws_toIntS.f k l0_0).bind fun t111=>(some (t111,a0_1)))=some (r1,r2):=h
 clear h;replace H:=Option.bind_eq_some_iff.mp H
 obtain ⟨t111,A20,H⟩:=H
 replace H:(some (t111,a0_1))=some (r1,r2):=H
 have A2:=am' A20
 clear A20;simp only[Option.some.injEq,Prod.mk.injEq] at H
 obtain ⟨rfl,rfl⟩:=H
 go_enter Try.func18,Try.ntmps18
 go_wp2_with (first|((with_reducible refine gate_dst (N:=1) rfl ?_);refine box_event ?hg (N:=1) ?hd (cs:=#[.slice A0_0 l0_0.length c0_0, .int .i64 a0_1]) (t:=24) ?hr ?_;(case hd=>rfl);(case hg=>rfl);(case hr=>first|(go_simp;done)|(go_simp;rfl));intro gb108 hg w3 hbox hb;have n0_:=am' (below_step (by repeat (first|(with_reducible first|exact HB.out|apply ba'|apply bd'|apply be')|exact HB.out)) hb);have n1_:=am' (hbox);have n2_:=am' ((by rw[hg];exact (below_size (by repeat (first|(with_reducible first|exact HB.out|apply ba'|apply bd'|apply be')|exact HB.out))):w.heap.size≤gb108));have n3_:=am' ((by rw[hg];exact (below_size (by repeat (first|(with_reducible first|exact HB.out|apply ba'|apply bd'|apply be')|exact HB.out))):w.heap.size≤gb108));clear HB;have HB:=n0_;have BK108:=n1_;have GW108:=n2_;have GE108:=n3_;clear n0_ n1_ n2_ n3_;clear hb hbox hg)|((with_reducible refine gate_dst (N:=2) rfl ?_);refine box_event ?hg (N:=2) ?hd (cs:=#[.slice none 0 0, .int .i64 0]) (t:=28) ?hr ?_;(case hd=>rfl);(case hg=>rfl);(case hr=>first|(go_simp;done)|(go_simp;rfl));intro gb109 hg w4 hbox hb;have n0_:=am' (blk_below (g:=gb108) (o := .cells #[.slice A0_0 l0_0.length c0_0, .int .i64 a0_1] 24 (0,0)) (by (with_reducible repeat (first|refine kn' ?_ _|refine kd' ?_|refine ka' ?_ _));exact BK108.out) hb);have n1_:=am' (below_step (by repeat (first|(with_reducible first|exact HB.out|apply ba'|apply bd'|apply be'|refine bs' ?_ GE108.out)|exact HB.out)) hb);have n2_:=am' (hbox);have n3_:=am' ((by rw[hg];exact (below_size (by repeat (first|(with_reducible first|exact HB.out|apply ba'|apply bd'|apply be'|refine bs' ?_ GE108.out)|exact HB.out))):w.heap.size≤gb109));have n4_:=am' ((by rw[hg];exact (below_size (by repeat (first|(with_reducible first|exact HB.out|apply ba'|apply bd'|apply be'|refine bs' ?_ GE108.out)|exact HB.out))):w.heap.size≤gb109));have n5_:=am' ((by rw[hg];exact Nat.ne_of_lt (blk_lt (g:=gb108) (o := .cells #[.slice A0_0 l0_0.length c0_0, .int .i64 a0_1] 24 (0,0)) (by (with_reducible repeat (first|refine kn' ?_ _|refine kd' ?_|refine ka' ?_ _));exact BK108.out)):gb108≠gb109));have n6_:=am' ((by rw[hg];exact Nat.ne_of_gt (blk_lt (g:=gb108) (o := .cells #[.slice A0_0 l0_0.length c0_0, .int .i64 a0_1] 24 (0,0)) (by (with_reducible repeat (first|refine kn' ?_ _|refine kd' ?_|refine ka' ?_ _));exact BK108.out)):gb109≠gb108));clear BK108;clear HB;have BK108:=n0_;have HB:=n1_;have BK109:=n2_;have GW109:=n3_;have GE109:=n4_;have NB108_109:=n5_;have NB109_108:=n6_;clear n0_ n1_ n2_ n3_ n4_ n5_ n6_;clear hb hbox hg)|((with_reducible refine gate_dst (N:=3) rfl ?_);refine box_event ?hg (N:=3) ?hd (cs:=#[.slice none 0 0, .int .i64 0]) (t:=28) ?hr ?_;(case hd=>rfl);(case hg=>rfl);(case hr=>first|(go_simp;done)|(go_simp;rfl));intro gb110 hg w5 hbox hb;have n0_:=am' (blk_below (g:=gb108) (o := .cells #[.slice A0_0 l0_0.length c0_0, .int .i64 a0_1] 24 (0,0)) (by (with_reducible repeat (first|refine kn' ?_ _|refine kd' ?_|refine ka' ?_ _));exact BK108.out) hb);have n1_:=am' (blk_below (g:=gb109) (o := .cells #[.slice none 0 0, .int .i64 0] 28 (0,0)) (by (with_reducible repeat (first|refine kn' ?_ _|refine kd' ?_|refine ka' ?_ _));exact BK109.out) hb);have n2_:=am' (below_step (by repeat (first|(with_reducible first|exact HB.out|apply ba'|apply bd'|apply be'|refine bs' ?_ GE108.out|refine bs' ?_ GE109.out)|exact HB.out)) hb);have n3_:=am' (hbox);have n4_:=am' ((by rw[hg];exact (below_size (by repeat (first|(with_reducible first|exact HB.out|apply ba'|apply bd'|apply be'|refine bs' ?_ GE108.out|refine bs' ?_ GE109.out)|exact HB.out))):w.heap.size≤gb110));have n5_:=am' ((by rw[hg];exact (below_size (by repeat (first|(with_reducible first|exact HB.out|apply ba'|apply bd'|apply be'|refine bs' ?_ GE108.out|refine bs' ?_ GE109.out)|exact HB.out))):w.heap.size≤gb110));have n6_:=am' ((by rw[hg];exact Nat.ne_of_lt (blk_lt (g:=gb108) (o := .cells #[.slice A0_0 l0_0.length c0_0, .int .i64 a0_1] 24 (0,0)) (by (with_reducible repeat (first|refine kn' ?_ _|refine kd' ?_|refine ka' ?_ _));exact BK108.out)):gb108≠gb110));have n7_:=am' ((by rw[hg];exact Nat.ne_of_gt (blk_lt (g:=gb108) (o := .cells #[.slice A0_0 l0_0.length c0_0, .int .i64 a0_1] 24 (0,0)) (by (with_reducible repeat (first|refine kn' ?_ _|refine kd' ?_|refine ka' ?_ _));exact BK108.out)):gb110≠gb108));have n8_:=am' ((by rw[hg];exact Nat.ne_of_lt (blk_lt (g:=gb109) (o := .cells #[.slice none 0 0, .int .i64 0] 28 (0,0)) (by (with_reducible repeat (first|refine kn' ?_ _|refine kd' ?_|refine ka' ?_ _));exact BK109.out)):gb109≠gb110));have n9_:=am' ((by rw[hg];exact Nat.ne_of_gt (blk_lt (g:=gb109) (o := .cells #[.slice none 0 0, .int .i64 0] 28 (0,0)) (by (with_reducible repeat (first|refine kn' ?_ _|refine kd' ?_|refine ka' ?_ _));exact BK109.out)):gb110≠gb109));clear BK108;clear BK109;clear HB;have BK108:=n0_;have BK109:=n1_;have HB:=n2_;have BK110:=n3_;have GW110:=n4_;have GE110:=n5_;have NB108_110:=n6_;have NB110_108:=n7_;have NB109_110:=n8_;have NB110_109:=n9_;clear n0_ n1_ n2_ n3_ n4_ n5_ n6_ n7_ n8_ n9_;clear hb hbox hg;have hnb6:=NB108_109.out;have hnc6:=NB109_108.out;have hnb7:=NB108_110.out;have hnc7:=NB110_108.out;have hcz8_0:w5.cell? ⟨gb108,0,none⟩=some (.slice A0_0 l0_0.length c0_0):=(blk_cell BK108.out 0).trans rfl;have hcz8_1:w5.cell? ⟨gb108,1,none⟩=some (.int .i64 a0_1):=(blk_cell BK108.out 1).trans rfl;have hfz8_0:=blk_frozen BK108.out 0;have hfz8_1:=blk_frozen BK108.out 1)|((with_reducible refine gate_callee (f:=63) rfl ?_);refine goesL_ (some 6) rfl rfl Try.func63 (by kernel_rfl) rfl #[.slice A0_0 l0_0.length c0_0] rfl (by (try simp only[List.map_toArray,List.map_cons,List.map_nil]);first|done|rfl|(simp only[List.length_drop,List.length_take];rfl)) ?_;(with_reducible refine (laws_toIntS.calls k _ _ l0_0 t111 _ ?side1 ?side2 A2.out).mono ?_);(case side1=>repeat (first|exact (Kd.C_below HR0_0.out HB.out)|(with_reducible refine ca' ?_ _)|(with_reducible refine cn' ?_ _)|(with_reducible refine cd' ?_)));(case side2=>exact HC0_0.out);rintro e w9 ⟨v112,rfl,ho0,hb⟩;refine ⟨_,rfl,?_⟩;have n0_:=am' (Kd.R_lower ho0 (below_size (by repeat (first|(with_reducible first|exact HB.out|apply ba'|apply bd'|apply be'|refine bs' ?_ GE108.out|refine bs' ?_ GE109.out|refine bs' ?_ GE110.out)|exact HB.out))));have n1_:=am' (blk_below (g:=gb108) (o := .cells #[.slice A0_0 l0_0.length c0_0, .int .i64 a0_1] 24 (0,0)) (by (with_reducible repeat (first|refine kn' ?_ _|refine kd' ?_|refine ka' ?_ _));exact BK108.out) hb);have n2_:=am' (blk_below (g:=gb109) (o := .cells #[.slice none 0 0, .int .i64 0] 28 (0,0)) (by (with_reducible repeat (first|refine kn' ?_ _|refine kd' ?_|refine ka' ?_ _));exact BK109.out) hb);have n3_:=am' (blk_below (g:=gb110) (o := .cells #[.slice none 0 0, .int .i64 0] 28 (0,0)) (by (with_reducible repeat (first|refine kn' ?_ _|refine kd' ?_|refine ka' ?_ _));exact BK110.out) hb);have n4_:=am' (below_step (by repeat (first|(with_reducible first|exact HB.out|apply ba'|apply bd'|apply be'|refine bs' ?_ GE108.out|refine bs' ?_ GE109.out|refine bs' ?_ GE110.out)|exact HB.out)) hb);clear BK108;clear BK109;clear BK110;clear HB;have HO113:=n0_;have BK108:=n1_;have BK109:=n2_;have BK110:=n3_;have HB:=n4_;clear n0_ n1_ n2_ n3_ n4_;(try clear hb);(try clear hb2);(try clear hk);(try clear hi);(try clear ho0);obtain ⟨Ao10,co10,eo10⟩:=Kd.R_slice HO113.out;subst eo10;have hnb11:=NB110_109.out;have hnc11:=NB109_110.out;have hcz12_0:w9.cell? ⟨gb110,0,none⟩=some (.slice none 0 0):=(blk_cell BK110.out 0).trans rfl;have hcz12_1:w9.cell? ⟨gb110,1,none⟩=some (.int .i64 0):=(blk_cell BK110.out 1).trans rfl;have hfz12_0:=blk_frozen BK110.out 0;have hfz12_1:=blk_frozen BK110.out 1;have hcz13_0:w9.cell? ⟨gb108,0,none⟩=some (.slice A0_0 l0_0.length c0_0):=(blk_cell BK108.out 0).trans rfl;have hcz13_1:w9.cell? ⟨gb108,1,none⟩=some (.int .i64 a0_1):=(blk_cell BK108.out 1).trans rfl;have hfz13_0:=blk_frozen BK108.out 0;have hfz13_1:=blk_frozen BK108.out 1;have hcz14_0:w9.cell? ⟨gb109,0,none⟩=some (.slice none 0 0):=(blk_cell BK109.out 0).trans rfl;have hcz14_1:w9.cell? ⟨gb109,1,none⟩=some (.int .i64 0):=(blk_cell BK109.out 1).trans rfl;have hfz14_0:=blk_frozen BK109.out 0;have hfz14_1:=blk_frozen BK109.out 1))
 refine bodyPost_ret (results_cell_row rfl _ _ gb109 28 #[.slice Ao10 t111.length co10, .int .i64 a0_1] (0,0) _ rfl (by (with_reducible repeat (first|refine kn' ?_ _|refine kd' ?_|refine ka' ?_ _));refine blk_put (cs:=#[.slice Ao10 t111.length co10, .int .i64 0]) ?_ 1 _ rfl;(with_reducible repeat (first|refine kn' ?_ _|refine kd' ?_|refine ka' ?_ _));refine blk_put (cs:=#[.slice none 0 0, .int .i64 0]) ?_ 0 _ rfl;(with_reducible repeat (first|refine kn' ?_ _|refine kd' ?_|refine ka' ?_ _));refine blk_far ?_ NB109_110.out _;(with_reducible repeat (first|refine kn' ?_ _|refine kd' ?_|refine ka' ?_ _));refine blk_far ?_ NB109_110.out _;(with_reducible repeat (first|refine kn' ?_ _|refine kd' ?_|refine ka' ?_ _));exact BK109.out) Try.underlying28 rfl (by kernel_rfl)) rfl ?_
 exact ⟨_,by first|rfl|(simp[errW_none,errW_some] <;> rfl)|(simp[*,errW_none,errW_some] <;> rfl),by (with_reducible repeat (first|apply ra'|apply rn'|apply rw'));exact Kd.R_mono (Kd.R_far (p:=⟨gb109,1,none⟩) (Kd.R_far (p:=⟨gb109,0,none⟩) (Kd.R_far (p:=⟨gb110,1,none⟩) (Kd.R_far (p:=⟨gb110,0,none⟩) (Kd.R_types (Kd.R_types HO113.out BK110.out (by decide)) BK109.out (by decide)) (fun _ hk=>hk.1.2) (.slice Ao10 t111.length co10)) (fun _ hk=>hk.1.2) (.int .i64 a0_1)) (fun _ hk=>hk.2) (.slice Ao10 t111.length co10)) (fun _ hk=>hk.2) (.int .i64 a0_1)) (fun _ hk=>trivial),by repeat (first|(with_reducible first|exact HB.out|apply ba'|apply bd'|apply be'|refine bs' ?_ GE108.out|refine bs' ?_ GE109.out|refine bs' ?_ GE110.out)|exact HB.out)⟩
def laws_eqIntS.l0:Nat→List Int→List Int→Int→Option (Bool)
 | 0,_,_,_=>none
 | k+1,x0,x1,x5=>if x5 < (x0.length:Int) then (if 0≤x5 then (if x5 < (x1.length:Int) then (if (rd x0 x5)=(rd x1 x5) then (laws_eqIntS.l0 k x0 x1 (wrap64 (x5+1))) else (some false)) else (none)) else (none)) else (some true)
def laws_eqIntS.f (k:Nat) (l0:List Int) (l1:List Int):Option (Bool):=if (l0.length:Int)=(l1.length:Int) then (laws_eqIntS.l0 k l0 l1 0) else (some false)
set_option maxHeartbeats 8000000 in
set_option maxRecDepth 100000 in
theorem laws_eqIntS.calls (k:Nat) (A0:Option Addr) (c0:Nat) (l0:List Int) (A1:Option Addr) (c1:Nat) (l1:List Int) (r:Bool) (w:World) (hr0:Kd.C (Kd.int .i64) w A0 l0.length l0) (hc0:l0.length≤c0) (hr1:Kd.C (Kd.int .i64) w A1 l1.length l1) (hc1:l1.length≤c1) (h:laws_eqIntS.f k l0 l1=some r) :
  Calls Try.prog 31 #[.slice A0 l0.length c0, .slice A1 l1.length c1] w fun e w'=>e = .returned (.bool r)∧Drawn0 w w':=by
 have HR0:=am' hr0
 have HC0:=am' hc0
 clear hr0 hc0;have HR1:=am' hr1
 have HC1:=am' hc1
 clear hr1 hc1;have H:(if (l0.length:Int)=(l1.length:Int) then (laws_eqIntS.l0 k l0 l1 0) else (some false))=some r:=h
 clear h;by_cases c3:(l0.length:Int)=(l1.length:Int)
 ·
  rw[if_pos c3] at H;have c3b0:((l0.length:Int) == (l1.length:Int))=true:=beq_iff_eq.mpr c3;have c3b1:((l0.length:Int) != (l1.length:Int))=false:=bne_eq_false_iff_eq.mpr c3;have c3b2:(l0.length == l1.length)=true:=by first|simpa using c3|(simp at c3 ⊢;omega)
  clear c3;have H':=am' H;clear H;go_enter Try.func31,Try.ntmps31;go_wp2
  repeat (go_quiet (fail);try go_wp2)
  go_loopg [5] k (fun kq v5 w'=>∃ (x5_1:Int),v5 = .int .i64 x5_1∧Aside0 (laws_eqIntS.l0 kq l0 l1 x5_1=some r)∧Aside0 (kq≤k)∧Drawn0 w w')
  case atStart=>exact ⟨(0),(by first|rfl|(simp;done)|(simp[*];done)),H',⟨Nat.le_refl _⟩,by repeat (first|exact Drawn0.refl _|apply Drawn0.step)⟩
  case round =>
   clear H';try clear c1
   try clear p2
   try clear c3
   try clear c3b0
   try clear c3b1
   try clear c3b2
   obtain ⟨x5_1,rfl,HA,HK1,⟨m1,rfl⟩⟩:=hrel;cases gk with
   | zero=>exact absurd HA.out (by simp[laws_eqIntS.l0])
   | succ k1 =>
    have H:=HA.out;clear HA;simp only[laws_eqIntS.l0] at H;by_cases c4:x5_1 < (l0.length:Int)
    ·
     rw[if_pos c4] at H;have c4b0:decide (x5_1 < (l0.length:Int))=true:=decide_eq_true c4;clear c4;by_cases c5:0≤x5_1
     ·
      rw[if_pos c5] at H;have c5b0:decide (0≤x5_1)=true:=decide_eq_true c5;clear c5;by_cases c6:x5_1 < (l1.length:Int)
      ·
       rw[if_pos c6] at H;have c6b0:decide (x5_1 < (l1.length:Int))=true:=decide_eq_true c6;clear c6;by_cases c7:(rd l0 x5_1)=(rd l1 x5_1)
       ·
        rw[if_pos c7] at H;have c7b0:((rd l0 x5_1) == (rd l1 x5_1))=true:=beq_iff_eq.mpr c7;have c7b1:((rd l0 x5_1) != (rd l1 x5_1))=false:=bne_eq_false_iff_eq.mpr c7;clear c7;have H':=am' H;clear H;have p114:0≤(x5_1:Int):=of_decide_eq_true (by first|(with_reducible assumption)|assumption);have q114:x5_1 < (l0.length:Int):=of_decide_eq_true (by first|(with_reducible assumption)|assumption);obtain ⟨ad114,e114,hx114_0⟩:=Kd.at_int HR0.out x5_1 p114 q114;cases e114;replace p114:=eq_true p114;replace q114:=eq_true q114;have p115:0≤(x5_1:Int):=of_decide_eq_true (by first|(with_reducible assumption)|assumption);have q115:x5_1 < (l1.length:Int):=of_decide_eq_true (by first|(with_reducible assumption)|assumption);obtain ⟨ad115,e115,hx115_0⟩:=Kd.at_int HR1.out x5_1 p115 q115;cases e115;replace p115:=eq_true p115;replace q115:=eq_true q115;go_wp2
        repeat (go_quiet (fail);try go_wp2)
        go_roundg k1
        case measure=>have:=HK1.out;omega
        case rel=>exact ⟨(wrap64 (x5_1+1)),(by first|rfl|(simp;done)|(simp[*];done)),H',⟨by have:=HK1.out;omega⟩,by repeat (first|exact Drawn0.refl _|apply Drawn0.step)⟩
       ·
        rw[if_neg c7] at H;have c7b0:((rd l0 x5_1) == (rd l1 x5_1))=false:=beq_eq_false_iff_ne.mpr c7;have c7b1:((rd l0 x5_1) != (rd l1 x5_1))=true:=bne_iff_ne.mpr c7;obtain rfl:=Option.some.inj H;have p114:0≤(x5_1:Int):=of_decide_eq_true (by first|(with_reducible assumption)|assumption);have q114:x5_1 < (l0.length:Int):=of_decide_eq_true (by first|(with_reducible assumption)|assumption);obtain ⟨ad114,e114,hx114_0⟩:=Kd.at_int HR0.out x5_1 p114 q114;cases e114;replace p114:=eq_true p114;replace q114:=eq_true q114;have p115:0≤(x5_1:Int):=of_decide_eq_true (by first|(with_reducible assumption)|assumption);have q115:x5_1 < (l1.length:Int):=of_decide_eq_true (by first|(with_reducible assumption)|assumption);obtain ⟨ad115,e115,hx115_0⟩:=Kd.at_int HR1.out x5_1 p115 q115;cases e115;replace p115:=eq_true p115;replace q115:=eq_true q115;go_wp2
        repeat (go_quiet (fail);try go_wp2)
        go_ret
        exact ⟨by first|rfl|(simp;done)|(simp[*];done),by repeat (first|exact Drawn0.refl _|apply Drawn0.step)⟩
      ·
       rw[if_neg c6] at H;exact absurd H (by simp)
     ·
      rw[if_neg c5] at H;exact absurd H (by simp)
    ·
     rw[if_neg c4] at H;have c4b0:decide (x5_1 < (l0.length:Int))=false:=decide_eq_false c4;clear c4;obtain rfl:=Option.some.inj H;go_wp2
     repeat (go_quiet (fail);try go_wp2)
     go_ret
     exact ⟨by first|rfl|(simp;done)|(simp[*];done),by repeat (first|exact Drawn0.refl _|apply Drawn0.step)⟩
 ·
  rw[if_neg c3] at H;have c3b0:((l0.length:Int) == (l1.length:Int))=false:=beq_eq_false_iff_ne.mpr c3;have c3b1:((l0.length:Int) != (l1.length:Int))=true:=bne_iff_ne.mpr c3;have c3b2:(l0.length == l1.length)=false:=by first|simpa using c3|(simp at c3 ⊢;omega)
  obtain rfl:=Option.some.inj H;go_enter Try.func31,Try.ntmps31;go_wp2
  repeat (go_quiet (fail);try go_wp2)
  go_ret
  exact ⟨by first|rfl|(simp;done)|(simp[*];done),by repeat (first|exact Drawn0.refl _|apply Drawn0.step)⟩
def laws_eqParty.f (k:Nat) (l0_0:List Int) (a0_1:Int) (l1_0:List Int) (a1_1:Int):Option (Bool):=(laws_eqIntS.f k l0_0 l1_0).bind fun t118=>(if t118=true then (if a0_1=a1_1 then (some true) else (some false)) else (some false))
set_option maxHeartbeats 8000000 in
set_option maxRecDepth 100000 in
theorem laws_eqParty.calls (k:Nat) (A0_0:Option Addr) (c0_0:Nat) (l0_0:List Int) (a0_1:Int) (A1_0:Option Addr) (c1_0:Nat) (l1_0:List Int) (a1_1:Int) (r:Bool) (w:World) (hr0_0:Kd.C (Kd.int .i64) w A0_0 l0_0.length l0_0) (hc0_0:l0_0.length≤c0_0) (hr1_0:Kd.C (Kd.int .i64) w A1_0 l1_0.length l1_0) (hc1_0:l1_0.length≤c1_0) (h:laws_eqParty.f k l0_0 a0_1 l1_0 a1_1=some r) :
  Calls Try.prog 20 #[.agg #[.slice A0_0 l0_0.length c0_0, .int .i64 a0_1], .agg #[.slice A1_0 l1_0.length c1_0, .int .i64 a1_1]] w fun e w'=>e = .returned (.bool r)∧Below w.heap.size w w':=by
 have hu28:=Try.underlying28
 have HR0_0:=am' hr0_0
 have HC0_0:=am' hc0_0
 clear hr0_0 hc0_0;have HR1_0:=am' hr1_0
 have HC1_0:=am' hc1_0
 clear hr1_0 hc1_0;have HB:=am' (Below.refl w.heap.size w)
 have H:((laws_eqIntS.f k l0_0 l1_0).bind fun t118=>(if t118=true then (if a0_1=a1_1 then (some true) else (some false)) else (some false)))=some r:=h
 clear h;replace H:=Option.bind_eq_some_iff.mp H
 obtain ⟨t118,A30,H⟩:=H
 replace H:(if t118=true then (if a0_1=a1_1 then (some true) else (some false)) else (some false))=some r:=H
 have A3:=am' A30
 clear A30;by_cases c4:t118=true
 ·
  subst c4;have H1:(if a0_1=a1_1 then (some true) else (some false))=some r:=by rw[if_pos rfl] at H;exact H
  clear H;have H:=H1;clear H1;by_cases c5:a0_1=a1_1
  ·
   rw[if_pos c5] at H;have c5b0:(a0_1 == a1_1)=true:=beq_iff_eq.mpr c5;have c5b1:(a0_1 != a1_1)=false:=bne_eq_false_iff_eq.mpr c5;clear c5;obtain rfl:=Option.some.inj H;go_enter Try.func20,Try.ntmps20;go_wp2_with (first|((with_reducible refine gate_dst (N:=2) rfl ?_);refine box_event ?hg (N:=2) ?hd (cs:=#[.slice A0_0 l0_0.length c0_0, .int .i64 a0_1]) (t:=28) ?hr ?_;(case hd=>rfl);(case hg=>rfl);(case hr=>first|(go_simp;done)|(go_simp;rfl));intro gb116 hg w6 hbox hb;have n0_:=am' (below_step (by repeat (first|(with_reducible first|exact HB.out|apply ba'|apply bd'|apply be')|exact HB.out)) hb);have n1_:=am' (hbox);have n2_:=am' ((by rw[hg];exact (below_size (by repeat (first|(with_reducible first|exact HB.out|apply ba'|apply bd'|apply be')|exact HB.out))):w.heap.size≤gb116));have n3_:=am' ((by rw[hg];exact (below_size (by repeat (first|(with_reducible first|exact HB.out|apply ba'|apply bd'|apply be')|exact HB.out))):w.heap.size≤gb116));clear HB;have HB:=n0_;have BK116:=n1_;have GW116:=n2_;have GE116:=n3_;clear n0_ n1_ n2_ n3_;clear hb hbox hg)|((with_reducible refine gate_dst (N:=3) rfl ?_);refine box_event ?hg (N:=3) ?hd (cs:=#[.slice A1_0 l1_0.length c1_0, .int .i64 a1_1]) (t:=28) ?hr ?_;(case hd=>rfl);(case hg=>rfl);(case hr=>first|(go_simp;done)|(go_simp;rfl));intro gb117 hg w7 hbox hb;have n0_:=am' (blk_below (g:=gb116) (o := .cells #[.slice A0_0 l0_0.length c0_0, .int .i64 a0_1] 28 (0,0)) (by (with_reducible repeat (first|refine kn' ?_ _|refine kd' ?_|refine ka' ?_ _));exact BK116.out) hb);have n1_:=am' (below_step (by repeat (first|(with_reducible first|exact HB.out|apply ba'|apply bd'|apply be'|refine bs' ?_ GE116.out)|exact HB.out)) hb);have n2_:=am' (hbox);have n3_:=am' ((by rw[hg];exact (below_size (by repeat (first|(with_reducible first|exact HB.out|apply ba'|apply bd'|apply be'|refine bs' ?_ GE116.out)|exact HB.out))):w.heap.size≤gb117));have n4_:=am' ((by rw[hg];exact (below_size (by repeat (first|(with_reducible first|exact HB.out|apply ba'|apply bd'|apply be'|refine bs' ?_ GE116.out)|exact HB.out))):w.heap.size≤gb117));have n5_:=am' ((by rw[hg];exact Nat.ne_of_lt (blk_lt (g:=gb116) (o := .cells #[.slice A0_0 l0_0.length c0_0, .int .i64 a0_1] 28 (0,0)) (by (with_reducible repeat (first|refine kn' ?_ _|refine kd' ?_|refine ka' ?_ _));exact BK116.out)):gb116≠gb117));have n6_:=am' ((by rw[hg];exact Nat.ne_of_gt (blk_lt (g:=gb116) (o := .cells #[.slice A0_0 l0_0.length c0_0, .int .i64 a0_1] 28 (0,0)) (by (with_reducible repeat (first|refine kn' ?_ _|refine kd' ?_|refine ka' ?_ _));exact BK116.out)):gb117≠gb116));clear BK116;clear HB;have BK116:=n0_;have HB:=n1_;have BK117:=n2_;have GW117:=n3_;have GE117:=n4_;have NB116_117:=n5_;have NB117_116:=n6_;clear n0_ n1_ n2_ n3_ n4_ n5_ n6_;clear hb hbox hg;have hnb8:=NB116_117.out;have hnc8:=NB117_116.out;have hcz9_0:w7.cell? ⟨gb116,0,none⟩=some (.slice A0_0 l0_0.length c0_0):=(blk_cell BK116.out 0).trans rfl;have hcz9_1:w7.cell? ⟨gb116,1,none⟩=some (.int .i64 a0_1):=(blk_cell BK116.out 1).trans rfl;have hfz9_0:=blk_frozen BK116.out 0;have hfz9_1:=blk_frozen BK116.out 1;have hcz10_0:w7.cell? ⟨gb117,0,none⟩=some (.slice A1_0 l1_0.length c1_0):=(blk_cell BK117.out 0).trans rfl;have hcz10_1:w7.cell? ⟨gb117,1,none⟩=some (.int .i64 a1_1):=(blk_cell BK117.out 1).trans rfl;have hfz10_0:=blk_frozen BK117.out 0;have hfz10_1:=blk_frozen BK117.out 1)|((with_reducible refine gate_callee (f:=31) rfl ?_);refine goesL_ (some 9) rfl rfl Try.func31 (by kernel_rfl) rfl #[.slice A0_0 l0_0.length c0_0, .slice A1_0 l1_0.length c1_0] rfl (by (try simp only[List.map_toArray,List.map_cons,List.map_nil]);first|done|rfl|(simp only[List.length_drop,List.length_take];rfl)) ?_;(with_reducible refine (laws_eqIntS.calls k _ _ l0_0 _ _ l1_0 true _ ?side1 ?side2 ?side3 ?side4 A3.out).mono ?_);(case side1=>repeat (first|exact (Kd.C_below HR0_0.out HB.out)|(with_reducible refine ca' ?_ _)|(with_reducible refine cn' ?_ _)|(with_reducible refine cd' ?_)));(case side2=>exact HC0_0.out);(case side3=>repeat (first|exact (Kd.C_below HR1_0.out HB.out)|(with_reducible refine ca' ?_ _)|(with_reducible refine cn' ?_ _)|(with_reducible refine cd' ?_)));(case side4=>exact HC1_0.out);rintro e w' ⟨rfl,⟨nd,rfl⟩⟩;refine ⟨_,rfl,?_⟩))
   go_ret
   exact ⟨by first|rfl|(simp[errW_none,errW_some] <;> rfl)|(simp[*,errW_none,errW_some] <;> rfl),by repeat (first|(with_reducible first|exact HB.out|apply ba'|apply bd'|apply be'|refine bs' ?_ GE116.out|refine bs' ?_ GE117.out)|exact HB.out)⟩
  ·
   rw[if_neg c5] at H;have c5b0:(a0_1 == a1_1)=false:=beq_eq_false_iff_ne.mpr c5;have c5b1:(a0_1 != a1_1)=true:=bne_iff_ne.mpr c5;obtain rfl:=Option.some.inj H;go_enter Try.func20,Try.ntmps20;go_wp2_with (first|((with_reducible refine gate_dst (N:=2) rfl ?_);refine box_event ?hg (N:=2) ?hd (cs:=#[.slice A0_0 l0_0.length c0_0, .int .i64 a0_1]) (t:=28) ?hr ?_;(case hd=>rfl);(case hg=>rfl);(case hr=>first|(go_simp;done)|(go_simp;rfl));intro gb116 hg w11 hbox hb;have n0_:=am' (below_step (by repeat (first|(with_reducible first|exact HB.out|apply ba'|apply bd'|apply be')|exact HB.out)) hb);have n1_:=am' (hbox);have n2_:=am' ((by rw[hg];exact (below_size (by repeat (first|(with_reducible first|exact HB.out|apply ba'|apply bd'|apply be')|exact HB.out))):w.heap.size≤gb116));have n3_:=am' ((by rw[hg];exact (below_size (by repeat (first|(with_reducible first|exact HB.out|apply ba'|apply bd'|apply be')|exact HB.out))):w.heap.size≤gb116));clear HB;have HB:=n0_;have BK116:=n1_;have GW116:=n2_;have GE116:=n3_;clear n0_ n1_ n2_ n3_;clear hb hbox hg)|((with_reducible refine gate_dst (N:=3) rfl ?_);refine box_event ?hg (N:=3) ?hd (cs:=#[.slice A1_0 l1_0.length c1_0, .int .i64 a1_1]) (t:=28) ?hr ?_;(case hd=>rfl);(case hg=>rfl);(case hr=>first|(go_simp;done)|(go_simp;rfl));intro gb117 hg w12 hbox hb;have n0_:=am' (blk_below (g:=gb116) (o := .cells #[.slice A0_0 l0_0.length c0_0, .int .i64 a0_1] 28 (0,0)) (by (with_reducible repeat (first|refine kn' ?_ _|refine kd' ?_|refine ka' ?_ _));exact BK116.out) hb);have n1_:=am' (below_step (by repeat (first|(with_reducible first|exact HB.out|apply ba'|apply bd'|apply be'|refine bs' ?_ GE116.out)|exact HB.out)) hb);have n2_:=am' (hbox);have n3_:=am' ((by rw[hg];exact (below_size (by repeat (first|(with_reducible first|exact HB.out|apply ba'|apply bd'|apply be'|refine bs' ?_ GE116.out)|exact HB.out))):w.heap.size≤gb117));have n4_:=am' ((by rw[hg];exact (below_size (by repeat (first|(with_reducible first|exact HB.out|apply ba'|apply bd'|apply be'|refine bs' ?_ GE116.out)|exact HB.out))):w.heap.size≤gb117));have n5_:=am' ((by rw[hg];exact Nat.ne_of_lt (blk_lt (g:=gb116) (o := .cells #[.slice A0_0 l0_0.length c0_0, .int .i64 a0_1] 28 (0,0)) (by (with_reducible repeat (first|refine kn' ?_ _|refine kd' ?_|refine ka' ?_ _));exact BK116.out)):gb116≠gb117));have n6_:=am' ((by rw[hg];exact Nat.ne_of_gt (blk_lt (g:=gb116) (o := .cells #[.slice A0_0 l0_0.length c0_0, .int .i64 a0_1] 28 (0,0)) (by (with_reducible repeat (first|refine kn' ?_ _|refine kd' ?_|refine ka' ?_ _));exact BK116.out)):gb117≠gb116));clear BK116;clear HB;have BK116:=n0_;have HB:=n1_;have BK117:=n2_;have GW117:=n3_;have GE117:=n4_;have NB116_117:=n5_;have NB117_116:=n6_;clear n0_ n1_ n2_ n3_ n4_ n5_ n6_;clear hb hbox hg;have hnb13:=NB116_117.out;have hnc13:=NB117_116.out;have hcz14_0:w12.cell? ⟨gb116,0,none⟩=some (.slice A0_0 l0_0.length c0_0):=(blk_cell BK116.out 0).trans rfl;have hcz14_1:w12.cell? ⟨gb116,1,none⟩=some (.int .i64 a0_1):=(blk_cell BK116.out 1).trans rfl;have hfz14_0:=blk_frozen BK116.out 0;have hfz14_1:=blk_frozen BK116.out 1;have hcz15_0:w12.cell? ⟨gb117,0,none⟩=some (.slice A1_0 l1_0.length c1_0):=(blk_cell BK117.out 0).trans rfl;have hcz15_1:w12.cell? ⟨gb117,1,none⟩=some (.int .i64 a1_1):=(blk_cell BK117.out 1).trans rfl;have hfz15_0:=blk_frozen BK117.out 0;have hfz15_1:=blk_frozen BK117.out 1)|((with_reducible refine gate_callee (f:=31) rfl ?_);refine goesL_ (some 9) rfl rfl Try.func31 (by kernel_rfl) rfl #[.slice A0_0 l0_0.length c0_0, .slice A1_0 l1_0.length c1_0] rfl (by (try simp only[List.map_toArray,List.map_cons,List.map_nil]);first|done|rfl|(simp only[List.length_drop,List.length_take];rfl)) ?_;(with_reducible refine (laws_eqIntS.calls k _ _ l0_0 _ _ l1_0 true _ ?side1 ?side2 ?side3 ?side4 A3.out).mono ?_);(case side1=>repeat (first|exact (Kd.C_below HR0_0.out HB.out)|(with_reducible refine ca' ?_ _)|(with_reducible refine cn' ?_ _)|(with_reducible refine cd' ?_)));(case side2=>exact HC0_0.out);(case side3=>repeat (first|exact (Kd.C_below HR1_0.out HB.out)|(with_reducible refine ca' ?_ _)|(with_reducible refine cn' ?_ _)|(with_reducible refine cd' ?_)));(case side4=>exact HC1_0.out);rintro e w' ⟨rfl,⟨nd,rfl⟩⟩;refine ⟨_,rfl,?_⟩))
   go_ret
   exact ⟨by first|rfl|(simp[errW_none,errW_some] <;> rfl)|(simp[*,errW_none,errW_some] <;> rfl),by repeat (first|(with_reducible first|exact HB.out|apply ba'|apply bd'|apply be'|refine bs' ?_ GE116.out|refine bs' ?_ GE117.out)|exact HB.out)⟩
 ·
  replace c4:=Bool.eq_false_iff.mpr c4;subst c4;have H1:(some false)=some r:=by rw[if_neg (show ¬ (false=true) by decide)] at H;exact H
  clear H;have H:=H1;clear H1;obtain rfl:=Option.some.inj H;go_enter Try.func20,Try.ntmps20;go_wp2_with (first|((with_reducible refine gate_dst (N:=2) rfl ?_);refine box_event ?hg (N:=2) ?hd (cs:=#[.slice A0_0 l0_0.length c0_0, .int .i64 a0_1]) (t:=28) ?hr ?_;(case hd=>rfl);(case hg=>rfl);(case hr=>first|(go_simp;done)|(go_simp;rfl));intro gb116 hg w16 hbox hb;have n0_:=am' (below_step (by repeat (first|(with_reducible first|exact HB.out|apply ba'|apply bd'|apply be')|exact HB.out)) hb);have n1_:=am' (hbox);have n2_:=am' ((by rw[hg];exact (below_size (by repeat (first|(with_reducible first|exact HB.out|apply ba'|apply bd'|apply be')|exact HB.out))):w.heap.size≤gb116));have n3_:=am' ((by rw[hg];exact (below_size (by repeat (first|(with_reducible first|exact HB.out|apply ba'|apply bd'|apply be')|exact HB.out))):w.heap.size≤gb116));clear HB;have HB:=n0_;have BK116:=n1_;have GW116:=n2_;have GE116:=n3_;clear n0_ n1_ n2_ n3_;clear hb hbox hg)|((with_reducible refine gate_dst (N:=3) rfl ?_);refine box_event ?hg (N:=3) ?hd (cs:=#[.slice A1_0 l1_0.length c1_0, .int .i64 a1_1]) (t:=28) ?hr ?_;(case hd=>rfl);(case hg=>rfl);(case hr=>first|(go_simp;done)|(go_simp;rfl));intro gb117 hg w17 hbox hb;have n0_:=am' (blk_below (g:=gb116) (o := .cells #[.slice A0_0 l0_0.length c0_0, .int .i64 a0_1] 28 (0,0)) (by (with_reducible repeat (first|refine kn' ?_ _|refine kd' ?_|refine ka' ?_ _));exact BK116.out) hb);have n1_:=am' (below_step (by repeat (first|(with_reducible first|exact HB.out|apply ba'|apply bd'|apply be'|refine bs' ?_ GE116.out)|exact HB.out)) hb);have n2_:=am' (hbox);have n3_:=am' ((by rw[hg];exact (below_size (by repeat (first|(with_reducible first|exact HB.out|apply ba'|apply bd'|apply be'|refine bs' ?_ GE116.out)|exact HB.out))):w.heap.size≤gb117));have n4_:=am' ((by rw[hg];exact (below_size (by repeat (first|(with_reducible first|exact HB.out|apply ba'|apply bd'|apply be'|refine bs' ?_ GE116.out)|exact HB.out))):w.heap.size≤gb117));have n5_:=am' ((by rw[hg];exact Nat.ne_of_lt (blk_lt (g:=gb116) (o := .cells #[.slice A0_0 l0_0.length c0_0, .int .i64 a0_1] 28 (0,0)) (by (with_reducible repeat (first|refine kn' ?_ _|refine kd' ?_|refine ka' ?_ _));exact BK116.out)):gb116≠gb117));have n6_:=am' ((by rw[hg];exact Nat.ne_of_gt (blk_lt (g:=gb116) (o := .cells #[.slice A0_0 l0_0.length c0_0, .int .i64 a0_1] 28 (0,0)) (by (with_reducible repeat (first|refine kn' ?_ _|refine kd' ?_|refine ka' ?_ _));exact BK116.out)):gb117≠gb116));clear BK116;clear HB;have BK116:=n0_;have HB:=n1_;have BK117:=n2_;have GW117:=n3_;have GE117:=n4_;have NB116_117:=n5_;have NB117_116:=n6_;clear n0_ n1_ n2_ n3_ n4_ n5_ n6_;clear hb hbox hg;have hnb18:=NB116_117.out;have hnc18:=NB117_116.out;have hcz19_0:w17.cell? ⟨gb116,0,none⟩=some (.slice A0_0 l0_0.length c0_0):=(blk_cell BK116.out 0).trans rfl;have hcz19_1:w17.cell? ⟨gb116,1,none⟩=some (.int .i64 a0_1):=(blk_cell BK116.out 1).trans rfl;have hfz19_0:=blk_frozen BK116.out 0;have hfz19_1:=blk_frozen BK116.out 1;have hcz20_0:w17.cell? ⟨gb117,0,none⟩=some (.slice A1_0 l1_0.length c1_0):=(blk_cell BK117.out 0).trans rfl;have hcz20_1:w17.cell? ⟨gb117,1,none⟩=some (.int .i64 a1_1):=(blk_cell BK117.out 1).trans rfl;have hfz20_0:=blk_frozen BK117.out 0;have hfz20_1:=blk_frozen BK117.out 1)|((with_reducible refine gate_callee (f:=31) rfl ?_);refine goesL_ (some 9) rfl rfl Try.func31 (by kernel_rfl) rfl #[.slice A0_0 l0_0.length c0_0, .slice A1_0 l1_0.length c1_0] rfl (by (try simp only[List.map_toArray,List.map_cons,List.map_nil]);first|done|rfl|(simp only[List.length_drop,List.length_take];rfl)) ?_;(with_reducible refine (laws_eqIntS.calls k _ _ l0_0 _ _ l1_0 false _ ?side1 ?side2 ?side3 ?side4 A3.out).mono ?_);(case side1=>repeat (first|exact (Kd.C_below HR0_0.out HB.out)|(with_reducible refine ca' ?_ _)|(with_reducible refine cn' ?_ _)|(with_reducible refine cd' ?_)));(case side2=>exact HC0_0.out);(case side3=>repeat (first|exact (Kd.C_below HR1_0.out HB.out)|(with_reducible refine ca' ?_ _)|(with_reducible refine cn' ?_ _)|(with_reducible refine cd' ?_)));(case side4=>exact HC1_0.out);rintro e w' ⟨rfl,⟨nd,rfl⟩⟩;refine ⟨_,rfl,?_⟩))
  go_ret
  exact ⟨by first|rfl|(simp[errW_none,errW_some] <;> rfl)|(simp[*,errW_none,errW_some] <;> rfl),by repeat (first|(with_reducible first|exact HB.out|apply ba'|apply bd'|apply be'|refine bs' ?_ GE116.out|refine bs' ?_ GE117.out)|exact HB.out)⟩
mutual
def spec_seIndex.j0:Nat→Int→List Bool→Bool→Option (Int)
 | 0,_,_,_=>none
 | k+1,x3,x120000,x120001=>spec_seIndex.l0 k x3 x120000 (x120000.length:Int) 0
def spec_seIndex.l0:Nat→Int→List Bool→Int→Int→Option (Int)
 | 0,_,_,_,_=>none
 | k+1,x3,x9,x10,x11=>if x11 < x10 then (if 0≤x11 then (if x11 < (x9.length:Int) then (if rdOf false x9 x11=true then (spec_seIndex.l0 k (wrap64 ((wrap64 (x3 * 2))+1)) x9 x10 (wrap64 (x11+1))) else (spec_seIndex.l0 k (wrap64 (x3 * 2)) x9 x10 (wrap64 (x11+1)))) else (none)) else (none)) else (some x3)
end
def spec_seIndex.f (k:Nat) (l0_0:List Bool) (a0_1:Bool):Option (Int):=if a0_1=true then (spec_seIndex.j0 k 1 l0_0 a0_1) else (spec_seIndex.j0 k 0 l0_0 a0_1)
theorem spec_seIndex.mono_l:∀ k,(∀ y0 y1 y2,LeO (spec_seIndex.j0 k y0 y1 y2) (spec_seIndex.j0 (k+1) y0 y1 y2))∧(∀ y0 y1 y2 y3,LeO (spec_seIndex.l0 k y0 y1 y2 y3) (spec_seIndex.l0 (k+1) y0 y1 y2 y3))
 | 0=>⟨fun _ _ _ r h=>by simp[spec_seIndex.j0] at h,fun _ _ _ _ r h=>by simp[spec_seIndex.l0] at h⟩
 | k+1=>by
  obtain ⟨ih0,ih1⟩:=spec_seIndex.mono_l k;refine ⟨?_,?_⟩
  ·
   intro y0 y1 y2;unfold spec_seIndex.j0
   repeat' first
   | (with_reducible exact ih0 _ _ _)
   | (with_reducible exact ih1 _ _ _ _)
   | (with_reducible exact LeO.refl _)
   | (with_reducible exact LeO.none _)
   | (with_reducible refine LeO.ite ?_ ?_)
   | (with_reducible refine LeO.bind ?_ (fun _=>?_))
   | exact ih0 _ _ _
   | exact ih1 _ _ _ _
   | exact LeO.none _
   | refine LeO.ite ?_ ?_
   | refine LeO.bind ?_ (fun _=>?_)
  ·
   intro y0 y1 y2 y3;unfold spec_seIndex.l0
   repeat' first
   | (with_reducible exact ih0 _ _ _)
   | (with_reducible exact ih1 _ _ _ _)
   | (with_reducible exact LeO.refl _)
   | (with_reducible exact LeO.none _)
   | (with_reducible refine LeO.ite ?_ ?_)
   | (with_reducible refine LeO.bind ?_ (fun _=>?_))
   | exact ih0 _ _ _
   | exact ih1 _ _ _ _
   | exact LeO.none _
   | refine LeO.ite ?_ ?_
   | refine LeO.bind ?_ (fun _=>?_)
theorem spec_seIndex.mono:∀ a0 a1 k,LeO (spec_seIndex.f k a0 a1) (spec_seIndex.f (k+1) a0 a1):=by
 intro a0 a1 k;obtain ⟨ih0,ih1⟩:=spec_seIndex.mono_l k
 unfold spec_seIndex.f
 repeat' first
   | (with_reducible exact ih0 _ _ _)
   | (with_reducible exact ih1 _ _ _ _)
   | (with_reducible exact LeO.refl _)
   | (with_reducible exact LeO.none _)
   | (with_reducible refine LeO.ite ?_ ?_)
   | (with_reducible refine LeO.bind ?_ (fun _=>?_))
   | exact ih0 _ _ _
   | exact ih1 _ _ _ _
   | exact LeO.none _
   | refine LeO.ite ?_ ?_
   | refine LeO.bind ?_ (fun _=>?_)
set_option maxHeartbeats 8000000 in
set_option maxRecDepth 100000 in
theorem spec_seIndex.calls (k:Nat) (A0_0:Option Addr) (c0_0:Nat) (l0_0:List Bool) (a0_1:Bool) (r:Int) (w:World) (hr0_0:Kd.C Kd.bool w A0_0 l0_0.length l0_0) (hc0_0:l0_0.length≤c0_0) (h:spec_seIndex.f k l0_0 a0_1=some r) :
  Calls Try.prog 78 #[.agg #[.slice A0_0 l0_0.length c0_0, .bool a0_1]] w fun e w'=>e = .returned (.int .i64 r)∧Below w.heap.size w w':=by
 have hu44:=Try.underlying44
 have HR0_0:=am' hr0_0
 have HC0_0:=am' hc0_0
 clear hr0_0 hc0_0;have HB:=am' (Below.refl w.heap.size w)
 have H:(if a0_1=true then (spec_seIndex.j0 k 1 l0_0 a0_1) else (spec_seIndex.j0 k 0 l0_0 a0_1))=some r:=h
 clear h;have HC2:=am' H
 clear H;go_enter Try.func78,Try.ntmps78
 go_upto_if 7 with (first|((with_reducible refine gate_dst (N:=1) rfl ?_);refine box_event ?hg (N:=1) ?hd (cs:=#[.slice A0_0 l0_0.length c0_0, .bool a0_1]) (t:=44) ?hr ?_;(case hd=>rfl);(case hg=>rfl);(case hr=>first|(go_simp;done)|(go_simp;rfl));intro gb119 hg w3 hbox hb;have n0_:=am' (below_step (by repeat (first|(with_reducible first|exact HB.out|apply ba'|apply bd'|apply be')|exact HB.out)) hb);have n1_:=am' (hbox);have n2_:=am' ((by rw[hg];exact (below_size (by repeat (first|(with_reducible first|exact HB.out|apply ba'|apply bd'|apply be')|exact HB.out))):w.heap.size≤gb119));have n3_:=am' ((by rw[hg];exact (below_size (by repeat (first|(with_reducible first|exact HB.out|apply ba'|apply bd'|apply be')|exact HB.out))):w.heap.size≤gb119));clear HB;have HB:=n0_;have BK119:=n1_;have GW119:=n2_;have GE119:=n3_;clear n0_ n1_ n2_ n3_;clear hb hbox hg;have hcz4_0:w3.cell? ⟨gb119,0,none⟩=some (.slice A0_0 l0_0.length c0_0):=(blk_cell BK119.out 0).trans rfl;have hcz4_1:w3.cell? ⟨gb119,1,none⟩=some (.bool a0_1):=(blk_cell BK119.out 1).trans rfl;have hfz4_0:=blk_frozen BK119.out 0;have hfz4_1:=blk_frozen BK119.out 1))
 (try simp only[Act.put,sa',sb',sc'])
 go_cut [3] (fun v3 wc=>∃ (kq:Nat) (x3_1:Int),v3 = .int .i64 x3_1∧Aside0 (spec_seIndex.j0 kq x3_1 l0_0 a0_1=some r)∧Aside0 (kq≤k)∧Aside0 (wc.heap[gb119]? = some (.cells #[(.slice A0_0 l0_0.length c0_0), .bool a0_1] 44 (0,0)))∧Aside0 (Below w.heap.size w wc))
 case first =>
  have H:=HC2.out;clear HC2;by_cases c5:a0_1=true
  ·
   subst c5;have H1:(spec_seIndex.j0 k 1 l0_0 true)=some r:=by rw[if_pos rfl] at H;exact H
   clear H;have H:=H1;clear H1;have H':=am' H;clear H;go_wp2;go_meet
   case rel=>exact ⟨_,(1),(by first|rfl|(simp;done)|(simp[*];done)),H',⟨by first|omega|exact Nat.le_refl _⟩,⟨by (with_reducible repeat (first|refine kn' ?_ _|refine kd' ?_|refine ka' ?_ _));exact BK119.out⟩,⟨by repeat (first|(with_reducible first|exact HB.out|apply ba'|apply bd'|apply be'|refine bs' ?_ GE119.out)|exact HB.out)⟩⟩
  ·
   replace c5:=Bool.eq_false_iff.mpr c5;subst c5;have H1:(spec_seIndex.j0 k 0 l0_0 false)=some r:=by rw[if_neg (show ¬ (false=true) by decide)] at H;exact H
   clear H;have H:=H1;clear H1;have H':=am' H;clear H;go_wp2;go_meet
   case rel=>exact ⟨_,(0),(by first|rfl|(simp;done)|(simp[*];done)),H',⟨by first|omega|exact Nat.le_refl _⟩,⟨by (with_reducible repeat (first|refine kn' ?_ _|refine kd' ?_|refine ka' ?_ _));exact BK119.out⟩,⟨by repeat (first|(with_reducible first|exact HB.out|apply ba'|apply bd'|apply be'|refine bs' ?_ GE119.out)|exact HB.out)⟩⟩
 case rest =>
  clear HC2;try clear p2
  try clear c5
  try clear hcz4_0
  try clear hcz4_1
  try clear hfz4_0
  try clear hfz4_1
  obtain ⟨kq,x3_1,rfl,HA,HJ1,BK119,HB⟩:=hcut;cases kq with
  | zero=>exact absurd HA.out (by simp[spec_seIndex.j0])
  | succ kj1 =>
   have H:=HA.out;clear HA;simp only[spec_seIndex.j0] at H;have H':=am' H;clear H;have hcz6_0:wc.cell? ⟨gb119,0,none⟩=some (.slice A0_0 l0_0.length c0_0):=(blk_cell BK119.out 0).trans rfl;have hcz6_1:wc.cell? ⟨gb119,1,none⟩=some (.bool a0_1):=(blk_cell BK119.out 1).trans rfl;have hfz6_0:=blk_frozen BK119.out 0;have hfz6_1:=blk_frozen BK119.out 1;go_wp2;go_loopg [3,11] kj1 (fun kq v3 v11 w'=>∃ (x3_2:Int) (x11_2:Int),v3 = .int .i64 x3_2∧v11 = .int .i64 x11_2∧Aside0 (spec_seIndex.l0 kq x3_2 l0_0 (l0_0.length:Int) x11_2=some r)∧Aside0 (kq≤kj1)∧Aside0 (w'.heap[gb119]? = some (.cells #[(.slice A0_0 l0_0.length c0_0), .bool a0_1] 44 (0,0)))∧Aside0 (Below w.heap.size w w'))
   case atStart=>exact ⟨(x3_1),(0),(by first|rfl|(simp;done)|(simp[*];done)),(by first|rfl|(simp;done)|(simp[*];done)),H',⟨Nat.le_refl _⟩,⟨by (with_reducible repeat (first|refine kn' ?_ _|refine kd' ?_|refine ka' ?_ _));exact BK119.out⟩,⟨by repeat (first|(with_reducible first|exact HB.out|apply ba'|apply bd'|apply be'|refine bs' ?_ GE119.out)|exact HB.out)⟩⟩
   case round =>
    clear H';try clear p2
    try clear c5
    try clear hcz4_0
    try clear hcz4_1
    try clear hcz6_0
    try clear hcz6_1
    try clear hfz4_0
    try clear hfz4_1
    try clear hfz6_0
    try clear hfz6_1
    try clear p2
    obtain ⟨x3_2,x11_2,rfl,rfl,HA,HK2,BK119,HB⟩:=hrel;cases gk with
    | zero=>exact absurd HA.out (by simp[spec_seIndex.l0])
    | succ k2 =>
     have H:=HA.out;clear HA;simp only[spec_seIndex.l0] at H;by_cases c7:x11_2 < (l0_0.length:Int)
     ·
      rw[if_pos c7] at H;have c7b0:decide (x11_2 < (l0_0.length:Int))=true:=decide_eq_true c7;clear c7;by_cases c8:0≤x11_2
      ·
       rw[if_pos c8] at H;have c8b0:decide (0≤x11_2)=true:=decide_eq_true c8;clear c8;by_cases c9:x11_2 < (l0_0.length:Int)
       ·
        rw[if_pos c9] at H;have c9b0:decide (x11_2 < (l0_0.length:Int))=true:=decide_eq_true c9;clear c9;obtain ⟨bq10,hbq10⟩:∃ b_:Bool,b_=(rdOf false l0_0 x11_2):=⟨_,rfl⟩
        replace H:(if bq10=true then (spec_seIndex.l0 k2 (wrap64 ((wrap64 (x3_2 * 2))+1)) l0_0 (l0_0.length:Int) (wrap64 (x11_2+1))) else (spec_seIndex.l0 k2 (wrap64 (x3_2 * 2)) l0_0 (l0_0.length:Int) (wrap64 (x11_2+1))))=some r:=by rw[← hbq10] at H;exact H
        have Nbq10:=am' hbq10;clear hbq10;by_cases c11:bq10=true
        ·
         subst c11;have H1:(spec_seIndex.l0 k2 (wrap64 ((wrap64 (x3_2 * 2))+1)) l0_0 (l0_0.length:Int) (wrap64 (x11_2+1)))=some r:=by rw[if_pos rfl] at H;exact H
         clear H;have H:=H1;clear H1;have H':=am' H;clear H;have p120:0≤(x11_2:Int):=of_decide_eq_true (by first|(with_reducible assumption)|assumption);have q120:x11_2 < (l0_0.length:Int):=of_decide_eq_true (by first|(with_reducible assumption)|assumption);obtain ⟨ad120,e120,hx120_0⟩:=Kd.at_bool HR0_0.out x11_2 p120 q120
         (try rw [← Nbq10.out] at hx120_0)
         cases e120
         replace hx120_0:=(HB.out.cell (bl' w _ hx120_0)).trans hx120_0;replace p120:=eq_true p120;replace q120:=eq_true q120;go_wp2;go_roundg k2
         case measure=>have:=HJ1.out;have:=HK2.out;omega
         case rel=>exact ⟨(wrap64 ((wrap64 (x3_2 * 2))+1)),(wrap64 (x11_2+1)),(by first|rfl|(simp;done)|(simp[*];done)),(by first|rfl|(simp;done)|(simp[*];done)),H',⟨by have:=HJ1.out;have:=HK2.out;omega⟩,⟨by (with_reducible repeat (first|refine kn' ?_ _|refine kd' ?_|refine ka' ?_ _));exact BK119.out⟩,⟨by repeat (first|(with_reducible first|exact HB.out|apply ba'|apply bd'|apply be'|refine bs' ?_ GE119.out)|exact HB.out)⟩⟩
        ·
         replace c11:=Bool.eq_false_iff.mpr c11;subst c11;have H1:(spec_seIndex.l0 k2 (wrap64 (x3_2 * 2)) l0_0 (l0_0.length:Int) (wrap64 (x11_2+1)))=some r:=by rw[if_neg (show ¬ (false=true) by decide)] at H;exact H
         clear H;have H:=H1;clear H1;have H':=am' H;clear H;have p120:0≤(x11_2:Int):=of_decide_eq_true (by first|(with_reducible assumption)|assumption);have q120:x11_2 < (l0_0.length:Int):=of_decide_eq_true (by first|(with_reducible assumption)|assumption);obtain ⟨ad120,e120,hx120_0⟩:=Kd.at_bool HR0_0.out x11_2 p120 q120
         (try rw [← Nbq10.out] at hx120_0)
         cases e120
         replace hx120_0:=(HB.out.cell (bl' w _ hx120_0)).trans hx120_0;replace p120:=eq_true p120;replace q120:=eq_true q120;go_wp2;go_roundg k2
         case measure=>have:=HJ1.out;have:=HK2.out;omega
         case rel=>exact ⟨(wrap64 (x3_2 * 2)),(wrap64 (x11_2+1)),(by first|rfl|(simp;done)|(simp[*];done)),(by first|rfl|(simp;done)|(simp[*];done)),H',⟨by have:=HJ1.out;have:=HK2.out;omega⟩,⟨by (with_reducible repeat (first|refine kn' ?_ _|refine kd' ?_|refine ka' ?_ _));exact BK119.out⟩,⟨by repeat (first|(with_reducible first|exact HB.out|apply ba'|apply bd'|apply be'|refine bs' ?_ GE119.out)|exact HB.out)⟩⟩
       ·
        rw[if_neg c9] at H;exact absurd H (by simp)
      ·
       rw[if_neg c8] at H;exact absurd H (by simp)
     ·
      rw[if_neg c7] at H;have c7b0:decide (x11_2 < (l0_0.length:Int))=false:=decide_eq_false c7;clear c7;obtain rfl:=Option.some.inj H;go_wp2;go_ret
      exact ⟨by first|rfl|(simp[errW_none,errW_some] <;> rfl)|(simp[*,errW_none,errW_some] <;> rfl),by repeat (first|(with_reducible first|exact HB.out|apply ba'|apply bd'|apply be'|refine bs' ?_ GE119.out)|exact HB.out)⟩
end Go.Proofs.Ytamljjfhkolflaa.C15
