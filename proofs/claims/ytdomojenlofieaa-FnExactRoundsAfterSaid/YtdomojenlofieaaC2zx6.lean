import Derived.Test.YtdomojenlofieaaC2zx0
import Derived.Test.YtdomojenlofieaaC2zx5
import Derived.Test.YtdomojenlofieaaC2zAl
namespace Go.Proofs.Ytdomojenlofieaa.C2
open Go.RowKit Go.Proofs.YtdomojenlofieaaW.PrintWords Go.Proofs.YtdomojenlofieaaW.PrintLast Go.Proofs.YtdomojenlofieaaW.PrintMore Go.Proofs.Ytdomojenlofieaa.H
attribute [local go_sem] max2_int min2_int max_two min_two max_three min_three max_four min_four
set_option linter.unusedVariables false
set_option linter.unusedSimpArgs false
def laws_toBoolS.l0:Nat→List Bool→List Bool→Int→Option (List Bool)
 | 0,_,_,_=>none
 | k+1,x0,x3,x4=>if x4 < (x0.length:Int) then (if 0≤x4 then (if x4 < (x3.length:Int) then (laws_toBoolS.l0 k x0 (x3.set (x4:Int).toNat (rdOf false x0 x4)) (wrap64 (x4+1))) else (none)) else (none)) else (some x3)
def laws_toBoolS.f (k:Nat) (l0:List Bool):Option (List Bool):=if 0≤(l0.length:Int) then (if ((l0.length:Int):Int).toNat≤281474976710656 then (laws_toBoolS.l0 k l0 (List.replicate ((l0.length:Int):Int).toNat false) 0) else (none)) else (none)
set_option maxHeartbeats 8000000 in
set_option maxRecDepth 100000 in
theorem laws_toBoolS.calls (k:Nat) (A0:Option Addr) (c0:Nat) (l0:List Bool) (r:List Bool) (w:World) (hr0:Kd.C Kd.bool w A0 l0.length l0) (hc0:l0.length≤c0) (h:laws_toBoolS.f k l0=some r) :
  Calls Try.prog 36 #[.slice A0 l0.length c0] w fun e w'=>∃ v0_:Value,e = .returned (v0_)∧Kd.R Kd.bool 4 w' w.heap.size (fun _=>True) v0_ r∧Below w.heap.size w w':=by
 have HR0:=am' hr0
 have HC0:=am' hc0
 clear hr0 hc0;have HB:=am' (Below.refl w.heap.size w)
 have H:(if 0≤(l0.length:Int) then (if ((l0.length:Int):Int).toNat≤281474976710656 then (laws_toBoolS.l0 k l0 (List.replicate ((l0.length:Int):Int).toNat false) 0) else (none)) else (none))=some r:=h
 clear h;by_cases c2:0≤(l0.length:Int)
 ·
  rw[if_pos c2] at H;have c2b0:=eq_true c2;have c2b1:decide (0≤(l0.length:Int))=true:=dt' c2;clear c2;by_cases c3:((l0.length:Int):Int).toNat≤281474976710656
  ·
   rw[if_pos c3] at H;have c3b0:=eq_true c3;have c3b1:decide (((l0.length:Int):Int).toNat≤281474976710656)=true:=dt' c3;clear c3;obtain ⟨y198,hy198⟩:∃ y_:List Bool,y_=(List.replicate ((l0.length:Int):Int).toNat false):=⟨_,rfl⟩
   replace H:(laws_toBoolS.l0 k l0 y198 0)=some r:=by first|(rw[hy198];with_reducible exact H)|(have H2_:=(Option.bind_some _ _).symm.trans H;rw[hy198];with_reducible exact H2_)|(have H2_:=(Option.bind_some _ _).symm.trans H;with_reducible exact H2_)|with_reducible exact H|(rw[hy198];exact H)|exact H
   have Ny198:=am' hy198;clear hy198;have H':=am' H;clear H;go_enter Try.func36,Try.ntmps36;go_wp2_with (first|((with_reducible refine gate_dst (N:=7) rfl ?_);refine Kd.R_make Kd.bool _ 4 rfl (N:=7) rfl 25 _ _ rfl (l0.length:Int) rfl rfl Try.underlying25 (.bool false) 1 info4 rfl (by decide) (by omega) false (ok:=fun _=>True) (okp:=fun _=>True) rfl (fun _ hk=>hk) trivial (od' xa') (Nat.le_trans (Nat.mul_le_mul_right _ (od' xa':(l0.length:Int).toNat≤281474976710656)) (by omega)) (Below.refl _ _) (Nat.le_refl _) ?_;intro v199 w4 ho5 hb hg_ hnew_;clear hg_ hnew_;(first|rw[← Ny198.out] at ho5|(simp only[Int.reduceToNat] at ho5;rw[← Ny198.out] at ho5));have n0_:=am' (Kd.R_lower ho5 (bz' xb'));have n1_:=am' (bt' xb' hb);clear HB;have HO200:=n0_;have HB:=n1_;clear n0_ n1_;clear hb ho5));go_loopg [4] k (fun kq v4 w'=>∃ (x3_1:List Bool) (x4_1:Int),v4 = .int .i64 x4_1∧Aside0 (laws_toBoolS.l0 kq l0 x3_1 x4_1=some r)∧Aside0 (kq≤k)∧Aside0 (Kd.R Kd.bool 4 w' w.heap.size (fun _=>True) v199 x3_1)∧Aside0 (Below w.heap.size w w'))
   case atStart=>exact ⟨(y198),(0),xs',H',⟨Nat.le_refl _⟩,⟨kr' HO200.out⟩,⟨xb'⟩⟩
   case round =>
    clear H';try clear c2
    try clear c2b0
    try clear c2b1
    try clear p2
    try clear c3
    try clear c3b0
    try clear c3b1
    obtain ⟨x3_1,x4_1,rfl,HA,HK1,HO_3,HB⟩:=hrel;cases gk with
    | zero=>exact absurd HA.out (by simp[laws_toBoolS.l0])
    | succ k1 =>
     have H:=HA.out;clear HA;simp only[laws_toBoolS.l0] at H;by_cases c6:x4_1 < (l0.length:Int)
     ·
      rw[if_pos c6] at H;have c6b0:decide (x4_1 < (l0.length:Int))=true:=dt' c6;clear c6;by_cases c7:0≤x4_1
      ·
       rw[if_pos c7] at H;have c7b0:decide (0≤x4_1)=true:=dt' c7;clear c7;by_cases c8:x4_1 < (x3_1.length:Int)
       ·
        rw[if_pos c8] at H;have c8b0:decide (x4_1 < (x3_1.length:Int))=true:=dt' c8;clear c8;obtain ⟨y202,hy202⟩:∃ y_:List Bool,y_=(x3_1.set (x4_1:Int).toNat (rdOf false l0 x4_1)):=⟨_,rfl⟩
        replace H:(laws_toBoolS.l0 k1 l0 y202 (wrap64 (x4_1+1)))=some r:=by first|(rw[hy202];with_reducible exact H)|(have H2_:=(Option.bind_some _ _).symm.trans H;rw[hy202];with_reducible exact H2_)|(have H2_:=(Option.bind_some _ _).symm.trans H;with_reducible exact H2_)|with_reducible exact H|(rw[hy202];exact H)|exact H
        have Ny202:=am' hy202;clear hy202;have H':=am' H;clear H;have p201:0≤(x4_1:Int):=od' xa';have q201:x4_1 < (l0.length:Int):=od' xa';obtain ⟨ad201,e201,hx201_0⟩:=Kd.at_bool HR0.out x4_1 p201 q201;cases e201;replace hx201_0:=(HB.out.cell (bl' w _ hx201_0)).trans hx201_0;replace p201:=eq_true p201;replace q201:=eq_true q201;have p9:0≤(x4_1:Int):=od' xa';have q9:(x4_1:Int) < ((x3_1.length:Int):Int):=od' xa';obtain ⟨go9,co9,eo9,gb9,gl9,cl9,HG9⟩:=Kd.R_form HO_3.out (by omega)
        (first|cases eo9|(injection eo9 with ea_ en_ ec_;(first|subst ea_|(injection ea_ with ea_;subst ea_));subst ec_;clear en_))
        have GB9:=am' gb9;have GG9:=am' HG9;clear gb9 gl9 HG9;obtain ⟨hx9_0,hf9_0⟩:=Kd.R_celln false HO_3.out (x4_1:Int) p9 q9;replace p9:=eq_true p9;replace q9:=eq_true q9;have HP10:=Kd.R_putg HO_3.out (x4_1:Int) (rdOf false l0 x4_1);go_wp2_with (first|((with_reducible refine gate_store (t:=4) (p:=20) rfl ?_);refine store_event (t:=4) (p:=20) (v:=?vo_w11) (w1:=(wr.setCell ⟨go9,(x4_1:Int).toNat,none⟩ (.bool (rdOf false l0 x4_1)))) ?hg ?ho ?hn ?hr ?_;(case ho=>rfl);(case hg=>rfl);(case hn=>rfl);(case hr=>first|(go_simp;done)|(go_simp;rfl));intro w11 hw;have hg:wr.grownBy w11 (some go9):=(by rw[hw];exact HP10.2);have hp_:Kd.R Kd.bool 4 w11 w.heap.size (fun _=>True) (.slice (some ⟨go9,0,none⟩) x3_1.length co9) y202:=(by rw[hw,Ny202.out];exact HP10.1);clear HP10;have n0_:=am' (hp_);have n1_:=am' ((by rw[hw];exact bs' (HB.out) GB9.out:Below w.heap.size w w11));clear HO_3;clear HB;have HO_3:=n0_;have HB:=n1_;clear n0_ n1_;clear hg hw hp_));go_roundg k1
        case measure=>have:=HK1.out;omega
        case rel=>exact ⟨(y202),(wrap64 (x4_1+1)),xs',H',⟨by have:=HK1.out;omega⟩,⟨kr' HO_3.out⟩,⟨xb'⟩⟩
       ·
        rw[if_neg c8] at H;exact absurd H (by simp)
      ·
       rw[if_neg c7] at H;exact absurd H (by simp)
     ·
      rw[if_neg c6] at H;have c6b0:decide (x4_1 < (l0.length:Int))=false:=df' c6;clear c6;obtain rfl:=os' H;go_wp2;go_ret
      exact ⟨_,by first|rfl|(simp[errW_none,errW_some] <;> rfl)|(simp[*,errW_none,errW_some] <;> rfl),kr' HO_3.out,xb'⟩
  ·
   rw[if_neg c3] at H;exact absurd H (by simp)
 ·
  rw[if_neg c2] at H;exact absurd H (by simp)
def laws_toCamp.f (k:Nat) (l0_0:List Bool) (a0_1:Int):Option (List Bool × Int):=(laws_toBoolS.f k l0_0).bind fun t206=>(some (t206,a0_1))
set_option maxHeartbeats 8000000 in
set_option maxRecDepth 100000 in
theorem laws_toCamp.calls (k:Nat) (A0_0:Option Addr) (c0_0:Nat) (l0_0:List Bool) (a0_1:Int) (r1:List Bool) (r2:Int) (w:World) (hr0_0:Kd.C Kd.bool w A0_0 l0_0.length l0_0) (hc0_0:l0_0.length≤c0_0) (h:laws_toCamp.f k l0_0 a0_1=some (r1,r2)) :
  Calls Try.prog 10 #[.agg #[.slice A0_0 l0_0.length c0_0, .int .i64 a0_1]] w fun e w'=>∃ v0_:Value,e = .returned (.agg #[v0_, .int .i64 r2])∧Kd.R Kd.bool 4 w' w.heap.size (fun _=>True) v0_ r1∧Below w.heap.size w w':=by
 have hu27:=Try.underlying27
 have hu32:=Try.underlying32
 have HR0_0:=am' hr0_0
 have HC0_0:=am' hc0_0
 clear hr0_0 hc0_0;have HB:=am' (Below.refl w.heap.size w)
 have H:((laws_toBoolS.f k l0_0).bind fun t206=>(some (t206,a0_1)))=some (r1,r2):=h
 clear h;replace H:=Option.bind_eq_some_iff.mp H
 obtain ⟨t206,A20,H⟩:=H
 replace H:(some (t206,a0_1))=some (r1,r2):=H
 have A2:=am' A20
 clear A20;simp only[Option.some.injEq,Prod.mk.injEq] at H
 obtain ⟨rfl,rfl⟩:=H
 go_enter Try.func10,Try.ntmps10
 go_wp2_with (first|((with_reducible refine gate_dst (N:=1) rfl ?_);refine box_event ?hg (N:=1) ?hd (cs:=#[.slice A0_0 l0_0.length c0_0, .int .i64 a0_1]) (t:=27) ?hr ?_;(case hd=>rfl);(case hg=>rfl);(case hr=>first|(go_simp;done)|(go_simp;rfl));intro gb203 hg w3 hbox hb;have n0_:=am' (bt' xb' hb);have n1_:=am' (hbox);have n2_:=am' ((by rw[hg];exact (bz' xb'):w.heap.size≤gb203));have n3_:=am' ((by rw[hg];exact (bz' xb'):w.heap.size≤gb203));clear HB;have HB:=n0_;have BK203:=n1_;have GW203:=n2_;have GE203:=n3_;clear n0_ n1_ n2_ n3_;clear hb hbox hg)|((with_reducible refine gate_dst (N:=2) rfl ?_);refine box_event ?hg (N:=2) ?hd (cs:=#[.slice none 0 0, .int .i64 0]) (t:=32) ?hr ?_;(case hd=>rfl);(case hg=>rfl);(case hr=>first|(go_simp;done)|(go_simp;rfl));intro gb204 hg w4 hbox hb;have n0_:=am' (bb' (g:=gb203) (o := .cells #[.slice A0_0 l0_0.length c0_0, .int .i64 a0_1] 27 (0,0)) (kk' BK203.out) hb);have n1_:=am' (bt' (yb' GE203.out) hb);have n2_:=am' (hbox);have n3_:=am' ((by rw[hg];exact (bz' (yb' GE203.out)):w.heap.size≤gb204));have n4_:=am' ((by rw[hg];exact (bz' (yb' GE203.out)):w.heap.size≤gb204));have n5_:=am' ((by rw[hg];exact Nat.ne_of_lt (blk_lt (g:=gb203) (o := .cells #[.slice A0_0 l0_0.length c0_0, .int .i64 a0_1] 27 (0,0)) (kk' BK203.out)):gb203≠gb204));have n6_:=am' ((by rw[hg];exact Nat.ne_of_gt (blk_lt (g:=gb203) (o := .cells #[.slice A0_0 l0_0.length c0_0, .int .i64 a0_1] 27 (0,0)) (kk' BK203.out)):gb204≠gb203));clear BK203;clear HB;have BK203:=n0_;have HB:=n1_;have BK204:=n2_;have GW204:=n3_;have GE204:=n4_;have NB203_204:=n5_;have NB204_203:=n6_;clear n0_ n1_ n2_ n3_ n4_ n5_ n6_;clear hb hbox hg)|((with_reducible refine gate_dst (N:=3) rfl ?_);refine box_event ?hg (N:=3) ?hd (cs:=#[.slice none 0 0, .int .i64 0]) (t:=32) ?hr ?_;(case hd=>rfl);(case hg=>rfl);(case hr=>first|(go_simp;done)|(go_simp;rfl));intro gb205 hg w5 hbox hb;have n0_:=am' (bb' (g:=gb203) (o := .cells #[.slice A0_0 l0_0.length c0_0, .int .i64 a0_1] 27 (0,0)) (kk' BK203.out) hb);have n1_:=am' (bb' (g:=gb204) (o := .cells #[.slice none 0 0, .int .i64 0] 32 (0,0)) (kk' BK204.out) hb);have n2_:=am' (bt' (y2' GE203.out GE204.out) hb);have n3_:=am' (hbox);have n4_:=am' ((by rw[hg];exact (bz' (y2' GE203.out GE204.out)):w.heap.size≤gb205));have n5_:=am' ((by rw[hg];exact (bz' (y2' GE203.out GE204.out)):w.heap.size≤gb205));have n6_:=am' ((by rw[hg];exact Nat.ne_of_lt (blk_lt (g:=gb203) (o := .cells #[.slice A0_0 l0_0.length c0_0, .int .i64 a0_1] 27 (0,0)) (kk' BK203.out)):gb203≠gb205));have n7_:=am' ((by rw[hg];exact Nat.ne_of_gt (blk_lt (g:=gb203) (o := .cells #[.slice A0_0 l0_0.length c0_0, .int .i64 a0_1] 27 (0,0)) (kk' BK203.out)):gb205≠gb203));have n8_:=am' ((by rw[hg];exact Nat.ne_of_lt (blk_lt (g:=gb204) (o := .cells #[.slice none 0 0, .int .i64 0] 32 (0,0)) (kk' BK204.out)):gb204≠gb205));have n9_:=am' ((by rw[hg];exact Nat.ne_of_gt (blk_lt (g:=gb204) (o := .cells #[.slice none 0 0, .int .i64 0] 32 (0,0)) (kk' BK204.out)):gb205≠gb204));clear BK203;clear BK204;clear HB;have BK203:=n0_;have BK204:=n1_;have HB:=n2_;have BK205:=n3_;have GW205:=n4_;have GE205:=n5_;have NB203_205:=n6_;have NB205_203:=n7_;have NB204_205:=n8_;have NB205_204:=n9_;clear n0_ n1_ n2_ n3_ n4_ n5_ n6_ n7_ n8_ n9_;clear hb hbox hg;have hnb6:=NB203_204.out;have hnc6:=NB204_203.out;have hnb7:=NB203_205.out;have hnc7:=NB205_203.out;have hcz8_0:w5.cell? ⟨gb203,0,none⟩=some (.slice A0_0 l0_0.length c0_0):=(bc' BK203.out 0).trans rfl;have hcz8_1:w5.cell? ⟨gb203,1,none⟩=some (.int .i64 a0_1):=(bc' BK203.out 1).trans rfl;have hfz8_0:=bf' BK203.out 0;have hfz8_1:=bf' BK203.out 1)|((with_reducible refine gate_callee (f:=36) rfl ?_);refine goesL_ (some 6) rfl rfl Try.func36 xk' rfl #[.slice A0_0 l0_0.length c0_0] rfl xl' ?_;(with_reducible refine (laws_toBoolS.calls k _ _ l0_0 t206 _ ?side1 ?side2 A2.out).mono ?_);(case side1=>exact kc' (cb' HR0_0.out HB.out));(case side2=>exact HC0_0.out);rintro e w9 ⟨v207,rfl,ho0,hb⟩;refine ⟨_,rfl,?_⟩;have n0_:=am' (Kd.R_lower ho0 (bz' (y3' GE203.out GE204.out GE205.out)));have n1_:=am' (bb' (g:=gb203) (o := .cells #[.slice A0_0 l0_0.length c0_0, .int .i64 a0_1] 27 (0,0)) (kk' BK203.out) hb);have n2_:=am' (bb' (g:=gb204) (o := .cells #[.slice none 0 0, .int .i64 0] 32 (0,0)) (kk' BK204.out) hb);have n3_:=am' (bb' (g:=gb205) (o := .cells #[.slice none 0 0, .int .i64 0] 32 (0,0)) (kk' BK205.out) hb);have n4_:=am' (bt' (y3' GE203.out GE204.out GE205.out) hb);clear BK203;clear BK204;clear BK205;clear HB;have HO208:=n0_;have BK203:=n1_;have BK204:=n2_;have BK205:=n3_;have HB:=n4_;clear n0_ n1_ n2_ n3_ n4_;(try clear hb);(try clear hb2);(try clear hk);(try clear hi);(try clear ho0);obtain ⟨Ao10,co10,eo10⟩:=Kd.R_slice HO208.out;subst eo10;have hnb11:=NB205_204.out;have hnc11:=NB204_205.out;have hcz12_0:w9.cell? ⟨gb205,0,none⟩=some (.slice none 0 0):=(bc' BK205.out 0).trans rfl;have hcz12_1:w9.cell? ⟨gb205,1,none⟩=some (.int .i64 0):=(bc' BK205.out 1).trans rfl;have hfz12_0:=bf' BK205.out 0;have hfz12_1:=bf' BK205.out 1;have hcz13_0:w9.cell? ⟨gb203,0,none⟩=some (.slice A0_0 l0_0.length c0_0):=(bc' BK203.out 0).trans rfl;have hcz13_1:w9.cell? ⟨gb203,1,none⟩=some (.int .i64 a0_1):=(bc' BK203.out 1).trans rfl;have hfz13_0:=bf' BK203.out 0;have hfz13_1:=bf' BK203.out 1;have hcz14_0:w9.cell? ⟨gb204,0,none⟩=some (.slice none 0 0):=(bc' BK204.out 0).trans rfl;have hcz14_1:w9.cell? ⟨gb204,1,none⟩=some (.int .i64 0):=(bc' BK204.out 1).trans rfl;have hfz14_0:=bf' BK204.out 0;have hfz14_1:=bf' BK204.out 1))
 refine bodyPost_ret (results_cell_row rfl _ _ gb204 32 #[.slice Ao10 t206.length co10, .int .i64 a0_1] (0,0) _ rfl (by (with_reducible repeat (first|refine kn' ?_ _|refine kd' ?_|refine ka' ?_ _));refine blk_put (cs:=#[.slice Ao10 t206.length co10, .int .i64 0]) ?_ 1 _ rfl;(with_reducible repeat (first|refine kn' ?_ _|refine kd' ?_|refine ka' ?_ _));refine blk_put (cs:=#[.slice none 0 0, .int .i64 0]) ?_ 0 _ rfl;(with_reducible repeat (first|refine kn' ?_ _|refine kd' ?_|refine ka' ?_ _));refine blk_far ?_ NB204_205.out _;(with_reducible repeat (first|refine kn' ?_ _|refine kd' ?_|refine ka' ?_ _));refine blk_far ?_ NB204_205.out _;(with_reducible repeat (first|refine kn' ?_ _|refine kd' ?_|refine ka' ?_ _));exact BK204.out) Try.underlying32 rfl xk') rfl ?_
 exact ⟨_,by first|rfl|(simp[errW_none,errW_some] <;> rfl)|(simp[*,errW_none,errW_some] <;> rfl),by (with_reducible repeat (first|apply ra'|apply rn'|apply rw'));exact Kd.R_mono (Kd.R_far (p:=⟨gb204,1,none⟩) (Kd.R_far (p:=⟨gb204,0,none⟩) (Kd.R_far (p:=⟨gb205,1,none⟩) (Kd.R_far (p:=⟨gb205,0,none⟩) (Kd.R_types (Kd.R_types HO208.out BK205.out (by decide)) BK204.out (by decide)) (fun _ hk=>hk.1.2) (.slice Ao10 t206.length co10)) (fun _ hk=>hk.1.2) (.int .i64 a0_1)) (fun _ hk=>hk.2) (.slice Ao10 t206.length co10)) (fun _ hk=>hk.2) (.int .i64 a0_1)) (fun _ hk=>trivial),y3' GE203.out GE204.out GE205.out⟩
def laws_toIntSS.l0:Nat→List (List Int)→List (List Int)→Int→Option ((List (List Int)))
 | 0,_,_,_=>none
 | k+1,x0,x3,x4=>if x4 < (x0.length:Int) then (if 0≤x4 then ((laws_toIntS.f k (rd_L2 x0 x4)).bind fun t213=>(if x4 < (x3.length:Int) then (laws_toIntSS.l0 k x0 (x3.set (x4:Int).toNat t213) (wrap64 (x4+1))) else (none))) else (none)) else (some x3)
def laws_toIntSS.f (k:Nat) (l0:List (List Int)):Option ((List (List Int))):=if 0≤(l0.length:Int) then (if ((l0.length:Int):Int).toNat≤11728124029610 then (laws_toIntSS.l0 k l0 (List.replicate ((l0.length:Int):Int).toNat []) 0) else (none)) else (none)
set_option maxHeartbeats 8000000 in
set_option maxRecDepth 100000 in
theorem laws_toIntSS.calls (k:Nat) (A0:Option Addr) (c0:Nat) (l0:List (List Int)) (r:List (List Int)) (w:World) (hr0:Kd.C (Kd.slice 3 (Kd.int .i64)) w A0 l0.length l0) (hc0:l0.length≤c0) (h:laws_toIntSS.f k l0=some r) :
  Calls Try.prog 24 #[.slice A0 l0.length c0] w fun e w'=>∃ v0_:Value,e = .returned (v0_)∧Kd.S (Kd.slice 3 (Kd.int .i64)) 22 w' w.heap.size (fun _=>True) v0_ r∧Below w.heap.size w w':=by
 have HR0:=am' hr0
 have HC0:=am' hc0
 clear hr0 hc0;have HB:=am' (Below.refl w.heap.size w)
 have H:(if 0≤(l0.length:Int) then (if ((l0.length:Int):Int).toNat≤11728124029610 then (laws_toIntSS.l0 k l0 (List.replicate ((l0.length:Int):Int).toNat []) 0) else (none)) else (none))=some r:=h
 clear h;by_cases c2:0≤(l0.length:Int)
 ·
  rw[if_pos c2] at H;have c2b0:=eq_true c2;have c2b1:decide (0≤(l0.length:Int))=true:=dt' c2;clear c2;by_cases c3:((l0.length:Int):Int).toNat≤11728124029610
  ·
   rw[if_pos c3] at H;have c3b0:=eq_true c3;have c3b1:decide (((l0.length:Int):Int).toNat≤11728124029610)=true:=dt' c3;clear c3;obtain ⟨y209,hy209⟩:∃ y_:List (List Int),y_=(List.replicate ((l0.length:Int):Int).toNat []):=⟨_,rfl⟩
   replace H:(laws_toIntSS.l0 k l0 y209 0)=some r:=by first|(rw[hy209];with_reducible exact H)|(have H2_:=(Option.bind_some _ _).symm.trans H;rw[hy209];with_reducible exact H2_)|(have H2_:=(Option.bind_some _ _).symm.trans H;with_reducible exact H2_)|with_reducible exact H|(rw[hy209];exact H)|exact H
   have Ny209:=am' hy209;clear hy209;have H':=am' H;clear H;go_enter Try.func24,Try.ntmps24;go_wp2_with (first|((with_reducible refine gate_dst (N:=7) rfl ?_);refine Kd.S_make (Kd.slice 3 (Kd.int .i64)) _ 22 rfl (N:=7) rfl 47 _ _ rfl (l0.length:Int) rfl rfl Try.underlying47 (.slice none 0 0) 24 info22 rfl (by decide) (by omega) [] (ok:=fun _=>True) (okp:=fun _=>True) ⟨_,rfl,Kd.R_nil _ _ _ _ _⟩ (fun _ hk=>hk) trivial (od' xa') (Nat.le_trans (Nat.mul_le_mul_right _ (od' xa':(l0.length:Int).toNat≤11728124029610)) (by omega)) (Below.refl _ _) (Nat.le_refl _) ?_;intro v210 w4 ho5 hb hg_ hnew_;clear hg_ hnew_;(first|rw[← Ny209.out] at ho5|(simp only[Int.reduceToNat] at ho5;rw[← Ny209.out] at ho5));have n0_:=am' (Kd.S_lower ho5 (bz' xb'));have n1_:=am' (bt' xb' hb);clear HB;have HO211:=n0_;have HB:=n1_;clear n0_ n1_;clear hb ho5));go_loopg [4] k (fun kq v4 w'=>∃ (x3_1:List (List Int)) (x4_1:Int),v4 = .int .i64 x4_1∧Aside0 (laws_toIntSS.l0 kq l0 x3_1 x4_1=some r)∧Aside0 (kq≤k)∧Aside0 (Kd.S (Kd.slice 3 (Kd.int .i64)) 22 w' w.heap.size (fun _=>True) v210 x3_1)∧Aside0 (Below w.heap.size w w'))
   case atStart=>exact ⟨(y209),(0),xs',H',⟨Nat.le_refl _⟩,⟨kS' HO211.out⟩,⟨xb'⟩⟩
   case round =>
    clear H';try clear c2
    try clear c2b0
    try clear c2b1
    try clear p2
    try clear c3
    try clear c3b0
    try clear c3b1
    obtain ⟨x3_1,x4_1,rfl,HA,HK1,HO_3,HB⟩:=hrel;cases gk with
    | zero=>exact absurd HA.out (by simp[laws_toIntSS.l0])
    | succ k1 =>
     have H:=HA.out;clear HA;simp only[laws_toIntSS.l0] at H;by_cases c6:x4_1 < (l0.length:Int)
     ·
      rw[if_pos c6] at H;have c6b0:decide (x4_1 < (l0.length:Int))=true:=dt' c6;clear c6;by_cases c7:0≤x4_1
      ·
       rw[if_pos c7] at H;have c7b0:decide (0≤x4_1)=true:=dt' c7;clear c7;replace H:=Option.bind_eq_some_iff.mp H;obtain ⟨t213,A80,H⟩:=H;replace H:(if x4_1 < (x3_1.length:Int) then (laws_toIntSS.l0 k1 l0 (x3_1.set (x4_1:Int).toNat t213) (wrap64 (x4_1+1))) else (none))=some r:=H;have A8:=am' A80;clear A80;by_cases c9:x4_1 < (x3_1.length:Int)
       ·
        rw[if_pos c9] at H;have c9b0:decide (x4_1 < (x3_1.length:Int))=true:=dt' c9;clear c9;obtain ⟨y216,hy216⟩:∃ y_:List (List Int),y_=(x3_1.set (x4_1:Int).toNat t213):=⟨_,rfl⟩
        replace H:(laws_toIntSS.l0 k1 l0 y216 (wrap64 (x4_1+1)))=some r:=by first|(rw[hy216];with_reducible exact H)|(have H2_:=(Option.bind_some _ _).symm.trans H;rw[hy216];with_reducible exact H2_)|(have H2_:=(Option.bind_some _ _).symm.trans H;with_reducible exact H2_)|with_reducible exact H|(rw[hy216];exact H)|exact H
        have Ny216:=am' hy216;clear hy216;have H':=am' H;clear H;have p212:0≤(x4_1:Int):=od' xa';have q212:x4_1 < (l0.length:Int):=od' xa';obtain ⟨ad212,A212_0,c212_0,e212,hx212_0,hl212_0,hi212_0⟩:=at_L2 HR0.out x4_1 p212 q212;cases e212;replace hx212_0:=(HB.out.cell (bl' w _ hx212_0)).trans hx212_0;have HR212_0:=am' hi212_0;have HC212_0:=am' hl212_0;clear hi212_0 hl212_0;replace p212:=eq_true p212;replace q212:=eq_true q212;go_wp2_with (first|((with_reducible refine gate_callee (f:=35) rfl ?_);refine goesL_ (some 20) rfl rfl Try.func35 xk' rfl #[.slice A212_0 (rd_L2 l0 x4_1).length c212_0] rfl xl' ?_;(with_reducible refine (laws_toIntS.calls k1 _ _ (rd_L2 l0 x4_1) t213 _ ?side1 ?side2 A8.out).mono ?_);(case side1=>exact kc' (cb' HR212_0.out HB.out));(case side2=>exact HC212_0.out);rintro e w11 ⟨v214,rfl,ho0,hb⟩;refine ⟨_,rfl,?_⟩;have n0_:=am' (Kd.S_elder' (kS' HO_3.out) (Kd.R_base ho0) hb);have n1_:=am' (Kd.R_lower ho0 (bz' xb'));have n2_:=am' (bt' xb' hb);clear HO_3;clear HB;have HO_3:=n0_;have HO215:=n1_;have HB:=n2_;clear n0_ n1_ n2_;(try clear hb);(try clear hb2);(try clear hk);(try clear hi);(try clear ho0);have p10:0≤(x4_1:Int):=od' xa';have q10:(x4_1:Int) < ((x3_1.length:Int):Int):=od' xa';obtain ⟨go10,co10,eo10,gb10,gl10,cl10,HG10⟩:=Kd.S_form HO_3.out (by omega);(first|cases eo10|(injection eo10 with ea_ en_ ec_;(first|subst ea_|(injection ea_ with ea_;subst ea_));subst ec_;clear en_));have GB10:=am' gb10;have GG10:=am' HG10;clear gb10 gl10 HG10;obtain ⟨_,ce10,hcl10,hM10,hcc10,hfr10,_,_⟩:=Kd.S_elem HO_3.out [] (x4_1:Int) p10 q10;obtain ⟨ve10_0,rfl,ge10_0⟩:=hM10;have hx10_0:=hcc10 0 _ rfl;have hf10_0:=hfr10 0;(try simp only[show ((Kd.slice 3 (Kd.int .i64))).sz=1 from rfl,Nat.mul_one,Nat.add_zero] at hx10_0);(try simp only[show ((Kd.slice 3 (Kd.int .i64))).sz=1 from rfl,Nat.mul_one,Nat.add_zero] at hf10_0);clear hcl10 hcc10 hfr10;(try clear hM10);replace p10:=eq_true p10;replace q10:=eq_true q10;have n_:=am' (Kd.S_mono (ok':=(fun k_=>some k_≠(v214:Value).ownBlock)) HO_3.out (fun k_ hk=>hk.2));clear HO_3;have HO_3:=n_;clear n_;obtain ⟨Ao14,co14,eo14⟩:=Kd.R_slice HO215.out;subst eo14;have HX12:=am' (show Kd.S (Kd.slice 3 (Kd.int .i64)) 22 w11 w.heap.size (fun k_=>((fun _=>True)) k_∧¬ ((fun k_=>some k_=(.slice Ao14 t213.length co14:Value).ownBlock)) k_) (.slice (some ⟨go10,0,none⟩) x3_1.length co10) x3_1 from (by (with_reducible repeat (first|apply Kd.S_alloc|apply Kd.S_drewN|apply Kd.S_drew));exact Kd.S_mono HO_3.out (fun k_ hk=>⟨trivial,fun e_=>hk e_⟩)));obtain ⟨oki12,ce12,hcl12,hM12,hcc12,hfr12,hoki12,hH12⟩:=Kd.S_elem HX12.out [] (x4_1:Int) (od' xa') (by have h_:(x4_1:Int) < ((x3_1.length:Int):Int):=od' xa';first|exact h_|(have e_:=(Kd.S_reads' HO_3.out).1;omega)|simpa using h_);obtain ⟨ve12_0,rfl,ge12_0⟩:=hM12;have HP12:=Kd.S_seg hH12 (od' xa') (by have h_:(x4_1:Int) < ((x3_1.length:Int):Int):=od' xa';first|exact h_|(have e_:=(Kd.S_reads' HO_3.out).1;omega)|simpa using h_) (seg:=[.slice Ao14 t213.length co14]) (j:=0) (show 1≤1 from by decide) (x':=t213) (Kd.M_row (Kd.R_mono (Kd.R_tight rfl (Kd.R_mono (ok':=fun k_=>((fun _=>True)) k_∧k_≠go10) (Kd.R_apart' (HO215.out) (Kd.S_typed HO_3.out) (by decide)) (fun k_ hk=>⟨trivial,fun e_=>(hk.2) (by rw[e_];rfl)⟩))) (fun _ h_=>Or.inr (h_)))) (fun _ hk=>hk) (fun k_ hk_=>((Kd.R_mono (ok':=fun k_=>((fun _=>True)) k_∧k_≠go10) (Kd.R_apart' (HO215.out) (Kd.S_typed HO_3.out) (by decide)) (fun k_ hk=>⟨trivial,fun e_=>(hk.2) (by rw[e_];rfl)⟩))).1 k_ hk_.symm);have hx12_0:=hcc12 0 _ rfl;(try simp only[show ((Kd.slice 3 (Kd.int .i64))).sz=1 from rfl,Nat.mul_one,Nat.add_zero] at hx12_0);have hf12_0:=hfr12 0;(try simp only[show ((Kd.slice 3 (Kd.int .i64))).sz=1 from rfl,Nat.mul_one,Nat.add_zero] at hf12_0);clear hcl12 hcc12 hfr12;(try clear hM12);clear hoki12 hH12;(try simp only[show ((Kd.slice 3 (Kd.int .i64))).sz=1 from rfl,Nat.mul_one,Nat.add_zero] at HP12))|((with_reducible refine gate_store (t:=22) (p:=21) rfl ?_);refine store_event (t:=22) (p:=21) (v:=?vo_w13) (w1:=(w11.setCell ⟨go10,(x4_1:Int).toNat,none⟩ (.slice Ao14 t213.length co14))) ?hg ?ho ?hn ?hr ?_;(case ho=>rfl);(case hg=>rfl);(case hn=>rfl);(case hr=>first|(go_simp;done)|(go_simp;rfl));intro w13 hw;have hg:w11.grownBy w13 (some go10):=(by rw[hw];exact HP12.2);have hp_:Kd.S (Kd.slice 3 (Kd.int .i64)) 22 w13 w.heap.size (fun _=>True) (.slice (some ⟨go10,0,none⟩) x3_1.length co10) y216:=(by rw[hw,Ny216.out];exact HP12.1);clear HP12;have n0_:=am' (hp_);have n1_:=am' ((by rw[hw];exact bs' (HB.out) GB10.out:Below w.heap.size w w13));clear HO_3;clear HB;clear HO215;have HO_3:=n0_;have HB:=n1_;clear n0_ n1_;clear hg hw hp_))
        go_roundg k1
        case measure=>have:=HK1.out;omega
        case rel=>exact ⟨(y216),(wrap64 (x4_1+1)),xs',H',⟨by have:=HK1.out;omega⟩,⟨kS' HO_3.out⟩,⟨xb'⟩⟩
       ·
        rw[if_neg c9] at H;exact absurd H (by simp)
      ·
       rw[if_neg c7] at H;exact absurd H (by simp)
     ·
      rw[if_neg c6] at H;have c6b0:decide (x4_1 < (l0.length:Int))=false:=df' c6;clear c6;obtain rfl:=os' H;go_wp2;go_ret
      exact ⟨_,by first|rfl|(simp[errW_none,errW_some] <;> rfl)|(simp[*,errW_none,errW_some] <;> rfl),kS' HO_3.out,xb'⟩
  ·
   rw[if_neg c3] at H;exact absurd H (by simp)
 ·
  rw[if_neg c2] at H;exact absurd H (by simp)
namespace Kd
def sliceS {α:Type} (e:Nat) (d:Kd α):Kd (List α) where
 sz:=1
 E:=e :: d.E
 K:=(Kd.slice e d).K
 M:=fun w base ok xs cs=>∃ v,cs=[v]∧Kd.S d e w base ok v xs
 K_len:=fun h=>(Kd.slice e d).K_len h
 K_one:=fun h=>(Kd.slice e d).K_one h
 K_below:=fun hb h=>(Kd.slice e d).K_below hb h
 K_of_M:=by
  rintro w base ok x cs ⟨v,rfl,h⟩
  obtain ⟨A,c,rfl,hl,hC⟩:=Kd.S_reads h;exact ⟨A,c,rfl,hl,hC⟩
 M_mono:=by
  rintro w base ok ok' x cs hk ⟨v,rfl,h⟩
  exact ⟨v,rfl,Kd.S_mono h hk⟩
 M_bound:=by
  rintro w base ok x cs ⟨v,rfl,h⟩
  exact ⟨v,rfl,Kd.S_bound h⟩
 M_move:=by
  rintro w w1 base ok x cs hm ⟨v,rfl,h⟩
  exact ⟨v,rfl,Kd.S_move h hm⟩
 M_lower:=by
  rintro w base base' ok x cs hb ⟨v,rfl,h⟩
  exact ⟨v,rfl,Kd.S_lower h hb⟩
end Kd
def toL (k:Nat):List (List (List Int))→Option (List (List (List Int)))
 | []=>some []
 | x :: r=>(laws_toIntSS.f k x).bind fun t=>(toL k r).bind fun ts=>some (t :: ts)
def laws_toIntSSS.f (k:Nat) (l0:List (List (List Int))):Option (List (List (List Int))):=if l0.length≤1000000000 then toL k l0 else none
set_option maxHeartbeats 8000000 in
set_option maxRecDepth 100000 in
theorem laws_toIntSSS.calls (k:Nat) (A0:Option Addr) (c0:Nat) (l0:List (List (List Int))) (r:List (List (List Int))) (w:World) (hr0:Kd.C (Kd.slice 22 (Kd.slice 3 (Kd.int .i64))) w A0 l0.length l0) (hc0:l0.length≤c0) (h:laws_toIntSSS.f k l0=some r) :
  Calls Try.prog 11 #[.slice A0 l0.length c0] w fun e w'=>∃ v0_:Value,e = .returned (v0_)∧Kd.S (Kd.sliceS 22 (Kd.slice 3 (Kd.int .i64))) 47 w' w.heap.size (fun _=>True) v0_ r∧Below w.heap.size w w':=by
 unfold laws_toIntSSS.f at h
 by_cases hn:l0.length≤1000000000
 ·
  rw[if_pos hn] at h;have HR:=am' hr0;have HN:=am' hn;have HT:=am' h;have hmax:=hr0.2.1;have hinfo:=am' (show (Try.prog.info? 47).map (fun i=>(i.zero,i.size,i.bytes))=some (some (.slice none 0 0),1,24) by kernel_rfl);clear hr0 hn h;go_enter Try.func11,Try.ntmps11;go_wp2_with ((with_reducible refine gate_dst (N:=7) rfl ?_);refine Kd.S_make (Kd.sliceS 22 (Kd.slice 3 (Kd.int .i64))) (w0:=w) (W:=w) w.heap.size 47 rfl (N:=7) rfl 28 _ _ rfl (l0.length:Int) rfl rfl Try.underlying28 (.slice none 0 0) 24 hinfo.out rfl (by decide) (by omega) [] (ok:=fun _=>True) (okp:=fun _=>True) ⟨_,rfl,Kd.S_nil _ _ _ _ _⟩ (fun _ hk=>hk) trivial (by omega) (by have:=HN.out;rw[Int.toNat_natCast];omega) (Below.refl _ _) (Nat.le_refl _) ?_;intro v3 w3 ho3 hb3 hg_ hnew_;clear hg_ hnew_;rw[Int.toNat_natCast] at ho3;obtain ⟨A3,c3,e3⟩:=Kd.S_slice ho3;rw[List.length_replicate] at e3;subst e3;have HS3:=am' ho3;have HB3:=am' hb3;clear ho3 hb3);go_loopg [4] l0.length (fun gg s4 wr=>∃ (j:Nat) (ts rs:List (List (List Int))),j≤l0.length∧l0.length - j≤gg∧s4 = .int .i64 (j:Int)∧ts.length=j∧Aside0 (toL k (l0.drop j)=some rs)∧Aside0 (ts ++ rs=r)∧Aside0 (Kd.S (Kd.sliceS 22 (Kd.slice 3 (Kd.int .i64))) 47 wr w.heap.size (fun _=>True) (.slice A3 l0.length c3) (ts ++ List.replicate (l0.length - j) []))∧Aside0 (Below w.heap.size w wr))
  case atStart=>exact ⟨0,[],r,Nat.zero_le _,by omega,rfl,rfl,HT,⟨rfl⟩,HS3,HB3⟩
  case round =>
   obtain ⟨j,ts,rs,hj,hg,rfl,hts,HTL,HE,HS,HB⟩:=hrel;clear HS3 HB3 HT;by_cases hlt:j < l0.length
   ·
    have hltz:(j:Int) < (l0.length:Int):=by omega
    obtain ⟨ad,c,e0,hcl,hK,hcc⟩:=Kd.C_get (cb' HR.out HB.out) [] (j:Int) (by omega) hltz;cases e0;obtain ⟨x,hx⟩:∃ x,l0[j]? = some x:=⟨_,List.getElem?_eq_getElem hlt⟩
    rw[Int.toNat_natCast,List.getD_eq_getElem?_getD,hx,Option.getD_some] at hK;obtain ⟨Ax,cx,rfl,hlc,hCx⟩:=hK
    have y0:wr.cell? (ad.add j)=some (.slice Ax x.length cx):=by
     have:=hcc 0 _ rfl;rw[Int.toNat_natCast] at this;simpa [Kd.slice] using this
    have hx2:l0[j]'hlt=x:=by
     have:=List.getElem?_eq_getElem hlt
     rw[hx] at this;exact (os' this).symm
    have ht:=HTL.out;rw[List.drop_eq_getElem_cons hlt,hx2,toL] at ht;obtain ⟨t,ht1,ht⟩:=Option.bind_eq_some_iff.mp ht;obtain ⟨ts2,ht2,ht⟩:=Option.bind_eq_some_iff.mp ht;obtain rfl:=os' ht;have HC:=am' (laws_toIntSS.calls k Ax cx x t wr hCx hlc ht1);have HT2:=am' ht2;have hcur:(ts ++ List.replicate (l0.length - j) []).length=l0.length:=by rw[List.length_append,List.length_replicate];omega
    obtain ⟨g,cap,hv,hgb,hgl,cells,hgc⟩:=Kd.S_form HS.out (by omega);injection hv with hA hn2 hc2
    subst hA;have HGB:=am' hgb;have HGL:=am' hgl;have HGC:=am' hgc;clear hcl hcc hCx hlc hx hx2 ht1 ht2 ht HTL hn2 hc2 hgb hgl hgc;go_wp2_with fail;go_at_call 24
    refine HC.out.mono ?_
    rintro e w4 ⟨v4,rfl,ho4,hb4⟩
    obtain ⟨A4,c4,rfl⟩:=Kd.S_slice ho4;have hS4:=Kd.S_mono (Kd.S_old HS.out hb4) (ok':=fun k_=>True∧¬ (wr.heap.size≤k_)) (fun k_ hk=>⟨trivial,by have:=hk.2;omega⟩);obtain ⟨oki,ce,hcl,hM,hcc,hfr,hoki,hH⟩:=Kd.S_elem hS4 [] (j:Int) (by omega) hltz;obtain ⟨ve,rfl,_⟩:=hM;have hsg:=Kd.S_seg (okp:=fun k_=>wr.heap.size≤k_) hH (by omega) hltz (seg:=[.slice A4 t.length c4]) (j:=0) (x':=t) (show 1≤1 from Nat.le_refl 1) ⟨.slice A4 t.length c4,by simp,Kd.S_lower (Kd.S_mono (Kd.S_bound ho4) (fun k_ hk=>hk.2.1)) HB.out.size⟩ (fun k_ hk => .inr hk) (fun k_ hk=>⟨trivial,by have:=HGL.out;omega⟩);have z0:=hcc 0 _ rfl;have z1:=hfr 0;simp only[show (Kd.sliceS 22 (Kd.slice 3 (Kd.int .i64))).sz=1 from rfl,Nat.mul_one,Nat.add_zero,Int.toNat_natCast] at z0 z1;have HP:=am' hsg.1;have HB4:=am' hb4;clear hS4 hcl hcc hfr hoki hH hsg ho4 hb4 y0;go_wp2;go_roundg (l0.length - (j+1))
    case measure=>omega
    case rel =>
     have hHN:=HN.out;refine ⟨j+1,ts ++ [t],ts2,by omega,by omega,by first|rfl|exact nxt (by omega)|exact nxt2 (by omega),by simp[hts],HT2,⟨by rw[← HE.out];simp⟩,⟨?_⟩,⟨bs' (bt' HB.out HB4.out) HGB.out⟩⟩;have h1:=HP.out;simp only[show (Kd.sliceS 22 (Kd.slice 3 (Kd.int .i64))).sz=1 from rfl,Nat.mul_one,Nat.add_zero,Int.toNat_natCast] at h1
     have e1:(ts ++ List.replicate (l0.length - j) []).set j t=(ts ++ [t]) ++ List.replicate (l0.length - (j+1)) []:=by
      rw[show l0.length - j=(l0.length - (j+1))+1 by omega,List.replicate_succ,List.set_append_right _ _ (by omega),hts,Nat.sub_self,sb',List.append_assoc];rfl
     rw[e1] at h1;exact h1
   ·
    obtain rfl:j=l0.length:=by omega
    have hnl:¬ ((l0.length:Nat):Int) < (l0.length:Int):=by omega
    have ht:=HTL.out;rw[List.drop_length,toL] at ht;obtain rfl:=os' ht;go_wp2;go_ret
    refine ⟨_,rfl,?_,HB.out⟩;have h1:=HS.out;rw[Nat.sub_self,List.replicate_zero,List.append_nil] at h1;rw[← HE.out,List.append_nil];exact h1
 ·
  rw[if_neg hn] at h;cases h
def impl_in.f (a0:Int) (a1:Int) (a2:Int):Option (Bool):=if a1≤a0 then (some (decide (a0≤a2))) else (some false)
set_option maxHeartbeats 8000000 in
set_option maxRecDepth 100000 in
theorem impl_in.calls (a0:Int) (a1:Int) (a2:Int) (r:Bool) (w:World) (h:impl_in.f a0 a1 a2=some r) :
  Calls Try.prog 66 #[.int .i64 a0, .int .i64 a1, .int .i64 a2] w fun e w'=>e = .returned (.bool r)∧Drawn0 w w':=by
 have H:(if a1≤a0 then (some (decide (a0≤a2))) else (some false))=some r:=h
 clear h;by_cases c4:a1≤a0
 ·
  rw[if_pos c4] at H;have c4b0:decide (a1≤a0)=true:=dt' c4;clear c4;obtain rfl:=os' H;go_enter Try.func66,Try.ntmps66;go_wp2;go_ret
  exact ⟨xs',by repeat (first|exact Drawn0.refl _|apply Drawn0.step)⟩
 ·
  rw[if_neg c4] at H;have c4b0:decide (a1≤a0)=false:=df' c4;clear c4;obtain rfl:=os' H;go_enter Try.func66,Try.ntmps66;go_wp2;go_ret
  exact ⟨xs',by repeat (first|exact Drawn0.refl _|apply Drawn0.step)⟩
def PredOn (g:Nat) (lb:Array Value) (p:Int→Bool) (xs:List Int) (w:World):Prop :=
 ∀ x,x ∈ xs→∀ W:World,Below w.heap.size w W→Calls Try.prog g (#[.int .i64 x] ++ lb) W fun e w'=>e = .returned (.bool (p x))∧Below W.heap.size W w'
set_option maxHeartbeats 2000000 in
set_option maxRecDepth 100000 in
theorem IndexFunc_any (g:Nat) (lb:Array Value) (p:Int→Bool) (eg:∀ args w,(callFunc g args).run Try.prog w = .ok (.enter g args) w) (A0:Option Addr) (c0:Nat) (xs:List Int) (w:World) (hr:Kd.C (Kd.int .i64) w A0 xs.length xs) (hl:xs.length≤c0) (hbig:xs.length≤9223372036854775807)
  (hp:PredOn g lb p xs w) :
  Calls Try.prog 95 #[.slice A0 xs.length c0, .func (.func g) #[] lb] w fun e w'=>e = .returned (.int .i64 (idxF p xs))∧Below w.heap.size w w':=by
 have HP:=am' hp
 have HR:=am' hr
 clear hp hr;go_enter Try.func95,Try.ntmps95
 go_wp2
 go_loopg [5,8] xs.length (fun gg _ s8 wr=>∃ kk:Nat,kk≤xs.length∧xs.length - kk≤gg∧s8 = .int .i64 kk∧Aside0 (Below w.heap.size w wr)∧Aside0 (∀ j,j < kk→p (rd xs (j:Nat))=false))
 case atStart=>exact ⟨0,Nat.zero_le _,by omega,rfl,⟨Below.refl _ w⟩,⟨fun j hj=>absurd hj (Nat.not_lt_zero _)⟩⟩
 case round =>
  obtain ⟨kk,hkk,hg,rfl,BW,AA⟩:=hrel;by_cases hlt:kk < xs.length
  ·
   have hltz:(kk:Int) < (xs.length:Int):=by omega
   obtain ⟨ad,e0,hx0⟩:=Kd.at_int HR.out (kk:Int) (by omega) hltz;cases e0;have hx:=(BW.out.cell (bl' w _ hx0)).trans hx0;clear hx0;rw[Int.toNat_natCast] at hx;have hcall:=HP.out (rd xs kk) (rd_mem xs kk hlt) wr BW.out;generalize hy:rd xs kk=y at hx hcall
   have B:Aside0 (rd xs kk=y):=⟨hy⟩
   clear hy;cases hq:p y with
   | true =>
    rw[hq] at hcall;go_wp2_with fail;refine hcall.mono ?_
    rintro e w' ⟨rfl,hb'⟩
    clear hcall hx;go_wp2;go_ret
    refine ⟨?_,bt' BW.out hb'⟩;rw[idxF_hit p xs kk hlt (by rw[B.out];exact hq) AA.out];rfl
   | false =>
    rw[hq] at hcall;go_wp2_with fail;refine hcall.mono ?_
    rintro e w' ⟨rfl,hb'⟩
    clear hcall hx;go_wp2;go_roundg (xs.length - (kk+1))
    case measure=>omega
    case rel =>
     refine ⟨kk+1,by omega,by omega,by go_num,⟨bt' BW.out hb'⟩,⟨fun j hj=>?_⟩⟩;by_cases e:j=kk
     ·
      subst e;rw[B.out];exact hq
     ·
      exact AA.out j (by omega)
  ·
   have hltz:¬ (kk:Int) < (xs.length:Int):=by omega
   have:kk=xs.length:=by omega
   subst this;go_wp2;go_ret
   refine ⟨?_,BW.out⟩;rw[idxF_miss p xs AA.out];rfl
set_option maxHeartbeats 2000000 in
set_option maxRecDepth 100000 in
theorem ContainsFunc_any (g:Nat) (lb:Array Value) (p:Int→Bool) (eg:∀ args w,(callFunc g args).run Try.prog w = .ok (.enter g args) w) (A0:Option Addr) (c0:Nat) (xs:List Int) (w:World) (hr:Kd.C (Kd.int .i64) w A0 xs.length xs) (hl:xs.length≤c0) (hbig:xs.length≤9223372036854775807)
  (hp:PredOn g lb p xs w) :
  Calls Try.prog 82 #[.slice A0 xs.length c0, .func (.func g) #[] lb] w fun e w'=>e = .returned (.bool (xs.any p))∧Below w.heap.size w w':=by
 have HH:=am' (IndexFunc_any g lb p eg A0 c0 xs w hr hl hbig hp)
 clear hr hl hp;go_enter Try.func82,Try.ntmps82
 go_wp2_with (go_at_call 95;refine HH.out.mono ?_;rintro e w' ⟨rfl,hb⟩)
 go_ret
 refine ⟨?_,hb⟩
 rw[← idxF_any]
 rfl
theorem in_calls (x lo hi:Int) (w:World):Calls Try.prog 66 #[.int .i64 x, .int .i64 lo, .int .i64 hi] w fun e w'=>e = .returned (.bool (inB lo hi x))∧Below w.heap.size w w' :=
 (impl_in.calls x lo hi (inB lo hi x) w (by unfold impl_in.f inB;by_cases h:lo≤x <;> simp [h])).mono fun e w' ⟨he,hd⟩=>⟨he,hd.below⟩
theorem areIn1_calls (x lo hi:Int) (b1 b2:Nat) (w:World) (h1:w.cell? ⟨b1,0,none⟩=some (.int .i64 lo)) (h2:w.cell? ⟨b2,0,none⟩=some (.int .i64 hi)) :
  Calls Try.prog 83 #[.int .i64 x, .pointer (some ⟨b1,0,none⟩), .pointer (some ⟨b2,0,none⟩)] w fun e w'=>e = .returned (.bool (!inB lo hi x))∧Below w.heap.size w w':=by
 go_enter Try.func83,Try.ntmps83
 go_wp2_with (go_at_call 66;refine (in_calls _ _ _ _).mono ?_;rintro e w' ⟨rfl,hb⟩)
 go_ret
 exact ⟨rfl,hb⟩
theorem areIn_pred (lo hi:Int) (b1 b2:Nat) (xs:List Int) (w:World) (h1:w.cell? ⟨b1,0,none⟩=some (.int .i64 lo)) (h2:w.cell? ⟨b2,0,none⟩=some (.int .i64 hi)) :
  PredOn 83 #[.pointer (some ⟨b1,0,none⟩), .pointer (some ⟨b2,0,none⟩)] (fun x => !inB lo hi x) xs w:=fun x _ W hb =>
 areIn1_calls x lo hi b1 b2 W ((hb.cell (bl' w _ h1)).trans h1) ((hb.cell (bl' w _ h2)).trans h2)
def impl_areIn.f (l0:List Int) (a1 a2 a3 a4:Int):Option Bool:=some (inB a3 a4 (l0.length:Int) && l0.all (inB a1 a2))
set_option maxHeartbeats 2000000 in
set_option maxRecDepth 100000 in
theorem impl_areIn.calls (A0:Option Addr) (c0:Nat) (l0:List Int) (a1 a2 a3 a4:Int) (r:Bool) (w:World) (hr0:Kd.C (Kd.int .i64) w A0 l0.length l0) (hc0:l0.length≤c0) (h:impl_areIn.f l0 a1 a2 a3 a4=some r) :
  Calls Try.prog 65 #[.slice A0 l0.length c0, .int .i64 a1, .int .i64 a2, .int .i64 a3, .int .i64 a4] w fun e w'=>e = .returned (.bool r)∧Below w.heap.size w w':=by
 have hbig:l0.length≤9223372036854775807:=hr0.2.1
 have HC:=am' (fun (w1:World) (h1:Below w.heap.size w w1) (b1 b2:Nat) (e1:w1.cell? ⟨b1,0,none⟩=some (.int .i64 a1)) (e2:w1.cell? ⟨b2,0,none⟩=some (.int .i64 a2)) =>
  ContainsFunc_any 83 #[.pointer (some ⟨b1,0,none⟩), .pointer (some ⟨b2,0,none⟩)] (fun x => !inB a1 a2 x) (enters_of Try.func83 xk' rfl) A0 c0 l0 w1 (cb' hr0 h1) hc0 hbig (areIn_pred a1 a2 b1 b2 l0 w1 e1 e2))
 clear hr0;cases hi:inB a3 a4 (l0.length:Int) with
 | false =>
  obtain rfl:false=r:=by unfold impl_areIn.f at h;simpa [hi] using h
  clear h;go_enter Try.func65,Try.ntmps65;go_wp2_with (go_at_call 66;refine (in_calls _ _ _ _).mono ?_;rintro e w' ⟨rfl,hb⟩);go_ret
  exact ⟨rfl,(after_alloc (after_alloc hb).1).1⟩
 | true =>
  obtain rfl:l0.all (inB a1 a2)=r:=by unfold impl_areIn.f at h;simpa [hi] using h
  clear h;go_enter Try.func65,Try.ntmps65;go_wp2_with (go_at_call 66;refine (in_calls _ _ _ _).mono ?_;rintro e w' ⟨rfl,hb⟩);have h2:=after_alloc hb;have h1:=after_alloc h2.1;rw[World.size_alloc] at h2;refine (HC.out w' h1.1 _ _ ((bc' h1.2 0).trans rfl) ((bc' h2.2 0).trans rfl)).mono ?_
  rintro e w2 ⟨rfl,hb2⟩
  clear hb h2;have HB2:=am' (bt' h1.1 hb2);clear h1 hb2;go_wp2;go_ret
  refine ⟨?_,HB2.out⟩;rw[← any_not_all];rfl
def impl_IsNight.f (l0_0:List Int) (a0_1:Int) (a0_2:Int):Option (Bool):=(impl_areIn.f l0_0 1 1000 1 6).bind fun t218=>(if t218=true then ((impl_in.f a0_1 1 3).bind fun t219=>(if t219=true then ((impl_in.f a0_2 1 2).bind fun t220=>(some t220)) else (some false))) else (some false))
set_option maxHeartbeats 8000000 in
set_option maxRecDepth 100000 in
theorem impl_IsNight.calls (A0_0:Option Addr) (c0_0:Nat) (l0_0:List Int) (a0_1:Int) (a0_2:Int) (r:Bool) (w:World) (hr0_0:Kd.C (Kd.int .i64) w A0_0 l0_0.length l0_0) (hc0_0:l0_0.length≤c0_0) (h:impl_IsNight.f l0_0 a0_1 a0_2=some r) :
  Calls Try.prog 56 #[.agg #[.slice A0_0 l0_0.length c0_0, .int .i64 a0_1, .int .i64 a0_2]] w fun e w'=>e = .returned (.bool r)∧Below w.heap.size w w':=by
 have hu35:=Try.underlying35
 have HR0_0:=am' hr0_0
 have HC0_0:=am' hc0_0
 clear hr0_0 hc0_0;have HB:=am' (Below.refl w.heap.size w)
 have H:((impl_areIn.f l0_0 1 1000 1 6).bind fun t218=>(if t218=true then ((impl_in.f a0_1 1 3).bind fun t219=>(if t219=true then ((impl_in.f a0_2 1 2).bind fun t220=>(some t220)) else (some false))) else (some false)))=some r:=h
 clear h;replace H:=Option.bind_eq_some_iff.mp H
 obtain ⟨t218,A20,H⟩:=H
 replace H:(if t218=true then ((impl_in.f a0_1 1 3).bind fun t219=>(if t219=true then ((impl_in.f a0_2 1 2).bind fun t220=>(some t220)) else (some false))) else (some false))=some r:=H
 have A2:=am' A20
 clear A20;by_cases c3:t218=true
 ·
  subst c3;have H1:((impl_in.f a0_1 1 3).bind fun t219=>(if t219=true then ((impl_in.f a0_2 1 2).bind fun t220=>(some t220)) else (some false)))=some r:=by rw[if_pos rfl] at H;exact H
  clear H;have H:=H1;clear H1;replace H:=Option.bind_eq_some_iff.mp H;obtain ⟨t219,A40,H⟩:=H;replace H:(if t219=true then ((impl_in.f a0_2 1 2).bind fun t220=>(some t220)) else (some false))=some r:=H;have A4:=am' A40;clear A40;by_cases c5:t219=true
  ·
   subst c5;have H1:((impl_in.f a0_2 1 2).bind fun t220=>(some t220))=some r:=by rw[if_pos rfl] at H;exact H
   clear H;have H:=H1;clear H1;replace H:=Option.bind_eq_some_iff.mp H;obtain ⟨t220,A60,H⟩:=H;replace H:(some t220)=some r:=H;have A6:=am' A60;clear A60;obtain rfl:=os' H;go_enter Try.func56,Try.ntmps56;go_wp2_with (first|((with_reducible refine gate_dst (N:=1) rfl ?_);refine box_event ?hg (N:=1) ?hd (cs:=#[.slice A0_0 l0_0.length c0_0, .int .i64 a0_1, .int .i64 a0_2]) (t:=35) ?hr ?_;(case hd=>rfl);(case hg=>rfl);(case hr=>first|(go_simp;done)|(go_simp;rfl));intro gb217 hg w7 hbox hb;have n0_:=am' (bt' xb' hb);have n1_:=am' (hbox);have n2_:=am' ((by rw[hg];exact (bz' xb'):w.heap.size≤gb217));have n3_:=am' ((by rw[hg];exact (bz' xb'):w.heap.size≤gb217));clear HB;have HB:=n0_;have BK217:=n1_;have GW217:=n2_;have GE217:=n3_;clear n0_ n1_ n2_ n3_;clear hb hbox hg;have hcz8_0:w7.cell? ⟨gb217,0,none⟩=some (.slice A0_0 l0_0.length c0_0):=(bc' BK217.out 0).trans rfl;have hcz8_1:w7.cell? ⟨gb217,1,none⟩=some (.int .i64 a0_1):=(bc' BK217.out 1).trans rfl;have hcz8_2:w7.cell? ⟨gb217,2,none⟩=some (.int .i64 a0_2):=(bc' BK217.out 2).trans rfl;have hfz8_0:=bf' BK217.out 0;have hfz8_1:=bf' BK217.out 1;have hfz8_2:=bf' BK217.out 2)|((with_reducible refine gate_callee (f:=65) rfl ?_);refine goesL_ (some 5) rfl rfl Try.func65 xk' rfl #[.slice A0_0 l0_0.length c0_0, .int .i64 1, .int .i64 1000, .int .i64 1, .int .i64 6] rfl xl' ?_;(with_reducible refine (impl_areIn.calls _ _ l0_0 1 1000 1 6 true _ ?side1 ?side2 A2.out).mono ?_);(case side1=>exact kc' (cb' HR0_0.out HB.out));(case side2=>exact HC0_0.out);rintro e w9 ⟨rfl,hb⟩;refine ⟨_,rfl,?_⟩;have n0_:=am' (bb' (g:=gb217) (o := .cells #[.slice A0_0 l0_0.length c0_0, .int .i64 a0_1, .int .i64 a0_2] 35 (0,0)) (kk' BK217.out) hb);have n1_:=am' (bt' (yb' GE217.out) hb);clear BK217;clear HB;have BK217:=n0_;have HB:=n1_;clear n0_ n1_;(try clear hb);(try clear hb2);(try clear hk);(try clear hi);have hcz10_0:w9.cell? ⟨gb217,0,none⟩=some (.slice A0_0 l0_0.length c0_0):=(bc' BK217.out 0).trans rfl;have hcz10_1:w9.cell? ⟨gb217,1,none⟩=some (.int .i64 a0_1):=(bc' BK217.out 1).trans rfl;have hcz10_2:w9.cell? ⟨gb217,2,none⟩=some (.int .i64 a0_2):=(bc' BK217.out 2).trans rfl;have hfz10_0:=bf' BK217.out 0;have hfz10_1:=bf' BK217.out 1;have hfz10_2:=bf' BK217.out 2)|(go_at_call 66;(with_reducible refine (impl_in.calls a0_1 1 3 true _ A4.out).mono ?_);rintro e w' ⟨rfl,⟨nd,rfl⟩⟩)|(go_at_call 66;(with_reducible refine (impl_in.calls a0_2 1 2 t220 _ A6.out).mono ?_);rintro e w' ⟨rfl,⟨nd,rfl⟩⟩))
   go_ret
   exact ⟨by first|rfl|(simp[errW_none,errW_some] <;> rfl)|(simp[*,errW_none,errW_some] <;> rfl),yb' GE217.out⟩
  ·
   replace c5:=Bool.eq_false_iff.mpr c5;subst c5;have H1:(some false)=some r:=by rw[if_neg (show ¬ (false=true) by decide)] at H;exact H
   clear H;have H:=H1;clear H1;obtain rfl:=os' H;go_enter Try.func56,Try.ntmps56;go_wp2_with (first|((with_reducible refine gate_dst (N:=1) rfl ?_);refine box_event ?hg (N:=1) ?hd (cs:=#[.slice A0_0 l0_0.length c0_0, .int .i64 a0_1, .int .i64 a0_2]) (t:=35) ?hr ?_;(case hd=>rfl);(case hg=>rfl);(case hr=>first|(go_simp;done)|(go_simp;rfl));intro gb217 hg w11 hbox hb;have n0_:=am' (bt' xb' hb);have n1_:=am' (hbox);have n2_:=am' ((by rw[hg];exact (bz' xb'):w.heap.size≤gb217));have n3_:=am' ((by rw[hg];exact (bz' xb'):w.heap.size≤gb217));clear HB;have HB:=n0_;have BK217:=n1_;have GW217:=n2_;have GE217:=n3_;clear n0_ n1_ n2_ n3_;clear hb hbox hg;have hcz12_0:w11.cell? ⟨gb217,0,none⟩=some (.slice A0_0 l0_0.length c0_0):=(bc' BK217.out 0).trans rfl;have hcz12_1:w11.cell? ⟨gb217,1,none⟩=some (.int .i64 a0_1):=(bc' BK217.out 1).trans rfl;have hcz12_2:w11.cell? ⟨gb217,2,none⟩=some (.int .i64 a0_2):=(bc' BK217.out 2).trans rfl;have hfz12_0:=bf' BK217.out 0;have hfz12_1:=bf' BK217.out 1;have hfz12_2:=bf' BK217.out 2)|((with_reducible refine gate_callee (f:=65) rfl ?_);refine goesL_ (some 5) rfl rfl Try.func65 xk' rfl #[.slice A0_0 l0_0.length c0_0, .int .i64 1, .int .i64 1000, .int .i64 1, .int .i64 6] rfl xl' ?_;(with_reducible refine (impl_areIn.calls _ _ l0_0 1 1000 1 6 true _ ?side1 ?side2 A2.out).mono ?_);(case side1=>exact kc' (cb' HR0_0.out HB.out));(case side2=>exact HC0_0.out);rintro e w13 ⟨rfl,hb⟩;refine ⟨_,rfl,?_⟩;have n0_:=am' (bb' (g:=gb217) (o := .cells #[.slice A0_0 l0_0.length c0_0, .int .i64 a0_1, .int .i64 a0_2] 35 (0,0)) (kk' BK217.out) hb);have n1_:=am' (bt' (yb' GE217.out) hb);clear BK217;clear HB;have BK217:=n0_;have HB:=n1_;clear n0_ n1_;(try clear hb);(try clear hb2);(try clear hk);(try clear hi);have hcz14_0:w13.cell? ⟨gb217,0,none⟩=some (.slice A0_0 l0_0.length c0_0):=(bc' BK217.out 0).trans rfl;have hcz14_1:w13.cell? ⟨gb217,1,none⟩=some (.int .i64 a0_1):=(bc' BK217.out 1).trans rfl;have hcz14_2:w13.cell? ⟨gb217,2,none⟩=some (.int .i64 a0_2):=(bc' BK217.out 2).trans rfl;have hfz14_0:=bf' BK217.out 0;have hfz14_1:=bf' BK217.out 1;have hfz14_2:=bf' BK217.out 2)|(go_at_call 66;(with_reducible refine (impl_in.calls a0_1 1 3 false _ A4.out).mono ?_);rintro e w' ⟨rfl,⟨nd,rfl⟩⟩))
   go_ret
   exact ⟨by first|rfl|(simp[errW_none,errW_some] <;> rfl)|(simp[*,errW_none,errW_some] <;> rfl),yb' GE217.out⟩
 ·
  replace c3:=Bool.eq_false_iff.mpr c3;subst c3;have H1:(some false)=some r:=by rw[if_neg (show ¬ (false=true) by decide)] at H;exact H
  clear H;have H:=H1;clear H1;obtain rfl:=os' H;go_enter Try.func56,Try.ntmps56;go_wp2_with (first|((with_reducible refine gate_dst (N:=1) rfl ?_);refine box_event ?hg (N:=1) ?hd (cs:=#[.slice A0_0 l0_0.length c0_0, .int .i64 a0_1, .int .i64 a0_2]) (t:=35) ?hr ?_;(case hd=>rfl);(case hg=>rfl);(case hr=>first|(go_simp;done)|(go_simp;rfl));intro gb217 hg w15 hbox hb;have n0_:=am' (bt' xb' hb);have n1_:=am' (hbox);have n2_:=am' ((by rw[hg];exact (bz' xb'):w.heap.size≤gb217));have n3_:=am' ((by rw[hg];exact (bz' xb'):w.heap.size≤gb217));clear HB;have HB:=n0_;have BK217:=n1_;have GW217:=n2_;have GE217:=n3_;clear n0_ n1_ n2_ n3_;clear hb hbox hg;have hcz16_0:w15.cell? ⟨gb217,0,none⟩=some (.slice A0_0 l0_0.length c0_0):=(bc' BK217.out 0).trans rfl;have hcz16_1:w15.cell? ⟨gb217,1,none⟩=some (.int .i64 a0_1):=(bc' BK217.out 1).trans rfl;have hcz16_2:w15.cell? ⟨gb217,2,none⟩=some (.int .i64 a0_2):=(bc' BK217.out 2).trans rfl;have hfz16_0:=bf' BK217.out 0;have hfz16_1:=bf' BK217.out 1;have hfz16_2:=bf' BK217.out 2)|((with_reducible refine gate_callee (f:=65) rfl ?_);refine goesL_ (some 5) rfl rfl Try.func65 xk' rfl #[.slice A0_0 l0_0.length c0_0, .int .i64 1, .int .i64 1000, .int .i64 1, .int .i64 6] rfl xl' ?_;(with_reducible refine (impl_areIn.calls _ _ l0_0 1 1000 1 6 false _ ?side1 ?side2 A2.out).mono ?_);(case side1=>exact kc' (cb' HR0_0.out HB.out));(case side2=>exact HC0_0.out);rintro e w17 ⟨rfl,hb⟩;refine ⟨_,rfl,?_⟩;have n0_:=am' (bb' (g:=gb217) (o := .cells #[.slice A0_0 l0_0.length c0_0, .int .i64 a0_1, .int .i64 a0_2] 35 (0,0)) (kk' BK217.out) hb);have n1_:=am' (bt' (yb' GE217.out) hb);clear BK217;clear HB;have BK217:=n0_;have HB:=n1_;clear n0_ n1_;(try clear hb);(try clear hb2);(try clear hk);(try clear hi)));go_ret
  exact ⟨by first|rfl|(simp[errW_none,errW_some] <;> rfl)|(simp[*,errW_none,errW_some] <;> rfl),yb' GE217.out⟩
def impl_Night_hasCamp.f (l0_0:List Int) (a0_1:Int) (a0_2:Int) (l1_0:List Bool) (a1_1:Int):Option (Bool):=if (l1_0.length:Int)=(l0_0.length:Int) then ((impl_in.f a1_1 0 a0_2).bind fun t223=>(some t223)) else (some false)
set_option maxHeartbeats 8000000 in
set_option maxRecDepth 100000 in
theorem impl_Night_hasCamp.calls (A0_0:Option Addr) (c0_0:Nat) (l0_0:List Int) (a0_1:Int) (a0_2:Int) (A1_0:Option Addr) (c1_0:Nat) (l1_0:List Bool) (a1_1:Int) (r:Bool) (w:World) (hr0_0:Kd.C (Kd.int .i64) w A0_0 l0_0.length l0_0) (hc0_0:l0_0.length≤c0_0) (hr1_0:Kd.C Kd.bool w A1_0 l1_0.length l1_0) (hc1_0:l1_0.length≤c1_0) (h:impl_Night_hasCamp.f l0_0 a0_1 a0_2 l1_0 a1_1=some r) :
  Calls Try.prog 57 #[.agg #[.slice A0_0 l0_0.length c0_0, .int .i64 a0_1, .int .i64 a0_2], .agg #[.slice A1_0 l1_0.length c1_0, .int .i64 a1_1]] w fun e w'=>e = .returned (.bool r)∧Below w.heap.size w w':=by
 have hu35:=Try.underlying35
 have hu32:=Try.underlying32
 have HR0_0:=am' hr0_0
 have HC0_0:=am' hc0_0
 clear hr0_0 hc0_0;have HR1_0:=am' hr1_0
 have HC1_0:=am' hc1_0
 clear hr1_0 hc1_0;have HB:=am' (Below.refl w.heap.size w)
 have H:(if (l1_0.length:Int)=(l0_0.length:Int) then ((impl_in.f a1_1 0 a0_2).bind fun t223=>(some t223)) else (some false))=some r:=h
 clear h;by_cases c3:(l1_0.length:Int)=(l0_0.length:Int)
 ·
  rw[if_pos c3] at H;have c3b0:((l1_0.length:Int) == (l0_0.length:Int))=true:=beq_iff_eq.mpr c3;have c3b1:((l1_0.length:Int) != (l0_0.length:Int))=false:=bne_eq_false_iff_eq.mpr c3;have c3b2:(l1_0.length == l0_0.length)=true:=by first|simpa using c3|(simp at c3 ⊢;omega)
  clear c3;replace H:=Option.bind_eq_some_iff.mp H;obtain ⟨t223,A40,H⟩:=H;replace H:(some t223)=some r:=H;have A4:=am' A40;clear A40;obtain rfl:=os' H;go_enter Try.func57,Try.ntmps57;go_wp2_with (first|((with_reducible refine gate_dst (N:=2) rfl ?_);refine box_event ?hg (N:=2) ?hd (cs:=#[.slice A0_0 l0_0.length c0_0, .int .i64 a0_1, .int .i64 a0_2]) (t:=35) ?hr ?_;(case hd=>rfl);(case hg=>rfl);(case hr=>first|(go_simp;done)|(go_simp;rfl));intro gb221 hg w5 hbox hb;have n0_:=am' (bt' xb' hb);have n1_:=am' (hbox);have n2_:=am' ((by rw[hg];exact (bz' xb'):w.heap.size≤gb221));have n3_:=am' ((by rw[hg];exact (bz' xb'):w.heap.size≤gb221));clear HB;have HB:=n0_;have BK221:=n1_;have GW221:=n2_;have GE221:=n3_;clear n0_ n1_ n2_ n3_;clear hb hbox hg)|((with_reducible refine gate_dst (N:=3) rfl ?_);refine box_event ?hg (N:=3) ?hd (cs:=#[.slice A1_0 l1_0.length c1_0, .int .i64 a1_1]) (t:=32) ?hr ?_;(case hd=>rfl);(case hg=>rfl);(case hr=>first|(go_simp;done)|(go_simp;rfl));intro gb222 hg w6 hbox hb;have n0_:=am' (bb' (g:=gb221) (o := .cells #[.slice A0_0 l0_0.length c0_0, .int .i64 a0_1, .int .i64 a0_2] 35 (0,0)) (kk' BK221.out) hb);have n1_:=am' (bt' (yb' GE221.out) hb);have n2_:=am' (hbox);have n3_:=am' ((by rw[hg];exact (bz' (yb' GE221.out)):w.heap.size≤gb222));have n4_:=am' ((by rw[hg];exact (bz' (yb' GE221.out)):w.heap.size≤gb222));have n5_:=am' ((by rw[hg];exact Nat.ne_of_lt (blk_lt (g:=gb221) (o := .cells #[.slice A0_0 l0_0.length c0_0, .int .i64 a0_1, .int .i64 a0_2] 35 (0,0)) (kk' BK221.out)):gb221≠gb222));have n6_:=am' ((by rw[hg];exact Nat.ne_of_gt (blk_lt (g:=gb221) (o := .cells #[.slice A0_0 l0_0.length c0_0, .int .i64 a0_1, .int .i64 a0_2] 35 (0,0)) (kk' BK221.out)):gb222≠gb221));clear BK221;clear HB;have BK221:=n0_;have HB:=n1_;have BK222:=n2_;have GW222:=n3_;have GE222:=n4_;have NB221_222:=n5_;have NB222_221:=n6_;clear n0_ n1_ n2_ n3_ n4_ n5_ n6_;clear hb hbox hg;have hnb7:=NB222_221.out;have hnc7:=NB221_222.out;have hcz8_0:w6.cell? ⟨gb222,0,none⟩=some (.slice A1_0 l1_0.length c1_0):=(bc' BK222.out 0).trans rfl;have hcz8_1:w6.cell? ⟨gb222,1,none⟩=some (.int .i64 a1_1):=(bc' BK222.out 1).trans rfl;have hfz8_0:=bf' BK222.out 0;have hfz8_1:=bf' BK222.out 1;have hcz9_0:w6.cell? ⟨gb221,0,none⟩=some (.slice A0_0 l0_0.length c0_0):=(bc' BK221.out 0).trans rfl;have hcz9_1:w6.cell? ⟨gb221,1,none⟩=some (.int .i64 a0_1):=(bc' BK221.out 1).trans rfl;have hcz9_2:w6.cell? ⟨gb221,2,none⟩=some (.int .i64 a0_2):=(bc' BK221.out 2).trans rfl;have hfz9_0:=bf' BK221.out 0;have hfz9_1:=bf' BK221.out 1;have hfz9_2:=bf' BK221.out 2)|(go_at_call 66;(with_reducible refine (impl_in.calls a1_1 0 a0_2 t223 _ A4.out).mono ?_);rintro e w' ⟨rfl,⟨nd,rfl⟩⟩))
  go_ret
  exact ⟨by first|rfl|(simp[errW_none,errW_some] <;> rfl)|(simp[*,errW_none,errW_some] <;> rfl),y2' GE221.out GE222.out⟩
 ·
  rw[if_neg c3] at H;have c3b0:((l1_0.length:Int) == (l0_0.length:Int))=false:=beq_eq_false_iff_ne.mpr c3;have c3b1:((l1_0.length:Int) != (l0_0.length:Int))=true:=bne_iff_ne.mpr c3;have c3b2:(l1_0.length == l0_0.length)=false:=by first|simpa using c3|(simp at c3 ⊢;omega)
  obtain rfl:=os' H;go_enter Try.func57,Try.ntmps57;go_wp2_with (first|((with_reducible refine gate_dst (N:=2) rfl ?_);refine box_event ?hg (N:=2) ?hd (cs:=#[.slice A0_0 l0_0.length c0_0, .int .i64 a0_1, .int .i64 a0_2]) (t:=35) ?hr ?_;(case hd=>rfl);(case hg=>rfl);(case hr=>first|(go_simp;done)|(go_simp;rfl));intro gb221 hg w10 hbox hb;have n0_:=am' (bt' xb' hb);have n1_:=am' (hbox);have n2_:=am' ((by rw[hg];exact (bz' xb'):w.heap.size≤gb221));have n3_:=am' ((by rw[hg];exact (bz' xb'):w.heap.size≤gb221));clear HB;have HB:=n0_;have BK221:=n1_;have GW221:=n2_;have GE221:=n3_;clear n0_ n1_ n2_ n3_;clear hb hbox hg)|((with_reducible refine gate_dst (N:=3) rfl ?_);refine box_event ?hg (N:=3) ?hd (cs:=#[.slice A1_0 l1_0.length c1_0, .int .i64 a1_1]) (t:=32) ?hr ?_;(case hd=>rfl);(case hg=>rfl);(case hr=>first|(go_simp;done)|(go_simp;rfl));intro gb222 hg w11 hbox hb;have n0_:=am' (bb' (g:=gb221) (o := .cells #[.slice A0_0 l0_0.length c0_0, .int .i64 a0_1, .int .i64 a0_2] 35 (0,0)) (kk' BK221.out) hb);have n1_:=am' (bt' (yb' GE221.out) hb);have n2_:=am' (hbox);have n3_:=am' ((by rw[hg];exact (bz' (yb' GE221.out)):w.heap.size≤gb222));have n4_:=am' ((by rw[hg];exact (bz' (yb' GE221.out)):w.heap.size≤gb222));have n5_:=am' ((by rw[hg];exact Nat.ne_of_lt (blk_lt (g:=gb221) (o := .cells #[.slice A0_0 l0_0.length c0_0, .int .i64 a0_1, .int .i64 a0_2] 35 (0,0)) (kk' BK221.out)):gb221≠gb222));have n6_:=am' ((by rw[hg];exact Nat.ne_of_gt (blk_lt (g:=gb221) (o := .cells #[.slice A0_0 l0_0.length c0_0, .int .i64 a0_1, .int .i64 a0_2] 35 (0,0)) (kk' BK221.out)):gb222≠gb221));clear BK221;clear HB;have BK221:=n0_;have HB:=n1_;have BK222:=n2_;have GW222:=n3_;have GE222:=n4_;have NB221_222:=n5_;have NB222_221:=n6_;clear n0_ n1_ n2_ n3_ n4_ n5_ n6_;clear hb hbox hg;have hnb12:=NB222_221.out;have hnc12:=NB221_222.out;have hcz13_0:w11.cell? ⟨gb222,0,none⟩=some (.slice A1_0 l1_0.length c1_0):=(bc' BK222.out 0).trans rfl;have hcz13_1:w11.cell? ⟨gb222,1,none⟩=some (.int .i64 a1_1):=(bc' BK222.out 1).trans rfl;have hfz13_0:=bf' BK222.out 0;have hfz13_1:=bf' BK222.out 1;have hcz14_0:w11.cell? ⟨gb221,0,none⟩=some (.slice A0_0 l0_0.length c0_0):=(bc' BK221.out 0).trans rfl;have hcz14_1:w11.cell? ⟨gb221,1,none⟩=some (.int .i64 a0_1):=(bc' BK221.out 1).trans rfl;have hcz14_2:w11.cell? ⟨gb221,2,none⟩=some (.int .i64 a0_2):=(bc' BK221.out 2).trans rfl;have hfz14_0:=bf' BK221.out 0;have hfz14_1:=bf' BK221.out 1;have hfz14_2:=bf' BK221.out 2))
  go_ret
  exact ⟨by first|rfl|(simp[errW_none,errW_some] <;> rfl)|(simp[*,errW_none,errW_some] <;> rfl),y2' GE221.out GE222.out⟩
def impl_IsCamp.f (l0_0:List Int) (a0_1:Int) (a0_2:Int) (l1_0:List Bool) (a1_1:Int):Option (Bool):=(impl_IsNight.f l0_0 a0_1 a0_2).bind fun t226=>(if t226=true then ((impl_Night_hasCamp.f l0_0 a0_1 a0_2 l1_0 a1_1).bind fun t227=>(some t227)) else (some false))
set_option maxHeartbeats 8000000 in
set_option maxRecDepth 100000 in
theorem impl_IsCamp.calls (A0_0:Option Addr) (c0_0:Nat) (l0_0:List Int) (a0_1:Int) (a0_2:Int) (A1_0:Option Addr) (c1_0:Nat) (l1_0:List Bool) (a1_1:Int) (r:Bool) (w:World) (hr0_0:Kd.C (Kd.int .i64) w A0_0 l0_0.length l0_0) (hc0_0:l0_0.length≤c0_0) (hr1_0:Kd.C Kd.bool w A1_0 l1_0.length l1_0) (hc1_0:l1_0.length≤c1_0) (h:impl_IsCamp.f l0_0 a0_1 a0_2 l1_0 a1_1=some r) :
  Calls Try.prog 37 #[.agg #[.slice A0_0 l0_0.length c0_0, .int .i64 a0_1, .int .i64 a0_2], .agg #[.slice A1_0 l1_0.length c1_0, .int .i64 a1_1]] w fun e w'=>e = .returned (.bool r)∧Below w.heap.size w w':=by
 have hu35:=Try.underlying35
 have hu32:=Try.underlying32
 have HR0_0:=am' hr0_0
 have HC0_0:=am' hc0_0
 clear hr0_0 hc0_0;have HR1_0:=am' hr1_0
 have HC1_0:=am' hc1_0
 clear hr1_0 hc1_0;have HB:=am' (Below.refl w.heap.size w)
 have H:((impl_IsNight.f l0_0 a0_1 a0_2).bind fun t226=>(if t226=true then ((impl_Night_hasCamp.f l0_0 a0_1 a0_2 l1_0 a1_1).bind fun t227=>(some t227)) else (some false)))=some r:=h
 clear h;replace H:=Option.bind_eq_some_iff.mp H
 obtain ⟨t226,A30,H⟩:=H
 replace H:(if t226=true then ((impl_Night_hasCamp.f l0_0 a0_1 a0_2 l1_0 a1_1).bind fun t227=>(some t227)) else (some false))=some r:=H
 have A3:=am' A30
 clear A30;by_cases c4:t226=true
 ·
  subst c4;have H1:((impl_Night_hasCamp.f l0_0 a0_1 a0_2 l1_0 a1_1).bind fun t227=>(some t227))=some r:=by rw[if_pos rfl] at H;exact H
  clear H;have H:=H1;clear H1;replace H:=Option.bind_eq_some_iff.mp H;obtain ⟨t227,A50,H⟩:=H;replace H:(some t227)=some r:=H;have A5:=am' A50;clear A50;obtain rfl:=os' H;go_enter Try.func37,Try.ntmps37;go_wp2_with (first|((with_reducible refine gate_dst (N:=2) rfl ?_);refine box_event ?hg (N:=2) ?hd (cs:=#[.slice A0_0 l0_0.length c0_0, .int .i64 a0_1, .int .i64 a0_2]) (t:=35) ?hr ?_;(case hd=>rfl);(case hg=>rfl);(case hr=>first|(go_simp;done)|(go_simp;rfl));intro gb224 hg w6 hbox hb;have n0_:=am' (bt' xb' hb);have n1_:=am' (hbox);have n2_:=am' ((by rw[hg];exact (bz' xb'):w.heap.size≤gb224));have n3_:=am' ((by rw[hg];exact (bz' xb'):w.heap.size≤gb224));clear HB;have HB:=n0_;have BK224:=n1_;have GW224:=n2_;have GE224:=n3_;clear n0_ n1_ n2_ n3_;clear hb hbox hg)|((with_reducible refine gate_dst (N:=3) rfl ?_);refine box_event ?hg (N:=3) ?hd (cs:=#[.slice A1_0 l1_0.length c1_0, .int .i64 a1_1]) (t:=32) ?hr ?_;(case hd=>rfl);(case hg=>rfl);(case hr=>first|(go_simp;done)|(go_simp;rfl));intro gb225 hg w7 hbox hb;have n0_:=am' (bb' (g:=gb224) (o := .cells #[.slice A0_0 l0_0.length c0_0, .int .i64 a0_1, .int .i64 a0_2] 35 (0,0)) (kk' BK224.out) hb);have n1_:=am' (bt' (yb' GE224.out) hb);have n2_:=am' (hbox);have n3_:=am' ((by rw[hg];exact (bz' (yb' GE224.out)):w.heap.size≤gb225));have n4_:=am' ((by rw[hg];exact (bz' (yb' GE224.out)):w.heap.size≤gb225));have n5_:=am' ((by rw[hg];exact Nat.ne_of_lt (blk_lt (g:=gb224) (o := .cells #[.slice A0_0 l0_0.length c0_0, .int .i64 a0_1, .int .i64 a0_2] 35 (0,0)) (kk' BK224.out)):gb224≠gb225));have n6_:=am' ((by rw[hg];exact Nat.ne_of_gt (blk_lt (g:=gb224) (o := .cells #[.slice A0_0 l0_0.length c0_0, .int .i64 a0_1, .int .i64 a0_2] 35 (0,0)) (kk' BK224.out)):gb225≠gb224));clear BK224;clear HB;have BK224:=n0_;have HB:=n1_;have BK225:=n2_;have GW225:=n3_;have GE225:=n4_;have NB224_225:=n5_;have NB225_224:=n6_;clear n0_ n1_ n2_ n3_ n4_ n5_ n6_;clear hb hbox hg;have hnb8:=NB224_225.out;have hnc8:=NB225_224.out;have hcz9_0:w7.cell? ⟨gb224,0,none⟩=some (.slice A0_0 l0_0.length c0_0):=(bc' BK224.out 0).trans rfl;have hcz9_1:w7.cell? ⟨gb224,1,none⟩=some (.int .i64 a0_1):=(bc' BK224.out 1).trans rfl;have hcz9_2:w7.cell? ⟨gb224,2,none⟩=some (.int .i64 a0_2):=(bc' BK224.out 2).trans rfl;have hfz9_0:=bf' BK224.out 0;have hfz9_1:=bf' BK224.out 1;have hfz9_2:=bf' BK224.out 2)|((with_reducible refine gate_callee (f:=56) rfl ?_);refine goesL_ (some 6) rfl rfl Try.func56 xk' rfl #[.agg #[.slice A0_0 l0_0.length c0_0, .int .i64 a0_1, .int .i64 a0_2]] rfl xl' ?_;(with_reducible refine (impl_IsNight.calls _ _ l0_0 a0_1 a0_2 true _ ?side1 ?side2 A3.out).mono ?_);(case side1=>exact kc' (cb' HR0_0.out HB.out));(case side2=>exact HC0_0.out);rintro e w10 ⟨rfl,hb⟩;refine ⟨_,rfl,?_⟩;have n0_:=am' (bb' (g:=gb224) (o := .cells #[.slice A0_0 l0_0.length c0_0, .int .i64 a0_1, .int .i64 a0_2] 35 (0,0)) (kk' BK224.out) hb);have n1_:=am' (bb' (g:=gb225) (o := .cells #[.slice A1_0 l1_0.length c1_0, .int .i64 a1_1] 32 (0,0)) (kk' BK225.out) hb);have n2_:=am' (bt' (y2' GE224.out GE225.out) hb);clear BK224;clear BK225;clear HB;have BK224:=n0_;have BK225:=n1_;have HB:=n2_;clear n0_ n1_ n2_;(try clear hb);(try clear hb2);(try clear hk);(try clear hi);have hcz11_0:w10.cell? ⟨gb224,0,none⟩=some (.slice A0_0 l0_0.length c0_0):=(bc' BK224.out 0).trans rfl;have hcz11_1:w10.cell? ⟨gb224,1,none⟩=some (.int .i64 a0_1):=(bc' BK224.out 1).trans rfl;have hcz11_2:w10.cell? ⟨gb224,2,none⟩=some (.int .i64 a0_2):=(bc' BK224.out 2).trans rfl;have hfz11_0:=bf' BK224.out 0;have hfz11_1:=bf' BK224.out 1;have hfz11_2:=bf' BK224.out 2;have hcz12_0:w10.cell? ⟨gb225,0,none⟩=some (.slice A1_0 l1_0.length c1_0):=(bc' BK225.out 0).trans rfl;have hcz12_1:w10.cell? ⟨gb225,1,none⟩=some (.int .i64 a1_1):=(bc' BK225.out 1).trans rfl;have hfz12_0:=bf' BK225.out 0;have hfz12_1:=bf' BK225.out 1)|(go_at_call 57;(with_reducible refine (impl_Night_hasCamp.calls _ _ l0_0 a0_1 a0_2 _ _ l1_0 a1_1 t227 _ ?side1 ?side2 ?side3 ?side4 A5.out).mono ?_);(case side1=>exact kc' (cb' HR0_0.out HB.out));(case side2=>exact HC0_0.out);(case side3=>exact kc' (cb' HR1_0.out HB.out));(case side4=>exact HC1_0.out);rintro e w13 ⟨rfl,hb⟩;have n0_:=am' (bb' (g:=gb224) (o := .cells #[.slice A0_0 l0_0.length c0_0, .int .i64 a0_1, .int .i64 a0_2] 35 (0,0)) (kk' BK224.out) hb);have n1_:=am' (bb' (g:=gb225) (o := .cells #[.slice A1_0 l1_0.length c1_0, .int .i64 a1_1] 32 (0,0)) (kk' BK225.out) hb);have n2_:=am' (bt' (y2' GE224.out GE225.out) hb);clear BK224;clear BK225;clear HB;have BK224:=n0_;have BK225:=n1_;have HB:=n2_;clear n0_ n1_ n2_;(try clear hb);(try clear hb2);(try clear hk);(try clear hi)))
  go_ret
  exact ⟨by first|rfl|(simp[errW_none,errW_some] <;> rfl)|(simp[*,errW_none,errW_some] <;> rfl),y2' GE224.out GE225.out⟩
 ·
  replace c4:=Bool.eq_false_iff.mpr c4;subst c4;have H1:(some false)=some r:=by rw[if_neg (show ¬ (false=true) by decide)] at H;exact H
  clear H;have H:=H1;clear H1;obtain rfl:=os' H;go_enter Try.func37,Try.ntmps37;go_wp2_with (first|((with_reducible refine gate_dst (N:=2) rfl ?_);refine box_event ?hg (N:=2) ?hd (cs:=#[.slice A0_0 l0_0.length c0_0, .int .i64 a0_1, .int .i64 a0_2]) (t:=35) ?hr ?_;(case hd=>rfl);(case hg=>rfl);(case hr=>first|(go_simp;done)|(go_simp;rfl));intro gb224 hg w14 hbox hb;have n0_:=am' (bt' xb' hb);have n1_:=am' (hbox);have n2_:=am' ((by rw[hg];exact (bz' xb'):w.heap.size≤gb224));have n3_:=am' ((by rw[hg];exact (bz' xb'):w.heap.size≤gb224));clear HB;have HB:=n0_;have BK224:=n1_;have GW224:=n2_;have GE224:=n3_;clear n0_ n1_ n2_ n3_;clear hb hbox hg)|((with_reducible refine gate_dst (N:=3) rfl ?_);refine box_event ?hg (N:=3) ?hd (cs:=#[.slice A1_0 l1_0.length c1_0, .int .i64 a1_1]) (t:=32) ?hr ?_;(case hd=>rfl);(case hg=>rfl);(case hr=>first|(go_simp;done)|(go_simp;rfl));intro gb225 hg w15 hbox hb;have n0_:=am' (bb' (g:=gb224) (o := .cells #[.slice A0_0 l0_0.length c0_0, .int .i64 a0_1, .int .i64 a0_2] 35 (0,0)) (kk' BK224.out) hb);have n1_:=am' (bt' (yb' GE224.out) hb);have n2_:=am' (hbox);have n3_:=am' ((by rw[hg];exact (bz' (yb' GE224.out)):w.heap.size≤gb225));have n4_:=am' ((by rw[hg];exact (bz' (yb' GE224.out)):w.heap.size≤gb225));have n5_:=am' ((by rw[hg];exact Nat.ne_of_lt (blk_lt (g:=gb224) (o := .cells #[.slice A0_0 l0_0.length c0_0, .int .i64 a0_1, .int .i64 a0_2] 35 (0,0)) (kk' BK224.out)):gb224≠gb225));have n6_:=am' ((by rw[hg];exact Nat.ne_of_gt (blk_lt (g:=gb224) (o := .cells #[.slice A0_0 l0_0.length c0_0, .int .i64 a0_1, .int .i64 a0_2] 35 (0,0)) (kk' BK224.out)):gb225≠gb224));clear BK224;clear HB;have BK224:=n0_;have HB:=n1_;have BK225:=n2_;have GW225:=n3_;have GE225:=n4_;have NB224_225:=n5_;have NB225_224:=n6_;clear n0_ n1_ n2_ n3_ n4_ n5_ n6_;clear hb hbox hg;have hnb16:=NB224_225.out;have hnc16:=NB225_224.out;have hcz17_0:w15.cell? ⟨gb224,0,none⟩=some (.slice A0_0 l0_0.length c0_0):=(bc' BK224.out 0).trans rfl;have hcz17_1:w15.cell? ⟨gb224,1,none⟩=some (.int .i64 a0_1):=(bc' BK224.out 1).trans rfl;have hcz17_2:w15.cell? ⟨gb224,2,none⟩=some (.int .i64 a0_2):=(bc' BK224.out 2).trans rfl;have hfz17_0:=bf' BK224.out 0;have hfz17_1:=bf' BK224.out 1;have hfz17_2:=bf' BK224.out 2)|((with_reducible refine gate_callee (f:=56) rfl ?_);refine goesL_ (some 6) rfl rfl Try.func56 xk' rfl #[.agg #[.slice A0_0 l0_0.length c0_0, .int .i64 a0_1, .int .i64 a0_2]] rfl xl' ?_;(with_reducible refine (impl_IsNight.calls _ _ l0_0 a0_1 a0_2 false _ ?side1 ?side2 A3.out).mono ?_);(case side1=>exact kc' (cb' HR0_0.out HB.out));(case side2=>exact HC0_0.out);rintro e w18 ⟨rfl,hb⟩;refine ⟨_,rfl,?_⟩;have n0_:=am' (bb' (g:=gb224) (o := .cells #[.slice A0_0 l0_0.length c0_0, .int .i64 a0_1, .int .i64 a0_2] 35 (0,0)) (kk' BK224.out) hb);have n1_:=am' (bb' (g:=gb225) (o := .cells #[.slice A1_0 l1_0.length c1_0, .int .i64 a1_1] 32 (0,0)) (kk' BK225.out) hb);have n2_:=am' (bt' (y2' GE224.out GE225.out) hb);clear BK224;clear BK225;clear HB;have BK224:=n0_;have BK225:=n1_;have HB:=n2_;clear n0_ n1_ n2_;(try clear hb);(try clear hb2);(try clear hk);(try clear hi)))
  go_ret
  exact ⟨by first|rfl|(simp[errW_none,errW_some] <;> rfl)|(simp[*,errW_none,errW_some] <;> rfl),y2' GE224.out GE225.out⟩
def slices_Clone_bool_bool.f (l0:List Bool):Option (List Bool):=if l0.length < 140737488355328 then some l0 else none
set_option maxHeartbeats 2000000 in
set_option maxRecDepth 100000 in
theorem slices_Clone_bool_bool.calls (A0:Option Addr) (c0:Nat) (l0:List Bool) (r:List Bool) (w:World) (hr0:Kd.C Kd.bool w A0 l0.length l0) (hc0:l0.length≤c0) (h:slices_Clone_bool_bool.f l0=some r) :
  Calls Try.prog 73 #[.slice A0 l0.length c0] w fun e w'=>∃ v0_:Value,e = .returned (v0_)∧Kd.R Kd.bool 4 w' w.heap.size (fun _=>True) v0_ r∧Below w.heap.size w w':=by
 have hinfo:(Try.prog.info? 4).map (fun i=>(i.zero,i.size,i.bytes))=some (some (.bool false),1,1):=by kernel_rfl
 obtain ⟨hlim,rfl⟩:l0.length < 140737488355328∧l0=r:=by
  unfold slices_Clone_bool_bool.f at h
  by_cases hl:l0.length < 140737488355328
  ·
   rw[if_pos hl] at h;exact ⟨hl,os' h⟩
  ·
   rw[if_neg hl] at h;cases h
 clear h;cases A0 with
 | none =>
  obtain rfl:l0=[]:=by
   cases l0 with
   | nil=>rfl
   | cons x l=>obtain ⟨_,e,_⟩:=hr0.2.2 (by simp);cases e
  clear hr0 hc0 hlim hinfo;have heq:=fun (w:World) (n c:Nat)=>Lib.run_eql_slice_nil (P:=Try.prog) w 25 4 none n c 0 0 Try.underlying25
  go_enter Try.func73,Try.ntmps73;go_wp2;go_ret
  exact ⟨_,rfl,Kd.R_nil _ _ _ _ _,Below.refl _ _⟩
 | some a =>
  have HR0:=am' hr0;have HL:=am' hlim;have hie:=am' hinfo;clear hr0 hc0 hlim hinfo;have HB:=am' (Below.refl w.heap.size w);have heq:=fun (w:World) (n c:Nat)=>Lib.run_eql_slice_nil (P:=Try.prog) w 25 4 (some a) n c 0 0 Try.underlying25
  go_enter Try.func73,Try.ntmps73;go_wp2_with (first|((with_reducible refine gate_dst (N:=5) rfl ?_);refine Kd.R_lit Kd.bool _ 4 ?hg (N:=5) ?hd (xs:=([]:List Bool)) (inner:=[]) (ok:=fun _=>True) (okp:=fun _=>True) ?hr ?hp (fun _ hk=>hk) trivial (Below.refl _ _) (Nat.le_refl _) (by simp) ?_;(case hd=>rfl);(case hg=>rfl);(case hr=>first|(go_simp;done)|(go_simp;rfl));(case hp=>exact (Reps.none _ _));intro v210 w3 ho4 hb hg_ hnew_;clear hg_ hnew_;have n0_:=am' (Kd.R_lower ho4 (bz' HB.out));have n1_:=am' (bt' HB.out hb);clear HB;have HO211:=n0_;have HB:=n1_;clear n0_ n1_;clear hb ho4)|((with_reducible refine gate_builtin (b := .append) (xs:=#[.tmp 5, .tmp 6]) rfl ?_);at_builtin;refine Kd.R_append_rows Kd.bool (w0:=w) w.heap.size rfl (.tmp 5) (.tmp 6) 25 4 (.bool false) 1 rfl Try.underlying25 hie.out rfl (by decide) (by omega) v210 [] l0 _ _ _ (fun _=>True) (fun _=>False) rfl rfl ?aO ?aR (fun _ _ h=>h) (fun _ h=>h.elim) ?aF ?aB ?aS ?aL ?_;(case aR=>exact (cb' HR0.out HB.out));(case aB=>exact HB.out);(case aF=>exact (fun _ _=>trivial));(case aO=>exact HO211.out);(case aS=>exact (bz' HB.out));(case aL=>have:=HL.out;simp;omega);intro v213 w5 ho hb hg hat;have n0_:=am' (hb);have n1_:=am' (ho);clear HB;clear HO211;have HB:=n0_;have HO214:=n1_;clear n0_ n1_;clear ho hb hg hat));go_ret
  exact ⟨_,rfl,by simpa using HO214.out,HB.out⟩
def impl_bit.f (a0:Bool):Option (Int):=if a0=true then (some 1) else (some 0)
set_option maxHeartbeats 8000000 in
set_option maxRecDepth 100000 in
theorem impl_bit.calls (a0:Bool) (r:Int) (w:World) (h:impl_bit.f a0=some r) :
  Calls Try.prog 74 #[.bool a0] w fun e w'=>e = .returned (.int .i64 r)∧Drawn0 w w':=by
 have H:(if a0=true then (some 1) else (some 0))=some r:=h
 clear h;by_cases c2:a0=true
 ·
  subst c2;have H1:(some 1)=some r:=by rw[if_pos rfl] at H;exact H
  clear H;have H:=H1;clear H1;obtain rfl:=os' H;go_enter Try.func74,Try.ntmps74;go_wp2;go_ret
  exact ⟨xs',by repeat (first|exact Drawn0.refl _|apply Drawn0.step)⟩
 ·
  replace c2:=Bool.eq_false_iff.mpr c2;subst c2;have H1:(some 0)=some r:=by rw[if_neg (show ¬ (false=true) by decide)] at H;exact H
  clear H;have H:=H1;clear H1;obtain rfl:=os' H;go_enter Try.func74,Try.ntmps74;go_wp2;go_ret
  exact ⟨xs',by repeat (first|exact Drawn0.refl _|apply Drawn0.step)⟩
end Go.Proofs.Ytdomojenlofieaa.C2
