import Derived.Test.YtikjdmiohpdnaaaC20zx0
import Derived.Test.YtikjdmiohpdnaaaC20zx1
import Derived.Test.YtikjdmiohpdnaaaC20zAl
namespace Go.Proofs.Ytikjdmiohpdnaaa.C20
open Go.RowKit Go.Proofs.YtikjdmiohpdnaaaW.PrintWords Go.Proofs.YtikjdmiohpdnaaaW.PrintLast Go.Proofs.YtikjdmiohpdnaaaW.PrintMore Go.Proofs.Ytikjdmiohpdnaaa.H
attribute [local go_sem] max2_int min2_int max_two min_two max_three min_three max_four min_four
set_option linter.unusedVariables false
set_option linter.unusedSimpArgs false
def laws_markIntS.l0:Nat→List Int→Int→Int→Option (Int × List Int)
 | 0,_,_,_=>none
 | k+1,x0,x1,x5=>if x5 < (x0.length:Int) then (if 0≤x5 then (laws_markIntS.l0 k (x0.set (x5:Int).toNat x1) (wrap64 (x1+1)) (wrap64 (x5+1))) else (none)) else (some (x1,x0))
def laws_markIntS.f (k:Nat) (l0:List Int) (a1:Int):Option (Int × List Int):=laws_markIntS.l0 k l0 a1 0
set_option maxHeartbeats 8000000 in
set_option maxRecDepth 100000 in
theorem laws_markIntS.calls (k:Nat) (P0_:Nat→Prop) (u9000_:Value) (l0:List Int) (a1:Int) (r1:Int) (r2:List Int) (w0 w:World) (hB:Below w0.heap.size w0 w) (ho0:Kd.R (Kd.int .i64) 3 w w0.heap.size P0_ u9000_ l0) (h:laws_markIntS.f k l0 a1=some (r1,r2)) :
  Calls Try.prog 26 #[u9000_, .int .i64 a1] w fun e w'=>e = .returned (.int .i64 r1)∧Kd.R (Kd.int .i64) 3 w' w0.heap.size (fun k_=>(P0_ k_∨w.heap.size≤k_)) u9000_ r2∧Below w0.heap.size w0 w'∧Kept w w' (fun k_=>P0_ k_):=by
 have HO0:=am' (show Kd.R (Kd.int .i64) 3 w w0.heap.size (fun k_=>(P0_ k_∨w.heap.size≤k_)) u9000_ l0 from Kd.R_mono ho0 (fun k_ hk=>(.inl hk)))
 have HK:=am' (Kept.refl w (fun k_=>P0_ k_))
 have HW0:=am' hB.size
 have HB:=am' hB
 clear hB;have H:(laws_markIntS.l0 k l0 a1 0)=some (r1,r2):=h
 clear h;have H':=am' H
 clear H;go_enter Try.func26,Try.ntmps26
 go_wp2
 go_loopg [1,5] k (fun kq v1 v5 w'=>∃ (x0_1:List Int) (x1_1:Int) (x5_1:Int),v1 = .int .i64 x1_1∧v5 = .int .i64 x5_1∧Aside0 (laws_markIntS.l0 kq x0_1 x1_1 x5_1=some (r1,r2))∧Aside0 (kq≤k)∧Aside0 (Kd.R (Kd.int .i64) 3 w' w0.heap.size (fun k_=>(P0_ k_∨w.heap.size≤k_)) u9000_ x0_1)∧Aside0 (Kept w w' (fun k_=>P0_ k_))∧Aside0 (Below w0.heap.size w0 w'))
 case atStart=>exact ⟨(l0),(a1),(0),xs',xs',H',⟨Nat.le_refl _⟩,⟨kr' HO0.out⟩,⟨by repeat (first|(with_reducible first|exact HK.out|apply Kept.alloc|apply Kept.drewN|apply Kept.drew)|exact HK.out)⟩,⟨xb'⟩⟩
 case round =>
  clear H';try clear c2
  try clear p2
  obtain ⟨x0_1,x1_1,x5_1,rfl,rfl,HA,HK1,HO_0,HK,HB⟩:=hrel;cases gk with
  | zero=>exact absurd HA.out (by simp[laws_markIntS.l0])
  | succ k1 =>
   have H:=HA.out;clear HA;simp only[laws_markIntS.l0] at H;by_cases c3:x5_1 < (x0_1.length:Int)
   ·
    rw[if_pos c3] at H;have c3b0:decide (x5_1 < (x0_1.length:Int))=true:=dt' c3;clear c3;by_cases c4:0≤x5_1
    ·
     rw[if_pos c4] at H;have c4b0:decide (0≤x5_1)=true:=dt' c4;clear c4;obtain ⟨y131,hy131⟩:∃ y_:List Int,y_=(x0_1.set (x5_1:Int).toNat x1_1):=⟨_,rfl⟩
     replace H:(laws_markIntS.l0 k1 y131 (wrap64 (x1_1+1)) (wrap64 (x5_1+1)))=some (r1,r2):=by first|(rw[hy131];with_reducible exact H)|(have H2_:=(Option.bind_some _ _).symm.trans H;rw[hy131];with_reducible exact H2_)|(have H2_:=(Option.bind_some _ _).symm.trans H;with_reducible exact H2_)|with_reducible exact H|(rw[hy131];exact H)|exact H
     have Ny131:=am' hy131;clear hy131;have H':=am' H;clear H;obtain ⟨Ao6,co6,eo6⟩:=Kd.R_slice HO_0.out;subst eo6;have p5:0≤(x5_1:Int):=od' xa';have q5:(x5_1:Int) < ((x0_1.length:Int):Int):=od' xa';obtain ⟨go5,co5,eo5,gb5,gl5,cl5,HG5⟩:=Kd.R_form HO_0.out (by omega)
     (first|cases eo5|(injection eo5 with ea_ en_ ec_;(first|subst ea_|(injection ea_ with ea_;subst ea_));subst ec_;clear en_))
     have GB5:=am' gb5;have GG5:=am' HG5;clear gb5 gl5 HG5;have HMgo5:=am' (show (P0_ go5∨w.heap.size≤go5) from (HO_0.out.1 _ rfl));obtain ⟨hx5_0,hf5_0⟩:=Kd.R_celln 0 HO_0.out (x5_1:Int) p5 q5;replace p5:=eq_true p5;replace q5:=eq_true q5;have HP7:=Kd.R_putg HO_0.out (x5_1:Int) x1_1;go_wp2_with (first|((with_reducible refine gate_store (t:=3) (p:=15) rfl ?_);refine store_event (t:=3) (p:=15) (v:=?vo_w8) (w1:=(wr.setCell ⟨go5,(x5_1:Int).toNat,none⟩ (.int .i64 x1_1))) ?hg ?ho ?hn ?hr ?_;(case ho=>rfl);(case hg=>rfl);(case hn=>rfl);(case hr=>first|(go_simp;done)|(go_simp;rfl));intro w8 hw;have hg:wr.grownBy w8 (some go5):=(by rw[hw];exact HP7.2);have hp_:Kd.R (Kd.int .i64) 3 w8 w0.heap.size (fun k_=>(P0_ k_∨w.heap.size≤k_)) (.slice (some ⟨go5,0,none⟩) x0_1.length co6) y131:=(by rw[hw,Ny131.out];exact HP7.1);clear HP7;have n0_:=am' (hp_);have n1_:=am' ((by rw[hw];exact bs' (HB.out) GB5.out:Below w0.heap.size w0 w8));have n2_:=am' (Kept.of_grown (S:=(fun k_=>P0_ k_)) hg (by repeat (first|(with_reducible first|exact HK.out|apply Kept.alloc|apply Kept.drewN|apply Kept.drew)|exact HK.out)) (fun k_ e_=>(HO_0.out.1 k_ e_)));clear HO_0;clear HB;clear HK;have HO_0:=n0_;have HB:=n1_;have HK:=n2_;clear n0_ n1_ n2_;clear hg hw hp_));go_roundg k1
     case measure=>have:=HK1.out;omega
     case rel=>exact ⟨(y131),(wrap64 (x1_1+1)),(wrap64 (x5_1+1)),xs',xs',H',⟨by have:=HK1.out;omega⟩,⟨kr' HO_0.out⟩,⟨by repeat (first|(with_reducible first|exact HK.out|apply Kept.alloc|apply Kept.drewN|apply Kept.drew)|exact HK.out)⟩,⟨xb'⟩⟩
    ·
     rw[if_neg c4] at H;exact absurd H (by simp)
   ·
    rw[if_neg c3] at H;have c3b0:decide (x5_1 < (x0_1.length:Int))=false:=df' c3;clear c3;simp only[Option.some.injEq,Prod.mk.injEq] at H;obtain ⟨rfl,rfl⟩:=H;obtain ⟨Ao9,co9,eo9⟩:=Kd.R_slice HO_0.out;subst eo9;go_wp2;go_ret
    exact ⟨by first|rfl|(simp[errW_none,errW_some] <;> rfl)|(simp[*,errW_none,errW_some] <;> rfl),kr' HO_0.out,xb',by repeat (first|(with_reducible first|exact HK.out|apply Kept.alloc|apply Kept.drewN|apply Kept.drew)|exact HK.out)⟩
def laws_markBoolS.l0:Nat→List Bool→Int→Int→Option (Int × List Bool)
 | 0,_,_,_=>none
 | k+1,x0,x1,x5=>if x5 < (x0.length:Int) then (if 0≤x5 then (laws_markBoolS.l0 k (x0.set (x5:Int).toNat ((Int.tmod x1 3) == 0)) (wrap64 (x1+1)) (wrap64 (x5+1))) else (none)) else (some (x1,x0))
def laws_markBoolS.f (k:Nat) (l0:List Bool) (a1:Int):Option (Int × List Bool):=laws_markBoolS.l0 k l0 a1 0
set_option maxHeartbeats 8000000 in
set_option maxRecDepth 100000 in
theorem laws_markBoolS.calls (k:Nat) (P0_:Nat→Prop) (u9000_:Value) (l0:List Bool) (a1:Int) (r1:Int) (r2:List Bool) (w0 w:World) (hB:Below w0.heap.size w0 w) (ho0:Kd.R Kd.bool 4 w w0.heap.size P0_ u9000_ l0) (h:laws_markBoolS.f k l0 a1=some (r1,r2)) :
  Calls Try.prog 64 #[u9000_, .int .i64 a1] w fun e w'=>e = .returned (.int .i64 r1)∧Kd.R Kd.bool 4 w' w0.heap.size (fun k_=>(P0_ k_∨w.heap.size≤k_)) u9000_ r2∧Below w0.heap.size w0 w'∧Kept w w' (fun k_=>P0_ k_):=by
 have HO0:=am' (show Kd.R Kd.bool 4 w w0.heap.size (fun k_=>(P0_ k_∨w.heap.size≤k_)) u9000_ l0 from Kd.R_mono ho0 (fun k_ hk=>(.inl hk)))
 have HK:=am' (Kept.refl w (fun k_=>P0_ k_))
 have HW0:=am' hB.size
 have HB:=am' hB
 clear hB;have H:(laws_markBoolS.l0 k l0 a1 0)=some (r1,r2):=h
 clear h;have H':=am' H
 clear H;go_enter Try.func64,Try.ntmps64
 go_wp2
 go_loopg [1,5] k (fun kq v1 v5 w'=>∃ (x0_1:List Bool) (x1_1:Int) (x5_1:Int),v1 = .int .i64 x1_1∧v5 = .int .i64 x5_1∧Aside0 (laws_markBoolS.l0 kq x0_1 x1_1 x5_1=some (r1,r2))∧Aside0 (kq≤k)∧Aside0 (Kd.R Kd.bool 4 w' w0.heap.size (fun k_=>(P0_ k_∨w.heap.size≤k_)) u9000_ x0_1)∧Aside0 (Kept w w' (fun k_=>P0_ k_))∧Aside0 (Below w0.heap.size w0 w'))
 case atStart=>exact ⟨(l0),(a1),(0),xs',xs',H',⟨Nat.le_refl _⟩,⟨kr' HO0.out⟩,⟨by repeat (first|(with_reducible first|exact HK.out|apply Kept.alloc|apply Kept.drewN|apply Kept.drew)|exact HK.out)⟩,⟨xb'⟩⟩
 case round =>
  clear H';try clear p2
  obtain ⟨x0_1,x1_1,x5_1,rfl,rfl,HA,HK1,HO_0,HK,HB⟩:=hrel;cases gk with
  | zero=>exact absurd HA.out (by simp[laws_markBoolS.l0])
  | succ k1 =>
   have H:=HA.out;clear HA;simp only[laws_markBoolS.l0] at H;by_cases c3:x5_1 < (x0_1.length:Int)
   ·
    rw[if_pos c3] at H;have c3b0:decide (x5_1 < (x0_1.length:Int))=true:=dt' c3;clear c3;by_cases c4:0≤x5_1
    ·
     rw[if_pos c4] at H;have c4b0:decide (0≤x5_1)=true:=dt' c4;clear c4;obtain ⟨y132,hy132⟩:∃ y_:List Bool,y_=(x0_1.set (x5_1:Int).toNat ((Int.tmod x1_1 3) == 0)):=⟨_,rfl⟩
     replace H:(laws_markBoolS.l0 k1 y132 (wrap64 (x1_1+1)) (wrap64 (x5_1+1)))=some (r1,r2):=by first|(rw[hy132];with_reducible exact H)|(have H2_:=(Option.bind_some _ _).symm.trans H;rw[hy132];with_reducible exact H2_)|(have H2_:=(Option.bind_some _ _).symm.trans H;with_reducible exact H2_)|with_reducible exact H|(rw[hy132];exact H)|exact H
     have Ny132:=am' hy132;clear hy132;have H':=am' H;clear H;obtain ⟨Ao6,co6,eo6⟩:=Kd.R_slice HO_0.out;subst eo6;have p5:0≤(x5_1:Int):=od' xa';have q5:(x5_1:Int) < ((x0_1.length:Int):Int):=od' xa';obtain ⟨go5,co5,eo5,gb5,gl5,cl5,HG5⟩:=Kd.R_form HO_0.out (by omega)
     (first|cases eo5|(injection eo5 with ea_ en_ ec_;(first|subst ea_|(injection ea_ with ea_;subst ea_));subst ec_;clear en_))
     have GB5:=am' gb5;have GG5:=am' HG5;clear gb5 gl5 HG5;have HMgo5:=am' (show (P0_ go5∨w.heap.size≤go5) from (HO_0.out.1 _ rfl));obtain ⟨hx5_0,hf5_0⟩:=Kd.R_celln false HO_0.out (x5_1:Int) p5 q5;replace p5:=eq_true p5;replace q5:=eq_true q5;have HP7:=Kd.R_putg HO_0.out (x5_1:Int) ((Int.tmod x1_1 3) == 0);go_wp2_with (first|((with_reducible refine gate_store (t:=4) (p:=17) rfl ?_);refine store_event (t:=4) (p:=17) (v:=?vo_w8) (w1:=(wr.setCell ⟨go5,(x5_1:Int).toNat,none⟩ (.bool ((Int.tmod x1_1 3) == 0)))) ?hg ?ho ?hn ?hr ?_;(case ho=>rfl);(case hg=>rfl);(case hn=>rfl);(case hr=>first|(go_simp;done)|(go_simp;rfl));intro w8 hw;have hg:wr.grownBy w8 (some go5):=(by rw[hw];exact HP7.2);have hp_:Kd.R Kd.bool 4 w8 w0.heap.size (fun k_=>(P0_ k_∨w.heap.size≤k_)) (.slice (some ⟨go5,0,none⟩) x0_1.length co6) y132:=(by rw[hw,Ny132.out];exact HP7.1);clear HP7;have n0_:=am' (hp_);have n1_:=am' ((by rw[hw];exact bs' (HB.out) GB5.out:Below w0.heap.size w0 w8));have n2_:=am' (Kept.of_grown (S:=(fun k_=>P0_ k_)) hg (by repeat (first|(with_reducible first|exact HK.out|apply Kept.alloc|apply Kept.drewN|apply Kept.drew)|exact HK.out)) (fun k_ e_=>(HO_0.out.1 k_ e_)));clear HO_0;clear HB;clear HK;have HO_0:=n0_;have HB:=n1_;have HK:=n2_;clear n0_ n1_ n2_;clear hg hw hp_));go_roundg k1
     case measure=>have:=HK1.out;omega
     case rel=>exact ⟨(y132),(wrap64 (x1_1+1)),(wrap64 (x5_1+1)),xs',xs',H',⟨by have:=HK1.out;omega⟩,⟨kr' HO_0.out⟩,⟨by repeat (first|(with_reducible first|exact HK.out|apply Kept.alloc|apply Kept.drewN|apply Kept.drew)|exact HK.out)⟩,⟨xb'⟩⟩
    ·
     rw[if_neg c4] at H;exact absurd H (by simp)
   ·
    rw[if_neg c3] at H;have c3b0:decide (x5_1 < (x0_1.length:Int))=false:=df' c3;clear c3;simp only[Option.some.injEq,Prod.mk.injEq] at H;obtain ⟨rfl,rfl⟩:=H;obtain ⟨Ao9,co9,eo9⟩:=Kd.R_slice HO_0.out;subst eo9;go_wp2;go_ret
    exact ⟨by first|rfl|(simp[errW_none,errW_some] <;> rfl)|(simp[*,errW_none,errW_some] <;> rfl),kr' HO_0.out,xb',by repeat (first|(with_reducible first|exact HK.out|apply Kept.alloc|apply Kept.drewN|apply Kept.drew)|exact HK.out)⟩
def laws_markCrew.f (k:Nat) (l0_0:List Int) (l0_1:List Bool) (a0_2:Int) (a1:Int):Option (Int × List Int × List Bool):=(laws_markIntS.f k l0_0 a1).bind fun bt134=>((laws_markBoolS.f k l0_1 bt134.1).bind fun bt136=>(some (bt136.1,bt134.2,bt136.2)))
set_option maxHeartbeats 8000000 in
set_option maxRecDepth 100000 in
theorem laws_markCrew.calls (k:Nat) (P0_0_:Nat→Prop) (u9000_:Value) (l0_0:List Int) (P0_1_:Nat→Prop) (u9001_:Value) (l0_1:List Bool) (a0_2:Int) (a1:Int) (r1:Int) (r2:List Int) (r3:List Bool) (w0 w:World) (hB:Below w0.heap.size w0 w) (ho0_0:Kd.R (Kd.int .i64) 3 w w0.heap.size P0_0_ u9000_ l0_0) (ho0_1:Kd.R Kd.bool 4 w w0.heap.size P0_1_ u9001_ l0_1) (h:laws_markCrew.f k l0_0 l0_1 a0_2 a1=some (r1,r2,r3)) :
  Calls Try.prog 24 #[.agg #[u9000_,u9001_, .int .i64 a0_2], .int .i64 a1] w fun e w'=>e = .returned (.int .i64 r1)∧Kd.R (Kd.int .i64) 3 w' w0.heap.size (fun k_=>((P0_0_ k_∨P0_1_ k_)∨w.heap.size≤k_)) u9000_ r2∧Kd.R Kd.bool 4 w' w0.heap.size (fun k_=>((P0_0_ k_∨P0_1_ k_)∨w.heap.size≤k_)) u9001_ r3∧Below w0.heap.size w0 w'∧Kept w w' (fun k_=>P0_0_ k_∨P0_1_ k_):=by
 have hu29:=Try.underlying29
 have HO0_0:=am' (show Kd.R (Kd.int .i64) 3 w w0.heap.size (fun k_=>((P0_0_ k_∨P0_1_ k_)∨w.heap.size≤k_)) u9000_ l0_0 from Kd.R_mono ho0_0 (fun k_ hk=>(.inl (.inl hk))))
 have HO0_1:=am' (show Kd.R Kd.bool 4 w w0.heap.size (fun k_=>((P0_0_ k_∨P0_1_ k_)∨w.heap.size≤k_)) u9001_ l0_1 from Kd.R_mono ho0_1 (fun k_ hk=>(.inl (.inr hk))))
 have HK:=am' (Kept.refl w (fun k_=>P0_0_ k_∨P0_1_ k_))
 have HW0:=am' hB.size
 have HB:=am' hB
 clear hB;have H:((laws_markIntS.f k l0_0 a1).bind fun bt134=>((laws_markBoolS.f k l0_1 bt134.1).bind fun bt136=>(some (bt136.1,bt134.2,bt136.2))))=some (r1,r2,r3):=h
 clear h;replace H:=Option.bind_eq_some_iff.mp H
 obtain ⟨⟨t134,t135⟩,A30,H⟩:=H
 replace H:((laws_markBoolS.f k l0_1 t134).bind fun bt136=>(some (bt136.1,t135,bt136.2)))=some (r1,r2,r3):=H
 have A3:=am' A30
 clear A30;replace H:=Option.bind_eq_some_iff.mp H
 obtain ⟨⟨t136,t137⟩,A40,H⟩:=H
 replace H:(some (t136,t135,t137))=some (r1,r2,r3):=H
 have A4:=am' A40
 clear A40;simp only[Option.some.injEq,Prod.mk.injEq] at H
 obtain ⟨rfl,rfl,rfl⟩:=H
 obtain ⟨Ao5,co5,eo5⟩:=Kd.R_slice HO0_0.out
 subst eo5;obtain ⟨Ao6,co6,eo6⟩:=Kd.R_slice HO0_1.out
 subst eo6;go_enter Try.func24,Try.ntmps24
 go_wp2_with (first|((with_reducible refine gate_dst (N:=2) rfl ?_);refine box_event ?hg (N:=2) ?hd (cs:=#[.slice Ao5 l0_0.length co5, .slice Ao6 l0_1.length co6, .int .i64 a0_2]) (t:=29) ?hr ?_;(case hd=>rfl);(case hg=>rfl);(case hr=>first|(go_simp;done)|(go_simp;rfl));intro gb133 hg w7 hbox hb;have n0_:=am' (rb' (kr' HO0_0.out) hb);have n1_:=am' (rb' (kr' HO0_1.out) hb);have n2_:=am' (Kept.below (S:=(fun k_=>P0_0_ k_∨P0_1_ k_)) (by repeat (first|(with_reducible first|exact HK.out|apply Kept.alloc|apply Kept.drewN|apply Kept.drew)|exact HK.out)) hb);have n3_:=am' (bt' xb' hb);have n4_:=am' (hbox);have n5_:=am' ((by rw[hg];exact (by first|exact HK.out.1|exact (show Kept w _ (fun k_=>P0_0_ k_∨P0_1_ k_) from by repeat (first|(with_reducible first|exact HK.out|apply Kept.alloc|apply Kept.drewN|apply Kept.drew)|exact HK.out)).1):w.heap.size≤gb133));have n6_:=am' ((by rw[hg];exact (bz' xb'):w0.heap.size≤gb133));clear HO0_0;clear HO0_1;clear HK;clear HB;have HO0_0:=n0_;have HO0_1:=n1_;have HK:=n2_;have HB:=n3_;have BK133:=n4_;have GW133:=n5_;have GE133:=n6_;clear n0_ n1_ n2_ n3_ n4_ n5_ n6_;clear hb hbox hg;have hcz8_0:w7.cell? ⟨gb133,0,none⟩=some (.slice Ao5 l0_0.length co5):=(bc' BK133.out 0).trans rfl;have hcz8_1:w7.cell? ⟨gb133,1,none⟩=some (.slice Ao6 l0_1.length co6):=(bc' BK133.out 1).trans rfl;have hcz8_2:w7.cell? ⟨gb133,2,none⟩=some (.int .i64 a0_2):=(bc' BK133.out 2).trans rfl;have hfz8_0:=bf' BK133.out 0;have hfz8_1:=bf' BK133.out 1;have hfz8_2:=bf' BK133.out 2)|((with_reducible refine gate_callee (f:=26) rfl ?_);refine goesL_ (some 8) rfl rfl Try.func26 xk' rfl #[.slice Ao5 l0_0.length co5, .int .i64 a1] rfl xl' ?_;(with_reducible refine (laws_markIntS.calls k (fun k_=>some k_=(.slice Ao5 l0_0.length co5:Value).ownBlock) (.slice Ao5 l0_0.length co5) l0_0 a1 t134 t135 w0 _ ?side1 ?side2 A3.out).mono ?_);(case side1=>repeat (first|(with_reducible first|exact HB.out|apply ba'|apply bd'|apply be'|refine bs' ?_ GE133.out)|exact HB.out));(case side2=>exact Kd.R_tight rfl HO0_0.out);rintro e w9 ⟨rfl,hy0,hb,hkp⟩;refine ⟨_,rfl,?_⟩;have n0_:=am' (Kd.R_reok rfl hy0 (fun k_ e_=>HO0_0.out.1 k_ e_));have n1_:=am' (Kd.R_mono (ok':=fun k_=>((P0_0_ k_∨P0_1_ k_)∨w.heap.size≤k_)) (Kd.R_keptB ((Kd.R_apart' HO0_1.out (Kd.R_typed HO0_0.out) (by decide))) hkp (fun k_ hk_ hs_=>(hk_.2) hs_)) (fun k_ hk_=>hk_.1.1));have n2_:=am' (blk_kept (kk' BK133.out) hkp (fun hs_=>(fun e_=>(Kd.R_ne HO0_0.out BK133.out (by decide)) e_) hs_));have n3_:=am' (Kept.then_ (S:=(fun k_=>P0_0_ k_∨P0_1_ k_)) (by repeat (first|(with_reducible first|exact HK.out|apply Kept.alloc|apply Kept.drewN|apply Kept.drew|refine Kept.setCell ?_ (.inr GW133.out) _)|exact HK.out)) hkp (fun k_ hs_=>(fun e_=>(HO0_0.out.1 k_ e_.symm)) hs_));have n4_:=am' (hb);clear HO0_0;clear HO0_1;clear BK133;clear HK;clear HB;have HO0_0:=n0_;have HO0_1:=n1_;have BK133:=n2_;have HK:=n3_;have HB:=n4_;clear n0_ n1_ n2_ n3_ n4_;(try clear hb);(try clear hkp);(try clear hy0);have hcz10_0:w9.cell? ⟨gb133,0,none⟩=some (.slice Ao5 l0_0.length co5):=(bc' BK133.out 0).trans rfl;have hcz10_1:w9.cell? ⟨gb133,1,none⟩=some (.slice Ao6 l0_1.length co6):=(bc' BK133.out 1).trans rfl;have hcz10_2:w9.cell? ⟨gb133,2,none⟩=some (.int .i64 a0_2):=(bc' BK133.out 2).trans rfl;have hfz10_0:=bf' BK133.out 0;have hfz10_1:=bf' BK133.out 1;have hfz10_2:=bf' BK133.out 2)|((with_reducible refine gate_callee (f:=64) rfl ?_);refine goesL_ (some 12) rfl rfl Try.func64 xk' rfl #[.slice Ao6 l0_1.length co6, .int .i64 t134] rfl xl' ?_;(with_reducible refine (laws_markBoolS.calls k (fun k_=>some k_=(.slice Ao6 l0_1.length co6:Value).ownBlock) (.slice Ao6 l0_1.length co6) l0_1 t134 t136 t137 w0 _ ?side1 ?side2 A4.out).mono ?_);(case side1=>repeat (first|(with_reducible first|exact HB.out|apply ba'|apply bd'|apply be'|refine bs' ?_ GE133.out)|exact HB.out));(case side2=>exact Kd.R_tight rfl HO0_1.out);rintro e w11 ⟨rfl,hy0,hb,hkp⟩;refine ⟨_,rfl,?_⟩;have n0_:=am' (Kd.R_mono (ok':=fun k_=>((P0_0_ k_∨P0_1_ k_)∨w.heap.size≤k_)) (Kd.R_keptB ((Kd.R_apart' HO0_0.out (Kd.R_typed HO0_1.out) (by decide))) hkp (fun k_ hk_ hs_=>(hk_.2) hs_)) (fun k_ hk_=>hk_.1.1));have n1_:=am' (Kd.R_reok rfl hy0 (fun k_ e_=>HO0_1.out.1 k_ e_));have n2_:=am' (blk_kept (kk' BK133.out) hkp (fun hs_=>(fun e_=>(Kd.R_ne HO0_1.out BK133.out (by decide)) e_) hs_));have n3_:=am' (Kept.then_ (S:=(fun k_=>P0_0_ k_∨P0_1_ k_)) (by repeat (first|(with_reducible first|exact HK.out|apply Kept.alloc|apply Kept.drewN|apply Kept.drew|refine Kept.setCell ?_ (.inr GW133.out) _)|exact HK.out)) hkp (fun k_ hs_=>(fun e_=>(HO0_1.out.1 k_ e_.symm)) hs_));have n4_:=am' (hb);clear HO0_0;clear HO0_1;clear BK133;clear HK;clear HB;have HO0_0:=n0_;have HO0_1:=n1_;have BK133:=n2_;have HK:=n3_;have HB:=n4_;clear n0_ n1_ n2_ n3_ n4_;(try clear hb);(try clear hkp);(try clear hy0)))
 go_ret
 exact ⟨by first|rfl|(simp[errW_none,errW_some] <;> rfl)|(simp[*,errW_none,errW_some] <;> rfl),kr' HO0_0.out,kr' HO0_1.out,yb' GE133.out,by repeat (first|(with_reducible first|exact HK.out|apply Kept.alloc|apply Kept.drewN|apply Kept.drew|refine Kept.setCell ?_ (.inr GW133.out) _)|exact HK.out)⟩
def laws_eqIntSS.l0:Nat→List (List Int)→List (List Int)→Int→Option (Bool)
 | 0,_,_,_=>none
 | k+1,x0,x1,x5=>if x5 < (x0.length:Int) then (if 0≤x5 then (if x5 < (x1.length:Int) then ((laws_eqIntS.f k (rd_L2 x0 x5) (rd_L2 x1 x5)).bind fun t140=>(if t140=true then (laws_eqIntSS.l0 k x0 x1 (wrap64 (x5+1))) else (some false))) else (none)) else (none)) else (some true)
def laws_eqIntSS.f (k:Nat) (l0:List (List Int)) (l1:List (List Int)):Option (Bool):=if (l0.length:Int)=(l1.length:Int) then (laws_eqIntSS.l0 k l0 l1 0) else (some false)
set_option maxHeartbeats 8000000 in
set_option maxRecDepth 100000 in
theorem laws_eqIntSS.calls (k:Nat) (A0:Option Addr) (c0:Nat) (l0:List (List Int)) (A1:Option Addr) (c1:Nat) (l1:List (List Int)) (r:Bool) (w:World) (hr0:Kd.C (Kd.slice 3 (Kd.int .i64)) w A0 l0.length l0) (hc0:l0.length≤c0) (hr1:Kd.C (Kd.slice 3 (Kd.int .i64)) w A1 l1.length l1) (hc1:l1.length≤c1) (h:laws_eqIntSS.f k l0 l1=some r) :
  Calls Try.prog 32 #[.slice A0 l0.length c0, .slice A1 l1.length c1] w fun e w'=>e = .returned (.bool r)∧Drawn0 w w':=by
 have HR0:=am' hr0
 have HC0:=am' hc0
 clear hr0 hc0;have HR1:=am' hr1
 have HC1:=am' hc1
 clear hr1 hc1;have H:(if (l0.length:Int)=(l1.length:Int) then (laws_eqIntSS.l0 k l0 l1 0) else (some false))=some r:=h
 clear h;by_cases c3:(l0.length:Int)=(l1.length:Int)
 ·
  rw[if_pos c3] at H;have c3b0:((l0.length:Int) == (l1.length:Int))=true:=beq_iff_eq.mpr c3;have c3b1:((l0.length:Int) != (l1.length:Int))=false:=bne_eq_false_iff_eq.mpr c3;have c3b2:(l0.length == l1.length)=true:=by first|simpa using c3|(simp at c3 ⊢;omega)
  clear c3;have H':=am' H;clear H;go_enter Try.func32,Try.ntmps32;go_wp2
  repeat (go_quiet (fail);try go_wp2)
  go_loopg [5] k (fun kq v5 w'=>∃ (x5_1:Int),v5 = .int .i64 x5_1∧Aside0 (laws_eqIntSS.l0 kq l0 l1 x5_1=some r)∧Aside0 (kq≤k)∧Drawn0 w w')
  case atStart=>exact ⟨(0),xs',H',⟨Nat.le_refl _⟩,by repeat (first|exact Drawn0.refl _|apply Drawn0.step)⟩
  case round =>
   clear H';try clear c1
   try clear p2
   try clear c3
   try clear c3b0
   try clear c3b1
   try clear c3b2
   obtain ⟨x5_1,rfl,HA,HK1,⟨m1,rfl⟩⟩:=hrel;cases gk with
   | zero=>exact absurd HA.out (by simp[laws_eqIntSS.l0])
   | succ k1 =>
    have H:=HA.out;clear HA;simp only[laws_eqIntSS.l0] at H;by_cases c4:x5_1 < (l0.length:Int)
    ·
     rw[if_pos c4] at H;have c4b0:decide (x5_1 < (l0.length:Int))=true:=dt' c4;clear c4;by_cases c5:0≤x5_1
     ·
      rw[if_pos c5] at H;have c5b0:decide (0≤x5_1)=true:=dt' c5;clear c5;by_cases c6:x5_1 < (l1.length:Int)
      ·
       rw[if_pos c6] at H;have c6b0:decide (x5_1 < (l1.length:Int))=true:=dt' c6;clear c6;replace H:=Option.bind_eq_some_iff.mp H;obtain ⟨t140,A70,H⟩:=H;replace H:(if t140=true then (laws_eqIntSS.l0 k1 l0 l1 (wrap64 (x5_1+1))) else (some false))=some r:=H;have A7:=am' A70;clear A70;by_cases c8:t140=true
       ·
        subst c8;have H1:(laws_eqIntSS.l0 k1 l0 l1 (wrap64 (x5_1+1)))=some r:=by rw[if_pos rfl] at H;exact H
        clear H;have H:=H1;clear H1;have H':=am' H;clear H;have p138:0≤(x5_1:Int):=od' xa';have q138:x5_1 < (l0.length:Int):=od' xa';obtain ⟨ad138,A138_0,c138_0,e138,hx138_0,hl138_0,hi138_0⟩:=at_L2 HR0.out x5_1 p138 q138;cases e138;have HR138_0:=am' hi138_0;have HC138_0:=am' hl138_0;clear hi138_0 hl138_0;replace p138:=eq_true p138;replace q138:=eq_true q138;have p139:0≤(x5_1:Int):=od' xa';have q139:x5_1 < (l1.length:Int):=od' xa';obtain ⟨ad139,A139_0,c139_0,e139,hx139_0,hl139_0,hi139_0⟩:=at_L2 HR1.out x5_1 p139 q139;cases e139;have HR139_0:=am' hi139_0;have HC139_0:=am' hl139_0;clear hi139_0 hl139_0;replace p139:=eq_true p139;replace q139:=eq_true q139;go_wp2_with (first|(go_at_call 18;(with_reducible refine (laws_eqIntS.calls k1 _ _ (rd_L2 l0 x5_1) _ _ (rd_L2 l1 x5_1) true _ ?side1 ?side2 ?side3 ?side4 A7.out).mono ?_);(case side1=>repeat (first|exact HR138_0.out|(with_reducible refine ca' ?_ _)|(with_reducible refine cn' ?_ _)|(with_reducible refine cd' ?_)));(case side2=>exact HC138_0.out);(case side3=>repeat (first|exact HR139_0.out|(with_reducible refine ca' ?_ _)|(with_reducible refine cn' ?_ _)|(with_reducible refine cd' ?_)));(case side4=>exact HC139_0.out);rintro e w' ⟨rfl,⟨nd,rfl⟩⟩;(try first|exact ⟨rfl,_,World.drewN_drewN _ _ _⟩|exact ⟨rfl,_,Eq.trans (World.drewN_drewN _ _ _) (congrArg (World.drewN _) (Nat.add_assoc _ _ _))⟩)))
        repeat (go_quiet (first|(go_at_call 18;(with_reducible refine (laws_eqIntS.calls k1 _ _ (rd_L2 l0 x5_1) _ _ (rd_L2 l1 x5_1) true _ ?side1 ?side2 ?side3 ?side4 A7.out).mono ?_);(case side1=>repeat (first|exact HR138_0.out|(with_reducible refine ca' ?_ _)|(with_reducible refine cn' ?_ _)|(with_reducible refine cd' ?_)));(case side2=>exact HC138_0.out);(case side3=>repeat (first|exact HR139_0.out|(with_reducible refine ca' ?_ _)|(with_reducible refine cn' ?_ _)|(with_reducible refine cd' ?_)));(case side4=>exact HC139_0.out);rintro e w' ⟨rfl,⟨nd,rfl⟩⟩;(try first|exact ⟨rfl,_,World.drewN_drewN _ _ _⟩|exact ⟨rfl,_,Eq.trans (World.drewN_drewN _ _ _) (congrArg (World.drewN _) (Nat.add_assoc _ _ _))⟩)));try go_wp2_with (first|(go_at_call 18;(with_reducible refine (laws_eqIntS.calls k1 _ _ (rd_L2 l0 x5_1) _ _ (rd_L2 l1 x5_1) true _ ?side1 ?side2 ?side3 ?side4 A7.out).mono ?_);(case side1=>repeat (first|exact HR138_0.out|(with_reducible refine ca' ?_ _)|(with_reducible refine cn' ?_ _)|(with_reducible refine cd' ?_)));(case side2=>exact HC138_0.out);(case side3=>repeat (first|exact HR139_0.out|(with_reducible refine ca' ?_ _)|(with_reducible refine cn' ?_ _)|(with_reducible refine cd' ?_)));(case side4=>exact HC139_0.out);rintro e w' ⟨rfl,⟨nd,rfl⟩⟩;(try first|exact ⟨rfl,_,World.drewN_drewN _ _ _⟩|exact ⟨rfl,_,Eq.trans (World.drewN_drewN _ _ _) (congrArg (World.drewN _) (Nat.add_assoc _ _ _))⟩))))
        go_roundg k1
        case measure=>have:=HK1.out;omega
        case rel=>exact ⟨(wrap64 (x5_1+1)),xs',H',⟨by have:=HK1.out;omega⟩,by repeat (first|exact Drawn0.refl _|apply Drawn0.step)⟩
       ·
        replace c8:=Bool.eq_false_iff.mpr c8;subst c8;have H1:(some false)=some r:=by rw[if_neg (show ¬ (false=true) by decide)] at H;exact H
        clear H;have H:=H1;clear H1;obtain rfl:=os' H;have p138:0≤(x5_1:Int):=od' xa';have q138:x5_1 < (l0.length:Int):=od' xa';obtain ⟨ad138,A138_0,c138_0,e138,hx138_0,hl138_0,hi138_0⟩:=at_L2 HR0.out x5_1 p138 q138;cases e138;have HR138_0:=am' hi138_0;have HC138_0:=am' hl138_0;clear hi138_0 hl138_0;replace p138:=eq_true p138;replace q138:=eq_true q138;have p139:0≤(x5_1:Int):=od' xa';have q139:x5_1 < (l1.length:Int):=od' xa';obtain ⟨ad139,A139_0,c139_0,e139,hx139_0,hl139_0,hi139_0⟩:=at_L2 HR1.out x5_1 p139 q139;cases e139;have HR139_0:=am' hi139_0;have HC139_0:=am' hl139_0;clear hi139_0 hl139_0;replace p139:=eq_true p139;replace q139:=eq_true q139;go_wp2_with (first|(go_at_call 18;(with_reducible refine (laws_eqIntS.calls k1 _ _ (rd_L2 l0 x5_1) _ _ (rd_L2 l1 x5_1) false _ ?side1 ?side2 ?side3 ?side4 A7.out).mono ?_);(case side1=>repeat (first|exact HR138_0.out|(with_reducible refine ca' ?_ _)|(with_reducible refine cn' ?_ _)|(with_reducible refine cd' ?_)));(case side2=>exact HC138_0.out);(case side3=>repeat (first|exact HR139_0.out|(with_reducible refine ca' ?_ _)|(with_reducible refine cn' ?_ _)|(with_reducible refine cd' ?_)));(case side4=>exact HC139_0.out);rintro e w' ⟨rfl,⟨nd,rfl⟩⟩;(try first|exact ⟨rfl,_,World.drewN_drewN _ _ _⟩|exact ⟨rfl,_,Eq.trans (World.drewN_drewN _ _ _) (congrArg (World.drewN _) (Nat.add_assoc _ _ _))⟩)))
        repeat (go_quiet (first|(go_at_call 18;(with_reducible refine (laws_eqIntS.calls k1 _ _ (rd_L2 l0 x5_1) _ _ (rd_L2 l1 x5_1) false _ ?side1 ?side2 ?side3 ?side4 A7.out).mono ?_);(case side1=>repeat (first|exact HR138_0.out|(with_reducible refine ca' ?_ _)|(with_reducible refine cn' ?_ _)|(with_reducible refine cd' ?_)));(case side2=>exact HC138_0.out);(case side3=>repeat (first|exact HR139_0.out|(with_reducible refine ca' ?_ _)|(with_reducible refine cn' ?_ _)|(with_reducible refine cd' ?_)));(case side4=>exact HC139_0.out);rintro e w' ⟨rfl,⟨nd,rfl⟩⟩;(try first|exact ⟨rfl,_,World.drewN_drewN _ _ _⟩|exact ⟨rfl,_,Eq.trans (World.drewN_drewN _ _ _) (congrArg (World.drewN _) (Nat.add_assoc _ _ _))⟩)));try go_wp2_with (first|(go_at_call 18;(with_reducible refine (laws_eqIntS.calls k1 _ _ (rd_L2 l0 x5_1) _ _ (rd_L2 l1 x5_1) false _ ?side1 ?side2 ?side3 ?side4 A7.out).mono ?_);(case side1=>repeat (first|exact HR138_0.out|(with_reducible refine ca' ?_ _)|(with_reducible refine cn' ?_ _)|(with_reducible refine cd' ?_)));(case side2=>exact HC138_0.out);(case side3=>repeat (first|exact HR139_0.out|(with_reducible refine ca' ?_ _)|(with_reducible refine cn' ?_ _)|(with_reducible refine cd' ?_)));(case side4=>exact HC139_0.out);rintro e w' ⟨rfl,⟨nd,rfl⟩⟩;(try first|exact ⟨rfl,_,World.drewN_drewN _ _ _⟩|exact ⟨rfl,_,Eq.trans (World.drewN_drewN _ _ _) (congrArg (World.drewN _) (Nat.add_assoc _ _ _))⟩))))
        go_ret
        exact ⟨xs',by repeat (first|exact Drawn0.refl _|apply Drawn0.step)⟩
      ·
       rw[if_neg c6] at H;exact absurd H (by simp)
     ·
      rw[if_neg c5] at H;exact absurd H (by simp)
    ·
     rw[if_neg c4] at H;have c4b0:decide (x5_1 < (l0.length:Int))=false:=df' c4;clear c4;obtain rfl:=os' H;go_wp2
     repeat (go_quiet (fail);try go_wp2)
     go_ret
     exact ⟨xs',by repeat (first|exact Drawn0.refl _|apply Drawn0.step)⟩
 ·
  rw[if_neg c3] at H;have c3b0:((l0.length:Int) == (l1.length:Int))=false:=beq_eq_false_iff_ne.mpr c3;have c3b1:((l0.length:Int) != (l1.length:Int))=true:=bne_iff_ne.mpr c3;have c3b2:(l0.length == l1.length)=false:=by first|simpa using c3|(simp at c3 ⊢;omega)
  obtain rfl:=os' H;go_enter Try.func32,Try.ntmps32;go_wp2
  repeat (go_quiet (fail);try go_wp2)
  go_ret
  exact ⟨xs',by repeat (first|exact Drawn0.refl _|apply Drawn0.step)⟩
theorem markIntS_loop':∀ (r pre:List Int) (a:Int),(pre ++ r).length≤9223372036854775807→Ev (fun k=>laws_markIntS.l0 k (pre ++ r) a (pre.length:Int)) ((mkS r a).1,pre ++ (mkS r a).2):=by
 intro r;induction r with
 | nil =>
  intro pre a hl;refine Ev.step (f:=fun _=>some _) (fun k=>?_) (Ev.now _);simp only[laws_markIntS.l0];rw[if_neg (nlt_end pre)];rfl
 | cons x r ih =>
  intro pre a hl;refine Ev.step (fun k=>?_) (ev_eq (ih (pre ++ [a]) (wrap64 (a+1)) (by simpa using hl)) (by simp[mkS]));simp only[laws_markIntS.l0];rw[if_pos (lt_mid pre x r),if_pos (zle _),set_mid,wr_mid pre x r hl,app_mid pre a r];simp
def laws_markIntSS.f (l0:List (List Int)) (a1:Int):Option (Int × List (List Int)):=some (mkSS l0 a1)
set_option maxHeartbeats 4000000 in
set_option maxRecDepth 100000 in
theorem laws_markIntSS.calls (P0_:Nat→Prop) (u9000_:Value) (l0:List (List Int)) (a1:Int) (r1:Int) (r2:List (List Int)) (w0 w:World) (hB:Below w0.heap.size w0 w) (ho0:Kd.S (Kd.slice 3 (Kd.int .i64)) 22 w w0.heap.size P0_ u9000_ l0) (h:laws_markIntSS.f l0 a1=some (r1,r2)) :
  Calls Try.prog 35 #[u9000_, .int .i64 a1] w fun e w'=>e = .returned (.int .i64 r1)∧Kd.S (Kd.slice 3 (Kd.int .i64)) 22 w' w0.heap.size P0_ u9000_ r2∧Below w0.heap.size w0 w'∧Kept w w' (fun k_=>P0_ k_):=by
 obtain ⟨A,c,rfl,hlc,hC⟩:=Kd.S_reads ho0
 have hbig:=hC.2.1
 have HE:=am' (os' h)
 have HS:=am' ho0
 have HB:=am' hB
 clear h ho0 hB hC hlc;go_enter Try.func35,Try.ntmps35
 go_wp2
 go_loopg [1,5] l0.length (fun gg v1 v5 wr=>∃ (pre r:List (List Int)) (a':Int),l0.length - pre.length≤gg∧pre.length+r.length=l0.length∧v1 = .int .i64 a'∧v5 = .int .i64 (pre.length:Int)∧Aside0 (mkSS l0 a1=((mkSS r a').1,pre ++ (mkSS r a').2))∧Aside0 (Kd.S (Kd.slice 3 (Kd.int .i64)) 22 wr w0.heap.size P0_ (.slice A l0.length c) (pre ++ r))∧Aside0 (Below w0.heap.size w0 wr)∧Aside0 (Kept w wr P0_))
 case atStart=>exact ⟨[],l0,a1,by simp,by simp,rfl,rfl,⟨rfl⟩,HS,HB,⟨Kept.refl _ _⟩⟩
 case round =>
  obtain ⟨pre,r,a',hg,hlen,rfl,rfl,HM,HS,HB,HK⟩:=hrel;cases r with
  | nil =>
   have e:pre.length=l0.length:=by simpa using hlen
   have hnl:¬ (pre.length:Int) < (l0.length:Int):=by omega
   go_wp2;go_ret
   have hm:=HE.out.symm.trans HM.out;simp only[mkSS,List.append_nil,Prod.mk.injEq] at hm;obtain ⟨rfl,rfl⟩:=hm;exact ⟨rfl,by have:=HS.out;rwa [List.append_nil] at this,HB.out,HK.out⟩
  | cons x r =>
   have hlt:pre.length < l0.length:=by simp at hlen;omega
   have hltz:(pre.length:Int) < (l0.length:Int):=by omega
   have hform:=Kd.S_form HS.out (by simp only[List.length_append,List.length_cons];omega);obtain ⟨g,cap,hv,hgb,hgl,cells,hgc⟩:=hform;injection hv with hA hn hcap
   subst hA;clear hcap hn;obtain ⟨oki,ce,hcl,hM,hcc,hoki,hH⟩:=Kd.S_lend HS.out [] (pre.length:Int) (zle _) hltz;obtain ⟨v,rfl,hR⟩:=hM;have hx:wr.cell? ⟨g,pre.length,none⟩=some v:=by simpa [Kd.slice] using hcc 0 v rfl
   have hget:(pre ++ x :: r).getD ((pre.length:Int)).toNat []=x:=by simp
   rw[hget] at hR;obtain ⟨A',c',rfl⟩:=Kd.R_slice hR;obtain ⟨kk,hk⟩:=(markIntS_loop' x [] a' (by have:=(Kd.R_reads' hR).2.2.2.1;simpa using this)).rounds;have hc1:=laws_markIntS.calls kk oki (.slice A' x.length c') x a' (mkS x a').1 (mkS x a').2 w0 wr HB.out hR hk;have HH:=am' hH;have HR:=am' hR;have HO:=am' hoki;have HC1:=am' hc1;clear hH hR hoki hc1 hk hcc hcl hgc hgl hgb hget;go_wp2_with (go_at_call 26;refine HC1.out.mono ?_;rintro e w' ⟨rfl,hy,hb,hkp⟩;have HY:=am' hy;have HB':=am' hb;have HKP:=am' hkp;clear hy hb hkp hx);go_roundg (l0.length - (pre.length+1))
   case measure=>omega
   case rel =>
    refine ⟨pre ++ [(mkS x a').2],r,(mkS x a').1,by simp,by simp at hlen ⊢;omega,rfl,?_,⟨?_⟩,⟨?_⟩,HB',⟨?_⟩⟩
    ·
     simp
    ·
     rw[HM.out];simp[mkSS]
    ·
     have h1:=Kd.H_kept HH.out HKP.out (fun k _ h2 h3=>h2 h3);have h2:=Kd.H_back (x':=(mkS x a').2) h1 ⟨_,rfl,Kd.R_reok rfl HY.out (fun k e=>HR.out.1 k e)⟩ (fun _ hk=>hk);simpa using h2
    ·
     exact Kept.then_ HK.out HKP.out (fun k hk => .inl (HO.out k hk).1)
def laws_heldIntS.l0:Nat→List Int→Int→Int→Option (Int)
 | 0,_,_,_=>none
 | k+1,x0,x1,x5=>if x5 < (x0.length:Int) then (if 0≤x5 then (if (rd x0 x5)=x1 then (laws_heldIntS.l0 k x0 (wrap64 (x1+1)) (wrap64 (x5+1))) else (some (-1))) else (none)) else (some x1)
def laws_heldIntS.f (k:Nat) (l0:List Int) (a1:Int):Option (Int):=laws_heldIntS.l0 k l0 a1 0
set_option maxHeartbeats 8000000 in
set_option maxRecDepth 100000 in
theorem laws_heldIntS.calls (k:Nat) (A0:Option Addr) (c0:Nat) (l0:List Int) (a1:Int) (r:Int) (w:World) (hr0:Kd.C (Kd.int .i64) w A0 l0.length l0) (hc0:l0.length≤c0) (h:laws_heldIntS.f k l0 a1=some r) :
  Calls Try.prog 39 #[.slice A0 l0.length c0, .int .i64 a1] w fun e w'=>e = .returned (.int .i64 r)∧Drawn0 w w':=by
 have HR0:=am' hr0
 have HC0:=am' hc0
 clear hr0 hc0;have H:(laws_heldIntS.l0 k l0 a1 0)=some r:=h
 clear h;have H':=am' H
 clear H;go_enter Try.func39,Try.ntmps39
 go_wp2
 go_loopg [1,5] k (fun kq v1 v5 w'=>∃ (x1_1:Int) (x5_1:Int),v1 = .int .i64 x1_1∧v5 = .int .i64 x5_1∧Aside0 (laws_heldIntS.l0 kq l0 x1_1 x5_1=some r)∧Aside0 (kq≤k)∧Drawn0 w w')
 case atStart=>exact ⟨(a1),(0),xs',xs',H',⟨Nat.le_refl _⟩,by repeat (first|exact Drawn0.refl _|apply Drawn0.step)⟩
 case round =>
  clear H';try clear p2
  obtain ⟨x1_1,x5_1,rfl,rfl,HA,HK1,⟨m1,rfl⟩⟩:=hrel;cases gk with
  | zero=>exact absurd HA.out (by simp[laws_heldIntS.l0])
  | succ k1 =>
   have H:=HA.out;clear HA;simp only[laws_heldIntS.l0] at H;by_cases c3:x5_1 < (l0.length:Int)
   ·
    rw[if_pos c3] at H;have c3b0:decide (x5_1 < (l0.length:Int))=true:=dt' c3;clear c3;by_cases c4:0≤x5_1
    ·
     rw[if_pos c4] at H;have c4b0:decide (0≤x5_1)=true:=dt' c4;clear c4;by_cases c5:(rd l0 x5_1)=x1_1
     ·
      rw[if_pos c5] at H;have c5b0:((rd l0 x5_1) == x1_1)=true:=beq_iff_eq.mpr c5;have c5b1:((rd l0 x5_1) != x1_1)=false:=bne_eq_false_iff_eq.mpr c5;clear c5;have H':=am' H;clear H;have p141:0≤(x5_1:Int):=od' xa';have q141:x5_1 < (l0.length:Int):=od' xa';obtain ⟨ad141,e141,hx141_0⟩:=Kd.at_int HR0.out x5_1 p141 q141;cases e141;replace p141:=eq_true p141;replace q141:=eq_true q141;go_wp2;go_roundg k1
      case measure=>have:=HK1.out;omega
      case rel=>exact ⟨(wrap64 (x1_1+1)),(wrap64 (x5_1+1)),xs',xs',H',⟨by have:=HK1.out;omega⟩,by repeat (first|exact Drawn0.refl _|apply Drawn0.step)⟩
     ·
      rw[if_neg c5] at H;have c5b0:((rd l0 x5_1) == x1_1)=false:=beq_eq_false_iff_ne.mpr c5;have c5b1:((rd l0 x5_1) != x1_1)=true:=bne_iff_ne.mpr c5;obtain rfl:=os' H;have p141:0≤(x5_1:Int):=od' xa';have q141:x5_1 < (l0.length:Int):=od' xa';obtain ⟨ad141,e141,hx141_0⟩:=Kd.at_int HR0.out x5_1 p141 q141;cases e141;replace p141:=eq_true p141;replace q141:=eq_true q141;go_wp2;go_ret
      exact ⟨xs',by repeat (first|exact Drawn0.refl _|apply Drawn0.step)⟩
    ·
     rw[if_neg c4] at H;exact absurd H (by simp)
   ·
    rw[if_neg c3] at H;have c3b0:decide (x5_1 < (l0.length:Int))=false:=df' c3;clear c3;obtain rfl:=os' H;go_wp2;go_ret
    exact ⟨xs',by repeat (first|exact Drawn0.refl _|apply Drawn0.step)⟩
def laws_heldIntSS.l0:Nat→List (List Int)→Int→Int→Option (Int)
 | 0,_,_,_=>none
 | k+1,x0,x1,x5=>if x5 < (x0.length:Int) then (if 0≤x5 then ((laws_heldIntS.f k (rd_L2 x0 x5) x1).bind fun t143=>(if t143 < 0 then (some (-1)) else (laws_heldIntSS.l0 k x0 t143 (wrap64 (x5+1))))) else (none)) else (some x1)
def laws_heldIntSS.f (k:Nat) (l0:List (List Int)) (a1:Int):Option (Int):=laws_heldIntSS.l0 k l0 a1 0
set_option maxHeartbeats 8000000 in
set_option maxRecDepth 100000 in
theorem laws_heldIntSS.calls (k:Nat) (A0:Option Addr) (c0:Nat) (l0:List (List Int)) (a1:Int) (r:Int) (w:World) (hr0:Kd.C (Kd.slice 3 (Kd.int .i64)) w A0 l0.length l0) (hc0:l0.length≤c0) (h:laws_heldIntSS.f k l0 a1=some r) :
  Calls Try.prog 36 #[.slice A0 l0.length c0, .int .i64 a1] w fun e w'=>e = .returned (.int .i64 r)∧Drawn0 w w':=by
 have HR0:=am' hr0
 have HC0:=am' hc0
 clear hr0 hc0;have H:(laws_heldIntSS.l0 k l0 a1 0)=some r:=h
 clear h;have H':=am' H
 clear H;go_enter Try.func36,Try.ntmps36
 go_wp2
 go_loopg [1,5] k (fun kq v1 v5 w'=>∃ (x1_1:Int) (x5_1:Int),v1 = .int .i64 x1_1∧v5 = .int .i64 x5_1∧Aside0 (laws_heldIntSS.l0 kq l0 x1_1 x5_1=some r)∧Aside0 (kq≤k)∧Drawn0 w w')
 case atStart=>exact ⟨(a1),(0),xs',xs',H',⟨Nat.le_refl _⟩,by repeat (first|exact Drawn0.refl _|apply Drawn0.step)⟩
 case round =>
  clear H';try clear p2
  obtain ⟨x1_1,x5_1,rfl,rfl,HA,HK1,⟨m1,rfl⟩⟩:=hrel;cases gk with
  | zero=>exact absurd HA.out (by simp[laws_heldIntSS.l0])
  | succ k1 =>
   have H:=HA.out;clear HA;simp only[laws_heldIntSS.l0] at H;by_cases c3:x5_1 < (l0.length:Int)
   ·
    rw[if_pos c3] at H;have c3b0:decide (x5_1 < (l0.length:Int))=true:=dt' c3;clear c3;by_cases c4:0≤x5_1
    ·
     rw[if_pos c4] at H;have c4b0:decide (0≤x5_1)=true:=dt' c4;clear c4;replace H:=Option.bind_eq_some_iff.mp H;obtain ⟨t143,A50,H⟩:=H;replace H:(if t143 < 0 then (some (-1)) else (laws_heldIntSS.l0 k1 l0 t143 (wrap64 (x5_1+1))))=some r:=H;have A5:=am' A50;clear A50;by_cases c6:t143 < 0
     ·
      rw[if_pos c6] at H;have c6b0:decide (t143 < 0)=true:=dt' c6;clear c6;obtain rfl:=os' H;have p142:0≤(x5_1:Int):=od' xa';have q142:x5_1 < (l0.length:Int):=od' xa';obtain ⟨ad142,A142_0,c142_0,e142,hx142_0,hl142_0,hi142_0⟩:=at_L2 HR0.out x5_1 p142 q142;cases e142;have HR142_0:=am' hi142_0;have HC142_0:=am' hl142_0;clear hi142_0 hl142_0;replace p142:=eq_true p142;replace q142:=eq_true q142;go_wp2_with (first|((with_reducible refine gate_callee (f:=39) rfl ?_);refine goesL_ (some 17) rfl rfl Try.func39 xk' rfl #[.slice A142_0 (rd_L2 l0 x5_1).length c142_0, .int .i64 x1_1] rfl xl' ?_;(with_reducible refine (laws_heldIntS.calls k1 _ _ (rd_L2 l0 x5_1) x1_1 t143 _ ?side1 ?side2 A5.out).mono ?_);(case side1=>repeat (first|exact HR142_0.out|(with_reducible refine ca' ?_ _)|(with_reducible refine cn' ?_ _)|(with_reducible refine cd' ?_)));(case side2=>exact HC142_0.out);rintro e w' ⟨rfl,⟨nd,rfl⟩⟩;refine ⟨_,rfl,?_⟩));go_ret
      exact ⟨xs',by repeat (first|exact Drawn0.refl _|apply Drawn0.step)⟩
     ·
      rw[if_neg c6] at H;have c6b0:decide (t143 < 0)=false:=df' c6;clear c6;have H':=am' H;clear H;have p142:0≤(x5_1:Int):=od' xa';have q142:x5_1 < (l0.length:Int):=od' xa';obtain ⟨ad142,A142_0,c142_0,e142,hx142_0,hl142_0,hi142_0⟩:=at_L2 HR0.out x5_1 p142 q142;cases e142;have HR142_0:=am' hi142_0;have HC142_0:=am' hl142_0;clear hi142_0 hl142_0;replace p142:=eq_true p142;replace q142:=eq_true q142;go_wp2_with (first|((with_reducible refine gate_callee (f:=39) rfl ?_);refine goesL_ (some 17) rfl rfl Try.func39 xk' rfl #[.slice A142_0 (rd_L2 l0 x5_1).length c142_0, .int .i64 x1_1] rfl xl' ?_;(with_reducible refine (laws_heldIntS.calls k1 _ _ (rd_L2 l0 x5_1) x1_1 t143 _ ?side1 ?side2 A5.out).mono ?_);(case side1=>repeat (first|exact HR142_0.out|(with_reducible refine ca' ?_ _)|(with_reducible refine cn' ?_ _)|(with_reducible refine cd' ?_)));(case side2=>exact HC142_0.out);rintro e w' ⟨rfl,⟨nd,rfl⟩⟩;refine ⟨_,rfl,?_⟩));go_roundg k1
      case measure=>have:=HK1.out;omega
      case rel=>exact ⟨(t143),(wrap64 (x5_1+1)),xs',xs',H',⟨by have:=HK1.out;omega⟩,by repeat (first|exact Drawn0.refl _|apply Drawn0.step)⟩
    ·
     rw[if_neg c4] at H;exact absurd H (by simp)
   ·
    rw[if_neg c3] at H;have c3b0:decide (x5_1 < (l0.length:Int))=false:=df' c3;clear c3;obtain rfl:=os' H;go_wp2;go_ret
    exact ⟨xs',by repeat (first|exact Drawn0.refl _|apply Drawn0.step)⟩
def spec_l1In.f (a0:Int) (a1:Int) (a2:Int):Option (Bool):=if a0 ≥ a1 then (some (decide (a0≤a2))) else (some false)
set_option maxHeartbeats 8000000 in
set_option maxRecDepth 100000 in
theorem spec_l1In.calls (a0:Int) (a1:Int) (a2:Int) (r:Bool) (w:World) (h:spec_l1In.f a0 a1 a2=some r) :
  Calls Try.prog 87 #[.int .i64 a0, .int .i64 a1, .int .i64 a2] w fun e w'=>e = .returned (.bool r)∧Drawn0 w w':=by
 have H:(if a0 ≥ a1 then (some (decide (a0≤a2))) else (some false))=some r:=h
 clear h;by_cases c4:a0 ≥ a1
 ·
  rw[if_pos c4] at H;have c4b0:decide (a1≤a0)=true:=dt' c4;clear c4;obtain rfl:=os' H;go_enter Try.func87,Try.ntmps87;go_wp2;go_ret
  exact ⟨xs',by repeat (first|exact Drawn0.refl _|apply Drawn0.step)⟩
 ·
  rw[if_neg c4] at H;have c4b0:decide (a1≤a0)=false:=df' c4;clear c4;obtain rfl:=os' H;go_enter Try.func87,Try.ntmps87;go_wp2;go_ret
  exact ⟨xs',by repeat (first|exact Drawn0.refl _|apply Drawn0.step)⟩
def spec_l1All.l0:Nat→Int→Int→List Int→Int→Int→Option (Bool)
 | 0,_,_,_,_,_=>none
 | k+1,x1,x2,x9,x10,x11=>if x11 < x10 then (if 0≤x11 then (if x11 < (x9.length:Int) then ((spec_l1In.f (rd x9 x11) x1 x2).bind fun t145=>(if t145=true then (spec_l1All.l0 k x1 x2 x9 x10 (wrap64 (x11+1))) else (some false))) else (none)) else (none)) else (some true)
def spec_l1All.f (k:Nat) (l0:List Int) (a1:Int) (a2:Int):Option (Bool):=spec_l1All.l0 k a1 a2 l0 (l0.length:Int) 0
set_option maxHeartbeats 8000000 in
set_option maxRecDepth 100000 in
theorem spec_l1All.calls (k:Nat) (A0:Option Addr) (c0:Nat) (l0:List Int) (a1:Int) (a2:Int) (r:Bool) (w:World) (hr0:Kd.C (Kd.int .i64) w A0 l0.length l0) (hc0:l0.length≤c0) (h:spec_l1All.f k l0 a1 a2=some r) :
  Calls Try.prog 88 #[.slice A0 l0.length c0, .int .i64 a1, .int .i64 a2] w fun e w'=>e = .returned (.bool r)∧Drawn0 w w':=by
 have HR0:=am' hr0
 have HC0:=am' hc0
 clear hr0 hc0;have H:(spec_l1All.l0 k a1 a2 l0 (l0.length:Int) 0)=some r:=h
 clear h;have H':=am' H
 clear H;go_enter Try.func88,Try.ntmps88
 go_wp2
 go_loopg [11] k (fun kq v11 w'=>∃ (x11_1:Int),v11 = .int .i64 x11_1∧Aside0 (spec_l1All.l0 kq a1 a2 l0 (l0.length:Int) x11_1=some r)∧Aside0 (kq≤k)∧Drawn0 w w')
 case atStart=>exact ⟨(0),xs',H',⟨Nat.le_refl _⟩,by repeat (first|exact Drawn0.refl _|apply Drawn0.step)⟩
 case round =>
  clear H';try clear p2
  obtain ⟨x11_1,rfl,HA,HK1,⟨m1,rfl⟩⟩:=hrel;cases gk with
  | zero=>exact absurd HA.out (by simp[spec_l1All.l0])
  | succ k1 =>
   have H:=HA.out;clear HA;simp only[spec_l1All.l0] at H;by_cases c4:x11_1 < (l0.length:Int)
   ·
    rw[if_pos c4] at H;have c4b0:decide (x11_1 < (l0.length:Int))=true:=dt' c4;clear c4;by_cases c5:0≤x11_1
    ·
     rw[if_pos c5] at H;have c5b0:decide (0≤x11_1)=true:=dt' c5;clear c5;by_cases c6:x11_1 < (l0.length:Int)
     ·
      rw[if_pos c6] at H;have c6b0:decide (x11_1 < (l0.length:Int))=true:=dt' c6;clear c6;replace H:=Option.bind_eq_some_iff.mp H;obtain ⟨t145,A70,H⟩:=H;replace H:(if t145=true then (spec_l1All.l0 k1 a1 a2 l0 (l0.length:Int) (wrap64 (x11_1+1))) else (some false))=some r:=H;have A7:=am' A70;clear A70;by_cases c8:t145=true
      ·
       subst c8;have H1:(spec_l1All.l0 k1 a1 a2 l0 (l0.length:Int) (wrap64 (x11_1+1)))=some r:=by rw[if_pos rfl] at H;exact H
       clear H;have H:=H1;clear H1;have H':=am' H;clear H;have p144:0≤(x11_1:Int):=od' xa';have q144:x11_1 < (l0.length:Int):=od' xa';obtain ⟨ad144,e144,hx144_0⟩:=Kd.at_int HR0.out x11_1 p144 q144;cases e144;replace p144:=eq_true p144;replace q144:=eq_true q144;go_wp2_with (first|((with_reducible refine gate_callee (f:=87) rfl ?_);refine goesL_ (some 18) rfl rfl Try.func87 xk' rfl #[.int .i64 (rd l0 x11_1), .int .i64 a1, .int .i64 a2] rfl xl' ?_;(with_reducible refine (spec_l1In.calls (rd l0 x11_1) a1 a2 true _ A7.out).mono ?_);rintro e w' ⟨rfl,⟨nd,rfl⟩⟩;refine ⟨_,rfl,?_⟩));go_roundg k1
       case measure=>have:=HK1.out;omega
       case rel=>exact ⟨(wrap64 (x11_1+1)),xs',H',⟨by have:=HK1.out;omega⟩,by repeat (first|exact Drawn0.refl _|apply Drawn0.step)⟩
      ·
       replace c8:=Bool.eq_false_iff.mpr c8;subst c8;have H1:(some false)=some r:=by rw[if_neg (show ¬ (false=true) by decide)] at H;exact H
       clear H;have H:=H1;clear H1;obtain rfl:=os' H;have p144:0≤(x11_1:Int):=od' xa';have q144:x11_1 < (l0.length:Int):=od' xa';obtain ⟨ad144,e144,hx144_0⟩:=Kd.at_int HR0.out x11_1 p144 q144;cases e144;replace p144:=eq_true p144;replace q144:=eq_true q144;go_wp2_with (first|((with_reducible refine gate_callee (f:=87) rfl ?_);refine goesL_ (some 18) rfl rfl Try.func87 xk' rfl #[.int .i64 (rd l0 x11_1), .int .i64 a1, .int .i64 a2] rfl xl' ?_;(with_reducible refine (spec_l1In.calls (rd l0 x11_1) a1 a2 false _ A7.out).mono ?_);rintro e w' ⟨rfl,⟨nd,rfl⟩⟩;refine ⟨_,rfl,?_⟩));go_ret
       exact ⟨xs',by repeat (first|exact Drawn0.refl _|apply Drawn0.step)⟩
     ·
      rw[if_neg c6] at H;exact absurd H (by simp)
    ·
     rw[if_neg c5] at H;exact absurd H (by simp)
   ·
    rw[if_neg c4] at H;have c4b0:decide (x11_1 < (l0.length:Int))=false:=df' c4;clear c4;obtain rfl:=os' H;go_wp2;go_ret
    exact ⟨xs',by repeat (first|exact Drawn0.refl _|apply Drawn0.step)⟩
end Go.Proofs.Ytikjdmiohpdnaaa.C20
