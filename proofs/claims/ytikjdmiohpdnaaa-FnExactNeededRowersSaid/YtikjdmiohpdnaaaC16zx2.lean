import Derived.Test.YtikjdmiohpdnaaaC16zx0
import Derived.Test.YtikjdmiohpdnaaaC16zAl
namespace Go.Proofs.Ytikjdmiohpdnaaa.C16
open Go.RowKit Go.Proofs.YtikjdmiohpdnaaaW.PrintWords Go.Proofs.YtikjdmiohpdnaaaW.PrintLast Go.Proofs.YtikjdmiohpdnaaaW.PrintMore Go.Proofs.Ytikjdmiohpdnaaa.H
attribute [local go_sem] max2_int min2_int max_two min_two max_three min_three max_four min_four
set_option linter.unusedVariables false
set_option linter.unusedSimpArgs false
def laws_markIntS.l0:Nat→List Int→Int→Int→Option (Int × List Int)
 | 0,_,_,_=>none
 | k+1,x0,x1,x5=>if x5 < (x0.length:Int) then (if 0≤x5 then (laws_markIntS.l0 k (x0.set (x5:Int).toNat x1) (wrap64 (x1+1)) (wrap64 (x5+1))) else (none)) else (some (x1,x0))
def laws_markIntS.f (k:Nat) (l0:List Int) (a1:Int):Option (Int × List Int):=laws_markIntS.l0 k l0 a1 0
set_option maxHeartbeats 8000000 in
set_option maxRecDepth 100000 in
theorem laws_markIntS.calls (k:Nat) (P0_:Nat→Prop) (u9000_:Value) (l0:List Int) (a1:Int) (r1:Int) (r2:List Int) (w0 w:World) (hB:Below w0.heap.size w0 w) (ho0:Kd.R (Kd.int .i64) 3 w w0.heap.size P0_ u9000_ l0) (h:laws_markIntS.f k l0 a1=some (r1,r2)) :
  Calls Try.prog 26 #[u9000_, .int .i64 a1] w fun e w'=>e = .returned (.int .i64 r1)∧Kd.R (Kd.int .i64) 3 w' w0.heap.size (fun k_=>(P0_ k_∨w.heap.size≤k_)) u9000_ r2∧Below w0.heap.size w0 w'∧Kept w w' (fun k_=>P0_ k_):=by
 have HO0:=am' (show Kd.R (Kd.int .i64) 3 w w0.heap.size (fun k_=>(P0_ k_∨w.heap.size≤k_)) u9000_ l0 from Kd.R_mono ho0 (fun k_ hk=>(.inl hk)))
 have HK:=am' (Kept.refl w (fun k_=>P0_ k_))
 have HW0:=am' hB.size
 have HB:=am' hB
 clear hB;have H:(laws_markIntS.l0 k l0 a1 0)=some (r1,r2):=h
 clear h;have H':=am' H
 clear H;go_enter Try.func26,Try.ntmps26
 go_wp2
 go_loopg [1,5] k (fun kq v1 v5 w'=>∃ (x0_1:List Int) (x1_1:Int) (x5_1:Int),v1 = .int .i64 x1_1∧v5 = .int .i64 x5_1∧Aside0 (laws_markIntS.l0 kq x0_1 x1_1 x5_1=some (r1,r2))∧Aside0 (kq≤k)∧Aside0 (Kd.R (Kd.int .i64) 3 w' w0.heap.size (fun k_=>(P0_ k_∨w.heap.size≤k_)) u9000_ x0_1)∧Aside0 (Kept w w' (fun k_=>P0_ k_))∧Aside0 (Below w0.heap.size w0 w'))
 case atStart=>exact ⟨(l0),(a1),(0),xs',xs',H',⟨Nat.le_refl _⟩,⟨by (with_reducible repeat (first|apply ra'|apply rn'|apply rw'));exact HO0.out⟩,⟨by repeat (first|(with_reducible first|exact HK.out|apply Kept.alloc|apply Kept.drewN|apply Kept.drew)|exact HK.out)⟩,⟨by repeat (first|(with_reducible first|exact HB.out|apply ba'|apply bd'|apply be')|exact HB.out)⟩⟩
 case round =>
  clear H';try clear c2
  try clear p2
  obtain ⟨x0_1,x1_1,x5_1,rfl,rfl,HA,HK1,HO_0,HK,HB⟩:=hrel;cases gk with
  | zero=>exact absurd HA.out (by simp[laws_markIntS.l0])
  | succ k1 =>
   have H:=HA.out;clear HA;simp only[laws_markIntS.l0] at H;by_cases c3:x5_1 < (x0_1.length:Int)
   ·
    rw[if_pos c3] at H;have c3b0:decide (x5_1 < (x0_1.length:Int))=true:=decide_eq_true c3;clear c3;by_cases c4:0≤x5_1
    ·
     rw[if_pos c4] at H;have c4b0:decide (0≤x5_1)=true:=decide_eq_true c4;clear c4;obtain ⟨y131,hy131⟩:∃ y_:List Int,y_=(x0_1.set (x5_1:Int).toNat x1_1):=⟨_,rfl⟩
     replace H:(laws_markIntS.l0 k1 y131 (wrap64 (x1_1+1)) (wrap64 (x5_1+1)))=some (r1,r2):=by first|(rw[hy131];with_reducible exact H)|(have H2_:=(Option.bind_some _ _).symm.trans H;rw[hy131];with_reducible exact H2_)|(have H2_:=(Option.bind_some _ _).symm.trans H;with_reducible exact H2_)|with_reducible exact H|(rw[hy131];exact H)|exact H
     have Ny131:=am' hy131;clear hy131;have H':=am' H;clear H;obtain ⟨Ao6,co6,eo6⟩:=Kd.R_slice HO_0.out;subst eo6;have p5:0≤(x5_1:Int):=of_decide_eq_true xa';have q5:(x5_1:Int) < ((x0_1.length:Int):Int):=of_decide_eq_true xa';obtain ⟨go5,co5,eo5,gb5,gl5,cl5,HG5⟩:=Kd.R_form HO_0.out (by omega)
     (first|cases eo5|(injection eo5 with ea_ en_ ec_;(first|subst ea_|(injection ea_ with ea_;subst ea_));subst ec_;clear en_))
     have GB5:=am' gb5;have GG5:=am' HG5;clear gb5 gl5 HG5;have HMgo5:=am' (show (P0_ go5∨w.heap.size≤go5) from (HO_0.out.1 _ rfl));obtain ⟨hx5_0,hf5_0⟩:=Kd.R_celln 0 HO_0.out (x5_1:Int) p5 q5;replace p5:=eq_true p5;replace q5:=eq_true q5;have HP7:=Kd.R_putg HO_0.out (x5_1:Int) x1_1;go_wp2_with (first|((with_reducible refine gate_store (t:=3) (p:=15) rfl ?_);refine store_event (t:=3) (p:=15) (v:=?vo_w8) (w1:=(wr.setCell ⟨go5,(x5_1:Int).toNat,none⟩ (.int .i64 x1_1))) ?hg ?ho ?hn ?hr ?_;(case ho=>rfl);(case hg=>rfl);(case hn=>rfl);(case hr=>first|(go_simp;done)|(go_simp;rfl));intro w8 hw;have hg:wr.grownBy w8 (some go5):=(by rw[hw];exact HP7.2);have hp_:Kd.R (Kd.int .i64) 3 w8 w0.heap.size (fun k_=>(P0_ k_∨w.heap.size≤k_)) (.slice (some ⟨go5,0,none⟩) x0_1.length co6) y131:=(by rw[hw,Ny131.out];exact HP7.1);clear HP7;have n0_:=am' (hp_);have n1_:=am' ((by rw[hw];exact bs' (HB.out) GB5.out:Below w0.heap.size w0 w8));have n2_:=am' (Kept.of_grown (S:=(fun k_=>P0_ k_)) hg (by repeat (first|(with_reducible first|exact HK.out|apply Kept.alloc|apply Kept.drewN|apply Kept.drew)|exact HK.out)) (fun k_ e_=>(HO_0.out.1 k_ e_)));clear HO_0;clear HB;clear HK;have HO_0:=n0_;have HB:=n1_;have HK:=n2_;clear n0_ n1_ n2_;clear hg hw hp_));go_roundg k1
     case measure=>have:=HK1.out;omega
     case rel=>exact ⟨(y131),(wrap64 (x1_1+1)),(wrap64 (x5_1+1)),xs',xs',H',⟨by have:=HK1.out;omega⟩,⟨by (with_reducible repeat (first|apply ra'|apply rn'|apply rw'));exact HO_0.out⟩,⟨by repeat (first|(with_reducible first|exact HK.out|apply Kept.alloc|apply Kept.drewN|apply Kept.drew)|exact HK.out)⟩,⟨by repeat (first|(with_reducible first|exact HB.out|apply ba'|apply bd'|apply be')|exact HB.out)⟩⟩
    ·
     rw[if_neg c4] at H;exact absurd H (by simp)
   ·
    rw[if_neg c3] at H;have c3b0:decide (x5_1 < (x0_1.length:Int))=false:=decide_eq_false c3;clear c3;simp only[Option.some.injEq,Prod.mk.injEq] at H;obtain ⟨rfl,rfl⟩:=H;obtain ⟨Ao9,co9,eo9⟩:=Kd.R_slice HO_0.out;subst eo9;go_wp2;go_ret
    exact ⟨by first|rfl|(simp[errW_none,errW_some] <;> rfl)|(simp[*,errW_none,errW_some] <;> rfl),by (with_reducible repeat (first|apply ra'|apply rn'|apply rw'));exact HO_0.out,by repeat (first|(with_reducible first|exact HB.out|apply ba'|apply bd'|apply be')|exact HB.out),by repeat (first|(with_reducible first|exact HK.out|apply Kept.alloc|apply Kept.drewN|apply Kept.drew)|exact HK.out)⟩
def laws_markBoolS.l0:Nat→List Bool→Int→Int→Option (Int × List Bool)
 | 0,_,_,_=>none
 | k+1,x0,x1,x5=>if x5 < (x0.length:Int) then (if 0≤x5 then (laws_markBoolS.l0 k (x0.set (x5:Int).toNat ((Int.tmod x1 3) == 0)) (wrap64 (x1+1)) (wrap64 (x5+1))) else (none)) else (some (x1,x0))
def laws_markBoolS.f (k:Nat) (l0:List Bool) (a1:Int):Option (Int × List Bool):=laws_markBoolS.l0 k l0 a1 0
set_option maxHeartbeats 8000000 in
set_option maxRecDepth 100000 in
theorem laws_markBoolS.calls (k:Nat) (P0_:Nat→Prop) (u9000_:Value) (l0:List Bool) (a1:Int) (r1:Int) (r2:List Bool) (w0 w:World) (hB:Below w0.heap.size w0 w) (ho0:Kd.R Kd.bool 4 w w0.heap.size P0_ u9000_ l0) (h:laws_markBoolS.f k l0 a1=some (r1,r2)) :
  Calls Try.prog 64 #[u9000_, .int .i64 a1] w fun e w'=>e = .returned (.int .i64 r1)∧Kd.R Kd.bool 4 w' w0.heap.size (fun k_=>(P0_ k_∨w.heap.size≤k_)) u9000_ r2∧Below w0.heap.size w0 w'∧Kept w w' (fun k_=>P0_ k_):=by
 have HO0:=am' (show Kd.R Kd.bool 4 w w0.heap.size (fun k_=>(P0_ k_∨w.heap.size≤k_)) u9000_ l0 from Kd.R_mono ho0 (fun k_ hk=>(.inl hk)))
 have HK:=am' (Kept.refl w (fun k_=>P0_ k_))
 have HW0:=am' hB.size
 have HB:=am' hB
 clear hB;have H:(laws_markBoolS.l0 k l0 a1 0)=some (r1,r2):=h
 clear h;have H':=am' H
 clear H;go_enter Try.func64,Try.ntmps64
 go_wp2
 go_loopg [1,5] k (fun kq v1 v5 w'=>∃ (x0_1:List Bool) (x1_1:Int) (x5_1:Int),v1 = .int .i64 x1_1∧v5 = .int .i64 x5_1∧Aside0 (laws_markBoolS.l0 kq x0_1 x1_1 x5_1=some (r1,r2))∧Aside0 (kq≤k)∧Aside0 (Kd.R Kd.bool 4 w' w0.heap.size (fun k_=>(P0_ k_∨w.heap.size≤k_)) u9000_ x0_1)∧Aside0 (Kept w w' (fun k_=>P0_ k_))∧Aside0 (Below w0.heap.size w0 w'))
 case atStart=>exact ⟨(l0),(a1),(0),xs',xs',H',⟨Nat.le_refl _⟩,⟨by (with_reducible repeat (first|apply ra'|apply rn'|apply rw'));exact HO0.out⟩,⟨by repeat (first|(with_reducible first|exact HK.out|apply Kept.alloc|apply Kept.drewN|apply Kept.drew)|exact HK.out)⟩,⟨by repeat (first|(with_reducible first|exact HB.out|apply ba'|apply bd'|apply be')|exact HB.out)⟩⟩
 case round =>
  clear H';try clear p2
  obtain ⟨x0_1,x1_1,x5_1,rfl,rfl,HA,HK1,HO_0,HK,HB⟩:=hrel;cases gk with
  | zero=>exact absurd HA.out (by simp[laws_markBoolS.l0])
  | succ k1 =>
   have H:=HA.out;clear HA;simp only[laws_markBoolS.l0] at H;by_cases c3:x5_1 < (x0_1.length:Int)
   ·
    rw[if_pos c3] at H;have c3b0:decide (x5_1 < (x0_1.length:Int))=true:=decide_eq_true c3;clear c3;by_cases c4:0≤x5_1
    ·
     rw[if_pos c4] at H;have c4b0:decide (0≤x5_1)=true:=decide_eq_true c4;clear c4;obtain ⟨y132,hy132⟩:∃ y_:List Bool,y_=(x0_1.set (x5_1:Int).toNat ((Int.tmod x1_1 3) == 0)):=⟨_,rfl⟩
     replace H:(laws_markBoolS.l0 k1 y132 (wrap64 (x1_1+1)) (wrap64 (x5_1+1)))=some (r1,r2):=by first|(rw[hy132];with_reducible exact H)|(have H2_:=(Option.bind_some _ _).symm.trans H;rw[hy132];with_reducible exact H2_)|(have H2_:=(Option.bind_some _ _).symm.trans H;with_reducible exact H2_)|with_reducible exact H|(rw[hy132];exact H)|exact H
     have Ny132:=am' hy132;clear hy132;have H':=am' H;clear H;obtain ⟨Ao6,co6,eo6⟩:=Kd.R_slice HO_0.out;subst eo6;have p5:0≤(x5_1:Int):=of_decide_eq_true xa';have q5:(x5_1:Int) < ((x0_1.length:Int):Int):=of_decide_eq_true xa';obtain ⟨go5,co5,eo5,gb5,gl5,cl5,HG5⟩:=Kd.R_form HO_0.out (by omega)
     (first|cases eo5|(injection eo5 with ea_ en_ ec_;(first|subst ea_|(injection ea_ with ea_;subst ea_));subst ec_;clear en_))
     have GB5:=am' gb5;have GG5:=am' HG5;clear gb5 gl5 HG5;have HMgo5:=am' (show (P0_ go5∨w.heap.size≤go5) from (HO_0.out.1 _ rfl));obtain ⟨hx5_0,hf5_0⟩:=Kd.R_celln false HO_0.out (x5_1:Int) p5 q5;replace p5:=eq_true p5;replace q5:=eq_true q5;have HP7:=Kd.R_putg HO_0.out (x5_1:Int) ((Int.tmod x1_1 3) == 0);go_wp2_with (first|((with_reducible refine gate_store (t:=4) (p:=17) rfl ?_);refine store_event (t:=4) (p:=17) (v:=?vo_w8) (w1:=(wr.setCell ⟨go5,(x5_1:Int).toNat,none⟩ (.bool ((Int.tmod x1_1 3) == 0)))) ?hg ?ho ?hn ?hr ?_;(case ho=>rfl);(case hg=>rfl);(case hn=>rfl);(case hr=>first|(go_simp;done)|(go_simp;rfl));intro w8 hw;have hg:wr.grownBy w8 (some go5):=(by rw[hw];exact HP7.2);have hp_:Kd.R Kd.bool 4 w8 w0.heap.size (fun k_=>(P0_ k_∨w.heap.size≤k_)) (.slice (some ⟨go5,0,none⟩) x0_1.length co6) y132:=(by rw[hw,Ny132.out];exact HP7.1);clear HP7;have n0_:=am' (hp_);have n1_:=am' ((by rw[hw];exact bs' (HB.out) GB5.out:Below w0.heap.size w0 w8));have n2_:=am' (Kept.of_grown (S:=(fun k_=>P0_ k_)) hg (by repeat (first|(with_reducible first|exact HK.out|apply Kept.alloc|apply Kept.drewN|apply Kept.drew)|exact HK.out)) (fun k_ e_=>(HO_0.out.1 k_ e_)));clear HO_0;clear HB;clear HK;have HO_0:=n0_;have HB:=n1_;have HK:=n2_;clear n0_ n1_ n2_;clear hg hw hp_));go_roundg k1
     case measure=>have:=HK1.out;omega
     case rel=>exact ⟨(y132),(wrap64 (x1_1+1)),(wrap64 (x5_1+1)),xs',xs',H',⟨by have:=HK1.out;omega⟩,⟨by (with_reducible repeat (first|apply ra'|apply rn'|apply rw'));exact HO_0.out⟩,⟨by repeat (first|(with_reducible first|exact HK.out|apply Kept.alloc|apply Kept.drewN|apply Kept.drew)|exact HK.out)⟩,⟨by repeat (first|(with_reducible first|exact HB.out|apply ba'|apply bd'|apply be')|exact HB.out)⟩⟩
    ·
     rw[if_neg c4] at H;exact absurd H (by simp)
   ·
    rw[if_neg c3] at H;have c3b0:decide (x5_1 < (x0_1.length:Int))=false:=decide_eq_false c3;clear c3;simp only[Option.some.injEq,Prod.mk.injEq] at H;obtain ⟨rfl,rfl⟩:=H;obtain ⟨Ao9,co9,eo9⟩:=Kd.R_slice HO_0.out;subst eo9;go_wp2;go_ret
    exact ⟨by first|rfl|(simp[errW_none,errW_some] <;> rfl)|(simp[*,errW_none,errW_some] <;> rfl),by (with_reducible repeat (first|apply ra'|apply rn'|apply rw'));exact HO_0.out,by repeat (first|(with_reducible first|exact HB.out|apply ba'|apply bd'|apply be')|exact HB.out),by repeat (first|(with_reducible first|exact HK.out|apply Kept.alloc|apply Kept.drewN|apply Kept.drew)|exact HK.out)⟩
def laws_markCrew.f (k:Nat) (l0_0:List Int) (l0_1:List Bool) (a0_2:Int) (a1:Int):Option (Int × List Int × List Bool):=(laws_markIntS.f k l0_0 a1).bind fun bt134=>((laws_markBoolS.f k l0_1 bt134.1).bind fun bt136=>(some (bt136.1,bt134.2,bt136.2)))
set_option maxHeartbeats 8000000 in
set_option maxRecDepth 100000 in
theorem laws_markCrew.calls (k:Nat) (P0_0_:Nat→Prop) (u9000_:Value) (l0_0:List Int) (P0_1_:Nat→Prop) (u9001_:Value) (l0_1:List Bool) (a0_2:Int) (a1:Int) (r1:Int) (r2:List Int) (r3:List Bool) (w0 w:World) (hB:Below w0.heap.size w0 w) (ho0_0:Kd.R (Kd.int .i64) 3 w w0.heap.size P0_0_ u9000_ l0_0) (ho0_1:Kd.R Kd.bool 4 w w0.heap.size P0_1_ u9001_ l0_1) (h:laws_markCrew.f k l0_0 l0_1 a0_2 a1=some (r1,r2,r3)) :
  Calls Try.prog 24 #[.agg #[u9000_,u9001_, .int .i64 a0_2], .int .i64 a1] w fun e w'=>e = .returned (.int .i64 r1)∧Kd.R (Kd.int .i64) 3 w' w0.heap.size (fun k_=>((P0_0_ k_∨P0_1_ k_)∨w.heap.size≤k_)) u9000_ r2∧Kd.R Kd.bool 4 w' w0.heap.size (fun k_=>((P0_0_ k_∨P0_1_ k_)∨w.heap.size≤k_)) u9001_ r3∧Below w0.heap.size w0 w'∧Kept w w' (fun k_=>P0_0_ k_∨P0_1_ k_):=by
 have hu29:=Try.underlying29
 have HO0_0:=am' (show Kd.R (Kd.int .i64) 3 w w0.heap.size (fun k_=>((P0_0_ k_∨P0_1_ k_)∨w.heap.size≤k_)) u9000_ l0_0 from Kd.R_mono ho0_0 (fun k_ hk=>(.inl (.inl hk))))
 have HO0_1:=am' (show Kd.R Kd.bool 4 w w0.heap.size (fun k_=>((P0_0_ k_∨P0_1_ k_)∨w.heap.size≤k_)) u9001_ l0_1 from Kd.R_mono ho0_1 (fun k_ hk=>(.inl (.inr hk))))
 have HK:=am' (Kept.refl w (fun k_=>P0_0_ k_∨P0_1_ k_))
 have HW0:=am' hB.size
 have HB:=am' hB
 clear hB;have H:((laws_markIntS.f k l0_0 a1).bind fun bt134=>((laws_markBoolS.f k l0_1 bt134.1).bind fun bt136=>(some (bt136.1,bt134.2,bt136.2))))=some (r1,r2,r3):=h
 clear h;replace H:=Option.bind_eq_some_iff.mp H
 obtain ⟨⟨t134,t135⟩,A30,H⟩:=H
 replace H:((laws_markBoolS.f k l0_1 t134).bind fun bt136=>(some (bt136.1,t135,bt136.2)))=some (r1,r2,r3):=H
 have A3:=am' A30
 clear A30;replace H:=Option.bind_eq_some_iff.mp H
 obtain ⟨⟨t136,t137⟩,A40,H⟩:=H
 replace H:(some (t136,t135,t137))=some (r1,r2,r3):=H
 have A4:=am' A40
 clear A40;simp only[Option.some.injEq,Prod.mk.injEq] at H
 obtain ⟨rfl,rfl,rfl⟩:=H
 obtain ⟨Ao5,co5,eo5⟩:=Kd.R_slice HO0_0.out
 subst eo5;obtain ⟨Ao6,co6,eo6⟩:=Kd.R_slice HO0_1.out
 subst eo6;go_enter Try.func24,Try.ntmps24
 go_wp2_with (first|((with_reducible refine gate_dst (N:=2) rfl ?_);refine box_event ?hg (N:=2) ?hd (cs:=#[.slice Ao5 l0_0.length co5, .slice Ao6 l0_1.length co6, .int .i64 a0_2]) (t:=29) ?hr ?_;(case hd=>rfl);(case hg=>rfl);(case hr=>first|(go_simp;done)|(go_simp;rfl));intro gb133 hg w7 hbox hb;have n0_:=am' (Kd.R_below (kr' HO0_0.out) hb);have n1_:=am' (Kd.R_below (kr' HO0_1.out) hb);have n2_:=am' (Kept.below (S:=(fun k_=>P0_0_ k_∨P0_1_ k_)) (by repeat (first|(with_reducible first|exact HK.out|apply Kept.alloc|apply Kept.drewN|apply Kept.drew)|exact HK.out)) hb);have n3_:=am' (below_step xb' hb);have n4_:=am' (hbox);have n5_:=am' ((by rw[hg];exact (by first|exact HK.out.1|exact (show Kept w _ (fun k_=>P0_0_ k_∨P0_1_ k_) from by repeat (first|(with_reducible first|exact HK.out|apply Kept.alloc|apply Kept.drewN|apply Kept.drew)|exact HK.out)).1):w.heap.size≤gb133));have n6_:=am' ((by rw[hg];exact (below_size xb'):w0.heap.size≤gb133));clear HO0_0;clear HO0_1;clear HK;clear HB;have HO0_0:=n0_;have HO0_1:=n1_;have HK:=n2_;have HB:=n3_;have BK133:=n4_;have GW133:=n5_;have GE133:=n6_;clear n0_ n1_ n2_ n3_ n4_ n5_ n6_;clear hb hbox hg;have hcz8_0:w7.cell? ⟨gb133,0,none⟩=some (.slice Ao5 l0_0.length co5):=(blk_cell BK133.out 0).trans rfl;have hcz8_1:w7.cell? ⟨gb133,1,none⟩=some (.slice Ao6 l0_1.length co6):=(blk_cell BK133.out 1).trans rfl;have hcz8_2:w7.cell? ⟨gb133,2,none⟩=some (.int .i64 a0_2):=(blk_cell BK133.out 2).trans rfl;have hfz8_0:=blk_frozen BK133.out 0;have hfz8_1:=blk_frozen BK133.out 1;have hfz8_2:=blk_frozen BK133.out 2)|((with_reducible refine gate_callee (f:=26) rfl ?_);refine goesL_ (some 8) rfl rfl Try.func26 xk' rfl #[.slice Ao5 l0_0.length co5, .int .i64 a1] rfl xl' ?_;(with_reducible refine (laws_markIntS.calls k (fun k_=>some k_=(.slice Ao5 l0_0.length co5:Value).ownBlock) (.slice Ao5 l0_0.length co5) l0_0 a1 t134 t135 w0 _ ?side1 ?side2 A3.out).mono ?_);(case side1=>repeat (first|(with_reducible first|exact HB.out|apply ba'|apply bd'|apply be'|refine bs' ?_ GE133.out)|exact HB.out));(case side2=>exact Kd.R_tight rfl HO0_0.out);rintro e w9 ⟨rfl,hy0,hb,hkp⟩;refine ⟨_,rfl,?_⟩;have n0_:=am' (Kd.R_reok rfl hy0 (fun k_ e_=>HO0_0.out.1 k_ e_));have n1_:=am' (Kd.R_mono (ok':=fun k_=>((P0_0_ k_∨P0_1_ k_)∨w.heap.size≤k_)) (Kd.R_keptB ((Kd.R_apart' HO0_1.out (Kd.R_typed HO0_0.out) (by decide))) hkp (fun k_ hk_ hs_=>(hk_.2) hs_)) (fun k_ hk_=>hk_.1.1));have n2_:=am' (blk_kept (kk' BK133.out) hkp (fun hs_=>(fun e_=>(Kd.R_ne HO0_0.out BK133.out (by decide)) e_) hs_));have n3_:=am' (Kept.then_ (S:=(fun k_=>P0_0_ k_∨P0_1_ k_)) (by repeat (first|(with_reducible first|exact HK.out|apply Kept.alloc|apply Kept.drewN|apply Kept.drew|refine Kept.setCell ?_ (.inr GW133.out) _)|exact HK.out)) hkp (fun k_ hs_=>(fun e_=>(HO0_0.out.1 k_ e_.symm)) hs_));have n4_:=am' (hb);clear HO0_0;clear HO0_1;clear BK133;clear HK;clear HB;have HO0_0:=n0_;have HO0_1:=n1_;have BK133:=n2_;have HK:=n3_;have HB:=n4_;clear n0_ n1_ n2_ n3_ n4_;(try clear hb);(try clear hkp);(try clear hy0);have hcz10_0:w9.cell? ⟨gb133,0,none⟩=some (.slice Ao5 l0_0.length co5):=(blk_cell BK133.out 0).trans rfl;have hcz10_1:w9.cell? ⟨gb133,1,none⟩=some (.slice Ao6 l0_1.length co6):=(blk_cell BK133.out 1).trans rfl;have hcz10_2:w9.cell? ⟨gb133,2,none⟩=some (.int .i64 a0_2):=(blk_cell BK133.out 2).trans rfl;have hfz10_0:=blk_frozen BK133.out 0;have hfz10_1:=blk_frozen BK133.out 1;have hfz10_2:=blk_frozen BK133.out 2)|((with_reducible refine gate_callee (f:=64) rfl ?_);refine goesL_ (some 12) rfl rfl Try.func64 xk' rfl #[.slice Ao6 l0_1.length co6, .int .i64 t134] rfl xl' ?_;(with_reducible refine (laws_markBoolS.calls k (fun k_=>some k_=(.slice Ao6 l0_1.length co6:Value).ownBlock) (.slice Ao6 l0_1.length co6) l0_1 t134 t136 t137 w0 _ ?side1 ?side2 A4.out).mono ?_);(case side1=>repeat (first|(with_reducible first|exact HB.out|apply ba'|apply bd'|apply be'|refine bs' ?_ GE133.out)|exact HB.out));(case side2=>exact Kd.R_tight rfl HO0_1.out);rintro e w11 ⟨rfl,hy0,hb,hkp⟩;refine ⟨_,rfl,?_⟩;have n0_:=am' (Kd.R_mono (ok':=fun k_=>((P0_0_ k_∨P0_1_ k_)∨w.heap.size≤k_)) (Kd.R_keptB ((Kd.R_apart' HO0_0.out (Kd.R_typed HO0_1.out) (by decide))) hkp (fun k_ hk_ hs_=>(hk_.2) hs_)) (fun k_ hk_=>hk_.1.1));have n1_:=am' (Kd.R_reok rfl hy0 (fun k_ e_=>HO0_1.out.1 k_ e_));have n2_:=am' (blk_kept (kk' BK133.out) hkp (fun hs_=>(fun e_=>(Kd.R_ne HO0_1.out BK133.out (by decide)) e_) hs_));have n3_:=am' (Kept.then_ (S:=(fun k_=>P0_0_ k_∨P0_1_ k_)) (by repeat (first|(with_reducible first|exact HK.out|apply Kept.alloc|apply Kept.drewN|apply Kept.drew|refine Kept.setCell ?_ (.inr GW133.out) _)|exact HK.out)) hkp (fun k_ hs_=>(fun e_=>(HO0_1.out.1 k_ e_.symm)) hs_));have n4_:=am' (hb);clear HO0_0;clear HO0_1;clear BK133;clear HK;clear HB;have HO0_0:=n0_;have HO0_1:=n1_;have BK133:=n2_;have HK:=n3_;have HB:=n4_;clear n0_ n1_ n2_ n3_ n4_;(try clear hb);(try clear hkp);(try clear hy0)))
 go_ret
 exact ⟨by first|rfl|(simp[errW_none,errW_some] <;> rfl)|(simp[*,errW_none,errW_some] <;> rfl),by (with_reducible repeat (first|apply ra'|apply rn'|apply rw'));exact HO0_0.out,by (with_reducible repeat (first|apply ra'|apply rn'|apply rw'));exact HO0_1.out,by repeat (first|(with_reducible first|exact HB.out|apply ba'|apply bd'|apply be'|refine bs' ?_ GE133.out)|exact HB.out),by repeat (first|(with_reducible first|exact HK.out|apply Kept.alloc|apply Kept.drewN|apply Kept.drew|refine Kept.setCell ?_ (.inr GW133.out) _)|exact HK.out)⟩
def spec_l1In.f (a0:Int) (a1:Int) (a2:Int):Option (Bool):=if a0 ≥ a1 then (some (decide (a0≤a2))) else (some false)
set_option maxHeartbeats 8000000 in
set_option maxRecDepth 100000 in
theorem spec_l1In.calls (a0:Int) (a1:Int) (a2:Int) (r:Bool) (w:World) (h:spec_l1In.f a0 a1 a2=some r) :
  Calls Try.prog 87 #[.int .i64 a0, .int .i64 a1, .int .i64 a2] w fun e w'=>e = .returned (.bool r)∧Drawn0 w w':=by
 have H:(if a0 ≥ a1 then (some (decide (a0≤a2))) else (some false))=some r:=h
 clear h;by_cases c4:a0 ≥ a1
 ·
  rw[if_pos c4] at H;have c4b0:decide (a1≤a0)=true:=decide_eq_true c4;clear c4;obtain rfl:=Option.some.inj H;go_enter Try.func87,Try.ntmps87;go_wp2;go_ret
  exact ⟨by first|rfl|(simp;done)|(simp[*];done),by repeat (first|exact Drawn0.refl _|apply Drawn0.step)⟩
 ·
  rw[if_neg c4] at H;have c4b0:decide (a1≤a0)=false:=decide_eq_false c4;clear c4;obtain rfl:=Option.some.inj H;go_enter Try.func87,Try.ntmps87;go_wp2;go_ret
  exact ⟨by first|rfl|(simp;done)|(simp[*];done),by repeat (first|exact Drawn0.refl _|apply Drawn0.step)⟩
def spec_l1All.l0:Nat→Int→Int→List Int→Int→Int→Option (Bool)
 | 0,_,_,_,_,_=>none
 | k+1,x1,x2,x9,x10,x11=>if x11 < x10 then (if 0≤x11 then (if x11 < (x9.length:Int) then ((spec_l1In.f (rd x9 x11) x1 x2).bind fun t139=>(if t139=true then (spec_l1All.l0 k x1 x2 x9 x10 (wrap64 (x11+1))) else (some false))) else (none)) else (none)) else (some true)
def spec_l1All.f (k:Nat) (l0:List Int) (a1:Int) (a2:Int):Option (Bool):=spec_l1All.l0 k a1 a2 l0 (l0.length:Int) 0
set_option maxHeartbeats 8000000 in
set_option maxRecDepth 100000 in
theorem spec_l1All.calls (k:Nat) (A0:Option Addr) (c0:Nat) (l0:List Int) (a1:Int) (a2:Int) (r:Bool) (w:World) (hr0:Kd.C (Kd.int .i64) w A0 l0.length l0) (hc0:l0.length≤c0) (h:spec_l1All.f k l0 a1 a2=some r) :
  Calls Try.prog 88 #[.slice A0 l0.length c0, .int .i64 a1, .int .i64 a2] w fun e w'=>e = .returned (.bool r)∧Drawn0 w w':=by
 have HR0:=am' hr0
 have HC0:=am' hc0
 clear hr0 hc0;have H:(spec_l1All.l0 k a1 a2 l0 (l0.length:Int) 0)=some r:=h
 clear h;have H':=am' H
 clear H;go_enter Try.func88,Try.ntmps88
 go_wp2
 go_loopg [11] k (fun kq v11 w'=>∃ (x11_1:Int),v11 = .int .i64 x11_1∧Aside0 (spec_l1All.l0 kq a1 a2 l0 (l0.length:Int) x11_1=some r)∧Aside0 (kq≤k)∧Drawn0 w w')
 case atStart=>exact ⟨(0),xs',H',⟨Nat.le_refl _⟩,by repeat (first|exact Drawn0.refl _|apply Drawn0.step)⟩
 case round =>
  clear H';try clear p2
  obtain ⟨x11_1,rfl,HA,HK1,⟨m1,rfl⟩⟩:=hrel;cases gk with
  | zero=>exact absurd HA.out (by simp[spec_l1All.l0])
  | succ k1 =>
   have H:=HA.out;clear HA;simp only[spec_l1All.l0] at H;by_cases c4:x11_1 < (l0.length:Int)
   ·
    rw[if_pos c4] at H;have c4b0:decide (x11_1 < (l0.length:Int))=true:=decide_eq_true c4;clear c4;by_cases c5:0≤x11_1
    ·
     rw[if_pos c5] at H;have c5b0:decide (0≤x11_1)=true:=decide_eq_true c5;clear c5;by_cases c6:x11_1 < (l0.length:Int)
     ·
      rw[if_pos c6] at H;have c6b0:decide (x11_1 < (l0.length:Int))=true:=decide_eq_true c6;clear c6;replace H:=Option.bind_eq_some_iff.mp H;obtain ⟨t139,A70,H⟩:=H;replace H:(if t139=true then (spec_l1All.l0 k1 a1 a2 l0 (l0.length:Int) (wrap64 (x11_1+1))) else (some false))=some r:=H;have A7:=am' A70;clear A70;by_cases c8:t139=true
      ·
       subst c8;have H1:(spec_l1All.l0 k1 a1 a2 l0 (l0.length:Int) (wrap64 (x11_1+1)))=some r:=by rw[if_pos rfl] at H;exact H
       clear H;have H:=H1;clear H1;have H':=am' H;clear H;have p138:0≤(x11_1:Int):=of_decide_eq_true xa';have q138:x11_1 < (l0.length:Int):=of_decide_eq_true xa';obtain ⟨ad138,e138,hx138_0⟩:=Kd.at_int HR0.out x11_1 p138 q138;cases e138;replace p138:=eq_true p138;replace q138:=eq_true q138;go_wp2_with (first|((with_reducible refine gate_callee (f:=87) rfl ?_);refine goesL_ (some 18) rfl rfl Try.func87 xk' rfl #[.int .i64 (rd l0 x11_1), .int .i64 a1, .int .i64 a2] rfl xl' ?_;(with_reducible refine (spec_l1In.calls (rd l0 x11_1) a1 a2 true _ A7.out).mono ?_);rintro e w' ⟨rfl,⟨nd,rfl⟩⟩;refine ⟨_,rfl,?_⟩));go_roundg k1
       case measure=>have:=HK1.out;omega
       case rel=>exact ⟨(wrap64 (x11_1+1)),xs',H',⟨by have:=HK1.out;omega⟩,by repeat (first|exact Drawn0.refl _|apply Drawn0.step)⟩
      ·
       replace c8:=Bool.eq_false_iff.mpr c8;subst c8;have H1:(some false)=some r:=by rw[if_neg (show ¬ (false=true) by decide)] at H;exact H
       clear H;have H:=H1;clear H1;obtain rfl:=Option.some.inj H;have p138:0≤(x11_1:Int):=of_decide_eq_true xa';have q138:x11_1 < (l0.length:Int):=of_decide_eq_true xa';obtain ⟨ad138,e138,hx138_0⟩:=Kd.at_int HR0.out x11_1 p138 q138;cases e138;replace p138:=eq_true p138;replace q138:=eq_true q138;go_wp2_with (first|((with_reducible refine gate_callee (f:=87) rfl ?_);refine goesL_ (some 18) rfl rfl Try.func87 xk' rfl #[.int .i64 (rd l0 x11_1), .int .i64 a1, .int .i64 a2] rfl xl' ?_;(with_reducible refine (spec_l1In.calls (rd l0 x11_1) a1 a2 false _ A7.out).mono ?_);rintro e w' ⟨rfl,⟨nd,rfl⟩⟩;refine ⟨_,rfl,?_⟩));go_ret
       exact ⟨by first|rfl|(simp;done)|(simp[*];done),by repeat (first|exact Drawn0.refl _|apply Drawn0.step)⟩
     ·
      rw[if_neg c6] at H;exact absurd H (by simp)
    ·
     rw[if_neg c5] at H;exact absurd H (by simp)
   ·
    rw[if_neg c4] at H;have c4b0:decide (x11_1 < (l0.length:Int))=false:=decide_eq_false c4;clear c4;obtain rfl:=Option.some.inj H;go_wp2;go_ret
    exact ⟨by first|rfl|(simp;done)|(simp[*];done),by repeat (first|exact Drawn0.refl _|apply Drawn0.step)⟩
def spec_loGood.f (k:Nat) (l0_0:List Int) (l0_1:List Bool) (a0_2:Int):Option (Bool):=(spec_l1In.f (l0_0.length:Int) 1 7).bind fun t141=>(if t141=true then (if (l0_1.length:Int)=(l0_0.length:Int) then ((spec_l1All.f k l0_0 1 500).bind fun t142=>(if t142=true then ((spec_l1In.f a0_2 0 2000).bind fun t143=>(some t143)) else (some false))) else (some false)) else (some false))
set_option maxHeartbeats 8000000 in
set_option maxRecDepth 100000 in
theorem spec_loGood.calls (k:Nat) (A0_0:Option Addr) (c0_0:Nat) (l0_0:List Int) (A0_1:Option Addr) (c0_1:Nat) (l0_1:List Bool) (a0_2:Int) (r:Bool) (w:World) (hr0_0:Kd.C (Kd.int .i64) w A0_0 l0_0.length l0_0) (hc0_0:l0_0.length≤c0_0) (hr0_1:Kd.C Kd.bool w A0_1 l0_1.length l0_1) (hc0_1:l0_1.length≤c0_1) (h:spec_loGood.f k l0_0 l0_1 a0_2=some r) :
  Calls Try.prog 50 #[.agg #[.slice A0_0 l0_0.length c0_0, .slice A0_1 l0_1.length c0_1, .int .i64 a0_2]] w fun e w'=>e = .returned (.bool r)∧Below w.heap.size w w':=by
 have hu29:=Try.underlying29
 have HR0_0:=am' hr0_0
 have HC0_0:=am' hc0_0
 clear hr0_0 hc0_0;have HR0_1:=am' hr0_1
 have HC0_1:=am' hc0_1
 clear hr0_1 hc0_1;have HB:=am' (Below.refl w.heap.size w)
 have H:((spec_l1In.f (l0_0.length:Int) 1 7).bind fun t141=>(if t141=true then (if (l0_1.length:Int)=(l0_0.length:Int) then ((spec_l1All.f k l0_0 1 500).bind fun t142=>(if t142=true then ((spec_l1In.f a0_2 0 2000).bind fun t143=>(some t143)) else (some false))) else (some false)) else (some false)))=some r:=h
 clear h;replace H:=Option.bind_eq_some_iff.mp H
 obtain ⟨t141,A20,H⟩:=H
 replace H:(if t141=true then (if (l0_1.length:Int)=(l0_0.length:Int) then ((spec_l1All.f k l0_0 1 500).bind fun t142=>(if t142=true then ((spec_l1In.f a0_2 0 2000).bind fun t143=>(some t143)) else (some false))) else (some false)) else (some false))=some r:=H
 have A2:=am' A20
 clear A20;by_cases c3:t141=true
 ·
  subst c3;have H1:(if (l0_1.length:Int)=(l0_0.length:Int) then ((spec_l1All.f k l0_0 1 500).bind fun t142=>(if t142=true then ((spec_l1In.f a0_2 0 2000).bind fun t143=>(some t143)) else (some false))) else (some false))=some r:=by rw[if_pos rfl] at H;exact H
  clear H;have H:=H1;clear H1;by_cases c4:(l0_1.length:Int)=(l0_0.length:Int)
  ·
   rw[if_pos c4] at H;have c4b0:((l0_1.length:Int) == (l0_0.length:Int))=true:=beq_iff_eq.mpr c4;have c4b1:((l0_1.length:Int) != (l0_0.length:Int))=false:=bne_eq_false_iff_eq.mpr c4;have c4b2:(l0_1.length == l0_0.length)=true:=by first|simpa using c4|(simp at c4 ⊢;omega)
   clear c4;replace H:=Option.bind_eq_some_iff.mp H;obtain ⟨t142,A50,H⟩:=H;replace H:(if t142=true then ((spec_l1In.f a0_2 0 2000).bind fun t143=>(some t143)) else (some false))=some r:=H;have A5:=am' A50;clear A50;by_cases c6:t142=true
   ·
    subst c6;have H1:((spec_l1In.f a0_2 0 2000).bind fun t143=>(some t143))=some r:=by rw[if_pos rfl] at H;exact H
    clear H;have H:=H1;clear H1;replace H:=Option.bind_eq_some_iff.mp H;obtain ⟨t143,A70,H⟩:=H;replace H:(some t143)=some r:=H;have A7:=am' A70;clear A70;obtain rfl:=Option.some.inj H;go_enter Try.func50,Try.ntmps50;go_wp2_with (first|((with_reducible refine gate_dst (N:=1) rfl ?_);(try (refine gate_guard (by rfl) ?_;dsimp only));refine box_event ?hg (N:=1) ?hd (cs:=#[.slice A0_0 l0_0.length c0_0, .slice A0_1 l0_1.length c0_1, .int .i64 a0_2]) (t:=29) ?hr ?_;(case hd=>rfl);(case hg=>rfl);(case hr=>first|(go_simp;done)|(go_simp;rfl));intro gb140 hg w8 hbox hb;have n0_:=am' (below_step xb' hb);have n1_:=am' (hbox);have n2_:=am' ((by rw[hg];exact (below_size xb'):w.heap.size≤gb140));have n3_:=am' ((by rw[hg];exact (below_size xb'):w.heap.size≤gb140));clear HB;have HB:=n0_;have BK140:=n1_;have GW140:=n2_;have GE140:=n3_;clear n0_ n1_ n2_ n3_;clear hb hbox hg;have hcz9_0:w8.cell? ⟨gb140,0,none⟩=some (.slice A0_0 l0_0.length c0_0):=(blk_cell BK140.out 0).trans rfl;have hcz9_1:w8.cell? ⟨gb140,1,none⟩=some (.slice A0_1 l0_1.length c0_1):=(blk_cell BK140.out 1).trans rfl;have hcz9_2:w8.cell? ⟨gb140,2,none⟩=some (.int .i64 a0_2):=(blk_cell BK140.out 2).trans rfl;have hfz9_0:=blk_frozen BK140.out 0;have hfz9_1:=blk_frozen BK140.out 1;have hfz9_2:=blk_frozen BK140.out 2)|((with_reducible refine gate_callee (f:=87) rfl ?_);refine goesL_ (some 6) rfl rfl Try.func87 xk' rfl #[.int .i64 (l0_0.length:Int), .int .i64 1, .int .i64 7] rfl xl' ?_;(with_reducible refine (spec_l1In.calls (l0_0.length:Int) 1 7 true _ A2.out).mono ?_);rintro e w' ⟨rfl,⟨nd,rfl⟩⟩;refine ⟨_,rfl,?_⟩)|(go_at_call 88;(with_reducible refine (spec_l1All.calls k _ _ l0_0 1 500 true _ ?side1 ?side2 A5.out).mono ?_);(case side1=>repeat (first|exact (Kd.C_below HR0_0.out (yb' GE140.out))|(with_reducible refine ca' ?_ _)|(with_reducible refine cn' ?_ _)|(with_reducible refine cd' ?_)));(case side2=>exact HC0_0.out);rintro e w' ⟨rfl,⟨nd,rfl⟩⟩)|(go_at_call 87;(with_reducible refine (spec_l1In.calls a0_2 0 2000 t143 _ A7.out).mono ?_);rintro e w' ⟨rfl,⟨nd,rfl⟩⟩));go_ret
    exact ⟨by first|rfl|(simp[errW_none,errW_some] <;> rfl)|(simp[*,errW_none,errW_some] <;> rfl),by repeat (first|(with_reducible first|exact HB.out|apply ba'|apply bd'|apply be'|refine bs' ?_ GE140.out)|exact HB.out)⟩
   ·
    replace c6:=Bool.eq_false_iff.mpr c6;subst c6;have H1:(some false)=some r:=by rw[if_neg (show ¬ (false=true) by decide)] at H;exact H
    clear H;have H:=H1;clear H1;obtain rfl:=Option.some.inj H;go_enter Try.func50,Try.ntmps50;go_wp2_with (first|((with_reducible refine gate_dst (N:=1) rfl ?_);(try (refine gate_guard (by rfl) ?_;dsimp only));refine box_event ?hg (N:=1) ?hd (cs:=#[.slice A0_0 l0_0.length c0_0, .slice A0_1 l0_1.length c0_1, .int .i64 a0_2]) (t:=29) ?hr ?_;(case hd=>rfl);(case hg=>rfl);(case hr=>first|(go_simp;done)|(go_simp;rfl));intro gb140 hg w10 hbox hb;have n0_:=am' (below_step xb' hb);have n1_:=am' (hbox);have n2_:=am' ((by rw[hg];exact (below_size xb'):w.heap.size≤gb140));have n3_:=am' ((by rw[hg];exact (below_size xb'):w.heap.size≤gb140));clear HB;have HB:=n0_;have BK140:=n1_;have GW140:=n2_;have GE140:=n3_;clear n0_ n1_ n2_ n3_;clear hb hbox hg;have hcz11_0:w10.cell? ⟨gb140,0,none⟩=some (.slice A0_0 l0_0.length c0_0):=(blk_cell BK140.out 0).trans rfl;have hcz11_1:w10.cell? ⟨gb140,1,none⟩=some (.slice A0_1 l0_1.length c0_1):=(blk_cell BK140.out 1).trans rfl;have hcz11_2:w10.cell? ⟨gb140,2,none⟩=some (.int .i64 a0_2):=(blk_cell BK140.out 2).trans rfl;have hfz11_0:=blk_frozen BK140.out 0;have hfz11_1:=blk_frozen BK140.out 1;have hfz11_2:=blk_frozen BK140.out 2)|((with_reducible refine gate_callee (f:=87) rfl ?_);refine goesL_ (some 6) rfl rfl Try.func87 xk' rfl #[.int .i64 (l0_0.length:Int), .int .i64 1, .int .i64 7] rfl xl' ?_;(with_reducible refine (spec_l1In.calls (l0_0.length:Int) 1 7 true _ A2.out).mono ?_);rintro e w' ⟨rfl,⟨nd,rfl⟩⟩;refine ⟨_,rfl,?_⟩)|(go_at_call 88;(with_reducible refine (spec_l1All.calls k _ _ l0_0 1 500 false _ ?side1 ?side2 A5.out).mono ?_);(case side1=>repeat (first|exact (Kd.C_below HR0_0.out (yb' GE140.out))|(with_reducible refine ca' ?_ _)|(with_reducible refine cn' ?_ _)|(with_reducible refine cd' ?_)));(case side2=>exact HC0_0.out);rintro e w' ⟨rfl,⟨nd,rfl⟩⟩));go_ret
    exact ⟨by first|rfl|(simp[errW_none,errW_some] <;> rfl)|(simp[*,errW_none,errW_some] <;> rfl),by repeat (first|(with_reducible first|exact HB.out|apply ba'|apply bd'|apply be'|refine bs' ?_ GE140.out)|exact HB.out)⟩
  ·
   rw[if_neg c4] at H;have c4b0:((l0_1.length:Int) == (l0_0.length:Int))=false:=beq_eq_false_iff_ne.mpr c4;have c4b1:((l0_1.length:Int) != (l0_0.length:Int))=true:=bne_iff_ne.mpr c4;have c4b2:(l0_1.length == l0_0.length)=false:=by first|simpa using c4|(simp at c4 ⊢;omega)
   obtain rfl:=Option.some.inj H;go_enter Try.func50,Try.ntmps50;go_wp2_with (first|((with_reducible refine gate_dst (N:=1) rfl ?_);(try (refine gate_guard (by rfl) ?_;dsimp only));refine box_event ?hg (N:=1) ?hd (cs:=#[.slice A0_0 l0_0.length c0_0, .slice A0_1 l0_1.length c0_1, .int .i64 a0_2]) (t:=29) ?hr ?_;(case hd=>rfl);(case hg=>rfl);(case hr=>first|(go_simp;done)|(go_simp;rfl));intro gb140 hg w12 hbox hb;have n0_:=am' (below_step xb' hb);have n1_:=am' (hbox);have n2_:=am' ((by rw[hg];exact (below_size xb'):w.heap.size≤gb140));have n3_:=am' ((by rw[hg];exact (below_size xb'):w.heap.size≤gb140));clear HB;have HB:=n0_;have BK140:=n1_;have GW140:=n2_;have GE140:=n3_;clear n0_ n1_ n2_ n3_;clear hb hbox hg;have hcz13_0:w12.cell? ⟨gb140,0,none⟩=some (.slice A0_0 l0_0.length c0_0):=(blk_cell BK140.out 0).trans rfl;have hcz13_1:w12.cell? ⟨gb140,1,none⟩=some (.slice A0_1 l0_1.length c0_1):=(blk_cell BK140.out 1).trans rfl;have hcz13_2:w12.cell? ⟨gb140,2,none⟩=some (.int .i64 a0_2):=(blk_cell BK140.out 2).trans rfl;have hfz13_0:=blk_frozen BK140.out 0;have hfz13_1:=blk_frozen BK140.out 1;have hfz13_2:=blk_frozen BK140.out 2)|((with_reducible refine gate_callee (f:=87) rfl ?_);refine goesL_ (some 6) rfl rfl Try.func87 xk' rfl #[.int .i64 (l0_0.length:Int), .int .i64 1, .int .i64 7] rfl xl' ?_;(with_reducible refine (spec_l1In.calls (l0_0.length:Int) 1 7 true _ A2.out).mono ?_);rintro e w' ⟨rfl,⟨nd,rfl⟩⟩;refine ⟨_,rfl,?_⟩));go_ret
   exact ⟨by first|rfl|(simp[errW_none,errW_some] <;> rfl)|(simp[*,errW_none,errW_some] <;> rfl),by repeat (first|(with_reducible first|exact HB.out|apply ba'|apply bd'|apply be'|refine bs' ?_ GE140.out)|exact HB.out)⟩
 ·
  replace c3:=Bool.eq_false_iff.mpr c3;subst c3;have H1:(some false)=some r:=by rw[if_neg (show ¬ (false=true) by decide)] at H;exact H
  clear H;have H:=H1;clear H1;obtain rfl:=Option.some.inj H;go_enter Try.func50,Try.ntmps50;go_wp2_with (first|((with_reducible refine gate_dst (N:=1) rfl ?_);(try (refine gate_guard (by rfl) ?_;dsimp only));refine box_event ?hg (N:=1) ?hd (cs:=#[.slice A0_0 l0_0.length c0_0, .slice A0_1 l0_1.length c0_1, .int .i64 a0_2]) (t:=29) ?hr ?_;(case hd=>rfl);(case hg=>rfl);(case hr=>first|(go_simp;done)|(go_simp;rfl));intro gb140 hg w14 hbox hb;have n0_:=am' (below_step xb' hb);have n1_:=am' (hbox);have n2_:=am' ((by rw[hg];exact (below_size xb'):w.heap.size≤gb140));have n3_:=am' ((by rw[hg];exact (below_size xb'):w.heap.size≤gb140));clear HB;have HB:=n0_;have BK140:=n1_;have GW140:=n2_;have GE140:=n3_;clear n0_ n1_ n2_ n3_;clear hb hbox hg;have hcz15_0:w14.cell? ⟨gb140,0,none⟩=some (.slice A0_0 l0_0.length c0_0):=(blk_cell BK140.out 0).trans rfl;have hcz15_1:w14.cell? ⟨gb140,1,none⟩=some (.slice A0_1 l0_1.length c0_1):=(blk_cell BK140.out 1).trans rfl;have hcz15_2:w14.cell? ⟨gb140,2,none⟩=some (.int .i64 a0_2):=(blk_cell BK140.out 2).trans rfl;have hfz15_0:=blk_frozen BK140.out 0;have hfz15_1:=blk_frozen BK140.out 1;have hfz15_2:=blk_frozen BK140.out 2)|((with_reducible refine gate_callee (f:=87) rfl ?_);refine goesL_ (some 6) rfl rfl Try.func87 xk' rfl #[.int .i64 (l0_0.length:Int), .int .i64 1, .int .i64 7] rfl xl' ?_;(with_reducible refine (spec_l1In.calls (l0_0.length:Int) 1 7 false _ A2.out).mono ?_);rintro e w' ⟨rfl,⟨nd,rfl⟩⟩;refine ⟨_,rfl,?_⟩));go_ret
  exact ⟨by first|rfl|(simp[errW_none,errW_some] <;> rfl)|(simp[*,errW_none,errW_some] <;> rfl),by repeat (first|(with_reducible first|exact HB.out|apply ba'|apply bd'|apply be'|refine bs' ?_ GE140.out)|exact HB.out)⟩
def spec_paFirst.f (l0_0:List Int) (a0_1:Int):Option (List Bool × Bool):=if 0≤(l0_0.length:Int) then (if ((l0_0.length:Int):Int).toNat≤281474976710656 then (some ((List.replicate ((l0_0.length:Int):Int).toNat false),false)) else (none)) else (none)
set_option maxHeartbeats 8000000 in
set_option maxRecDepth 100000 in
theorem spec_paFirst.calls (A0_0:Option Addr) (c0_0:Nat) (l0_0:List Int) (a0_1:Int) (r1:List Bool) (r2:Bool) (w:World) (hr0_0:Kd.C (Kd.int .i64) w A0_0 l0_0.length l0_0) (hc0_0:l0_0.length≤c0_0) (h:spec_paFirst.f l0_0 a0_1=some (r1,r2)) :
  Calls Try.prog 66 #[.agg #[.slice A0_0 l0_0.length c0_0, .int .i64 a0_1]] w fun e w'=>∃ v0_:Value,e = .returned (.agg #[v0_, .bool r2])∧Kd.R Kd.bool 4 w' w.heap.size (fun _=>True) v0_ r1∧Below w.heap.size w w':=by
 have hu78:=Try.underlying78
 have hu38:=Try.underlying38
 have HR0_0:=am' hr0_0
 have HC0_0:=am' hc0_0
 clear hr0_0 hc0_0;have HB:=am' (Below.refl w.heap.size w)
 have H:(if 0≤(l0_0.length:Int) then (if ((l0_0.length:Int):Int).toNat≤281474976710656 then (some ((List.replicate ((l0_0.length:Int):Int).toNat false),false)) else (none)) else (none))=some (r1,r2):=h
 clear h;by_cases c2:0≤(l0_0.length:Int)
 ·
  rw[if_pos c2] at H;have c2b0:=eq_true c2;have c2b1:decide (0≤(l0_0.length:Int))=true:=decide_eq_true c2;clear c2;by_cases c3:((l0_0.length:Int):Int).toNat≤281474976710656
  ·
   rw[if_pos c3] at H;have c3b0:=eq_true c3;have c3b1:decide (((l0_0.length:Int):Int).toNat≤281474976710656)=true:=decide_eq_true c3;clear c3;obtain ⟨y146,hy146⟩:∃ y_:List Bool,y_=(List.replicate ((l0_0.length:Int):Int).toNat false):=⟨_,rfl⟩
   replace H:(some (y146,false))=some (r1,r2):=by first|(rw[hy146];with_reducible exact H)|(have H2_:=(Option.bind_some _ _).symm.trans H;rw[hy146];with_reducible exact H2_)|(have H2_:=(Option.bind_some _ _).symm.trans H;with_reducible exact H2_)|with_reducible exact H|(rw[hy146];exact H)|exact H
   have Ny146:=am' hy146;clear hy146;simp only[Option.some.injEq,Prod.mk.injEq] at H;obtain ⟨rfl,rfl⟩:=H;go_enter Try.func66,Try.ntmps66;go_wp2_with (first|((with_reducible refine gate_dst (N:=1) rfl ?_);refine box_event ?hg (N:=1) ?hd (cs:=#[.slice A0_0 l0_0.length c0_0, .int .i64 a0_1]) (t:=78) ?hr ?_;(case hd=>rfl);(case hg=>rfl);(case hr=>first|(go_simp;done)|(go_simp;rfl));intro gb144 hg w4 hbox hb;have n0_:=am' (below_step xb' hb);have n1_:=am' (hbox);have n2_:=am' ((by rw[hg];exact (below_size xb'):w.heap.size≤gb144));have n3_:=am' ((by rw[hg];exact (below_size xb'):w.heap.size≤gb144));clear HB;have HB:=n0_;have BK144:=n1_;have GW144:=n2_;have GE144:=n3_;clear n0_ n1_ n2_ n3_;clear hb hbox hg)|((with_reducible refine gate_dst (N:=2) rfl ?_);refine box_event ?hg (N:=2) ?hd (cs:=#[.slice none 0 0, .bool false]) (t:=38) ?hr ?_;(case hd=>rfl);(case hg=>rfl);(case hr=>first|(go_simp;done)|(go_simp;rfl));intro gb145 hg w5 hbox hb;have n0_:=am' (blk_below (g:=gb144) (o := .cells #[.slice A0_0 l0_0.length c0_0, .int .i64 a0_1] 78 (0,0)) (kk' BK144.out) hb);have n1_:=am' (below_step (yb' GE144.out) hb);have n2_:=am' (hbox);have n3_:=am' ((by rw[hg];exact (below_size (yb' GE144.out)):w.heap.size≤gb145));have n4_:=am' ((by rw[hg];exact (below_size (yb' GE144.out)):w.heap.size≤gb145));have n5_:=am' ((by rw[hg];exact Nat.ne_of_lt (blk_lt (g:=gb144) (o := .cells #[.slice A0_0 l0_0.length c0_0, .int .i64 a0_1] 78 (0,0)) (kk' BK144.out)):gb144≠gb145));have n6_:=am' ((by rw[hg];exact Nat.ne_of_gt (blk_lt (g:=gb144) (o := .cells #[.slice A0_0 l0_0.length c0_0, .int .i64 a0_1] 78 (0,0)) (kk' BK144.out)):gb145≠gb144));clear BK144;clear HB;have BK144:=n0_;have HB:=n1_;have BK145:=n2_;have GW145:=n3_;have GE145:=n4_;have NB144_145:=n5_;have NB145_144:=n6_;clear n0_ n1_ n2_ n3_ n4_ n5_ n6_;clear hb hbox hg;have hnb6:=NB144_145.out;have hnc6:=NB145_144.out;have hcz7_0:w5.cell? ⟨gb144,0,none⟩=some (.slice A0_0 l0_0.length c0_0):=(blk_cell BK144.out 0).trans rfl;have hcz7_1:w5.cell? ⟨gb144,1,none⟩=some (.int .i64 a0_1):=(blk_cell BK144.out 1).trans rfl;have hfz7_0:=blk_frozen BK144.out 0;have hfz7_1:=blk_frozen BK144.out 1)|((with_reducible refine gate_dst (N:=6) rfl ?_);refine Kd.R_make Kd.bool _ 4 rfl (N:=6) rfl 23 _ _ rfl (l0_0.length:Int) rfl rfl Try.underlying23 (.bool false) 1 info4 rfl (by decide) (by omega) false (ok:=fun _=>True) (okp:=fun _=>True) rfl (fun _ hk=>hk) trivial (of_decide_eq_true xa') (Nat.le_trans (Nat.mul_le_mul_right _ (of_decide_eq_true xa':(l0_0.length:Int).toNat≤281474976710656)) (by omega)) (Below.refl _ _) (Nat.le_refl _) ?_;intro v147 w8 ho9 hb hg_ hnew_;clear hg_ hnew_;(first|rw[← Ny146.out] at ho9|(simp only[Int.reduceToNat] at ho9;rw[← Ny146.out] at ho9));have n0_:=am' (Kd.R_lower ho9 (below_size (by repeat (first|(with_reducible first|exact HB.out|apply ba'|apply bd'|apply be'|refine bs' ?_ GE144.out|refine bs' ?_ GE145.out)|exact HB.out))));have n1_:=am' (blk_below (g:=gb144) (o := .cells #[.slice A0_0 l0_0.length c0_0, .int .i64 a0_1] 78 (0,0)) (kk' BK144.out) hb);have n2_:=am' (blk_below (g:=gb145) (o := .cells #[.slice none 0 0, .bool false] 38 (0,0)) (kk' BK145.out) hb);have n3_:=am' (below_step (by repeat (first|(with_reducible first|exact HB.out|apply ba'|apply bd'|apply be'|refine bs' ?_ GE144.out|refine bs' ?_ GE145.out)|exact HB.out)) hb);clear BK144;clear BK145;clear HB;have HO148:=n0_;have BK144:=n1_;have BK145:=n2_;have HB:=n3_;clear n0_ n1_ n2_ n3_;clear hb ho9;obtain ⟨Ao10,co10,eo10⟩:=Kd.R_slice HO148.out;subst eo10;have hcz11_0:w8.cell? ⟨gb145,0,none⟩=some (.slice none 0 0):=(blk_cell BK145.out 0).trans rfl;have hcz11_1:w8.cell? ⟨gb145,1,none⟩=some (.bool false):=(blk_cell BK145.out 1).trans rfl;have hfz11_0:=blk_frozen BK145.out 0;have hfz11_1:=blk_frozen BK145.out 1))
   refine bodyPost_ret (results_cell_row rfl _ _ gb145 38 #[.slice Ao10 y146.length co10, .bool false] (0,0) _ rfl (by (with_reducible repeat (first|refine kn' ?_ _|refine kd' ?_|refine ka' ?_ _));refine blk_put (cs:=#[.slice Ao10 y146.length co10, .bool false]) ?_ 1 _ rfl;(with_reducible repeat (first|refine kn' ?_ _|refine kd' ?_|refine ka' ?_ _));refine blk_put (cs:=#[.slice none 0 0, .bool false]) ?_ 0 _ rfl;(with_reducible repeat (first|refine kn' ?_ _|refine kd' ?_|refine ka' ?_ _));exact BK145.out) Try.underlying38 rfl xk') rfl ?_
   exact ⟨_,by first|rfl|(simp[errW_none,errW_some] <;> rfl)|(simp[*,errW_none,errW_some] <;> rfl),by (with_reducible repeat (first|apply ra'|apply rn'|apply rw'));exact Kd.R_mono (Kd.R_far (p:=⟨gb145,1,none⟩) (Kd.R_far (p:=⟨gb145,0,none⟩) (Kd.R_types HO148.out BK145.out (by decide)) (fun _ hk=>hk.2) (.slice Ao10 y146.length co10)) (fun _ hk=>hk.2) (.bool false)) (fun _ hk=>trivial),by repeat (first|(with_reducible first|exact HB.out|apply ba'|apply bd'|apply be'|refine bs' ?_ GE144.out|refine bs' ?_ GE145.out)|exact HB.out)⟩
  ·
   rw[if_neg c3] at H;exact absurd H (by simp)
 ·
  rw[if_neg c2] at H;exact absurd H (by simp)
def spec_loParty.f (l0_0:List Int) (l0_1:List Bool) (a0_2:Int):Option (List Int × Int):=some (l0_0,0)
set_option maxHeartbeats 8000000 in
set_option maxRecDepth 100000 in
theorem spec_loParty.calls (P0_0_:Nat→Prop) (A0_0:Option Addr) (c0_0:Nat) (l0_0:List Int) (A0_1:Option Addr) (c0_1:Nat) (l0_1:List Bool) (a0_2:Int) (r1:List Int) (r2:Int) (w:World) (hs0_0:Kd.V (Kd.int .i64) 3 w w.heap.size (fun k_=>P0_0_ k_) (.slice A0_0 l0_0.length c0_0) l0_0) (hr0_1:Kd.C Kd.bool w A0_1 l0_1.length l0_1) (hc0_1:l0_1.length≤c0_1) (h:spec_loParty.f l0_0 l0_1 a0_2=some (r1,r2)) :
  Calls Try.prog 67 #[.agg #[.slice A0_0 l0_0.length c0_0, .slice A0_1 l0_1.length c0_1, .int .i64 a0_2]] w fun e w'=>∃ v0_:Value,e = .returned (.agg #[v0_, .int .i64 r2])∧Kd.V (Kd.int .i64) 3 w' w.heap.size (fun k_=>(P0_0_ k_∨w.heap.size≤k_)) v0_ r1∧Below w.heap.size w w':=by
 have hu29:=Try.underlying29
 have hu78:=Try.underlying78
 have HO0_0:=am' (show Kd.V (Kd.int .i64) 3 w w.heap.size (fun k_=>(P0_0_ k_∨w.heap.size≤k_)) (.slice A0_0 l0_0.length c0_0) l0_0 from Kd.V_mono hs0_0 (fun k_ hk => .inl hk))
 have HR0_1:=am' hr0_1
 have HC0_1:=am' hc0_1
 clear hr0_1 hc0_1;have HB:=am' (Below.refl w.heap.size w)
 have H:(some (l0_0,0))=some (r1,r2):=h
 clear h;simp only[Option.some.injEq,Prod.mk.injEq] at H
 obtain ⟨rfl,rfl⟩:=H
 go_enter Try.func67,Try.ntmps67
 go_wp2_with (first|((with_reducible refine gate_dst (N:=1) rfl ?_);refine box_event ?hg (N:=1) ?hd (cs:=#[.slice A0_0 l0_0.length c0_0, .slice A0_1 l0_1.length c0_1, .int .i64 a0_2]) (t:=29) ?hr ?_;(case hd=>rfl);(case hg=>rfl);(case hr=>first|(go_simp;done)|(go_simp;rfl));intro gb149 hg w2 hbox hb;have n0_:=am' (Kd.V_below (Kd.V_elderB (by (with_reducible repeat (first|apply Kd.V_alloc|apply Kd.V_drewN|apply Kd.V_drew));exact HO0_0.out) gb149 (Nat.le_of_eq hg.symm)) hb);have n1_:=am' (below_step xb' hb);have n2_:=am' (hbox);have n3_:=am' ((by rw[hg];exact (below_size xb'):w.heap.size≤gb149));have n4_:=am' ((by rw[hg];exact (below_size xb'):w.heap.size≤gb149));clear HO0_0;clear HB;have HO0_0:=n0_;have HB:=n1_;have BK149:=n2_;have GW149:=n3_;have GE149:=n4_;clear n0_ n1_ n2_ n3_ n4_;clear hb hbox hg)|((with_reducible refine gate_dst (N:=2) rfl ?_);refine box_event ?hg (N:=2) ?hd (cs:=#[.slice none 0 0, .int .i64 0]) (t:=78) ?hr ?_;(case hd=>rfl);(case hg=>rfl);(case hr=>first|(go_simp;done)|(go_simp;rfl));intro gb150 hg w3 hbox hb;have n0_:=am' (Kd.V_below (Kd.V_elderB (by (with_reducible repeat (first|apply Kd.V_alloc|apply Kd.V_drewN|apply Kd.V_drew));exact HO0_0.out) gb150 (Nat.le_of_eq hg.symm)) hb);have n1_:=am' (blk_below (g:=gb149) (o := .cells #[.slice A0_0 l0_0.length c0_0, .slice A0_1 l0_1.length c0_1, .int .i64 a0_2] 29 (0,0)) (kk' BK149.out) hb);have n2_:=am' (below_step (yb' GE149.out) hb);have n3_:=am' (hbox);have n4_:=am' ((by rw[hg];exact (below_size (yb' GE149.out)):w.heap.size≤gb150));have n5_:=am' ((by rw[hg];exact (below_size (yb' GE149.out)):w.heap.size≤gb150));have n6_:=am' ((by rw[hg];exact Nat.ne_of_lt (blk_lt (g:=gb149) (o := .cells #[.slice A0_0 l0_0.length c0_0, .slice A0_1 l0_1.length c0_1, .int .i64 a0_2] 29 (0,0)) (kk' BK149.out)):gb149≠gb150));have n7_:=am' ((by rw[hg];exact Nat.ne_of_gt (blk_lt (g:=gb149) (o := .cells #[.slice A0_0 l0_0.length c0_0, .slice A0_1 l0_1.length c0_1, .int .i64 a0_2] 29 (0,0)) (kk' BK149.out)):gb150≠gb149));clear HO0_0;clear BK149;clear HB;have HO0_0:=n0_;have BK149:=n1_;have HB:=n2_;have BK150:=n3_;have GW150:=n4_;have GE150:=n5_;have NB149_150:=n6_;have NB150_149:=n7_;clear n0_ n1_ n2_ n3_ n4_ n5_ n6_ n7_;clear hb hbox hg;have hnb4:=NB149_150.out;have hnc4:=NB150_149.out;have hcz5_0:w3.cell? ⟨gb149,0,none⟩=some (.slice A0_0 l0_0.length c0_0):=(blk_cell BK149.out 0).trans rfl;have hcz5_1:w3.cell? ⟨gb149,1,none⟩=some (.slice A0_1 l0_1.length c0_1):=(blk_cell BK149.out 1).trans rfl;have hcz5_2:w3.cell? ⟨gb149,2,none⟩=some (.int .i64 a0_2):=(blk_cell BK149.out 2).trans rfl;have hfz5_0:=blk_frozen BK149.out 0;have hfz5_1:=blk_frozen BK149.out 1;have hfz5_2:=blk_frozen BK149.out 2;have hcz6_0:w3.cell? ⟨gb150,0,none⟩=some (.slice none 0 0):=(blk_cell BK150.out 0).trans rfl;have hcz6_1:w3.cell? ⟨gb150,1,none⟩=some (.int .i64 0):=(blk_cell BK150.out 1).trans rfl;have hfz6_0:=blk_frozen BK150.out 0;have hfz6_1:=blk_frozen BK150.out 1))
 refine bodyPost_ret (results_cell_row rfl _ _ gb150 78 #[.slice A0_0 l0_0.length c0_0, .int .i64 0] (0,0) _ rfl (by (with_reducible repeat (first|refine kn' ?_ _|refine kd' ?_|refine ka' ?_ _));refine blk_put (cs:=#[.slice A0_0 l0_0.length c0_0, .int .i64 0]) ?_ 1 _ rfl;(with_reducible repeat (first|refine kn' ?_ _|refine kd' ?_|refine ka' ?_ _));refine blk_put (cs:=#[.slice none 0 0, .int .i64 0]) ?_ 0 _ rfl;(with_reducible repeat (first|refine kn' ?_ _|refine kd' ?_|refine ka' ?_ _));exact BK150.out) Try.underlying78 rfl xk') rfl ?_
 exact ⟨_,by first|rfl|(simp[errW_none,errW_some] <;> rfl)|(simp[*,errW_none,errW_some] <;> rfl),by (with_reducible repeat (first|apply Kd.V_alloc|apply Kd.V_drewN|apply Kd.V_drew));exact Kd.V_mono (Kd.V_far (p:=⟨gb150,1,none⟩) (Kd.V_far (p:=⟨gb150,0,none⟩) (Kd.V_mono HO0_0.out (fun k_ hk=>(⟨hk,hk.2⟩:_∧k_≠gb150))) (fun _ hk=>hk.2) (.slice A0_0 l0_0.length c0_0)) (fun _ hk=>hk.2) (.int .i64 0)) (fun _ hk=>hk.1.1.1),by repeat (first|(with_reducible first|exact HB.out|apply ba'|apply bd'|apply be'|refine bs' ?_ GE149.out|refine bs' ?_ GE150.out)|exact HB.out)⟩
mutual
def spec_seIndex.j0:Nat→Int→List Bool→Bool→Option (Int)
 | 0,_,_,_=>none
 | k+1,x3,x152000,x152001=>spec_seIndex.l0 k x3 x152000 (x152000.length:Int) 0
def spec_seIndex.l0:Nat→Int→List Bool→Int→Int→Option (Int)
 | 0,_,_,_,_=>none
 | k+1,x3,x9,x10,x11=>if x11 < x10 then (if 0≤x11 then (if x11 < (x9.length:Int) then (if rdOf false x9 x11=true then (spec_seIndex.l0 k (wrap64 ((wrap64 (x3 * 2))+1)) x9 x10 (wrap64 (x11+1))) else (spec_seIndex.l0 k (wrap64 (x3 * 2)) x9 x10 (wrap64 (x11+1)))) else (none)) else (none)) else (some x3)
end
def spec_seIndex.f (k:Nat) (l0_0:List Bool) (a0_1:Bool):Option (Int):=if a0_1=true then (spec_seIndex.j0 k 1 l0_0 a0_1) else (spec_seIndex.j0 k 0 l0_0 a0_1)
theorem spec_seIndex.mono_l:∀ k,(∀ y0 y1 y2,LeO (spec_seIndex.j0 k y0 y1 y2) (spec_seIndex.j0 (k+1) y0 y1 y2))∧(∀ y0 y1 y2 y3,LeO (spec_seIndex.l0 k y0 y1 y2 y3) (spec_seIndex.l0 (k+1) y0 y1 y2 y3))
 | 0=>⟨fun _ _ _ r h=>by simp[spec_seIndex.j0] at h,fun _ _ _ _ r h=>by simp[spec_seIndex.l0] at h⟩
 | k+1=>by
  obtain ⟨ih0,ih1⟩:=spec_seIndex.mono_l k;refine ⟨?_,?_⟩
  ·
   intro y0 y1 y2;unfold spec_seIndex.j0
   repeat' first
   | (with_reducible exact ih0 _ _ _)
   | (with_reducible exact ih1 _ _ _ _)
   | (with_reducible exact LeO.refl _)
   | (with_reducible exact LeO.none _)
   | (with_reducible refine LeO.ite ?_ ?_)
   | (with_reducible refine LeO.bind ?_ (fun _=>?_))
   | exact ih0 _ _ _
   | exact ih1 _ _ _ _
   | exact LeO.none _
   | refine LeO.ite ?_ ?_
   | refine LeO.bind ?_ (fun _=>?_)
  ·
   intro y0 y1 y2 y3;unfold spec_seIndex.l0
   repeat' first
   | (with_reducible exact ih0 _ _ _)
   | (with_reducible exact ih1 _ _ _ _)
   | (with_reducible exact LeO.refl _)
   | (with_reducible exact LeO.none _)
   | (with_reducible refine LeO.ite ?_ ?_)
   | (with_reducible refine LeO.bind ?_ (fun _=>?_))
   | exact ih0 _ _ _
   | exact ih1 _ _ _ _
   | exact LeO.none _
   | refine LeO.ite ?_ ?_
   | refine LeO.bind ?_ (fun _=>?_)
theorem spec_seIndex.mono:∀ a0 a1 k,LeO (spec_seIndex.f k a0 a1) (spec_seIndex.f (k+1) a0 a1):=by
 intro a0 a1 k;obtain ⟨ih0,ih1⟩:=spec_seIndex.mono_l k
 unfold spec_seIndex.f
 repeat' first
   | (with_reducible exact ih0 _ _ _)
   | (with_reducible exact ih1 _ _ _ _)
   | (with_reducible exact LeO.refl _)
   | (with_reducible exact LeO.none _)
   | (with_reducible refine LeO.ite ?_ ?_)
   | (with_reducible refine LeO.bind ?_ (fun _=>?_))
   | exact ih0 _ _ _
   | exact ih1 _ _ _ _
   | exact LeO.none _
   | refine LeO.ite ?_ ?_
   | refine LeO.bind ?_ (fun _=>?_)
set_option maxHeartbeats 8000000 in
set_option maxRecDepth 100000 in
theorem spec_seIndex.calls (k:Nat) (A0_0:Option Addr) (c0_0:Nat) (l0_0:List Bool) (a0_1:Bool) (r:Int) (w:World) (hr0_0:Kd.C Kd.bool w A0_0 l0_0.length l0_0) (hc0_0:l0_0.length≤c0_0) (h:spec_seIndex.f k l0_0 a0_1=some r) :
  Calls Try.prog 82 #[.agg #[.slice A0_0 l0_0.length c0_0, .bool a0_1]] w fun e w'=>e = .returned (.int .i64 r)∧Below w.heap.size w w':=by
 have hu38:=Try.underlying38
 have HR0_0:=am' hr0_0
 have HC0_0:=am' hc0_0
 clear hr0_0 hc0_0;have HB:=am' (Below.refl w.heap.size w)
 have H:(if a0_1=true then (spec_seIndex.j0 k 1 l0_0 a0_1) else (spec_seIndex.j0 k 0 l0_0 a0_1))=some r:=h
 clear h;have HC2:=am' H
 clear H;go_enter Try.func82,Try.ntmps82
 go_upto_if 7 with (first|((with_reducible refine gate_dst (N:=1) rfl ?_);refine box_event ?hg (N:=1) ?hd (cs:=#[.slice A0_0 l0_0.length c0_0, .bool a0_1]) (t:=38) ?hr ?_;(case hd=>rfl);(case hg=>rfl);(case hr=>first|(go_simp;done)|(go_simp;rfl));intro gb151 hg w3 hbox hb;have n0_:=am' (below_step xb' hb);have n1_:=am' (hbox);have n2_:=am' ((by rw[hg];exact (below_size xb'):w.heap.size≤gb151));have n3_:=am' ((by rw[hg];exact (below_size xb'):w.heap.size≤gb151));clear HB;have HB:=n0_;have BK151:=n1_;have GW151:=n2_;have GE151:=n3_;clear n0_ n1_ n2_ n3_;clear hb hbox hg;have hcz4_0:w3.cell? ⟨gb151,0,none⟩=some (.slice A0_0 l0_0.length c0_0):=(blk_cell BK151.out 0).trans rfl;have hcz4_1:w3.cell? ⟨gb151,1,none⟩=some (.bool a0_1):=(blk_cell BK151.out 1).trans rfl;have hfz4_0:=blk_frozen BK151.out 0;have hfz4_1:=blk_frozen BK151.out 1))
 (try simp only[Act.put,sa',sb',sc'])
 go_cut [3] (fun v3 wc=>∃ (kq:Nat) (x3_1:Int),v3 = .int .i64 x3_1∧Aside0 (spec_seIndex.j0 kq x3_1 l0_0 a0_1=some r)∧Aside0 (kq≤k)∧Aside0 (wc.heap[gb151]? = some (.cells #[(.slice A0_0 l0_0.length c0_0), .bool a0_1] 38 (0,0)))∧Aside0 (Below w.heap.size w wc))
 case first =>
  have H:=HC2.out;clear HC2;by_cases c5:a0_1=true
  ·
   subst c5;have H1:(spec_seIndex.j0 k 1 l0_0 true)=some r:=by rw[if_pos rfl] at H;exact H
   clear H;have H:=H1;clear H1;have H':=am' H;clear H;go_wp2;go_meet
   case rel=>exact ⟨_,(1),xs',H',⟨by first|omega|exact Nat.le_refl _⟩,⟨by (with_reducible repeat (first|refine kn' ?_ _|refine kd' ?_|refine ka' ?_ _));exact BK151.out⟩,⟨by repeat (first|(with_reducible first|exact HB.out|apply ba'|apply bd'|apply be'|refine bs' ?_ GE151.out)|exact HB.out)⟩⟩
  ·
   replace c5:=Bool.eq_false_iff.mpr c5;subst c5;have H1:(spec_seIndex.j0 k 0 l0_0 false)=some r:=by rw[if_neg (show ¬ (false=true) by decide)] at H;exact H
   clear H;have H:=H1;clear H1;have H':=am' H;clear H;go_wp2;go_meet
   case rel=>exact ⟨_,(0),xs',H',⟨by first|omega|exact Nat.le_refl _⟩,⟨by (with_reducible repeat (first|refine kn' ?_ _|refine kd' ?_|refine ka' ?_ _));exact BK151.out⟩,⟨by repeat (first|(with_reducible first|exact HB.out|apply ba'|apply bd'|apply be'|refine bs' ?_ GE151.out)|exact HB.out)⟩⟩
 case rest =>
  clear HC2;try clear p2
  try clear c5
  try clear hcz4_0
  try clear hcz4_1
  try clear hfz4_0
  try clear hfz4_1
  obtain ⟨kq,x3_1,rfl,HA,HJ1,BK151,HB⟩:=hcut;cases kq with
  | zero=>exact absurd HA.out (by simp[spec_seIndex.j0])
  | succ kj1 =>
   have H:=HA.out;clear HA;simp only[spec_seIndex.j0] at H;have H':=am' H;clear H;have hcz6_0:wc.cell? ⟨gb151,0,none⟩=some (.slice A0_0 l0_0.length c0_0):=(blk_cell BK151.out 0).trans rfl;have hcz6_1:wc.cell? ⟨gb151,1,none⟩=some (.bool a0_1):=(blk_cell BK151.out 1).trans rfl;have hfz6_0:=blk_frozen BK151.out 0;have hfz6_1:=blk_frozen BK151.out 1;go_wp2;go_loopg [3,11] kj1 (fun kq v3 v11 w'=>∃ (x3_2:Int) (x11_2:Int),v3 = .int .i64 x3_2∧v11 = .int .i64 x11_2∧Aside0 (spec_seIndex.l0 kq x3_2 l0_0 (l0_0.length:Int) x11_2=some r)∧Aside0 (kq≤kj1)∧Aside0 (w'.heap[gb151]? = some (.cells #[(.slice A0_0 l0_0.length c0_0), .bool a0_1] 38 (0,0)))∧Aside0 (Below w.heap.size w w'))
   case atStart=>exact ⟨(x3_1),(0),xs',xs',H',⟨Nat.le_refl _⟩,⟨by (with_reducible repeat (first|refine kn' ?_ _|refine kd' ?_|refine ka' ?_ _));exact BK151.out⟩,⟨by repeat (first|(with_reducible first|exact HB.out|apply ba'|apply bd'|apply be'|refine bs' ?_ GE151.out)|exact HB.out)⟩⟩
   case round =>
    clear H';try clear p2
    try clear c5
    try clear hcz4_0
    try clear hcz4_1
    try clear hcz6_0
    try clear hcz6_1
    try clear hfz4_0
    try clear hfz4_1
    try clear hfz6_0
    try clear hfz6_1
    try clear p2
    obtain ⟨x3_2,x11_2,rfl,rfl,HA,HK2,BK151,HB⟩:=hrel;cases gk with
    | zero=>exact absurd HA.out (by simp[spec_seIndex.l0])
    | succ k2 =>
     have H:=HA.out;clear HA;simp only[spec_seIndex.l0] at H;by_cases c7:x11_2 < (l0_0.length:Int)
     ·
      rw[if_pos c7] at H;have c7b0:decide (x11_2 < (l0_0.length:Int))=true:=decide_eq_true c7;clear c7;by_cases c8:0≤x11_2
      ·
       rw[if_pos c8] at H;have c8b0:decide (0≤x11_2)=true:=decide_eq_true c8;clear c8;by_cases c9:x11_2 < (l0_0.length:Int)
       ·
        rw[if_pos c9] at H;have c9b0:decide (x11_2 < (l0_0.length:Int))=true:=decide_eq_true c9;clear c9;obtain ⟨bq10,hbq10⟩:∃ b_:Bool,b_=(rdOf false l0_0 x11_2):=⟨_,rfl⟩
        replace H:(if bq10=true then (spec_seIndex.l0 k2 (wrap64 ((wrap64 (x3_2 * 2))+1)) l0_0 (l0_0.length:Int) (wrap64 (x11_2+1))) else (spec_seIndex.l0 k2 (wrap64 (x3_2 * 2)) l0_0 (l0_0.length:Int) (wrap64 (x11_2+1))))=some r:=by rw[← hbq10] at H;exact H
        have Nbq10:=am' hbq10;clear hbq10;by_cases c11:bq10=true
        ·
         subst c11;have H1:(spec_seIndex.l0 k2 (wrap64 ((wrap64 (x3_2 * 2))+1)) l0_0 (l0_0.length:Int) (wrap64 (x11_2+1)))=some r:=by rw[if_pos rfl] at H;exact H
         clear H;have H:=H1;clear H1;have H':=am' H;clear H;have p152:0≤(x11_2:Int):=of_decide_eq_true xa';have q152:x11_2 < (l0_0.length:Int):=of_decide_eq_true xa';obtain ⟨ad152,e152,hx152_0⟩:=Kd.at_bool HR0_0.out x11_2 p152 q152
         (try rw [← Nbq10.out] at hx152_0)
         cases e152
         replace hx152_0:=(HB.out.cell (bl' w _ hx152_0)).trans hx152_0;replace p152:=eq_true p152;replace q152:=eq_true q152;go_wp2;go_roundg k2
         case measure=>have:=HJ1.out;have:=HK2.out;omega
         case rel=>exact ⟨(wrap64 ((wrap64 (x3_2 * 2))+1)),(wrap64 (x11_2+1)),xs',xs',H',⟨by have:=HJ1.out;have:=HK2.out;omega⟩,⟨by (with_reducible repeat (first|refine kn' ?_ _|refine kd' ?_|refine ka' ?_ _));exact BK151.out⟩,⟨by repeat (first|(with_reducible first|exact HB.out|apply ba'|apply bd'|apply be'|refine bs' ?_ GE151.out)|exact HB.out)⟩⟩
        ·
         replace c11:=Bool.eq_false_iff.mpr c11;subst c11;have H1:(spec_seIndex.l0 k2 (wrap64 (x3_2 * 2)) l0_0 (l0_0.length:Int) (wrap64 (x11_2+1)))=some r:=by rw[if_neg (show ¬ (false=true) by decide)] at H;exact H
         clear H;have H:=H1;clear H1;have H':=am' H;clear H;have p152:0≤(x11_2:Int):=of_decide_eq_true xa';have q152:x11_2 < (l0_0.length:Int):=of_decide_eq_true xa';obtain ⟨ad152,e152,hx152_0⟩:=Kd.at_bool HR0_0.out x11_2 p152 q152
         (try rw [← Nbq10.out] at hx152_0)
         cases e152
         replace hx152_0:=(HB.out.cell (bl' w _ hx152_0)).trans hx152_0;replace p152:=eq_true p152;replace q152:=eq_true q152;go_wp2;go_roundg k2
         case measure=>have:=HJ1.out;have:=HK2.out;omega
         case rel=>exact ⟨(wrap64 (x3_2 * 2)),(wrap64 (x11_2+1)),xs',xs',H',⟨by have:=HJ1.out;have:=HK2.out;omega⟩,⟨by (with_reducible repeat (first|refine kn' ?_ _|refine kd' ?_|refine ka' ?_ _));exact BK151.out⟩,⟨by repeat (first|(with_reducible first|exact HB.out|apply ba'|apply bd'|apply be'|refine bs' ?_ GE151.out)|exact HB.out)⟩⟩
       ·
        rw[if_neg c9] at H;exact absurd H (by simp)
      ·
       rw[if_neg c8] at H;exact absurd H (by simp)
     ·
      rw[if_neg c7] at H;have c7b0:decide (x11_2 < (l0_0.length:Int))=false:=decide_eq_false c7;clear c7;obtain rfl:=Option.some.inj H;go_wp2;go_ret
      exact ⟨by first|rfl|(simp[errW_none,errW_some] <;> rfl)|(simp[*,errW_none,errW_some] <;> rfl),by repeat (first|(with_reducible first|exact HB.out|apply ba'|apply bd'|apply be'|refine bs' ?_ GE151.out)|exact HB.out)⟩
def spec_loStart.f (k:Nat) (l0_0:List Int) (l0_1:List Bool) (a0_2:Int):Option (Int):=(spec_loParty.f l0_0 l0_1 a0_2).bind fun bt154=>((spec_paFirst.f bt154.1 bt154.2).bind fun bt158=>((spec_seIndex.f k bt158.1 bt158.2).bind fun t162=>(some t162)))
set_option maxHeartbeats 8000000 in
set_option maxRecDepth 100000 in
theorem spec_loStart.calls (k:Nat) (A0_0:Option Addr) (c0_0:Nat) (l0_0:List Int) (A0_1:Option Addr) (c0_1:Nat) (l0_1:List Bool) (a0_2:Int) (r:Int) (w:World) (hr0_0:Kd.C (Kd.int .i64) w A0_0 l0_0.length l0_0) (hc0_0:l0_0.length≤c0_0) (hr0_1:Kd.C Kd.bool w A0_1 l0_1.length l0_1) (hc0_1:l0_1.length≤c0_1) (h:spec_loStart.f k l0_0 l0_1 a0_2=some r) :
  Calls Try.prog 80 #[.agg #[.slice A0_0 l0_0.length c0_0, .slice A0_1 l0_1.length c0_1, .int .i64 a0_2]] w fun e w'=>e = .returned (.int .i64 r)∧Below w.heap.size w w':=by
 have hu29:=Try.underlying29
 have HR0_0:=am' hr0_0
 have HC0_0:=am' hc0_0
 clear hr0_0 hc0_0;have HR0_1:=am' hr0_1
 have HC0_1:=am' hc0_1
 clear hr0_1 hc0_1;have HB:=am' (Below.refl w.heap.size w)
 have H:((spec_loParty.f l0_0 l0_1 a0_2).bind fun bt154=>((spec_paFirst.f bt154.1 bt154.2).bind fun bt158=>((spec_seIndex.f k bt158.1 bt158.2).bind fun t162=>(some t162))))=some r:=h
 clear h;replace H:=Option.bind_eq_some_iff.mp H
 obtain ⟨⟨t154,t157⟩,A20,H⟩:=H
 replace H:((spec_paFirst.f t154 t157).bind fun bt158=>((spec_seIndex.f k bt158.1 bt158.2).bind fun t162=>(some t162)))=some r:=H
 have A2:=am' A20
 clear A20;replace H:=Option.bind_eq_some_iff.mp H
 obtain ⟨⟨t158,t161⟩,A30,H⟩:=H
 replace H:((spec_seIndex.f k t158 t161).bind fun t162=>(some t162))=some r:=H
 have A3:=am' A30
 clear A30;replace H:=Option.bind_eq_some_iff.mp H
 obtain ⟨t162,A40,H⟩:=H
 replace H:(some t162)=some r:=H
 have A4:=am' A40
 clear A40;obtain rfl:=Option.some.inj H
 go_enter Try.func80,Try.ntmps80
 go_wp2_with (first|((with_reducible refine gate_dst (N:=1) rfl ?_);refine box_event ?hg (N:=1) ?hd (cs:=#[.slice A0_0 l0_0.length c0_0, .slice A0_1 l0_1.length c0_1, .int .i64 a0_2]) (t:=29) ?hr ?_;(case hd=>rfl);(case hg=>rfl);(case hr=>first|(go_simp;done)|(go_simp;rfl));intro gb153 hg w5 hbox hb;have n0_:=am' (below_step xb' hb);have n1_:=am' (hbox);have n2_:=am' ((by rw[hg];exact (below_size xb'):w.heap.size≤gb153));have n3_:=am' ((by rw[hg];exact (below_size xb'):w.heap.size≤gb153));clear HB;have HB:=n0_;have BK153:=n1_;have GW153:=n2_;have GE153:=n3_;clear n0_ n1_ n2_ n3_;clear hb hbox hg;have hcz6_0:w5.cell? ⟨gb153,0,none⟩=some (.slice A0_0 l0_0.length c0_0):=(blk_cell BK153.out 0).trans rfl;have hcz6_1:w5.cell? ⟨gb153,1,none⟩=some (.slice A0_1 l0_1.length c0_1):=(blk_cell BK153.out 1).trans rfl;have hcz6_2:w5.cell? ⟨gb153,2,none⟩=some (.int .i64 a0_2):=(blk_cell BK153.out 2).trans rfl;have hfz6_0:=blk_frozen BK153.out 0;have hfz6_1:=blk_frozen BK153.out 1;have hfz6_2:=blk_frozen BK153.out 2)|((with_reducible refine gate_callee (f:=67) rfl ?_);refine goesL_ (some 4) rfl rfl Try.func67 xk' rfl #[.agg #[.slice A0_0 l0_0.length c0_0, .slice A0_1 l0_1.length c0_1, .int .i64 a0_2]] rfl xl' ?_;(with_reducible refine (spec_loParty.calls (fun k_=>k_ < w.heap.size) _ _ l0_0 _ _ l0_1 a0_2 t154 t157 _ ?side1 ?side2 ?side3 A2.out).mono ?_);(case side1=>exact Kd.V_mk HC0_0.out (Kd.F_below (Kd.C_F (Kd.heap_int .i64) HR0_0.out) (yb' GE153.out)));(case side2=>repeat (first|exact (Kd.C_below HR0_1.out HB.out)|(with_reducible refine ca' ?_ _)|(with_reducible refine cn' ?_ _)|(with_reducible refine cd' ?_)));(case side3=>exact HC0_1.out);rintro e w7 ⟨v155,rfl,ho0,hb⟩;refine ⟨_,rfl,?_⟩;have n0_:=am' (Kd.V_lower (Kd.V_mono (ok':=fun k_=>k_≠gb153) ho0 (fun k_ hk_=>Or.elim hk_ (fun hs_=>fun e_=>Nat.not_le.2 hs_ (by rw[e_];exact GW153.out)) (fun hn_=>(Kd.freshB (g:=gb153) (o := .cells #[.slice A0_0 l0_0.length c0_0, .slice A0_1 l0_1.length c0_1, .int .i64 a0_2] 29 (0,0)) (kk' BK153.out) k_ hn_)))) (below_size (yb' GE153.out)));have n1_:=am' (blk_below (g:=gb153) (o := .cells #[.slice A0_0 l0_0.length c0_0, .slice A0_1 l0_1.length c0_1, .int .i64 a0_2] 29 (0,0)) (kk' BK153.out) hb);have n2_:=am' (below_step (yb' GE153.out) hb);clear BK153;clear HB;have HO156:=n0_;have BK153:=n1_;have HB:=n2_;clear n0_ n1_ n2_;(try clear hb);(try clear hb2);(try clear hk);(try clear hi);(try clear ho0);obtain ⟨Ao8,co8,eo8⟩:=Kd.V_slice HO156.out;subst eo8)|((with_reducible refine gate_callee (f:=66) rfl ?_);refine goesL_ (some 5) rfl rfl Try.func66 xk' rfl #[.agg #[.slice Ao8 t154.length co8, .int .i64 t157]] rfl xl' ?_;(with_reducible refine (spec_paFirst.calls _ _ t154 t157 t158 t161 _ ?side1 ?side2 A3.out).mono ?_);(case side1=>repeat (first|exact (Kd.V_reads' HO156.out).2.2|(with_reducible refine ca' ?_ _)|(with_reducible refine cn' ?_ _)|(with_reducible refine cd' ?_)));(case side2=>exact (Kd.V_reads' HO156.out).2.1);rintro e w9 ⟨v159,rfl,ho0,hb⟩;refine ⟨_,rfl,?_⟩;have n0_:=am' (Kd.V_elder' (by (with_reducible repeat (first|apply Kd.V_alloc|apply Kd.V_drewN|apply Kd.V_drew));exact HO156.out) (Kd.R_base ho0) hb);have n1_:=am' (Kd.R_lower ho0 (below_size (yb' GE153.out)));have n2_:=am' (blk_below (g:=gb153) (o := .cells #[.slice A0_0 l0_0.length c0_0, .slice A0_1 l0_1.length c0_1, .int .i64 a0_2] 29 (0,0)) (kk' BK153.out) hb);have n3_:=am' (below_step (yb' GE153.out) hb);clear HO156;clear BK153;clear HB;have HO156:=n0_;have HO160:=n1_;have BK153:=n2_;have HB:=n3_;clear n0_ n1_ n2_ n3_;(try clear hb);(try clear hb2);(try clear hk);(try clear hi);(try clear ho0);obtain ⟨Ao10,co10,eo10⟩:=Kd.R_slice HO160.out;subst eo10)|((with_reducible refine gate_callee (f:=82) rfl ?_);refine goesL_ (some 6) rfl rfl Try.func82 xk' rfl #[.agg #[.slice Ao10 t158.length co10, .bool t161]] rfl xl' ?_;(with_reducible refine (spec_seIndex.calls k _ _ t158 t161 t162 _ ?side1 ?side2 A4.out).mono ?_);(case side1=>repeat (first|exact (Kd.R_reads' HO160.out).2.2|(with_reducible refine ca' ?_ _)|(with_reducible refine cn' ?_ _)|(with_reducible refine cd' ?_)));(case side2=>exact (Kd.R_reads' HO160.out).2.1);rintro e w11 ⟨rfl,hb⟩;refine ⟨_,rfl,?_⟩;have n0_:=am' (Kd.V_below (by (with_reducible repeat (first|apply Kd.V_alloc|apply Kd.V_drewN|apply Kd.V_drew));exact HO156.out) hb);have n1_:=am' (Kd.R_below (kr' HO160.out) hb);have n2_:=am' (blk_below (g:=gb153) (o := .cells #[.slice A0_0 l0_0.length c0_0, .slice A0_1 l0_1.length c0_1, .int .i64 a0_2] 29 (0,0)) (kk' BK153.out) hb);have n3_:=am' (below_step (yb' GE153.out) hb);clear HO156;clear HO160;clear BK153;clear HB;have HO156:=n0_;have HO160:=n1_;have BK153:=n2_;have HB:=n3_;clear n0_ n1_ n2_ n3_;(try clear hb);(try clear hb2);(try clear hk);(try clear hi)))
 go_ret
 exact ⟨by first|rfl|(simp[errW_none,errW_some] <;> rfl)|(simp[*,errW_none,errW_some] <;> rfl),by repeat (first|(with_reducible first|exact HB.out|apply ba'|apply bd'|apply be'|refine bs' ?_ GE153.out)|exact HB.out)⟩
end Go.Proofs.Ytikjdmiohpdnaaa.C16
