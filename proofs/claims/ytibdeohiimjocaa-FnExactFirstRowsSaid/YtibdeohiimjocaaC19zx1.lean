import Derived.Test.YtibdeohiimjocaaC19zx0
import Derived.Test.YtibdeohiimjocaaC19zAl
namespace Go.Proofs.Ytibdeohiimjocaa.C19
open Go.RowKit Go.Proofs.YtibdeohiimjocaaW.PrintWords Go.Proofs.YtibdeohiimjocaaW.PrintLast Go.Proofs.YtibdeohiimjocaaW.PrintMore Go.Proofs.Ytibdeohiimjocaa.H
attribute [local go_sem] max2_int min2_int max_two min_two max_three min_three max_four min_four
set_option linter.unusedVariables false
set_option linter.unusedSimpArgs false
def laws_eqIntS.l0:Nat→List Int→List Int→Int→Option (Bool)
 | 0,_,_,_=>none
 | k+1,x0,x1,x5=>if x5 < (x0.length:Int) then (if 0≤x5 then (if x5 < (x1.length:Int) then (if (rd x0 x5)=(rd x1 x5) then (laws_eqIntS.l0 k x0 x1 (wrap64 (x5+1))) else (some false)) else (none)) else (none)) else (some true)
def laws_eqIntS.f (k:Nat) (l0:List Int) (l1:List Int):Option (Bool):=if (l0.length:Int)=(l1.length:Int) then (laws_eqIntS.l0 k l0 l1 0) else (some false)
set_option maxHeartbeats 8000000 in
set_option maxRecDepth 100000 in
theorem laws_eqIntS.calls (k:Nat) (A0:Option Addr) (c0:Nat) (l0:List Int) (A1:Option Addr) (c1:Nat) (l1:List Int) (r:Bool) (w:World) (hr0:Kd.C (Kd.int .i64) w A0 l0.length l0) (hc0:l0.length≤c0) (hr1:Kd.C (Kd.int .i64) w A1 l1.length l1) (hc1:l1.length≤c1) (h:laws_eqIntS.f k l0 l1=some r) :
  Calls Try.prog 64 #[.slice A0 l0.length c0, .slice A1 l1.length c1] w fun e w'=>e = .returned (.bool r)∧Drawn0 w w':=by
 have HR0:=am' hr0
 have HC0:=am' hc0
 clear hr0 hc0;have HR1:=am' hr1
 have HC1:=am' hc1
 clear hr1 hc1;have H:(if (l0.length:Int)=(l1.length:Int) then (laws_eqIntS.l0 k l0 l1 0) else (some false))=some r:=h
 clear h;by_cases c3:(l0.length:Int)=(l1.length:Int)
 ·
  rw[if_pos c3] at H;have c3b0:((l0.length:Int) == (l1.length:Int))=true:=beq_iff_eq.mpr c3;have c3b1:((l0.length:Int) != (l1.length:Int))=false:=bne_eq_false_iff_eq.mpr c3;have c3b2:(l0.length == l1.length)=true:=by first|simpa using c3|(simp at c3 ⊢;omega)
  clear c3;have H':=am' H;clear H;go_enter Try.func64,Try.ntmps64;go_wp2
  repeat (go_quiet (fail);try go_wp2)
  go_loopg [5] k (fun kq v5 w'=>∃ (x5_1:Int),v5 = .int .i64 x5_1∧Aside0 (laws_eqIntS.l0 kq l0 l1 x5_1=some r)∧Aside0 (kq≤k)∧Drawn0 w w')
  case atStart=>exact ⟨(0),(by first|rfl|(simp;done)|(simp[*];done)),H',⟨Nat.le_refl _⟩,by repeat (first|exact Drawn0.refl _|apply Drawn0.step)⟩
  case round =>
   clear H';try clear c1
   try clear p2
   try clear c3
   try clear c3b0
   try clear c3b1
   try clear c3b2
   obtain ⟨x5_1,rfl,HA,HK1,⟨m1,rfl⟩⟩:=hrel;cases gk with
   | zero=>exact absurd HA.out (by simp[laws_eqIntS.l0])
   | succ k1 =>
    have H:=HA.out;clear HA;simp only[laws_eqIntS.l0] at H;by_cases c4:x5_1 < (l0.length:Int)
    ·
     rw[if_pos c4] at H;have c4b0:decide (x5_1 < (l0.length:Int))=true:=decide_eq_true c4;clear c4;by_cases c5:0≤x5_1
     ·
      rw[if_pos c5] at H;have c5b0:decide (0≤x5_1)=true:=decide_eq_true c5;clear c5;by_cases c6:x5_1 < (l1.length:Int)
      ·
       rw[if_pos c6] at H;have c6b0:decide (x5_1 < (l1.length:Int))=true:=decide_eq_true c6;clear c6;by_cases c7:(rd l0 x5_1)=(rd l1 x5_1)
       ·
        rw[if_pos c7] at H;have c7b0:((rd l0 x5_1) == (rd l1 x5_1))=true:=beq_iff_eq.mpr c7;have c7b1:((rd l0 x5_1) != (rd l1 x5_1))=false:=bne_eq_false_iff_eq.mpr c7;clear c7;have H':=am' H;clear H;have p101:0≤(x5_1:Int):=of_decide_eq_true (by first|(with_reducible assumption)|assumption);have q101:x5_1 < (l0.length:Int):=of_decide_eq_true (by first|(with_reducible assumption)|assumption);obtain ⟨ad101,e101,hx101_0⟩:=Kd.at_int HR0.out x5_1 p101 q101;cases e101;replace p101:=eq_true p101;replace q101:=eq_true q101;have p102:0≤(x5_1:Int):=of_decide_eq_true (by first|(with_reducible assumption)|assumption);have q102:x5_1 < (l1.length:Int):=of_decide_eq_true (by first|(with_reducible assumption)|assumption);obtain ⟨ad102,e102,hx102_0⟩:=Kd.at_int HR1.out x5_1 p102 q102;cases e102;replace p102:=eq_true p102;replace q102:=eq_true q102;go_wp2
        repeat (go_quiet (fail);try go_wp2)
        go_roundg k1
        case measure=>have:=HK1.out;omega
        case rel=>exact ⟨(wrap64 (x5_1+1)),(by first|rfl|(simp;done)|(simp[*];done)),H',⟨by have:=HK1.out;omega⟩,by repeat (first|exact Drawn0.refl _|apply Drawn0.step)⟩
       ·
        rw[if_neg c7] at H;have c7b0:((rd l0 x5_1) == (rd l1 x5_1))=false:=beq_eq_false_iff_ne.mpr c7;have c7b1:((rd l0 x5_1) != (rd l1 x5_1))=true:=bne_iff_ne.mpr c7;obtain rfl:=Option.some.inj H;have p101:0≤(x5_1:Int):=of_decide_eq_true (by first|(with_reducible assumption)|assumption);have q101:x5_1 < (l0.length:Int):=of_decide_eq_true (by first|(with_reducible assumption)|assumption);obtain ⟨ad101,e101,hx101_0⟩:=Kd.at_int HR0.out x5_1 p101 q101;cases e101;replace p101:=eq_true p101;replace q101:=eq_true q101;have p102:0≤(x5_1:Int):=of_decide_eq_true (by first|(with_reducible assumption)|assumption);have q102:x5_1 < (l1.length:Int):=of_decide_eq_true (by first|(with_reducible assumption)|assumption);obtain ⟨ad102,e102,hx102_0⟩:=Kd.at_int HR1.out x5_1 p102 q102;cases e102;replace p102:=eq_true p102;replace q102:=eq_true q102;go_wp2
        repeat (go_quiet (fail);try go_wp2)
        go_ret
        exact ⟨by first|rfl|(simp;done)|(simp[*];done),by repeat (first|exact Drawn0.refl _|apply Drawn0.step)⟩
      ·
       rw[if_neg c6] at H;exact absurd H (by simp)
     ·
      rw[if_neg c5] at H;exact absurd H (by simp)
    ·
     rw[if_neg c4] at H;have c4b0:decide (x5_1 < (l0.length:Int))=false:=decide_eq_false c4;clear c4;obtain rfl:=Option.some.inj H;go_wp2
     repeat (go_quiet (fail);try go_wp2)
     go_ret
     exact ⟨by first|rfl|(simp;done)|(simp[*];done),by repeat (first|exact Drawn0.refl _|apply Drawn0.step)⟩
 ·
  rw[if_neg c3] at H;have c3b0:((l0.length:Int) == (l1.length:Int))=false:=beq_eq_false_iff_ne.mpr c3;have c3b1:((l0.length:Int) != (l1.length:Int))=true:=bne_iff_ne.mpr c3;have c3b2:(l0.length == l1.length)=false:=by first|simpa using c3|(simp at c3 ⊢;omega)
  obtain rfl:=Option.some.inj H;go_enter Try.func64,Try.ntmps64;go_wp2
  repeat (go_quiet (fail);try go_wp2)
  go_ret
  exact ⟨by first|rfl|(simp;done)|(simp[*];done),by repeat (first|exact Drawn0.refl _|apply Drawn0.step)⟩
def laws_eqIntSS.l0:Nat→List (List Int)→List (List Int)→Int→Option (Bool)
 | 0,_,_,_=>none
 | k+1,x0,x1,x5=>if x5 < (x0.length:Int) then (if 0≤x5 then (if x5 < (x1.length:Int) then ((laws_eqIntS.f k (rd_L1 x0 x5) (rd_L1 x1 x5)).bind fun t105=>(if t105=true then (laws_eqIntSS.l0 k x0 x1 (wrap64 (x5+1))) else (some false))) else (none)) else (none)) else (some true)
def laws_eqIntSS.f (k:Nat) (l0:List (List Int)) (l1:List (List Int)):Option (Bool):=if (l0.length:Int)=(l1.length:Int) then (laws_eqIntSS.l0 k l0 l1 0) else (some false)
set_option maxHeartbeats 8000000 in
set_option maxRecDepth 100000 in
theorem laws_eqIntSS.calls (k:Nat) (A0:Option Addr) (c0:Nat) (l0:List (List Int)) (A1:Option Addr) (c1:Nat) (l1:List (List Int)) (r:Bool) (w:World) (hr0:Kd.C (Kd.slice 3 (Kd.int .i64)) w A0 l0.length l0) (hc0:l0.length≤c0) (hr1:Kd.C (Kd.slice 3 (Kd.int .i64)) w A1 l1.length l1) (hc1:l1.length≤c1) (h:laws_eqIntSS.f k l0 l1=some r) :
  Calls Try.prog 20 #[.slice A0 l0.length c0, .slice A1 l1.length c1] w fun e w'=>e = .returned (.bool r)∧Drawn0 w w':=by
 have HR0:=am' hr0
 have HC0:=am' hc0
 clear hr0 hc0;have HR1:=am' hr1
 have HC1:=am' hc1
 clear hr1 hc1;have H:(if (l0.length:Int)=(l1.length:Int) then (laws_eqIntSS.l0 k l0 l1 0) else (some false))=some r:=h
 clear h;by_cases c3:(l0.length:Int)=(l1.length:Int)
 ·
  rw[if_pos c3] at H;have c3b0:((l0.length:Int) == (l1.length:Int))=true:=beq_iff_eq.mpr c3;have c3b1:((l0.length:Int) != (l1.length:Int))=false:=bne_eq_false_iff_eq.mpr c3;have c3b2:(l0.length == l1.length)=true:=by first|simpa using c3|(simp at c3 ⊢;omega)
  clear c3;have H':=am' H;clear H;go_enter Try.func20,Try.ntmps20;go_wp2
  repeat (go_quiet (fail);try go_wp2)
  go_loopg [5] k (fun kq v5 w'=>∃ (x5_1:Int),v5 = .int .i64 x5_1∧Aside0 (laws_eqIntSS.l0 kq l0 l1 x5_1=some r)∧Aside0 (kq≤k)∧Drawn0 w w')
  case atStart=>exact ⟨(0),(by first|rfl|(simp;done)|(simp[*];done)),H',⟨Nat.le_refl _⟩,by repeat (first|exact Drawn0.refl _|apply Drawn0.step)⟩
  case round =>
   clear H';try clear c1
   try clear c2
   try clear p2
   try clear c3
   try clear c3b0
   try clear c3b1
   try clear c3b2
   obtain ⟨x5_1,rfl,HA,HK1,⟨m1,rfl⟩⟩:=hrel;cases gk with
   | zero=>exact absurd HA.out (by simp[laws_eqIntSS.l0])
   | succ k1 =>
    have H:=HA.out;clear HA;simp only[laws_eqIntSS.l0] at H;by_cases c4:x5_1 < (l0.length:Int)
    ·
     rw[if_pos c4] at H;have c4b0:decide (x5_1 < (l0.length:Int))=true:=decide_eq_true c4;clear c4;by_cases c5:0≤x5_1
     ·
      rw[if_pos c5] at H;have c5b0:decide (0≤x5_1)=true:=decide_eq_true c5;clear c5;by_cases c6:x5_1 < (l1.length:Int)
      ·
       rw[if_pos c6] at H;have c6b0:decide (x5_1 < (l1.length:Int))=true:=decide_eq_true c6;clear c6;replace H:=Option.bind_eq_some_iff.mp H;obtain ⟨t105,A70,H⟩:=H;replace H:(if t105=true then (laws_eqIntSS.l0 k1 l0 l1 (wrap64 (x5_1+1))) else (some false))=some r:=H;have A7:=am' A70;clear A70;by_cases c8:t105=true
       ·
        subst c8;have H1:(laws_eqIntSS.l0 k1 l0 l1 (wrap64 (x5_1+1)))=some r:=by rw[if_pos rfl] at H;exact H
        clear H;have H:=H1;clear H1;have H':=am' H;clear H;have p103:0≤(x5_1:Int):=of_decide_eq_true (by first|(with_reducible assumption)|assumption);have q103:x5_1 < (l0.length:Int):=of_decide_eq_true (by first|(with_reducible assumption)|assumption);obtain ⟨ad103,A103_0,c103_0,e103,hx103_0,hl103_0,hi103_0⟩:=at_L1 HR0.out x5_1 p103 q103;cases e103;have HR103_0:=am' hi103_0;have HC103_0:=am' hl103_0;clear hi103_0 hl103_0;replace p103:=eq_true p103;replace q103:=eq_true q103;have p104:0≤(x5_1:Int):=of_decide_eq_true (by first|(with_reducible assumption)|assumption);have q104:x5_1 < (l1.length:Int):=of_decide_eq_true (by first|(with_reducible assumption)|assumption);obtain ⟨ad104,A104_0,c104_0,e104,hx104_0,hl104_0,hi104_0⟩:=at_L1 HR1.out x5_1 p104 q104;cases e104;have HR104_0:=am' hi104_0;have HC104_0:=am' hl104_0;clear hi104_0 hl104_0;replace p104:=eq_true p104;replace q104:=eq_true q104;go_wp2_with (first|(go_at_call 64;(with_reducible refine (laws_eqIntS.calls k1 _ _ (rd_L1 l0 x5_1) _ _ (rd_L1 l1 x5_1) true _ ?side1 ?side2 ?side3 ?side4 A7.out).mono ?_);(case side1=>repeat (first|exact HR103_0.out|(with_reducible refine ca' ?_ _)|(with_reducible refine cn' ?_ _)|(with_reducible refine cd' ?_)));(case side2=>exact HC103_0.out);(case side3=>repeat (first|exact HR104_0.out|(with_reducible refine ca' ?_ _)|(with_reducible refine cn' ?_ _)|(with_reducible refine cd' ?_)));(case side4=>exact HC104_0.out);rintro e w' ⟨rfl,⟨nd,rfl⟩⟩;(try first|exact ⟨rfl,_,World.drewN_drewN _ _ _⟩|exact ⟨rfl,_,Eq.trans (World.drewN_drewN _ _ _) (congrArg (World.drewN _) (Nat.add_assoc _ _ _))⟩)))
        repeat (go_quiet (first|(go_at_call 64;(with_reducible refine (laws_eqIntS.calls k1 _ _ (rd_L1 l0 x5_1) _ _ (rd_L1 l1 x5_1) true _ ?side1 ?side2 ?side3 ?side4 A7.out).mono ?_);(case side1=>repeat (first|exact HR103_0.out|(with_reducible refine ca' ?_ _)|(with_reducible refine cn' ?_ _)|(with_reducible refine cd' ?_)));(case side2=>exact HC103_0.out);(case side3=>repeat (first|exact HR104_0.out|(with_reducible refine ca' ?_ _)|(with_reducible refine cn' ?_ _)|(with_reducible refine cd' ?_)));(case side4=>exact HC104_0.out);rintro e w' ⟨rfl,⟨nd,rfl⟩⟩;(try first|exact ⟨rfl,_,World.drewN_drewN _ _ _⟩|exact ⟨rfl,_,Eq.trans (World.drewN_drewN _ _ _) (congrArg (World.drewN _) (Nat.add_assoc _ _ _))⟩)));try go_wp2_with (first|(go_at_call 64;(with_reducible refine (laws_eqIntS.calls k1 _ _ (rd_L1 l0 x5_1) _ _ (rd_L1 l1 x5_1) true _ ?side1 ?side2 ?side3 ?side4 A7.out).mono ?_);(case side1=>repeat (first|exact HR103_0.out|(with_reducible refine ca' ?_ _)|(with_reducible refine cn' ?_ _)|(with_reducible refine cd' ?_)));(case side2=>exact HC103_0.out);(case side3=>repeat (first|exact HR104_0.out|(with_reducible refine ca' ?_ _)|(with_reducible refine cn' ?_ _)|(with_reducible refine cd' ?_)));(case side4=>exact HC104_0.out);rintro e w' ⟨rfl,⟨nd,rfl⟩⟩;(try first|exact ⟨rfl,_,World.drewN_drewN _ _ _⟩|exact ⟨rfl,_,Eq.trans (World.drewN_drewN _ _ _) (congrArg (World.drewN _) (Nat.add_assoc _ _ _))⟩))))
        go_roundg k1
        case measure=>have:=HK1.out;omega
        case rel=>exact ⟨(wrap64 (x5_1+1)),(by first|rfl|(simp;done)|(simp[*];done)),H',⟨by have:=HK1.out;omega⟩,by repeat (first|exact Drawn0.refl _|apply Drawn0.step)⟩
       ·
        replace c8:=Bool.eq_false_iff.mpr c8;subst c8;have H1:(some false)=some r:=by rw[if_neg (show ¬ (false=true) by decide)] at H;exact H
        clear H;have H:=H1;clear H1;obtain rfl:=Option.some.inj H;have p103:0≤(x5_1:Int):=of_decide_eq_true (by first|(with_reducible assumption)|assumption);have q103:x5_1 < (l0.length:Int):=of_decide_eq_true (by first|(with_reducible assumption)|assumption);obtain ⟨ad103,A103_0,c103_0,e103,hx103_0,hl103_0,hi103_0⟩:=at_L1 HR0.out x5_1 p103 q103;cases e103;have HR103_0:=am' hi103_0;have HC103_0:=am' hl103_0;clear hi103_0 hl103_0;replace p103:=eq_true p103;replace q103:=eq_true q103;have p104:0≤(x5_1:Int):=of_decide_eq_true (by first|(with_reducible assumption)|assumption);have q104:x5_1 < (l1.length:Int):=of_decide_eq_true (by first|(with_reducible assumption)|assumption);obtain ⟨ad104,A104_0,c104_0,e104,hx104_0,hl104_0,hi104_0⟩:=at_L1 HR1.out x5_1 p104 q104;cases e104;have HR104_0:=am' hi104_0;have HC104_0:=am' hl104_0;clear hi104_0 hl104_0;replace p104:=eq_true p104;replace q104:=eq_true q104;go_wp2_with (first|(go_at_call 64;(with_reducible refine (laws_eqIntS.calls k1 _ _ (rd_L1 l0 x5_1) _ _ (rd_L1 l1 x5_1) false _ ?side1 ?side2 ?side3 ?side4 A7.out).mono ?_);(case side1=>repeat (first|exact HR103_0.out|(with_reducible refine ca' ?_ _)|(with_reducible refine cn' ?_ _)|(with_reducible refine cd' ?_)));(case side2=>exact HC103_0.out);(case side3=>repeat (first|exact HR104_0.out|(with_reducible refine ca' ?_ _)|(with_reducible refine cn' ?_ _)|(with_reducible refine cd' ?_)));(case side4=>exact HC104_0.out);rintro e w' ⟨rfl,⟨nd,rfl⟩⟩;(try first|exact ⟨rfl,_,World.drewN_drewN _ _ _⟩|exact ⟨rfl,_,Eq.trans (World.drewN_drewN _ _ _) (congrArg (World.drewN _) (Nat.add_assoc _ _ _))⟩)))
        repeat (go_quiet (first|(go_at_call 64;(with_reducible refine (laws_eqIntS.calls k1 _ _ (rd_L1 l0 x5_1) _ _ (rd_L1 l1 x5_1) false _ ?side1 ?side2 ?side3 ?side4 A7.out).mono ?_);(case side1=>repeat (first|exact HR103_0.out|(with_reducible refine ca' ?_ _)|(with_reducible refine cn' ?_ _)|(with_reducible refine cd' ?_)));(case side2=>exact HC103_0.out);(case side3=>repeat (first|exact HR104_0.out|(with_reducible refine ca' ?_ _)|(with_reducible refine cn' ?_ _)|(with_reducible refine cd' ?_)));(case side4=>exact HC104_0.out);rintro e w' ⟨rfl,⟨nd,rfl⟩⟩;(try first|exact ⟨rfl,_,World.drewN_drewN _ _ _⟩|exact ⟨rfl,_,Eq.trans (World.drewN_drewN _ _ _) (congrArg (World.drewN _) (Nat.add_assoc _ _ _))⟩)));try go_wp2_with (first|(go_at_call 64;(with_reducible refine (laws_eqIntS.calls k1 _ _ (rd_L1 l0 x5_1) _ _ (rd_L1 l1 x5_1) false _ ?side1 ?side2 ?side3 ?side4 A7.out).mono ?_);(case side1=>repeat (first|exact HR103_0.out|(with_reducible refine ca' ?_ _)|(with_reducible refine cn' ?_ _)|(with_reducible refine cd' ?_)));(case side2=>exact HC103_0.out);(case side3=>repeat (first|exact HR104_0.out|(with_reducible refine ca' ?_ _)|(with_reducible refine cn' ?_ _)|(with_reducible refine cd' ?_)));(case side4=>exact HC104_0.out);rintro e w' ⟨rfl,⟨nd,rfl⟩⟩;(try first|exact ⟨rfl,_,World.drewN_drewN _ _ _⟩|exact ⟨rfl,_,Eq.trans (World.drewN_drewN _ _ _) (congrArg (World.drewN _) (Nat.add_assoc _ _ _))⟩))))
        go_ret
        exact ⟨by first|rfl|(simp;done)|(simp[*];done),by repeat (first|exact Drawn0.refl _|apply Drawn0.step)⟩
      ·
       rw[if_neg c6] at H;exact absurd H (by simp)
     ·
      rw[if_neg c5] at H;exact absurd H (by simp)
    ·
     rw[if_neg c4] at H;have c4b0:decide (x5_1 < (l0.length:Int))=false:=decide_eq_false c4;clear c4;obtain rfl:=Option.some.inj H;go_wp2
     repeat (go_quiet (fail);try go_wp2)
     go_ret
     exact ⟨by first|rfl|(simp;done)|(simp[*];done),by repeat (first|exact Drawn0.refl _|apply Drawn0.step)⟩
 ·
  rw[if_neg c3] at H;have c3b0:((l0.length:Int) == (l1.length:Int))=false:=beq_eq_false_iff_ne.mpr c3;have c3b1:((l0.length:Int) != (l1.length:Int))=true:=bne_iff_ne.mpr c3;have c3b2:(l0.length == l1.length)=false:=by first|simpa using c3|(simp at c3 ⊢;omega)
  obtain rfl:=Option.some.inj H;go_enter Try.func20,Try.ntmps20;go_wp2
  repeat (go_quiet (fail);try go_wp2)
  go_ret
  exact ⟨by first|rfl|(simp;done)|(simp[*];done),by repeat (first|exact Drawn0.refl _|apply Drawn0.step)⟩
def laws_markIntS.l0:Nat→List Int→Int→Int→Option (Int × List Int)
 | 0,_,_,_=>none
 | k+1,x0,x1,x5=>if x5 < (x0.length:Int) then (if 0≤x5 then (laws_markIntS.l0 k (x0.set (x5:Int).toNat x1) (wrap64 (x1+1)) (wrap64 (x5+1))) else (none)) else (some (x1,x0))
def laws_markIntS.f (k:Nat) (l0:List Int) (a1:Int):Option (Int × List Int):=laws_markIntS.l0 k l0 a1 0
set_option maxHeartbeats 8000000 in
set_option maxRecDepth 100000 in
theorem laws_markIntS.calls (k:Nat) (P0_:Nat→Prop) (u9000_:Value) (l0:List Int) (a1:Int) (r1:Int) (r2:List Int) (w0 w:World) (hB:Below w0.heap.size w0 w) (ho0:Kd.R (Kd.int .i64) 3 w w0.heap.size P0_ u9000_ l0) (h:laws_markIntS.f k l0 a1=some (r1,r2)) :
  Calls Try.prog 65 #[u9000_, .int .i64 a1] w fun e w'=>e = .returned (.int .i64 r1)∧Kd.R (Kd.int .i64) 3 w' w0.heap.size (fun k_=>(P0_ k_∨w.heap.size≤k_)) u9000_ r2∧Below w0.heap.size w0 w'∧Kept w w' (fun k_=>P0_ k_):=by
 have HO0:=am' (show Kd.R (Kd.int .i64) 3 w w0.heap.size (fun k_=>(P0_ k_∨w.heap.size≤k_)) u9000_ l0 from Kd.R_mono ho0 (fun k_ hk=>(.inl hk)))
 have HK:=am' (Kept.refl w (fun k_=>P0_ k_))
 have HW0:=am' hB.size
 have HB:=am' hB
 clear hB;have H:(laws_markIntS.l0 k l0 a1 0)=some (r1,r2):=h
 clear h;have H':=am' H
 clear H;go_enter Try.func65,Try.ntmps65
 go_wp2
 go_loopg [1,5] k (fun kq v1 v5 w'=>∃ (x0_1:List Int) (x1_1:Int) (x5_1:Int),v1 = .int .i64 x1_1∧v5 = .int .i64 x5_1∧Aside0 (laws_markIntS.l0 kq x0_1 x1_1 x5_1=some (r1,r2))∧Aside0 (kq≤k)∧Aside0 (Kd.R (Kd.int .i64) 3 w' w0.heap.size (fun k_=>(P0_ k_∨w.heap.size≤k_)) u9000_ x0_1)∧Aside0 (Kept w w' (fun k_=>P0_ k_))∧Aside0 (Below w0.heap.size w0 w'))
 case atStart=>exact ⟨(l0),(a1),(0),(by first|rfl|(simp;done)|(simp[*];done)),(by first|rfl|(simp;done)|(simp[*];done)),H',⟨Nat.le_refl _⟩,⟨by (with_reducible repeat (first|apply ra'|apply rn'|apply rw'));exact HO0.out⟩,⟨by repeat (first|(with_reducible first|exact HK.out|apply Kept.alloc|apply Kept.drewN|apply Kept.drew)|exact HK.out)⟩,⟨by repeat (first|(with_reducible first|exact HB.out|apply ba'|apply bd'|apply be')|exact HB.out)⟩⟩
 case round =>
  clear H';try clear p2
  obtain ⟨x0_1,x1_1,x5_1,rfl,rfl,HA,HK1,HO_0,HK,HB⟩:=hrel;cases gk with
  | zero=>exact absurd HA.out (by simp[laws_markIntS.l0])
  | succ k1 =>
   have H:=HA.out;clear HA;simp only[laws_markIntS.l0] at H;by_cases c3:x5_1 < (x0_1.length:Int)
   ·
    rw[if_pos c3] at H;have c3b0:decide (x5_1 < (x0_1.length:Int))=true:=decide_eq_true c3;clear c3;by_cases c4:0≤x5_1
    ·
     rw[if_pos c4] at H;have c4b0:decide (0≤x5_1)=true:=decide_eq_true c4;clear c4;obtain ⟨y106,hy106⟩:∃ y_:List Int,y_=(x0_1.set (x5_1:Int).toNat x1_1):=⟨_,rfl⟩
     replace H:(laws_markIntS.l0 k1 y106 (wrap64 (x1_1+1)) (wrap64 (x5_1+1)))=some (r1,r2):=by first|(rw[hy106];with_reducible exact H)|(have H2_:=(Option.bind_some _ _).symm.trans H;rw[hy106];with_reducible exact H2_)|(have H2_:=(Option.bind_some _ _).symm.trans H;with_reducible exact H2_)|with_reducible exact H|(rw[hy106];exact H)|exact H
     have Ny106:=am' hy106;clear hy106;have H':=am' H;clear H;obtain ⟨Ao6,co6,eo6⟩:=Kd.R_slice HO_0.out;subst eo6;have p5:0≤(x5_1:Int):=of_decide_eq_true (by first|(with_reducible assumption)|assumption);have q5:(x5_1:Int) < ((x0_1.length:Int):Int):=of_decide_eq_true (by first|(with_reducible assumption)|assumption);obtain ⟨go5,co5,eo5,gb5,gl5,cl5,HG5⟩:=Kd.R_form HO_0.out (by omega)
     (first|cases eo5|(injection eo5 with ea_ en_ ec_;(first|subst ea_|(injection ea_ with ea_;subst ea_));subst ec_;clear en_))
     have GB5:=am' gb5;have GG5:=am' HG5;clear gb5 gl5 HG5;have HMgo5:=am' (show (P0_ go5∨w.heap.size≤go5) from (HO_0.out.1 _ rfl));obtain ⟨hx5_0,hf5_0⟩:=Kd.R_celln 0 HO_0.out (x5_1:Int) p5 q5;replace p5:=eq_true p5;replace q5:=eq_true q5;have HP7:=Kd.R_putg HO_0.out (x5_1:Int) x1_1;go_wp2_with (first|((with_reducible refine gate_store (t:=3) (p:=15) rfl ?_);refine store_event (t:=3) (p:=15) (v:=?vo_w8) (w1:=(wr.setCell ⟨go5,(x5_1:Int).toNat,none⟩ (.int .i64 x1_1))) ?hg ?ho ?hn ?hr ?_;(case ho=>rfl);(case hg=>rfl);(case hn=>rfl);(case hr=>first|(go_simp;done)|(go_simp;rfl));intro w8 hw;have hg:wr.grownBy w8 (some go5):=(by rw[hw];exact HP7.2);have hp_:Kd.R (Kd.int .i64) 3 w8 w0.heap.size (fun k_=>(P0_ k_∨w.heap.size≤k_)) (.slice (some ⟨go5,0,none⟩) x0_1.length co6) y106:=(by rw[hw,Ny106.out];exact HP7.1);clear HP7;have n0_:=am' (hp_);have n1_:=am' ((by rw[hw];exact bs' (HB.out) GB5.out:Below w0.heap.size w0 w8));have n2_:=am' (Kept.of_grown (S:=(fun k_=>P0_ k_)) hg (by repeat (first|(with_reducible first|exact HK.out|apply Kept.alloc|apply Kept.drewN|apply Kept.drew)|exact HK.out)) (fun k_ e_=>(HO_0.out.1 k_ e_)));clear HO_0;clear HB;clear HK;have HO_0:=n0_;have HB:=n1_;have HK:=n2_;clear n0_ n1_ n2_;clear hg hw hp_));go_roundg k1
     case measure=>have:=HK1.out;omega
     case rel=>exact ⟨(y106),(wrap64 (x1_1+1)),(wrap64 (x5_1+1)),(by first|rfl|(simp;done)|(simp[*];done)),(by first|rfl|(simp;done)|(simp[*];done)),H',⟨by have:=HK1.out;omega⟩,⟨by (with_reducible repeat (first|apply ra'|apply rn'|apply rw'));exact HO_0.out⟩,⟨by repeat (first|(with_reducible first|exact HK.out|apply Kept.alloc|apply Kept.drewN|apply Kept.drew)|exact HK.out)⟩,⟨by repeat (first|(with_reducible first|exact HB.out|apply ba'|apply bd'|apply be')|exact HB.out)⟩⟩
    ·
     rw[if_neg c4] at H;exact absurd H (by simp)
   ·
    rw[if_neg c3] at H;have c3b0:decide (x5_1 < (x0_1.length:Int))=false:=decide_eq_false c3;clear c3;simp only[Option.some.injEq,Prod.mk.injEq] at H;obtain ⟨rfl,rfl⟩:=H;obtain ⟨Ao9,co9,eo9⟩:=Kd.R_slice HO_0.out;subst eo9;go_wp2;go_ret
    exact ⟨by first|rfl|(simp[errW_none,errW_some] <;> rfl)|(simp[*,errW_none,errW_some] <;> rfl),by (with_reducible repeat (first|apply ra'|apply rn'|apply rw'));exact HO_0.out,by repeat (first|(with_reducible first|exact HB.out|apply ba'|apply bd'|apply be')|exact HB.out),by repeat (first|(with_reducible first|exact HK.out|apply Kept.alloc|apply Kept.drewN|apply Kept.drew)|exact HK.out)⟩
theorem markIntS_loop':∀ (r pre:List Int) (a:Int),(pre ++ r).length≤9223372036854775807→Ev (fun k=>laws_markIntS.l0 k (pre ++ r) a (pre.length:Int)) ((mkS r a).1,pre ++ (mkS r a).2):=by
 intro r;induction r with
 | nil =>
  intro pre a hl;refine Ev.step (f:=fun _=>some _) (fun k=>?_) (Ev.now _);simp only[laws_markIntS.l0];rw[if_neg (nlt_end pre)];rfl
 | cons x r ih =>
  intro pre a hl;refine Ev.step (fun k=>?_) (ev_eq (ih (pre ++ [a]) (wrap64 (a+1)) (by simpa using hl)) (by simp[mkS]));simp only[laws_markIntS.l0];rw[if_pos (lt_mid pre x r),if_pos (zle _),set_mid,wr_mid pre x r hl,app_mid pre a r];simp
def laws_markIntSS.f (l0:List (List Int)) (a1:Int):Option (Int × List (List Int)):=some (mkSS l0 a1)
set_option maxHeartbeats 4000000 in
set_option maxRecDepth 100000 in
theorem laws_markIntSS.calls (P0_:Nat→Prop) (u9000_:Value) (l0:List (List Int)) (a1:Int) (r1:Int) (r2:List (List Int)) (w0 w:World) (hB:Below w0.heap.size w0 w) (ho0:Kd.S (Kd.slice 3 (Kd.int .i64)) 32 w w0.heap.size P0_ u9000_ l0) (h:laws_markIntSS.f l0 a1=some (r1,r2)) :
  Calls Try.prog 21 #[u9000_, .int .i64 a1] w fun e w'=>e = .returned (.int .i64 r1)∧Kd.S (Kd.slice 3 (Kd.int .i64)) 32 w' w0.heap.size P0_ u9000_ r2∧Below w0.heap.size w0 w'∧Kept w w' (fun k_=>P0_ k_):=by
 obtain ⟨A,c,rfl,hlc,hC⟩:=Kd.S_reads ho0
 have hbig:=hC.2.1
 have HE:=am' (Option.some.inj h)
 have HS:=am' ho0
 have HB:=am' hB
 clear h ho0 hB hC hlc;go_enter Try.func21,Try.ntmps21
 go_wp2
 go_loopg [1,5] l0.length (fun gg v1 v5 wr=>∃ (pre r:List (List Int)) (a':Int),l0.length - pre.length≤gg∧pre.length+r.length=l0.length∧v1 = .int .i64 a'∧v5 = .int .i64 (pre.length:Int)∧Aside0 (mkSS l0 a1=((mkSS r a').1,pre ++ (mkSS r a').2))∧Aside0 (Kd.S (Kd.slice 3 (Kd.int .i64)) 32 wr w0.heap.size P0_ (.slice A l0.length c) (pre ++ r))∧Aside0 (Below w0.heap.size w0 wr)∧Aside0 (Kept w wr P0_))
 case atStart=>exact ⟨[],l0,a1,by simp,by simp,rfl,rfl,⟨rfl⟩,HS,HB,⟨Kept.refl _ _⟩⟩
 case round =>
  obtain ⟨pre,r,a',hg,hlen,rfl,rfl,HM,HS,HB,HK⟩:=hrel;cases r with
  | nil =>
   have e:pre.length=l0.length:=by simpa using hlen
   have hnl:¬ (pre.length:Int) < (l0.length:Int):=by omega
   go_wp2;go_ret
   have hm:=HE.out.symm.trans HM.out;simp only[mkSS,List.append_nil,Prod.mk.injEq] at hm;obtain ⟨rfl,rfl⟩:=hm;exact ⟨rfl,by have:=HS.out;rwa [List.append_nil] at this,HB.out,HK.out⟩
  | cons x r =>
   have hlt:pre.length < l0.length:=by simp at hlen;omega
   have hltz:(pre.length:Int) < (l0.length:Int):=by omega
   have hform:=Kd.S_form HS.out (by simp only[List.length_append,List.length_cons];omega);obtain ⟨g,cap,hv,hgb,hgl,cells,hgc⟩:=hform;injection hv with hA hn hcap
   subst hA;clear hcap hn;obtain ⟨oki,ce,hcl,hM,hcc,hoki,hH⟩:=Kd.S_lend HS.out [] (pre.length:Int) (zle _) hltz;obtain ⟨v,rfl,hR⟩:=hM;have hx:wr.cell? ⟨g,pre.length,none⟩=some v:=by simpa [Kd.slice] using hcc 0 v rfl
   have hget:(pre ++ x :: r).getD ((pre.length:Int)).toNat []=x:=by simp
   rw[hget] at hR;obtain ⟨A',c',rfl⟩:=Kd.R_slice hR;obtain ⟨kk,hk⟩:=(markIntS_loop' x [] a' (by have:=(Kd.R_reads' hR).2.2.2.1;simpa using this)).rounds;have hc1:=laws_markIntS.calls kk oki (.slice A' x.length c') x a' (mkS x a').1 (mkS x a').2 w0 wr HB.out hR hk;have HH:=am' hH;have HR:=am' hR;have HO:=am' hoki;have HC1:=am' hc1;clear hH hR hoki hc1 hk hcc hcl hgc hgl hgb hget;go_wp2_with (go_at_call 65;refine HC1.out.mono ?_;rintro e w' ⟨rfl,hy,hb,hkp⟩;have HY:=am' hy;have HB':=am' hb;have HKP:=am' hkp;clear hy hb hkp hx);go_roundg (l0.length - (pre.length+1))
   case measure=>omega
   case rel =>
    refine ⟨pre ++ [(mkS x a').2],r,(mkS x a').1,by simp,by simp at hlen ⊢;omega,rfl,?_,⟨?_⟩,⟨?_⟩,HB',⟨?_⟩⟩
    ·
     simp
    ·
     rw[HM.out];simp[mkSS]
    ·
     have h1:=Kd.H_kept HH.out HKP.out (fun k _ h2 h3=>h2 h3);have h2:=Kd.H_back (x':=(mkS x a').2) h1 ⟨_,rfl,Kd.R_reok rfl HY.out (fun k e=>HR.out.1 k e)⟩ (fun _ hk=>hk);simpa using h2
    ·
     exact Kept.then_ HK.out HKP.out (fun k hk => .inl (HO.out k hk).1)
def laws_heldIntS.l0:Nat→List Int→Int→Int→Option (Int)
 | 0,_,_,_=>none
 | k+1,x0,x1,x5=>if x5 < (x0.length:Int) then (if 0≤x5 then (if (rd x0 x5)=x1 then (laws_heldIntS.l0 k x0 (wrap64 (x1+1)) (wrap64 (x5+1))) else (some (-1))) else (none)) else (some x1)
def laws_heldIntS.f (k:Nat) (l0:List Int) (a1:Int):Option (Int):=laws_heldIntS.l0 k l0 a1 0
set_option maxHeartbeats 8000000 in
set_option maxRecDepth 100000 in
theorem laws_heldIntS.calls (k:Nat) (A0:Option Addr) (c0:Nat) (l0:List Int) (a1:Int) (r:Int) (w:World) (hr0:Kd.C (Kd.int .i64) w A0 l0.length l0) (hc0:l0.length≤c0) (h:laws_heldIntS.f k l0 a1=some r) :
  Calls Try.prog 66 #[.slice A0 l0.length c0, .int .i64 a1] w fun e w'=>e = .returned (.int .i64 r)∧Drawn0 w w':=by
 have HR0:=am' hr0
 have HC0:=am' hc0
 clear hr0 hc0;have H:(laws_heldIntS.l0 k l0 a1 0)=some r:=h
 clear h;have H':=am' H
 clear H;go_enter Try.func66,Try.ntmps66
 go_wp2
 go_loopg [1,5] k (fun kq v1 v5 w'=>∃ (x1_1:Int) (x5_1:Int),v1 = .int .i64 x1_1∧v5 = .int .i64 x5_1∧Aside0 (laws_heldIntS.l0 kq l0 x1_1 x5_1=some r)∧Aside0 (kq≤k)∧Drawn0 w w')
 case atStart=>exact ⟨(a1),(0),(by first|rfl|(simp;done)|(simp[*];done)),(by first|rfl|(simp;done)|(simp[*];done)),H',⟨Nat.le_refl _⟩,by repeat (first|exact Drawn0.refl _|apply Drawn0.step)⟩
 case round =>
  clear H';try clear p2
  obtain ⟨x1_1,x5_1,rfl,rfl,HA,HK1,⟨m1,rfl⟩⟩:=hrel;cases gk with
  | zero=>exact absurd HA.out (by simp[laws_heldIntS.l0])
  | succ k1 =>
   have H:=HA.out;clear HA;simp only[laws_heldIntS.l0] at H;by_cases c3:x5_1 < (l0.length:Int)
   ·
    rw[if_pos c3] at H;have c3b0:decide (x5_1 < (l0.length:Int))=true:=decide_eq_true c3;clear c3;by_cases c4:0≤x5_1
    ·
     rw[if_pos c4] at H;have c4b0:decide (0≤x5_1)=true:=decide_eq_true c4;clear c4;by_cases c5:(rd l0 x5_1)=x1_1
     ·
      rw[if_pos c5] at H;have c5b0:((rd l0 x5_1) == x1_1)=true:=beq_iff_eq.mpr c5;have c5b1:((rd l0 x5_1) != x1_1)=false:=bne_eq_false_iff_eq.mpr c5;clear c5;have H':=am' H;clear H;have p107:0≤(x5_1:Int):=of_decide_eq_true (by first|(with_reducible assumption)|assumption);have q107:x5_1 < (l0.length:Int):=of_decide_eq_true (by first|(with_reducible assumption)|assumption);obtain ⟨ad107,e107,hx107_0⟩:=Kd.at_int HR0.out x5_1 p107 q107;cases e107;replace p107:=eq_true p107;replace q107:=eq_true q107;go_wp2;go_roundg k1
      case measure=>have:=HK1.out;omega
      case rel=>exact ⟨(wrap64 (x1_1+1)),(wrap64 (x5_1+1)),(by first|rfl|(simp;done)|(simp[*];done)),(by first|rfl|(simp;done)|(simp[*];done)),H',⟨by have:=HK1.out;omega⟩,by repeat (first|exact Drawn0.refl _|apply Drawn0.step)⟩
     ·
      rw[if_neg c5] at H;have c5b0:((rd l0 x5_1) == x1_1)=false:=beq_eq_false_iff_ne.mpr c5;have c5b1:((rd l0 x5_1) != x1_1)=true:=bne_iff_ne.mpr c5;obtain rfl:=Option.some.inj H;have p107:0≤(x5_1:Int):=of_decide_eq_true (by first|(with_reducible assumption)|assumption);have q107:x5_1 < (l0.length:Int):=of_decide_eq_true (by first|(with_reducible assumption)|assumption);obtain ⟨ad107,e107,hx107_0⟩:=Kd.at_int HR0.out x5_1 p107 q107;cases e107;replace p107:=eq_true p107;replace q107:=eq_true q107;go_wp2;go_ret
      exact ⟨by first|rfl|(simp;done)|(simp[*];done),by repeat (first|exact Drawn0.refl _|apply Drawn0.step)⟩
    ·
     rw[if_neg c4] at H;exact absurd H (by simp)
   ·
    rw[if_neg c3] at H;have c3b0:decide (x5_1 < (l0.length:Int))=false:=decide_eq_false c3;clear c3;obtain rfl:=Option.some.inj H;go_wp2;go_ret
    exact ⟨by first|rfl|(simp;done)|(simp[*];done),by repeat (first|exact Drawn0.refl _|apply Drawn0.step)⟩
def laws_heldIntSS.l0:Nat→List (List Int)→Int→Int→Option (Int)
 | 0,_,_,_=>none
 | k+1,x0,x1,x5=>if x5 < (x0.length:Int) then (if 0≤x5 then ((laws_heldIntS.f k (rd_L1 x0 x5) x1).bind fun t109=>(if t109 < 0 then (some (-1)) else (laws_heldIntSS.l0 k x0 t109 (wrap64 (x5+1))))) else (none)) else (some x1)
def laws_heldIntSS.f (k:Nat) (l0:List (List Int)) (a1:Int):Option (Int):=laws_heldIntSS.l0 k l0 a1 0
set_option maxHeartbeats 8000000 in
set_option maxRecDepth 100000 in
theorem laws_heldIntSS.calls (k:Nat) (A0:Option Addr) (c0:Nat) (l0:List (List Int)) (a1:Int) (r:Int) (w:World) (hr0:Kd.C (Kd.slice 3 (Kd.int .i64)) w A0 l0.length l0) (hc0:l0.length≤c0) (h:laws_heldIntSS.f k l0 a1=some r) :
  Calls Try.prog 22 #[.slice A0 l0.length c0, .int .i64 a1] w fun e w'=>e = .returned (.int .i64 r)∧Drawn0 w w':=by
 have HR0:=am' hr0
 have HC0:=am' hc0
 clear hr0 hc0;have H:(laws_heldIntSS.l0 k l0 a1 0)=some r:=h
 clear h;have H':=am' H
 clear H;go_enter Try.func22,Try.ntmps22
 go_wp2
 go_loopg [1,5] k (fun kq v1 v5 w'=>∃ (x1_1:Int) (x5_1:Int),v1 = .int .i64 x1_1∧v5 = .int .i64 x5_1∧Aside0 (laws_heldIntSS.l0 kq l0 x1_1 x5_1=some r)∧Aside0 (kq≤k)∧Drawn0 w w')
 case atStart=>exact ⟨(a1),(0),(by first|rfl|(simp;done)|(simp[*];done)),(by first|rfl|(simp;done)|(simp[*];done)),H',⟨Nat.le_refl _⟩,by repeat (first|exact Drawn0.refl _|apply Drawn0.step)⟩
 case round =>
  clear H';try clear c2
  try clear p2
  obtain ⟨x1_1,x5_1,rfl,rfl,HA,HK1,⟨m1,rfl⟩⟩:=hrel;cases gk with
  | zero=>exact absurd HA.out (by simp[laws_heldIntSS.l0])
  | succ k1 =>
   have H:=HA.out;clear HA;simp only[laws_heldIntSS.l0] at H;by_cases c3:x5_1 < (l0.length:Int)
   ·
    rw[if_pos c3] at H;have c3b0:decide (x5_1 < (l0.length:Int))=true:=decide_eq_true c3;clear c3;by_cases c4:0≤x5_1
    ·
     rw[if_pos c4] at H;have c4b0:decide (0≤x5_1)=true:=decide_eq_true c4;clear c4;replace H:=Option.bind_eq_some_iff.mp H;obtain ⟨t109,A50,H⟩:=H;replace H:(if t109 < 0 then (some (-1)) else (laws_heldIntSS.l0 k1 l0 t109 (wrap64 (x5_1+1))))=some r:=H;have A5:=am' A50;clear A50;by_cases c6:t109 < 0
     ·
      rw[if_pos c6] at H;have c6b0:decide (t109 < 0)=true:=decide_eq_true c6;clear c6;obtain rfl:=Option.some.inj H;have p108:0≤(x5_1:Int):=of_decide_eq_true (by first|(with_reducible assumption)|assumption);have q108:x5_1 < (l0.length:Int):=of_decide_eq_true (by first|(with_reducible assumption)|assumption);obtain ⟨ad108,A108_0,c108_0,e108,hx108_0,hl108_0,hi108_0⟩:=at_L1 HR0.out x5_1 p108 q108;cases e108;have HR108_0:=am' hi108_0;have HC108_0:=am' hl108_0;clear hi108_0 hl108_0;replace p108:=eq_true p108;replace q108:=eq_true q108;go_wp2_with (first|((with_reducible refine gate_callee (f:=66) rfl ?_);refine goesL_ (some 17) rfl rfl Try.func66 (by kernel_rfl) rfl #[.slice A108_0 (rd_L1 l0 x5_1).length c108_0, .int .i64 x1_1] rfl (by (try simp only[List.map_toArray,List.map_cons,List.map_nil]);first|done|rfl|(simp only[List.length_drop,List.length_take];rfl)) ?_;(with_reducible refine (laws_heldIntS.calls k1 _ _ (rd_L1 l0 x5_1) x1_1 t109 _ ?side1 ?side2 A5.out).mono ?_);(case side1=>repeat (first|exact HR108_0.out|(with_reducible refine ca' ?_ _)|(with_reducible refine cn' ?_ _)|(with_reducible refine cd' ?_)));(case side2=>exact HC108_0.out);rintro e w' ⟨rfl,⟨nd,rfl⟩⟩;refine ⟨_,rfl,?_⟩));go_ret
      exact ⟨by first|rfl|(simp;done)|(simp[*];done),by repeat (first|exact Drawn0.refl _|apply Drawn0.step)⟩
     ·
      rw[if_neg c6] at H;have c6b0:decide (t109 < 0)=false:=decide_eq_false c6;clear c6;have H':=am' H;clear H;have p108:0≤(x5_1:Int):=of_decide_eq_true (by first|(with_reducible assumption)|assumption);have q108:x5_1 < (l0.length:Int):=of_decide_eq_true (by first|(with_reducible assumption)|assumption);obtain ⟨ad108,A108_0,c108_0,e108,hx108_0,hl108_0,hi108_0⟩:=at_L1 HR0.out x5_1 p108 q108;cases e108;have HR108_0:=am' hi108_0;have HC108_0:=am' hl108_0;clear hi108_0 hl108_0;replace p108:=eq_true p108;replace q108:=eq_true q108;go_wp2_with (first|((with_reducible refine gate_callee (f:=66) rfl ?_);refine goesL_ (some 17) rfl rfl Try.func66 (by kernel_rfl) rfl #[.slice A108_0 (rd_L1 l0 x5_1).length c108_0, .int .i64 x1_1] rfl (by (try simp only[List.map_toArray,List.map_cons,List.map_nil]);first|done|rfl|(simp only[List.length_drop,List.length_take];rfl)) ?_;(with_reducible refine (laws_heldIntS.calls k1 _ _ (rd_L1 l0 x5_1) x1_1 t109 _ ?side1 ?side2 A5.out).mono ?_);(case side1=>repeat (first|exact HR108_0.out|(with_reducible refine ca' ?_ _)|(with_reducible refine cn' ?_ _)|(with_reducible refine cd' ?_)));(case side2=>exact HC108_0.out);rintro e w' ⟨rfl,⟨nd,rfl⟩⟩;refine ⟨_,rfl,?_⟩));go_roundg k1
      case measure=>have:=HK1.out;omega
      case rel=>exact ⟨(t109),(wrap64 (x5_1+1)),(by first|rfl|(simp;done)|(simp[*];done)),(by first|rfl|(simp;done)|(simp[*];done)),H',⟨by have:=HK1.out;omega⟩,by repeat (first|exact Drawn0.refl _|apply Drawn0.step)⟩
    ·
     rw[if_neg c4] at H;exact absurd H (by simp)
   ·
    rw[if_neg c3] at H;have c3b0:decide (x5_1 < (l0.length:Int))=false:=decide_eq_false c3;clear c3;obtain rfl:=Option.some.inj H;go_wp2;go_ret
    exact ⟨by first|rfl|(simp;done)|(simp[*];done),by repeat (first|exact Drawn0.refl _|apply Drawn0.step)⟩
def laws_toCompany.f (a0_0:Int) (a0_1:Int):Option (Int × Int):=some (a0_0,a0_1)
set_option maxHeartbeats 8000000 in
set_option maxRecDepth 100000 in
theorem laws_toCompany.calls (a0_0:Int) (a0_1:Int) (r1:Int) (r2:Int) (w:World) (h:laws_toCompany.f a0_0 a0_1=some (r1,r2)) :
  Calls Try.prog 30 #[.agg #[.int .i64 a0_0, .int .i64 a0_1]] w fun e w'=>e = .returned (.agg #[.int .i64 r1, .int .i64 r2])∧Below w.heap.size w w':=by
 have hu37:=Try.underlying37
 have hu40:=Try.underlying40
 have HB:=am' (Below.refl w.heap.size w)
 have H:(some (a0_0,a0_1))=some (r1,r2):=h
 clear h;simp only[Option.some.injEq,Prod.mk.injEq] at H
 obtain ⟨rfl,rfl⟩:=H
 go_enter Try.func30,Try.ntmps30
 go_wp2_with (first|((with_reducible refine gate_dst (N:=1) rfl ?_);refine box_event ?hg (N:=1) ?hd (cs:=#[.int .i64 a0_0, .int .i64 a0_1]) (t:=37) ?hr ?_;(case hd=>rfl);(case hg=>rfl);(case hr=>first|(go_simp;done)|(go_simp;rfl));intro gb110 hg w2 hbox hb;have n0_:=am' (below_step (by repeat (first|(with_reducible first|exact HB.out|apply ba'|apply bd'|apply be')|exact HB.out)) hb);have n1_:=am' (hbox);have n2_:=am' ((by rw[hg];exact (below_size (by repeat (first|(with_reducible first|exact HB.out|apply ba'|apply bd'|apply be')|exact HB.out))):w.heap.size≤gb110));have n3_:=am' ((by rw[hg];exact (below_size (by repeat (first|(with_reducible first|exact HB.out|apply ba'|apply bd'|apply be')|exact HB.out))):w.heap.size≤gb110));clear HB;have HB:=n0_;have BK110:=n1_;have GW110:=n2_;have GE110:=n3_;clear n0_ n1_ n2_ n3_;clear hb hbox hg)|((with_reducible refine gate_dst (N:=2) rfl ?_);refine box_event ?hg (N:=2) ?hd (cs:=#[.int .i64 0, .int .i64 0]) (t:=40) ?hr ?_;(case hd=>rfl);(case hg=>rfl);(case hr=>first|(go_simp;done)|(go_simp;rfl));intro gb111 hg w3 hbox hb;have n0_:=am' (blk_below (g:=gb110) (o := .cells #[.int .i64 a0_0, .int .i64 a0_1] 37 (0,0)) (by (with_reducible repeat (first|refine kn' ?_ _|refine kd' ?_|refine ka' ?_ _));exact BK110.out) hb);have n1_:=am' (below_step (by repeat (first|(with_reducible first|exact HB.out|apply ba'|apply bd'|apply be'|refine bs' ?_ GE110.out)|exact HB.out)) hb);have n2_:=am' (hbox);have n3_:=am' ((by rw[hg];exact (below_size (by repeat (first|(with_reducible first|exact HB.out|apply ba'|apply bd'|apply be'|refine bs' ?_ GE110.out)|exact HB.out))):w.heap.size≤gb111));have n4_:=am' ((by rw[hg];exact (below_size (by repeat (first|(with_reducible first|exact HB.out|apply ba'|apply bd'|apply be'|refine bs' ?_ GE110.out)|exact HB.out))):w.heap.size≤gb111));have n5_:=am' ((by rw[hg];exact Nat.ne_of_lt (blk_lt (g:=gb110) (o := .cells #[.int .i64 a0_0, .int .i64 a0_1] 37 (0,0)) (by (with_reducible repeat (first|refine kn' ?_ _|refine kd' ?_|refine ka' ?_ _));exact BK110.out)):gb110≠gb111));have n6_:=am' ((by rw[hg];exact Nat.ne_of_gt (blk_lt (g:=gb110) (o := .cells #[.int .i64 a0_0, .int .i64 a0_1] 37 (0,0)) (by (with_reducible repeat (first|refine kn' ?_ _|refine kd' ?_|refine ka' ?_ _));exact BK110.out)):gb111≠gb110));clear BK110;clear HB;have BK110:=n0_;have HB:=n1_;have BK111:=n2_;have GW111:=n3_;have GE111:=n4_;have NB110_111:=n5_;have NB111_110:=n6_;clear n0_ n1_ n2_ n3_ n4_ n5_ n6_;clear hb hbox hg)|((with_reducible refine gate_dst (N:=3) rfl ?_);refine box_event ?hg (N:=3) ?hd (cs:=#[.int .i64 0, .int .i64 0]) (t:=40) ?hr ?_;(case hd=>rfl);(case hg=>rfl);(case hr=>first|(go_simp;done)|(go_simp;rfl));intro gb112 hg w4 hbox hb;have n0_:=am' (blk_below (g:=gb110) (o := .cells #[.int .i64 a0_0, .int .i64 a0_1] 37 (0,0)) (by (with_reducible repeat (first|refine kn' ?_ _|refine kd' ?_|refine ka' ?_ _));exact BK110.out) hb);have n1_:=am' (blk_below (g:=gb111) (o := .cells #[.int .i64 0, .int .i64 0] 40 (0,0)) (by (with_reducible repeat (first|refine kn' ?_ _|refine kd' ?_|refine ka' ?_ _));exact BK111.out) hb);have n2_:=am' (below_step (by repeat (first|(with_reducible first|exact HB.out|apply ba'|apply bd'|apply be'|refine bs' ?_ GE110.out|refine bs' ?_ GE111.out)|exact HB.out)) hb);have n3_:=am' (hbox);have n4_:=am' ((by rw[hg];exact (below_size (by repeat (first|(with_reducible first|exact HB.out|apply ba'|apply bd'|apply be'|refine bs' ?_ GE110.out|refine bs' ?_ GE111.out)|exact HB.out))):w.heap.size≤gb112));have n5_:=am' ((by rw[hg];exact (below_size (by repeat (first|(with_reducible first|exact HB.out|apply ba'|apply bd'|apply be'|refine bs' ?_ GE110.out|refine bs' ?_ GE111.out)|exact HB.out))):w.heap.size≤gb112));have n6_:=am' ((by rw[hg];exact Nat.ne_of_lt (blk_lt (g:=gb110) (o := .cells #[.int .i64 a0_0, .int .i64 a0_1] 37 (0,0)) (by (with_reducible repeat (first|refine kn' ?_ _|refine kd' ?_|refine ka' ?_ _));exact BK110.out)):gb110≠gb112));have n7_:=am' ((by rw[hg];exact Nat.ne_of_gt (blk_lt (g:=gb110) (o := .cells #[.int .i64 a0_0, .int .i64 a0_1] 37 (0,0)) (by (with_reducible repeat (first|refine kn' ?_ _|refine kd' ?_|refine ka' ?_ _));exact BK110.out)):gb112≠gb110));have n8_:=am' ((by rw[hg];exact Nat.ne_of_lt (blk_lt (g:=gb111) (o := .cells #[.int .i64 0, .int .i64 0] 40 (0,0)) (by (with_reducible repeat (first|refine kn' ?_ _|refine kd' ?_|refine ka' ?_ _));exact BK111.out)):gb111≠gb112));have n9_:=am' ((by rw[hg];exact Nat.ne_of_gt (blk_lt (g:=gb111) (o := .cells #[.int .i64 0, .int .i64 0] 40 (0,0)) (by (with_reducible repeat (first|refine kn' ?_ _|refine kd' ?_|refine ka' ?_ _));exact BK111.out)):gb112≠gb111));clear BK110;clear BK111;clear HB;have BK110:=n0_;have BK111:=n1_;have HB:=n2_;have BK112:=n3_;have GW112:=n4_;have GE112:=n5_;have NB110_112:=n6_;have NB112_110:=n7_;have NB111_112:=n8_;have NB112_111:=n9_;clear n0_ n1_ n2_ n3_ n4_ n5_ n6_ n7_ n8_ n9_;clear hb hbox hg;have hnb5:=NB110_111.out;have hnc5:=NB111_110.out;have hnb6:=NB110_112.out;have hnc6:=NB112_110.out;have hcz7_0:w4.cell? ⟨gb110,0,none⟩=some (.int .i64 a0_0):=(blk_cell BK110.out 0).trans rfl;have hcz7_1:w4.cell? ⟨gb110,1,none⟩=some (.int .i64 a0_1):=(blk_cell BK110.out 1).trans rfl;have hfz7_0:=blk_frozen BK110.out 0;have hfz7_1:=blk_frozen BK110.out 1;have hnb8:=NB112_111.out;have hnc8:=NB111_112.out;have hcz9_0:w4.cell? ⟨gb112,0,none⟩=some (.int .i64 0):=(blk_cell BK112.out 0).trans rfl;have hcz9_1:w4.cell? ⟨gb112,1,none⟩=some (.int .i64 0):=(blk_cell BK112.out 1).trans rfl;have hfz9_0:=blk_frozen BK112.out 0;have hfz9_1:=blk_frozen BK112.out 1;have hcz10_0:w4.cell? ⟨gb111,0,none⟩=some (.int .i64 0):=(blk_cell BK111.out 0).trans rfl;have hcz10_1:w4.cell? ⟨gb111,1,none⟩=some (.int .i64 0):=(blk_cell BK111.out 1).trans rfl;have hfz10_0:=blk_frozen BK111.out 0;have hfz10_1:=blk_frozen BK111.out 1))
 refine bodyPost_ret (results_cell_row rfl _ _ gb111 40 #[.int .i64 a0_0, .int .i64 a0_1] (0,0) _ rfl (by (with_reducible repeat (first|refine kn' ?_ _|refine kd' ?_|refine ka' ?_ _));refine blk_put (cs:=#[.int .i64 a0_0, .int .i64 0]) ?_ 1 _ rfl;(with_reducible repeat (first|refine kn' ?_ _|refine kd' ?_|refine ka' ?_ _));refine blk_put (cs:=#[.int .i64 0, .int .i64 0]) ?_ 0 _ rfl;(with_reducible repeat (first|refine kn' ?_ _|refine kd' ?_|refine ka' ?_ _));refine blk_far ?_ NB111_112.out _;(with_reducible repeat (first|refine kn' ?_ _|refine kd' ?_|refine ka' ?_ _));refine blk_far ?_ NB111_112.out _;(with_reducible repeat (first|refine kn' ?_ _|refine kd' ?_|refine ka' ?_ _));exact BK111.out) Try.underlying40 rfl (by kernel_rfl)) rfl ?_
 exact ⟨by first|rfl|(simp[errW_none,errW_some] <;> rfl)|(simp[*,errW_none,errW_some] <;> rfl),by repeat (first|(with_reducible first|exact HB.out|apply ba'|apply bd'|apply be'|refine bs' ?_ GE110.out|refine bs' ?_ GE111.out|refine bs' ?_ GE112.out)|exact HB.out)⟩
def spec_l1In.f (a0:Int) (a1:Int) (a2:Int):Option (Bool):=if a0 ≥ a1 then (some (decide (a0≤a2))) else (some false)
set_option maxHeartbeats 8000000 in
set_option maxRecDepth 100000 in
theorem spec_l1In.calls (a0:Int) (a1:Int) (a2:Int) (r:Bool) (w:World) (h:spec_l1In.f a0 a1 a2=some r) :
  Calls Try.prog 61 #[.int .i64 a0, .int .i64 a1, .int .i64 a2] w fun e w'=>e = .returned (.bool r)∧Drawn0 w w':=by
 have H:(if a0 ≥ a1 then (some (decide (a0≤a2))) else (some false))=some r:=h
 clear h;by_cases c4:a0 ≥ a1
 ·
  rw[if_pos c4] at H;have c4b0:decide (a1≤a0)=true:=decide_eq_true c4;clear c4;obtain rfl:=Option.some.inj H;go_enter Try.func61,Try.ntmps61;go_wp2;go_ret
  exact ⟨by first|rfl|(simp;done)|(simp[*];done),by repeat (first|exact Drawn0.refl _|apply Drawn0.step)⟩
 ·
  rw[if_neg c4] at H;have c4b0:decide (a1≤a0)=false:=decide_eq_false c4;clear c4;obtain rfl:=Option.some.inj H;go_enter Try.func61,Try.ntmps61;go_wp2;go_ret
  exact ⟨by first|rfl|(simp;done)|(simp[*];done),by repeat (first|exact Drawn0.refl _|apply Drawn0.step)⟩
def spec_cuGood.f (a0_0:Int) (a0_1:Int):Option (Bool):=(spec_l1In.f a0_0 1 4).bind fun t114=>(if t114=true then ((spec_l1In.f a0_1 1 4).bind fun t115=>(some t115)) else (some false))
set_option maxHeartbeats 8000000 in
set_option maxRecDepth 100000 in
theorem spec_cuGood.calls (a0_0:Int) (a0_1:Int) (r:Bool) (w:World) (h:spec_cuGood.f a0_0 a0_1=some r) :
  Calls Try.prog 75 #[.agg #[.int .i64 a0_0, .int .i64 a0_1]] w fun e w'=>e = .returned (.bool r)∧Below w.heap.size w w':=by
 have hu40:=Try.underlying40
 have HB:=am' (Below.refl w.heap.size w)
 have H:((spec_l1In.f a0_0 1 4).bind fun t114=>(if t114=true then ((spec_l1In.f a0_1 1 4).bind fun t115=>(some t115)) else (some false)))=some r:=h
 clear h;replace H:=Option.bind_eq_some_iff.mp H
 obtain ⟨t114,A20,H⟩:=H
 replace H:(if t114=true then ((spec_l1In.f a0_1 1 4).bind fun t115=>(some t115)) else (some false))=some r:=H
 have A2:=am' A20
 clear A20;by_cases c3:t114=true
 ·
  subst c3;have H1:((spec_l1In.f a0_1 1 4).bind fun t115=>(some t115))=some r:=by rw[if_pos rfl] at H;exact H
  clear H;have H:=H1;clear H1;replace H:=Option.bind_eq_some_iff.mp H;obtain ⟨t115,A40,H⟩:=H;replace H:(some t115)=some r:=H;have A4:=am' A40;clear A40;obtain rfl:=Option.some.inj H;go_enter Try.func75,Try.ntmps75;go_wp2_with (first|((with_reducible refine gate_dst (N:=1) rfl ?_);refine box_event ?hg (N:=1) ?hd (cs:=#[.int .i64 a0_0, .int .i64 a0_1]) (t:=40) ?hr ?_;(case hd=>rfl);(case hg=>rfl);(case hr=>first|(go_simp;done)|(go_simp;rfl));intro gb113 hg w5 hbox hb;have n0_:=am' (below_step (by repeat (first|(with_reducible first|exact HB.out|apply ba'|apply bd'|apply be')|exact HB.out)) hb);have n1_:=am' (hbox);have n2_:=am' ((by rw[hg];exact (below_size (by repeat (first|(with_reducible first|exact HB.out|apply ba'|apply bd'|apply be')|exact HB.out))):w.heap.size≤gb113));have n3_:=am' ((by rw[hg];exact (below_size (by repeat (first|(with_reducible first|exact HB.out|apply ba'|apply bd'|apply be')|exact HB.out))):w.heap.size≤gb113));clear HB;have HB:=n0_;have BK113:=n1_;have GW113:=n2_;have GE113:=n3_;clear n0_ n1_ n2_ n3_;clear hb hbox hg;have hcz6_0:w5.cell? ⟨gb113,0,none⟩=some (.int .i64 a0_0):=(blk_cell BK113.out 0).trans rfl;have hcz6_1:w5.cell? ⟨gb113,1,none⟩=some (.int .i64 a0_1):=(blk_cell BK113.out 1).trans rfl;have hfz6_0:=blk_frozen BK113.out 0;have hfz6_1:=blk_frozen BK113.out 1)|((with_reducible refine gate_callee (f:=61) rfl ?_);refine goesL_ (some 5) rfl rfl Try.func61 (by kernel_rfl) rfl #[.int .i64 a0_0, .int .i64 1, .int .i64 4] rfl (by (try simp only[List.map_toArray,List.map_cons,List.map_nil]);first|done|rfl|(simp only[List.length_drop,List.length_take];rfl)) ?_;(with_reducible refine (spec_l1In.calls a0_0 1 4 true _ A2.out).mono ?_);rintro e w' ⟨rfl,⟨nd,rfl⟩⟩;refine ⟨_,rfl,?_⟩)|(go_at_call 61;(with_reducible refine (spec_l1In.calls a0_1 1 4 t115 _ A4.out).mono ?_);rintro e w' ⟨rfl,⟨nd,rfl⟩⟩));go_ret
  exact ⟨by first|rfl|(simp[errW_none,errW_some] <;> rfl)|(simp[*,errW_none,errW_some] <;> rfl),by repeat (first|(with_reducible first|exact HB.out|apply ba'|apply bd'|apply be'|refine bs' ?_ GE113.out)|exact HB.out)⟩
 ·
  replace c3:=Bool.eq_false_iff.mpr c3;subst c3;have H1:(some false)=some r:=by rw[if_neg (show ¬ (false=true) by decide)] at H;exact H
  clear H;have H:=H1;clear H1;obtain rfl:=Option.some.inj H;go_enter Try.func75,Try.ntmps75;go_wp2_with (first|((with_reducible refine gate_dst (N:=1) rfl ?_);refine box_event ?hg (N:=1) ?hd (cs:=#[.int .i64 a0_0, .int .i64 a0_1]) (t:=40) ?hr ?_;(case hd=>rfl);(case hg=>rfl);(case hr=>first|(go_simp;done)|(go_simp;rfl));intro gb113 hg w7 hbox hb;have n0_:=am' (below_step (by repeat (first|(with_reducible first|exact HB.out|apply ba'|apply bd'|apply be')|exact HB.out)) hb);have n1_:=am' (hbox);have n2_:=am' ((by rw[hg];exact (below_size (by repeat (first|(with_reducible first|exact HB.out|apply ba'|apply bd'|apply be')|exact HB.out))):w.heap.size≤gb113));have n3_:=am' ((by rw[hg];exact (below_size (by repeat (first|(with_reducible first|exact HB.out|apply ba'|apply bd'|apply be')|exact HB.out))):w.heap.size≤gb113));clear HB;have HB:=n0_;have BK113:=n1_;have GW113:=n2_;have GE113:=n3_;clear n0_ n1_ n2_ n3_;clear hb hbox hg;have hcz8_0:w7.cell? ⟨gb113,0,none⟩=some (.int .i64 a0_0):=(blk_cell BK113.out 0).trans rfl;have hcz8_1:w7.cell? ⟨gb113,1,none⟩=some (.int .i64 a0_1):=(blk_cell BK113.out 1).trans rfl;have hfz8_0:=blk_frozen BK113.out 0;have hfz8_1:=blk_frozen BK113.out 1)|((with_reducible refine gate_callee (f:=61) rfl ?_);refine goesL_ (some 5) rfl rfl Try.func61 (by kernel_rfl) rfl #[.int .i64 a0_0, .int .i64 1, .int .i64 4] rfl (by (try simp only[List.map_toArray,List.map_cons,List.map_nil]);first|done|rfl|(simp only[List.length_drop,List.length_take];rfl)) ?_;(with_reducible refine (spec_l1In.calls a0_0 1 4 false _ A2.out).mono ?_);rintro e w' ⟨rfl,⟨nd,rfl⟩⟩;refine ⟨_,rfl,?_⟩));go_ret
  exact ⟨by first|rfl|(simp[errW_none,errW_some] <;> rfl)|(simp[*,errW_none,errW_some] <;> rfl),by repeat (first|(with_reducible first|exact HB.out|apply ba'|apply bd'|apply be'|refine bs' ?_ GE113.out)|exact HB.out)⟩
end Go.Proofs.Ytibdeohiimjocaa.C19
