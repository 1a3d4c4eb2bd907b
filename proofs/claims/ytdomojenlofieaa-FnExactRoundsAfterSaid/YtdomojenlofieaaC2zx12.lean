import Derived.Test.YtdomojenlofieaaC2zx0
import Derived.Test.YtdomojenlofieaaC2zx11
import Derived.Test.YtdomojenlofieaaC2zAl
namespace Go.Proofs.Ytdomojenlofieaa.C2
open Go.RowKit Go.Proofs.YtdomojenlofieaaW.PrintWords Go.Proofs.YtdomojenlofieaaW.PrintLast Go.Proofs.YtdomojenlofieaaW.PrintMore Go.Proofs.Ytdomojenlofieaa.H
attribute [local go_sem] max2_int min2_int max_two min_two max_three min_three max_four min_four
set_option linter.unusedVariables false
set_option linter.unusedSimpArgs false
def laws_eqIntSS.l0:Nat→List (List Int)→List (List Int)→Int→Option (Bool)
 | 0,_,_,_=>none
 | k+1,x0,x1,x5=>if x5 < (x0.length:Int) then (if 0≤x5 then (if x5 < (x1.length:Int) then ((laws_eqIntS.f k (rd_L2 x0 x5) (rd_L2 x1 x5)).bind fun t310=>(if t310=true then (laws_eqIntSS.l0 k x0 x1 (wrap64 (x5+1))) else (some false))) else (none)) else (none)) else (some true)
def laws_eqIntSS.f (k:Nat) (l0:List (List Int)) (l1:List (List Int)):Option (Bool):=if (l0.length:Int)=(l1.length:Int) then (laws_eqIntSS.l0 k l0 l1 0) else (some false)
set_option maxHeartbeats 8000000 in
set_option maxRecDepth 100000 in
theorem laws_eqIntSS.calls (k:Nat) (A0:Option Addr) (c0:Nat) (l0:List (List Int)) (A1:Option Addr) (c1:Nat) (l1:List (List Int)) (r:Bool) (w:World) (hr0:Kd.C (Kd.slice 3 (Kd.int .i64)) w A0 l0.length l0) (hc0:l0.length≤c0) (hr1:Kd.C (Kd.slice 3 (Kd.int .i64)) w A1 l1.length l1) (hc1:l1.length≤c1) (h:laws_eqIntSS.f k l0 l1=some r) :
  Calls Try.prog 26 #[.slice A0 l0.length c0, .slice A1 l1.length c1] w fun e w'=>e = .returned (.bool r)∧Drawn0 w w':=by
 have HR0:=am' hr0
 have HC0:=am' hc0
 clear hr0 hc0;have HR1:=am' hr1
 have HC1:=am' hc1
 clear hr1 hc1;have H:(if (l0.length:Int)=(l1.length:Int) then (laws_eqIntSS.l0 k l0 l1 0) else (some false))=some r:=h
 clear h;by_cases c3:(l0.length:Int)=(l1.length:Int)
 ·
  rw[if_pos c3] at H;have c3b0:((l0.length:Int) == (l1.length:Int))=true:=beq_iff_eq.mpr c3;have c3b1:((l0.length:Int) != (l1.length:Int))=false:=bne_eq_false_iff_eq.mpr c3;have c3b2:(l0.length == l1.length)=true:=by first|simpa using c3|(simp at c3 ⊢;omega)
  clear c3;have H':=am' H;clear H;go_enter Try.func26,Try.ntmps26;go_wp2
  repeat (go_quiet (fail);try go_wp2)
  go_loopg [5] k (fun kq v5 w'=>∃ (x5_1:Int),v5 = .int .i64 x5_1∧Aside0 (laws_eqIntSS.l0 kq l0 l1 x5_1=some r)∧Aside0 (kq≤k)∧Drawn0 w w')
  case atStart=>exact ⟨(0),xs',H',⟨Nat.le_refl _⟩,by repeat (first|exact Drawn0.refl _|apply Drawn0.step)⟩
  case round =>
   clear H';try clear c1
   try clear c2
   try clear p2
   try clear c3
   try clear c3b0
   try clear c3b1
   try clear c3b2
   obtain ⟨x5_1,rfl,HA,HK1,⟨m1,rfl⟩⟩:=hrel;cases gk with
   | zero=>exact absurd HA.out (by simp[laws_eqIntSS.l0])
   | succ k1 =>
    have H:=HA.out;clear HA;simp only[laws_eqIntSS.l0] at H;by_cases c4:x5_1 < (l0.length:Int)
    ·
     rw[if_pos c4] at H;have c4b0:decide (x5_1 < (l0.length:Int))=true:=dt' c4;clear c4;by_cases c5:0≤x5_1
     ·
      rw[if_pos c5] at H;have c5b0:decide (0≤x5_1)=true:=dt' c5;clear c5;by_cases c6:x5_1 < (l1.length:Int)
      ·
       rw[if_pos c6] at H;have c6b0:decide (x5_1 < (l1.length:Int))=true:=dt' c6;clear c6;replace H:=Option.bind_eq_some_iff.mp H;obtain ⟨t310,A70,H⟩:=H;replace H:(if t310=true then (laws_eqIntSS.l0 k1 l0 l1 (wrap64 (x5_1+1))) else (some false))=some r:=H;have A7:=am' A70;clear A70;by_cases c8:t310=true
       ·
        subst c8;have H1:(laws_eqIntSS.l0 k1 l0 l1 (wrap64 (x5_1+1)))=some r:=by rw[if_pos rfl] at H;exact H
        clear H;have H:=H1;clear H1;have H':=am' H;clear H;have p308:0≤(x5_1:Int):=od' xa';have q308:x5_1 < (l0.length:Int):=od' xa';obtain ⟨ad308,A308_0,c308_0,e308,hx308_0,hl308_0,hi308_0⟩:=at_L2 HR0.out x5_1 p308 q308;cases e308;have HR308_0:=am' hi308_0;have HC308_0:=am' hl308_0;clear hi308_0 hl308_0;replace p308:=eq_true p308;replace q308:=eq_true q308;have p309:0≤(x5_1:Int):=od' xa';have q309:x5_1 < (l1.length:Int):=od' xa';obtain ⟨ad309,A309_0,c309_0,e309,hx309_0,hl309_0,hi309_0⟩:=at_L2 HR1.out x5_1 p309 q309;cases e309;have HR309_0:=am' hi309_0;have HC309_0:=am' hl309_0;clear hi309_0 hl309_0;replace p309:=eq_true p309;replace q309:=eq_true q309;go_wp2_with (first|(go_at_call 40;(with_reducible refine (laws_eqIntS.calls k1 _ _ (rd_L2 l0 x5_1) _ _ (rd_L2 l1 x5_1) true _ ?side1 ?side2 ?side3 ?side4 A7.out).mono ?_);(case side1=>repeat (first|exact HR308_0.out|(with_reducible refine ca' ?_ _)|(with_reducible refine cn' ?_ _)|(with_reducible refine cd' ?_)));(case side2=>exact HC308_0.out);(case side3=>repeat (first|exact HR309_0.out|(with_reducible refine ca' ?_ _)|(with_reducible refine cn' ?_ _)|(with_reducible refine cd' ?_)));(case side4=>exact HC309_0.out);rintro e w' ⟨rfl,⟨nd,rfl⟩⟩;(try first|exact ⟨rfl,_,World.drewN_drewN _ _ _⟩|exact ⟨rfl,_,Eq.trans (World.drewN_drewN _ _ _) (congrArg (World.drewN _) (Nat.add_assoc _ _ _))⟩)))
        repeat (go_quiet (first|(go_at_call 40;(with_reducible refine (laws_eqIntS.calls k1 _ _ (rd_L2 l0 x5_1) _ _ (rd_L2 l1 x5_1) true _ ?side1 ?side2 ?side3 ?side4 A7.out).mono ?_);(case side1=>repeat (first|exact HR308_0.out|(with_reducible refine ca' ?_ _)|(with_reducible refine cn' ?_ _)|(with_reducible refine cd' ?_)));(case side2=>exact HC308_0.out);(case side3=>repeat (first|exact HR309_0.out|(with_reducible refine ca' ?_ _)|(with_reducible refine cn' ?_ _)|(with_reducible refine cd' ?_)));(case side4=>exact HC309_0.out);rintro e w' ⟨rfl,⟨nd,rfl⟩⟩;(try first|exact ⟨rfl,_,World.drewN_drewN _ _ _⟩|exact ⟨rfl,_,Eq.trans (World.drewN_drewN _ _ _) (congrArg (World.drewN _) (Nat.add_assoc _ _ _))⟩)));try go_wp2_with (first|(go_at_call 40;(with_reducible refine (laws_eqIntS.calls k1 _ _ (rd_L2 l0 x5_1) _ _ (rd_L2 l1 x5_1) true _ ?side1 ?side2 ?side3 ?side4 A7.out).mono ?_);(case side1=>repeat (first|exact HR308_0.out|(with_reducible refine ca' ?_ _)|(with_reducible refine cn' ?_ _)|(with_reducible refine cd' ?_)));(case side2=>exact HC308_0.out);(case side3=>repeat (first|exact HR309_0.out|(with_reducible refine ca' ?_ _)|(with_reducible refine cn' ?_ _)|(with_reducible refine cd' ?_)));(case side4=>exact HC309_0.out);rintro e w' ⟨rfl,⟨nd,rfl⟩⟩;(try first|exact ⟨rfl,_,World.drewN_drewN _ _ _⟩|exact ⟨rfl,_,Eq.trans (World.drewN_drewN _ _ _) (congrArg (World.drewN _) (Nat.add_assoc _ _ _))⟩))))
        go_roundg k1
        case measure=>have:=HK1.out;omega
        case rel=>exact ⟨(wrap64 (x5_1+1)),xs',H',⟨by have:=HK1.out;omega⟩,by repeat (first|exact Drawn0.refl _|apply Drawn0.step)⟩
       ·
        replace c8:=Bool.eq_false_iff.mpr c8;subst c8;have H1:(some false)=some r:=by rw[if_neg (show ¬ (false=true) by decide)] at H;exact H
        clear H;have H:=H1;clear H1;obtain rfl:=os' H;have p308:0≤(x5_1:Int):=od' xa';have q308:x5_1 < (l0.length:Int):=od' xa';obtain ⟨ad308,A308_0,c308_0,e308,hx308_0,hl308_0,hi308_0⟩:=at_L2 HR0.out x5_1 p308 q308;cases e308;have HR308_0:=am' hi308_0;have HC308_0:=am' hl308_0;clear hi308_0 hl308_0;replace p308:=eq_true p308;replace q308:=eq_true q308;have p309:0≤(x5_1:Int):=od' xa';have q309:x5_1 < (l1.length:Int):=od' xa';obtain ⟨ad309,A309_0,c309_0,e309,hx309_0,hl309_0,hi309_0⟩:=at_L2 HR1.out x5_1 p309 q309;cases e309;have HR309_0:=am' hi309_0;have HC309_0:=am' hl309_0;clear hi309_0 hl309_0;replace p309:=eq_true p309;replace q309:=eq_true q309;go_wp2_with (first|(go_at_call 40;(with_reducible refine (laws_eqIntS.calls k1 _ _ (rd_L2 l0 x5_1) _ _ (rd_L2 l1 x5_1) false _ ?side1 ?side2 ?side3 ?side4 A7.out).mono ?_);(case side1=>repeat (first|exact HR308_0.out|(with_reducible refine ca' ?_ _)|(with_reducible refine cn' ?_ _)|(with_reducible refine cd' ?_)));(case side2=>exact HC308_0.out);(case side3=>repeat (first|exact HR309_0.out|(with_reducible refine ca' ?_ _)|(with_reducible refine cn' ?_ _)|(with_reducible refine cd' ?_)));(case side4=>exact HC309_0.out);rintro e w' ⟨rfl,⟨nd,rfl⟩⟩;(try first|exact ⟨rfl,_,World.drewN_drewN _ _ _⟩|exact ⟨rfl,_,Eq.trans (World.drewN_drewN _ _ _) (congrArg (World.drewN _) (Nat.add_assoc _ _ _))⟩)))
        repeat (go_quiet (first|(go_at_call 40;(with_reducible refine (laws_eqIntS.calls k1 _ _ (rd_L2 l0 x5_1) _ _ (rd_L2 l1 x5_1) false _ ?side1 ?side2 ?side3 ?side4 A7.out).mono ?_);(case side1=>repeat (first|exact HR308_0.out|(with_reducible refine ca' ?_ _)|(with_reducible refine cn' ?_ _)|(with_reducible refine cd' ?_)));(case side2=>exact HC308_0.out);(case side3=>repeat (first|exact HR309_0.out|(with_reducible refine ca' ?_ _)|(with_reducible refine cn' ?_ _)|(with_reducible refine cd' ?_)));(case side4=>exact HC309_0.out);rintro e w' ⟨rfl,⟨nd,rfl⟩⟩;(try first|exact ⟨rfl,_,World.drewN_drewN _ _ _⟩|exact ⟨rfl,_,Eq.trans (World.drewN_drewN _ _ _) (congrArg (World.drewN _) (Nat.add_assoc _ _ _))⟩)));try go_wp2_with (first|(go_at_call 40;(with_reducible refine (laws_eqIntS.calls k1 _ _ (rd_L2 l0 x5_1) _ _ (rd_L2 l1 x5_1) false _ ?side1 ?side2 ?side3 ?side4 A7.out).mono ?_);(case side1=>repeat (first|exact HR308_0.out|(with_reducible refine ca' ?_ _)|(with_reducible refine cn' ?_ _)|(with_reducible refine cd' ?_)));(case side2=>exact HC308_0.out);(case side3=>repeat (first|exact HR309_0.out|(with_reducible refine ca' ?_ _)|(with_reducible refine cn' ?_ _)|(with_reducible refine cd' ?_)));(case side4=>exact HC309_0.out);rintro e w' ⟨rfl,⟨nd,rfl⟩⟩;(try first|exact ⟨rfl,_,World.drewN_drewN _ _ _⟩|exact ⟨rfl,_,Eq.trans (World.drewN_drewN _ _ _) (congrArg (World.drewN _) (Nat.add_assoc _ _ _))⟩))))
        go_ret
        exact ⟨xs',by repeat (first|exact Drawn0.refl _|apply Drawn0.step)⟩
      ·
       rw[if_neg c6] at H;exact absurd H (by simp)
     ·
      rw[if_neg c5] at H;exact absurd H (by simp)
    ·
     rw[if_neg c4] at H;have c4b0:decide (x5_1 < (l0.length:Int))=false:=df' c4;clear c4;obtain rfl:=os' H;go_wp2
     repeat (go_quiet (fail);try go_wp2)
     go_ret
     exact ⟨xs',by repeat (first|exact Drawn0.refl _|apply Drawn0.step)⟩
 ·
  rw[if_neg c3] at H;have c3b0:((l0.length:Int) == (l1.length:Int))=false:=beq_eq_false_iff_ne.mpr c3;have c3b1:((l0.length:Int) != (l1.length:Int))=true:=bne_iff_ne.mpr c3;have c3b2:(l0.length == l1.length)=false:=by first|simpa using c3|(simp at c3 ⊢;omega)
  obtain rfl:=os' H;go_enter Try.func26,Try.ntmps26;go_wp2
  repeat (go_quiet (fail);try go_wp2)
  go_ret
  exact ⟨xs',by repeat (first|exact Drawn0.refl _|apply Drawn0.step)⟩
def laws_eqIntSSS.l0:Nat→List (List (List Int))→List (List (List Int))→Int→Option (Bool)
 | 0,_,_,_=>none
 | k+1,x0,x1,x5=>if x5 < (x0.length:Int) then (if 0≤x5 then (if x5 < (x1.length:Int) then ((laws_eqIntSS.f k (rd_L3 x0 x5) (rd_L3 x1 x5)).bind fun t313=>(if t313=true then (laws_eqIntSSS.l0 k x0 x1 (wrap64 (x5+1))) else (some false))) else (none)) else (none)) else (some true)
def laws_eqIntSSS.f (k:Nat) (l0:List (List (List Int))) (l1:List (List (List Int))):Option (Bool):=if (l0.length:Int)=(l1.length:Int) then (laws_eqIntSSS.l0 k l0 l1 0) else (some false)
set_option maxHeartbeats 8000000 in
set_option maxRecDepth 100000 in
theorem laws_eqIntSSS.calls (k:Nat) (A0:Option Addr) (c0:Nat) (l0:List (List (List Int))) (A1:Option Addr) (c1:Nat) (l1:List (List (List Int))) (r:Bool) (w:World) (hr0:Kd.C (Kd.slice 22 (Kd.slice 3 (Kd.int .i64))) w A0 l0.length l0) (hc0:l0.length≤c0) (hr1:Kd.C (Kd.slice 22 (Kd.slice 3 (Kd.int .i64))) w A1 l1.length l1) (hc1:l1.length≤c1) (h:laws_eqIntSSS.f k l0 l1=some r) :
  Calls Try.prog 15 #[.slice A0 l0.length c0, .slice A1 l1.length c1] w fun e w'=>e = .returned (.bool r)∧Drawn0 w w':=by
 have HR0:=am' hr0
 have HC0:=am' hc0
 clear hr0 hc0;have HR1:=am' hr1
 have HC1:=am' hc1
 clear hr1 hc1;have H:(if (l0.length:Int)=(l1.length:Int) then (laws_eqIntSSS.l0 k l0 l1 0) else (some false))=some r:=h
 clear h;by_cases c3:(l0.length:Int)=(l1.length:Int)
 ·
  rw[if_pos c3] at H;have c3b0:((l0.length:Int) == (l1.length:Int))=true:=beq_iff_eq.mpr c3;have c3b1:((l0.length:Int) != (l1.length:Int))=false:=bne_eq_false_iff_eq.mpr c3;have c3b2:(l0.length == l1.length)=true:=by first|simpa using c3|(simp at c3 ⊢;omega)
  clear c3;have H':=am' H;clear H;go_enter Try.func15,Try.ntmps15;go_wp2
  repeat (go_quiet (fail);try go_wp2)
  go_loopg [5] k (fun kq v5 w'=>∃ (x5_1:Int),v5 = .int .i64 x5_1∧Aside0 (laws_eqIntSSS.l0 kq l0 l1 x5_1=some r)∧Aside0 (kq≤k)∧Drawn0 w w')
  case atStart=>exact ⟨(0),xs',H',⟨Nat.le_refl _⟩,by repeat (first|exact Drawn0.refl _|apply Drawn0.step)⟩
  case round =>
   clear H';try clear c1
   try clear p2
   try clear c3
   try clear c3b0
   try clear c3b1
   try clear c3b2
   obtain ⟨x5_1,rfl,HA,HK1,⟨m1,rfl⟩⟩:=hrel;cases gk with
   | zero=>exact absurd HA.out (by simp[laws_eqIntSSS.l0])
   | succ k1 =>
    have H:=HA.out;clear HA;simp only[laws_eqIntSSS.l0] at H;by_cases c4:x5_1 < (l0.length:Int)
    ·
     rw[if_pos c4] at H;have c4b0:decide (x5_1 < (l0.length:Int))=true:=dt' c4;clear c4;by_cases c5:0≤x5_1
     ·
      rw[if_pos c5] at H;have c5b0:decide (0≤x5_1)=true:=dt' c5;clear c5;by_cases c6:x5_1 < (l1.length:Int)
      ·
       rw[if_pos c6] at H;have c6b0:decide (x5_1 < (l1.length:Int))=true:=dt' c6;clear c6;replace H:=Option.bind_eq_some_iff.mp H;obtain ⟨t313,A70,H⟩:=H;replace H:(if t313=true then (laws_eqIntSSS.l0 k1 l0 l1 (wrap64 (x5_1+1))) else (some false))=some r:=H;have A7:=am' A70;clear A70;by_cases c8:t313=true
       ·
        subst c8;have H1:(laws_eqIntSSS.l0 k1 l0 l1 (wrap64 (x5_1+1)))=some r:=by rw[if_pos rfl] at H;exact H
        clear H;have H:=H1;clear H1;have H':=am' H;clear H;have p311:0≤(x5_1:Int):=od' xa';have q311:x5_1 < (l0.length:Int):=od' xa';obtain ⟨ad311,A311_0,c311_0,e311,hx311_0,hl311_0,hi311_0⟩:=at_L3 HR0.out x5_1 p311 q311;cases e311;have HR311_0:=am' hi311_0;have HC311_0:=am' hl311_0;clear hi311_0 hl311_0;replace p311:=eq_true p311;replace q311:=eq_true q311;have p312:0≤(x5_1:Int):=od' xa';have q312:x5_1 < (l1.length:Int):=od' xa';obtain ⟨ad312,A312_0,c312_0,e312,hx312_0,hl312_0,hi312_0⟩:=at_L3 HR1.out x5_1 p312 q312;cases e312;have HR312_0:=am' hi312_0;have HC312_0:=am' hl312_0;clear hi312_0 hl312_0;replace p312:=eq_true p312;replace q312:=eq_true q312;go_wp2_with (first|(go_at_call 26;(with_reducible refine (laws_eqIntSS.calls k1 _ _ (rd_L3 l0 x5_1) _ _ (rd_L3 l1 x5_1) true _ ?side1 ?side2 ?side3 ?side4 A7.out).mono ?_);(case side1=>repeat (first|exact HR311_0.out|(with_reducible refine ca' ?_ _)|(with_reducible refine cn' ?_ _)|(with_reducible refine cd' ?_)));(case side2=>exact HC311_0.out);(case side3=>repeat (first|exact HR312_0.out|(with_reducible refine ca' ?_ _)|(with_reducible refine cn' ?_ _)|(with_reducible refine cd' ?_)));(case side4=>exact HC312_0.out);rintro e w' ⟨rfl,⟨nd,rfl⟩⟩;(try first|exact ⟨rfl,_,World.drewN_drewN _ _ _⟩|exact ⟨rfl,_,Eq.trans (World.drewN_drewN _ _ _) (congrArg (World.drewN _) (Nat.add_assoc _ _ _))⟩)))
        repeat (go_quiet (first|(go_at_call 26;(with_reducible refine (laws_eqIntSS.calls k1 _ _ (rd_L3 l0 x5_1) _ _ (rd_L3 l1 x5_1) true _ ?side1 ?side2 ?side3 ?side4 A7.out).mono ?_);(case side1=>repeat (first|exact HR311_0.out|(with_reducible refine ca' ?_ _)|(with_reducible refine cn' ?_ _)|(with_reducible refine cd' ?_)));(case side2=>exact HC311_0.out);(case side3=>repeat (first|exact HR312_0.out|(with_reducible refine ca' ?_ _)|(with_reducible refine cn' ?_ _)|(with_reducible refine cd' ?_)));(case side4=>exact HC312_0.out);rintro e w' ⟨rfl,⟨nd,rfl⟩⟩;(try first|exact ⟨rfl,_,World.drewN_drewN _ _ _⟩|exact ⟨rfl,_,Eq.trans (World.drewN_drewN _ _ _) (congrArg (World.drewN _) (Nat.add_assoc _ _ _))⟩)));try go_wp2_with (first|(go_at_call 26;(with_reducible refine (laws_eqIntSS.calls k1 _ _ (rd_L3 l0 x5_1) _ _ (rd_L3 l1 x5_1) true _ ?side1 ?side2 ?side3 ?side4 A7.out).mono ?_);(case side1=>repeat (first|exact HR311_0.out|(with_reducible refine ca' ?_ _)|(with_reducible refine cn' ?_ _)|(with_reducible refine cd' ?_)));(case side2=>exact HC311_0.out);(case side3=>repeat (first|exact HR312_0.out|(with_reducible refine ca' ?_ _)|(with_reducible refine cn' ?_ _)|(with_reducible refine cd' ?_)));(case side4=>exact HC312_0.out);rintro e w' ⟨rfl,⟨nd,rfl⟩⟩;(try first|exact ⟨rfl,_,World.drewN_drewN _ _ _⟩|exact ⟨rfl,_,Eq.trans (World.drewN_drewN _ _ _) (congrArg (World.drewN _) (Nat.add_assoc _ _ _))⟩))))
        go_roundg k1
        case measure=>have:=HK1.out;omega
        case rel=>exact ⟨(wrap64 (x5_1+1)),xs',H',⟨by have:=HK1.out;omega⟩,by repeat (first|exact Drawn0.refl _|apply Drawn0.step)⟩
       ·
        replace c8:=Bool.eq_false_iff.mpr c8;subst c8;have H1:(some false)=some r:=by rw[if_neg (show ¬ (false=true) by decide)] at H;exact H
        clear H;have H:=H1;clear H1;obtain rfl:=os' H;have p311:0≤(x5_1:Int):=od' xa';have q311:x5_1 < (l0.length:Int):=od' xa';obtain ⟨ad311,A311_0,c311_0,e311,hx311_0,hl311_0,hi311_0⟩:=at_L3 HR0.out x5_1 p311 q311;cases e311;have HR311_0:=am' hi311_0;have HC311_0:=am' hl311_0;clear hi311_0 hl311_0;replace p311:=eq_true p311;replace q311:=eq_true q311;have p312:0≤(x5_1:Int):=od' xa';have q312:x5_1 < (l1.length:Int):=od' xa';obtain ⟨ad312,A312_0,c312_0,e312,hx312_0,hl312_0,hi312_0⟩:=at_L3 HR1.out x5_1 p312 q312;cases e312;have HR312_0:=am' hi312_0;have HC312_0:=am' hl312_0;clear hi312_0 hl312_0;replace p312:=eq_true p312;replace q312:=eq_true q312;go_wp2_with (first|(go_at_call 26;(with_reducible refine (laws_eqIntSS.calls k1 _ _ (rd_L3 l0 x5_1) _ _ (rd_L3 l1 x5_1) false _ ?side1 ?side2 ?side3 ?side4 A7.out).mono ?_);(case side1=>repeat (first|exact HR311_0.out|(with_reducible refine ca' ?_ _)|(with_reducible refine cn' ?_ _)|(with_reducible refine cd' ?_)));(case side2=>exact HC311_0.out);(case side3=>repeat (first|exact HR312_0.out|(with_reducible refine ca' ?_ _)|(with_reducible refine cn' ?_ _)|(with_reducible refine cd' ?_)));(case side4=>exact HC312_0.out);rintro e w' ⟨rfl,⟨nd,rfl⟩⟩;(try first|exact ⟨rfl,_,World.drewN_drewN _ _ _⟩|exact ⟨rfl,_,Eq.trans (World.drewN_drewN _ _ _) (congrArg (World.drewN _) (Nat.add_assoc _ _ _))⟩)))
        repeat (go_quiet (first|(go_at_call 26;(with_reducible refine (laws_eqIntSS.calls k1 _ _ (rd_L3 l0 x5_1) _ _ (rd_L3 l1 x5_1) false _ ?side1 ?side2 ?side3 ?side4 A7.out).mono ?_);(case side1=>repeat (first|exact HR311_0.out|(with_reducible refine ca' ?_ _)|(with_reducible refine cn' ?_ _)|(with_reducible refine cd' ?_)));(case side2=>exact HC311_0.out);(case side3=>repeat (first|exact HR312_0.out|(with_reducible refine ca' ?_ _)|(with_reducible refine cn' ?_ _)|(with_reducible refine cd' ?_)));(case side4=>exact HC312_0.out);rintro e w' ⟨rfl,⟨nd,rfl⟩⟩;(try first|exact ⟨rfl,_,World.drewN_drewN _ _ _⟩|exact ⟨rfl,_,Eq.trans (World.drewN_drewN _ _ _) (congrArg (World.drewN _) (Nat.add_assoc _ _ _))⟩)));try go_wp2_with (first|(go_at_call 26;(with_reducible refine (laws_eqIntSS.calls k1 _ _ (rd_L3 l0 x5_1) _ _ (rd_L3 l1 x5_1) false _ ?side1 ?side2 ?side3 ?side4 A7.out).mono ?_);(case side1=>repeat (first|exact HR311_0.out|(with_reducible refine ca' ?_ _)|(with_reducible refine cn' ?_ _)|(with_reducible refine cd' ?_)));(case side2=>exact HC311_0.out);(case side3=>repeat (first|exact HR312_0.out|(with_reducible refine ca' ?_ _)|(with_reducible refine cn' ?_ _)|(with_reducible refine cd' ?_)));(case side4=>exact HC312_0.out);rintro e w' ⟨rfl,⟨nd,rfl⟩⟩;(try first|exact ⟨rfl,_,World.drewN_drewN _ _ _⟩|exact ⟨rfl,_,Eq.trans (World.drewN_drewN _ _ _) (congrArg (World.drewN _) (Nat.add_assoc _ _ _))⟩))))
        go_ret
        exact ⟨xs',by repeat (first|exact Drawn0.refl _|apply Drawn0.step)⟩
      ·
       rw[if_neg c6] at H;exact absurd H (by simp)
     ·
      rw[if_neg c5] at H;exact absurd H (by simp)
    ·
     rw[if_neg c4] at H;have c4b0:decide (x5_1 < (l0.length:Int))=false:=df' c4;clear c4;obtain rfl:=os' H;go_wp2
     repeat (go_quiet (fail);try go_wp2)
     go_ret
     exact ⟨xs',by repeat (first|exact Drawn0.refl _|apply Drawn0.step)⟩
 ·
  rw[if_neg c3] at H;have c3b0:((l0.length:Int) == (l1.length:Int))=false:=beq_eq_false_iff_ne.mpr c3;have c3b1:((l0.length:Int) != (l1.length:Int))=true:=bne_iff_ne.mpr c3;have c3b2:(l0.length == l1.length)=false:=by first|simpa using c3|(simp at c3 ⊢;omega)
  obtain rfl:=os' H;go_enter Try.func15,Try.ntmps15;go_wp2
  repeat (go_quiet (fail);try go_wp2)
  go_ret
  exact ⟨xs',by repeat (first|exact Drawn0.refl _|apply Drawn0.step)⟩
def laws_markIntS.l0:Nat→List Int→Int→Int→Option (Int × List Int)
 | 0,_,_,_=>none
 | k+1,x0,x1,x5=>if x5 < (x0.length:Int) then (if 0≤x5 then (laws_markIntS.l0 k (x0.set (x5:Int).toNat x1) (wrap64 (x1+1)) (wrap64 (x5+1))) else (none)) else (some (x1,x0))
def laws_markIntS.f (k:Nat) (l0:List Int) (a1:Int):Option (Int × List Int):=laws_markIntS.l0 k l0 a1 0
set_option maxHeartbeats 8000000 in
set_option maxRecDepth 100000 in
theorem laws_markIntS.calls (k:Nat) (P0_:Nat→Prop) (u9000_:Value) (l0:List Int) (a1:Int) (r1:Int) (r2:List Int) (w0 w:World) (hB:Below w0.heap.size w0 w) (ho0:Kd.R (Kd.int .i64) 3 w w0.heap.size P0_ u9000_ l0) (h:laws_markIntS.f k l0 a1=some (r1,r2)) :
  Calls Try.prog 41 #[u9000_, .int .i64 a1] w fun e w'=>e = .returned (.int .i64 r1)∧Kd.R (Kd.int .i64) 3 w' w0.heap.size (fun k_=>(P0_ k_∨w.heap.size≤k_)) u9000_ r2∧Below w0.heap.size w0 w'∧Kept w w' (fun k_=>P0_ k_):=by
 have HO0:=am' (show Kd.R (Kd.int .i64) 3 w w0.heap.size (fun k_=>(P0_ k_∨w.heap.size≤k_)) u9000_ l0 from Kd.R_mono ho0 (fun k_ hk=>(.inl hk)))
 have HK:=am' (Kept.refl w (fun k_=>P0_ k_))
 have HW0:=am' hB.size
 have HB:=am' hB
 clear hB;have H:(laws_markIntS.l0 k l0 a1 0)=some (r1,r2):=h
 clear h;have H':=am' H
 clear H;go_enter Try.func41,Try.ntmps41
 go_wp2
 go_loopg [1,5] k (fun kq v1 v5 w'=>∃ (x0_1:List Int) (x1_1:Int) (x5_1:Int),v1 = .int .i64 x1_1∧v5 = .int .i64 x5_1∧Aside0 (laws_markIntS.l0 kq x0_1 x1_1 x5_1=some (r1,r2))∧Aside0 (kq≤k)∧Aside0 (Kd.R (Kd.int .i64) 3 w' w0.heap.size (fun k_=>(P0_ k_∨w.heap.size≤k_)) u9000_ x0_1)∧Aside0 (Kept w w' (fun k_=>P0_ k_))∧Aside0 (Below w0.heap.size w0 w'))
 case atStart=>exact ⟨(l0),(a1),(0),xs',xs',H',⟨Nat.le_refl _⟩,⟨kr' HO0.out⟩,⟨by repeat (first|(with_reducible first|exact HK.out|apply Kept.alloc|apply Kept.drewN|apply Kept.drew)|exact HK.out)⟩,⟨xb'⟩⟩
 case round =>
  clear H';try clear p2
  obtain ⟨x0_1,x1_1,x5_1,rfl,rfl,HA,HK1,HO_0,HK,HB⟩:=hrel;cases gk with
  | zero=>exact absurd HA.out (by simp[laws_markIntS.l0])
  | succ k1 =>
   have H:=HA.out;clear HA;simp only[laws_markIntS.l0] at H;by_cases c3:x5_1 < (x0_1.length:Int)
   ·
    rw[if_pos c3] at H;have c3b0:decide (x5_1 < (x0_1.length:Int))=true:=dt' c3;clear c3;by_cases c4:0≤x5_1
    ·
     rw[if_pos c4] at H;have c4b0:decide (0≤x5_1)=true:=dt' c4;clear c4;obtain ⟨y314,hy314⟩:∃ y_:List Int,y_=(x0_1.set (x5_1:Int).toNat x1_1):=⟨_,rfl⟩
     replace H:(laws_markIntS.l0 k1 y314 (wrap64 (x1_1+1)) (wrap64 (x5_1+1)))=some (r1,r2):=by first|(rw[hy314];with_reducible exact H)|(have H2_:=(Option.bind_some _ _).symm.trans H;rw[hy314];with_reducible exact H2_)|(have H2_:=(Option.bind_some _ _).symm.trans H;with_reducible exact H2_)|with_reducible exact H|(rw[hy314];exact H)|exact H
     have Ny314:=am' hy314;clear hy314;have H':=am' H;clear H;obtain ⟨Ao6,co6,eo6⟩:=Kd.R_slice HO_0.out;subst eo6;have p5:0≤(x5_1:Int):=od' xa';have q5:(x5_1:Int) < ((x0_1.length:Int):Int):=od' xa';obtain ⟨go5,co5,eo5,gb5,gl5,cl5,HG5⟩:=Kd.R_form HO_0.out (by omega)
     (first|cases eo5|(injection eo5 with ea_ en_ ec_;(first|subst ea_|(injection ea_ with ea_;subst ea_));subst ec_;clear en_))
     have GB5:=am' gb5;have GG5:=am' HG5;clear gb5 gl5 HG5;have HMgo5:=am' (show (P0_ go5∨w.heap.size≤go5) from (HO_0.out.1 _ rfl));obtain ⟨hx5_0,hf5_0⟩:=Kd.R_celln 0 HO_0.out (x5_1:Int) p5 q5;replace p5:=eq_true p5;replace q5:=eq_true q5;have HP7:=Kd.R_putg HO_0.out (x5_1:Int) x1_1;go_wp2_with (first|((with_reducible refine gate_store (t:=3) (p:=15) rfl ?_);refine store_event (t:=3) (p:=15) (v:=?vo_w8) (w1:=(wr.setCell ⟨go5,(x5_1:Int).toNat,none⟩ (.int .i64 x1_1))) ?hg ?ho ?hn ?hr ?_;(case ho=>rfl);(case hg=>rfl);(case hn=>rfl);(case hr=>first|(go_simp;done)|(go_simp;rfl));intro w8 hw;have hg:wr.grownBy w8 (some go5):=(by rw[hw];exact HP7.2);have hp_:Kd.R (Kd.int .i64) 3 w8 w0.heap.size (fun k_=>(P0_ k_∨w.heap.size≤k_)) (.slice (some ⟨go5,0,none⟩) x0_1.length co6) y314:=(by rw[hw,Ny314.out];exact HP7.1);clear HP7;have n0_:=am' (hp_);have n1_:=am' ((by rw[hw];exact bs' (HB.out) GB5.out:Below w0.heap.size w0 w8));have n2_:=am' (Kept.of_grown (S:=(fun k_=>P0_ k_)) hg (by repeat (first|(with_reducible first|exact HK.out|apply Kept.alloc|apply Kept.drewN|apply Kept.drew)|exact HK.out)) (fun k_ e_=>(HO_0.out.1 k_ e_)));clear HO_0;clear HB;clear HK;have HO_0:=n0_;have HB:=n1_;have HK:=n2_;clear n0_ n1_ n2_;clear hg hw hp_));go_roundg k1
     case measure=>have:=HK1.out;omega
     case rel=>exact ⟨(y314),(wrap64 (x1_1+1)),(wrap64 (x5_1+1)),xs',xs',H',⟨by have:=HK1.out;omega⟩,⟨kr' HO_0.out⟩,⟨by repeat (first|(with_reducible first|exact HK.out|apply Kept.alloc|apply Kept.drewN|apply Kept.drew)|exact HK.out)⟩,⟨xb'⟩⟩
    ·
     rw[if_neg c4] at H;exact absurd H (by simp)
   ·
    rw[if_neg c3] at H;have c3b0:decide (x5_1 < (x0_1.length:Int))=false:=df' c3;clear c3;simp only[Option.some.injEq,Prod.mk.injEq] at H;obtain ⟨rfl,rfl⟩:=H;obtain ⟨Ao9,co9,eo9⟩:=Kd.R_slice HO_0.out;subst eo9;go_wp2;go_ret
    exact ⟨by first|rfl|(simp[errW_none,errW_some] <;> rfl)|(simp[*,errW_none,errW_some] <;> rfl),kr' HO_0.out,xb',by repeat (first|(with_reducible first|exact HK.out|apply Kept.alloc|apply Kept.drewN|apply Kept.drew)|exact HK.out)⟩
def laws_markNight.f (k:Nat) (l0_0:List Int) (a0_1:Int) (a0_2:Int) (a1:Int):Option (Int × List Int):=(laws_markIntS.f k l0_0 a1).bind fun bt316=>(some (bt316.1,bt316.2))
set_option maxHeartbeats 8000000 in
set_option maxRecDepth 100000 in
theorem laws_markNight.calls (k:Nat) (P0_0_:Nat→Prop) (u9000_:Value) (l0_0:List Int) (a0_1:Int) (a0_2:Int) (a1:Int) (r1:Int) (r2:List Int) (w0 w:World) (hB:Below w0.heap.size w0 w) (ho0_0:Kd.R (Kd.int .i64) 3 w w0.heap.size P0_0_ u9000_ l0_0) (h:laws_markNight.f k l0_0 a0_1 a0_2 a1=some (r1,r2)) :
  Calls Try.prog 16 #[.agg #[u9000_, .int .i64 a0_1, .int .i64 a0_2], .int .i64 a1] w fun e w'=>e = .returned (.int .i64 r1)∧Kd.R (Kd.int .i64) 3 w' w0.heap.size (fun k_=>(P0_0_ k_∨w.heap.size≤k_)) u9000_ r2∧Below w0.heap.size w0 w'∧Kept w w' (fun k_=>P0_0_ k_):=by
 have hu35:=Try.underlying35
 have HO0_0:=am' (show Kd.R (Kd.int .i64) 3 w w0.heap.size (fun k_=>(P0_0_ k_∨w.heap.size≤k_)) u9000_ l0_0 from Kd.R_mono ho0_0 (fun k_ hk=>(.inl hk)))
 have HK:=am' (Kept.refl w (fun k_=>P0_0_ k_))
 have HW0:=am' hB.size
 have HB:=am' hB
 clear hB;have H:((laws_markIntS.f k l0_0 a1).bind fun bt316=>(some (bt316.1,bt316.2)))=some (r1,r2):=h
 clear h;replace H:=Option.bind_eq_some_iff.mp H
 obtain ⟨⟨t316,t317⟩,A30,H⟩:=H
 replace H:(some (t316,t317))=some (r1,r2):=H
 have A3:=am' A30
 clear A30;simp only[Option.some.injEq,Prod.mk.injEq] at H
 obtain ⟨rfl,rfl⟩:=H
 obtain ⟨Ao4,co4,eo4⟩:=Kd.R_slice HO0_0.out
 subst eo4;go_enter Try.func16,Try.ntmps16
 go_wp2_with (first|((with_reducible refine gate_dst (N:=2) rfl ?_);refine box_event ?hg (N:=2) ?hd (cs:=#[.slice Ao4 l0_0.length co4, .int .i64 a0_1, .int .i64 a0_2]) (t:=35) ?hr ?_;(case hd=>rfl);(case hg=>rfl);(case hr=>first|(go_simp;done)|(go_simp;rfl));intro gb315 hg w5 hbox hb;have n0_:=am' (rb' (kr' HO0_0.out) hb);have n1_:=am' (Kept.below (S:=(fun k_=>P0_0_ k_)) (by repeat (first|(with_reducible first|exact HK.out|apply Kept.alloc|apply Kept.drewN|apply Kept.drew)|exact HK.out)) hb);have n2_:=am' (bt' xb' hb);have n3_:=am' (hbox);have n4_:=am' ((by rw[hg];exact (by first|exact HK.out.1|exact (show Kept w _ (fun k_=>P0_0_ k_) from by repeat (first|(with_reducible first|exact HK.out|apply Kept.alloc|apply Kept.drewN|apply Kept.drew)|exact HK.out)).1):w.heap.size≤gb315));have n5_:=am' ((by rw[hg];exact (bz' xb'):w0.heap.size≤gb315));clear HO0_0;clear HK;clear HB;have HO0_0:=n0_;have HK:=n1_;have HB:=n2_;have BK315:=n3_;have GW315:=n4_;have GE315:=n5_;clear n0_ n1_ n2_ n3_ n4_ n5_;clear hb hbox hg;have hcz6_0:w5.cell? ⟨gb315,0,none⟩=some (.slice Ao4 l0_0.length co4):=(bc' BK315.out 0).trans rfl;have hcz6_1:w5.cell? ⟨gb315,1,none⟩=some (.int .i64 a0_1):=(bc' BK315.out 1).trans rfl;have hcz6_2:w5.cell? ⟨gb315,2,none⟩=some (.int .i64 a0_2):=(bc' BK315.out 2).trans rfl;have hfz6_0:=bf' BK315.out 0;have hfz6_1:=bf' BK315.out 1;have hfz6_2:=bf' BK315.out 2)|((with_reducible refine gate_callee (f:=41) rfl ?_);refine goesL_ (some 8) rfl rfl Try.func41 xk' rfl #[.slice Ao4 l0_0.length co4, .int .i64 a1] rfl xl' ?_;(with_reducible refine (laws_markIntS.calls k (fun k_=>some k_=(.slice Ao4 l0_0.length co4:Value).ownBlock) (.slice Ao4 l0_0.length co4) l0_0 a1 t316 t317 w0 _ ?side1 ?side2 A3.out).mono ?_);(case side1=>repeat (first|(with_reducible first|exact HB.out|apply ba'|apply bd'|apply be'|refine bs' ?_ GE315.out)|exact HB.out));(case side2=>exact Kd.R_tight rfl HO0_0.out);rintro e w7 ⟨rfl,hy0,hb,hkp⟩;refine ⟨_,rfl,?_⟩;have n0_:=am' (Kd.R_reok rfl hy0 (fun k_ e_=>HO0_0.out.1 k_ e_));have n1_:=am' (blk_kept (kk' BK315.out) hkp (fun hs_=>(fun e_=>(Kd.R_ne HO0_0.out BK315.out (by decide)) e_) hs_));have n2_:=am' (Kept.then_ (S:=(fun k_=>P0_0_ k_)) (by repeat (first|(with_reducible first|exact HK.out|apply Kept.alloc|apply Kept.drewN|apply Kept.drew|refine Kept.setCell ?_ (.inr GW315.out) _)|exact HK.out)) hkp (fun k_ hs_=>(fun e_=>(HO0_0.out.1 k_ e_.symm)) hs_));have n3_:=am' (hb);clear HO0_0;clear BK315;clear HK;clear HB;have HO0_0:=n0_;have BK315:=n1_;have HK:=n2_;have HB:=n3_;clear n0_ n1_ n2_ n3_;(try clear hb);(try clear hkp);(try clear hy0)))
 go_ret
 exact ⟨by first|rfl|(simp[errW_none,errW_some] <;> rfl)|(simp[*,errW_none,errW_some] <;> rfl),kr' HO0_0.out,yb' GE315.out,by repeat (first|(with_reducible first|exact HK.out|apply Kept.alloc|apply Kept.drewN|apply Kept.drew|refine Kept.setCell ?_ (.inr GW315.out) _)|exact HK.out)⟩
def laws_markBoolS.l0:Nat→List Bool→Int→Int→Option (Int × List Bool)
 | 0,_,_,_=>none
 | k+1,x0,x1,x5=>if x5 < (x0.length:Int) then (if 0≤x5 then (laws_markBoolS.l0 k (x0.set (x5:Int).toNat ((Int.tmod x1 3) == 0)) (wrap64 (x1+1)) (wrap64 (x5+1))) else (none)) else (some (x1,x0))
def laws_markBoolS.f (k:Nat) (l0:List Bool) (a1:Int):Option (Int × List Bool):=laws_markBoolS.l0 k l0 a1 0
set_option maxHeartbeats 8000000 in
set_option maxRecDepth 100000 in
theorem laws_markBoolS.calls (k:Nat) (P0_:Nat→Prop) (u9000_:Value) (l0:List Bool) (a1:Int) (r1:Int) (r2:List Bool) (w0 w:World) (hB:Below w0.heap.size w0 w) (ho0:Kd.R Kd.bool 4 w w0.heap.size P0_ u9000_ l0) (h:laws_markBoolS.f k l0 a1=some (r1,r2)) :
  Calls Try.prog 42 #[u9000_, .int .i64 a1] w fun e w'=>e = .returned (.int .i64 r1)∧Kd.R Kd.bool 4 w' w0.heap.size (fun k_=>(P0_ k_∨w.heap.size≤k_)) u9000_ r2∧Below w0.heap.size w0 w'∧Kept w w' (fun k_=>P0_ k_):=by
 have HO0:=am' (show Kd.R Kd.bool 4 w w0.heap.size (fun k_=>(P0_ k_∨w.heap.size≤k_)) u9000_ l0 from Kd.R_mono ho0 (fun k_ hk=>(.inl hk)))
 have HK:=am' (Kept.refl w (fun k_=>P0_ k_))
 have HW0:=am' hB.size
 have HB:=am' hB
 clear hB;have H:(laws_markBoolS.l0 k l0 a1 0)=some (r1,r2):=h
 clear h;have H':=am' H
 clear H;go_enter Try.func42,Try.ntmps42
 go_wp2
 go_loopg [1,5] k (fun kq v1 v5 w'=>∃ (x0_1:List Bool) (x1_1:Int) (x5_1:Int),v1 = .int .i64 x1_1∧v5 = .int .i64 x5_1∧Aside0 (laws_markBoolS.l0 kq x0_1 x1_1 x5_1=some (r1,r2))∧Aside0 (kq≤k)∧Aside0 (Kd.R Kd.bool 4 w' w0.heap.size (fun k_=>(P0_ k_∨w.heap.size≤k_)) u9000_ x0_1)∧Aside0 (Kept w w' (fun k_=>P0_ k_))∧Aside0 (Below w0.heap.size w0 w'))
 case atStart=>exact ⟨(l0),(a1),(0),xs',xs',H',⟨Nat.le_refl _⟩,⟨kr' HO0.out⟩,⟨by repeat (first|(with_reducible first|exact HK.out|apply Kept.alloc|apply Kept.drewN|apply Kept.drew)|exact HK.out)⟩,⟨xb'⟩⟩
 case round =>
  clear H';try clear p2
  obtain ⟨x0_1,x1_1,x5_1,rfl,rfl,HA,HK1,HO_0,HK,HB⟩:=hrel;cases gk with
  | zero=>exact absurd HA.out (by simp[laws_markBoolS.l0])
  | succ k1 =>
   have H:=HA.out;clear HA;simp only[laws_markBoolS.l0] at H;by_cases c3:x5_1 < (x0_1.length:Int)
   ·
    rw[if_pos c3] at H;have c3b0:decide (x5_1 < (x0_1.length:Int))=true:=dt' c3;clear c3;by_cases c4:0≤x5_1
    ·
     rw[if_pos c4] at H;have c4b0:decide (0≤x5_1)=true:=dt' c4;clear c4;obtain ⟨y318,hy318⟩:∃ y_:List Bool,y_=(x0_1.set (x5_1:Int).toNat ((Int.tmod x1_1 3) == 0)):=⟨_,rfl⟩
     replace H:(laws_markBoolS.l0 k1 y318 (wrap64 (x1_1+1)) (wrap64 (x5_1+1)))=some (r1,r2):=by first|(rw[hy318];with_reducible exact H)|(have H2_:=(Option.bind_some _ _).symm.trans H;rw[hy318];with_reducible exact H2_)|(have H2_:=(Option.bind_some _ _).symm.trans H;with_reducible exact H2_)|with_reducible exact H|(rw[hy318];exact H)|exact H
     have Ny318:=am' hy318;clear hy318;have H':=am' H;clear H;obtain ⟨Ao6,co6,eo6⟩:=Kd.R_slice HO_0.out;subst eo6;have p5:0≤(x5_1:Int):=od' xa';have q5:(x5_1:Int) < ((x0_1.length:Int):Int):=od' xa';obtain ⟨go5,co5,eo5,gb5,gl5,cl5,HG5⟩:=Kd.R_form HO_0.out (by omega)
     (first|cases eo5|(injection eo5 with ea_ en_ ec_;(first|subst ea_|(injection ea_ with ea_;subst ea_));subst ec_;clear en_))
     have GB5:=am' gb5;have GG5:=am' HG5;clear gb5 gl5 HG5;have HMgo5:=am' (show (P0_ go5∨w.heap.size≤go5) from (HO_0.out.1 _ rfl));obtain ⟨hx5_0,hf5_0⟩:=Kd.R_celln false HO_0.out (x5_1:Int) p5 q5;replace p5:=eq_true p5;replace q5:=eq_true q5;have HP7:=Kd.R_putg HO_0.out (x5_1:Int) ((Int.tmod x1_1 3) == 0);go_wp2_with (first|((with_reducible refine gate_store (t:=4) (p:=17) rfl ?_);refine store_event (t:=4) (p:=17) (v:=?vo_w8) (w1:=(wr.setCell ⟨go5,(x5_1:Int).toNat,none⟩ (.bool ((Int.tmod x1_1 3) == 0)))) ?hg ?ho ?hn ?hr ?_;(case ho=>rfl);(case hg=>rfl);(case hn=>rfl);(case hr=>first|(go_simp;done)|(go_simp;rfl));intro w8 hw;have hg:wr.grownBy w8 (some go5):=(by rw[hw];exact HP7.2);have hp_:Kd.R Kd.bool 4 w8 w0.heap.size (fun k_=>(P0_ k_∨w.heap.size≤k_)) (.slice (some ⟨go5,0,none⟩) x0_1.length co6) y318:=(by rw[hw,Ny318.out];exact HP7.1);clear HP7;have n0_:=am' (hp_);have n1_:=am' ((by rw[hw];exact bs' (HB.out) GB5.out:Below w0.heap.size w0 w8));have n2_:=am' (Kept.of_grown (S:=(fun k_=>P0_ k_)) hg (by repeat (first|(with_reducible first|exact HK.out|apply Kept.alloc|apply Kept.drewN|apply Kept.drew)|exact HK.out)) (fun k_ e_=>(HO_0.out.1 k_ e_)));clear HO_0;clear HB;clear HK;have HO_0:=n0_;have HB:=n1_;have HK:=n2_;clear n0_ n1_ n2_;clear hg hw hp_));go_roundg k1
     case measure=>have:=HK1.out;omega
     case rel=>exact ⟨(y318),(wrap64 (x1_1+1)),(wrap64 (x5_1+1)),xs',xs',H',⟨by have:=HK1.out;omega⟩,⟨kr' HO_0.out⟩,⟨by repeat (first|(with_reducible first|exact HK.out|apply Kept.alloc|apply Kept.drewN|apply Kept.drew)|exact HK.out)⟩,⟨xb'⟩⟩
    ·
     rw[if_neg c4] at H;exact absurd H (by simp)
   ·
    rw[if_neg c3] at H;have c3b0:decide (x5_1 < (x0_1.length:Int))=false:=df' c3;clear c3;simp only[Option.some.injEq,Prod.mk.injEq] at H;obtain ⟨rfl,rfl⟩:=H;obtain ⟨Ao9,co9,eo9⟩:=Kd.R_slice HO_0.out;subst eo9;go_wp2;go_ret
    exact ⟨by first|rfl|(simp[errW_none,errW_some] <;> rfl)|(simp[*,errW_none,errW_some] <;> rfl),kr' HO_0.out,xb',by repeat (first|(with_reducible first|exact HK.out|apply Kept.alloc|apply Kept.drewN|apply Kept.drew)|exact HK.out)⟩
def laws_markCamp.f (k:Nat) (l0_0:List Bool) (a0_1:Int) (a1:Int):Option (Int × List Bool):=(laws_markBoolS.f k l0_0 a1).bind fun bt320=>(some (bt320.1,bt320.2))
set_option maxHeartbeats 8000000 in
set_option maxRecDepth 100000 in
theorem laws_markCamp.calls (k:Nat) (P0_0_:Nat→Prop) (u9000_:Value) (l0_0:List Bool) (a0_1:Int) (a1:Int) (r1:Int) (r2:List Bool) (w0 w:World) (hB:Below w0.heap.size w0 w) (ho0_0:Kd.R Kd.bool 4 w w0.heap.size P0_0_ u9000_ l0_0) (h:laws_markCamp.f k l0_0 a0_1 a1=some (r1,r2)) :
  Calls Try.prog 17 #[.agg #[u9000_, .int .i64 a0_1], .int .i64 a1] w fun e w'=>e = .returned (.int .i64 r1)∧Kd.R Kd.bool 4 w' w0.heap.size (fun k_=>(P0_0_ k_∨w.heap.size≤k_)) u9000_ r2∧Below w0.heap.size w0 w'∧Kept w w' (fun k_=>P0_0_ k_):=by
 have hu32:=Try.underlying32
 have HO0_0:=am' (show Kd.R Kd.bool 4 w w0.heap.size (fun k_=>(P0_0_ k_∨w.heap.size≤k_)) u9000_ l0_0 from Kd.R_mono ho0_0 (fun k_ hk=>(.inl hk)))
 have HK:=am' (Kept.refl w (fun k_=>P0_0_ k_))
 have HW0:=am' hB.size
 have HB:=am' hB
 clear hB;have H:((laws_markBoolS.f k l0_0 a1).bind fun bt320=>(some (bt320.1,bt320.2)))=some (r1,r2):=h
 clear h;replace H:=Option.bind_eq_some_iff.mp H
 obtain ⟨⟨t320,t321⟩,A30,H⟩:=H
 replace H:(some (t320,t321))=some (r1,r2):=H
 have A3:=am' A30
 clear A30;simp only[Option.some.injEq,Prod.mk.injEq] at H
 obtain ⟨rfl,rfl⟩:=H
 obtain ⟨Ao4,co4,eo4⟩:=Kd.R_slice HO0_0.out
 subst eo4;go_enter Try.func17,Try.ntmps17
 go_wp2_with (first|((with_reducible refine gate_dst (N:=2) rfl ?_);refine box_event ?hg (N:=2) ?hd (cs:=#[.slice Ao4 l0_0.length co4, .int .i64 a0_1]) (t:=32) ?hr ?_;(case hd=>rfl);(case hg=>rfl);(case hr=>first|(go_simp;done)|(go_simp;rfl));intro gb319 hg w5 hbox hb;have n0_:=am' (rb' (kr' HO0_0.out) hb);have n1_:=am' (Kept.below (S:=(fun k_=>P0_0_ k_)) (by repeat (first|(with_reducible first|exact HK.out|apply Kept.alloc|apply Kept.drewN|apply Kept.drew)|exact HK.out)) hb);have n2_:=am' (bt' xb' hb);have n3_:=am' (hbox);have n4_:=am' ((by rw[hg];exact (by first|exact HK.out.1|exact (show Kept w _ (fun k_=>P0_0_ k_) from by repeat (first|(with_reducible first|exact HK.out|apply Kept.alloc|apply Kept.drewN|apply Kept.drew)|exact HK.out)).1):w.heap.size≤gb319));have n5_:=am' ((by rw[hg];exact (bz' xb'):w0.heap.size≤gb319));clear HO0_0;clear HK;clear HB;have HO0_0:=n0_;have HK:=n1_;have HB:=n2_;have BK319:=n3_;have GW319:=n4_;have GE319:=n5_;clear n0_ n1_ n2_ n3_ n4_ n5_;clear hb hbox hg;have hcz6_0:w5.cell? ⟨gb319,0,none⟩=some (.slice Ao4 l0_0.length co4):=(bc' BK319.out 0).trans rfl;have hcz6_1:w5.cell? ⟨gb319,1,none⟩=some (.int .i64 a0_1):=(bc' BK319.out 1).trans rfl;have hfz6_0:=bf' BK319.out 0;have hfz6_1:=bf' BK319.out 1)|((with_reducible refine gate_callee (f:=42) rfl ?_);refine goesL_ (some 8) rfl rfl Try.func42 xk' rfl #[.slice Ao4 l0_0.length co4, .int .i64 a1] rfl xl' ?_;(with_reducible refine (laws_markBoolS.calls k (fun k_=>some k_=(.slice Ao4 l0_0.length co4:Value).ownBlock) (.slice Ao4 l0_0.length co4) l0_0 a1 t320 t321 w0 _ ?side1 ?side2 A3.out).mono ?_);(case side1=>repeat (first|(with_reducible first|exact HB.out|apply ba'|apply bd'|apply be'|refine bs' ?_ GE319.out)|exact HB.out));(case side2=>exact Kd.R_tight rfl HO0_0.out);rintro e w7 ⟨rfl,hy0,hb,hkp⟩;refine ⟨_,rfl,?_⟩;have n0_:=am' (Kd.R_reok rfl hy0 (fun k_ e_=>HO0_0.out.1 k_ e_));have n1_:=am' (blk_kept (kk' BK319.out) hkp (fun hs_=>(fun e_=>(Kd.R_ne HO0_0.out BK319.out (by decide)) e_) hs_));have n2_:=am' (Kept.then_ (S:=(fun k_=>P0_0_ k_)) (by repeat (first|(with_reducible first|exact HK.out|apply Kept.alloc|apply Kept.drewN|apply Kept.drew|refine Kept.setCell ?_ (.inr GW319.out) _)|exact HK.out)) hkp (fun k_ hs_=>(fun e_=>(HO0_0.out.1 k_ e_.symm)) hs_));have n3_:=am' (hb);clear HO0_0;clear BK319;clear HK;clear HB;have HO0_0:=n0_;have BK319:=n1_;have HK:=n2_;have HB:=n3_;clear n0_ n1_ n2_ n3_;(try clear hb);(try clear hkp);(try clear hy0)))
 go_ret
 exact ⟨by first|rfl|(simp[errW_none,errW_some] <;> rfl)|(simp[*,errW_none,errW_some] <;> rfl),kr' HO0_0.out,yb' GE319.out,by repeat (first|(with_reducible first|exact HK.out|apply Kept.alloc|apply Kept.drewN|apply Kept.drew|refine Kept.setCell ?_ (.inr GW319.out) _)|exact HK.out)⟩
theorem markIntS_loop':∀ (r pre:List Int) (a:Int),(pre ++ r).length≤9223372036854775807→Ev (fun k=>laws_markIntS.l0 k (pre ++ r) a (pre.length:Int)) ((mkS r a).1,pre ++ (mkS r a).2):=by
 intro r;induction r with
 | nil =>
  intro pre a hl;refine Ev.step (f:=fun _=>some _) (fun k=>?_) (Ev.now _);simp only[laws_markIntS.l0];rw[if_neg (nlt_end pre)];rfl
 | cons x r ih =>
  intro pre a hl;refine Ev.step (fun k=>?_) (ev_eq (ih (pre ++ [a]) (wrap64 (a+1)) (by simpa using hl)) (by simp[mkS]));simp only[laws_markIntS.l0];rw[if_pos (lt_mid pre x r),if_pos (zle _),set_mid,wr_mid pre x r hl,app_mid pre a r];simp
def laws_markIntSS.f (l0:List (List Int)) (a1:Int):Option (Int × List (List Int)):=some (mkSS l0 a1)
set_option maxHeartbeats 4000000 in
set_option maxRecDepth 100000 in
theorem laws_markIntSS.calls (P0_:Nat→Prop) (u9000_:Value) (l0:List (List Int)) (a1:Int) (r1:Int) (r2:List (List Int)) (w0 w:World) (hB:Below w0.heap.size w0 w) (ho0:Kd.S (Kd.slice 3 (Kd.int .i64)) 22 w w0.heap.size P0_ u9000_ l0) (h:laws_markIntSS.f l0 a1=some (r1,r2)) :
  Calls Try.prog 29 #[u9000_, .int .i64 a1] w fun e w'=>e = .returned (.int .i64 r1)∧Kd.S (Kd.slice 3 (Kd.int .i64)) 22 w' w0.heap.size P0_ u9000_ r2∧Below w0.heap.size w0 w'∧Kept w w' (fun k_=>P0_ k_):=by
 obtain ⟨A,c,rfl,hlc,hC⟩:=Kd.S_reads ho0
 have hbig:=hC.2.1
 have HE:=am' (os' h)
 have HS:=am' ho0
 have HB:=am' hB
 clear h ho0 hB hC hlc;go_enter Try.func29,Try.ntmps29
 go_wp2
 go_loopg [1,5] l0.length (fun gg v1 v5 wr=>∃ (pre r:List (List Int)) (a':Int),l0.length - pre.length≤gg∧pre.length+r.length=l0.length∧v1 = .int .i64 a'∧v5 = .int .i64 (pre.length:Int)∧Aside0 (mkSS l0 a1=((mkSS r a').1,pre ++ (mkSS r a').2))∧Aside0 (Kd.S (Kd.slice 3 (Kd.int .i64)) 22 wr w0.heap.size P0_ (.slice A l0.length c) (pre ++ r))∧Aside0 (Below w0.heap.size w0 wr)∧Aside0 (Kept w wr P0_))
 case atStart=>exact ⟨[],l0,a1,by simp,by simp,rfl,rfl,⟨rfl⟩,HS,HB,⟨Kept.refl _ _⟩⟩
 case round =>
  obtain ⟨pre,r,a',hg,hlen,rfl,rfl,HM,HS,HB,HK⟩:=hrel;cases r with
  | nil =>
   have e:pre.length=l0.length:=by simpa using hlen
   have hnl:¬ (pre.length:Int) < (l0.length:Int):=by omega
   go_wp2;go_ret
   have hm:=HE.out.symm.trans HM.out;simp only[mkSS,List.append_nil,Prod.mk.injEq] at hm;obtain ⟨rfl,rfl⟩:=hm;exact ⟨rfl,by have:=HS.out;rwa [List.append_nil] at this,HB.out,HK.out⟩
  | cons x r =>
   have hlt:pre.length < l0.length:=by simp at hlen;omega
   have hltz:(pre.length:Int) < (l0.length:Int):=by omega
   have hform:=Kd.S_form HS.out (by simp only[List.length_append,List.length_cons];omega);obtain ⟨g,cap,hv,hgb,hgl,cells,hgc⟩:=hform;injection hv with hA hn hcap
   subst hA;clear hcap hn;obtain ⟨oki,ce,hcl,hM,hcc,hoki,hH⟩:=Kd.S_lend HS.out [] (pre.length:Int) (zle _) hltz;obtain ⟨v,rfl,hR⟩:=hM;have hx:wr.cell? ⟨g,pre.length,none⟩=some v:=by simpa [Kd.slice] using hcc 0 v rfl
   have hget:(pre ++ x :: r).getD ((pre.length:Int)).toNat []=x:=by simp
   rw[hget] at hR;obtain ⟨A',c',rfl⟩:=Kd.R_slice hR;obtain ⟨kk,hk⟩:=(markIntS_loop' x [] a' (by have:=(Kd.R_reads' hR).2.2.2.1;simpa using this)).rounds;have hc1:=laws_markIntS.calls kk oki (.slice A' x.length c') x a' (mkS x a').1 (mkS x a').2 w0 wr HB.out hR hk;have HH:=am' hH;have HR:=am' hR;have HO:=am' hoki;have HC1:=am' hc1;clear hH hR hoki hc1 hk hcc hcl hgc hgl hgb hget;go_wp2_with (go_at_call 41;refine HC1.out.mono ?_;rintro e w' ⟨rfl,hy,hb,hkp⟩;have HY:=am' hy;have HB':=am' hb;have HKP:=am' hkp;clear hy hb hkp hx);go_roundg (l0.length - (pre.length+1))
   case measure=>omega
   case rel =>
    refine ⟨pre ++ [(mkS x a').2],r,(mkS x a').1,by simp,by simp at hlen ⊢;omega,rfl,?_,⟨?_⟩,⟨?_⟩,HB',⟨?_⟩⟩
    ·
     simp
    ·
     rw[HM.out];simp[mkSS]
    ·
     have h1:=Kd.H_kept HH.out HKP.out (fun k _ h2 h3=>h2 h3);have h2:=Kd.H_back (x':=(mkS x a').2) h1 ⟨_,rfl,Kd.R_reok rfl HY.out (fun k e=>HR.out.1 k e)⟩ (fun _ hk=>hk);simpa using h2
    ·
     exact Kept.then_ HK.out HKP.out (fun k hk => .inl (HO.out k hk).1)
def laws_markIntSSS.f (l0:List (List (List Int))) (a1:Int):Option (Int × List (List (List Int))):=some (mkSSS l0 a1)
set_option maxHeartbeats 4000000 in
set_option maxRecDepth 100000 in
theorem laws_markIntSSS.calls (P0_:Nat→Prop) (u9000_:Value) (l0:List (List (List Int))) (a1:Int) (r1:Int) (r2:List (List (List Int))) (w0 w:World) (hB:Below w0.heap.size w0 w) (ho0:Kd.S (Kd.sliceS 22 (Kd.slice 3 (Kd.int .i64))) 47 w w0.heap.size P0_ u9000_ l0) (h:laws_markIntSSS.f l0 a1=some (r1,r2)) :
  Calls Try.prog 18 #[u9000_, .int .i64 a1] w fun e w'=>e = .returned (.int .i64 r1)∧Kd.S (Kd.sliceS 22 (Kd.slice 3 (Kd.int .i64))) 47 w' w0.heap.size P0_ u9000_ r2∧Below w0.heap.size w0 w'∧Kept w w' (fun k_=>P0_ k_):=by
 obtain ⟨A,c,rfl,hlc,hC⟩:=Kd.S_reads ho0
 have hbig:=hC.2.1
 have HE:=am' (os' h)
 have HS:=am' ho0
 have HB:=am' hB
 clear h ho0 hB hC hlc;go_enter Try.func18,Try.ntmps18
 go_wp2
 go_loopg [1,5] l0.length (fun gg v1 v5 wr=>∃ (pre r:List (List (List Int))) (a':Int),l0.length - pre.length≤gg∧pre.length+r.length=l0.length∧v1 = .int .i64 a'∧v5 = .int .i64 (pre.length:Int)∧Aside0 (mkSSS l0 a1=((mkSSS r a').1,pre ++ (mkSSS r a').2))∧Aside0 (Kd.S (Kd.sliceS 22 (Kd.slice 3 (Kd.int .i64))) 47 wr w0.heap.size P0_ (.slice A l0.length c) (pre ++ r))∧Aside0 (Below w0.heap.size w0 wr)∧Aside0 (Kept w wr P0_))
 case atStart=>exact ⟨[],l0,a1,by simp,by simp,rfl,rfl,⟨rfl⟩,HS,HB,⟨Kept.refl _ _⟩⟩
 case round =>
  obtain ⟨pre,r,a',hg,hlen,rfl,rfl,HM,HS,HB,HK⟩:=hrel;cases r with
  | nil =>
   have e:pre.length=l0.length:=by simpa using hlen
   have hnl:¬ (pre.length:Int) < (l0.length:Int):=by omega
   go_wp2;go_ret
   have hm:=HE.out.symm.trans HM.out;simp only[mkSSS,List.append_nil,Prod.mk.injEq] at hm;obtain ⟨rfl,rfl⟩:=hm;exact ⟨rfl,by have:=HS.out;rwa [List.append_nil] at this,HB.out,HK.out⟩
  | cons x r =>
   have hlt:pre.length < l0.length:=by simp at hlen;omega
   have hltz:(pre.length:Int) < (l0.length:Int):=by omega
   have hform:=Kd.S_form HS.out (by simp only[List.length_append,List.length_cons];omega);obtain ⟨g,cap,hv,hgb,hgl,cells,hgc⟩:=hform;injection hv with hA hn hcap
   subst hA;clear hcap hn;obtain ⟨oki,ce,hcl,hM,hcc,hoki,hH⟩:=Kd.S_lend HS.out [] (pre.length:Int) (zle _) hltz;obtain ⟨v,rfl,hR⟩:=hM;have hx:wr.cell? ⟨g,pre.length,none⟩=some v:=by simpa [Kd.sliceS] using hcc 0 v rfl
   have hget:(pre ++ x :: r).getD ((pre.length:Int)).toNat []=x:=by simp
   rw[hget] at hR;obtain ⟨A',c',rfl⟩:=Kd.S_slice hR;have hc1:=laws_markIntSS.calls oki (.slice A' x.length c') x a' (mkSS x a').1 (mkSS x a').2 w0 wr HB.out hR rfl;have HH:=am' hH;have HR:=am' hR;have HO:=am' hoki;have HC1:=am' hc1;clear hH hR hoki hc1 hcc hcl hgc hgl hgb hget;go_wp2_with (go_at_call 29;refine HC1.out.mono ?_;rintro e w' ⟨rfl,hy,hb,hkp⟩;have HY:=am' hy;have HB':=am' hb;have HKP:=am' hkp;clear hy hb hkp hx);go_roundg (l0.length - (pre.length+1))
   case measure=>omega
   case rel =>
    refine ⟨pre ++ [(mkSS x a').2],r,(mkSS x a').1,by simp,by simp at hlen ⊢;omega,rfl,?_,⟨?_⟩,⟨?_⟩,HB',⟨?_⟩⟩
    ·
     simp
    ·
     rw[HM.out];simp[mkSSS]
    ·
     have h1:=Kd.H_kept HH.out HKP.out (fun k _ h2 h3=>h2 h3);have h2:=Kd.H_back (x':=(mkSS x a').2) h1 ⟨_,rfl,HY.out⟩ (fun _ hk=>hk);simpa using h2
    ·
     exact Kept.then_ HK.out HKP.out (fun k hk => .inl (HO.out k hk).1)
def laws_heldBoolS.l0:Nat→List Bool→Int→Int→Option (Int)
 | 0,_,_,_=>none
 | k+1,x0,x1,x5=>if x5 < (x0.length:Int) then (if 0≤x5 then (if ((rdOf false x0 x5) != ((Int.tmod x1 3) == 0))=true then (some (-1)) else (laws_heldBoolS.l0 k x0 (wrap64 (x1+1)) (wrap64 (x5+1)))) else (none)) else (some x1)
def laws_heldBoolS.f (k:Nat) (l0:List Bool) (a1:Int):Option (Int):=laws_heldBoolS.l0 k l0 a1 0
set_option maxHeartbeats 8000000 in
set_option maxRecDepth 100000 in
theorem laws_heldBoolS.calls (k:Nat) (A0:Option Addr) (c0:Nat) (l0:List Bool) (a1:Int) (r:Int) (w:World) (hr0:Kd.C Kd.bool w A0 l0.length l0) (hc0:l0.length≤c0) (h:laws_heldBoolS.f k l0 a1=some r) :
  Calls Try.prog 43 #[.slice A0 l0.length c0, .int .i64 a1] w fun e w'=>e = .returned (.int .i64 r)∧Drawn0 w w':=by
 have HR0:=am' hr0
 have HC0:=am' hc0
 clear hr0 hc0;have H:(laws_heldBoolS.l0 k l0 a1 0)=some r:=h
 clear h;have H':=am' H
 clear H;go_enter Try.func43,Try.ntmps43
 go_wp2
 go_loopg [1,5] k (fun kq v1 v5 w'=>∃ (x1_1:Int) (x5_1:Int),v1 = .int .i64 x1_1∧v5 = .int .i64 x5_1∧Aside0 (laws_heldBoolS.l0 kq l0 x1_1 x5_1=some r)∧Aside0 (kq≤k)∧Drawn0 w w')
 case atStart=>exact ⟨(a1),(0),xs',xs',H',⟨Nat.le_refl _⟩,by repeat (first|exact Drawn0.refl _|apply Drawn0.step)⟩
 case round =>
  clear H';try clear p2
  obtain ⟨x1_1,x5_1,rfl,rfl,HA,HK1,⟨m1,rfl⟩⟩:=hrel;cases gk with
  | zero=>exact absurd HA.out (by simp[laws_heldBoolS.l0])
  | succ k1 =>
   have H:=HA.out;clear HA;simp only[laws_heldBoolS.l0] at H;by_cases c3:x5_1 < (l0.length:Int)
   ·
    rw[if_pos c3] at H;have c3b0:decide (x5_1 < (l0.length:Int))=true:=dt' c3;clear c3;by_cases c4:0≤x5_1
    ·
     rw[if_pos c4] at H;have c4b0:decide (0≤x5_1)=true:=dt' c4;clear c4;by_cases c5:((rdOf false l0 x5_1) != ((Int.tmod x1_1 3) == 0))=true
     ·
      rw[if_pos c5] at H;have c5b0:((rdOf false l0 x5_1) != ((Int.tmod x1_1 3) == 0))=true:=c5
      (try (have c5b1:decide ((rdOf false l0 x5_1)=((Int.tmod x1_1 3) == 0))=false:=by simpa using c5))
      (try (have c5b2:((rdOf false l0 x5_1) == ((Int.tmod x1_1 3) == 0))=false:=by simpa using c5))
      (try (have c5b3:¬ ((rdOf false l0 x5_1)=((Int.tmod x1_1 3) == 0)):=by simpa using c5))
      clear c5;obtain rfl:=os' H;have p322:0≤(x5_1:Int):=od' xa';have q322:x5_1 < (l0.length:Int):=od' xa';obtain ⟨ad322,e322,hx322_0⟩:=Kd.at_bool HR0.out x5_1 p322 q322;cases e322;replace p322:=eq_true p322;replace q322:=eq_true q322;go_wp2;go_ret
      exact ⟨xs',by repeat (first|exact Drawn0.refl _|apply Drawn0.step)⟩
     ·
      rw[if_neg c5] at H;have c5b0:((rdOf false l0 x5_1) != ((Int.tmod x1_1 3) == 0))=false:=by simpa using c5
      (try (have c5b1:decide ((rdOf false l0 x5_1)=((Int.tmod x1_1 3) == 0))=true:=by simpa using c5))
      (try (have c5b2:((rdOf false l0 x5_1) == ((Int.tmod x1_1 3) == 0))=true:=by simpa using c5))
      clear c5;have H':=am' H;clear H;have p322:0≤(x5_1:Int):=od' xa';have q322:x5_1 < (l0.length:Int):=od' xa';obtain ⟨ad322,e322,hx322_0⟩:=Kd.at_bool HR0.out x5_1 p322 q322;cases e322;replace p322:=eq_true p322;replace q322:=eq_true q322;go_wp2;go_roundg k1
      case measure=>have:=HK1.out;omega
      case rel=>exact ⟨(wrap64 (x1_1+1)),(wrap64 (x5_1+1)),xs',xs',H',⟨by have:=HK1.out;omega⟩,by repeat (first|exact Drawn0.refl _|apply Drawn0.step)⟩
    ·
     rw[if_neg c4] at H;exact absurd H (by simp)
   ·
    rw[if_neg c3] at H;have c3b0:decide (x5_1 < (l0.length:Int))=false:=df' c3;clear c3;obtain rfl:=os' H;go_wp2;go_ret
    exact ⟨xs',by repeat (first|exact Drawn0.refl _|apply Drawn0.step)⟩
end Go.Proofs.Ytdomojenlofieaa.C2
