import Derived.Test.YtihieplobgehaaaC2zx0
import Derived.Test.YtihieplobgehaaaC2zx10
import Derived.Test.YtihieplobgehaaaC2zx14
import Derived.Test.YtihieplobgehaaaC2zx15
import Derived.Test.YtihieplobgehaaaC2zx17
import Derived.Test.YtihieplobgehaaaC2zAl
namespace Go.Proofs.Ytihieplobgehaaa.C2
open Go.RowKit Go.Proofs.YtihieplobgehaaaW.PrintWords Go.Proofs.YtihieplobgehaaaW.PrintLast Go.Proofs.YtihieplobgehaaaW.PrintMore Go.Proofs.Ytihieplobgehaaa.H
attribute [local go_sem] max2_int min2_int max_two min_two max_three min_three max_four min_four
set_option linter.unusedVariables false
set_option linter.unusedSimpArgs false
theorem KnOk.empty (out:Int→Option (List Edg)) (dist:List Int):KnOk out dist (.map []):=⟨fun s h=>(by cases h),Nat.zero_le _⟩
set_option maxHeartbeats 4000000 in
set_option maxRecDepth 100000 in
theorem fewest_any (g:Nat) (lb:Array Value) (out:Int→Option (List Edg)) (n:Int) (dist:List Int) (k:Nat) (s v:Int) (W0 w:World) (eg:∀ args w,(callFunc g args).run Try.prog w = .ok (.enter g args) w) (hO:OutOk g lb out W0) (hB:Below W0.heap.size W0 w) (Ad:Option Addr) (cd:Nat) (hd:Kd.C (Kd.int .i64) w Ad dist.length dist) (hcd:dist.length≤cd) (hdl:dist.length≤1000000) (h:fwF out dist k s=some v) :
  Calls Try.prog 23 #[.agg #[.int .i64 n, .func (.func g) #[] lb], .int .i64 s, .slice Ad dist.length cd] w fun e w'=>e = .returned (.int .i64 v)∧Below w.heap.size w w':=by
 have hug:=Try.underlying46
 have hmm:=@run_makeMap Try.prog
 have h1:(w.alloc (.cells #[.int .i64 n, .func (.func g) #[] lb] 46)).heap.size=w.heap.size+1:=World.size_alloc ..
 have b1:=ba' (Below.refl w.heap.size w) (.cells #[.int .i64 n, .func (.func g) #[] lb] 46)
 have b2:=ba' (Below.refl (w.alloc (.cells #[.int .i64 n, .func (.func g) #[] lb] 46)).heap.size (w.alloc (.cells #[.int .i64 n, .func (.func g) #[] lb] 46))) (.map #[] 0)
 have HS:=am' (bt' b1 b2)
 have hmp:=MpI.of (World.ownsMap_made (H:=Unit) (w.alloc (.cells #[.int .i64 n, .func (.func g) #[] lb] 46)) Try.prog 3 (plainElem Try.prog 3))
 rw[h1] at hmp
 have HX:=am' (heap_alloc_new w (.cells #[.int .i64 n, .func (.func g) #[] lb] 46))
 have y0:=(bc' HX.out 0).trans (show _=some (.int .i64 n) from rfl)
 have y1:=(bc' HX.out 1).trans (show _=some (.func (.func g) #[] lb) from rfl)
 have HT:=am' (tally_any g lb out n dist W0 eg hO Ad cd hcd hdl (w.heap.size+1) (by have:=hB.size;omega) k s v (.map []) _ (bt' hB (bt' b1 b2)) (Kd.C_kept_came (Kd.heap_int .i64) hd (bt' b1 b2) (fun q hq=>by omega)) hmp (KnOk.empty out dist) h)
 clear hmp hO hB hd hcd h b1 b2;go_enter Try.func23,Try.ntmps23
 go_wp2_with fail
 go_at_call 48
 refine HT.out.mono ?_
 rintro e w5 ⟨rfl,D5,hm5,hk5,hp5,hb5⟩
 have HB5:=am' hb5
 clear hm5 hk5 hp5 hb5;go_wp2
 go_ret
 exact ⟨rfl,HS.out.trans (HB5.out.mono (by omega))⟩
def impl_FewestOfBest.f (k:Nat) (l0_0:List Int) (a0_1:Int):Option (Int × Bool):=(impl_IsParty.f l0_0 a0_1).bind fun t=>if t=true then ((impl_Party_costs.f k l0_0 a0_1 true).bind fun p=>if p.2=true then (if p.1.length≤1000000 then (fwF (ptyOut k true l0_0 a0_1) p.1 k 0).bind fun r=>some (r,true) else none) else some (0,false)) else some (0,false)
set_option maxHeartbeats 2000000 in
set_option maxRecDepth 100000 in
theorem impl_FewestOfBest.calls (k:Nat) (A0_0:Option Addr) (c0_0:Nat) (l0_0:List Int) (a0_1:Int) (r1:Int) (r2:Bool) (w:World) (hr0_0:Kd.C (Kd.int .i64) w A0_0 l0_0.length l0_0) (hc0_0:l0_0.length≤c0_0) (h:impl_FewestOfBest.f k l0_0 a0_1=some (r1,r2)) :
  Calls Try.prog 8 #[.agg #[.slice A0_0 l0_0.length c0_0, .int .i64 a0_1]] w fun e w'=>e = .returned (.tuple #[.int .i64 r1, .bool r2])∧Below w.heap.size w w':=by
 have hu:=Try.underlying28
 have hug:=Try.underlying46
 unfold impl_FewestOfBest.f at h
 obtain ⟨t,ht,h⟩:=Option.bind_eq_some_iff.mp h
 have HT:=am' (fun (W:World) (hb:Below w.heap.size w W)=>impl_IsParty.calls A0_0 c0_0 l0_0 a0_1 t W (cb' hr0_0 hb) hc0_0 ht)
 have HX:=am' (heap_alloc_new w (.cells #[.slice A0_0 l0_0.length c0_0, .int .i64 a0_1] 28))
 clear ht;have HBX:=am' (ba' (Below.refl w.heap.size w) (.cells #[.slice A0_0 l0_0.length c0_0, .int .i64 a0_1] 28))
 cases t with
 | false =>
  simp only[Bool.false_eq_true,if_false,Option.some.injEq,Prod.mk.injEq] at h;obtain ⟨rfl,rfl⟩:=h;clear hr0_0;go_enter Try.func8,Try.ntmps8;go_wp2_with fail;refine (HT.out _ HBX.out).mono ?_
  rintro e w2 ⟨rfl,hb⟩
  have HB:=am' (bt' HBX.out hb);clear hb;go_wp2;go_ret2
  exact ⟨rfl,HB.out⟩
 | true =>
  simp only[if_true] at h;obtain ⟨⟨r,ok⟩,hc,h⟩:=Option.bind_eq_some_iff.mp h;have HC:=am' (fun (W:World) (hb:Below w.heap.size w W)=>impl_Party_costs.calls k A0_0 c0_0 l0_0 a0_1 true r ok W (cb' hr0_0 hb) hc0_0 hc);have HR0:=am' hr0_0;have HC0:=am' hc0_0;clear hc hr0_0;cases ok with
  | false =>
   simp only[Bool.false_eq_true,if_false,Option.some.injEq,Prod.mk.injEq] at h;obtain ⟨rfl,rfl⟩:=h;go_enter Try.func8,Try.ntmps8;go_wp2_with fail;refine (HT.out _ HBX.out).mono ?_
   rintro e w1 ⟨rfl,hb0⟩
   have HX2:=am' (bb' HX.out hb0);have HBX:=am' (bt' HBX.out hb0);clear hb0;have x10:w1.cell? ⟨w.heap.size,0,none⟩=some (.slice A0_0 l0_0.length c0_0):=(bc' HX2.out 0).trans rfl;have x11:w1.cell? ⟨w.heap.size,1,none⟩=some (.int .i64 a0_1):=(bc' HX2.out 1).trans rfl;go_wp2_with fail;refine (HC.out _ HBX.out).mono ?_
   rintro e w2 ⟨pn,pp,pt,v,rfl,hpn,hpp,hpt,hr,hl,hb⟩
   obtain ⟨Av,cv,rfl⟩:=Kd.R_slice hr;have HB:=am' (bt' HBX.out hb);clear hpn hpp hpt hr hl hb;go_wp2;go_ret2
   exact ⟨rfl,ba' HB.out _⟩
  | true =>
   simp only[if_true] at h;by_cases hlen:r.length≤1000000
   ·
    rw[if_pos hlen] at h;obtain ⟨rr,hrr,h⟩:=Option.bind_eq_some_iff.mp h;simp only[Option.some.injEq,Prod.mk.injEq] at h;obtain ⟨rfl,rfl⟩:=h;have HRR:=am' hrr;have HLE:=am' hlen;clear hrr hlen;go_enter Try.func8,Try.ntmps8;go_wp2_with fail;refine (HT.out _ HBX.out).mono ?_
    rintro e w1 ⟨rfl,hb0⟩
    have HX2:=am' (bb' HX.out hb0);have HBX:=am' (bt' HBX.out hb0);clear hb0;have x10:w1.cell? ⟨w.heap.size,0,none⟩=some (.slice A0_0 l0_0.length c0_0):=(bc' HX2.out 0).trans rfl;have x11:w1.cell? ⟨w.heap.size,1,none⟩=some (.int .i64 a0_1):=(bc' HX2.out 1).trans rfl;go_wp2_with fail;refine (HC.out _ HBX.out).mono ?_
    rintro e w2 ⟨pn,pp,pt,v,rfl,hpn,hpp,hpt,hr,hq,hb⟩
    obtain ⟨Av,cv,rfl⟩:=Kd.R_slice hr;have HB:=am' (bt' HBX.out hb);obtain ⟨gv,hgv⟩:∃ gv,gv=wrap64 (2 * 2 ^ min l0_0.length 64):=⟨_,rfl⟩
    rw[← hgv];have HBA:=am' (ba' (Below.refl w2.heap.size w2) (.cells #[.int .i64 gv, .func (.func 52) #[] #[.pointer (some ⟨pn,0,none⟩), .pointer (some ⟨pp,0,none⟩), .pointer (some ⟨pt,0,none⟩)]] 46));have HF:=am' (fewest_any 52 #[.pointer (some ⟨pn,0,none⟩), .pointer (some ⟨pp,0,none⟩), .pointer (some ⟨pt,0,none⟩)] _ gv r k 0 rr w2 (w2.alloc (.cells #[.int .i64 gv, .func (.func 52) #[] #[.pointer (some ⟨pn,0,none⟩), .pointer (some ⟨pp,0,none⟩), .pointer (some ⟨pt,0,none⟩)]] 46)) (enters_of Try.func52 xk' rfl) (party_out k true A0_0 c0_0 l0_0 a0_1 pn pp pt w2 hpn hpp hpt (cb' HR0.out HB.out) HC0.out) HBA.out Av cv (cb' (Kd.R_reads' hr).2.2 HBA.out) (Kd.R_reads' hr).2.1 HLE.out HRR.out);have HSA:=am' (bt' HB.out HBA.out);clear hpn hpp hpt hr hq hb hgv;go_wp2_with fail;refine HF.out.mono ?_
    rintro e w5 ⟨rfl,hb5⟩
    have HB5:=am' (bt' HSA.out hb5);clear hb5;go_wp2;go_ret2
    exact ⟨rfl,HB5.out⟩
   ·
    rw[if_neg hlen] at h;cases h
def laws_eqIntS.l0:Nat→List Int→List Int→Int→Option (Bool)
 | 0,_,_,_=>none
 | k+1,x0,x1,x5=>if x5 < (x0.length:Int) then (if 0≤x5 then (if x5 < (x1.length:Int) then (if (rd x0 x5)=(rd x1 x5) then (laws_eqIntS.l0 k x0 x1 (wrap64 (x5+1))) else (some false)) else (none)) else (none)) else (some true)
def laws_eqIntS.f (k:Nat) (l0:List Int) (l1:List Int):Option (Bool):=if (l0.length:Int)=(l1.length:Int) then (laws_eqIntS.l0 k l0 l1 0) else (some false)
set_option maxHeartbeats 8000000 in
set_option maxRecDepth 100000 in
theorem laws_eqIntS.calls (k:Nat) (A0:Option Addr) (c0:Nat) (l0:List Int) (A1:Option Addr) (c1:Nat) (l1:List Int) (r:Bool) (w:World) (hr0:Kd.C (Kd.int .i64) w A0 l0.length l0) (hc0:l0.length≤c0) (hr1:Kd.C (Kd.int .i64) w A1 l1.length l1) (hc1:l1.length≤c1) (h:laws_eqIntS.f k l0 l1=some r) :
  Calls Try.prog 24 #[.slice A0 l0.length c0, .slice A1 l1.length c1] w fun e w'=>e = .returned (.bool r)∧Drawn0 w w':=by
 have HR0:=am' hr0
 have HC0:=am' hc0
 clear hr0 hc0;have HR1:=am' hr1
 have HC1:=am' hc1
 clear hr1 hc1;have H:(if (l0.length:Int)=(l1.length:Int) then (laws_eqIntS.l0 k l0 l1 0) else (some false))=some r:=h
 clear h;by_cases c3:(l0.length:Int)=(l1.length:Int)
 ·
  rw[if_pos c3] at H;have c3b0:((l0.length:Int) == (l1.length:Int))=true:=beq_iff_eq.mpr c3;have c3b1:((l0.length:Int) != (l1.length:Int))=false:=bne_eq_false_iff_eq.mpr c3;have c3b2:(l0.length == l1.length)=true:=by first|simpa using c3|(simp at c3 ⊢;omega)
  clear c3;have H':=am' H;clear H;go_enter Try.func24,Try.ntmps24;go_wp2
  repeat (go_quiet (fail);try go_wp2)
  go_loopg [5] k (fun kq v5 w'=>∃ (x5_1:Int),v5 = .int .i64 x5_1∧Aside0 (laws_eqIntS.l0 kq l0 l1 x5_1=some r)∧Aside0 (kq≤k)∧Drawn0 w w')
  case atStart=>exact ⟨(0),xs',H',⟨Nat.le_refl _⟩,by repeat (first|exact Drawn0.refl _|apply Drawn0.step)⟩
  case round =>
   clear H';try clear c1
   try clear c2
   try clear p2
   try clear c3
   try clear c3b0
   try clear c3b1
   try clear c3b2
   obtain ⟨x5_1,rfl,HA,HK1,⟨m1,rfl⟩⟩:=hrel;cases gk with
   | zero=>exact absurd HA.out (by simp[laws_eqIntS.l0])
   | succ k1 =>
    have H:=HA.out;clear HA;simp only[laws_eqIntS.l0] at H;by_cases c4:x5_1 < (l0.length:Int)
    ·
     rw[if_pos c4] at H;have c4b0:decide (x5_1 < (l0.length:Int))=true:=dt' c4;clear c4;by_cases c5:0≤x5_1
     ·
      rw[if_pos c5] at H;have c5b0:decide (0≤x5_1)=true:=dt' c5;clear c5;by_cases c6:x5_1 < (l1.length:Int)
      ·
       rw[if_pos c6] at H;have c6b0:decide (x5_1 < (l1.length:Int))=true:=dt' c6;clear c6;by_cases c7:(rd l0 x5_1)=(rd l1 x5_1)
       ·
        rw[if_pos c7] at H;have c7b0:((rd l0 x5_1) == (rd l1 x5_1))=true:=beq_iff_eq.mpr c7;have c7b1:((rd l0 x5_1) != (rd l1 x5_1))=false:=bne_eq_false_iff_eq.mpr c7;clear c7;have H':=am' H;clear H;have p374:0≤(x5_1:Int):=od' xa';have q374:x5_1 < (l0.length:Int):=od' xa';obtain ⟨ad374,e374,hx374_0⟩:=Kd.at_int HR0.out x5_1 p374 q374;cases e374;replace p374:=eq_true p374;replace q374:=eq_true q374;have p375:0≤(x5_1:Int):=od' xa';have q375:x5_1 < (l1.length:Int):=od' xa';obtain ⟨ad375,e375,hx375_0⟩:=Kd.at_int HR1.out x5_1 p375 q375;cases e375;replace p375:=eq_true p375;replace q375:=eq_true q375;go_wp2
        repeat (go_quiet (fail);try go_wp2)
        go_roundg k1
        case measure=>have:=HK1.out;omega
        case rel=>exact ⟨(wrap64 (x5_1+1)),xs',H',⟨by have:=HK1.out;omega⟩,by repeat (first|exact Drawn0.refl _|apply Drawn0.step)⟩
       ·
        rw[if_neg c7] at H;have c7b0:((rd l0 x5_1) == (rd l1 x5_1))=false:=beq_eq_false_iff_ne.mpr c7;have c7b1:((rd l0 x5_1) != (rd l1 x5_1))=true:=bne_iff_ne.mpr c7;obtain rfl:=os' H;have p374:0≤(x5_1:Int):=od' xa';have q374:x5_1 < (l0.length:Int):=od' xa';obtain ⟨ad374,e374,hx374_0⟩:=Kd.at_int HR0.out x5_1 p374 q374;cases e374;replace p374:=eq_true p374;replace q374:=eq_true q374;have p375:0≤(x5_1:Int):=od' xa';have q375:x5_1 < (l1.length:Int):=od' xa';obtain ⟨ad375,e375,hx375_0⟩:=Kd.at_int HR1.out x5_1 p375 q375;cases e375;replace p375:=eq_true p375;replace q375:=eq_true q375;go_wp2
        repeat (go_quiet (fail);try go_wp2)
        go_ret
        exact ⟨xs',by repeat (first|exact Drawn0.refl _|apply Drawn0.step)⟩
      ·
       rw[if_neg c6] at H;exact absurd H (by simp)
     ·
      rw[if_neg c5] at H;exact absurd H (by simp)
    ·
     rw[if_neg c4] at H;have c4b0:decide (x5_1 < (l0.length:Int))=false:=df' c4;clear c4;obtain rfl:=os' H;go_wp2
     repeat (go_quiet (fail);try go_wp2)
     go_ret
     exact ⟨xs',by repeat (first|exact Drawn0.refl _|apply Drawn0.step)⟩
 ·
  rw[if_neg c3] at H;have c3b0:((l0.length:Int) == (l1.length:Int))=false:=beq_eq_false_iff_ne.mpr c3;have c3b1:((l0.length:Int) != (l1.length:Int))=true:=bne_iff_ne.mpr c3;have c3b2:(l0.length == l1.length)=false:=by first|simpa using c3|(simp at c3 ⊢;omega)
  obtain rfl:=os' H;go_enter Try.func24,Try.ntmps24;go_wp2
  repeat (go_quiet (fail);try go_wp2)
  go_ret
  exact ⟨xs',by repeat (first|exact Drawn0.refl _|apply Drawn0.step)⟩
def laws_eqParty.f (k:Nat) (l0_0:List Int) (a0_1:Int) (l1_0:List Int) (a1_1:Int):Option (Bool):=(laws_eqIntS.f k l0_0 l1_0).bind fun t378=>(if t378=true then (if a0_1=a1_1 then (some true) else (some false)) else (some false))
set_option maxHeartbeats 8000000 in
set_option maxRecDepth 100000 in
theorem laws_eqParty.calls (k:Nat) (A0_0:Option Addr) (c0_0:Nat) (l0_0:List Int) (a0_1:Int) (A1_0:Option Addr) (c1_0:Nat) (l1_0:List Int) (a1_1:Int) (r:Bool) (w:World) (hr0_0:Kd.C (Kd.int .i64) w A0_0 l0_0.length l0_0) (hc0_0:l0_0.length≤c0_0) (hr1_0:Kd.C (Kd.int .i64) w A1_0 l1_0.length l1_0) (hc1_0:l1_0.length≤c1_0) (h:laws_eqParty.f k l0_0 a0_1 l1_0 a1_1=some r) :
  Calls Try.prog 9 #[.agg #[.slice A0_0 l0_0.length c0_0, .int .i64 a0_1], .agg #[.slice A1_0 l1_0.length c1_0, .int .i64 a1_1]] w fun e w'=>e = .returned (.bool r)∧Below w.heap.size w w':=by
 have hu28:=Try.underlying28
 have HR0_0:=am' hr0_0
 have HC0_0:=am' hc0_0
 clear hr0_0 hc0_0;have HR1_0:=am' hr1_0
 have HC1_0:=am' hc1_0
 clear hr1_0 hc1_0;have HB:=am' (Below.refl w.heap.size w)
 have H:((laws_eqIntS.f k l0_0 l1_0).bind fun t378=>(if t378=true then (if a0_1=a1_1 then (some true) else (some false)) else (some false)))=some r:=h
 clear h;replace H:=Option.bind_eq_some_iff.mp H
 obtain ⟨t378,A30,H⟩:=H
 replace H:(if t378=true then (if a0_1=a1_1 then (some true) else (some false)) else (some false))=some r:=H
 have A3:=am' A30
 clear A30;by_cases c4:t378=true
 ·
  subst c4;have H1:(if a0_1=a1_1 then (some true) else (some false))=some r:=by rw[if_pos rfl] at H;exact H
  clear H;have H:=H1;clear H1;by_cases c5:a0_1=a1_1
  ·
   rw[if_pos c5] at H;have c5b0:(a0_1 == a1_1)=true:=beq_iff_eq.mpr c5;have c5b1:(a0_1 != a1_1)=false:=bne_eq_false_iff_eq.mpr c5;clear c5;obtain rfl:=os' H;go_enter Try.func9,Try.ntmps9;go_wp2_with (first|((with_reducible refine gate_dst (N:=2) rfl ?_);refine box_event ?hg (N:=2) ?hd (cs:=#[.slice A0_0 l0_0.length c0_0, .int .i64 a0_1]) (t:=28) ?hr ?_;(case hd=>rfl);(case hg=>rfl);(case hr=>first|(go_simp;done)|(go_simp;rfl));intro gb376 hg w6 hbox hb;have n0_:=am' (bt' xb' hb);have n1_:=am' (hbox);have n2_:=am' ((by rw[hg];exact (bz' xb'):w.heap.size≤gb376));have n3_:=am' ((by rw[hg];exact (bz' xb'):w.heap.size≤gb376));clear HB;have HB:=n0_;have BK376:=n1_;have GW376:=n2_;have GE376:=n3_;clear n0_ n1_ n2_ n3_;clear hb hbox hg)|((with_reducible refine gate_dst (N:=3) rfl ?_);refine box_event ?hg (N:=3) ?hd (cs:=#[.slice A1_0 l1_0.length c1_0, .int .i64 a1_1]) (t:=28) ?hr ?_;(case hd=>rfl);(case hg=>rfl);(case hr=>first|(go_simp;done)|(go_simp;rfl));intro gb377 hg w7 hbox hb;have n0_:=am' (bb' (g:=gb376) (o := .cells #[.slice A0_0 l0_0.length c0_0, .int .i64 a0_1] 28 (0,0)) (kk' BK376.out) hb);have n1_:=am' (bt' (yb' GE376.out) hb);have n2_:=am' (hbox);have n3_:=am' ((by rw[hg];exact (bz' (yb' GE376.out)):w.heap.size≤gb377));have n4_:=am' ((by rw[hg];exact (bz' (yb' GE376.out)):w.heap.size≤gb377));have n5_:=am' ((by rw[hg];exact Nat.ne_of_lt (blk_lt (g:=gb376) (o := .cells #[.slice A0_0 l0_0.length c0_0, .int .i64 a0_1] 28 (0,0)) (kk' BK376.out)):gb376≠gb377));have n6_:=am' ((by rw[hg];exact Nat.ne_of_gt (blk_lt (g:=gb376) (o := .cells #[.slice A0_0 l0_0.length c0_0, .int .i64 a0_1] 28 (0,0)) (kk' BK376.out)):gb377≠gb376));clear BK376;clear HB;have BK376:=n0_;have HB:=n1_;have BK377:=n2_;have GW377:=n3_;have GE377:=n4_;have NB376_377:=n5_;have NB377_376:=n6_;clear n0_ n1_ n2_ n3_ n4_ n5_ n6_;clear hb hbox hg;have hnb8:=NB376_377.out;have hnc8:=NB377_376.out;have hcz9_0:w7.cell? ⟨gb376,0,none⟩=some (.slice A0_0 l0_0.length c0_0):=(bc' BK376.out 0).trans rfl;have hcz9_1:w7.cell? ⟨gb376,1,none⟩=some (.int .i64 a0_1):=(bc' BK376.out 1).trans rfl;have hfz9_0:=bf' BK376.out 0;have hfz9_1:=bf' BK376.out 1;have hcz10_0:w7.cell? ⟨gb377,0,none⟩=some (.slice A1_0 l1_0.length c1_0):=(bc' BK377.out 0).trans rfl;have hcz10_1:w7.cell? ⟨gb377,1,none⟩=some (.int .i64 a1_1):=(bc' BK377.out 1).trans rfl;have hfz10_0:=bf' BK377.out 0;have hfz10_1:=bf' BK377.out 1)|((with_reducible refine gate_callee (f:=24) rfl ?_);refine goesL_ (some 9) rfl rfl Try.func24 xk' rfl #[.slice A0_0 l0_0.length c0_0, .slice A1_0 l1_0.length c1_0] rfl xl' ?_;(with_reducible refine (laws_eqIntS.calls k _ _ l0_0 _ _ l1_0 true _ ?side1 ?side2 ?side3 ?side4 A3.out).mono ?_);(case side1=>exact kc' (cb' HR0_0.out HB.out));(case side2=>exact HC0_0.out);(case side3=>exact kc' (cb' HR1_0.out HB.out));(case side4=>exact HC1_0.out);rintro e w' ⟨rfl,⟨nd,rfl⟩⟩;refine ⟨_,rfl,?_⟩))
   go_ret
   exact ⟨by first|rfl|(simp[errW_none,errW_some] <;> rfl)|(simp[*,errW_none,errW_some] <;> rfl),y2' GE376.out GE377.out⟩
  ·
   rw[if_neg c5] at H;have c5b0:(a0_1 == a1_1)=false:=beq_eq_false_iff_ne.mpr c5;have c5b1:(a0_1 != a1_1)=true:=bne_iff_ne.mpr c5;obtain rfl:=os' H;go_enter Try.func9,Try.ntmps9;go_wp2_with (first|((with_reducible refine gate_dst (N:=2) rfl ?_);refine box_event ?hg (N:=2) ?hd (cs:=#[.slice A0_0 l0_0.length c0_0, .int .i64 a0_1]) (t:=28) ?hr ?_;(case hd=>rfl);(case hg=>rfl);(case hr=>first|(go_simp;done)|(go_simp;rfl));intro gb376 hg w11 hbox hb;have n0_:=am' (bt' xb' hb);have n1_:=am' (hbox);have n2_:=am' ((by rw[hg];exact (bz' xb'):w.heap.size≤gb376));have n3_:=am' ((by rw[hg];exact (bz' xb'):w.heap.size≤gb376));clear HB;have HB:=n0_;have BK376:=n1_;have GW376:=n2_;have GE376:=n3_;clear n0_ n1_ n2_ n3_;clear hb hbox hg)|((with_reducible refine gate_dst (N:=3) rfl ?_);refine box_event ?hg (N:=3) ?hd (cs:=#[.slice A1_0 l1_0.length c1_0, .int .i64 a1_1]) (t:=28) ?hr ?_;(case hd=>rfl);(case hg=>rfl);(case hr=>first|(go_simp;done)|(go_simp;rfl));intro gb377 hg w12 hbox hb;have n0_:=am' (bb' (g:=gb376) (o := .cells #[.slice A0_0 l0_0.length c0_0, .int .i64 a0_1] 28 (0,0)) (kk' BK376.out) hb);have n1_:=am' (bt' (yb' GE376.out) hb);have n2_:=am' (hbox);have n3_:=am' ((by rw[hg];exact (bz' (yb' GE376.out)):w.heap.size≤gb377));have n4_:=am' ((by rw[hg];exact (bz' (yb' GE376.out)):w.heap.size≤gb377));have n5_:=am' ((by rw[hg];exact Nat.ne_of_lt (blk_lt (g:=gb376) (o := .cells #[.slice A0_0 l0_0.length c0_0, .int .i64 a0_1] 28 (0,0)) (kk' BK376.out)):gb376≠gb377));have n6_:=am' ((by rw[hg];exact Nat.ne_of_gt (blk_lt (g:=gb376) (o := .cells #[.slice A0_0 l0_0.length c0_0, .int .i64 a0_1] 28 (0,0)) (kk' BK376.out)):gb377≠gb376));clear BK376;clear HB;have BK376:=n0_;have HB:=n1_;have BK377:=n2_;have GW377:=n3_;have GE377:=n4_;have NB376_377:=n5_;have NB377_376:=n6_;clear n0_ n1_ n2_ n3_ n4_ n5_ n6_;clear hb hbox hg;have hnb13:=NB376_377.out;have hnc13:=NB377_376.out;have hcz14_0:w12.cell? ⟨gb376,0,none⟩=some (.slice A0_0 l0_0.length c0_0):=(bc' BK376.out 0).trans rfl;have hcz14_1:w12.cell? ⟨gb376,1,none⟩=some (.int .i64 a0_1):=(bc' BK376.out 1).trans rfl;have hfz14_0:=bf' BK376.out 0;have hfz14_1:=bf' BK376.out 1;have hcz15_0:w12.cell? ⟨gb377,0,none⟩=some (.slice A1_0 l1_0.length c1_0):=(bc' BK377.out 0).trans rfl;have hcz15_1:w12.cell? ⟨gb377,1,none⟩=some (.int .i64 a1_1):=(bc' BK377.out 1).trans rfl;have hfz15_0:=bf' BK377.out 0;have hfz15_1:=bf' BK377.out 1)|((with_reducible refine gate_callee (f:=24) rfl ?_);refine goesL_ (some 9) rfl rfl Try.func24 xk' rfl #[.slice A0_0 l0_0.length c0_0, .slice A1_0 l1_0.length c1_0] rfl xl' ?_;(with_reducible refine (laws_eqIntS.calls k _ _ l0_0 _ _ l1_0 true _ ?side1 ?side2 ?side3 ?side4 A3.out).mono ?_);(case side1=>exact kc' (cb' HR0_0.out HB.out));(case side2=>exact HC0_0.out);(case side3=>exact kc' (cb' HR1_0.out HB.out));(case side4=>exact HC1_0.out);rintro e w' ⟨rfl,⟨nd,rfl⟩⟩;refine ⟨_,rfl,?_⟩))
   go_ret
   exact ⟨by first|rfl|(simp[errW_none,errW_some] <;> rfl)|(simp[*,errW_none,errW_some] <;> rfl),y2' GE376.out GE377.out⟩
 ·
  replace c4:=Bool.eq_false_iff.mpr c4;subst c4;have H1:(some false)=some r:=by rw[if_neg (show ¬ (false=true) by decide)] at H;exact H
  clear H;have H:=H1;clear H1;obtain rfl:=os' H;go_enter Try.func9,Try.ntmps9;go_wp2_with (first|((with_reducible refine gate_dst (N:=2) rfl ?_);refine box_event ?hg (N:=2) ?hd (cs:=#[.slice A0_0 l0_0.length c0_0, .int .i64 a0_1]) (t:=28) ?hr ?_;(case hd=>rfl);(case hg=>rfl);(case hr=>first|(go_simp;done)|(go_simp;rfl));intro gb376 hg w16 hbox hb;have n0_:=am' (bt' xb' hb);have n1_:=am' (hbox);have n2_:=am' ((by rw[hg];exact (bz' xb'):w.heap.size≤gb376));have n3_:=am' ((by rw[hg];exact (bz' xb'):w.heap.size≤gb376));clear HB;have HB:=n0_;have BK376:=n1_;have GW376:=n2_;have GE376:=n3_;clear n0_ n1_ n2_ n3_;clear hb hbox hg)|((with_reducible refine gate_dst (N:=3) rfl ?_);refine box_event ?hg (N:=3) ?hd (cs:=#[.slice A1_0 l1_0.length c1_0, .int .i64 a1_1]) (t:=28) ?hr ?_;(case hd=>rfl);(case hg=>rfl);(case hr=>first|(go_simp;done)|(go_simp;rfl));intro gb377 hg w17 hbox hb;have n0_:=am' (bb' (g:=gb376) (o := .cells #[.slice A0_0 l0_0.length c0_0, .int .i64 a0_1] 28 (0,0)) (kk' BK376.out) hb);have n1_:=am' (bt' (yb' GE376.out) hb);have n2_:=am' (hbox);have n3_:=am' ((by rw[hg];exact (bz' (yb' GE376.out)):w.heap.size≤gb377));have n4_:=am' ((by rw[hg];exact (bz' (yb' GE376.out)):w.heap.size≤gb377));have n5_:=am' ((by rw[hg];exact Nat.ne_of_lt (blk_lt (g:=gb376) (o := .cells #[.slice A0_0 l0_0.length c0_0, .int .i64 a0_1] 28 (0,0)) (kk' BK376.out)):gb376≠gb377));have n6_:=am' ((by rw[hg];exact Nat.ne_of_gt (blk_lt (g:=gb376) (o := .cells #[.slice A0_0 l0_0.length c0_0, .int .i64 a0_1] 28 (0,0)) (kk' BK376.out)):gb377≠gb376));clear BK376;clear HB;have BK376:=n0_;have HB:=n1_;have BK377:=n2_;have GW377:=n3_;have GE377:=n4_;have NB376_377:=n5_;have NB377_376:=n6_;clear n0_ n1_ n2_ n3_ n4_ n5_ n6_;clear hb hbox hg;have hnb18:=NB376_377.out;have hnc18:=NB377_376.out;have hcz19_0:w17.cell? ⟨gb376,0,none⟩=some (.slice A0_0 l0_0.length c0_0):=(bc' BK376.out 0).trans rfl;have hcz19_1:w17.cell? ⟨gb376,1,none⟩=some (.int .i64 a0_1):=(bc' BK376.out 1).trans rfl;have hfz19_0:=bf' BK376.out 0;have hfz19_1:=bf' BK376.out 1;have hcz20_0:w17.cell? ⟨gb377,0,none⟩=some (.slice A1_0 l1_0.length c1_0):=(bc' BK377.out 0).trans rfl;have hcz20_1:w17.cell? ⟨gb377,1,none⟩=some (.int .i64 a1_1):=(bc' BK377.out 1).trans rfl;have hfz20_0:=bf' BK377.out 0;have hfz20_1:=bf' BK377.out 1)|((with_reducible refine gate_callee (f:=24) rfl ?_);refine goesL_ (some 9) rfl rfl Try.func24 xk' rfl #[.slice A0_0 l0_0.length c0_0, .slice A1_0 l1_0.length c1_0] rfl xl' ?_;(with_reducible refine (laws_eqIntS.calls k _ _ l0_0 _ _ l1_0 false _ ?side1 ?side2 ?side3 ?side4 A3.out).mono ?_);(case side1=>exact kc' (cb' HR0_0.out HB.out));(case side2=>exact HC0_0.out);(case side3=>exact kc' (cb' HR1_0.out HB.out));(case side4=>exact HC1_0.out);rintro e w' ⟨rfl,⟨nd,rfl⟩⟩;refine ⟨_,rfl,?_⟩))
  go_ret
  exact ⟨by first|rfl|(simp[errW_none,errW_some] <;> rfl)|(simp[*,errW_none,errW_some] <;> rfl),y2' GE376.out GE377.out⟩
end Go.Proofs.Ytihieplobgehaaa.C2
