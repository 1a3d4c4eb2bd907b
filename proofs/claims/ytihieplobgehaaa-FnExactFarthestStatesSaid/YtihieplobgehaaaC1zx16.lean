import Derived.Test.YtihieplobgehaaaC1zx0
import Derived.Test.YtihieplobgehaaaC1zx15
import Derived.Test.YtihieplobgehaaaC1zAl
namespace Go.Proofs.Ytihieplobgehaaa.C1
open Go.RowKit Go.Proofs.YtihieplobgehaaaW.PrintWords Go.Proofs.YtihieplobgehaaaW.PrintLast Go.Proofs.YtihieplobgehaaaW.PrintMore Go.Proofs.Ytihieplobgehaaa.H
attribute [local go_sem] max2_int min2_int max_two min_two max_three min_three max_four min_four
set_option linter.unusedVariables false
set_option linter.unusedSimpArgs false
def mkST:List S54→Int→Int × List S54
 | [],a=>(a,[])
 | s :: l,a=>((mkST l (wrap64 ((mkB s.f0 a).1+1))).1,⟨(mkB s.f0 a).2,Int.tmod (mkB s.f0 a).1 3 == 0⟩ :: (mkST l (wrap64 ((mkB s.f0 a).1+1))).2)
theorem markBoolS_loop':∀ (r pre:List Bool) (a:Int),(pre ++ r).length≤9223372036854775807→Ev (fun k=>laws_markBoolS.l0 k (pre ++ r) a (pre.length:Int)) ((mkB r a).1,pre ++ (mkB r a).2):=by
 intro r;induction r with
 | nil =>
  intro pre a hl;refine Ev.step (f:=fun _=>some _) (fun k=>?_) (Ev.now _);simp only[laws_markBoolS.l0];rw[if_neg (nlt_end pre)];rfl
 | cons x r ih =>
  intro pre a hl;refine Ev.step (fun k=>?_) (ev_eq (ih (pre ++ [Int.tmod a 3 == 0]) (wrap64 (a+1)) (by simpa using hl)) (by simp[mkB]));simp only[laws_markBoolS.l0];rw[if_pos (lt_mid pre x r),if_pos (zle _),set_mid,wr_mid pre x r hl,app_mid pre (Int.tmod a 3 == 0) r];simp
def laws_markStateS.f (l0:List S54) (a1:Int):Option (Int × List S54):=some (mkST l0 a1)
set_option maxHeartbeats 4000000 in
set_option maxRecDepth 100000 in
theorem laws_markStateS.calls (P0_:Nat→Prop) (u9000_:Value) (l0:List S54) (a1:Int) (r1:Int) (r2:List S54) (w0 w:World) (hB:Below w0.heap.size w0 w) (ho0:Kd.S k54 54 w w0.heap.size P0_ u9000_ l0) (h:laws_markStateS.f l0 a1=some (r1,r2)) :
  Calls Try.prog 14 #[u9000_, .int .i64 a1] w fun e w'=>e = .returned (.int .i64 r1)∧Kd.S k54 54 w' w0.heap.size P0_ u9000_ r2∧Below w0.heap.size w0 w'∧Kept w w' (fun k_=>P0_ k_):=by
 have hus:=Try.underlying54
 obtain ⟨A,c,rfl,hlc,hC⟩:=Kd.S_reads ho0
 have hbig:=hC.2.1
 have HE:=am' (Option.some.inj h)
 have HS:=am' ho0
 have HB:=am' hB
 clear h ho0 hB hC hlc;go_enter Try.func14,Try.ntmps14
 go_wp2
 go_loopg [1,5] l0.length (fun gg v1 v5 wr=>∃ (pre r:List S54) (a':Int),l0.length - pre.length≤gg∧pre.length+r.length=l0.length∧v1 = .int .i64 a'∧v5 = .int .i64 (pre.length:Int)∧Aside0 (mkST l0 a1=((mkST r a').1,pre ++ (mkST r a').2))∧Aside0 (Kd.S k54 54 wr w0.heap.size P0_ (.slice A l0.length c) (pre ++ r))∧Aside0 (Below w0.heap.size w0 wr)∧Aside0 (Kept w wr P0_))
 case atStart=>exact ⟨[],l0,a1,by simp,by simp,rfl,rfl,⟨rfl⟩,HS,HB,⟨Kept.refl _ _⟩⟩
 case round =>
  obtain ⟨pre,r,a',hg,hlen,rfl,rfl,HM,HS,HB,HK⟩:=hrel;cases r with
  | nil =>
   have e:pre.length=l0.length:=by simpa using hlen
   have hnl:¬ (pre.length:Int) < (l0.length:Int):=by omega
   go_wp2;go_ret
   have hm:=HE.out.symm.trans HM.out;simp only[mkST,List.append_nil,Prod.mk.injEq] at hm;obtain ⟨rfl,rfl⟩:=hm;exact ⟨rfl,by have:=HS.out;rwa [List.append_nil] at this,HB.out,HK.out⟩
  | cons x r =>
   have hlt:pre.length < l0.length:=by simp at hlen;omega
   have hltz:(pre.length:Int) < (l0.length:Int):=by omega
   have hform:=Kd.S_form HS.out (by simp only[List.length_append,List.length_cons];omega);obtain ⟨g,cap,hv,hgb,hgl,cells,hgc⟩:=hform;injection hv with hA hn hcap
   subst hA;clear hcap hn;obtain ⟨oki,ce,hcl,hM,hcc,hoki,hH⟩:=Kd.S_lend HS.out z54 (pre.length:Int) (zle _) hltz;have hget:(pre ++ x :: r).getD ((pre.length:Int)).toNat z54=x:=by simp
   rw[hget] at hM;obtain ⟨v,rfl,hR⟩:=k54_openM hM;have hsz:k54.sz=2:=rfl;have x0:wr.cell? ⟨g,pre.length * 2,none⟩=some v:=by have:=hcc 0 v rfl;rw[hsz,Int.toNat_natCast,Nat.add_zero] at this;exact this
   have x1:wr.cell? ⟨g,pre.length * 2+1,none⟩=some (.bool x.f1):=by have:=hcc 1 (.bool x.f1) rfl;rw[hsz,Int.toNat_natCast] at this;exact this
   obtain ⟨A',c',rfl⟩:=Kd.R_slice hR;obtain ⟨kk,hk⟩:=(markBoolS_loop' x.f0 [] a' (by have:=(Kd.R_reads' hR).2.2.2.1;simpa using this)).rounds;have hc1:=laws_markBoolS.calls kk oki (.slice A' x.f0.length c') x.f0 a' (mkB x.f0 a').1 (mkB x.f0 a').2 w0 wr HB.out hR hk;have HH:=am' hH;have HR:=am' hR;have HO:=am' hoki;have HC1:=am' hc1;have HGC:=am' hgc;have HGB:=am' hgb;obtain ⟨b',hb'⟩:∃ b,b=(mkB x.f0 a').1:=⟨_,rfl⟩
   have HBB:=am' hb';rw[← hb'] at HC1;clear hH hR hoki hc1 hcc hcl hgc hgl hgb hget hM hk hsz hb';go_wp2_with (go_at_call 36;refine HC1.out.mono ?_;rintro e w' ⟨rfl,hy,hb,hkp⟩;have HY:=am' hy;have HB':=am' hb;have HKP:=am' hkp;have HG':=am' (blk_kept HGC.out hkp (fun q=>(HO.out g q).2 rfl));have y1:w'.cell? ⟨g,pre.length * 2+1,none⟩=some (.bool x.f1):=cell_kept x1 hkp (fun q=>(HO.out g q).2 rfl);have y2:=blk_frozen HG'.out (pre.length * 2+1);clear hy hb hkp x0 x1);go_roundg (l0.length - (pre.length+1))
   case measure=>omega
   case rel =>
    have hseg:=Kd.S_seg (okg:=fun _=>False) (okp:=oki) (Kd.H_mono (ok':=fun k_=>P0_ k_∧¬ False) (Kd.H_kept HH.out HKP.out (fun k _ h2 h3=>h2 h3)) (fun k_ hk=>⟨hk,fun q=>q.elim⟩)) (zle _) hltz (seg:=[.bool (Int.tmod b' 3 == 0)]) (j:=1) (x':=⟨(mkB x.f0 a').2,Int.tmod b' 3 == 0⟩) (Nat.le_refl 2) (k54_mkM _ _ _ ⟨(mkB x.f0 a').2,Int.tmod b' 3 == 0⟩ (Kd.R_reok rfl HY.out (fun k e=>HR.out.1 k e))) (fun k_ hk => .inl hk) (fun k_ hk=>hk.elim);have h1:=hseg.1;have hP0:P0_ g:=by obtain ⟨_,hh⟩:=HS.out;exact hh.1 g rfl
    simp only[show k54.sz=2 from rfl,Int.toNat_natCast] at h1;refine ⟨pre ++ [⟨(mkB x.f0 a').2,Int.tmod b' 3 == 0⟩],r,wrap64 (b'+1),by simp,by simp at hlen ⊢;omega,rfl,?_,⟨?_⟩,⟨?_⟩,⟨bs' HB'.out HGB.out⟩,⟨?_⟩⟩
    ·
     simp
    ·
     rw[HM.out,HBB.out];simp[mkST]
    ·
     have h2:(pre ++ x :: r).set pre.length ⟨(mkB x.f0 a').2,Int.tmod b' 3 == 0⟩=(pre ++ [⟨(mkB x.f0 a').2,Int.tmod b' 3 == 0⟩]) ++ r:=by simp
     rw[h2] at h1;exact h1
    ·
     exact Kept.setCell (Kept.then_ HK.out HKP.out (fun k hk => .inl (HO.out k hk).1)) (.inl hP0) _
def laws_heldBoolS.l0:Nat→List Bool→Int→Int→Option (Int)
 | 0,_,_,_=>none
 | k+1,x0,x1,x5=>if x5 < (x0.length:Int) then (if 0≤x5 then (if ((rdOf false x0 x5) != ((Int.tmod x1 3) == 0))=true then (some (-1)) else (laws_heldBoolS.l0 k x0 (wrap64 (x1+1)) (wrap64 (x5+1)))) else (none)) else (some x1)
def laws_heldBoolS.f (k:Nat) (l0:List Bool) (a1:Int):Option (Int):=laws_heldBoolS.l0 k l0 a1 0
set_option maxHeartbeats 8000000 in
set_option maxRecDepth 100000 in
theorem laws_heldBoolS.calls (k:Nat) (A0:Option Addr) (c0:Nat) (l0:List Bool) (a1:Int) (r:Int) (w:World) (hr0:Kd.C Kd.bool w A0 l0.length l0) (hc0:l0.length≤c0) (h:laws_heldBoolS.f k l0 a1=some r) :
  Calls Try.prog 37 #[.slice A0 l0.length c0, .int .i64 a1] w fun e w'=>e = .returned (.int .i64 r)∧Drawn0 w w':=by
 have HR0:=am' hr0
 have HC0:=am' hc0
 clear hr0 hc0;have H:(laws_heldBoolS.l0 k l0 a1 0)=some r:=h
 clear h;have H':=am' H
 clear H;go_enter Try.func37,Try.ntmps37
 go_wp2
 go_loopg [1,5] k (fun kq v1 v5 w'=>∃ (x1_1:Int) (x5_1:Int),v1 = .int .i64 x1_1∧v5 = .int .i64 x5_1∧Aside0 (laws_heldBoolS.l0 kq l0 x1_1 x5_1=some r)∧Aside0 (kq≤k)∧Drawn0 w w')
 case atStart=>exact ⟨(a1),(0),(by first|rfl|(simp;done)|(simp[*];done)),(by first|rfl|(simp;done)|(simp[*];done)),H',⟨Nat.le_refl _⟩,by repeat (first|exact Drawn0.refl _|apply Drawn0.step)⟩
 case round =>
  clear H';try clear p2
  obtain ⟨x1_1,x5_1,rfl,rfl,HA,HK1,⟨m1,rfl⟩⟩:=hrel;cases gk with
  | zero=>exact absurd HA.out (by simp[laws_heldBoolS.l0])
  | succ k1 =>
   have H:=HA.out;clear HA;simp only[laws_heldBoolS.l0] at H;by_cases c3:x5_1 < (l0.length:Int)
   ·
    rw[if_pos c3] at H;have c3b0:decide (x5_1 < (l0.length:Int))=true:=decide_eq_true c3;clear c3;by_cases c4:0≤x5_1
    ·
     rw[if_pos c4] at H;have c4b0:decide (0≤x5_1)=true:=decide_eq_true c4;clear c4;by_cases c5:((rdOf false l0 x5_1) != ((Int.tmod x1_1 3) == 0))=true
     ·
      rw[if_pos c5] at H;have c5b0:((rdOf false l0 x5_1) != ((Int.tmod x1_1 3) == 0))=true:=c5
      (try (have c5b1:decide ((rdOf false l0 x5_1)=((Int.tmod x1_1 3) == 0))=false:=by simpa using c5))
      (try (have c5b2:((rdOf false l0 x5_1) == ((Int.tmod x1_1 3) == 0))=false:=by simpa using c5))
      (try (have c5b3:¬ ((rdOf false l0 x5_1)=((Int.tmod x1_1 3) == 0)):=by simpa using c5))
      clear c5;obtain rfl:=Option.some.inj H;have p319:0≤(x5_1:Int):=of_decide_eq_true (by first|(with_reducible assumption)|assumption);have q319:x5_1 < (l0.length:Int):=of_decide_eq_true (by first|(with_reducible assumption)|assumption);obtain ⟨ad319,e319,hx319_0⟩:=Kd.at_bool HR0.out x5_1 p319 q319;cases e319;replace p319:=eq_true p319;replace q319:=eq_true q319;go_wp2;go_ret
      exact ⟨by first|rfl|(simp;done)|(simp[*];done),by repeat (first|exact Drawn0.refl _|apply Drawn0.step)⟩
     ·
      rw[if_neg c5] at H;have c5b0:((rdOf false l0 x5_1) != ((Int.tmod x1_1 3) == 0))=false:=by simpa using c5
      (try (have c5b1:decide ((rdOf false l0 x5_1)=((Int.tmod x1_1 3) == 0))=true:=by simpa using c5))
      (try (have c5b2:((rdOf false l0 x5_1) == ((Int.tmod x1_1 3) == 0))=true:=by simpa using c5))
      clear c5;have H':=am' H;clear H;have p319:0≤(x5_1:Int):=of_decide_eq_true (by first|(with_reducible assumption)|assumption);have q319:x5_1 < (l0.length:Int):=of_decide_eq_true (by first|(with_reducible assumption)|assumption);obtain ⟨ad319,e319,hx319_0⟩:=Kd.at_bool HR0.out x5_1 p319 q319;cases e319;replace p319:=eq_true p319;replace q319:=eq_true q319;go_wp2;go_roundg k1
      case measure=>have:=HK1.out;omega
      case rel=>exact ⟨(wrap64 (x1_1+1)),(wrap64 (x5_1+1)),(by first|rfl|(simp;done)|(simp[*];done)),(by first|rfl|(simp;done)|(simp[*];done)),H',⟨by have:=HK1.out;omega⟩,by repeat (first|exact Drawn0.refl _|apply Drawn0.step)⟩
    ·
     rw[if_neg c4] at H;exact absurd H (by simp)
   ·
    rw[if_neg c3] at H;have c3b0:decide (x5_1 < (l0.length:Int))=false:=decide_eq_false c3;clear c3;obtain rfl:=Option.some.inj H;go_wp2;go_ret
    exact ⟨by first|rfl|(simp;done)|(simp[*];done),by repeat (first|exact Drawn0.refl _|apply Drawn0.step)⟩
def laws_heldStateS.l0:Nat→List (S54)→Int→Int→Option (Int)
 | 0,_,_,_=>none
 | k+1,x0,x1,x5=>if x5 < (x0.length:Int) then (if 0≤x5 then ((laws_heldBoolS.f k ((rd_T54 x0 x5).f0) x1).bind fun t321=>(if t321 < 0 then (some (-1)) else (if (((rd_T54 x0 x5).f1) != ((Int.tmod t321 3) == 0))=true then (some (-1)) else (laws_heldStateS.l0 k x0 (wrap64 (t321+1)) (wrap64 (x5+1)))))) else (none)) else (some x1)
def laws_heldStateS.f (k:Nat) (l0:List (S54)) (a1:Int):Option (Int):=laws_heldStateS.l0 k l0 a1 0
set_option maxHeartbeats 8000000 in
set_option maxRecDepth 100000 in
theorem laws_heldStateS.calls (k:Nat) (A0:Option Addr) (c0:Nat) (l0:List (S54)) (a1:Int) (r:Int) (w:World) (hr0:Kd.C k54 w A0 l0.length l0) (hc0:l0.length≤c0) (h:laws_heldStateS.f k l0 a1=some r) :
  Calls Try.prog 15 #[.slice A0 l0.length c0, .int .i64 a1] w fun e w'=>e = .returned (.int .i64 r)∧Drawn0 w w':=by
 have HR0:=am' hr0
 have HC0:=am' hc0
 clear hr0 hc0;have H:(laws_heldStateS.l0 k l0 a1 0)=some r:=h
 clear h;have H':=am' H
 clear H;go_enter Try.func15,Try.ntmps15
 go_wp2
 go_loopg [1,5] k (fun kq v1 v5 w'=>∃ (x1_1:Int) (x5_1:Int),v1 = .int .i64 x1_1∧v5 = .int .i64 x5_1∧Aside0 (laws_heldStateS.l0 kq l0 x1_1 x5_1=some r)∧Aside0 (kq≤k)∧Drawn0 w w')
 case atStart=>exact ⟨(a1),(0),(by first|rfl|(simp;done)|(simp[*];done)),(by first|rfl|(simp;done)|(simp[*];done)),H',⟨Nat.le_refl _⟩,by repeat (first|exact Drawn0.refl _|apply Drawn0.step)⟩
 case round =>
  clear H';try clear c1
  try clear p2
  obtain ⟨x1_1,x5_1,rfl,rfl,HA,HK1,⟨m1,rfl⟩⟩:=hrel;cases gk with
  | zero=>exact absurd HA.out (by simp[laws_heldStateS.l0])
  | succ k1 =>
   have H:=HA.out;clear HA;simp only[laws_heldStateS.l0] at H;by_cases c3:x5_1 < (l0.length:Int)
   ·
    rw[if_pos c3] at H;have c3b0:decide (x5_1 < (l0.length:Int))=true:=decide_eq_true c3;clear c3;by_cases c4:0≤x5_1
    ·
     rw[if_pos c4] at H;have c4b0:decide (0≤x5_1)=true:=decide_eq_true c4;clear c4;replace H:=Option.bind_eq_some_iff.mp H;obtain ⟨t321,A50,H⟩:=H;replace H:(if t321 < 0 then (some (-1)) else (if (((rd_T54 l0 x5_1).f1) != ((Int.tmod t321 3) == 0))=true then (some (-1)) else (laws_heldStateS.l0 k1 l0 (wrap64 (t321+1)) (wrap64 (x5_1+1)))))=some r:=H;have A5:=am' A50;clear A50;by_cases c6:t321 < 0
     ·
      rw[if_pos c6] at H;have c6b0:decide (t321 < 0)=true:=decide_eq_true c6;clear c6;obtain rfl:=Option.some.inj H;have p320:0≤(x5_1:Int):=of_decide_eq_true (by first|(with_reducible assumption)|assumption);have q320:x5_1 < (l0.length:Int):=of_decide_eq_true (by first|(with_reducible assumption)|assumption);obtain ⟨ad320,A320_0,c320_0,e320,hx320_0,hx320_1,hl320_0,hi320_0⟩:=at_T54 HR0.out x5_1 p320 q320;cases e320;have HR320_0:=am' hi320_0;have HC320_0:=am' hl320_0;clear hi320_0 hl320_0;replace p320:=eq_true p320;replace q320:=eq_true q320;go_wp2_with (first|((with_reducible refine gate_callee (f:=37) rfl ?_);refine goesL_ (some 18) rfl rfl Try.func37 (by kernel_rfl) rfl #[.slice A320_0 ((rd_T54 l0 x5_1).f0).length c320_0, .int .i64 x1_1] rfl (by (try simp only[List.map_toArray,List.map_cons,List.map_nil]);first|done|rfl|(simp only[List.length_drop,List.length_take];rfl)) ?_;(with_reducible refine (laws_heldBoolS.calls k1 _ _ ((rd_T54 l0 x5_1).f0) x1_1 t321 _ ?side1 ?side2 A5.out).mono ?_);(case side1=>repeat (first|exact HR320_0.out|(with_reducible refine ca' ?_ _)|(with_reducible refine cn' ?_ _)|(with_reducible refine cd' ?_)));(case side2=>exact HC320_0.out);rintro e w' ⟨rfl,⟨nd,rfl⟩⟩;refine ⟨_,rfl,?_⟩));go_ret
      exact ⟨by first|rfl|(simp;done)|(simp[*];done),by repeat (first|exact Drawn0.refl _|apply Drawn0.step)⟩
     ·
      rw[if_neg c6] at H;have c6b0:decide (t321 < 0)=false:=decide_eq_false c6;clear c6;by_cases c7:(((rd_T54 l0 x5_1).f1) != ((Int.tmod t321 3) == 0))=true
      ·
       rw[if_pos c7] at H;have c7b0:(((rd_T54 l0 x5_1).f1) != ((Int.tmod t321 3) == 0))=true:=c7
       (try (have c7b1:decide (((rd_T54 l0 x5_1).f1)=((Int.tmod t321 3) == 0))=false:=by simpa using c7))
       (try (have c7b2:(((rd_T54 l0 x5_1).f1) == ((Int.tmod t321 3) == 0))=false:=by simpa using c7))
       (try (have c7b3:¬ (((rd_T54 l0 x5_1).f1)=((Int.tmod t321 3) == 0)):=by simpa using c7))
       clear c7;obtain rfl:=Option.some.inj H;have p320:0≤(x5_1:Int):=of_decide_eq_true (by first|(with_reducible assumption)|assumption);have q320:x5_1 < (l0.length:Int):=of_decide_eq_true (by first|(with_reducible assumption)|assumption);obtain ⟨ad320,A320_0,c320_0,e320,hx320_0,hx320_1,hl320_0,hi320_0⟩:=at_T54 HR0.out x5_1 p320 q320;cases e320;have HR320_0:=am' hi320_0;have HC320_0:=am' hl320_0;clear hi320_0 hl320_0;replace p320:=eq_true p320;replace q320:=eq_true q320;go_wp2_with (first|((with_reducible refine gate_callee (f:=37) rfl ?_);refine goesL_ (some 18) rfl rfl Try.func37 (by kernel_rfl) rfl #[.slice A320_0 ((rd_T54 l0 x5_1).f0).length c320_0, .int .i64 x1_1] rfl (by (try simp only[List.map_toArray,List.map_cons,List.map_nil]);first|done|rfl|(simp only[List.length_drop,List.length_take];rfl)) ?_;(with_reducible refine (laws_heldBoolS.calls k1 _ _ ((rd_T54 l0 x5_1).f0) x1_1 t321 _ ?side1 ?side2 A5.out).mono ?_);(case side1=>repeat (first|exact HR320_0.out|(with_reducible refine ca' ?_ _)|(with_reducible refine cn' ?_ _)|(with_reducible refine cd' ?_)));(case side2=>exact HC320_0.out);rintro e w' ⟨rfl,⟨nd,rfl⟩⟩;refine ⟨_,rfl,?_⟩;have p322:0≤(x5_1:Int):=of_decide_eq_true (by first|(with_reducible assumption)|assumption);have q322:x5_1 < (l0.length:Int):=of_decide_eq_true (by first|(with_reducible assumption)|assumption);obtain ⟨ad322,A322_0,c322_0,e322,hx322_0,hx322_1,hl322_0,hi322_0⟩:=at_T54 HR0.out x5_1 p322 q322;obtain rfl:ad320=ad322:=(by injection e322);have HR322_0:=am' hi322_0;have HC322_0:=am' hl322_0;clear hi322_0 hl322_0;replace p322:=eq_true p322;replace q322:=eq_true q322;have ea_:=Option.some.inj (hx320_0.symm.trans hx322_0);injection ea_ with ea_ en_ ec_;subst ea_;subst ec_;clear en_));go_ret
       exact ⟨by first|rfl|(simp;done)|(simp[*];done),by repeat (first|exact Drawn0.refl _|apply Drawn0.step)⟩
      ·
       rw[if_neg c7] at H;have c7b0:(((rd_T54 l0 x5_1).f1) != ((Int.tmod t321 3) == 0))=false:=by simpa using c7
       (try (have c7b1:decide (((rd_T54 l0 x5_1).f1)=((Int.tmod t321 3) == 0))=true:=by simpa using c7))
       (try (have c7b2:(((rd_T54 l0 x5_1).f1) == ((Int.tmod t321 3) == 0))=true:=by simpa using c7))
       clear c7;have H':=am' H;clear H;have p320:0≤(x5_1:Int):=of_decide_eq_true (by first|(with_reducible assumption)|assumption);have q320:x5_1 < (l0.length:Int):=of_decide_eq_true (by first|(with_reducible assumption)|assumption);obtain ⟨ad320,A320_0,c320_0,e320,hx320_0,hx320_1,hl320_0,hi320_0⟩:=at_T54 HR0.out x5_1 p320 q320;cases e320;have HR320_0:=am' hi320_0;have HC320_0:=am' hl320_0;clear hi320_0 hl320_0;replace p320:=eq_true p320;replace q320:=eq_true q320;go_wp2_with (first|((with_reducible refine gate_callee (f:=37) rfl ?_);refine goesL_ (some 18) rfl rfl Try.func37 (by kernel_rfl) rfl #[.slice A320_0 ((rd_T54 l0 x5_1).f0).length c320_0, .int .i64 x1_1] rfl (by (try simp only[List.map_toArray,List.map_cons,List.map_nil]);first|done|rfl|(simp only[List.length_drop,List.length_take];rfl)) ?_;(with_reducible refine (laws_heldBoolS.calls k1 _ _ ((rd_T54 l0 x5_1).f0) x1_1 t321 _ ?side1 ?side2 A5.out).mono ?_);(case side1=>repeat (first|exact HR320_0.out|(with_reducible refine ca' ?_ _)|(with_reducible refine cn' ?_ _)|(with_reducible refine cd' ?_)));(case side2=>exact HC320_0.out);rintro e w' ⟨rfl,⟨nd,rfl⟩⟩;refine ⟨_,rfl,?_⟩;have p322:0≤(x5_1:Int):=of_decide_eq_true (by first|(with_reducible assumption)|assumption);have q322:x5_1 < (l0.length:Int):=of_decide_eq_true (by first|(with_reducible assumption)|assumption);obtain ⟨ad322,A322_0,c322_0,e322,hx322_0,hx322_1,hl322_0,hi322_0⟩:=at_T54 HR0.out x5_1 p322 q322;obtain rfl:ad320=ad322:=(by injection e322);have HR322_0:=am' hi322_0;have HC322_0:=am' hl322_0;clear hi322_0 hl322_0;replace p322:=eq_true p322;replace q322:=eq_true q322;have ea_:=Option.some.inj (hx320_0.symm.trans hx322_0);injection ea_ with ea_ en_ ec_;subst ea_;subst ec_;clear en_));go_roundg k1
       case measure=>have:=HK1.out;omega
       case rel=>exact ⟨(wrap64 (t321+1)),(wrap64 (x5_1+1)),(by first|rfl|(simp;done)|(simp[*];done)),(by first|rfl|(simp;done)|(simp[*];done)),H',⟨by have:=HK1.out;omega⟩,by repeat (first|exact Drawn0.refl _|apply Drawn0.step)⟩
    ·
     rw[if_neg c4] at H;exact absurd H (by simp)
   ·
    rw[if_neg c3] at H;have c3b0:decide (x5_1 < (l0.length:Int))=false:=decide_eq_false c3;clear c3;obtain rfl:=Option.some.inj H;go_wp2;go_ret
    exact ⟨by first|rfl|(simp;done)|(simp[*];done),by repeat (first|exact Drawn0.refl _|apply Drawn0.step)⟩
end Go.Proofs.Ytihieplobgehaaa.C1
