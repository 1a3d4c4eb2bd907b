import Derived.Test.YtikjdmiohpdnaaaC20zx0
import Derived.Test.YtikjdmiohpdnaaaC20zAl
namespace Go.Proofs.Ytikjdmiohpdnaaa.C20
open Go.RowKit Go.Proofs.YtikjdmiohpdnaaaW.PrintWords Go.Proofs.YtikjdmiohpdnaaaW.PrintLast Go.Proofs.YtikjdmiohpdnaaaW.PrintMore Go.Proofs.Ytikjdmiohpdnaaa.H
attribute [local go_sem] max2_int min2_int max_two min_two max_three min_three max_four min_four
set_option linter.unusedVariables false
set_option linter.unusedSimpArgs false
def spec_l1Own.f (l0:List Int):Option (List Int):=(some (([]:List Int):List Int)).bind fun y200=>(if y200.length+l0.length < 17592186044416 then (some (y200 ++ l0)) else (none))
set_option maxHeartbeats 8000000 in
set_option maxRecDepth 100000 in
theorem spec_l1Own.calls (A0:Option Addr) (c0:Nat) (l0:List Int) (r:List Int) (w:World) (hr0:Kd.C (Kd.int .i64) w A0 l0.length l0) (hc0:l0.length≤c0) (h:spec_l1Own.f l0=some r) :
  Calls Try.prog 117 #[.slice A0 l0.length c0] w fun e w'=>∃ v0_:Value,e = .returned (v0_)∧Kd.R (Kd.int .i64) 3 w' w.heap.size (fun _=>True) v0_ r∧Below w.heap.size w w':=by
 have HR0:=am' hr0
 have HC0:=am' hc0
 clear hr0 hc0;have HB:=am' (Below.refl w.heap.size w)
 have H:((some (([]:List Int):List Int)).bind fun y200=>(if y200.length+l0.length < 17592186044416 then (some (y200 ++ l0)) else (none)))=some r:=h
 clear h;obtain ⟨y200,hy200⟩:∃ y_:List Int,y_=(([]:List Int)):=⟨_,rfl⟩
 replace H:(if y200.length+l0.length < 17592186044416 then (some (y200 ++ l0)) else (none))=some r:=by first|(rw[hy200];with_reducible exact H)|(have H2_:=(Option.bind_some _ _).symm.trans H;rw[hy200];with_reducible exact H2_)|(have H2_:=(Option.bind_some _ _).symm.trans H;with_reducible exact H2_)|with_reducible exact H|(rw[hy200];exact H)|exact H
 have Ny200:=am' hy200
 clear hy200;by_cases c2:y200.length+l0.length < 17592186044416
 ·
  rw[if_pos c2] at H;have LMc2:=am' c2;clear c2;obtain ⟨y203,hy203⟩:∃ y_:List Int,y_=(y200 ++ l0):=⟨_,rfl⟩
  replace H:(some y203)=some r:=by first|(rw[hy203];with_reducible exact H)|(have H2_:=(Option.bind_some _ _).symm.trans H;rw[hy203];with_reducible exact H2_)|(have H2_:=(Option.bind_some _ _).symm.trans H;with_reducible exact H2_)|with_reducible exact H|(rw[hy203];exact H)|exact H
  have Ny203:=am' hy203;clear hy203;obtain rfl:=os' H;go_enter Try.func117,Try.ntmps117;go_wp2_with (first|((with_reducible refine gate_dst (N:=3) rfl ?_);refine Kd.R_lit (Kd.int .i64) _ 3 ?hg (N:=3) ?hd (xs:=([]:List Int)) (inner:=[]) (ok:=fun _=>True) (okp:=fun _=>True) ?hr ?hp (fun _ hk=>hk) trivial (Below.refl _ _) (Nat.le_refl _) (by simp) ?_;(case hd=>rfl);(case hg=>rfl);(case hr=>first|(go_simp;done)|(go_simp;rfl));(case hp=>exact (Reps.none _ _));intro v201 w3 ho4 hb hg_ hnew_;clear hg_ hnew_;(first|rw[← Ny200.out] at ho4|(simp only[Int.reduceToNat] at ho4;rw[← Ny200.out] at ho4));have n0_:=am' (Kd.R_lower ho4 (bz' xb'));have n1_:=am' (bt' xb' hb);clear HB;have HO202:=n0_;have HB:=n1_;clear n0_ n1_;clear hb ho4)|((with_reducible refine gate_builtin (b := .append) (xs:=#[.tmp 3, .tmp 4]) rfl ?_);at_builtin;refine Kd.R_append_rows (Kd.int .i64) (w0:=w) w.heap.size rfl (.tmp 3) (.tmp 4) 22 3 (.int .i64 0) 8 rfl Try.underlying22 info3 rfl (by decide) (by omega) v201 y200 l0 _ _ _ (fun _=>True) (fun _=>False) rfl rfl ?aO ?aR (fun _ _ h=>h) (fun _ h=>h.elim) ?aF ?aB ?aS ?aL ?_;(case aR=>exact kc' (cb' HR0.out HB.out));(case aB=>exact xb');(case aF=>exact (fun _ _=>trivial));(case aO=>exact (kr' HO202.out));(case aS=>exact (bz' xb'));(case aL=>have:=LMc2.out;omega);intro v204 w5 ho hb hg hat;rw[← Ny203.out] at ho;have n0_:=am' (hb);have n1_:=am' (ho);clear HB;clear HO202;have HB:=n0_;have HO205:=n1_;clear n0_ n1_;clear ho hb hg hat));go_ret
  exact ⟨_,by first|rfl|(simp[errW_none,errW_some] <;> rfl)|(simp[*,errW_none,errW_some] <;> rfl),kr' HO205.out,xb'⟩
 ·
  rw[if_neg c2] at H;exact absurd H (by simp)
mutual
def spec_paGroups.j0:Nat→List Int→List Int→Int→Int→List (List Int)→Option ((List (List Int)))
 | 0,_,_,_,_,_=>none
 | k+1,x0,x1,x2,x3,x9=>if (x1.length:Int)=x3 then (some x9) else (spec_paGroups.l0 k x0 x1 x3 x9 x2)
def spec_paGroups.l0:Nat→List Int→List Int→Int→List (List Int)→Int→Option ((List (List Int)))
 | 0,_,_,_,_,_=>none
 | k+1,x0,x1,x3,x9,x10=>if x10 < (x0.length:Int) then ((spec_l1Own.f x1).bind fun t215=>(if 0≤x10 then ((some (([rd x0 x10]:List Int):List Int)).bind fun y219=>(if t215.length+y219.length < 17592186044416 then ((spec_paGroups.f k x0 (t215 ++ y219) (wrap64 (x10+1)) x3).bind fun t225=>(if x9.length+t225.length < 5864062014805 then (spec_paGroups.l0 k x0 x1 x3 (x9 ++ t225) (wrap64 (x10+1))) else (none))) else (none))) else (none))) else (some x9)
def spec_paGroups.f:Nat→List Int→List Int→Int→Int→Option ((List (List Int)))
 | 0,_,_,_,_=>none
 | k+1,l0,l1,a2,a3=>if (l1.length:Int) > 0 then ((spec_l1Own.f l1).bind fun t206=>((some (([t206]:List (List Int)):List (List Int))).bind fun y209=>(if ([]:List (List Int)).length+y209.length < 5864062014805 then (spec_paGroups.j0 k l0 l1 a2 a3 (([]:List (List Int)) ++ y209)) else (none)))) else (spec_paGroups.j0 k l0 l1 a2 a3 ([]:List (List Int)))
end
def spec_paGroups.T9:Bool × List (List Nat × List Nat):=(true,[([],[]),([],[]),([],[]),([2],[2]),([],[]),([],[]),([4,5],[4,5]),([6],[6]),([7],[7]),([3,8,3],[3,8]),([],[]),([10],[10]),([],[]),([1,9,11,12,9],[1,9,11,12]),([0,13,13],[0,13]),([14,14,0,1,2,3,4,5,6,7,8,9,10,11,12,13,14],[0,14])])
def spec_paGroups.B9:List Nat:=[0,0,0,4,0,0,48,112,240,508,0,1024,0,8190,16383,32767]
theorem spec_paGroups.tab9:rtab .any (opsOf Try.f99 9)=spec_paGroups.T9:=by kernel_rfl
theorem spec_paGroups.bits9:waitsOk spec_paGroups.T9.2 spec_paGroups.B9=true:=by kernel_rfl
set_option maxHeartbeats 8000000 in
set_option maxRecDepth 100000 in
theorem spec_paGroups.calls (k:Nat):∀ (A0:Option Addr) (c0:Nat) (l0:List Int) (A1:Option Addr) (c1:Nat) (l1:List Int) (a2:Int) (a3:Int) (r:List (List Int)) (w:World) (hr0:Kd.C (Kd.int .i64) w A0 l0.length l0) (hc0:l0.length≤c0) (hr1:Kd.C (Kd.int .i64) w A1 l1.length l1) (hc1:l1.length≤c1) (h:spec_paGroups.f k l0 l1 a2 a3=some r),
  Calls Try.prog 99 #[.slice A0 l0.length c0, .slice A1 l1.length c1, .int .i64 a2, .int .i64 a3] w fun e w'=>∃ v0_:Value,e = .returned (v0_)∧Kd.N (Kd.slice 3 (Kd.int .i64)) 22 w' w.heap.size (fun k_=>(w.heap.size≤k_)) v0_ r∧Below w.heap.size w w':=by
 induction k using Nat.strongRecOn with
 | _ k ih =>
 intro A0 c0 l0 A1 c1 l1 a2 a3 r w hr0 hc0 hr1 hc1 h;cases k with
 | zero=>exact absurd h (by simp[spec_paGroups.f])
 | succ k =>
 simp only[spec_paGroups.f] at h
 have HR0:=am' hr0
 have HC0:=am' hc0
 clear hr0 hc0;have HR1:=am' hr1
 have HC1:=am' hc1
 clear hr1 hc1;have HB:=am' (Below.refl w.heap.size w)
 have H:(if (l1.length:Int) > 0 then ((spec_l1Own.f l1).bind fun t206=>((some (([t206]:List (List Int)):List (List Int))).bind fun y209=>(if ([]:List (List Int)).length+y209.length < 5864062014805 then (spec_paGroups.j0 k l0 l1 a2 a3 (([]:List (List Int)) ++ y209)) else (none)))) else (spec_paGroups.j0 k l0 l1 a2 a3 ([]:List (List Int))))=some r:=h
 clear h;have HC5:=am' H
 clear H;go_enter Try.func99,Try.ntmps99
 go_upto_if 13 with (fail)
 go_cut [9] (fun v9 wc=>∃ (kq:Nat) (x9_4:List (List Int)),Aside0 (spec_paGroups.j0 kq l0 l1 a2 a3 x9_4=some r)∧Aside0 (kq≤k)∧Aside0 (Kd.N (Kd.slice 3 (Kd.int .i64)) 22 wc w.heap.size (fun k_=>(w.heap.size≤k_)) v9 x9_4)∧Aside0 (Below w.heap.size w wc))
 case first =>
  have H:=HC5.out;clear HC5;by_cases c6:(l1.length:Int) > 0
  ·
   rw[if_pos c6] at H;have c6b0:decide (0 < (l1.length:Int))=true:=dt' c6;have c6b1:decide (0 < l1.length)=true:=dt' (by omega);clear c6;(first|rw[c6b0]|(simp only[i64_w,i32_w];rw[c6b0])|rw[c6b1]|skip)
   replace H:=Option.bind_eq_some_iff.mp H;obtain ⟨t206,A70,H⟩:=H;replace H:((some (([t206]:List (List Int)):List (List Int))).bind fun y209=>(if ([]:List (List Int)).length+y209.length < 5864062014805 then (spec_paGroups.j0 k l0 l1 a2 a3 (([]:List (List Int)) ++ y209)) else (none)))=some r:=H;have A7:=am' A70;clear A70;obtain ⟨y209,hy209⟩:∃ y_:List (List Int),y_=(([t206]:List (List Int))):=⟨_,rfl⟩
   replace H:(if ([]:List (List Int)).length+y209.length < 5864062014805 then (spec_paGroups.j0 k l0 l1 a2 a3 (([]:List (List Int)) ++ y209)) else (none))=some r:=by first|(rw[hy209];with_reducible exact H)|(have H2_:=(Option.bind_some _ _).symm.trans H;rw[hy209];with_reducible exact H2_)|(have H2_:=(Option.bind_some _ _).symm.trans H;with_reducible exact H2_)|with_reducible exact H|(rw[hy209];exact H)|exact H
   have Ny209:=am' hy209;clear hy209;by_cases c8:([]:List (List Int)).length+y209.length < 5864062014805
   ·
    rw[if_pos c8] at H;have LMc8:=am' c8;clear c8;obtain ⟨y212,hy212⟩:∃ y_:List (List Int),y_=(([]:List (List Int)) ++ y209):=⟨_,rfl⟩
    replace H:(spec_paGroups.j0 k l0 l1 a2 a3 y212)=some r:=by first|(rw[hy212];with_reducible exact H)|(have H2_:=(Option.bind_some _ _).symm.trans H;rw[hy212];with_reducible exact H2_)|(have H2_:=(Option.bind_some _ _).symm.trans H;with_reducible exact H2_)|with_reducible exact H|(rw[hy212];exact H)|exact H
    have Ny212:=am' hy212;clear hy212;have H':=am' H;clear H;go_wp2_with (first|((with_reducible refine gate_callee (f:=117) rfl ?_);refine goesL_ (some 16) rfl rfl Try.func117 xk' rfl #[.slice A1 l1.length c1] rfl xl' ?_;(with_reducible refine (spec_l1Own.calls _ _ l1 t206 _ ?side1 ?side2 A7.out).mono ?_);(case side1=>exact kc' (cb' HR1.out HB.out));(case side2=>exact HC1.out);rintro e w9 ⟨v207,rfl,ho0,hb⟩;refine ⟨_,rfl,?_⟩;have n0_:=am' (Kd.R_lower (Kd.R_newM (M:=fun k_=>(w.heap.size≤k_)) ho0 (bz' xb') (fun k_ h_=>h_)) (bz' xb'));have n1_:=am' (bt' xb' hb);clear HB;have HO208:=n0_;have HB:=n1_;clear n0_ n1_;(try clear hb);(try clear hb2);(try clear hk);(try clear hi);(try clear ho0);obtain ⟨Ao10,co10,eo10⟩:=Kd.R_slice HO208.out;subst eo10)|((with_reducible refine gate_dst (N:=17) rfl ?_);refine Kd.N_lit (Kd.slice 3 (Kd.int .i64)) _ 22 ?hg (N':=17) ?hd (xs:=([t206]:List (List Int))) (inner:=[.slice Ao10 t206.length co10]) (ok:=(fun k_=>(w.heap.size≤k_))) (okp:=(fun k_=>(w.heap.size≤k_))) ?hr ?hp (fun _ hk=>hk) ((show ∀ k_,w9.heap.size≤k_→(fun k_=>(w.heap.size≤k_)) k_ from fun k_ hk=>(Nat.le_trans (bz' xb') hk)) _ (Nat.le_refl _)) (Below.refl _ _) (Nat.le_refl _) (by simp) ?_;(case hd=>rfl);(case hg=>rfl);(case hr=>first|(go_simp;done)|(go_simp;rfl));(case hp=>exact (Reps.one (show Kd.FK (Kd.slice 3 (Kd.int .i64)) _ _ t206 [.slice Ao10 t206.length co10] from (Kd.FK_slice_mk (Kd.R_reads' (Kd.R_mono (ok':=(fun k_=>(w.heap.size≤k_))) (HO208.out) (fun k_ hk=>hk.1))).2.1 (Kd.R_F (Kd.R_mono (ok':=(fun k_=>(w.heap.size≤k_))) (HO208.out) (fun k_ hk=>hk.1))))) (Reps.none _ _)));intro v210 w11 ho12 hb hg_ hnew_;clear hg_ hnew_;(first|rw[← Ny209.out] at ho12|(simp only[Int.reduceToNat] at ho12;rw[← Ny209.out] at ho12));have n0_:=am' (Kd.N_lower ho12 (bz' xb'));have n1_:=am' (bt' xb' hb);clear HB;clear HO208;have HO211:=n0_;have HB:=n1_;clear n0_ n1_;clear hb ho12;obtain ⟨Ao14,co14,eo14⟩:=Kd.N_slice HO211.out;subst eo14)|((with_reducible refine gate_builtin (b := .append) (xs:=#[.tmp 14, .tmp 17]) rfl ?_);at_builtin;refine Kd.N_append_rows (Kd.slice 3 (Kd.int .i64)) (w0:=w) w.heap.size rfl (.tmp 14) (.tmp 17) 47 22 (.slice none 0 0) 24 rfl Try.underlying47 info22 rfl (by decide) (by omega) (.slice none 0 0) ([]:List (List Int)) y209 _ _ _ (fun k_=>(w.heap.size≤k_)) (fun k_=>((fun k_=>(w.heap.size≤k_))) k_∧some k_≠(.slice none 0 0:Value).ownBlock) rfl rfl ?aO ?aR (fun _ hk=>hk) ?aF ?aB ?aS ?aL ?_;(case aR=>exact (by skip;exact Kd.N_F (Kd.N_mono (ok':=(fun k_=>((fun k_=>(w.heap.size≤k_))) k_∧some k_≠(.slice none 0 0:Value).ownBlock)) (HO211.out) (fun k_ hk=>⟨hk,(by simp[Value.ownBlock])⟩))));(case aB=>exact xb');(case aF=>exact (fun k_ hk=>(Nat.le_trans (bz' xb') hk)));(case aO=>exact ((Kd.N_nil _ _ _ _ (fun k_=>(w.heap.size≤k_)))));(case aS=>exact (bz' xb'));(case aL=>have:=LMc8.out;omega);intro v213 w13 ho hb hg hat;rw[← Ny212.out] at ho;have n0_:=am' (Kd.N_afterv (Kd.N_apart_nil (kN' HO211.out)) hg hat);have n1_:=am' (hb);have n2_:=am' (ho);clear HO211;clear HB;have HO211:=n0_;have HB:=n1_;have HO214:=n2_;clear n0_ n1_ n2_;clear ho hb hg hat))
    go_meet
    case rel=>exact ⟨_,(y212),H',⟨by first|omega|exact Nat.le_refl _⟩,⟨kN' HO214.out⟩,⟨xb'⟩⟩
   ·
    rw[if_neg c8] at H;exact absurd H (by simp)
  ·
   rw[if_neg c6] at H;have c6b0:decide (0 < (l1.length:Int))=false:=df' c6;have c6b1:decide (0 < l1.length)=false:=df' (by omega);clear c6;(first|rw[c6b0]|(simp only[i64_w,i32_w];rw[c6b0])|rw[c6b1]|skip)
   have H':=am' H;clear H;go_wp2;go_meet
   case rel=>exact ⟨_,(([]:List (List Int))),H',⟨by first|omega|exact Nat.le_refl _⟩,⟨by first|exact Kd.S_nil _ _ _ _ _|exact Kd.N_nil _ _ _ _ _|exact Kd.V_nil _ _ _ _ _|exact Kd.Q_nil _ _ _ _ _|exact Kd.R_nil _ _ _ _ _⟩,⟨xb'⟩⟩
 case rest =>
  clear HC5;try clear c1
  try clear p2
  try clear c6
  try clear c6b0
  try clear c6b1
  try clear c8
  try clear c9
  try clear c11
  obtain ⟨kq,x9_4,HA,HJ4,HO_9,HB⟩:=hcut;cases kq with
  | zero=>exact absurd HA.out (by simp[spec_paGroups.j0])
  | succ kj4 =>
   have H:=HA.out;clear HA;simp only[spec_paGroups.j0] at H;by_cases c15:(l1.length:Int)=a3
   ·
    rw[if_pos c15] at H;have c15b0:((l1.length:Int) == a3)=true:=beq_iff_eq.mpr c15;have c15b1:((l1.length:Int) != a3)=false:=bne_eq_false_iff_eq.mpr c15;clear c15;obtain rfl:=os' H;go_wp2;go_ret
    exact ⟨_,by first|rfl|(simp[errW_none,errW_some] <;> rfl)|(simp[*,errW_none,errW_some] <;> rfl),kN' HO_9.out,xb'⟩
   ·
    rw[if_neg c15] at H;have c15b0:((l1.length:Int) == a3)=false:=beq_eq_false_iff_ne.mpr c15;have c15b1:((l1.length:Int) != a3)=true:=bne_iff_ne.mpr c15;have H':=am' H;clear H;go_wp2;go_loopg [9,10] kj4 (fun kq v9 v10 w'=>∃ (x9_2:List (List Int)) (x10_2:Int),v10 = .int .i64 x10_2∧Aside0 (spec_paGroups.l0 kq l0 l1 a3 x9_2 x10_2=some r)∧Aside0 (kq≤kj4)∧Aside0 (Kd.N (Kd.slice 3 (Kd.int .i64)) 22 w' w.heap.size (fun k_=>(w.heap.size≤k_)) v9 x9_2)∧Aside0 (Below w.heap.size w w'))
    case atStart=>exact ⟨(x9_4),(a2),xs',H',⟨Nat.le_refl _⟩,⟨kN' HO_9.out⟩,⟨xb'⟩⟩
    case round =>
     clear H';try clear c1
     try clear p2
     try clear c6
     try clear c6b0
     try clear c6b1
     try clear c8
     try clear c9
     try clear c11
     try clear c15
     try clear c15b0
     try clear c15b1
     try clear p2
     obtain ⟨x9_2,x10_2,rfl,HA,HK2,HO_9,HB⟩:=hrel;cases gk with
     | zero=>exact absurd HA.out (by simp[spec_paGroups.l0])
     | succ k2 =>
      have H:=HA.out;clear HA;simp only[spec_paGroups.l0] at H;by_cases c16:x10_2 < (l0.length:Int)
      ·
       rw[if_pos c16] at H;have c16b0:decide (x10_2 < (l0.length:Int))=true:=dt' c16;clear c16;replace H:=Option.bind_eq_some_iff.mp H;obtain ⟨t215,A170,H⟩:=H;replace H:(if 0≤x10_2 then ((some (([rd l0 x10_2]:List Int):List Int)).bind fun y219=>(if t215.length+y219.length < 17592186044416 then ((spec_paGroups.f k2 l0 (t215 ++ y219) (wrap64 (x10_2+1)) a3).bind fun t225=>(if x9_2.length+t225.length < 5864062014805 then (spec_paGroups.l0 k2 l0 l1 a3 (x9_2 ++ t225) (wrap64 (x10_2+1))) else (none))) else (none))) else (none))=some r:=H;have A17:=am' A170;clear A170;by_cases c18:0≤x10_2
       ·
        rw[if_pos c18] at H;have c18b0:decide (0≤x10_2)=true:=dt' c18;clear c18;obtain ⟨y219,hy219⟩:∃ y_:List Int,y_=(([rd l0 x10_2]:List Int)):=⟨_,rfl⟩
        replace H:(if t215.length+y219.length < 17592186044416 then ((spec_paGroups.f k2 l0 (t215 ++ y219) (wrap64 (x10_2+1)) a3).bind fun t225=>(if x9_2.length+t225.length < 5864062014805 then (spec_paGroups.l0 k2 l0 l1 a3 (x9_2 ++ t225) (wrap64 (x10_2+1))) else (none))) else (none))=some r:=by first|(rw[hy219];with_reducible exact H)|(have H2_:=(Option.bind_some _ _).symm.trans H;rw[hy219];with_reducible exact H2_)|(have H2_:=(Option.bind_some _ _).symm.trans H;with_reducible exact H2_)|with_reducible exact H|(rw[hy219];exact H)|exact H
        have Ny219:=am' hy219;clear hy219;by_cases c19:t215.length+y219.length < 17592186044416
        ·
         rw[if_pos c19] at H;have LMc19:=am' c19;clear c19;obtain ⟨y222,hy222⟩:∃ y_:List Int,y_=(t215 ++ y219):=⟨_,rfl⟩
         replace H:((spec_paGroups.f k2 l0 y222 (wrap64 (x10_2+1)) a3).bind fun t225=>(if x9_2.length+t225.length < 5864062014805 then (spec_paGroups.l0 k2 l0 l1 a3 (x9_2 ++ t225) (wrap64 (x10_2+1))) else (none)))=some r:=by first|(rw[hy222];with_reducible exact H)|(have H2_:=(Option.bind_some _ _).symm.trans H;rw[hy222];with_reducible exact H2_)|(have H2_:=(Option.bind_some _ _).symm.trans H;with_reducible exact H2_)|with_reducible exact H|(rw[hy222];exact H)|exact H
         have Ny222:=am' hy222;clear hy222;replace H:=Option.bind_eq_some_iff.mp H;obtain ⟨t225,A200,H⟩:=H;replace H:(if x9_2.length+t225.length < 5864062014805 then (spec_paGroups.l0 k2 l0 l1 a3 (x9_2 ++ t225) (wrap64 (x10_2+1))) else (none))=some r:=H;have A20:=am' A200;clear A200;by_cases c21:x9_2.length+t225.length < 5864062014805
         ·
          rw[if_pos c21] at H;have LMc21:=am' c21;clear c21;obtain ⟨y228,hy228⟩:∃ y_:List (List Int),y_=(x9_2 ++ t225):=⟨_,rfl⟩
          replace H:(spec_paGroups.l0 k2 l0 l1 a3 y228 (wrap64 (x10_2+1)))=some r:=by first|(rw[hy228];with_reducible exact H)|(have H2_:=(Option.bind_some _ _).symm.trans H;rw[hy228];with_reducible exact H2_)|(have H2_:=(Option.bind_some _ _).symm.trans H;with_reducible exact H2_)|with_reducible exact H|(rw[hy228];exact H)|exact H
          have Ny228:=am' hy228;clear hy228;have H':=am' H;clear H;obtain ⟨Ao22,co22,eo22⟩:=Kd.N_slice HO_9.out;subst eo22;try go_wp2
          have n0_:=am' (Kd.N_drew HO_9.out);have n1_:=am' (be' HB.out);clear HO_9;clear HB;have HO_9:=n0_;have HB:=n1_;clear n0_ n1_;have p218:0≤(x10_2:Int):=od' xa';have q218:x10_2 < (l0.length:Int):=od' xa';obtain ⟨ad218,e218,hx218_0⟩:=Kd.at_int HR0.out x10_2 p218 q218;have hw218_0:=hx218_0;cases e218;replace hx218_0:=(HB.out.cell (bl' w _ hx218_0)).trans hx218_0;replace p218:=eq_true p218;replace q218:=eq_true q218;refine start_ (n:=16) (S:=fun w'=>w'.cell? (ad218.add (x10_2).toNat)=some (.int .i64 (rd l0 x10_2))) (ds:=[]) #[false,false,false,false,false,false,false,false,false,false,false,false,false,false,false,false] xk' rfl rfl (((HB.out.cell (bl' w _ hw218_0)).trans hw218_0)) (fun hHeld=>?_);refine with_tabW spec_paGroups.tab9 spec_paGroups.bits9 (fun HT_ HW_=>?_);generalize wr.drew=w23 at HO_9 HB hx218_0 hHeld ⊢
          refine pure_ (i:=0) (N:=some 31) (v:=?_) (a':=?_) #[true,false,false,false,false,false,false,false,false,false,false,false,false,false,false,false] rfl rfl (any_of HT_.out xk') (fun _ _ _ h=>h) (Or.inl ⟨by rfl,?_⟩) ?_ ?_
          rotate_left
          ·
           intro w';go_simp;with_reducible rfl
          rotate_left
          ·
           simp only[Act.put,sa',sb',sc',i64_w,i32_w];rfl
          refine pure_ (i:=1) (N:=some 32) (v:=?_) (a':=?_) #[true,true,false,false,false,false,false,false,false,false,false,false,false,false,false,false] rfl rfl (any_of HT_.out xk') (fun _ _ _ h=>h) (Or.inl ⟨by rfl,?_⟩) ?_ ?_
          rotate_left
          ·
           intro w';go_simp;with_reducible rfl
          rotate_left
          ·
           simp only[Act.put,sa',sb',sc',i64_w,i32_w];rfl
          refine pure_ (i:=2) (N:=some 33) (v:=?_) (a':=?_) #[true,true,true,false,false,false,false,false,false,false,false,false,false,false,false,false] rfl rfl (any_of HT_.out xk') (fun _ _ _ h=>h) (Or.inl ⟨by rfl,?_⟩) ?_ ?_
          rotate_left
          ·
           intro w';go_simp;with_reducible rfl
          rotate_left
          ·
           simp only[Act.put,sa',sb',sc',i64_w,i32_w];rfl
          refine pure_ (i:=4) (N:=some 35) (v:=?_) (a':=?_) #[true,true,true,false,true,false,false,false,false,false,false,false,false,false,false,false] rfl rfl (any_of HT_.out xk') (fun _ _ _ h=>h) (Or.inl ⟨by rfl,?_⟩) ?_ ?_
          rotate_left
          ·
           intro w';go_simp;with_reducible rfl
          rotate_left
          ·
           simp only[Act.put,sa',sb',sc',i64_w,i32_w];rfl
          refine pure_ (i:=5) (N:=some 36) (v:=?_) (a':=?_) #[true,true,true,false,true,true,false,false,false,false,false,false,false,false,false,false] rfl rfl (any_of HT_.out xk') (fun _ _ _ h=>h) (Or.inl ⟨by rfl,?_⟩) ?_ ?_
          rotate_left
          ·
           intro w';go_simp;with_reducible rfl
          rotate_left
          ·
           simp only[Act.put,sa',sb',sc',i64_w,i32_w];rfl
          refine pure_ (i:=6) (N:=some 37) (v:=?_) (a':=?_) #[true,true,true,false,true,true,true,false,false,false,false,false,false,false,false,false] rfl rfl (any_of HT_.out xk') (fun _ _ _ h=>h) (Or.inl ⟨by rfl,?_⟩) ?_ ?_
          rotate_left
          ·
           intro w';go_simp;with_reducible rfl
          rotate_left
          ·
           simp only[Act.put,sa',sb',sc',i64_w,i32_w];rfl
          refine pure_ (i:=10) (N:=some 41) (v:=?_) (a':=?_) #[true,true,true,false,true,true,true,false,false,false,true,false,false,false,false,false] rfl rfl (any_of HT_.out xk') (fun _ _ _ h=>h) (Or.inl ⟨by rfl,?_⟩) ?_ ?_
          rotate_left
          ·
           intro w';go_simp;with_reducible rfl
          rotate_left
          ·
           simp only[Act.put,sa',sb',sc',i64_w,i32_w];rfl
          refine pure_ (i:=11) (N:=some 42) (v:=?_) (a':=?_) #[true,true,true,false,true,true,true,false,false,false,true,true,false,false,false,false] rfl rfl (any_of HT_.out xk') (fun _ _ _ h=>h) (Or.inl ⟨by rfl,?_⟩) ?_ ?_
          rotate_left
          ·
           intro w';go_simp;with_reducible rfl
          rotate_left
          ·
           simp only[Act.put,sa',sb',sc',i64_w,i32_w];rfl
          refine pure_ (i:=12) (N:=some 43) (v:=?_) (a':=?_) #[true,true,true,false,true,true,true,false,false,false,true,true,true,false,false,false] rfl rfl (any_of HT_.out xk') (fun _ _ _ h=>h) (Or.inl ⟨by rfl,?_⟩) ?_ ?_
          rotate_left
          ·
           intro w';go_simp;with_reducible rfl
          rotate_left
          ·
           simp only[Act.put,sa',sb',sc',i64_w,i32_w];rfl
          refine take_ (i:=7) (N:=some 38) (v:=?_) (a':=?_) #[true,true,true,false,true,true,true,true,false,false,true,true,true,false,false,false] rfl rfl (take_ofW HT_.out HW_.out xk') (fun _ _ _ h=>h) (Or.inl ⟨by rfl,?_⟩) hHeld ?_ ?_
          rotate_left
          ·
           intro w' s0;go_simp;with_reducible rfl
          rotate_left
          ·
           simp only[Act.put,sa',sb',sc',i64_w,i32_w];rfl
          refine join_ (σ:=Value × Value) 4 #[true,true,true,true,true,true,true,true,true,false,true,true,true,false,false,false] (fun s_=>[(34,s_.1),(39,s_.2)]) (fun s_ w'=>(w'.cell? (ad218.add (x10_2).toNat)=some (.int .i64 (rd l0 x10_2)))∧(Kd.R (Kd.int .i64) 3 w' w.heap.size (fun k_=>(w.heap.size≤k_)∧some k_≠(s_.2:Value).ownBlock) s_.1 t215)∧(Kd.R (Kd.int .i64) 3 w' w.heap.size (fun k_=>(w.heap.size≤k_)∧some k_≠(s_.1:Value).ownBlock) s_.2 y219)∧(Kd.N (Kd.slice 3 (Kd.int .i64)) 22 w' w.heap.size (fun k_=>(w.heap.size≤k_)∧some k_≠(s_.1:Value).ownBlock∧some k_≠(s_.2:Value).ownBlock) (.slice Ao22 x9_2.length co22) x9_2)∧(Below w.heap.size w w')) ?_ ?_
          rotate_left
          ·
           intro hCont;refine two_ (i:=3) (j:=8) (Ni:=some 34) (Nj:=some 39) #[true,true,true,true,true,true,true,true,false,false,true,true,true,false,false,false] #[true,true,true,false,true,true,true,true,true,false,true,true,true,false,false,false] rfl rfl rfl rfl (two_of HT_.out xk') (by decide) (by decide) (fun K hK=>?_) (fun K hK=>?_)
           ·
            skip
            refine goes_ Try.func117 xk' rfl #[.slice A1 l1.length c1] (by rfl) rfl rfl xl' ?_
            with_reducible refine (spec_l1Own.calls _ _ l1 t215 _ ?side1 ?side2 A17.out).mono ?_
            (case side1=>exact kc' (cb' HR1.out HB.out))
            (case side2=>exact HC1.out)
            rintro e w24 ⟨v216,rfl,ho0,hb⟩
            refine ⟨_,rfl,?_⟩;have n0_:=am' (Kd.N_elder' (kN' HO_9.out) (Kd.R_base ho0) hb);have n1_:=am' (Kd.R_lower (Kd.R_newM (M:=fun k_=>(w.heap.size≤k_)) ho0 (bz' xb') (fun k_ h_=>h_)) (bz' xb'));have n2_:=am' (bt' xb' hb);clear HO_9;clear HB;have HO_9:=n0_;have HO217:=n1_;have HB:=n2_;clear n0_ n1_ n2_;(try clear hb)
            (try clear hb2)
            (try clear hk)
            (try clear hi)
            (try clear ho0)
            refine hK.out _ _ (((HB.out.cell (bl' w _ hw218_0)).trans hw218_0)) (fun hHeld=>?_);clear hK K;refine norm_ (a':=?_) ?_ ?_
            rotate_left
            ·
             show Act.put _ (some 34) _=_
             simp only[Act.put,sa',sb',sc',i64_w,i32_w];rfl
            refine one_ (i:=8) (N:=some 39) #[true,true,true,true,true,true,true,true,true,false,true,true,true,false,false,false] rfl rfl (one_of HT_.out xk') (by decide) (fun K hK=>?_);refine Kd.R_lit_step (Kd.int .i64) _ 3 ?hg (N:=39) ?hd (xs:=([rd l0 x10_2]:List Int)) (inner:=[.int .i64 (rd l0 x10_2)]) (ok:=fun _=>True) (okp:=fun _=>True) ?hr ?hp (fun _ hk=>hk) trivial (Below.refl _ _) (Nat.le_refl _) (by simp) ?_;(case hd=>rfl);(case hg=>rfl);(case hr=>first|(go_simp;done)|(go_simp;rfl));(case hp=>exact (Reps.one (show Kd.M (Kd.int .i64) _ _ _ (rd l0 x10_2) [.int .i64 (rd l0 x10_2)] from rfl) (Reps.none _ _)))
            intro v220 w25 ho26 hb hg_ hnew_;clear hg_ hnew_;(first|rw[← Ny219.out] at ho26|(simp only[Int.reduceToNat] at ho26;rw[← Ny219.out] at ho26))
            have n0_:=am' (Kd.N_elder' (kN' HO_9.out) (Kd.R_base ho26) hb);have n1_:=am' (Kd.R_elder' (kr' HO217.out) (Kd.R_base ho26) hb);have n2_:=am' (Kd.R_lower (Kd.R_new' (Kd.R_newM (M:=fun k_=>(w.heap.size≤k_)) ho26 (bz' xb') (fun k_ h_=>h_)) (Kd.R_lt (kr' HO217.out))) (bz' xb'));have n3_:=am' (bt' xb' hb);clear HO_9;clear HO217;clear HB;have HO_9:=n0_;have HO217:=n1_;have HO221:=n2_;have HB:=n3_;clear n0_ n1_ n2_ n3_;clear hb ho26;refine hK.out _ _ (((HB.out.cell (bl' w _ hw218_0)).trans hw218_0)) (fun hHeld=>?_);clear hK K;refine norm_ (a':=?_) ?_ ?_
            rotate_left
            ·
             show Act.put _ (some 39) _=_
             simp only[Act.put,sa',sb',sc',i64_w,i32_w];rfl
            exact norm_ (by simp only[putAll,Act.put,sa',sb',sc']) (hCont (v216,v220) _ ⟨hHeld,(by (with_reducible repeat (first|apply ra'|apply rn'|apply rw'));exact Kd.R_mono HO217.out (fun _ hk=>⟨hk.1.1,hk.2⟩)),(by (with_reducible repeat (first|apply ra'|apply rn'|apply rw'));exact Kd.R_mono HO221.out (fun _ hk=>⟨hk.1.1,hk.2⟩)),(by (with_reducible repeat (first|apply Kd.N_alloc|apply Kd.N_drewN|apply Kd.N_drew));exact Kd.N_mono HO_9.out (fun _ hk=>⟨hk.1.1,⟨hk.1.2,hk.2⟩⟩)),xb'⟩)
           ·
            skip
            refine Kd.R_lit_step (Kd.int .i64) _ 3 ?hg (N:=39) ?hd (xs:=([rd l0 x10_2]:List Int)) (inner:=[.int .i64 (rd l0 x10_2)]) (ok:=fun _=>True) (okp:=fun _=>True) ?hr ?hp (fun _ hk=>hk) trivial (Below.refl _ _) (Nat.le_refl _) (by simp) ?_;(case hd=>rfl);(case hg=>rfl);(case hr=>first|(go_simp;done)|(go_simp;rfl));(case hp=>exact (Reps.one (show Kd.M (Kd.int .i64) _ _ _ (rd l0 x10_2) [.int .i64 (rd l0 x10_2)] from rfl) (Reps.none _ _)))
            intro v220 w24 ho25 hb hg_ hnew_;clear hg_ hnew_;(first|rw[← Ny219.out] at ho25|(simp only[Int.reduceToNat] at ho25;rw[← Ny219.out] at ho25))
            have n0_:=am' (Kd.N_elder' (kN' HO_9.out) (Kd.R_base ho25) hb);have n1_:=am' (Kd.R_lower (Kd.R_newM (M:=fun k_=>(w.heap.size≤k_)) ho25 (bz' xb') (fun k_ h_=>h_)) (bz' xb'));have n2_:=am' (bt' xb' hb);clear HO_9;clear HB;have HO_9:=n0_;have HO221:=n1_;have HB:=n2_;clear n0_ n1_ n2_;clear hb ho25;refine hK.out _ _ (((HB.out.cell (bl' w _ hw218_0)).trans hw218_0)) (fun hHeld=>?_);clear hK K;refine norm_ (a':=?_) ?_ ?_
            rotate_left
            ·
             show Act.put _ (some 39) _=_
             simp only[Act.put,sa',sb',sc',i64_w,i32_w];rfl
            refine one_ (i:=3) (N:=some 34) #[true,true,true,true,true,true,true,true,true,false,true,true,true,false,false,false] rfl rfl (one_of HT_.out xk') (by decide) (fun K hK=>?_);refine goes_ Try.func117 xk' rfl #[.slice A1 l1.length c1] (by rfl) rfl rfl xl' ?_
            with_reducible refine (spec_l1Own.calls _ _ l1 t215 _ ?side1 ?side2 A17.out).mono ?_
            (case side1=>exact kc' (cb' HR1.out HB.out))
            (case side2=>exact HC1.out)
            rintro e w26 ⟨v216,rfl,ho0,hb⟩
            refine ⟨_,rfl,?_⟩;have n0_:=am' (Kd.N_elder' (kN' HO_9.out) (Kd.R_base ho0) hb);have n1_:=am' (Kd.R_elder' (kr' HO221.out) (Kd.R_base ho0) hb);have n2_:=am' (Kd.R_lower (Kd.R_new' (Kd.R_newM (M:=fun k_=>(w.heap.size≤k_)) ho0 (bz' xb') (fun k_ h_=>h_)) (Kd.R_lt (kr' HO221.out))) (bz' xb'));have n3_:=am' (bt' xb' hb);clear HO_9;clear HO221;clear HB;have HO_9:=n0_;have HO221:=n1_;have HO217:=n2_;have HB:=n3_;clear n0_ n1_ n2_ n3_;(try clear hb)
            (try clear hb2)
            (try clear hk)
            (try clear hi)
            (try clear ho0)
            refine hK.out _ _ (((HB.out.cell (bl' w _ hw218_0)).trans hw218_0)) (fun hHeld=>?_);clear hK K;refine norm_ (a':=?_) ?_ ?_
            rotate_left
            ·
             show Act.put _ (some 34) _=_
             simp only[Act.put,sa',sb',sc',i64_w,i32_w];rfl
            exact norm_ (by simp only[putAll,Act.put,sa',sb',sc']) (hCont (v216,v220) _ ⟨hHeld,(by (with_reducible repeat (first|apply ra'|apply rn'|apply rw'));exact Kd.R_mono HO217.out (fun _ hk=>⟨hk.1.1,hk.2⟩)),(by (with_reducible repeat (first|apply ra'|apply rn'|apply rw'));exact Kd.R_mono HO221.out (fun _ hk=>⟨hk.1.1,hk.2⟩)),(by (with_reducible repeat (first|apply Kd.N_alloc|apply Kd.N_drewN|apply Kd.N_drew));exact Kd.N_mono HO_9.out (fun _ hk=>⟨hk.1.1,⟨hk.2,hk.1.2⟩⟩)),xb'⟩)
          rintro ⟨v216,v220⟩ w27 ⟨hS_,h0_,h1_,h2_,h3_⟩
          have n0_:Aside0 (Kd.R (Kd.int .i64) 3 w27 w.heap.size (fun k_=>(w.heap.size≤k_)∧some k_≠(v220:Value).ownBlock) v216 t215):=⟨h0_⟩
          have n1_:Aside0 (Kd.R (Kd.int .i64) 3 w27 w.heap.size (fun k_=>(w.heap.size≤k_)∧some k_≠(v216:Value).ownBlock) v220 y219):=⟨h1_⟩
          have n2_:Aside0 (Kd.N (Kd.slice 3 (Kd.int .i64)) 22 w27 w.heap.size (fun k_=>(w.heap.size≤k_)∧some k_≠(v216:Value).ownBlock∧some k_≠(v220:Value).ownBlock) (.slice Ao22 x9_2.length co22) x9_2):=⟨h2_⟩
          have n3_:Aside0 (Below w.heap.size w w27):=⟨h3_⟩
          clear HO_9;clear HB;clear h0_ h1_ h2_ h3_;have HO217:=n0_;have HO221:=n1_;have HO_9:=n2_;have HB:=n3_;clear n0_ n1_ n2_ n3_;have hHeld:w27.cell? (ad218.add (x10_2).toNat)=some (.int .i64 (rd l0 x10_2)):=hS_;obtain ⟨Ao29,co29,eo29⟩:=Kd.R_slice HO221.out
          (first|subst eo29|(injection eo29 with f1_ f2_ f3_;have f4_:=f1_.symm;have f5_:=f3_.symm;clear f1_ f2_ f3_;subst f4_;subst f5_))
          refine norm_ (a':=?_) ?_ ?_
          rotate_left
          ·
           simp only[putAll,Act.put,sa',sb',sc'];rfl
          refine one_ (i:=9) (N:=some 40) #[true,true,true,true,true,true,true,true,true,true,true,true,true,false,false,false] rfl rfl (one_of HT_.out xk') (by decide) (fun K hK=>?_);refine Kd.R_append_rows_step (Kd.int .i64) (w0:=w) w.heap.size (by rfl) (.tmp 34) (.tmp 39) 22 3 (.int .i64 0) 8 rfl Try.underlying22 info3 rfl (by decide) (by omega) v216 t215 y219 _ _ _ (fun k_=>(w.heap.size≤k_)∧some k_≠(.slice Ao29 y219.length co29:Value).ownBlock) (fun _=>False) rfl rfl ?aO ?aR (fun _ _ h=>h) (fun _ h=>h.elim) ?aF ?aB ?aS ?aL ?_
          (case aR=>exact kc' ((Kd.R_reads' HO221.out).2.2))
          (case aB=>exact xb')
          (case aF=>exact (fun k_ hk=>⟨(Nat.le_trans (bz' xb') hk),Kd.fresh' (Kd.R_lt (kr' HO221.out)) k_ hk⟩))
          (case aO=>exact (kr' HO217.out))
          (case aS=>exact (bz' xb'))
          (case aL=>have:=LMc19.out;omega)
          intro v223 w28 ho hb hg hat;rw[← Ny222.out] at ho;have n0_:=am' (Kd.N_afterv (ok:=(fun k_=>(w.heap.size≤k_)∧some k_≠(.slice Ao29 y219.length co29:Value).ownBlock)) (by (with_reducible repeat (first|apply Kd.N_alloc|apply Kd.N_drewN|apply Kd.N_drew));exact Kd.N_mono HO_9.out (fun _ hk=>⟨⟨hk.1,hk.2.2⟩,hk.2.1⟩)) hg hat);have n1_:=am' (Kd.R_after (ok:=(fun k_=>(w.heap.size≤k_))) (kr' HO221.out) hg hat);have n2_:=am' (hb);have n3_:=am' (ho);clear HO_9;clear HO221;clear HB;clear HO217;have HO_9:=n0_;have HO221:=n1_;have HB:=n2_;have HO224:=n3_;clear n0_ n1_ n2_ n3_;clear ho hb hg hat;obtain ⟨Ao30,co30,eo30⟩:=Kd.R_slice HO224.out
          (first|subst eo30|(injection eo30 with f1_ f2_ f3_;have f4_:=f1_.symm;have f5_:=f3_.symm;clear f1_ f2_ f3_;subst f4_;subst f5_))
          refine hK.out _ _ (((HB.out.cell (bl' w _ hw218_0)).trans hw218_0)) (fun hHeld=>?_);clear hK K;refine norm_ (a':=?_) ?_ ?_
          rotate_left
          ·
           show Act.put _ (some 40) _=_
           simp only[Act.put,sa',sb',sc',i64_w,i32_w];rfl
          refine one_ (i:=13) (N:=some 44) #[true,true,true,true,true,true,true,true,true,true,true,true,true,true,false,false] rfl rfl (one_of HT_.out xk') (by decide) (fun K hK=>?_);refine goes_ Try.func99 xk' rfl #[.slice (some ad218) l0.length c0, .slice Ao30 y222.length co30, .int .i64 (wrap64 (x10_2+1)), .int .i64 a3] (by rfl) rfl rfl xl' ?_
          with_reducible refine (ih k2 (by have:=HJ4.out;have:=HK2.out;omega) _ _ l0 _ _ y222 (wrap64 (x10_2+1)) a3 t225 _ ?side1 ?side2 ?side3 ?side4 A20.out).mono ?_
          (case side1=>exact kc' (cb' HR0.out HB.out))
          (case side2=>exact HC0.out)
          (case side3=>exact kc' ((Kd.R_reads' HO224.out).2.2))
          (case side4=>exact (Kd.R_reads' HO224.out).2.1)
          rintro e w31 ⟨v226,rfl,ho0,hb⟩
          refine ⟨_,rfl,?_⟩;have n0_:=am' (Kd.N_elder' (kN' HO_9.out) (Kd.N_base ho0) hb);have n1_:=am' (rb' (kr' HO221.out) hb);have n2_:=am' (rb' (kr' HO224.out) hb);have n3_:=am' (Kd.N_lower (Kd.N_mono (ok':=fun k_=>(w.heap.size≤k_)∧some k_≠(.slice Ao22 x9_2.length co22:Value).ownBlock∧some k_≠(.slice Ao29 y219.length co29:Value).ownBlock∧some k_≠(.slice Ao30 y222.length co30:Value).ownBlock) ho0 (fun k_ hk_=>⟨(Nat.le_trans (bz' xb') hk_),(Kd.fresh' (Kd.N_lt (kN' HO_9.out)) k_ hk_),(Kd.fresh' (Kd.R_lt (kr' HO221.out)) k_ hk_),(Kd.fresh' (Kd.R_lt (kr' HO224.out)) k_ hk_)⟩)) (bz' xb'));have n4_:=am' (bt' xb' hb);clear HO_9;clear HO221;clear HO224;clear HB;have HO_9:=n0_;have HO221:=n1_;have HO224:=n2_;have HO227:=n3_;have HB:=n4_;clear n0_ n1_ n2_ n3_ n4_;(try clear hb)
          (try clear hb2)
          (try clear hk)
          (try clear hi)
          (try clear ho0)
          obtain ⟨Ao33,co33,eo33⟩:=Kd.N_slice HO227.out
          (first|subst eo33|(injection eo33 with f1_ f2_ f3_;have f4_:=f1_.symm;have f5_:=f3_.symm;clear f1_ f2_ f3_;subst f4_;subst f5_))
          refine hK.out _ _ (((HB.out.cell (bl' w _ hw218_0)).trans hw218_0)) (fun hHeld=>?_);clear hK K;refine norm_ (a':=?_) ?_ ?_
          rotate_left
          ·
           show Act.put _ (some 44) _=_
           simp only[Act.put,sa',sb',sc',i64_w,i32_w];rfl
          refine one_ (i:=14) (N:=some 45) #[true,true,true,true,true,true,true,true,true,true,true,true,true,true,true,false] rfl rfl (one_of HT_.out xk') (by decide) (fun K hK=>?_);refine Kd.N_append_rows_step (Kd.slice 3 (Kd.int .i64)) (w0:=w) w.heap.size (by rfl) (.tmp 31) (.tmp 44) 47 22 (.slice none 0 0) 24 rfl Try.underlying47 info22 rfl (by decide) (by omega) (.slice Ao22 x9_2.length co22) x9_2 t225 _ _ _ (fun k_=>(w.heap.size≤k_)∧some k_≠(.slice Ao29 y219.length co29:Value).ownBlock∧some k_≠(.slice Ao30 y222.length co30:Value).ownBlock) (fun k_=>((fun k_=>(w.heap.size≤k_)∧some k_≠(.slice Ao29 y219.length co29:Value).ownBlock∧some k_≠(.slice Ao30 y222.length co30:Value).ownBlock)) k_∧some k_≠(.slice Ao22 x9_2.length co22:Value).ownBlock) rfl rfl ?aO ?aR (fun _ hk=>hk) ?aF ?aB ?aS ?aL ?_
          (case aR=>exact (by skip;exact Kd.N_F (Kd.N_mono (ok':=(fun k_=>((fun k_=>(w.heap.size≤k_)∧some k_≠(.slice Ao29 y219.length co29:Value).ownBlock∧some k_≠(.slice Ao30 y222.length co30:Value).ownBlock)) k_∧some k_≠(.slice Ao22 x9_2.length co22:Value).ownBlock)) (HO227.out) (fun k_ hk=>⟨⟨hk.1,⟨hk.2.2.1,hk.2.2.2⟩⟩,hk.2.1⟩))))
          (case aB=>exact xb')
          (case aF=>exact (fun k_ hk=>⟨(Nat.le_trans (bz' xb') hk),Kd.fresh' (Kd.R_lt (kr' HO221.out)) k_ hk,Kd.fresh' (Kd.R_lt (kr' HO224.out)) k_ hk⟩))
          (case aO=>exact (by (with_reducible repeat (first|apply Kd.N_alloc|apply Kd.N_drewN|apply Kd.N_drew));exact Kd.N_mono HO_9.out (fun _ hk=>⟨hk.1.1.1,⟨hk.1.1.2,hk.1.2⟩⟩)))
          (case aS=>exact (bz' xb'))
          (case aL=>have:=LMc21.out;omega)
          intro v229 w32 ho hb hg hat;rw[← Ny228.out] at ho;have n0_:=am' (Kd.R_over' (kr' HO221.out) (Kd.N_typed (kN' HO_9.out)) (by decide) hg);have n1_:=am' (Kd.R_over' (kr' HO224.out) (Kd.N_typed (kN' HO_9.out)) (by decide) hg);have n2_:=am' (Kd.N_afterv (ok:=(fun k_=>(w.heap.size≤k_)∧some k_≠(.slice Ao29 y219.length co29:Value).ownBlock∧some k_≠(.slice Ao30 y222.length co30:Value).ownBlock)) (by (with_reducible repeat (first|apply Kd.N_alloc|apply Kd.N_drewN|apply Kd.N_drew));exact Kd.N_mono HO227.out (fun _ hk=>⟨⟨hk.1,⟨hk.2.2.1,hk.2.2.2⟩⟩,hk.2.1⟩)) hg hat);have n3_:=am' (hb);have n4_:=am' (ho);clear HO221;clear HO224;clear HO227;clear HB;clear HO_9;have HO221:=n0_;have HO224:=n1_;have HO227:=n2_;have HB:=n3_;have HO230:=n4_;clear n0_ n1_ n2_ n3_ n4_;clear ho hb hg hat;refine hK.out _ _ (((HB.out.cell (bl' w _ hw218_0)).trans hw218_0)) (fun hHeld=>?_);clear hK K;refine norm_ (a':=?_) ?_ ?_
          rotate_left
          ·
           show Act.put _ (some 45) _=_
           simp only[Act.put,sa',sb',sc',i64_w,i32_w];rfl
          refine pure_ (i:=15) (N:=some 9) (v:=?_) (a':=?_) #[true,true,true,true,true,true,true,true,true,true,true,true,true,true,true,true] rfl rfl (any_of HT_.out xk') (fun _ _ _ h=>h) (Or.inl ⟨by rfl,?_⟩) ?_ ?_
          rotate_left
          ·
           intro w';go_simp;with_reducible rfl
          rotate_left
          ·
           simp only[Act.put,sa',sb',sc',i64_w,i32_w];rfl
          refine done_ (done_of HT_.out xk') ?_
          try go_wp2
          go_roundg k2
          case measure=>have:=HJ4.out;have:=HK2.out;omega
          case rel=>exact ⟨(y228),(wrap64 (x10_2+1)),xs',H',⟨by have:=HJ4.out;have:=HK2.out;omega⟩,⟨by (with_reducible repeat (first|apply Kd.N_alloc|apply Kd.N_drewN|apply Kd.N_drew));exact Kd.N_mono HO230.out (fun _ hk=>hk.1)⟩,⟨xb'⟩⟩
         ·
          rw[if_neg c21] at H;exact absurd H (by simp)
        ·
         rw[if_neg c19] at H;exact absurd H (by simp)
       ·
        rw[if_neg c18] at H;exact absurd H (by simp)
      ·
       rw[if_neg c16] at H;have c16b0:decide (x10_2 < (l0.length:Int))=false:=df' c16;clear c16;obtain rfl:=os' H;go_wp2;go_ret
       exact ⟨_,by first|rfl|(simp[errW_none,errW_some] <;> rfl)|(simp[*,errW_none,errW_some] <;> rfl),kN' HO_9.out,xb'⟩
end Go.Proofs.Ytikjdmiohpdnaaa.C20
