import Derived.Test.YtabhhkiipilghaaC1zx0
import Derived.Test.YtabhhkiipilghaaC1zx3
import Derived.Test.YtabhhkiipilghaaC1zx6
import Derived.Test.YtabhhkiipilghaaC1zx7
import Derived.Test.YtabhhkiipilghaaC1zx8
import Derived.Test.YtabhhkiipilghaaC1zx9
import Derived.Test.YtabhhkiipilghaaC1zAl
namespace Go.Proofs.Ytabhhkiipilghaa.C1
open Go.RowKit Go.Proofs.YtabhhkiipilghaaW.PrintWords Go.Proofs.YtabhhkiipilghaaW.PrintLast Go.Proofs.YtabhhkiipilghaaW.PrintMore Go.Proofs.Ytabhhkiipilghaa.H
attribute [local go_sem] max2_int min2_int max_two min_two max_three min_three max_four min_four
set_option linter.unusedVariables false
set_option linter.unusedSimpArgs false
theorem laws_FnGuardsOverOfAll.j0_dead:∀ (k:Nat) (x0:_) (x1:_) (x2:_) (x3:_) (x4:_) (x5:_) (x6:_) (x7:_) {r:Bool},r=true→laws_FnGuardsOverOfAll.j0 k x0 x1 x2 x3 x4 x5 x6 x7 true=some r→False
 | 0,_,_,_,_,_,_,_,_,_,_,h=>by simp[laws_FnGuardsOverOfAll.j0] at h
 | k+1,_,_,_,_,_,_,_,_,_,e,h=>by simp[laws_FnGuardsOverOfAll.j0] at h;rw[h] at e;cases e
theorem laws_FnGuardsOverOfAll.j7_dead:∀ (k:Nat) (x0:_) (x1:_) (x2:_) (x3:_) (x4:_) (x5:_) {r:Bool},r=true→laws_FnGuardsOverOfAll.j7 k x0 x1 x2 x3 x4 x5 true=some r→False
 | 0,_,_,_,_,_,_,_,_,h=>by simp[laws_FnGuardsOverOfAll.j7] at h
 | k+1,_,_,_,_,_,_,_,e,h=>by simp[laws_FnGuardsOverOfAll.j7] at h;rw[h] at e;cases e
theorem laws_FnGuardsOverOfAll.j4_dead:∀ (k:Nat) (x0:_) (x1:_) (x2:_) (x3:_) (x4:_) (x5:_) (x6:_) (x7:_) (x8:_) (x9:_) (x10:_) (x11:_) (x12:_) (x13:_) (x14:_) {r:Bool},r=true→laws_FnGuardsOverOfAll.j4 k x0 x1 x2 x3 x4 x5 x6 x7 x8 x9 x10 x11 x12 x13 x14 true=some r→False
 | 0,_,_,_,_,_,_,_,_,_,_,_,_,_,_,_,_,_,h=>by simp[laws_FnGuardsOverOfAll.j4] at h
 | k+1,_,_,_,_,_,_,_,_,_,_,_,_,_,_,_,_,e,h=>by simp[laws_FnGuardsOverOfAll.j4] at h;rw[h] at e;cases e
theorem laws_FnGuardsOverOfAll.j5_dead:∀ (k:Nat) (x0:_) (x1:_) (x2:_) (x3:_) (x4:_) (x5:_) {r:Bool},r=true→laws_FnGuardsOverOfAll.j5 k x0 x1 x2 x3 x4 x5 true=some r→False
 | 0,_,_,_,_,_,_,_,_,h=>by simp[laws_FnGuardsOverOfAll.j5] at h
 | k+1,_,_,_,_,_,_,_,e,h=>by simp[laws_FnGuardsOverOfAll.j5] at h;rw[h] at e;cases e
set_option maxHeartbeats 8000000 in
set_option maxRecDepth 100000 in
theorem laws_FnGuardsOverOfAll.calls (k:Nat) (a0:Int) (a1:Int) (a2:Int) (a3:Int) (a4:Int) (r:Bool) (w:World) (h:laws_FnGuardsOverOfAll.f k a0 a1 a2 a3 a4=some r) (HRT:Aside0 (r=true)) :
  Calls Try.prog 3 #[.int .i64 a0, .int .i64 a1, .int .i64 a2, .int .i64 a3, .int .i64 a4] w fun e w'=>e = .returned (.bool r)∧Below w.heap.size w w':=by
 have HB:=am' (Below.refl w.heap.size w)
 have H:((impl_FirstForGuards.f k a0 a1 a2).bind fun bt174=>((spec_FirstForGuards.f k a0 a1 a2).bind fun bt178=>((impl_FewestForGuards.f k a0 a1 a2).bind fun bt182=>((spec_FewestForGuards.f k a0 a1 a2).bind fun bt184=>(if (bt174.2 != bt178.2)=true then (laws_FnGuardsOverOfAll.j0 k a0 a1 a2 a3 a4 bt174.1 bt174.2 bt182.1 true) else ((laws_hRows.f k bt174.1 bt178.1).bind fun t186=>(if t186=true then (if (bt182.2 != bt184.2)=true then (laws_FnGuardsOverOfAll.j0 k a0 a1 a2 a3 a4 bt174.1 bt174.2 bt182.1 true) else (if bt182.1=bt184.1 then (laws_FnGuardsOverOfAll.j0 k a0 a1 a2 a3 a4 bt174.1 bt174.2 bt182.1 (bt182.2 != bt174.2)) else (laws_FnGuardsOverOfAll.j0 k a0 a1 a2 a3 a4 bt174.1 bt174.2 bt182.1 true))) else (laws_FnGuardsOverOfAll.j0 k a0 a1 a2 a3 a4 bt174.1 bt174.2 bt182.1 true))))))))=some r:=h
 clear h;replace H:=Option.bind_eq_some_iff.mp H
 obtain ⟨⟨t174,t175⟩,A60,H⟩:=H
 replace H:((spec_FirstForGuards.f k a0 a1 a2).bind fun bt178=>((impl_FewestForGuards.f k a0 a1 a2).bind fun bt182=>((spec_FewestForGuards.f k a0 a1 a2).bind fun bt184=>(if (t175 != bt178.2)=true then (laws_FnGuardsOverOfAll.j0 k a0 a1 a2 a3 a4 t174 t175 bt182.1 true) else ((laws_hRows.f k t174 bt178.1).bind fun t186=>(if t186=true then (if (bt182.2 != bt184.2)=true then (laws_FnGuardsOverOfAll.j0 k a0 a1 a2 a3 a4 t174 t175 bt182.1 true) else (if bt182.1=bt184.1 then (laws_FnGuardsOverOfAll.j0 k a0 a1 a2 a3 a4 t174 t175 bt182.1 (bt182.2 != t175)) else (laws_FnGuardsOverOfAll.j0 k a0 a1 a2 a3 a4 t174 t175 bt182.1 true))) else (laws_FnGuardsOverOfAll.j0 k a0 a1 a2 a3 a4 t174 t175 bt182.1 true)))))))=some r:=H
 have A6:=am' A60
 clear A60;replace H:=Option.bind_eq_some_iff.mp H
 obtain ⟨⟨t178,t179⟩,A70,H⟩:=H
 replace H:((impl_FewestForGuards.f k a0 a1 a2).bind fun bt182=>((spec_FewestForGuards.f k a0 a1 a2).bind fun bt184=>(if (t175 != t179)=true then (laws_FnGuardsOverOfAll.j0 k a0 a1 a2 a3 a4 t174 t175 bt182.1 true) else ((laws_hRows.f k t174 t178).bind fun t186=>(if t186=true then (if (bt182.2 != bt184.2)=true then (laws_FnGuardsOverOfAll.j0 k a0 a1 a2 a3 a4 t174 t175 bt182.1 true) else (if bt182.1=bt184.1 then (laws_FnGuardsOverOfAll.j0 k a0 a1 a2 a3 a4 t174 t175 bt182.1 (bt182.2 != t175)) else (laws_FnGuardsOverOfAll.j0 k a0 a1 a2 a3 a4 t174 t175 bt182.1 true))) else (laws_FnGuardsOverOfAll.j0 k a0 a1 a2 a3 a4 t174 t175 bt182.1 true))))))=some r:=H
 have A7:=am' A70
 clear A70;replace H:=Option.bind_eq_some_iff.mp H
 obtain ⟨⟨t182,t183⟩,A80,H⟩:=H
 replace H:((spec_FewestForGuards.f k a0 a1 a2).bind fun bt184=>(if (t175 != t179)=true then (laws_FnGuardsOverOfAll.j0 k a0 a1 a2 a3 a4 t174 t175 t182 true) else ((laws_hRows.f k t174 t178).bind fun t186=>(if t186=true then (if (t183 != bt184.2)=true then (laws_FnGuardsOverOfAll.j0 k a0 a1 a2 a3 a4 t174 t175 t182 true) else (if t182=bt184.1 then (laws_FnGuardsOverOfAll.j0 k a0 a1 a2 a3 a4 t174 t175 t182 (t183 != t175)) else (laws_FnGuardsOverOfAll.j0 k a0 a1 a2 a3 a4 t174 t175 t182 true))) else (laws_FnGuardsOverOfAll.j0 k a0 a1 a2 a3 a4 t174 t175 t182 true)))))=some r:=H
 have A8:=am' A80
 clear A80;replace H:=Option.bind_eq_some_iff.mp H
 obtain ⟨⟨t184,t185⟩,A90,H⟩:=H
 replace H:(if (t175 != t179)=true then (laws_FnGuardsOverOfAll.j0 k a0 a1 a2 a3 a4 t174 t175 t182 true) else ((laws_hRows.f k t174 t178).bind fun t186=>(if t186=true then (if (t183 != t185)=true then (laws_FnGuardsOverOfAll.j0 k a0 a1 a2 a3 a4 t174 t175 t182 true) else (if t182=t184 then (laws_FnGuardsOverOfAll.j0 k a0 a1 a2 a3 a4 t174 t175 t182 (t183 != t175)) else (laws_FnGuardsOverOfAll.j0 k a0 a1 a2 a3 a4 t174 t175 t182 true))) else (laws_FnGuardsOverOfAll.j0 k a0 a1 a2 a3 a4 t174 t175 t182 true))))=some r:=H
 have A9:=am' A90
 clear A90;have HC10:=am' H
 clear H;go_enter Try.func3,Try.ntmps3
 go_upto_region 5 with (first|(go_at_call 5;(with_reducible refine (impl_FirstForGuards.calls k a0 a1 a2 t174 t175 _ A6.out).mono ?_);rintro e w11 ⟨v176,rfl,ho0,hb⟩;obtain ⟨D206_,hdl_,hdg_⟩:=dlt_of hb;have D206_lt:=am' hdl_;have D206_ge:=am' hdg_;clear hdl_ hdg_;have n0_:=am' (Kd.S_lower (Kd.S_dge ho0 D206_ge.out) (bz' xb'));have n1_:=am' (bt' xb' hb);clear HB;have HO177:=n0_;have HB:=n1_;clear n0_ n1_;(try clear hb);(try clear hb2);(try clear hk);(try clear hi);(try clear ho0))|(go_at_call 6;(with_reducible refine (spec_FirstForGuards.calls k a0 a1 a2 t178 t179 _ A7.out).mono ?_);rintro e w12 ⟨v180,rfl,ho0,hb⟩;obtain ⟨D207_,hdl_,hdg_⟩:=dlt_of hb;have D207_lt:=am' hdl_;have D207_ge:=am' hdg_;clear hdl_ hdg_;have n0_:=am' (Kd.S_elder' (Kd.S_dlt (kS' HO177.out) D207_lt.out) (Kd.S_base ho0) hb);have n1_:=am' (Kd.S_lower (Kd.S_new' (Kd.S_dge ho0 D207_ge.out) (Kd.S_lt (kS' HO177.out))) (bz' xb'));have n2_:=am' (bt' xb' hb);clear HO177;clear HB;have HO177:=n0_;have HO181:=n1_;have HB:=n2_;clear n0_ n1_ n2_;(try clear hb);(try clear hb2);(try clear hk);(try clear hi);(try clear ho0))|(go_at_call 7;(with_reducible refine (impl_FewestForGuards.calls k a0 a1 a2 t182 t183 _ A8.out).mono ?_);rintro e w13 ⟨rfl,hb⟩;have n0_:=am' (Kd.S_below (kS' HO177.out) hb);have n1_:=am' (Kd.S_below (kS' HO181.out) hb);have n2_:=am' (bt' xb' hb);clear HO177;clear HO181;clear HB;have HO177:=n0_;have HO181:=n1_;have HB:=n2_;clear n0_ n1_ n2_;(try clear hb);(try clear hb2);(try clear hk);(try clear hi))|(go_at_call 8;(with_reducible refine (spec_FewestForGuards.calls k a0 a1 a2 t184 t185 _ A9.out).mono ?_);rintro e w14 ⟨rfl,hb⟩;have n0_:=am' (Kd.S_below (kS' HO177.out) hb);have n1_:=am' (Kd.S_below (kS' HO181.out) hb);have n2_:=am' (bt' xb' hb);clear HO177;clear HO181;clear HB;have HO177:=n0_;have HO181:=n1_;have HB:=n2_;clear n0_ n1_ n2_;(try clear hb);(try clear hb2);(try clear hk);(try clear hi)))
 repeat (go_quiet (first|(go_at_call 5;(with_reducible refine (impl_FirstForGuards.calls k a0 a1 a2 t174 t175 _ A6.out).mono ?_);rintro e w11 ⟨v176,rfl,ho0,hb⟩;obtain ⟨D206_,hdl_,hdg_⟩:=dlt_of hb;have D206_lt:=am' hdl_;have D206_ge:=am' hdg_;clear hdl_ hdg_;have n0_:=am' (Kd.S_lower (Kd.S_dge ho0 D206_ge.out) (bz' xb'));have n1_:=am' (bt' xb' hb);clear HB;have HO177:=n0_;have HB:=n1_;clear n0_ n1_;(try clear hb);(try clear hb2);(try clear hk);(try clear hi);(try clear ho0))|(go_at_call 6;(with_reducible refine (spec_FirstForGuards.calls k a0 a1 a2 t178 t179 _ A7.out).mono ?_);rintro e w12 ⟨v180,rfl,ho0,hb⟩;obtain ⟨D207_,hdl_,hdg_⟩:=dlt_of hb;have D207_lt:=am' hdl_;have D207_ge:=am' hdg_;clear hdl_ hdg_;have n0_:=am' (Kd.S_elder' (Kd.S_dlt (kS' HO177.out) D207_lt.out) (Kd.S_base ho0) hb);have n1_:=am' (Kd.S_lower (Kd.S_new' (Kd.S_dge ho0 D207_ge.out) (Kd.S_lt (kS' HO177.out))) (bz' xb'));have n2_:=am' (bt' xb' hb);clear HO177;clear HB;have HO177:=n0_;have HO181:=n1_;have HB:=n2_;clear n0_ n1_ n2_;(try clear hb);(try clear hb2);(try clear hk);(try clear hi);(try clear ho0))|(go_at_call 7;(with_reducible refine (impl_FewestForGuards.calls k a0 a1 a2 t182 t183 _ A8.out).mono ?_);rintro e w13 ⟨rfl,hb⟩;have n0_:=am' (Kd.S_below (kS' HO177.out) hb);have n1_:=am' (Kd.S_below (kS' HO181.out) hb);have n2_:=am' (bt' xb' hb);clear HO177;clear HO181;clear HB;have HO177:=n0_;have HO181:=n1_;have HB:=n2_;clear n0_ n1_ n2_;(try clear hb);(try clear hb2);(try clear hk);(try clear hi))|(go_at_call 8;(with_reducible refine (spec_FewestForGuards.calls k a0 a1 a2 t184 t185 _ A9.out).mono ?_);rintro e w14 ⟨rfl,hb⟩;have n0_:=am' (Kd.S_below (kS' HO177.out) hb);have n1_:=am' (Kd.S_below (kS' HO181.out) hb);have n2_:=am' (bt' xb' hb);clear HO177;clear HO181;clear HB;have HO177:=n0_;have HO181:=n1_;have HB:=n2_;clear n0_ n1_ n2_;(try clear hb);(try clear hb2);(try clear hk);(try clear hi)));go_upto_region 5 with (first|(go_at_call 5;(with_reducible refine (impl_FirstForGuards.calls k a0 a1 a2 t174 t175 _ A6.out).mono ?_);rintro e w11 ⟨v176,rfl,ho0,hb⟩;obtain ⟨D206_,hdl_,hdg_⟩:=dlt_of hb;have D206_lt:=am' hdl_;have D206_ge:=am' hdg_;clear hdl_ hdg_;have n0_:=am' (Kd.S_lower (Kd.S_dge ho0 D206_ge.out) (bz' xb'));have n1_:=am' (bt' xb' hb);clear HB;have HO177:=n0_;have HB:=n1_;clear n0_ n1_;(try clear hb);(try clear hb2);(try clear hk);(try clear hi);(try clear ho0))|(go_at_call 6;(with_reducible refine (spec_FirstForGuards.calls k a0 a1 a2 t178 t179 _ A7.out).mono ?_);rintro e w12 ⟨v180,rfl,ho0,hb⟩;obtain ⟨D207_,hdl_,hdg_⟩:=dlt_of hb;have D207_lt:=am' hdl_;have D207_ge:=am' hdg_;clear hdl_ hdg_;have n0_:=am' (Kd.S_elder' (Kd.S_dlt (kS' HO177.out) D207_lt.out) (Kd.S_base ho0) hb);have n1_:=am' (Kd.S_lower (Kd.S_new' (Kd.S_dge ho0 D207_ge.out) (Kd.S_lt (kS' HO177.out))) (bz' xb'));have n2_:=am' (bt' xb' hb);clear HO177;clear HB;have HO177:=n0_;have HO181:=n1_;have HB:=n2_;clear n0_ n1_ n2_;(try clear hb);(try clear hb2);(try clear hk);(try clear hi);(try clear ho0))|(go_at_call 7;(with_reducible refine (impl_FewestForGuards.calls k a0 a1 a2 t182 t183 _ A8.out).mono ?_);rintro e w13 ⟨rfl,hb⟩;have n0_:=am' (Kd.S_below (kS' HO177.out) hb);have n1_:=am' (Kd.S_below (kS' HO181.out) hb);have n2_:=am' (bt' xb' hb);clear HO177;clear HO181;clear HB;have HO177:=n0_;have HO181:=n1_;have HB:=n2_;clear n0_ n1_ n2_;(try clear hb);(try clear hb2);(try clear hk);(try clear hi))|(go_at_call 8;(with_reducible refine (spec_FewestForGuards.calls k a0 a1 a2 t184 t185 _ A9.out).mono ?_);rintro e w14 ⟨rfl,hb⟩;have n0_:=am' (Kd.S_below (kS' HO177.out) hb);have n1_:=am' (Kd.S_below (kS' HO181.out) hb);have n2_:=am' (bt' xb' hb);clear HO177;clear HO181;clear HB;have HO177:=n0_;have HO181:=n1_;have HB:=n2_;clear n0_ n1_ n2_;(try clear hb);(try clear hb2);(try clear hk);(try clear hi))))
 (try simp only[Act.put,sa',sb',sc'])
 go_cut [95] from 44 to 71 (fun v95 wc=>∃ (kq:Nat) (x95_9:Bool),v95 = .bool x95_9∧Aside0 (laws_FnGuardsOverOfAll.j0 kq a0 a1 a2 a3 a4 t174 t175 t182 x95_9=some r)∧Aside0 (kq≤k)∧Aside0 (Kd.S (Kd.slice 3 (Kd.int .i64)) 28 wc w.heap.size (fun k_=>¬ D206_ k_∧D207_ k_) v176 t174)∧Aside0 (Below w.heap.size w wc))
 case first =>
  have H:=HC10.out;clear HC10;by_cases c15:(t175 != t179)=true
  ·
   rw[if_pos c15] at H;exact (laws_FnGuardsOverOfAll.j0_dead _ _ _ _ _ _ _ _ _ HRT.out H).elim
  ·
   rw[if_neg c15] at H;have c15b0:(t175 != t179)=false:=by simpa using c15
   (try (have c15b1:decide (t175=t179)=true:=by simpa using c15))
   (try (have c15b2:(t175 == t179)=true:=by simpa using c15))
   clear c15;(first|rw[c15b0]|(simp only[i64_w,i32_w];rw[c15b0])|rw[c15b1]|skip)
   replace H:=Option.bind_eq_some_iff.mp H;obtain ⟨t186,A160,H⟩:=H;replace H:(if t186=true then (if (t183 != t185)=true then (laws_FnGuardsOverOfAll.j0 k a0 a1 a2 a3 a4 t174 t175 t182 true) else (if t182=t184 then (laws_FnGuardsOverOfAll.j0 k a0 a1 a2 a3 a4 t174 t175 t182 (t183 != t175)) else (laws_FnGuardsOverOfAll.j0 k a0 a1 a2 a3 a4 t174 t175 t182 true))) else (laws_FnGuardsOverOfAll.j0 k a0 a1 a2 a3 a4 t174 t175 t182 true))=some r:=H;have A16:=am' A160;clear A160;by_cases c17:t186=true
   ·
    subst c17;have H1:(if (t183 != t185)=true then (laws_FnGuardsOverOfAll.j0 k a0 a1 a2 a3 a4 t174 t175 t182 true) else (if t182=t184 then (laws_FnGuardsOverOfAll.j0 k a0 a1 a2 a3 a4 t174 t175 t182 (t183 != t175)) else (laws_FnGuardsOverOfAll.j0 k a0 a1 a2 a3 a4 t174 t175 t182 true)))=some r:=by rw[if_pos rfl] at H;exact H
    clear H;have H:=H1;clear H1;by_cases c18:(t183 != t185)=true
    ·
     rw[if_pos c18] at H;exact (laws_FnGuardsOverOfAll.j0_dead _ _ _ _ _ _ _ _ _ HRT.out H).elim
    ·
     rw[if_neg c18] at H;have c18b0:(t183 != t185)=false:=by simpa using c18
     (try (have c18b1:decide (t183=t185)=true:=by simpa using c18))
     (try (have c18b2:(t183 == t185)=true:=by simpa using c18))
     clear c18;by_cases c21:t182=t184
     ·
      rw[if_pos c21] at H;have c21b0:(t182 == t184)=true:=beq_iff_eq.mpr c21;have c21b1:(t182 != t184)=false:=bne_eq_false_iff_eq.mpr c21;clear c21;have H':=am' H;clear H;obtain ⟨Ao22,co22,eo22⟩:=Kd.S_slice HO177.out;subst eo22;obtain ⟨Ao23,co23,eo23⟩:=Kd.S_slice HO181.out;subst eo23;go_wp2_with (first|(go_at_call 9;(with_reducible refine (laws_hRows.calls k _ _ t174 _ _ t178 true _ ?side1 ?side2 ?side3 ?side4 A16.out).mono ?_);(case side1=>exact kc' ((Kd.S_reads' HO177.out).2.2));(case side2=>exact (Kd.S_reads' HO177.out).2.1);(case side3=>exact kc' ((Kd.S_reads' HO181.out).2.2));(case side4=>exact (Kd.S_reads' HO181.out).2.1);rintro e w' ⟨rfl,⟨nd,rfl⟩⟩;(try first|exact ⟨rfl,_,World.drewN_drewN _ _ _⟩|exact ⟨rfl,_,Eq.trans (World.drewN_drewN _ _ _) (congrArg (World.drewN _) (Nat.add_assoc _ _ _))⟩)))
      repeat (go_quiet (first|(go_at_call 9;(with_reducible refine (laws_hRows.calls k _ _ t174 _ _ t178 true _ ?side1 ?side2 ?side3 ?side4 A16.out).mono ?_);(case side1=>exact kc' ((Kd.S_reads' HO177.out).2.2));(case side2=>exact (Kd.S_reads' HO177.out).2.1);(case side3=>exact kc' ((Kd.S_reads' HO181.out).2.2));(case side4=>exact (Kd.S_reads' HO181.out).2.1);rintro e w' ⟨rfl,⟨nd,rfl⟩⟩;(try first|exact ⟨rfl,_,World.drewN_drewN _ _ _⟩|exact ⟨rfl,_,Eq.trans (World.drewN_drewN _ _ _) (congrArg (World.drewN _) (Nat.add_assoc _ _ _))⟩)));try go_wp2_with (first|(go_at_call 9;(with_reducible refine (laws_hRows.calls k _ _ t174 _ _ t178 true _ ?side1 ?side2 ?side3 ?side4 A16.out).mono ?_);(case side1=>exact kc' ((Kd.S_reads' HO177.out).2.2));(case side2=>exact (Kd.S_reads' HO177.out).2.1);(case side3=>exact kc' ((Kd.S_reads' HO181.out).2.2));(case side4=>exact (Kd.S_reads' HO181.out).2.1);rintro e w' ⟨rfl,⟨nd,rfl⟩⟩;(try first|exact ⟨rfl,_,World.drewN_drewN _ _ _⟩|exact ⟨rfl,_,Eq.trans (World.drewN_drewN _ _ _) (congrArg (World.drewN _) (Nat.add_assoc _ _ _))⟩))))
      go_meet
      case rel=>exact ⟨_,((t183 != t175)),xs',H',⟨by first|omega|exact Nat.le_refl _⟩,⟨by (with_reducible repeat (first|apply Kd.S_alloc|apply Kd.S_drewN|apply Kd.S_drew));exact Kd.S_mono HO177.out (fun _ hk=>⟨hk.1.1.2,hk.1.2⟩)⟩,⟨xb'⟩⟩
     ·
      rw[if_neg c21] at H;exact (laws_FnGuardsOverOfAll.j0_dead _ _ _ _ _ _ _ _ _ HRT.out H).elim
   ·
    rw[if_neg c17] at H;exact (laws_FnGuardsOverOfAll.j0_dead _ _ _ _ _ _ _ _ _ HRT.out H).elim
 case rest=>as_aux_lemma =>
  clear HC10;try clear c1
  try clear c2
  try clear p2
  try clear c3
  try clear c15
  try clear c15b0
  try clear c15b1
  try clear c15b2
  try clear c17
  try clear c18
  try clear c18b0
  try clear c18b1
  try clear c18b2
  try clear c21
  try clear c21b0
  try clear c21b1
  obtain ⟨kq,x95_9,rfl,HA,HJ9,HO_11,HB⟩:=hcut;cases kq with
  | zero=>exact absurd HA.out (by simp[laws_FnGuardsOverOfAll.j0])
  | succ kj9 =>
   have H:=HA.out;clear HA;simp only[laws_FnGuardsOverOfAll.j0] at H;have HC28:=am' H;clear H;go_upto_if 95 with (fail)
   repeat (go_quiet (fail);go_upto_if 95 with (fail))
   go_cut [] from 96 to 95 (fun wc=>∃ (kq:Nat),Aside0 (laws_FnGuardsOverOfAll.j1 kq a0 a1 a2 a3 a4 t174 t175 t182=some r)∧Aside0 (kq≤kj9)∧Aside0 (Kd.S (Kd.slice 3 (Kd.int .i64)) 28 wc w.heap.size (fun k_=>¬ D206_ k_∧D207_ k_) v176 t174)∧Aside0 (Below w.heap.size w wc))
   case first =>
    have H:=HC28.out;clear HC28;by_cases c29:x95_9=true
    ·
     rw[if_pos c29] at H;exact absurd (H.trans (congrArg some HRT.out)) (by decide)
    ·
     replace c29:=Bool.eq_false_iff.mpr c29;subst c29;have H1:(laws_FnGuardsOverOfAll.j1 kj9 a0 a1 a2 a3 a4 t174 t175 t182)=some r:=by rw[if_neg (show ¬ (false=true) by decide)] at H;exact H
     clear H;have H:=H1;clear H1;have H':=am' H;clear H;go_wp2
     repeat (go_quiet (fail);try go_wp2)
     go_meet
     case rel=>exact ⟨_,H',⟨by have:=HJ9.out;first|omega|exact Nat.le_refl _⟩,⟨kS' HO_11.out⟩,⟨xb'⟩⟩
   case rest=>as_aux_lemma =>
    clear HC28;try clear c1
    try clear c2
    try clear p2
    try clear c3
    try clear c15
    try clear c15b0
    try clear c15b1
    try clear c15b2
    try clear c17
    try clear c18
    try clear c18b0
    try clear c18b1
    try clear c18b2
    try clear c21
    try clear c21b0
    try clear c21b1
    try clear c29
    try clear p2
    obtain ⟨kq,HA,HJ27,HO_11,HB⟩:=hcut;cases kq with
    | zero=>exact absurd HA.out (by simp[laws_FnGuardsOverOfAll.j1])
    | succ kj27 =>
     have H:=HA.out;clear HA;simp only[laws_FnGuardsOverOfAll.j1] at H;have HC30:=am' H;clear H;go_upto_if 96 with (fail)
     repeat (go_quiet (fail);go_upto_if 96 with (fail))
     go_cut [] from 96 to 96 (fun wc=>∃ (kq:Nat),Aside0 (laws_FnGuardsOverOfAll.j6 kq a3 a4=some r)∧Aside0 (kq≤kj27)∧Aside0 (Below w.heap.size w wc))
     case first =>
      have H:=HC30.out;clear HC30;by_cases c31:t175=true
      ·
       subst c31;have H1:(laws_FnGuardsOverOfAll.l0 kj27 a0 a1 a2 a3 a4 t174 t182 0 0 t174 (t174.length:Int) 0)=some r:=by rw[if_pos rfl] at H;exact H
       clear H;have H:=H1;clear H1;have H':=am' H;clear H;obtain ⟨Ao32,co32,eo32⟩:=Kd.S_slice HO_11.out;subst eo32;go_wp2
       repeat (go_quiet (fail);try go_wp2)
       go_loopg [19,20,99] kj27 (fun kq v19 v20 v99 w'=>∃ (x19_3:Int) (x20_3:Int) (x99_3:Int),v19 = .int .i64 x19_3∧v20 = .int .i64 x20_3∧v99 = .int .i64 x99_3∧Aside0 (laws_FnGuardsOverOfAll.l0 kq a0 a1 a2 a3 a4 t174 t182 x19_3 x20_3 t174 (t174.length:Int) x99_3=some r)∧Aside0 (kq≤kj27)∧Aside0 (Kd.S (Kd.slice 3 (Kd.int .i64)) 28 w' w.heap.size (fun k_=>¬ D206_ k_∧D207_ k_) (.slice Ao32 t174.length co32) t174)∧Aside0 (Kd.S (Kd.slice 3 (Kd.int .i64)) 28 w' w.heap.size (fun k_=>¬ D206_ k_∧D207_ k_) (.slice Ao32 t174.length co32) t174)∧Aside0 (Below w.heap.size w w'))
       case atStart=>exact ⟨(0),(0),(0),xs',xs',xs',H',⟨Nat.le_refl _⟩,⟨kS' HO_11.out⟩,⟨kS' HO_11.out⟩,⟨xb'⟩⟩
       case round=>as_aux_lemma =>
        clear H';try clear c1
        try clear c2
        try clear p2
        try clear c3
        try clear c15
        try clear c15b0
        try clear c15b1
        try clear c15b2
        try clear c17
        try clear c18
        try clear c18b0
        try clear c18b1
        try clear c18b2
        try clear c21
        try clear c21b0
        try clear c21b1
        try clear c29
        try clear c31
        try clear p2
        obtain ⟨x19_3,x20_3,x99_3,rfl,rfl,rfl,HA,HK3,HO_11,HO_97,HB⟩:=hrel;cases gk with
        | zero=>exact absurd HA.out (by simp[laws_FnGuardsOverOfAll.l0])
        | succ k3 =>
         have H:=HA.out;clear HA;simp only[laws_FnGuardsOverOfAll.l0] at H;have HC33:=am' H;clear H;go_upto_if 100 with (fail)
         repeat (go_quiet (fail);go_upto_if 100 with (fail))
         go_cut [] from 100 to 100 (fun wc=>∃ (kq:Nat),Aside0 (laws_FnGuardsOverOfAll.j3 kq a0 a1 a2 a3 a4 t174 t182 x19_3 x20_3 t174 (t174.length:Int) x99_3=some r)∧Aside0 (kq≤k3)∧Aside0 (Kd.S (Kd.slice 3 (Kd.int .i64)) 28 wc w.heap.size (fun k_=>¬ D206_ k_∧D207_ k_) (.slice Ao32 t174.length co32) t174)∧Aside0 (Kd.S (Kd.slice 3 (Kd.int .i64)) 28 wc w.heap.size (fun k_=>¬ D206_ k_∧D207_ k_) (.slice Ao32 t174.length co32) t174)∧Aside0 (Below w.heap.size w wc))
         case first =>
          have H:=HC33.out;clear HC33;by_cases c34:x99_3 < (t174.length:Int)
          ·
           rw[if_pos c34] at H;have c34b0:decide (x99_3 < (t174.length:Int))=true:=dt' c34;clear c34;(first|rw[c34b0]|(simp only[i64_w,i32_w];rw[c34b0])|skip)
           have H':=am' H;clear H;go_wp2
           repeat (go_quiet (fail);try go_wp2)
           go_meet
           case rel=>exact ⟨_,H',⟨by have:=HJ9.out;have:=HJ27.out;have:=HK3.out;first|omega|exact Nat.le_refl _⟩,⟨kS' HO_11.out⟩,⟨kS' HO_97.out⟩,⟨xb'⟩⟩
          ·
           rw[if_neg c34] at H;have c34b0:decide (x99_3 < (t174.length:Int))=false:=df' c34;clear c34;(first|rw[c34b0]|(simp only[i64_w,i32_w];rw[c34b0])|skip)
           replace H:=Option.bind_eq_some_iff.mp H;obtain ⟨⟨t190,t191⟩,A350,H⟩:=H;replace H:(if (t174.length:Int)=t182 then (if (Int.tmod t182 2)=1 then (if x19_3=a0 then (if x20_3=a1 then (if t191=true then (laws_FnGuardsOverOfAll.j5 k3 a0 a1 a2 a3 a4 t182 (decide (t190 > a2))) else (laws_FnGuardsOverOfAll.j5 k3 a0 a1 a2 a3 a4 t182 true)) else (laws_FnGuardsOverOfAll.j5 k3 a0 a1 a2 a3 a4 t182 true)) else (laws_FnGuardsOverOfAll.j5 k3 a0 a1 a2 a3 a4 t182 true)) else (laws_FnGuardsOverOfAll.j5 k3 a0 a1 a2 a3 a4 t182 true)) else (laws_FnGuardsOverOfAll.j5 k3 a0 a1 a2 a3 a4 t182 true))=some r:=H;have A35:=am' A350;clear A350;have HC36:=am' H;clear H;go_upto_region 26 with (first|(go_at_call 10;(with_reducible refine (impl_SeatsForGuards.calls k3 a0 a1 t190 t191 _ A35.out).mono ?_);rintro e w37 ⟨rfl,hb⟩;have n0_:=am' (Kd.S_below (kS' HO_11.out) hb);have n1_:=am' (Kd.S_below (kS' HO_97.out) hb);have n2_:=am' (bt' xb' hb);clear HO_11;clear HO_97;clear HB;have HO_11:=n0_;have HO_97:=n1_;have HB:=n2_;clear n0_ n1_ n2_;(try clear hb);(try clear hb2);(try clear hk);(try clear hi)))
           repeat (go_quiet (first|(go_at_call 10;(with_reducible refine (impl_SeatsForGuards.calls k3 a0 a1 t190 t191 _ A35.out).mono ?_);rintro e w37 ⟨rfl,hb⟩;have n0_:=am' (Kd.S_below (kS' HO_11.out) hb);have n1_:=am' (Kd.S_below (kS' HO_97.out) hb);have n2_:=am' (bt' xb' hb);clear HO_11;clear HO_97;clear HB;have HO_11:=n0_;have HO_97:=n1_;have HB:=n2_;clear n0_ n1_ n2_;(try clear hb);(try clear hb2);(try clear hk);(try clear hi)));go_upto_region 26 with (first|(go_at_call 10;(with_reducible refine (impl_SeatsForGuards.calls k3 a0 a1 t190 t191 _ A35.out).mono ?_);rintro e w37 ⟨rfl,hb⟩;have n0_:=am' (Kd.S_below (kS' HO_11.out) hb);have n1_:=am' (Kd.S_below (kS' HO_97.out) hb);have n2_:=am' (bt' xb' hb);clear HO_11;clear HO_97;clear HB;have HO_11:=n0_;have HO_97:=n1_;have HB:=n2_;clear n0_ n1_ n2_;(try clear hb);(try clear hb2);(try clear hk);(try clear hi))))
           (try simp only[Act.put,sa',sb',sc'])
           go_cut [230] from 197 to 202 (fun v230 wc=>∃ (kq:Nat) (x230_35:Bool),v230 = .bool x230_35∧Aside0 (laws_FnGuardsOverOfAll.j5 kq a0 a1 a2 a3 a4 t182 x230_35=some r)∧Aside0 (kq≤k3)∧Aside0 (Below w.heap.size w wc))
           case first =>
            have H:=HC36.out;clear HC36;by_cases c38:(t174.length:Int)=t182
            ·
             rw[if_pos c38] at H;have c38b0:((t174.length:Int) == t182)=true:=beq_iff_eq.mpr c38;have c38b1:((t174.length:Int) != t182)=false:=bne_eq_false_iff_eq.mpr c38;clear c38;(first|rw[c38b0]|(simp only[i64_w,i32_w];rw[c38b0])|skip)
             by_cases c39:(Int.tmod t182 2)=1
             ·
              rw[if_pos c39] at H;have c39b0:((Int.tmod t182 2) == 1)=true:=beq_iff_eq.mpr c39;have c39b1:((Int.tmod t182 2) != 1)=false:=bne_eq_false_iff_eq.mpr c39;clear c39;by_cases c40:x19_3=a0
              ·
               rw[if_pos c40] at H;have c40b0:(x19_3 == a0)=true:=beq_iff_eq.mpr c40;have c40b1:(x19_3 != a0)=false:=bne_eq_false_iff_eq.mpr c40;clear c40;by_cases c41:x20_3=a1
               ·
                rw[if_pos c41] at H;have c41b0:(x20_3 == a1)=true:=beq_iff_eq.mpr c41;have c41b1:(x20_3 != a1)=false:=bne_eq_false_iff_eq.mpr c41;clear c41;by_cases c42:t191=true
                ·
                 subst c42;have H1:(laws_FnGuardsOverOfAll.j5 k3 a0 a1 a2 a3 a4 t182 (decide (t190 > a2)))=some r:=by rw[if_pos rfl] at H;exact H
                 clear H;have H:=H1;clear H1;have H':=am' H;clear H;go_wp2
                 repeat (go_quiet (fail);try go_wp2)
                 go_meet
                 case rel=>exact ⟨_,(decide (t190 > a2)),xs',H',⟨by have:=HJ9.out;have:=HJ27.out;have:=HK3.out;first|omega|exact Nat.le_refl _⟩,⟨xb'⟩⟩
                ·
                 rw[if_neg c42] at H;exact (laws_FnGuardsOverOfAll.j5_dead _ _ _ _ _ _ _ HRT.out H).elim
               ·
                rw[if_neg c41] at H;exact (laws_FnGuardsOverOfAll.j5_dead _ _ _ _ _ _ _ HRT.out H).elim
              ·
               rw[if_neg c40] at H;exact (laws_FnGuardsOverOfAll.j5_dead _ _ _ _ _ _ _ HRT.out H).elim
             ·
              rw[if_neg c39] at H;exact (laws_FnGuardsOverOfAll.j5_dead _ _ _ _ _ _ _ HRT.out H).elim
            ·
             rw[if_neg c38] at H;exact (laws_FnGuardsOverOfAll.j5_dead _ _ _ _ _ _ _ HRT.out H).elim
           case rest=>as_aux_lemma =>
            clear HC36;try clear c1
            try clear c2
            try clear p2
            try clear c3
            try clear c4
            try clear c15
            try clear c15b0
            try clear c15b1
            try clear c15b2
            try clear c17
            try clear c18
            try clear c18b0
            try clear c18b1
            try clear c18b2
            try clear c21
            try clear c21b0
            try clear c21b1
            try clear c29
            try clear c31
            try clear c34
            try clear c34b0
            try clear c38
            try clear c38b0
            try clear c38b1
            try clear c39
            try clear c39b0
            try clear c39b1
            try clear c40
            try clear c40b0
            try clear c40b1
            try clear c41
            try clear c41b0
            try clear c41b1
            try clear c42
            try clear p2
            obtain ⟨kq,x230_35,rfl,HA,HJ35,HB⟩:=hcut;cases kq with
            | zero=>exact absurd HA.out (by simp[laws_FnGuardsOverOfAll.j5])
            | succ kj35 =>
             have H:=HA.out;clear HA;simp only[laws_FnGuardsOverOfAll.j5] at H;by_cases c43:x230_35=true
             ·
              rw[if_pos c43] at H;exact absurd (H.trans (congrArg some HRT.out)) (by decide)
             ·
              replace c43:=Bool.eq_false_iff.mpr c43;subst c43;have H1:(if a2 < 4 then ((impl_FewestForGuards.f kj35 a0 a1 (wrap64 (a2+1))).bind fun bt192=>(if bt192.2=true then (if bt192.1 > t182 then (some false) else (laws_FnGuardsOverOfAll.j6 kj35 a3 a4)) else (some false))) else (laws_FnGuardsOverOfAll.j6 kj35 a3 a4))=some r:=by rw[if_neg (show ¬ (false=true) by decide)] at H;exact H
              clear H;have H:=H1;clear H1;by_cases c44:a2 < 4
              ·
               rw[if_pos c44] at H;have c44b0:decide (a2 < 4)=true:=dt' c44;clear c44;replace H:=Option.bind_eq_some_iff.mp H;obtain ⟨⟨t192,t193⟩,A450,H⟩:=H;replace H:(if t193=true then (if t192 > t182 then (some false) else (laws_FnGuardsOverOfAll.j6 kj35 a3 a4)) else (some false))=some r:=H;have A45:=am' A450;clear A450;by_cases c46:t193=true
               ·
                subst c46;have H1:(if t192 > t182 then (some false) else (laws_FnGuardsOverOfAll.j6 kj35 a3 a4))=some r:=by rw[if_pos rfl] at H;exact H
                clear H;have H:=H1;clear H1;by_cases c47:t192 > t182
                ·
                 rw[if_pos c47] at H;exact absurd (H.trans (congrArg some HRT.out)) (by decide)
                ·
                 rw[if_neg c47] at H;have c47b0:decide (t182 < t192)=false:=df' c47;clear c47;have H':=am' H;clear H;go_wp2_with (first|(go_at_call 7;(with_reducible refine (impl_FewestForGuards.calls kj35 a0 a1 (wrap64 (a2+1)) t192 true _ A45.out).mono ?_);rintro e w49 ⟨rfl,hb⟩;have n0_:=am' (bt' xb' hb);clear HB;have HB:=n0_;clear n0_;(try clear hb);(try clear hb2);(try clear hk);(try clear hi)))
                 repeat (go_quiet (first|(go_at_call 7;(with_reducible refine (impl_FewestForGuards.calls kj35 a0 a1 (wrap64 (a2+1)) t192 true _ A45.out).mono ?_);rintro e w49 ⟨rfl,hb⟩;have n0_:=am' (bt' xb' hb);clear HB;have HB:=n0_;clear n0_;(try clear hb);(try clear hb2);(try clear hk);(try clear hi)));try go_wp2_with (first|(go_at_call 7;(with_reducible refine (impl_FewestForGuards.calls kj35 a0 a1 (wrap64 (a2+1)) t192 true _ A45.out).mono ?_);rintro e w49 ⟨rfl,hb⟩;have n0_:=am' (bt' xb' hb);clear HB;have HB:=n0_;clear n0_;(try clear hb);(try clear hb2);(try clear hk);(try clear hi))))
                 go_meet
                 case rel=>exact ⟨_,H',⟨by have:=HJ9.out;have:=HJ27.out;have:=HK3.out;have:=HJ35.out;first|omega|exact Nat.le_refl _⟩,⟨xb'⟩⟩
               ·
                rw[if_neg c46] at H;exact absurd (H.trans (congrArg some HRT.out)) (by decide)
              ·
               rw[if_neg c44] at H;have c44b0:decide (a2 < 4)=false:=df' c44;clear c44;have H':=am' H;clear H;go_wp2
               repeat (go_quiet (fail);try go_wp2)
               go_meet
               case rel=>exact ⟨_,H',⟨by have:=HJ9.out;have:=HJ27.out;have:=HK3.out;have:=HJ35.out;first|omega|exact Nat.le_refl _⟩,⟨xb'⟩⟩
         case rest=>as_aux_lemma =>
          clear HC33;try clear c1
          try clear c2
          try clear p2
          try clear c3
          try clear c4
          try clear p6
          try clear c15
          try clear c15b0
          try clear c15b1
          try clear c15b2
          try clear c17
          try clear c18
          try clear c18b0
          try clear c18b1
          try clear c18b2
          try clear c21
          try clear c21b0
          try clear c21b1
          try clear c29
          try clear c31
          try clear c34
          try clear c34b0
          try clear c38
          try clear c38b0
          try clear c38b1
          try clear c39
          try clear c39b0
          try clear c39b1
          try clear c40
          try clear c40b0
          try clear c40b1
          try clear c41
          try clear c41b0
          try clear c41b1
          try clear c42
          try clear c43
          try clear c44
          try clear c44b0
          try clear c46
          try clear c47
          try clear c47b0
          try clear p2
          obtain ⟨kq,HA,HJ32,HO_11,HO_97,HB⟩:=hcut;cases kq with
          | zero=>exact absurd HA.out (by simp[laws_FnGuardsOverOfAll.j3])
          | succ kj32 =>
           have H:=HA.out;clear HA;simp only[laws_FnGuardsOverOfAll.j3] at H;by_cases c51:0≤x99_3
           ·
            rw[if_pos c51] at H;have c51b0:decide (0≤x99_3)=true:=dt' c51;clear c51;by_cases c52:x99_3 < (t174.length:Int)
            ·
             rw[if_pos c52] at H;have c52b0:decide (x99_3 < (t174.length:Int))=true:=dt' c52;clear c52;by_cases c53:((rd_L1 t174 x99_3).length:Int)=2
             ·
              rw[if_pos c53] at H;have c53b0:(((rd_L1 t174 x99_3).length:Int) == 2)=true:=beq_iff_eq.mpr c53;have c53b1:(((rd_L1 t174 x99_3).length:Int) != 2)=false:=bne_eq_false_iff_eq.mpr c53;clear c53;by_cases c54:0 < ((rd_L1 t174 x99_3).length:Int)
              ·
               rw[if_pos c54] at H;have c54b0:decide (0 < ((rd_L1 t174 x99_3).length:Int))=true:=dt' c54;have c54b1:decide (0 < (rd_L1 t174 x99_3).length)=true:=dt' (by omega);clear c54;by_cases c55:1 < ((rd_L1 t174 x99_3).length:Int)
               ·
                rw[if_pos c55] at H;have c55b0:decide (1 < ((rd_L1 t174 x99_3).length:Int))=true:=dt' c55;have c55b1:decide (1 < (rd_L1 t174 x99_3).length)=true:=dt' (by omega);clear c55;have HC56:=am' H;clear H;have p187:0≤(x99_3:Int):=od' xa';have q187:x99_3 < (t174.length:Int):=od' xa';obtain ⟨ad187,A187_0,c187_0,e187,hx187_0,hl187_0,hi187_0⟩:=at_L1 (Kd.S_reads' HO_97.out).2.2 x99_3 p187 q187;cases e187;obtain ⟨ce187,hce187,hMe187,hcc187⟩:=Kd.S_get HO_97.out [] x99_3 p187 (by first|exact q187|exact od' xa'|(have e_:=(Kd.S_reads' HO_97.out).1;omega));obtain ⟨ve187_0,rfl,ge187_0⟩:=hMe187;have hv187_0:=hcc187 0 _ rfl;rw[Nat.add_zero,show ((Kd.slice 3 (Kd.int .i64))).sz=1 from rfl,Nat.mul_one] at hv187_0;replace hv187_0:=os' (hv187_0.symm.trans hx187_0);rw[hv187_0] at ge187_0;have HL187_0:=am' (show Kd.R (Kd.int .i64) 3 _ _ _ _ (rd_L1 t174 x99_3) from ge187_0);clear hv187_0 ge187_0;clear hcc187 hce187;have HR187_0:=am' hi187_0;have HC187_0:=am' hl187_0;clear hi187_0 hl187_0;replace p187:=eq_true p187;replace q187:=eq_true q187;have p188:0≤(0:Int):=(by omega)
                have q188:0 < ((rd_L1 t174 x99_3).length:Int):=od' xa';obtain ⟨ad188,e188,hx188_0⟩:=Kd.at_int (kx' HR187_0.out) 0 p188 q188;cases e188;have qi188:(0 < (rd_L1 t174 x99_3).length)=True:=eq_true (by omega)
                (try rw [show ((0:Int)).toNat=0 from rfl] at hx188_0)
                (try rw [Addr.add_zero'] at hx188_0)
                replace p188:=eq_true p188;replace q188:=eq_true q188;have p189:0≤(1:Int):=(by omega)
                have q189:1 < ((rd_L1 t174 x99_3).length:Int):=od' xa';obtain ⟨ad189,e189,hx189_0⟩:=Kd.at_int (kx' HR187_0.out) 1 p189 q189;obtain rfl:ad188=ad189:=(by injection e189)
                (try simp only[show (1:Int).toNat=1 from rfl,Nat.reduceMul,Nat.reduceEqDiff,Go.Addr.add,↓reduceIte] at hx189_0)
                have qi189:(1 < (rd_L1 t174 x99_3).length)=True:=eq_true (by omega)
                (try rw [show ((1:Int)).toNat=1 from rfl] at hx189_0)
                replace p189:=eq_true p189;replace q189:=eq_true q189;go_upto_region 15 with (fail)
                repeat (go_quiet (fail);go_upto_region 15 with (fail))
                go_cut [140] from 101 to 112 (fun v140 wc=>∃ (kq:Nat) (x140_55:Bool),v140 = .bool x140_55∧Aside0 (laws_FnGuardsOverOfAll.j4 kq a0 a1 a2 a3 a4 t174 t182 x19_3 x20_3 x99_3 (rd (rd_L1 t174 x99_3) 0) (rd (rd_L1 t174 x99_3) 1) t174 (t174.length:Int) x99_3 x140_55=some r)∧Aside0 (kq≤kj32)∧Aside0 (Kd.S (Kd.slice 3 (Kd.int .i64)) 28 wc w.heap.size (fun k_=>¬ D206_ k_∧D207_ k_) (.slice (some ad187) t174.length co32) t174)∧Aside0 (Kd.S (Kd.slice 3 (Kd.int .i64)) 28 wc w.heap.size (fun k_=>¬ D206_ k_∧D207_ k_) (.slice (some ad187) t174.length co32) t174)∧Aside0 (Kd.C (Kd.int .i64) wc (some ad188) (rd_L1 t174 x99_3).length (rd_L1 t174 x99_3))∧Aside0 (Below w.heap.size w wc))
                case first =>
                 have H:=HC56.out;clear HC56;by_cases c57:(rd (rd_L1 t174 x99_3) 0) < 0
                 ·
                  rw[if_pos c57] at H;exact (laws_FnGuardsOverOfAll.j4_dead _ _ _ _ _ _ _ _ _ _ _ _ _ _ _ _ HRT.out H).elim
                 ·
                  rw[if_neg c57] at H;have c57b0:decide ((rd (rd_L1 t174 x99_3) 0) < 0)=false:=df' c57;clear c57;(first|rw[c57b0]|(simp only[i64_w,i32_w];rw[c57b0])|skip)
                  by_cases c58:(rd (rd_L1 t174 x99_3) 1) < 0
                  ·
                   rw[if_pos c58] at H;exact (laws_FnGuardsOverOfAll.j4_dead _ _ _ _ _ _ _ _ _ _ _ _ _ _ _ _ HRT.out H).elim
                  ·
                   rw[if_neg c58] at H;have c58b0:decide ((rd (rd_L1 t174 x99_3) 1) < 0)=false:=df' c58;clear c58;by_cases c59:(wrap64 ((rd (rd_L1 t174 x99_3) 0)+(rd (rd_L1 t174 x99_3) 1))) < 1
                   ·
                    rw[if_pos c59] at H;exact (laws_FnGuardsOverOfAll.j4_dead _ _ _ _ _ _ _ _ _ _ _ _ _ _ _ _ HRT.out H).elim
                   ·
                    rw[if_neg c59] at H;have c59b0:decide ((wrap64 ((rd (rd_L1 t174 x99_3) 0)+(rd (rd_L1 t174 x99_3) 1))) < 1)=false:=df' c59;clear c59;by_cases c60:(wrap64 ((rd (rd_L1 t174 x99_3) 0)+(rd (rd_L1 t174 x99_3) 1))) > a2
                    ·
                     rw[if_pos c60] at H;exact (laws_FnGuardsOverOfAll.j4_dead _ _ _ _ _ _ _ _ _ _ _ _ _ _ _ _ HRT.out H).elim
                    ·
                     rw[if_neg c60] at H;have c60b0:decide (a2 < (wrap64 ((rd (rd_L1 t174 x99_3) 0)+(rd (rd_L1 t174 x99_3) 1))))=false:=df' c60;clear c60;by_cases c61:(rd (rd_L1 t174 x99_3) 0) > 0
                     ·
                      rw[if_pos c61] at H;have c61b0:decide (0 < (rd (rd_L1 t174 x99_3) 0))=true:=dt' c61;clear c61;have H':=am' H;clear H;go_wp2
                      repeat (go_quiet (fail);try go_wp2)
                      go_meet
                      case rel=>exact ⟨_,(decide ((rd (rd_L1 t174 x99_3) 0) < (rd (rd_L1 t174 x99_3) 1))),xs',H',⟨by have:=HJ9.out;have:=HJ27.out;have:=HK3.out;have:=HJ32.out;first|omega|exact Nat.le_refl _⟩,⟨kS' HO_11.out⟩,⟨kS' HO_97.out⟩,⟨kx' HR187_0.out⟩,⟨xb'⟩⟩
                     ·
                      rw[if_neg c61] at H;have c61b0:decide (0 < (rd (rd_L1 t174 x99_3) 0))=false:=df' c61;clear c61;have H':=am' H;clear H;go_wp2
                      repeat (go_quiet (fail);try go_wp2)
                      go_meet
                      case rel=>exact ⟨_,(false),xs',H',⟨by have:=HJ9.out;have:=HJ27.out;have:=HK3.out;have:=HJ32.out;first|omega|exact Nat.le_refl _⟩,⟨kS' HO_11.out⟩,⟨kS' HO_97.out⟩,⟨kx' HR187_0.out⟩,⟨xb'⟩⟩
                case rest=>as_aux_lemma =>
                 clear HC56;try clear c1
                 try clear p1
                 try clear q1
                 try clear hx1
                 try clear qi1
                 try clear c2
                 try clear p2
                 try clear c3
                 try clear c4
                 try clear c5
                 try clear c6
                 try clear p6
                 try clear c15
                 try clear c15b0
                 try clear c15b1
                 try clear c15b2
                 try clear c17
                 try clear c18
                 try clear c18b0
                 try clear c18b1
                 try clear c18b2
                 try clear p18
                 try clear q18
                 try clear hx18
                 try clear qi18
                 try clear c21
                 try clear c21b0
                 try clear c21b1
                 try clear c29
                 try clear c31
                 try clear c34
                 try clear c34b0
                 try clear c38
                 try clear c38b0
                 try clear c38b1
                 try clear c39
                 try clear c39b0
                 try clear c39b1
                 try clear c40
                 try clear c40b0
                 try clear c40b1
                 try clear c41
                 try clear c41b0
                 try clear c41b1
                 try clear c42
                 try clear c43
                 try clear c44
                 try clear c44b0
                 try clear c46
                 try clear c47
                 try clear c47b0
                 try clear c51
                 try clear c51b0
                 try clear c52
                 try clear c52b0
                 try clear c53
                 try clear c53b0
                 try clear c53b1
                 try clear c54
                 try clear c54b0
                 try clear c54b1
                 try clear c55
                 try clear c55b0
                 try clear c55b1
                 try clear c57
                 try clear c57b0
                 try clear c58
                 try clear c58b0
                 try clear c59
                 try clear c59b0
                 try clear c60
                 try clear c60b0
                 try clear c61
                 try clear c61b0
                 try clear hx187_0
                 try clear hx188_0
                 try clear hx189_0
                 try clear p187
                 try clear p188
                 try clear p189
                 try clear p2
                 try clear p6
                 try clear q187
                 try clear q188
                 try clear q189
                 obtain ⟨kq,x140_55,rfl,HA,HJ55,HO_11,HO_97,HR187_0,HB⟩:=hcut;cases kq with
                 | zero=>exact absurd HA.out (by simp[laws_FnGuardsOverOfAll.j4])
                 | succ kj55 =>
                  have H:=HA.out;clear HA;simp only[laws_FnGuardsOverOfAll.j4] at H;by_cases c62:x140_55=true
                  ·
                   rw[if_pos c62] at H;exact absurd (H.trans (congrArg some HRT.out)) (by decide)
                  ·
                   replace c62:=Bool.eq_false_iff.mpr c62;subst c62;have H1:(if (Int.tmod x99_3 2)=0 then (if (wrap64 (x19_3+(rd (rd_L1 t174 x99_3) 0))) < 0 then (some false) else (if (wrap64 (x19_3+(rd (rd_L1 t174 x99_3) 0))) > a0 then (some false) else (if (wrap64 (x20_3+(rd (rd_L1 t174 x99_3) 1))) < 0 then (some false) else (if (wrap64 (x20_3+(rd (rd_L1 t174 x99_3) 1))) > a1 then (some false) else (if (wrap64 (x19_3+(rd (rd_L1 t174 x99_3) 0))) > 0 then (if (wrap64 (x19_3+(rd (rd_L1 t174 x99_3) 0))) < (wrap64 (x20_3+(rd (rd_L1 t174 x99_3) 1))) then (some false) else (if (wrap64 (a0 - (wrap64 (x19_3+(rd (rd_L1 t174 x99_3) 0))))) > 0 then (if (wrap64 (a0 - (wrap64 (x19_3+(rd (rd_L1 t174 x99_3) 0))))) < (wrap64 (a1 - (wrap64 (x20_3+(rd (rd_L1 t174 x99_3) 1))))) then (some false) else (laws_FnGuardsOverOfAll.l0 kj55 a0 a1 a2 a3 a4 t174 t182 (wrap64 (x19_3+(rd (rd_L1 t174 x99_3) 0))) (wrap64 (x20_3+(rd (rd_L1 t174 x99_3) 1))) t174 (t174.length:Int) (wrap64 (x99_3+1)))) else (laws_FnGuardsOverOfAll.l0 kj55 a0 a1 a2 a3 a4 t174 t182 (wrap64 (x19_3+(rd (rd_L1 t174 x99_3) 0))) (wrap64 (x20_3+(rd (rd_L1 t174 x99_3) 1))) t174 (t174.length:Int) (wrap64 (x99_3+1))))) else (if (wrap64 (a0 - (wrap64 (x19_3+(rd (rd_L1 t174 x99_3) 0))))) > 0 then (if (wrap64 (a0 - (wrap64 (x19_3+(rd (rd_L1 t174 x99_3) 0))))) < (wrap64 (a1 - (wrap64 (x20_3+(rd (rd_L1 t174 x99_3) 1))))) then (some false) else (laws_FnGuardsOverOfAll.l0 kj55 a0 a1 a2 a3 a4 t174 t182 (wrap64 (x19_3+(rd (rd_L1 t174 x99_3) 0))) (wrap64 (x20_3+(rd (rd_L1 t174 x99_3) 1))) t174 (t174.length:Int) (wrap64 (x99_3+1)))) else (laws_FnGuardsOverOfAll.l0 kj55 a0 a1 a2 a3 a4 t174 t182 (wrap64 (x19_3+(rd (rd_L1 t174 x99_3) 0))) (wrap64 (x20_3+(rd (rd_L1 t174 x99_3) 1))) t174 (t174.length:Int) (wrap64 (x99_3+1))))))))) else (if (wrap64 (x19_3 - (rd (rd_L1 t174 x99_3) 0))) < 0 then (some false) else (if (wrap64 (x19_3 - (rd (rd_L1 t174 x99_3) 0))) > a0 then (some false) else (if (wrap64 (x20_3 - (rd (rd_L1 t174 x99_3) 1))) < 0 then (some false) else (if (wrap64 (x20_3 - (rd (rd_L1 t174 x99_3) 1))) > a1 then (some false) else (if (wrap64 (x19_3 - (rd (rd_L1 t174 x99_3) 0))) > 0 then (if (wrap64 (x19_3 - (rd (rd_L1 t174 x99_3) 0))) < (wrap64 (x20_3 - (rd (rd_L1 t174 x99_3) 1))) then (some false) else (if (wrap64 (a0 - (wrap64 (x19_3 - (rd (rd_L1 t174 x99_3) 0))))) > 0 then (if (wrap64 (a0 - (wrap64 (x19_3 - (rd (rd_L1 t174 x99_3) 0))))) < (wrap64 (a1 - (wrap64 (x20_3 - (rd (rd_L1 t174 x99_3) 1))))) then (some false) else (laws_FnGuardsOverOfAll.l0 kj55 a0 a1 a2 a3 a4 t174 t182 (wrap64 (x19_3 - (rd (rd_L1 t174 x99_3) 0))) (wrap64 (x20_3 - (rd (rd_L1 t174 x99_3) 1))) t174 (t174.length:Int) (wrap64 (x99_3+1)))) else (laws_FnGuardsOverOfAll.l0 kj55 a0 a1 a2 a3 a4 t174 t182 (wrap64 (x19_3 - (rd (rd_L1 t174 x99_3) 0))) (wrap64 (x20_3 - (rd (rd_L1 t174 x99_3) 1))) t174 (t174.length:Int) (wrap64 (x99_3+1))))) else (if (wrap64 (a0 - (wrap64 (x19_3 - (rd (rd_L1 t174 x99_3) 0))))) > 0 then (if (wrap64 (a0 - (wrap64 (x19_3 - (rd (rd_L1 t174 x99_3) 0))))) < (wrap64 (a1 - (wrap64 (x20_3 - (rd (rd_L1 t174 x99_3) 1))))) then (some false) else (laws_FnGuardsOverOfAll.l0 kj55 a0 a1 a2 a3 a4 t174 t182 (wrap64 (x19_3 - (rd (rd_L1 t174 x99_3) 0))) (wrap64 (x20_3 - (rd (rd_L1 t174 x99_3) 1))) t174 (t174.length:Int) (wrap64 (x99_3+1)))) else (laws_FnGuardsOverOfAll.l0 kj55 a0 a1 a2 a3 a4 t174 t182 (wrap64 (x19_3 - (rd (rd_L1 t174 x99_3) 0))) (wrap64 (x20_3 - (rd (rd_L1 t174 x99_3) 1))) t174 (t174.length:Int) (wrap64 (x99_3+1))))))))))=some r:=by rw[if_neg (show ¬ (false=true) by decide)] at H;exact H
                   clear H;have H:=H1;clear H1;by_cases c63:(Int.tmod x99_3 2)=0
                   ·
                    rw[if_pos c63] at H;have c63b0:((Int.tmod x99_3 2) == 0)=true:=beq_iff_eq.mpr c63;have c63b1:((Int.tmod x99_3 2) != 0)=false:=bne_eq_false_iff_eq.mpr c63;clear c63;by_cases c64:(wrap64 (x19_3+(rd (rd_L1 t174 x99_3) 0))) < 0
                    ·
                     rw[if_pos c64] at H;exact absurd (H.trans (congrArg some HRT.out)) (by decide)
                    ·
                     rw[if_neg c64] at H;have c64b0:decide ((wrap64 (x19_3+(rd (rd_L1 t174 x99_3) 0))) < 0)=false:=df' c64;clear c64;by_cases c65:(wrap64 (x19_3+(rd (rd_L1 t174 x99_3) 0))) > a0
                     ·
                      rw[if_pos c65] at H;exact absurd (H.trans (congrArg some HRT.out)) (by decide)
                     ·
                      rw[if_neg c65] at H;have c65b0:decide (a0 < (wrap64 (x19_3+(rd (rd_L1 t174 x99_3) 0))))=false:=df' c65;clear c65;by_cases c66:(wrap64 (x20_3+(rd (rd_L1 t174 x99_3) 1))) < 0
                      ·
                       rw[if_pos c66] at H;exact absurd (H.trans (congrArg some HRT.out)) (by decide)
                      ·
                       rw[if_neg c66] at H;have c66b0:decide ((wrap64 (x20_3+(rd (rd_L1 t174 x99_3) 1))) < 0)=false:=df' c66;clear c66;by_cases c67:(wrap64 (x20_3+(rd (rd_L1 t174 x99_3) 1))) > a1
                       ·
                        rw[if_pos c67] at H;exact absurd (H.trans (congrArg some HRT.out)) (by decide)
                       ·
                        rw[if_neg c67] at H;have c67b0:decide (a1 < (wrap64 (x20_3+(rd (rd_L1 t174 x99_3) 1))))=false:=df' c67;clear c67;by_cases c68:(wrap64 (x19_3+(rd (rd_L1 t174 x99_3) 0))) > 0
                        ·
                         rw[if_pos c68] at H;have c68b0:decide (0 < (wrap64 (x19_3+(rd (rd_L1 t174 x99_3) 0))))=true:=dt' c68;clear c68;by_cases c69:(wrap64 (x19_3+(rd (rd_L1 t174 x99_3) 0))) < (wrap64 (x20_3+(rd (rd_L1 t174 x99_3) 1)))
                         ·
                          rw[if_pos c69] at H;exact absurd (H.trans (congrArg some HRT.out)) (by decide)
                         ·
                          rw[if_neg c69] at H;have c69b0:decide ((wrap64 (x19_3+(rd (rd_L1 t174 x99_3) 0))) < (wrap64 (x20_3+(rd (rd_L1 t174 x99_3) 1))))=false:=df' c69;clear c69;by_cases c70:(wrap64 (a0 - (wrap64 (x19_3+(rd (rd_L1 t174 x99_3) 0))))) > 0
                          ·
                           rw[if_pos c70] at H;have c70b0:decide (0 < (wrap64 (a0 - (wrap64 (x19_3+(rd (rd_L1 t174 x99_3) 0))))))=true:=dt' c70;clear c70;by_cases c71:(wrap64 (a0 - (wrap64 (x19_3+(rd (rd_L1 t174 x99_3) 0))))) < (wrap64 (a1 - (wrap64 (x20_3+(rd (rd_L1 t174 x99_3) 1)))))
                           ·
                            rw[if_pos c71] at H;exact absurd (H.trans (congrArg some HRT.out)) (by decide)
                           ·
                            rw[if_neg c71] at H;have c71b0:decide ((wrap64 (a0 - (wrap64 (x19_3+(rd (rd_L1 t174 x99_3) 0))))) < (wrap64 (a1 - (wrap64 (x20_3+(rd (rd_L1 t174 x99_3) 1))))))=false:=df' c71;clear c71;have H':=am' H;clear H;go_wp2
                            repeat (go_quiet (fail);try go_wp2)
                            go_roundg kj55
                            case measure=>have:=HJ9.out;have:=HJ27.out;have:=HK3.out;have:=HJ32.out;have:=HJ55.out;omega
                            case rel=>exact ⟨(wrap64 (x19_3+(rd (rd_L1 t174 x99_3) 0))),(wrap64 (x20_3+(rd (rd_L1 t174 x99_3) 1))),(wrap64 (x99_3+1)),xs',xs',xs',H',⟨by have:=HJ9.out;have:=HJ27.out;have:=HK3.out;have:=HJ32.out;have:=HJ55.out;omega⟩,⟨kS' HO_11.out⟩,⟨kS' HO_97.out⟩,⟨xb'⟩⟩
                          ·
                           rw[if_neg c70] at H;have c70b0:decide (0 < (wrap64 (a0 - (wrap64 (x19_3+(rd (rd_L1 t174 x99_3) 0))))))=false:=df' c70;clear c70;have H':=am' H;clear H;go_wp2
                           repeat (go_quiet (fail);try go_wp2)
                           go_roundg kj55
                           case measure=>have:=HJ9.out;have:=HJ27.out;have:=HK3.out;have:=HJ32.out;have:=HJ55.out;omega
                           case rel=>exact ⟨(wrap64 (x19_3+(rd (rd_L1 t174 x99_3) 0))),(wrap64 (x20_3+(rd (rd_L1 t174 x99_3) 1))),(wrap64 (x99_3+1)),xs',xs',xs',H',⟨by have:=HJ9.out;have:=HJ27.out;have:=HK3.out;have:=HJ32.out;have:=HJ55.out;omega⟩,⟨kS' HO_11.out⟩,⟨kS' HO_97.out⟩,⟨xb'⟩⟩
                        ·
                         rw[if_neg c68] at H;have c68b0:decide (0 < (wrap64 (x19_3+(rd (rd_L1 t174 x99_3) 0))))=false:=df' c68;clear c68;by_cases c72:(wrap64 (a0 - (wrap64 (x19_3+(rd (rd_L1 t174 x99_3) 0))))) > 0
                         ·
                          rw[if_pos c72] at H;have c72b0:decide (0 < (wrap64 (a0 - (wrap64 (x19_3+(rd (rd_L1 t174 x99_3) 0))))))=true:=dt' c72;clear c72;by_cases c73:(wrap64 (a0 - (wrap64 (x19_3+(rd (rd_L1 t174 x99_3) 0))))) < (wrap64 (a1 - (wrap64 (x20_3+(rd (rd_L1 t174 x99_3) 1)))))
                          ·
                           rw[if_pos c73] at H;exact absurd (H.trans (congrArg some HRT.out)) (by decide)
                          ·
                           rw[if_neg c73] at H;have c73b0:decide ((wrap64 (a0 - (wrap64 (x19_3+(rd (rd_L1 t174 x99_3) 0))))) < (wrap64 (a1 - (wrap64 (x20_3+(rd (rd_L1 t174 x99_3) 1))))))=false:=df' c73;clear c73;have H':=am' H;clear H;go_wp2
                           repeat (go_quiet (fail);try go_wp2)
                           go_roundg kj55
                           case measure=>have:=HJ9.out;have:=HJ27.out;have:=HK3.out;have:=HJ32.out;have:=HJ55.out;omega
                           case rel=>exact ⟨(wrap64 (x19_3+(rd (rd_L1 t174 x99_3) 0))),(wrap64 (x20_3+(rd (rd_L1 t174 x99_3) 1))),(wrap64 (x99_3+1)),xs',xs',xs',H',⟨by have:=HJ9.out;have:=HJ27.out;have:=HK3.out;have:=HJ32.out;have:=HJ55.out;omega⟩,⟨kS' HO_11.out⟩,⟨kS' HO_97.out⟩,⟨xb'⟩⟩
                         ·
                          rw[if_neg c72] at H;have c72b0:decide (0 < (wrap64 (a0 - (wrap64 (x19_3+(rd (rd_L1 t174 x99_3) 0))))))=false:=df' c72;clear c72;have H':=am' H;clear H;go_wp2
                          repeat (go_quiet (fail);try go_wp2)
                          go_roundg kj55
                          case measure=>have:=HJ9.out;have:=HJ27.out;have:=HK3.out;have:=HJ32.out;have:=HJ55.out;omega
                          case rel=>exact ⟨(wrap64 (x19_3+(rd (rd_L1 t174 x99_3) 0))),(wrap64 (x20_3+(rd (rd_L1 t174 x99_3) 1))),(wrap64 (x99_3+1)),xs',xs',xs',H',⟨by have:=HJ9.out;have:=HJ27.out;have:=HK3.out;have:=HJ32.out;have:=HJ55.out;omega⟩,⟨kS' HO_11.out⟩,⟨kS' HO_97.out⟩,⟨xb'⟩⟩
                   ·
                    rw[if_neg c63] at H;have c63b0:((Int.tmod x99_3 2) == 0)=false:=beq_eq_false_iff_ne.mpr c63;have c63b1:((Int.tmod x99_3 2) != 0)=true:=bne_iff_ne.mpr c63;by_cases c74:(wrap64 (x19_3 - (rd (rd_L1 t174 x99_3) 0))) < 0
                    ·
                     rw[if_pos c74] at H;exact absurd (H.trans (congrArg some HRT.out)) (by decide)
                    ·
                     rw[if_neg c74] at H;have c74b0:decide ((wrap64 (x19_3 - (rd (rd_L1 t174 x99_3) 0))) < 0)=false:=df' c74;clear c74;by_cases c75:(wrap64 (x19_3 - (rd (rd_L1 t174 x99_3) 0))) > a0
                     ·
                      rw[if_pos c75] at H;exact absurd (H.trans (congrArg some HRT.out)) (by decide)
                     ·
                      rw[if_neg c75] at H;have c75b0:decide (a0 < (wrap64 (x19_3 - (rd (rd_L1 t174 x99_3) 0))))=false:=df' c75;clear c75;by_cases c76:(wrap64 (x20_3 - (rd (rd_L1 t174 x99_3) 1))) < 0
                      ·
                       rw[if_pos c76] at H;exact absurd (H.trans (congrArg some HRT.out)) (by decide)
                      ·
                       rw[if_neg c76] at H;have c76b0:decide ((wrap64 (x20_3 - (rd (rd_L1 t174 x99_3) 1))) < 0)=false:=df' c76;clear c76;by_cases c77:(wrap64 (x20_3 - (rd (rd_L1 t174 x99_3) 1))) > a1
                       ·
                        rw[if_pos c77] at H;exact absurd (H.trans (congrArg some HRT.out)) (by decide)
                       ·
                        rw[if_neg c77] at H;have c77b0:decide (a1 < (wrap64 (x20_3 - (rd (rd_L1 t174 x99_3) 1))))=false:=df' c77;clear c77;by_cases c78:(wrap64 (x19_3 - (rd (rd_L1 t174 x99_3) 0))) > 0
                        ·
                         rw[if_pos c78] at H;have c78b0:decide (0 < (wrap64 (x19_3 - (rd (rd_L1 t174 x99_3) 0))))=true:=dt' c78;clear c78;by_cases c79:(wrap64 (x19_3 - (rd (rd_L1 t174 x99_3) 0))) < (wrap64 (x20_3 - (rd (rd_L1 t174 x99_3) 1)))
                         ·
                          rw[if_pos c79] at H;exact absurd (H.trans (congrArg some HRT.out)) (by decide)
                         ·
                          rw[if_neg c79] at H;have c79b0:decide ((wrap64 (x19_3 - (rd (rd_L1 t174 x99_3) 0))) < (wrap64 (x20_3 - (rd (rd_L1 t174 x99_3) 1))))=false:=df' c79;clear c79;by_cases c80:(wrap64 (a0 - (wrap64 (x19_3 - (rd (rd_L1 t174 x99_3) 0))))) > 0
                          ·
                           rw[if_pos c80] at H;have c80b0:decide (0 < (wrap64 (a0 - (wrap64 (x19_3 - (rd (rd_L1 t174 x99_3) 0))))))=true:=dt' c80;clear c80;by_cases c81:(wrap64 (a0 - (wrap64 (x19_3 - (rd (rd_L1 t174 x99_3) 0))))) < (wrap64 (a1 - (wrap64 (x20_3 - (rd (rd_L1 t174 x99_3) 1)))))
                           ·
                            rw[if_pos c81] at H;exact absurd (H.trans (congrArg some HRT.out)) (by decide)
                           ·
                            rw[if_neg c81] at H;have c81b0:decide ((wrap64 (a0 - (wrap64 (x19_3 - (rd (rd_L1 t174 x99_3) 0))))) < (wrap64 (a1 - (wrap64 (x20_3 - (rd (rd_L1 t174 x99_3) 1))))))=false:=df' c81;clear c81;have H':=am' H;clear H;go_wp2
                            repeat (go_quiet (fail);try go_wp2)
                            go_roundg kj55
                            case measure=>have:=HJ9.out;have:=HJ27.out;have:=HK3.out;have:=HJ32.out;have:=HJ55.out;omega
                            case rel=>exact ⟨(wrap64 (x19_3 - (rd (rd_L1 t174 x99_3) 0))),(wrap64 (x20_3 - (rd (rd_L1 t174 x99_3) 1))),(wrap64 (x99_3+1)),xs',xs',xs',H',⟨by have:=HJ9.out;have:=HJ27.out;have:=HK3.out;have:=HJ32.out;have:=HJ55.out;omega⟩,⟨kS' HO_11.out⟩,⟨kS' HO_97.out⟩,⟨xb'⟩⟩
                          ·
                           rw[if_neg c80] at H;have c80b0:decide (0 < (wrap64 (a0 - (wrap64 (x19_3 - (rd (rd_L1 t174 x99_3) 0))))))=false:=df' c80;clear c80;have H':=am' H;clear H;go_wp2
                           repeat (go_quiet (fail);try go_wp2)
                           go_roundg kj55
                           case measure=>have:=HJ9.out;have:=HJ27.out;have:=HK3.out;have:=HJ32.out;have:=HJ55.out;omega
                           case rel=>exact ⟨(wrap64 (x19_3 - (rd (rd_L1 t174 x99_3) 0))),(wrap64 (x20_3 - (rd (rd_L1 t174 x99_3) 1))),(wrap64 (x99_3+1)),xs',xs',xs',H',⟨by have:=HJ9.out;have:=HJ27.out;have:=HK3.out;have:=HJ32.out;have:=HJ55.out;omega⟩,⟨kS' HO_11.out⟩,⟨kS' HO_97.out⟩,⟨xb'⟩⟩
                        ·
                         rw[if_neg c78] at H;have c78b0:decide (0 < (wrap64 (x19_3 - (rd (rd_L1 t174 x99_3) 0))))=false:=df' c78;clear c78;by_cases c82:(wrap64 (a0 - (wrap64 (x19_3 - (rd (rd_L1 t174 x99_3) 0))))) > 0
                         ·
                          rw[if_pos c82] at H;have c82b0:decide (0 < (wrap64 (a0 - (wrap64 (x19_3 - (rd (rd_L1 t174 x99_3) 0))))))=true:=dt' c82;clear c82;by_cases c83:(wrap64 (a0 - (wrap64 (x19_3 - (rd (rd_L1 t174 x99_3) 0))))) < (wrap64 (a1 - (wrap64 (x20_3 - (rd (rd_L1 t174 x99_3) 1)))))
                          ·
                           rw[if_pos c83] at H;exact absurd (H.trans (congrArg some HRT.out)) (by decide)
                          ·
                           rw[if_neg c83] at H;have c83b0:decide ((wrap64 (a0 - (wrap64 (x19_3 - (rd (rd_L1 t174 x99_3) 0))))) < (wrap64 (a1 - (wrap64 (x20_3 - (rd (rd_L1 t174 x99_3) 1))))))=false:=df' c83;clear c83;have H':=am' H;clear H;go_wp2
                           repeat (go_quiet (fail);try go_wp2)
                           go_roundg kj55
                           case measure=>have:=HJ9.out;have:=HJ27.out;have:=HK3.out;have:=HJ32.out;have:=HJ55.out;omega
                           case rel=>exact ⟨(wrap64 (x19_3 - (rd (rd_L1 t174 x99_3) 0))),(wrap64 (x20_3 - (rd (rd_L1 t174 x99_3) 1))),(wrap64 (x99_3+1)),xs',xs',xs',H',⟨by have:=HJ9.out;have:=HJ27.out;have:=HK3.out;have:=HJ32.out;have:=HJ55.out;omega⟩,⟨kS' HO_11.out⟩,⟨kS' HO_97.out⟩,⟨xb'⟩⟩
                         ·
                          rw[if_neg c82] at H;have c82b0:decide (0 < (wrap64 (a0 - (wrap64 (x19_3 - (rd (rd_L1 t174 x99_3) 0))))))=false:=df' c82;clear c82;have H':=am' H;clear H;go_wp2
                          repeat (go_quiet (fail);try go_wp2)
                          go_roundg kj55
                          case measure=>have:=HJ9.out;have:=HJ27.out;have:=HK3.out;have:=HJ32.out;have:=HJ55.out;omega
                          case rel=>exact ⟨(wrap64 (x19_3 - (rd (rd_L1 t174 x99_3) 0))),(wrap64 (x20_3 - (rd (rd_L1 t174 x99_3) 1))),(wrap64 (x99_3+1)),xs',xs',xs',H',⟨by have:=HJ9.out;have:=HJ27.out;have:=HK3.out;have:=HJ32.out;have:=HJ55.out;omega⟩,⟨kS' HO_11.out⟩,⟨kS' HO_97.out⟩,⟨xb'⟩⟩
               ·
                rw[if_neg c55] at H;exact absurd H (by simp)
              ·
               rw[if_neg c54] at H;exact absurd H (by simp)
             ·
              rw[if_neg c53] at H;exact absurd (H.trans (congrArg some HRT.out)) (by decide)
            ·
             rw[if_neg c52] at H;exact absurd H (by simp)
           ·
            rw[if_neg c51] at H;exact absurd H (by simp)
      ·
       replace c31:=Bool.eq_false_iff.mpr c31;subst c31;have H1:(laws_FnGuardsOverOfAll.j6 kj27 a3 a4)=some r:=by rw[if_neg (show ¬ (false=true) by decide)] at H;exact H
       clear H;have H:=H1;clear H1;have H':=am' H;clear H;go_wp2
       repeat (go_quiet (fail);try go_wp2)
       go_meet
       case rel=>exact ⟨_,H',⟨by have:=HJ9.out;have:=HJ27.out;first|omega|exact Nat.le_refl _⟩,⟨xb'⟩⟩
     case rest=>as_aux_lemma =>
      clear HC30;try clear c1
      try clear p1
      try clear q1
      try clear hx1
      try clear qi1
      try clear c2
      try clear p2
      try clear c3
      try clear c4
      try clear c5
      try clear c6
      try clear p6
      try clear c7
      try clear c8
      try clear c15
      try clear c15b0
      try clear c15b1
      try clear c15b2
      try clear c17
      try clear c18
      try clear c18b0
      try clear c18b1
      try clear c18b2
      try clear p18
      try clear q18
      try clear hx18
      try clear qi18
      try clear c21
      try clear c21b0
      try clear c21b1
      try clear c29
      try clear c31
      try clear c34
      try clear c34b0
      try clear c38
      try clear c38b0
      try clear c38b1
      try clear c39
      try clear c39b0
      try clear c39b1
      try clear c40
      try clear c40b0
      try clear c40b1
      try clear c41
      try clear c41b0
      try clear c41b1
      try clear c42
      try clear c43
      try clear c44
      try clear c44b0
      try clear c46
      try clear c47
      try clear c47b0
      try clear c51
      try clear c51b0
      try clear c52
      try clear c52b0
      try clear c53
      try clear c53b0
      try clear c53b1
      try clear c54
      try clear c54b0
      try clear c54b1
      try clear c55
      try clear c55b0
      try clear c55b1
      try clear c57
      try clear c57b0
      try clear c58
      try clear c58b0
      try clear c59
      try clear c59b0
      try clear c60
      try clear c60b0
      try clear c61
      try clear c61b0
      try clear c62
      try clear c63
      try clear c63b0
      try clear c63b1
      try clear c64
      try clear c64b0
      try clear p64
      try clear c65
      try clear c65b0
      try clear c66
      try clear c66b0
      try clear c67
      try clear c67b0
      try clear c68
      try clear c68b0
      try clear c69
      try clear c69b0
      try clear c70
      try clear c70b0
      try clear c71
      try clear c71b0
      try clear c72
      try clear c72b0
      try clear c73
      try clear c73b0
      try clear c74
      try clear c74b0
      try clear c75
      try clear c75b0
      try clear c76
      try clear c76b0
      try clear c77
      try clear c77b0
      try clear c78
      try clear c78b0
      try clear c79
      try clear c79b0
      try clear c80
      try clear c80b0
      try clear c81
      try clear c81b0
      try clear c82
      try clear c82b0
      try clear c83
      try clear c83b0
      try clear hx187_0
      try clear hx188_0
      try clear hx189_0
      try clear p1
      try clear p18
      try clear p187
      try clear p188
      try clear p189
      try clear p2
      try clear p6
      try clear q1
      try clear q18
      try clear q187
      try clear q188
      try clear q189
      obtain ⟨kq,HA,HJ29,HB⟩:=hcut;cases kq with
      | zero=>exact absurd HA.out (by simp[laws_FnGuardsOverOfAll.j6])
      | succ kj29 =>
       have H:=HA.out;clear HA;simp only[laws_FnGuardsOverOfAll.j6] at H;replace H:=Option.bind_eq_some_iff.mp H;obtain ⟨⟨t194,t195⟩,A840,H⟩:=H;replace H:((spec_SeatsForGuards.f kj29 a3 a4).bind fun bt196=>((impl_CountGuarded.f kj29 a3 a4).bind fun bt198=>((spec_CountGuarded.f kj29 a3 a4).bind fun bt200=>(if (t195 != bt196.2)=true then (laws_FnGuardsOverOfAll.j7 kj29 a3 a4 t194 t195 bt198.1 bt198.2 true) else (if t194=bt196.1 then (if (bt198.2 != bt200.2)=true then (laws_FnGuardsOverOfAll.j7 kj29 a3 a4 t194 t195 bt198.1 bt198.2 true) else (if bt198.1=bt200.1 then (if t195=true then (laws_FnGuardsOverOfAll.j7 kj29 a3 a4 t194 t195 bt198.1 bt198.2 (!bt198.2)) else (laws_FnGuardsOverOfAll.j7 kj29 a3 a4 t194 t195 bt198.1 bt198.2 false)) else (laws_FnGuardsOverOfAll.j7 kj29 a3 a4 t194 t195 bt198.1 bt198.2 true))) else (laws_FnGuardsOverOfAll.j7 kj29 a3 a4 t194 t195 bt198.1 bt198.2 true))))))=some r:=H;have A84:=am' A840;clear A840;replace H:=Option.bind_eq_some_iff.mp H;obtain ⟨⟨t196,t197⟩,A850,H⟩:=H;replace H:((impl_CountGuarded.f kj29 a3 a4).bind fun bt198=>((spec_CountGuarded.f kj29 a3 a4).bind fun bt200=>(if (t195 != t197)=true then (laws_FnGuardsOverOfAll.j7 kj29 a3 a4 t194 t195 bt198.1 bt198.2 true) else (if t194=t196 then (if (bt198.2 != bt200.2)=true then (laws_FnGuardsOverOfAll.j7 kj29 a3 a4 t194 t195 bt198.1 bt198.2 true) else (if bt198.1=bt200.1 then (if t195=true then (laws_FnGuardsOverOfAll.j7 kj29 a3 a4 t194 t195 bt198.1 bt198.2 (!bt198.2)) else (laws_FnGuardsOverOfAll.j7 kj29 a3 a4 t194 t195 bt198.1 bt198.2 false)) else (laws_FnGuardsOverOfAll.j7 kj29 a3 a4 t194 t195 bt198.1 bt198.2 true))) else (laws_FnGuardsOverOfAll.j7 kj29 a3 a4 t194 t195 bt198.1 bt198.2 true)))))=some r:=H;have A85:=am' A850;clear A850;replace H:=Option.bind_eq_some_iff.mp H;obtain ⟨⟨t198,t199⟩,A860,H⟩:=H;replace H:((spec_CountGuarded.f kj29 a3 a4).bind fun bt200=>(if (t195 != t197)=true then (laws_FnGuardsOverOfAll.j7 kj29 a3 a4 t194 t195 t198 t199 true) else (if t194=t196 then (if (t199 != bt200.2)=true then (laws_FnGuardsOverOfAll.j7 kj29 a3 a4 t194 t195 t198 t199 true) else (if t198=bt200.1 then (if t195=true then (laws_FnGuardsOverOfAll.j7 kj29 a3 a4 t194 t195 t198 t199 (!t199)) else (laws_FnGuardsOverOfAll.j7 kj29 a3 a4 t194 t195 t198 t199 false)) else (laws_FnGuardsOverOfAll.j7 kj29 a3 a4 t194 t195 t198 t199 true))) else (laws_FnGuardsOverOfAll.j7 kj29 a3 a4 t194 t195 t198 t199 true))))=some r:=H;have A86:=am' A860;clear A860;replace H:=Option.bind_eq_some_iff.mp H;obtain ⟨⟨t200,t201⟩,A870,H⟩:=H;replace H:(if (t195 != t197)=true then (laws_FnGuardsOverOfAll.j7 kj29 a3 a4 t194 t195 t198 t199 true) else (if t194=t196 then (if (t199 != t201)=true then (laws_FnGuardsOverOfAll.j7 kj29 a3 a4 t194 t195 t198 t199 true) else (if t198=t200 then (if t195=true then (laws_FnGuardsOverOfAll.j7 kj29 a3 a4 t194 t195 t198 t199 (!t199)) else (laws_FnGuardsOverOfAll.j7 kj29 a3 a4 t194 t195 t198 t199 false)) else (laws_FnGuardsOverOfAll.j7 kj29 a3 a4 t194 t195 t198 t199 true))) else (laws_FnGuardsOverOfAll.j7 kj29 a3 a4 t194 t195 t198 t199 true)))=some r:=H
       have A87:=am' A870;clear A870;have HC88:=am' H;clear H;go_upto_region 36 with (first|(go_at_call 10;(with_reducible refine (impl_SeatsForGuards.calls kj29 a3 a4 t194 t195 _ A84.out).mono ?_);rintro e w89 ⟨rfl,hb⟩;have n0_:=am' (bt' xb' hb);clear HB;have HB:=n0_;clear n0_;(try clear hb);(try clear hb2);(try clear hk);(try clear hi))|(go_at_call 11;(with_reducible refine (spec_SeatsForGuards.calls kj29 a3 a4 t196 t197 _ A85.out).mono ?_);rintro e w90 ⟨rfl,hb⟩;have n0_:=am' (bt' xb' hb);clear HB;have HB:=n0_;clear n0_;(try clear hb);(try clear hb2);(try clear hk);(try clear hi))|(go_at_call 12;(with_reducible refine (impl_CountGuarded.calls kj29 a3 a4 t198 t199 _ A86.out).mono ?_);rintro e w91 ⟨rfl,hb⟩;have n0_:=am' (bt' xb' hb);clear HB;have HB:=n0_;clear n0_;(try clear hb);(try clear hb2);(try clear hk);(try clear hi))|(go_at_call 13;(with_reducible refine (spec_CountGuarded.calls kj29 a3 a4 t200 t201 _ A87.out).mono ?_);rintro e w' ⟨rfl,⟨nd,rfl⟩⟩;(try first|exact ⟨rfl,_,World.drewN_drewN _ _ _⟩|exact ⟨rfl,_,Eq.trans (World.drewN_drewN _ _ _) (congrArg (World.drewN _) (Nat.add_assoc _ _ _))⟩)))
       repeat (go_quiet (first|(go_at_call 10;(with_reducible refine (impl_SeatsForGuards.calls kj29 a3 a4 t194 t195 _ A84.out).mono ?_);rintro e w89 ⟨rfl,hb⟩;have n0_:=am' (bt' xb' hb);clear HB;have HB:=n0_;clear n0_;(try clear hb);(try clear hb2);(try clear hk);(try clear hi))|(go_at_call 11;(with_reducible refine (spec_SeatsForGuards.calls kj29 a3 a4 t196 t197 _ A85.out).mono ?_);rintro e w90 ⟨rfl,hb⟩;have n0_:=am' (bt' xb' hb);clear HB;have HB:=n0_;clear n0_;(try clear hb);(try clear hb2);(try clear hk);(try clear hi))|(go_at_call 12;(with_reducible refine (impl_CountGuarded.calls kj29 a3 a4 t198 t199 _ A86.out).mono ?_);rintro e w91 ⟨rfl,hb⟩;have n0_:=am' (bt' xb' hb);clear HB;have HB:=n0_;clear n0_;(try clear hb);(try clear hb2);(try clear hk);(try clear hi))|(go_at_call 13;(with_reducible refine (spec_CountGuarded.calls kj29 a3 a4 t200 t201 _ A87.out).mono ?_);rintro e w' ⟨rfl,⟨nd,rfl⟩⟩;(try first|exact ⟨rfl,_,World.drewN_drewN _ _ _⟩|exact ⟨rfl,_,Eq.trans (World.drewN_drewN _ _ _) (congrArg (World.drewN _) (Nat.add_assoc _ _ _))⟩)));go_upto_region 36 with (first|(go_at_call 10;(with_reducible refine (impl_SeatsForGuards.calls kj29 a3 a4 t194 t195 _ A84.out).mono ?_);rintro e w89 ⟨rfl,hb⟩;have n0_:=am' (bt' xb' hb);clear HB;have HB:=n0_;clear n0_;(try clear hb);(try clear hb2);(try clear hk);(try clear hi))|(go_at_call 11;(with_reducible refine (spec_SeatsForGuards.calls kj29 a3 a4 t196 t197 _ A85.out).mono ?_);rintro e w90 ⟨rfl,hb⟩;have n0_:=am' (bt' xb' hb);clear HB;have HB:=n0_;clear n0_;(try clear hb);(try clear hb2);(try clear hk);(try clear hi))|(go_at_call 12;(with_reducible refine (impl_CountGuarded.calls kj29 a3 a4 t198 t199 _ A86.out).mono ?_);rintro e w91 ⟨rfl,hb⟩;have n0_:=am' (bt' xb' hb);clear HB;have HB:=n0_;clear n0_;(try clear hb);(try clear hb2);(try clear hk);(try clear hi))|(go_at_call 13;(with_reducible refine (spec_CountGuarded.calls kj29 a3 a4 t200 t201 _ A87.out).mono ?_);rintro e w' ⟨rfl,⟨nd,rfl⟩⟩;(try first|exact ⟨rfl,_,World.drewN_drewN _ _ _⟩|exact ⟨rfl,_,Eq.trans (World.drewN_drewN _ _ _) (congrArg (World.drewN _) (Nat.add_assoc _ _ _))⟩))))
       (try simp only[Act.put,sa',sb',sc'])
       go_cut [296] from 248 to 271 (fun v296 wc=>∃ (kq:Nat) (x296_87:Bool),v296 = .bool x296_87∧Aside0 (laws_FnGuardsOverOfAll.j7 kq a3 a4 t194 t195 t198 t199 x296_87=some r)∧Aside0 (kq≤kj29)∧Aside0 (Below w.heap.size w wc))
       case first =>
        have H:=HC88.out;clear HC88;by_cases c92:(t195 != t197)=true
        ·
         rw[if_pos c92] at H;exact (laws_FnGuardsOverOfAll.j7_dead _ _ _ _ _ _ _ HRT.out H).elim
        ·
         rw[if_neg c92] at H;have c92b0:(t195 != t197)=false:=by simpa using c92
         (try (have c92b1:decide (t195=t197)=true:=by simpa using c92))
         (try (have c92b2:(t195 == t197)=true:=by simpa using c92))
         clear c92;(first|rw[c92b0]|(simp only[i64_w,i32_w];rw[c92b0])|rw[c92b1]|skip)
         by_cases c93:t194=t196
         ·
          rw[if_pos c93] at H;have c93b0:(t194 == t196)=true:=beq_iff_eq.mpr c93;have c93b1:(t194 != t196)=false:=bne_eq_false_iff_eq.mpr c93;clear c93;by_cases c94:(t199 != t201)=true
          ·
           rw[if_pos c94] at H;exact (laws_FnGuardsOverOfAll.j7_dead _ _ _ _ _ _ _ HRT.out H).elim
          ·
           rw[if_neg c94] at H;have c94b0:(t199 != t201)=false:=by simpa using c94
           (try (have c94b1:decide (t199=t201)=true:=by simpa using c94))
           (try (have c94b2:(t199 == t201)=true:=by simpa using c94))
           clear c94;by_cases c95:t198=t200
           ·
            rw[if_pos c95] at H;have c95b0:(t198 == t200)=true:=beq_iff_eq.mpr c95;have c95b1:(t198 != t200)=false:=bne_eq_false_iff_eq.mpr c95;clear c95;by_cases c96:t195=true
            ·
             subst c96;have H1:(laws_FnGuardsOverOfAll.j7 kj29 a3 a4 t194 true t198 t199 (!t199))=some r:=by rw[if_pos rfl] at H;exact H
             clear H;have H:=H1;clear H1;have H':=am' H;clear H;go_wp2
             repeat (go_quiet (fail);try go_wp2)
             go_meet
             case rel=>exact ⟨_,(!t199),xs',H',⟨by have:=HJ9.out;have:=HJ27.out;have:=HJ29.out;first|omega|exact Nat.le_refl _⟩,⟨xb'⟩⟩
            ·
             replace c96:=Bool.eq_false_iff.mpr c96;subst c96;have H1:(laws_FnGuardsOverOfAll.j7 kj29 a3 a4 t194 false t198 t199 false)=some r:=by rw[if_neg (show ¬ (false=true) by decide)] at H;exact H
             clear H;have H:=H1;clear H1;have H':=am' H;clear H;go_wp2
             repeat (go_quiet (fail);try go_wp2)
             go_meet
             case rel=>exact ⟨_,(false),xs',H',⟨by have:=HJ9.out;have:=HJ27.out;have:=HJ29.out;first|omega|exact Nat.le_refl _⟩,⟨xb'⟩⟩
           ·
            rw[if_neg c95] at H;exact (laws_FnGuardsOverOfAll.j7_dead _ _ _ _ _ _ _ HRT.out H).elim
         ·
          rw[if_neg c93] at H;exact (laws_FnGuardsOverOfAll.j7_dead _ _ _ _ _ _ _ HRT.out H).elim
       case rest=>as_aux_lemma =>
        clear HC88;try clear c1
        try clear p1
        try clear q1
        try clear hx1
        try clear qi1
        try clear c2
        try clear p2
        try clear c3
        try clear c4
        try clear c5
        try clear c6
        try clear p6
        try clear c7
        try clear c8
        try clear c9
        try clear c15
        try clear c15b0
        try clear c15b1
        try clear c15b2
        try clear c17
        try clear c18
        try clear c18b0
        try clear c18b1
        try clear c18b2
        try clear p18
        try clear q18
        try clear hx18
        try clear qi18
        try clear c21
        try clear c21b0
        try clear c21b1
        try clear c29
        try clear c31
        try clear c34
        try clear c34b0
        try clear c38
        try clear c38b0
        try clear c38b1
        try clear c39
        try clear c39b0
        try clear c39b1
        try clear c40
        try clear c40b0
        try clear c40b1
        try clear c41
        try clear c41b0
        try clear c41b1
        try clear c42
        try clear c43
        try clear c44
        try clear c44b0
        try clear c46
        try clear c47
        try clear c47b0
        try clear c51
        try clear c51b0
        try clear c52
        try clear c52b0
        try clear c53
        try clear c53b0
        try clear c53b1
        try clear c54
        try clear c54b0
        try clear c54b1
        try clear c55
        try clear c55b0
        try clear c55b1
        try clear c57
        try clear c57b0
        try clear c58
        try clear c58b0
        try clear c59
        try clear c59b0
        try clear c60
        try clear c60b0
        try clear c61
        try clear c61b0
        try clear c62
        try clear c63
        try clear c63b0
        try clear c63b1
        try clear c64
        try clear c64b0
        try clear p64
        try clear c65
        try clear c65b0
        try clear c66
        try clear c66b0
        try clear c67
        try clear c67b0
        try clear c68
        try clear c68b0
        try clear c69
        try clear c69b0
        try clear c70
        try clear c70b0
        try clear c71
        try clear c71b0
        try clear c72
        try clear c72b0
        try clear c73
        try clear c73b0
        try clear c74
        try clear c74b0
        try clear c75
        try clear c75b0
        try clear c76
        try clear c76b0
        try clear c77
        try clear c77b0
        try clear c78
        try clear c78b0
        try clear c79
        try clear c79b0
        try clear c80
        try clear c80b0
        try clear c81
        try clear c81b0
        try clear c82
        try clear c82b0
        try clear c83
        try clear c83b0
        try clear c92
        try clear c92b0
        try clear c92b1
        try clear c92b2
        try clear c93
        try clear c93b0
        try clear c93b1
        try clear c94
        try clear c94b0
        try clear c94b1
        try clear c94b2
        try clear c95
        try clear c95b0
        try clear c95b1
        try clear c96
        try clear hx187_0
        try clear hx188_0
        try clear hx189_0
        try clear p1
        try clear p18
        try clear p187
        try clear p188
        try clear p189
        try clear p2
        try clear p6
        try clear p64
        try clear q1
        try clear q18
        try clear q187
        try clear q188
        try clear q189
        obtain ⟨kq,x296_87,rfl,HA,HJ87,HB⟩:=hcut;cases kq with
        | zero=>exact absurd HA.out (by simp[laws_FnGuardsOverOfAll.j7])
        | succ kj87 =>
         have H:=HA.out;clear HA;simp only[laws_FnGuardsOverOfAll.j7] at H;have HC97:=am' H;clear H;go_upto_if 296 with (fail)
         repeat (go_quiet (fail);go_upto_if 296 with (fail))
         go_cut [] from 297 to 296 (fun wc=>∃ (kq:Nat),Aside0 (laws_FnGuardsOverOfAll.j8 kq a3 a4 t194 t195 t198 t199=some r)∧Aside0 (kq≤kj87)∧Aside0 (Below w.heap.size w wc))
         case first =>
          have H:=HC97.out;clear HC97;by_cases c98:x296_87=true
          ·
           rw[if_pos c98] at H;exact absurd (H.trans (congrArg some HRT.out)) (by decide)
          ·
           replace c98:=Bool.eq_false_iff.mpr c98;subst c98;have H1:(laws_FnGuardsOverOfAll.j8 kj87 a3 a4 t194 t195 t198 t199)=some r:=by rw[if_neg (show ¬ (false=true) by decide)] at H;exact H
           clear H;have H:=H1;clear H1;have H':=am' H;clear H;go_wp2
           repeat (go_quiet (fail);try go_wp2)
           go_meet
           case rel=>exact ⟨_,H',⟨by have:=HJ9.out;have:=HJ27.out;have:=HJ29.out;have:=HJ87.out;first|omega|exact Nat.le_refl _⟩,⟨xb'⟩⟩
         case rest=>as_aux_lemma =>
          clear HC97;try clear c1
          try clear p1
          try clear q1
          try clear hx1
          try clear qi1
          try clear c2
          try clear p2
          try clear c3
          try clear c4
          try clear c5
          try clear c6
          try clear p6
          try clear c7
          try clear c8
          try clear c9
          try clear c15
          try clear c15b0
          try clear c15b1
          try clear c15b2
          try clear c17
          try clear c18
          try clear c18b0
          try clear c18b1
          try clear c18b2
          try clear p18
          try clear q18
          try clear hx18
          try clear qi18
          try clear c21
          try clear c21b0
          try clear c21b1
          try clear c29
          try clear c31
          try clear c34
          try clear c34b0
          try clear c38
          try clear c38b0
          try clear c38b1
          try clear c39
          try clear c39b0
          try clear c39b1
          try clear c40
          try clear c40b0
          try clear c40b1
          try clear c41
          try clear c41b0
          try clear c41b1
          try clear c42
          try clear c43
          try clear c44
          try clear c44b0
          try clear c46
          try clear c47
          try clear c47b0
          try clear c51
          try clear c51b0
          try clear c52
          try clear c52b0
          try clear c53
          try clear c53b0
          try clear c53b1
          try clear c54
          try clear c54b0
          try clear c54b1
          try clear c55
          try clear c55b0
          try clear c55b1
          try clear c57
          try clear c57b0
          try clear c58
          try clear c58b0
          try clear c59
          try clear c59b0
          try clear c60
          try clear c60b0
          try clear c61
          try clear c61b0
          try clear c62
          try clear c63
          try clear c63b0
          try clear c63b1
          try clear c64
          try clear c64b0
          try clear p64
          try clear c65
          try clear c65b0
          try clear c66
          try clear c66b0
          try clear c67
          try clear c67b0
          try clear c68
          try clear c68b0
          try clear c69
          try clear c69b0
          try clear c70
          try clear c70b0
          try clear c71
          try clear c71b0
          try clear c72
          try clear c72b0
          try clear c73
          try clear c73b0
          try clear c74
          try clear c74b0
          try clear c75
          try clear c75b0
          try clear c76
          try clear c76b0
          try clear c77
          try clear c77b0
          try clear c78
          try clear c78b0
          try clear c79
          try clear c79b0
          try clear c80
          try clear c80b0
          try clear c81
          try clear c81b0
          try clear c82
          try clear c82b0
          try clear c83
          try clear c83b0
          try clear c92
          try clear c92b0
          try clear c92b1
          try clear c92b2
          try clear c93
          try clear c93b0
          try clear c93b1
          try clear c94
          try clear c94b0
          try clear c94b1
          try clear c94b2
          try clear c95
          try clear c95b0
          try clear c95b1
          try clear c96
          try clear c98
          try clear hx187_0
          try clear hx188_0
          try clear hx189_0
          try clear p1
          try clear p18
          try clear p187
          try clear p188
          try clear p189
          try clear p2
          try clear p6
          try clear p64
          try clear q1
          try clear q18
          try clear q187
          try clear q188
          try clear q189
          obtain ⟨kq,HA,HJ96,HB⟩:=hcut;cases kq with
          | zero=>exact absurd HA.out (by simp[laws_FnGuardsOverOfAll.j8])
          | succ kj96 =>
           have H:=HA.out;clear HA;simp only[laws_FnGuardsOverOfAll.j8] at H;have HC99:=am' H;clear H;go_upto_if 297 with (fail)
           repeat (go_quiet (fail);go_upto_if 297 with (fail))
           go_cut [] from 297 to 297 (fun wc=>∃ (kq:Nat),Aside0 (laws_FnGuardsOverOfAll.j9 kq a3 a4 t198 t199=some r)∧Aside0 (kq≤kj96)∧Aside0 (Below w.heap.size w wc))
           case first =>
            have H:=HC99.out;clear HC99;by_cases c100:t195=true
            ·
             subst c100;have H1:((impl_FewestForGuards.f kj96 a3 a4 t194).bind fun bt202=>((impl_FewestForGuards.f kj96 a3 a4 (wrap64 (t194 - 1))).bind fun bt204=>(if bt202.2=true then (if bt204.2=true then (some false) else (laws_FnGuardsOverOfAll.j9 kj96 a3 a4 t198 t199)) else (some false))))=some r:=by rw[if_pos rfl] at H;exact H
             clear H;have H:=H1;clear H1;replace H:=Option.bind_eq_some_iff.mp H;obtain ⟨⟨t202,t203⟩,A1010,H⟩:=H;replace H:((impl_FewestForGuards.f kj96 a3 a4 (wrap64 (t194 - 1))).bind fun bt204=>(if t203=true then (if bt204.2=true then (some false) else (laws_FnGuardsOverOfAll.j9 kj96 a3 a4 t198 t199)) else (some false)))=some r:=H;have A101:=am' A1010;clear A1010;replace H:=Option.bind_eq_some_iff.mp H;obtain ⟨⟨t204,t205⟩,A1020,H⟩:=H;replace H:(if t203=true then (if t205=true then (some false) else (laws_FnGuardsOverOfAll.j9 kj96 a3 a4 t198 t199)) else (some false))=some r:=H;have A102:=am' A1020;clear A1020;by_cases c103:t203=true
             ·
              subst c103;have H1:(if t205=true then (some false) else (laws_FnGuardsOverOfAll.j9 kj96 a3 a4 t198 t199))=some r:=by rw[if_pos rfl] at H;exact H
              clear H;have H:=H1;clear H1;by_cases c104:t205=true
              ·
               rw[if_pos c104] at H;exact absurd (H.trans (congrArg some HRT.out)) (by decide)
              ·
               replace c104:=Bool.eq_false_iff.mpr c104;subst c104;have H1:(laws_FnGuardsOverOfAll.j9 kj96 a3 a4 t198 t199)=some r:=by rw[if_neg (show ¬ (false=true) by decide)] at H;exact H
               clear H;have H:=H1;clear H1;have H':=am' H;clear H;go_wp2_with (first|(go_at_call 7;(with_reducible refine (impl_FewestForGuards.calls kj96 a3 a4 t194 t202 true _ A101.out).mono ?_);rintro e w107 ⟨rfl,hb⟩;have n0_:=am' (bt' xb' hb);clear HB;have HB:=n0_;clear n0_;(try clear hb);(try clear hb2);(try clear hk);(try clear hi))|(go_at_call 7;(with_reducible refine (impl_FewestForGuards.calls kj96 a3 a4 (wrap64 (t194 - 1)) t204 false _ A102.out).mono ?_);rintro e w108 ⟨rfl,hb⟩;have n0_:=am' (bt' xb' hb);clear HB;have HB:=n0_;clear n0_;(try clear hb);(try clear hb2);(try clear hk);(try clear hi)))
               repeat (go_quiet (first|(go_at_call 7;(with_reducible refine (impl_FewestForGuards.calls kj96 a3 a4 t194 t202 true _ A101.out).mono ?_);rintro e w107 ⟨rfl,hb⟩;have n0_:=am' (bt' xb' hb);clear HB;have HB:=n0_;clear n0_;(try clear hb);(try clear hb2);(try clear hk);(try clear hi))|(go_at_call 7;(with_reducible refine (impl_FewestForGuards.calls kj96 a3 a4 (wrap64 (t194 - 1)) t204 false _ A102.out).mono ?_);rintro e w108 ⟨rfl,hb⟩;have n0_:=am' (bt' xb' hb);clear HB;have HB:=n0_;clear n0_;(try clear hb);(try clear hb2);(try clear hk);(try clear hi)));try go_wp2_with (first|(go_at_call 7;(with_reducible refine (impl_FewestForGuards.calls kj96 a3 a4 t194 t202 true _ A101.out).mono ?_);rintro e w107 ⟨rfl,hb⟩;have n0_:=am' (bt' xb' hb);clear HB;have HB:=n0_;clear n0_;(try clear hb);(try clear hb2);(try clear hk);(try clear hi))|(go_at_call 7;(with_reducible refine (impl_FewestForGuards.calls kj96 a3 a4 (wrap64 (t194 - 1)) t204 false _ A102.out).mono ?_);rintro e w108 ⟨rfl,hb⟩;have n0_:=am' (bt' xb' hb);clear HB;have HB:=n0_;clear n0_;(try clear hb);(try clear hb2);(try clear hk);(try clear hi))))
               go_meet
               case rel=>exact ⟨_,H',⟨by have:=HJ9.out;have:=HJ27.out;have:=HJ29.out;have:=HJ87.out;have:=HJ96.out;first|omega|exact Nat.le_refl _⟩,⟨xb'⟩⟩
             ·
              rw[if_neg c103] at H;exact absurd (H.trans (congrArg some HRT.out)) (by decide)
            ·
             replace c100:=Bool.eq_false_iff.mpr c100;subst c100;have H1:(laws_FnGuardsOverOfAll.j9 kj96 a3 a4 t198 t199)=some r:=by rw[if_neg (show ¬ (false=true) by decide)] at H;exact H
             clear H;have H:=H1;clear H1;have H':=am' H;clear H;go_wp2
             repeat (go_quiet (fail);try go_wp2)
             go_meet
             case rel=>exact ⟨_,H',⟨by have:=HJ9.out;have:=HJ27.out;have:=HJ29.out;have:=HJ87.out;have:=HJ96.out;first|omega|exact Nat.le_refl _⟩,⟨xb'⟩⟩
           case rest=>as_aux_lemma =>
            clear HC99;try clear c1
            try clear p1
            try clear q1
            try clear hx1
            try clear qi1
            try clear c2
            try clear p2
            try clear c3
            try clear c4
            try clear c5
            try clear c6
            try clear p6
            try clear c7
            try clear c8
            try clear c9
            try clear c10
            try clear c15
            try clear c15b0
            try clear c15b1
            try clear c15b2
            try clear c17
            try clear c18
            try clear c18b0
            try clear c18b1
            try clear c18b2
            try clear p18
            try clear q18
            try clear hx18
            try clear qi18
            try clear c21
            try clear c21b0
            try clear c21b1
            try clear c29
            try clear c31
            try clear c34
            try clear c34b0
            try clear c38
            try clear c38b0
            try clear c38b1
            try clear c39
            try clear c39b0
            try clear c39b1
            try clear c40
            try clear c40b0
            try clear c40b1
            try clear c41
            try clear c41b0
            try clear c41b1
            try clear c42
            try clear c43
            try clear c44
            try clear c44b0
            try clear c46
            try clear c47
            try clear c47b0
            try clear c51
            try clear c51b0
            try clear c52
            try clear c52b0
            try clear c53
            try clear c53b0
            try clear c53b1
            try clear c54
            try clear c54b0
            try clear c54b1
            try clear c55
            try clear c55b0
            try clear c55b1
            try clear c57
            try clear c57b0
            try clear c58
            try clear c58b0
            try clear c59
            try clear c59b0
            try clear c60
            try clear c60b0
            try clear c61
            try clear c61b0
            try clear c62
            try clear c63
            try clear c63b0
            try clear c63b1
            try clear c64
            try clear c64b0
            try clear p64
            try clear c65
            try clear c65b0
            try clear c66
            try clear c66b0
            try clear c67
            try clear c67b0
            try clear c68
            try clear c68b0
            try clear c69
            try clear c69b0
            try clear c70
            try clear c70b0
            try clear c71
            try clear c71b0
            try clear c72
            try clear c72b0
            try clear c73
            try clear c73b0
            try clear c74
            try clear c74b0
            try clear c75
            try clear c75b0
            try clear c76
            try clear c76b0
            try clear c77
            try clear c77b0
            try clear c78
            try clear c78b0
            try clear c79
            try clear c79b0
            try clear c80
            try clear c80b0
            try clear c81
            try clear c81b0
            try clear c82
            try clear c82b0
            try clear c83
            try clear c83b0
            try clear c92
            try clear c92b0
            try clear c92b1
            try clear c92b2
            try clear c93
            try clear c93b0
            try clear c93b1
            try clear c94
            try clear c94b0
            try clear c94b1
            try clear c94b2
            try clear c95
            try clear c95b0
            try clear c95b1
            try clear c96
            try clear c98
            try clear c100
            try clear c103
            try clear c104
            try clear hx187_0
            try clear hx188_0
            try clear hx189_0
            try clear p1
            try clear p18
            try clear p187
            try clear p188
            try clear p189
            try clear p2
            try clear p6
            try clear p64
            try clear q1
            try clear q18
            try clear q187
            try clear q188
            try clear q189
            obtain ⟨kq,HA,HJ98,HB⟩:=hcut;cases kq with
            | zero=>exact absurd HA.out (by simp[laws_FnGuardsOverOfAll.j9])
            | succ kj98 =>
             have H:=HA.out;clear HA;simp only[laws_FnGuardsOverOfAll.j9] at H;by_cases c111:t199=true
             ·
              subst c111;have H1:(laws_FnGuardsOverOfAll.l1 kj98 a3 a4 t198 0 0)=some r:=by rw[if_pos rfl] at H;exact H
              clear H;have H:=H1;clear H1;have H':=am' H;clear H;go_wp2
              repeat (go_quiet (fail);try go_wp2)
              go_loopg [41,42] kj98 (fun kq v41 v42 w'=>∃ (x41_7:Int) (x42_7:Int),v41 = .int .i64 x41_7∧v42 = .int .i64 x42_7∧Aside0 (laws_FnGuardsOverOfAll.l1 kq a3 a4 t198 x41_7 x42_7=some r)∧Aside0 (kq≤kj98)∧Aside0 (Below w.heap.size w w'))
              case atStart=>exact ⟨(0),(0),xs',xs',H',⟨Nat.le_refl _⟩,⟨xb'⟩⟩
              case round=>as_aux_lemma =>
               clear H';try clear c1
               try clear p1
               try clear q1
               try clear hx1
               try clear qi1
               try clear c2
               try clear p2
               try clear c3
               try clear c4
               try clear c5
               try clear c6
               try clear p6
               try clear c7
               try clear c8
               try clear c9
               try clear c10
               try clear c11
               try clear c15
               try clear c15b0
               try clear c15b1
               try clear c15b2
               try clear c17
               try clear c18
               try clear c18b0
               try clear c18b1
               try clear c18b2
               try clear p18
               try clear q18
               try clear hx18
               try clear qi18
               try clear c21
               try clear c21b0
               try clear c21b1
               try clear c29
               try clear c31
               try clear c34
               try clear c34b0
               try clear c38
               try clear c38b0
               try clear c38b1
               try clear c39
               try clear c39b0
               try clear c39b1
               try clear c40
               try clear c40b0
               try clear c40b1
               try clear c41
               try clear c41b0
               try clear c41b1
               try clear c42
               try clear c43
               try clear c44
               try clear c44b0
               try clear c46
               try clear c47
               try clear c47b0
               try clear c51
               try clear c51b0
               try clear c52
               try clear c52b0
               try clear c53
               try clear c53b0
               try clear c53b1
               try clear c54
               try clear c54b0
               try clear c54b1
               try clear c55
               try clear c55b0
               try clear c55b1
               try clear c57
               try clear c57b0
               try clear c58
               try clear c58b0
               try clear c59
               try clear c59b0
               try clear c60
               try clear c60b0
               try clear c61
               try clear c61b0
               try clear c62
               try clear c63
               try clear c63b0
               try clear c63b1
               try clear c64
               try clear c64b0
               try clear p64
               try clear c65
               try clear c65b0
               try clear c66
               try clear c66b0
               try clear c67
               try clear c67b0
               try clear c68
               try clear c68b0
               try clear c69
               try clear c69b0
               try clear c70
               try clear c70b0
               try clear c71
               try clear c71b0
               try clear c72
               try clear c72b0
               try clear c73
               try clear c73b0
               try clear c74
               try clear c74b0
               try clear c75
               try clear c75b0
               try clear c76
               try clear c76b0
               try clear c77
               try clear c77b0
               try clear c78
               try clear c78b0
               try clear c79
               try clear c79b0
               try clear c80
               try clear c80b0
               try clear c81
               try clear c81b0
               try clear c82
               try clear c82b0
               try clear c83
               try clear c83b0
               try clear c92
               try clear c92b0
               try clear c92b1
               try clear c92b2
               try clear c93
               try clear c93b0
               try clear c93b1
               try clear c94
               try clear c94b0
               try clear c94b1
               try clear c94b2
               try clear c95
               try clear c95b0
               try clear c95b1
               try clear c96
               try clear c98
               try clear c100
               try clear c103
               try clear c104
               try clear c111
               try clear hx187_0
               try clear hx188_0
               try clear hx189_0
               try clear p1
               try clear p18
               try clear p187
               try clear p188
               try clear p189
               try clear p2
               try clear p6
               try clear p64
               try clear q1
               try clear q18
               try clear q187
               try clear q188
               try clear q189
               obtain ⟨x41_7,x42_7,rfl,rfl,HA,HK7,HB⟩:=hrel;cases gk with
               | zero=>exact absurd HA.out (by simp[laws_FnGuardsOverOfAll.l1])
               | succ k7 =>
                have H:=HA.out;clear HA;simp only[laws_FnGuardsOverOfAll.l1] at H;have HC112:=am' H;clear H;go_upto_if 321 with (fail)
                repeat (go_quiet (fail);go_upto_if 321 with (fail))
                go_cut [] from 321 to 321 (fun wc=>∃ (kq:Nat),Aside0 (laws_FnGuardsOverOfAll.j11 kq a3 a4 t198 x41_7 x42_7=some r)∧Aside0 (kq≤k7)∧Aside0 (Below w.heap.size w wc))
                case first =>
                 have H:=HC112.out;clear HC112;by_cases c113:x42_7≤a3
                 ·
                  rw[if_pos c113] at H;have c113b0:decide (x42_7≤a3)=true:=dt' c113;clear c113;(first|rw[c113b0]|(simp only[i64_w,i32_w];rw[c113b0])|skip)
                  have H':=am' H;clear H;go_wp2
                  repeat (go_quiet (fail);try go_wp2)
                  go_meet
                  case rel=>exact ⟨_,H',⟨by have:=HJ9.out;have:=HJ27.out;have:=HJ29.out;have:=HJ87.out;have:=HJ96.out;have:=HJ98.out;have:=HK7.out;first|omega|exact Nat.le_refl _⟩,⟨xb'⟩⟩
                 ·
                  rw[if_neg c113] at H;have c113b0:decide (x42_7≤a3)=false:=df' c113;clear c113;(first|rw[c113b0]|(simp only[i64_w,i32_w];rw[c113b0])|skip)
                  obtain rfl:=os' H;go_wp2
                  repeat (go_quiet (fail);try go_wp2)
                  go_ret
                  exact ⟨by first|rfl|(simp[errW_none,errW_some] <;> rfl)|(simp[*,errW_none,errW_some] <;> rfl),xb'⟩
                case rest=>as_aux_lemma =>
                 clear HC112;try clear c1
                 try clear p1
                 try clear q1
                 try clear hx1
                 try clear qi1
                 try clear c2
                 try clear p2
                 try clear c3
                 try clear c4
                 try clear c5
                 try clear c6
                 try clear p6
                 try clear c7
                 try clear c8
                 try clear c9
                 try clear c10
                 try clear c11
                 try clear c15
                 try clear c15b0
                 try clear c15b1
                 try clear c15b2
                 try clear c17
                 try clear c18
                 try clear c18b0
                 try clear c18b1
                 try clear c18b2
                 try clear p18
                 try clear q18
                 try clear hx18
                 try clear qi18
                 try clear c21
                 try clear c21b0
                 try clear c21b1
                 try clear c29
                 try clear c31
                 try clear c34
                 try clear c34b0
                 try clear c38
                 try clear c38b0
                 try clear c38b1
                 try clear c39
                 try clear c39b0
                 try clear c39b1
                 try clear c40
                 try clear c40b0
                 try clear c40b1
                 try clear c41
                 try clear c41b0
                 try clear c41b1
                 try clear c42
                 try clear c43
                 try clear c44
                 try clear c44b0
                 try clear c46
                 try clear c47
                 try clear c47b0
                 try clear c51
                 try clear c51b0
                 try clear c52
                 try clear c52b0
                 try clear c53
                 try clear c53b0
                 try clear c53b1
                 try clear c54
                 try clear c54b0
                 try clear c54b1
                 try clear c55
                 try clear c55b0
                 try clear c55b1
                 try clear c57
                 try clear c57b0
                 try clear c58
                 try clear c58b0
                 try clear c59
                 try clear c59b0
                 try clear c60
                 try clear c60b0
                 try clear c61
                 try clear c61b0
                 try clear c62
                 try clear c63
                 try clear c63b0
                 try clear c63b1
                 try clear c64
                 try clear c64b0
                 try clear p64
                 try clear c65
                 try clear c65b0
                 try clear c66
                 try clear c66b0
                 try clear c67
                 try clear c67b0
                 try clear c68
                 try clear c68b0
                 try clear c69
                 try clear c69b0
                 try clear c70
                 try clear c70b0
                 try clear c71
                 try clear c71b0
                 try clear c72
                 try clear c72b0
                 try clear c73
                 try clear c73b0
                 try clear c74
                 try clear c74b0
                 try clear c75
                 try clear c75b0
                 try clear c76
                 try clear c76b0
                 try clear c77
                 try clear c77b0
                 try clear c78
                 try clear c78b0
                 try clear c79
                 try clear c79b0
                 try clear c80
                 try clear c80b0
                 try clear c81
                 try clear c81b0
                 try clear c82
                 try clear c82b0
                 try clear c83
                 try clear c83b0
                 try clear c92
                 try clear c92b0
                 try clear c92b1
                 try clear c92b2
                 try clear c93
                 try clear c93b0
                 try clear c93b1
                 try clear c94
                 try clear c94b0
                 try clear c94b1
                 try clear c94b2
                 try clear c95
                 try clear c95b0
                 try clear c95b1
                 try clear c96
                 try clear c98
                 try clear c100
                 try clear c103
                 try clear c104
                 try clear c111
                 try clear c113
                 try clear c113b0
                 try clear hx187_0
                 try clear hx188_0
                 try clear hx189_0
                 try clear p1
                 try clear p18
                 try clear p187
                 try clear p188
                 try clear p189
                 try clear p2
                 try clear p6
                 try clear p64
                 try clear q1
                 try clear q18
                 try clear q187
                 try clear q188
                 try clear q189
                 obtain ⟨kq,HA,HJ111,HB⟩:=hcut;cases kq with
                 | zero=>exact absurd HA.out (by simp[laws_FnGuardsOverOfAll.j11])
                 | succ kj111 =>
                  have H:=HA.out;clear HA;simp only[laws_FnGuardsOverOfAll.j11] at H;have H':=am' H;clear H;go_wp2
                  repeat (go_quiet (fail);try go_wp2)
                  go_loopg [41,43] kj111 (fun kq v41 v43 w'=>∃ (x41_9:Int) (x43_9:Int),v41 = .int .i64 x41_9∧v43 = .int .i64 x43_9∧Aside0 (laws_FnGuardsOverOfAll.l2 kq a3 a4 t198 x41_9 x42_7 x43_9=some r)∧Aside0 (kq≤kj111)∧Aside0 (Below w.heap.size w w'))
                  case atStart=>exact ⟨(x41_7),(0),xs',xs',H',⟨Nat.le_refl _⟩,⟨xb'⟩⟩
                  case round=>as_aux_lemma =>
                   clear H';try clear c1
                   try clear p1
                   try clear q1
                   try clear hx1
                   try clear qi1
                   try clear c2
                   try clear p2
                   try clear c3
                   try clear c4
                   try clear c5
                   try clear c6
                   try clear p6
                   try clear c7
                   try clear c8
                   try clear c9
                   try clear c10
                   try clear c11
                   try clear c15
                   try clear c15b0
                   try clear c15b1
                   try clear c15b2
                   try clear c17
                   try clear c18
                   try clear c18b0
                   try clear c18b1
                   try clear c18b2
                   try clear p18
                   try clear q18
                   try clear hx18
                   try clear qi18
                   try clear c21
                   try clear c21b0
                   try clear c21b1
                   try clear c29
                   try clear c31
                   try clear c34
                   try clear c34b0
                   try clear c38
                   try clear c38b0
                   try clear c38b1
                   try clear c39
                   try clear c39b0
                   try clear c39b1
                   try clear c40
                   try clear c40b0
                   try clear c40b1
                   try clear c41
                   try clear c41b0
                   try clear c41b1
                   try clear c42
                   try clear c43
                   try clear c44
                   try clear c44b0
                   try clear c46
                   try clear c47
                   try clear c47b0
                   try clear c51
                   try clear c51b0
                   try clear c52
                   try clear c52b0
                   try clear c53
                   try clear c53b0
                   try clear c53b1
                   try clear c54
                   try clear c54b0
                   try clear c54b1
                   try clear c55
                   try clear c55b0
                   try clear c55b1
                   try clear c57
                   try clear c57b0
                   try clear c58
                   try clear c58b0
                   try clear c59
                   try clear c59b0
                   try clear c60
                   try clear c60b0
                   try clear c61
                   try clear c61b0
                   try clear c62
                   try clear c63
                   try clear c63b0
                   try clear c63b1
                   try clear c64
                   try clear c64b0
                   try clear p64
                   try clear c65
                   try clear c65b0
                   try clear c66
                   try clear c66b0
                   try clear c67
                   try clear c67b0
                   try clear c68
                   try clear c68b0
                   try clear c69
                   try clear c69b0
                   try clear c70
                   try clear c70b0
                   try clear c71
                   try clear c71b0
                   try clear c72
                   try clear c72b0
                   try clear c73
                   try clear c73b0
                   try clear c74
                   try clear c74b0
                   try clear c75
                   try clear c75b0
                   try clear c76
                   try clear c76b0
                   try clear c77
                   try clear c77b0
                   try clear c78
                   try clear c78b0
                   try clear c79
                   try clear c79b0
                   try clear c80
                   try clear c80b0
                   try clear c81
                   try clear c81b0
                   try clear c82
                   try clear c82b0
                   try clear c83
                   try clear c83b0
                   try clear c92
                   try clear c92b0
                   try clear c92b1
                   try clear c92b2
                   try clear c93
                   try clear c93b0
                   try clear c93b1
                   try clear c94
                   try clear c94b0
                   try clear c94b1
                   try clear c94b2
                   try clear c95
                   try clear c95b0
                   try clear c95b1
                   try clear c96
                   try clear c98
                   try clear c100
                   try clear c103
                   try clear c104
                   try clear c111
                   try clear c113
                   try clear c113b0
                   try clear hx187_0
                   try clear hx188_0
                   try clear hx189_0
                   try clear p1
                   try clear p18
                   try clear p187
                   try clear p188
                   try clear p189
                   try clear p2
                   try clear p6
                   try clear p64
                   try clear q1
                   try clear q18
                   try clear q187
                   try clear q188
                   try clear q189
                   obtain ⟨x41_9,x43_9,rfl,rfl,HA,HK9,HB⟩:=hrel;cases gk with
                   | zero=>exact absurd HA.out (by simp[laws_FnGuardsOverOfAll.l2])
                   | succ k9 =>
                    have H:=HA.out;clear HA;simp only[laws_FnGuardsOverOfAll.l2] at H;by_cases c114:x43_9≤a4
                    ·
                     rw[if_pos c114] at H;have c114b0:decide (x43_9≤a4)=true:=dt' c114;clear c114;by_cases c115:x42_7=0
                     ·
                      rw[if_pos c115] at H;have c115b0:(x42_7 == 0)=true:=beq_iff_eq.mpr c115;have c115b1:(x42_7 != 0)=false:=bne_eq_false_iff_eq.mpr c115;clear c115;by_cases c116:(wrap64 (a3 - x42_7))=0
                      ·
                       rw[if_pos c116] at H;have c116b0:((wrap64 (a3 - x42_7)) == 0)=true:=beq_iff_eq.mpr c116;have c116b1:((wrap64 (a3 - x42_7)) != 0)=false:=bne_eq_false_iff_eq.mpr c116;clear c116;have H':=am' H;clear H;go_wp2
                       repeat (go_quiet (fail);try go_wp2)
                       go_roundg k9
                       case measure=>have:=HJ9.out;have:=HJ27.out;have:=HJ29.out;have:=HJ87.out;have:=HJ96.out;have:=HJ98.out;have:=HK7.out;have:=HJ111.out;have:=HK9.out;omega
                       case rel=>exact ⟨(wrap64 (x41_9+1)),(wrap64 (x43_9+1)),xs',xs',H',⟨by have:=HJ9.out;have:=HJ27.out;have:=HJ29.out;have:=HJ87.out;have:=HJ96.out;have:=HJ98.out;have:=HK7.out;have:=HJ111.out;have:=HK9.out;omega⟩,⟨xb'⟩⟩
                      ·
                       rw[if_neg c116] at H;have c116b0:((wrap64 (a3 - x42_7)) == 0)=false:=beq_eq_false_iff_ne.mpr c116;have c116b1:((wrap64 (a3 - x42_7)) != 0)=true:=bne_iff_ne.mpr c116;by_cases c117:(wrap64 (a3 - x42_7)) ≥ (wrap64 (a4 - x43_9))
                       ·
                        rw[if_pos c117] at H;have c117b0:decide ((wrap64 (a4 - x43_9))≤(wrap64 (a3 - x42_7)))=true:=dt' c117;clear c117;have H':=am' H;clear H;go_wp2
                        repeat (go_quiet (fail);try go_wp2)
                        go_roundg k9
                        case measure=>have:=HJ9.out;have:=HJ27.out;have:=HJ29.out;have:=HJ87.out;have:=HJ96.out;have:=HJ98.out;have:=HK7.out;have:=HJ111.out;have:=HK9.out;omega
                        case rel=>exact ⟨(wrap64 (x41_9+1)),(wrap64 (x43_9+1)),xs',xs',H',⟨by have:=HJ9.out;have:=HJ27.out;have:=HJ29.out;have:=HJ87.out;have:=HJ96.out;have:=HJ98.out;have:=HK7.out;have:=HJ111.out;have:=HK9.out;omega⟩,⟨xb'⟩⟩
                       ·
                        rw[if_neg c117] at H;have c117b0:decide ((wrap64 (a4 - x43_9))≤(wrap64 (a3 - x42_7)))=false:=df' c117;clear c117;have H':=am' H;clear H;go_wp2
                        repeat (go_quiet (fail);try go_wp2)
                        go_roundg k9
                        case measure=>have:=HJ9.out;have:=HJ27.out;have:=HJ29.out;have:=HJ87.out;have:=HJ96.out;have:=HJ98.out;have:=HK7.out;have:=HJ111.out;have:=HK9.out;omega
                        case rel=>exact ⟨(x41_9),(wrap64 (x43_9+1)),xs',xs',H',⟨by have:=HJ9.out;have:=HJ27.out;have:=HJ29.out;have:=HJ87.out;have:=HJ96.out;have:=HJ98.out;have:=HK7.out;have:=HJ111.out;have:=HK9.out;omega⟩,⟨xb'⟩⟩
                     ·
                      rw[if_neg c115] at H;have c115b0:(x42_7 == 0)=false:=beq_eq_false_iff_ne.mpr c115;have c115b1:(x42_7 != 0)=true:=bne_iff_ne.mpr c115;by_cases c118:x42_7 ≥ x43_9
                      ·
                       rw[if_pos c118] at H;have c118b0:decide (x43_9≤x42_7)=true:=dt' c118;clear c118;by_cases c119:(wrap64 (a3 - x42_7))=0
                       ·
                        rw[if_pos c119] at H;have c119b0:((wrap64 (a3 - x42_7)) == 0)=true:=beq_iff_eq.mpr c119;have c119b1:((wrap64 (a3 - x42_7)) != 0)=false:=bne_eq_false_iff_eq.mpr c119;clear c119;have H':=am' H;clear H;go_wp2
                        repeat (go_quiet (fail);try go_wp2)
                        go_roundg k9
                        case measure=>have:=HJ9.out;have:=HJ27.out;have:=HJ29.out;have:=HJ87.out;have:=HJ96.out;have:=HJ98.out;have:=HK7.out;have:=HJ111.out;have:=HK9.out;omega
                        case rel=>exact ⟨(wrap64 (x41_9+1)),(wrap64 (x43_9+1)),xs',xs',H',⟨by have:=HJ9.out;have:=HJ27.out;have:=HJ29.out;have:=HJ87.out;have:=HJ96.out;have:=HJ98.out;have:=HK7.out;have:=HJ111.out;have:=HK9.out;omega⟩,⟨xb'⟩⟩
                       ·
                        rw[if_neg c119] at H;have c119b0:((wrap64 (a3 - x42_7)) == 0)=false:=beq_eq_false_iff_ne.mpr c119;have c119b1:((wrap64 (a3 - x42_7)) != 0)=true:=bne_iff_ne.mpr c119;by_cases c120:(wrap64 (a3 - x42_7)) ≥ (wrap64 (a4 - x43_9))
                        ·
                         rw[if_pos c120] at H;have c120b0:decide ((wrap64 (a4 - x43_9))≤(wrap64 (a3 - x42_7)))=true:=dt' c120;clear c120;have H':=am' H;clear H;go_wp2
                         repeat (go_quiet (fail);try go_wp2)
                         go_roundg k9
                         case measure=>have:=HJ9.out;have:=HJ27.out;have:=HJ29.out;have:=HJ87.out;have:=HJ96.out;have:=HJ98.out;have:=HK7.out;have:=HJ111.out;have:=HK9.out;omega
                         case rel=>exact ⟨(wrap64 (x41_9+1)),(wrap64 (x43_9+1)),xs',xs',H',⟨by have:=HJ9.out;have:=HJ27.out;have:=HJ29.out;have:=HJ87.out;have:=HJ96.out;have:=HJ98.out;have:=HK7.out;have:=HJ111.out;have:=HK9.out;omega⟩,⟨xb'⟩⟩
                        ·
                         rw[if_neg c120] at H;have c120b0:decide ((wrap64 (a4 - x43_9))≤(wrap64 (a3 - x42_7)))=false:=df' c120;clear c120;have H':=am' H;clear H;go_wp2
                         repeat (go_quiet (fail);try go_wp2)
                         go_roundg k9
                         case measure=>have:=HJ9.out;have:=HJ27.out;have:=HJ29.out;have:=HJ87.out;have:=HJ96.out;have:=HJ98.out;have:=HK7.out;have:=HJ111.out;have:=HK9.out;omega
                         case rel=>exact ⟨(x41_9),(wrap64 (x43_9+1)),xs',xs',H',⟨by have:=HJ9.out;have:=HJ27.out;have:=HJ29.out;have:=HJ87.out;have:=HJ96.out;have:=HJ98.out;have:=HK7.out;have:=HJ111.out;have:=HK9.out;omega⟩,⟨xb'⟩⟩
                      ·
                       rw[if_neg c118] at H;have c118b0:decide (x43_9≤x42_7)=false:=df' c118;clear c118;have H':=am' H;clear H;go_wp2
                       repeat (go_quiet (fail);try go_wp2)
                       go_roundg k9
                       case measure=>have:=HJ9.out;have:=HJ27.out;have:=HJ29.out;have:=HJ87.out;have:=HJ96.out;have:=HJ98.out;have:=HK7.out;have:=HJ111.out;have:=HK9.out;omega
                       case rel=>exact ⟨(x41_9),(wrap64 (x43_9+1)),xs',xs',H',⟨by have:=HJ9.out;have:=HJ27.out;have:=HJ29.out;have:=HJ87.out;have:=HJ96.out;have:=HJ98.out;have:=HK7.out;have:=HJ111.out;have:=HK9.out;omega⟩,⟨xb'⟩⟩
                    ·
                     rw[if_neg c114] at H;have c114b0:decide (x43_9≤a4)=false:=df' c114;clear c114;have H':=am' H;clear H;go_wp2
                     repeat (go_quiet (fail);try go_wp2)
                     go_roundg k9
                     case measure=>have:=HJ9.out;have:=HJ27.out;have:=HJ29.out;have:=HJ87.out;have:=HJ96.out;have:=HJ98.out;have:=HK7.out;have:=HJ111.out;have:=HK9.out;omega
                     case rel=>exact ⟨(x41_9),(wrap64 (x42_7+1)),xs',xs',H',⟨by have:=HJ9.out;have:=HJ27.out;have:=HJ29.out;have:=HJ87.out;have:=HJ96.out;have:=HJ98.out;have:=HK7.out;have:=HJ111.out;have:=HK9.out;omega⟩,⟨xb'⟩⟩
             ·
              replace c111:=Bool.eq_false_iff.mpr c111;subst c111;have H1:(some true)=some r:=by rw[if_neg (show ¬ (false=true) by decide)] at H;exact H
              clear H;have H:=H1;clear H1;obtain rfl:=os' H;go_wp2
              repeat (go_quiet (fail);try go_wp2)
              go_ret
              exact ⟨by first|rfl|(simp[errW_none,errW_some] <;> rfl)|(simp[*,errW_none,errW_some] <;> rfl),xb'⟩
def laws_FnGuardsOverOfAll.Pure:Prop:=∀ (a0:Int) (a1:Int) (a2:Int) (a3:Int) (a4:Int),(Lit.int .i64 a0).wf=true→(Lit.int .i64 a1).wf=true→(Lit.int .i64 a2).wf=true→(Lit.int .i64 a3).wf=true→(Lit.int .i64 a4).wf=true→∃ k,laws_FnGuardsOverOfAll.f k a0 a1 a2 a3 a4=some true
end Go.Proofs.Ytabhhkiipilghaa.C1
