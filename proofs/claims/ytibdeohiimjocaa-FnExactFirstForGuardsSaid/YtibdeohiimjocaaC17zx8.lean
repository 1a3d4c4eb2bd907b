import Derived.Test.YtibdeohiimjocaaC17zx0
import Derived.Test.YtibdeohiimjocaaC17zx3
import Derived.Test.YtibdeohiimjocaaC17zx6
import Derived.Test.YtibdeohiimjocaaC17zx7
import Derived.Test.YtibdeohiimjocaaC17zAl
namespace Go.Proofs.Ytibdeohiimjocaa.C17
open Go.RowKit Go.Proofs.YtibdeohiimjocaaW.PrintWords Go.Proofs.YtibdeohiimjocaaW.PrintLast Go.Proofs.YtibdeohiimjocaaW.PrintMore Go.Proofs.Ytibdeohiimjocaa.H
attribute [local go_sem] max2_int min2_int max_two min_two max_three min_three max_four min_four
set_option linter.unusedVariables false
set_option linter.unusedSimpArgs false
mutual
def laws_FnExactFirstForGuards.j0:Nat→Int→Int→Int→List (List Int)→Bool→List (List Int)→Bool→Option (Bool)
 | 0,_,_,_,_,_,_,_=>none
 | k+1,x0,x1,x2,x7,x8,x9,x37=>if x37=true then (some false) else (laws_FnExactFirstForGuards.j1 k x0 x1 x2 x7 x8 x9)
def laws_FnExactFirstForGuards.j1:Nat→Int→Int→Int→List (List Int)→Bool→List (List Int)→Option (Bool)
 | 0,_,_,_,_,_,_=>none
 | k+1,x0,x1,x2,x7,x8,x9=>(laws_markIntSS.f x9 1).bind fun bt172=>((laws_heldIntSS.f k bt172.2 1).bind fun t174=>(if t174 < 0 then (some false) else (laws_FnExactFirstForGuards.j2 k x0 x1 x2 x7 x8 bt172.2 bt172.1 t174)))
def laws_FnExactFirstForGuards.j2:Nat→Int→Int→Int→List (List Int)→Bool→List (List Int)→Int→Int→Option (Bool)
 | 0,_,_,_,_,_,_,_,_=>none
 | k+1,x0,x1,x2,x7,x8,x9,x11,x12=>if x12=x11 then (laws_FnExactFirstForGuards.j3 k x0 x1 x2 x7 x8 x9 x11) else (some false)
def laws_FnExactFirstForGuards.j3:Nat→Int→Int→Int→List (List Int)→Bool→List (List Int)→Int→Option (Bool)
 | 0,_,_,_,_,_,_,_=>none
 | k+1,x0,x1,x2,x7,x8,x9,x11=>(impl_FirstForGuards.f k x0 x1 x2).bind fun bt175=>((laws_eqIntSS.f k bt175.1 x7).bind fun t179=>(if t179=true then (laws_FnExactFirstForGuards.j4 k x9 x11 (bt175.2 != x8)) else (laws_FnExactFirstForGuards.j4 k x9 x11 true)))
def laws_FnExactFirstForGuards.j4:Nat→List (List Int)→Int→Bool→Option (Bool)
 | 0,_,_,_=>none
 | k+1,x9,x11,x64=>if x64=true then (some false) else (laws_FnExactFirstForGuards.j5 k x9 x11)
def laws_FnExactFirstForGuards.j5:Nat→List (List Int)→Int→Option (Bool)
 | 0,_,_=>none
 | k+1,x9,x11=>(laws_heldIntSS.f k x9 1).bind fun t180=>(if t180 < 0 then (some false) else (if t180=x11 then (some true) else (some false)))
end
def laws_FnExactFirstForGuards.f (k:Nat) (a0:Int) (a1:Int) (a2:Int):Option (Bool):=(spec_FirstForGuards.f k a0 a1 a2).bind fun bt163=>((impl_FirstForGuards.f k a0 a1 a2).bind fun bt167=>((laws_eqIntSS.f k bt167.1 bt163.1).bind fun t171=>(if t171=true then (laws_FnExactFirstForGuards.j0 k a0 a1 a2 bt163.1 bt163.2 bt167.1 (bt167.2 != bt163.2)) else (laws_FnExactFirstForGuards.j0 k a0 a1 a2 bt163.1 bt163.2 bt167.1 true))))
set_option maxHeartbeats 8000000 in
set_option maxRecDepth 100000 in
theorem laws_FnExactFirstForGuards.calls (k:Nat) (a0:Int) (a1:Int) (a2:Int) (r:Bool) (w:World) (h:laws_FnExactFirstForGuards.f k a0 a1 a2=some r) :
  Calls Try.prog 5 #[.int .i64 a0, .int .i64 a1, .int .i64 a2] w fun e w'=>e = .returned (.bool r)∧Below w.heap.size w w':=by
 have HB:=am' (Below.refl w.heap.size w)
 have H:((spec_FirstForGuards.f k a0 a1 a2).bind fun bt163=>((impl_FirstForGuards.f k a0 a1 a2).bind fun bt167=>((laws_eqIntSS.f k bt167.1 bt163.1).bind fun t171=>(if t171=true then (laws_FnExactFirstForGuards.j0 k a0 a1 a2 bt163.1 bt163.2 bt167.1 (bt167.2 != bt163.2)) else (laws_FnExactFirstForGuards.j0 k a0 a1 a2 bt163.1 bt163.2 bt167.1 true)))))=some r:=h
 clear h;replace H:=Option.bind_eq_some_iff.mp H
 obtain ⟨⟨t163,t164⟩,A40,H⟩:=H
 replace H:((impl_FirstForGuards.f k a0 a1 a2).bind fun bt167=>((laws_eqIntSS.f k bt167.1 t163).bind fun t171=>(if t171=true then (laws_FnExactFirstForGuards.j0 k a0 a1 a2 t163 t164 bt167.1 (bt167.2 != t164)) else (laws_FnExactFirstForGuards.j0 k a0 a1 a2 t163 t164 bt167.1 true))))=some r:=H
 have A4:=am' A40
 clear A40;replace H:=Option.bind_eq_some_iff.mp H
 obtain ⟨⟨t167,t168⟩,A50,H⟩:=H
 replace H:((laws_eqIntSS.f k t167 t163).bind fun t171=>(if t171=true then (laws_FnExactFirstForGuards.j0 k a0 a1 a2 t163 t164 t167 (t168 != t164)) else (laws_FnExactFirstForGuards.j0 k a0 a1 a2 t163 t164 t167 true)))=some r:=H
 have A5:=am' A50
 clear A50;have HC6:=am' H
 clear H;go_enter Try.func5,Try.ntmps5
 go_upto_region 3 with (first|((with_reducible refine gate_callee (f:=18) rfl ?_);refine goesL_ (some 19) rfl rfl Try.func18 (by kernel_rfl) rfl #[.int .i64 a0, .int .i64 a1, .int .i64 a2] rfl (by (try simp only[List.map_toArray,List.map_cons,List.map_nil]);first|done|rfl|(simp only[List.length_drop,List.length_take];rfl)) ?_;(with_reducible refine (spec_FirstForGuards.calls k a0 a1 a2 t163 t164 _ A4.out).mono ?_);rintro e w7 ⟨v165,rfl,ho0,hb⟩;refine ⟨_,rfl,?_⟩;obtain ⟨D181_,hdl_,hdg_⟩:=dlt_of hb;have D181_lt:=am' hdl_;have D181_ge:=am' hdg_;clear hdl_ hdg_;have n0_:=am' (Kd.S_lower (Kd.S_dge ho0 D181_ge.out) (below_size (by repeat (first|(with_reducible first|exact HB.out|apply ba'|apply bd'|apply be')|exact HB.out))));have n1_:=am' (below_step (by repeat (first|(with_reducible first|exact HB.out|apply ba'|apply bd'|apply be')|exact HB.out)) hb);clear HB;have HO166:=n0_;have HB:=n1_;clear n0_ n1_;(try clear hb);(try clear hb2);(try clear hk);(try clear hi);(try clear ho0))|((with_reducible refine gate_callee (f:=19) rfl ?_);refine goesL_ (some 26) rfl rfl Try.func19 (by kernel_rfl) rfl #[.int .i64 a0, .int .i64 a1, .int .i64 a2] rfl (by (try simp only[List.map_toArray,List.map_cons,List.map_nil]);first|done|rfl|(simp only[List.length_drop,List.length_take];rfl)) ?_;(with_reducible refine (impl_FirstForGuards.calls k a0 a1 a2 t167 t168 _ A5.out).mono ?_);rintro e w8 ⟨v169,rfl,ho0,hb⟩;refine ⟨_,rfl,?_⟩;obtain ⟨D182_,hdl_,hdg_⟩:=dlt_of hb;have D182_lt:=am' hdl_;have D182_ge:=am' hdg_;clear hdl_ hdg_;have n0_:=am' (Kd.S_elder' (Kd.S_dlt (by (with_reducible repeat (first|apply Kd.S_alloc|apply Kd.S_drewN|apply Kd.S_drew));exact HO166.out) D182_lt.out) (Kd.S_base ho0) hb);have n1_:=am' (Kd.S_lower (Kd.S_new' (Kd.S_dge ho0 D182_ge.out) (Kd.S_lt (by (with_reducible repeat (first|apply Kd.S_alloc|apply Kd.S_drewN|apply Kd.S_drew));exact HO166.out))) (below_size (by repeat (first|(with_reducible first|exact HB.out|apply ba'|apply bd'|apply be')|exact HB.out))));have n2_:=am' (below_step (by repeat (first|(with_reducible first|exact HB.out|apply ba'|apply bd'|apply be')|exact HB.out)) hb);clear HO166;clear HB;have HO166:=n0_;have HO170:=n1_;have HB:=n2_;clear n0_ n1_ n2_;(try clear hb);(try clear hb2);(try clear hk);(try clear hi);(try clear ho0)))
 (try simp only[Act.put,sa',sb',sc'])
 go_cut [37] (fun v37 wc=>∃ (kq:Nat) (x37_5:Bool),v37 = .bool x37_5∧Aside0 (laws_FnExactFirstForGuards.j0 kq a0 a1 a2 t163 t164 t167 x37_5=some r)∧Aside0 (kq≤k)∧Aside0 (Kd.S (Kd.slice 3 (Kd.int .i64)) 32 wc w.heap.size (fun k_=>some k_≠(v169:Value).ownBlock∧¬ D181_ k_∧D182_ k_) v165 t163)∧Aside0 (Kd.S (Kd.slice 3 (Kd.int .i64)) 32 wc w.heap.size (fun k_=>some k_≠(v165:Value).ownBlock∧¬ D182_ k_) v169 t167)∧Aside0 (Below w.heap.size w wc))
 case first =>
  have H:=HC6.out;clear HC6;replace H:=Option.bind_eq_some_iff.mp H;obtain ⟨t171,A90,H⟩:=H;replace H:(if t171=true then (laws_FnExactFirstForGuards.j0 k a0 a1 a2 t163 t164 t167 (t168 != t164)) else (laws_FnExactFirstForGuards.j0 k a0 a1 a2 t163 t164 t167 true))=some r:=H;have A9:=am' A90;clear A90;by_cases c10:t171=true
  ·
   subst c10;have H1:(laws_FnExactFirstForGuards.j0 k a0 a1 a2 t163 t164 t167 (t168 != t164))=some r:=by rw[if_pos rfl] at H;exact H
   clear H;have H:=H1;clear H1;have H':=am' H;clear H;obtain ⟨Ao11,co11,eo11⟩:=Kd.S_slice HO170.out;subst eo11;obtain ⟨Ao12,co12,eo12⟩:=Kd.S_slice HO166.out;subst eo12;go_wp2_with (first|((with_reducible refine gate_callee (f:=20) rfl ?_);refine goesL_ (some 31) rfl rfl Try.func20 (by kernel_rfl) rfl #[.slice Ao11 t167.length co11, .slice Ao12 t163.length co12] rfl (by (try simp only[List.map_toArray,List.map_cons,List.map_nil]);first|done|rfl|(simp only[List.length_drop,List.length_take];rfl)) ?_;(with_reducible refine (laws_eqIntSS.calls k _ _ t167 _ _ t163 true _ ?side1 ?side2 ?side3 ?side4 A9.out).mono ?_);(case side1=>repeat (first|exact (Kd.S_reads' HO170.out).2.2|(with_reducible refine ca' ?_ _)|(with_reducible refine cn' ?_ _)|(with_reducible refine cd' ?_)));(case side2=>exact (Kd.S_reads' HO170.out).2.1);(case side3=>repeat (first|exact (Kd.S_reads' HO166.out).2.2|(with_reducible refine ca' ?_ _)|(with_reducible refine cn' ?_ _)|(with_reducible refine cd' ?_)));(case side4=>exact (Kd.S_reads' HO166.out).2.1);rintro e w' ⟨rfl,⟨nd,rfl⟩⟩;refine ⟨_,rfl,?_⟩));go_meet
   case rel=>exact ⟨_,((t168 != t164)),(by first|rfl|(simp;done)|(simp[*];done)),H',⟨by first|omega|exact Nat.le_refl _⟩,⟨by (with_reducible repeat (first|apply Kd.S_alloc|apply Kd.S_drewN|apply Kd.S_drew));exact Kd.S_mono HO166.out (fun _ hk=>⟨hk.2,⟨hk.1.1.2,hk.1.2⟩⟩)⟩,⟨by (with_reducible repeat (first|apply Kd.S_alloc|apply Kd.S_drewN|apply Kd.S_drew));exact Kd.S_mono HO170.out (fun _ hk=>⟨hk.2,hk.1.2⟩)⟩,⟨by repeat (first|(with_reducible first|exact HB.out|apply ba'|apply bd'|apply be')|exact HB.out)⟩⟩
  ·
   replace c10:=Bool.eq_false_iff.mpr c10;subst c10;have H1:(laws_FnExactFirstForGuards.j0 k a0 a1 a2 t163 t164 t167 true)=some r:=by rw[if_neg (show ¬ (false=true) by decide)] at H;exact H
   clear H;have H:=H1;clear H1;have H':=am' H;clear H;obtain ⟨Ao13,co13,eo13⟩:=Kd.S_slice HO170.out;subst eo13;obtain ⟨Ao14,co14,eo14⟩:=Kd.S_slice HO166.out;subst eo14;go_wp2_with (first|((with_reducible refine gate_callee (f:=20) rfl ?_);refine goesL_ (some 31) rfl rfl Try.func20 (by kernel_rfl) rfl #[.slice Ao13 t167.length co13, .slice Ao14 t163.length co14] rfl (by (try simp only[List.map_toArray,List.map_cons,List.map_nil]);first|done|rfl|(simp only[List.length_drop,List.length_take];rfl)) ?_;(with_reducible refine (laws_eqIntSS.calls k _ _ t167 _ _ t163 false _ ?side1 ?side2 ?side3 ?side4 A9.out).mono ?_);(case side1=>repeat (first|exact (Kd.S_reads' HO170.out).2.2|(with_reducible refine ca' ?_ _)|(with_reducible refine cn' ?_ _)|(with_reducible refine cd' ?_)));(case side2=>exact (Kd.S_reads' HO170.out).2.1);(case side3=>repeat (first|exact (Kd.S_reads' HO166.out).2.2|(with_reducible refine ca' ?_ _)|(with_reducible refine cn' ?_ _)|(with_reducible refine cd' ?_)));(case side4=>exact (Kd.S_reads' HO166.out).2.1);rintro e w' ⟨rfl,⟨nd,rfl⟩⟩;refine ⟨_,rfl,?_⟩));go_meet
   case rel=>exact ⟨_,(true),(by first|rfl|(simp;done)|(simp[*];done)),H',⟨by first|omega|exact Nat.le_refl _⟩,⟨by (with_reducible repeat (first|apply Kd.S_alloc|apply Kd.S_drewN|apply Kd.S_drew));exact Kd.S_mono HO166.out (fun _ hk=>⟨hk.2,⟨hk.1.1.2,hk.1.2⟩⟩)⟩,⟨by (with_reducible repeat (first|apply Kd.S_alloc|apply Kd.S_drewN|apply Kd.S_drew));exact Kd.S_mono HO170.out (fun _ hk=>⟨hk.2,hk.1.2⟩)⟩,⟨by repeat (first|(with_reducible first|exact HB.out|apply ba'|apply bd'|apply be')|exact HB.out)⟩⟩
 case rest =>
  clear HC6;try clear c1
  try clear c2
  try clear p2
  try clear c5
  try clear c10
  obtain ⟨kq,x37_5,rfl,HA,HJ5,HO_7,HO_9,HB⟩:=hcut;cases kq with
  | zero=>exact absurd HA.out (by simp[laws_FnExactFirstForGuards.j0])
  | succ kj5 =>
   have H:=HA.out;clear HA;simp only[laws_FnExactFirstForGuards.j0] at H;have HC15:=am' H;clear H;go_upto_if 37 with (fail)
   go_cut [] (fun wc=>∃ (kq:Nat),Aside0 (laws_FnExactFirstForGuards.j1 kq a0 a1 a2 t163 t164 t167=some r)∧Aside0 (kq≤kj5)∧Aside0 (Kd.S (Kd.slice 3 (Kd.int .i64)) 32 wc w.heap.size (fun k_=>some k_≠(v169:Value).ownBlock∧¬ D181_ k_∧D182_ k_) v165 t163)∧Aside0 (Kd.S (Kd.slice 3 (Kd.int .i64)) 32 wc w.heap.size (fun k_=>some k_≠(v165:Value).ownBlock∧¬ D182_ k_) v169 t167)∧Aside0 (Below w.heap.size w wc))
   case first =>
    have H:=HC15.out;clear HC15;by_cases c16:x37_5=true
    ·
     subst c16;have H1:(some false)=some r:=by rw[if_pos rfl] at H;exact H
     clear H;have H:=H1;clear H1;obtain rfl:=Option.some.inj H;go_wp2;go_ret
     exact ⟨by first|rfl|(simp[errW_none,errW_some] <;> rfl)|(simp[*,errW_none,errW_some] <;> rfl),by repeat (first|(with_reducible first|exact HB.out|apply ba'|apply bd'|apply be')|exact HB.out)⟩
    ·
     replace c16:=Bool.eq_false_iff.mpr c16;subst c16;have H1:(laws_FnExactFirstForGuards.j1 kj5 a0 a1 a2 t163 t164 t167)=some r:=by rw[if_neg (show ¬ (false=true) by decide)] at H;exact H
     clear H;have H:=H1;clear H1;have H':=am' H;clear H;go_wp2;go_meet
     case rel=>exact ⟨_,H',⟨by have:=HJ5.out;first|omega|exact Nat.le_refl _⟩,⟨by (with_reducible repeat (first|apply Kd.S_alloc|apply Kd.S_drewN|apply Kd.S_drew));exact HO_7.out⟩,⟨by (with_reducible repeat (first|apply Kd.S_alloc|apply Kd.S_drewN|apply Kd.S_drew));exact HO_9.out⟩,⟨by repeat (first|(with_reducible first|exact HB.out|apply ba'|apply bd'|apply be')|exact HB.out)⟩⟩
   case rest =>
    clear HC15;try clear c1
    try clear c2
    try clear p2
    try clear c5
    try clear c10
    try clear c16
    try clear p2
    obtain ⟨kq,HA,HJ14,HO_7,HO_9,HB⟩:=hcut;cases kq with
    | zero=>exact absurd HA.out (by simp[laws_FnExactFirstForGuards.j1])
    | succ kj14 =>
     have H:=HA.out;clear HA;simp only[laws_FnExactFirstForGuards.j1] at H;replace H:=Option.bind_eq_some_iff.mp H;obtain ⟨⟨t172,t173⟩,A170,H⟩:=H;replace H:((laws_heldIntSS.f kj14 t173 1).bind fun t174=>(if t174 < 0 then (some false) else (laws_FnExactFirstForGuards.j2 kj14 a0 a1 a2 t163 t164 t173 t172 t174)))=some r:=H;have A17:=am' A170;clear A170;replace H:=Option.bind_eq_some_iff.mp H;obtain ⟨t174,A180,H⟩:=H;replace H:(if t174 < 0 then (some false) else (laws_FnExactFirstForGuards.j2 kj14 a0 a1 a2 t163 t164 t173 t172 t174))=some r:=H;have A18:=am' A180;clear A180;have HC19:=am' H;clear H;obtain ⟨Ao20,co20,eo20⟩:=Kd.S_slice HO_9.out;subst eo20;go_upto_if 45 with (first|((with_reducible refine gate_callee (f:=21) rfl ?_);refine goesL_ (some 40) rfl rfl Try.func21 (by kernel_rfl) rfl #[.slice Ao20 t167.length co20, .int .i64 1] rfl (by (try simp only[List.map_toArray,List.map_cons,List.map_nil]);first|done|rfl|(simp only[List.length_drop,List.length_take];rfl)) ?_;(with_reducible refine (laws_markIntSS.calls (fun k_=>(some k_≠(v165:Value).ownBlock∧¬ D182_ k_)) (.slice Ao20 t167.length co20) t167 1 t172 t173 w _ ?side1 ?side2 A17.out).mono ?_);(case side1=>repeat (first|(with_reducible first|exact HB.out|apply ba'|apply bd'|apply be')|exact HB.out));(case side2=>exact (by (with_reducible repeat (first|apply Kd.S_alloc|apply Kd.S_drewN|apply Kd.S_drew));exact (Kd.S_mono (ok':=fun k_=>(some k_≠(v165:Value).ownBlock∧¬ D182_ k_)) HO_9.out (fun k_ hk_=>⟨hk_.1,hk_.2⟩))));rintro e w21 ⟨rfl,hy0,hb,hkp⟩;refine ⟨_,rfl,?_⟩;have n0_:=am' (Kd.S_mono (ok':=fun k_=>some k_≠(.slice Ao20 t167.length co20:Value).ownBlock∧¬ D181_ k_∧D182_ k_) (Kd.S_keptB (HO_7.out) hkp (fun k_ hk_ hs_=>(fun e_=>(e_.2) (hk_.2.2)) hs_)) (fun k_ hk_=>⟨hk_.1.1,hk_.1.2.1,hk_.1.2.2⟩));have n1_:=am' (hy0);have n2_:=am' (hb);clear HO_7;clear HO_9;clear HB;have HO_7:=n0_;have HO_9:=n1_;have HB:=n2_;clear n0_ n1_ n2_;(try clear hb);(try clear hkp);(try clear hy0))|((with_reducible refine gate_callee (f:=22) rfl ?_);refine goesL_ (some 43) rfl rfl Try.func22 (by kernel_rfl) rfl #[.slice Ao20 t173.length co20, .int .i64 1] rfl (by (try simp only[List.map_toArray,List.map_cons,List.map_nil]);first|done|(rw[show t173.length=t167.length from (Kd.S_reads' HO_9.out).1.symm] <;> rfl)|rfl|(simp only[List.length_drop,List.length_take];rfl)) ?_;(with_reducible refine (laws_heldIntSS.calls kj14 _ _ t173 1 t174 _ ?side1 ?side2 A18.out).mono ?_);(case side1=>repeat (first|exact (Kd.S_reads' HO_9.out).2.2|(with_reducible refine ca' ?_ _)|(with_reducible refine cn' ?_ _)|(with_reducible refine cd' ?_)));(case side2=>rw [show t173.length=t167.length from (Kd.S_reads' HO_9.out).1.symm];exact (Kd.S_reads' HO_9.out).2.1);rintro e w' ⟨rfl,⟨nd,rfl⟩⟩;refine ⟨_,rfl,?_⟩))
     (try simp only[Act.put,sa',sb',sc'])
     go_cut [] (fun wc=>∃ (kq:Nat),Aside0 (laws_FnExactFirstForGuards.j2 kq a0 a1 a2 t163 t164 t173 t172 t174=some r)∧Aside0 (kq≤kj14)∧Aside0 (Kd.S (Kd.slice 3 (Kd.int .i64)) 32 wc w.heap.size (fun k_=>some k_≠((.slice Ao20 t167.length co20):Value).ownBlock∧¬ D181_ k_∧D182_ k_) v165 t163)∧Aside0 (Kd.S (Kd.slice 3 (Kd.int .i64)) 32 wc w.heap.size (fun k_=>some k_≠(v165:Value).ownBlock∧¬ D182_ k_) (.slice Ao20 t167.length co20) t173)∧Aside0 (Below w.heap.size w wc))
     case first =>
      have H:=HC19.out;clear HC19;by_cases c22:t174 < 0
      ·
       rw[if_pos c22] at H;have c22b0:decide (t174 < 0)=true:=decide_eq_true c22;clear c22;(first|rw[c22b0]|(simp only[i64_w,i32_w];rw[c22b0])|skip)
       obtain rfl:=Option.some.inj H;go_wp2;go_ret
       exact ⟨by first|rfl|(simp[errW_none,errW_some] <;> rfl)|(simp[*,errW_none,errW_some] <;> rfl),by repeat (first|(with_reducible first|exact HB.out|apply ba'|apply bd'|apply be')|exact HB.out)⟩
      ·
       rw[if_neg c22] at H;have c22b0:decide (t174 < 0)=false:=decide_eq_false c22;clear c22;(first|rw[c22b0]|(simp only[i64_w,i32_w];rw[c22b0])|skip)
       have H':=am' H;clear H;go_wp2;go_meet
       case rel=>exact ⟨_,H',⟨by have:=HJ5.out;have:=HJ14.out;first|omega|exact Nat.le_refl _⟩,⟨by (with_reducible repeat (first|apply Kd.S_alloc|apply Kd.S_drewN|apply Kd.S_drew));exact HO_7.out⟩,⟨by (with_reducible repeat (first|apply Kd.S_alloc|apply Kd.S_drewN|apply Kd.S_drew));exact HO_9.out⟩,⟨by repeat (first|(with_reducible first|exact HB.out|apply ba'|apply bd'|apply be')|exact HB.out)⟩⟩
     case rest =>
      clear HC19;try clear c1
      try clear c2
      try clear p2
      try clear c5
      try clear c10
      try clear c16
      try clear c18
      try clear c19
      try clear c20
      try clear c21
      try clear c22
      try clear c22b0
      try clear p2
      obtain ⟨kq,HA,HJ18,HO_7,HO_9,HB⟩:=hcut;have hl9_18:=(Kd.S_reads' HO_9.out).1;rw[hl9_18] at HO_9
      (try simp only[hl9_18])
      (try simp only[hl9_18] at HO_7)
      cases kq with
      | zero=>exact absurd HA.out (by simp[laws_FnExactFirstForGuards.j2])
      | succ kj18 =>
       have H:=HA.out;clear HA;simp only[laws_FnExactFirstForGuards.j2] at H;have HC23:=am' H;clear H;go_upto_if 48 with (fail)
       go_cut [] (fun wc=>∃ (kq:Nat),Aside0 (laws_FnExactFirstForGuards.j3 kq a0 a1 a2 t163 t164 t173 t172=some r)∧Aside0 (kq≤kj18)∧Aside0 (Kd.S (Kd.slice 3 (Kd.int .i64)) 32 wc w.heap.size (fun k_=>some k_≠((.slice Ao20 t173.length co20):Value).ownBlock∧¬ D181_ k_∧D182_ k_) v165 t163)∧Aside0 (Kd.S (Kd.slice 3 (Kd.int .i64)) 32 wc w.heap.size (fun k_=>some k_≠(v165:Value).ownBlock∧¬ D182_ k_) (.slice Ao20 t173.length co20) t173)∧Aside0 (Below w.heap.size w wc))
       case first =>
        have H:=HC23.out;clear HC23;by_cases c24:t174=t172
        ·
         rw[if_pos c24] at H;have c24b0:(t174 == t172)=true:=beq_iff_eq.mpr c24;have c24b1:(t174 != t172)=false:=bne_eq_false_iff_eq.mpr c24;clear c24;(first|rw[c24b0]|(simp only[i64_w,i32_w];rw[c24b0])|skip)
         have H':=am' H;clear H;go_wp2;go_meet
         case rel=>exact ⟨_,H',⟨by have:=HJ5.out;have:=HJ14.out;have:=HJ18.out;first|omega|exact Nat.le_refl _⟩,⟨by (try simp only[hl9_18]);(with_reducible repeat (first|apply Kd.S_alloc|apply Kd.S_drewN|apply Kd.S_drew));exact HO_7.out⟩,⟨by (try simp only[hl9_18]);(with_reducible repeat (first|apply Kd.S_alloc|apply Kd.S_drewN|apply Kd.S_drew));exact HO_9.out⟩,⟨by repeat (first|(with_reducible first|exact HB.out|apply ba'|apply bd'|apply be')|exact HB.out)⟩⟩
        ·
         rw[if_neg c24] at H;have c24b0:(t174 == t172)=false:=beq_eq_false_iff_ne.mpr c24;have c24b1:(t174 != t172)=true:=bne_iff_ne.mpr c24
         (first|rw[c24b0]|(simp only[i64_w,i32_w];rw[c24b0])|skip)
         obtain rfl:=Option.some.inj H;go_wp2;go_ret
         exact ⟨by first|rfl|(simp[errW_none,errW_some] <;> rfl)|(simp[*,errW_none,errW_some] <;> rfl),by repeat (first|(with_reducible first|exact HB.out|apply ba'|apply bd'|apply be')|exact HB.out)⟩
       case rest =>
        clear HC23;try clear c1
        try clear c2
        try clear p2
        try clear c5
        try clear c10
        try clear c16
        try clear c18
        try clear c19
        try clear c20
        try clear c21
        try clear c22
        try clear c22b0
        try clear c24
        try clear c24b0
        try clear c24b1
        try clear p2
        obtain ⟨kq,HA,HJ22,HO_7,HO_9,HB⟩:=hcut;cases kq with
        | zero=>exact absurd HA.out (by simp[laws_FnExactFirstForGuards.j3])
        | succ kj22 =>
         have H:=HA.out;clear HA;simp only[laws_FnExactFirstForGuards.j3] at H;replace H:=Option.bind_eq_some_iff.mp H;obtain ⟨⟨t175,t176⟩,A250,H⟩:=H;replace H:((laws_eqIntSS.f kj22 t175 t163).bind fun t179=>(if t179=true then (laws_FnExactFirstForGuards.j4 kj22 t173 t172 (t176 != t164)) else (laws_FnExactFirstForGuards.j4 kj22 t173 t172 true)))=some r:=H;have A25:=am' A250;clear A250;have HC26:=am' H;clear H;go_upto_region 14 with (first|((with_reducible refine gate_callee (f:=19) rfl ?_);refine goesL_ (some 53) rfl rfl Try.func19 (by kernel_rfl) rfl #[.int .i64 a0, .int .i64 a1, .int .i64 a2] rfl (by (try simp only[List.map_toArray,List.map_cons,List.map_nil]);first|done|rfl|(simp only[List.length_drop,List.length_take];rfl)) ?_;(with_reducible refine (impl_FirstForGuards.calls kj22 a0 a1 a2 t175 t176 _ A25.out).mono ?_);rintro e w27 ⟨v177,rfl,ho0,hb⟩;refine ⟨_,rfl,?_⟩;obtain ⟨D183_,hdl_,hdg_⟩:=dlt_of hb;have D183_lt:=am' hdl_;have D183_ge:=am' hdg_;clear hdl_ hdg_;have n0_:=am' (Kd.S_elder' (Kd.S_dlt (by (with_reducible repeat (first|apply Kd.S_alloc|apply Kd.S_drewN|apply Kd.S_drew));exact HO_7.out) D183_lt.out) (Kd.S_base ho0) hb);have n1_:=am' (Kd.S_elder' (Kd.S_dlt (by (with_reducible repeat (first|apply Kd.S_alloc|apply Kd.S_drewN|apply Kd.S_drew));exact HO_9.out) D183_lt.out) (Kd.S_base ho0) hb);have n2_:=am' (Kd.S_lower (Kd.S_new' (Kd.S_new' (Kd.S_dge ho0 D183_ge.out) (Kd.S_lt (by (with_reducible repeat (first|apply Kd.S_alloc|apply Kd.S_drewN|apply Kd.S_drew));exact HO_7.out))) (Kd.S_lt (by (with_reducible repeat (first|apply Kd.S_alloc|apply Kd.S_drewN|apply Kd.S_drew));exact HO_9.out))) (below_size (by repeat (first|(with_reducible first|exact HB.out|apply ba'|apply bd'|apply be')|exact HB.out))));have n3_:=am' (below_step (by repeat (first|(with_reducible first|exact HB.out|apply ba'|apply bd'|apply be')|exact HB.out)) hb);clear HO_7;clear HO_9;clear HB;have HO_7:=n0_;have HO_9:=n1_;have HO178:=n2_;have HB:=n3_;clear n0_ n1_ n2_ n3_;(try clear hb);(try clear hb2);(try clear hk);(try clear hi);(try clear ho0)))
         (try simp only[Act.put,sa',sb',sc'])
         go_cut [64] (fun v64 wc=>∃ (kq:Nat) (x64_25:Bool),v64 = .bool x64_25∧Aside0 (laws_FnExactFirstForGuards.j4 kq t173 t172 x64_25=some r)∧Aside0 (kq≤kj22)∧Aside0 (Kd.S (Kd.slice 3 (Kd.int .i64)) 32 wc w.heap.size (fun k_=>¬ D182_ k_∧D183_ k_) (.slice Ao20 t173.length co20) t173)∧Aside0 (Below w.heap.size w wc))
         case first =>
          have H:=HC26.out;clear HC26;replace H:=Option.bind_eq_some_iff.mp H;obtain ⟨t179,A280,H⟩:=H;replace H:(if t179=true then (laws_FnExactFirstForGuards.j4 kj22 t173 t172 (t176 != t164)) else (laws_FnExactFirstForGuards.j4 kj22 t173 t172 true))=some r:=H;have A28:=am' A280;clear A280;by_cases c29:t179=true
          ·
           subst c29;have H1:(laws_FnExactFirstForGuards.j4 kj22 t173 t172 (t176 != t164))=some r:=by rw[if_pos rfl] at H;exact H
           clear H;have H:=H1;clear H1;have H':=am' H;clear H;obtain ⟨Ao30,co30,eo30⟩:=Kd.S_slice HO178.out;subst eo30;obtain ⟨Ao31,co31,eo31⟩:=Kd.S_slice HO_7.out;subst eo31;go_wp2_with (first|((with_reducible refine gate_callee (f:=20) rfl ?_);refine goesL_ (some 58) rfl rfl Try.func20 (by kernel_rfl) rfl #[.slice Ao30 t175.length co30, .slice Ao31 t163.length co31] rfl (by (try simp only[List.map_toArray,List.map_cons,List.map_nil]);first|done|rfl|(simp only[List.length_drop,List.length_take];rfl)) ?_;(with_reducible refine (laws_eqIntSS.calls kj22 _ _ t175 _ _ t163 true _ ?side1 ?side2 ?side3 ?side4 A28.out).mono ?_);(case side1=>repeat (first|exact (Kd.S_reads' HO178.out).2.2|(with_reducible refine ca' ?_ _)|(with_reducible refine cn' ?_ _)|(with_reducible refine cd' ?_)));(case side2=>exact (Kd.S_reads' HO178.out).2.1);(case side3=>repeat (first|exact (Kd.S_reads' HO_7.out).2.2|(with_reducible refine ca' ?_ _)|(with_reducible refine cn' ?_ _)|(with_reducible refine cd' ?_)));(case side4=>exact (Kd.S_reads' HO_7.out).2.1);rintro e w' ⟨rfl,⟨nd,rfl⟩⟩;refine ⟨_,rfl,?_⟩));go_meet
           case rel=>exact ⟨_,((t176 != t164)),(by first|rfl|(simp;done)|(simp[*];done)),H',⟨by have:=HJ5.out;have:=HJ14.out;have:=HJ18.out;have:=HJ22.out;first|omega|exact Nat.le_refl _⟩,⟨by (try simp only[hl9_18]);(with_reducible repeat (first|apply Kd.S_alloc|apply Kd.S_drewN|apply Kd.S_drew));exact Kd.S_mono HO_9.out (fun _ hk=>⟨hk.1.1.2,hk.1.2⟩)⟩,⟨by repeat (first|(with_reducible first|exact HB.out|apply ba'|apply bd'|apply be')|exact HB.out)⟩⟩
          ·
           replace c29:=Bool.eq_false_iff.mpr c29;subst c29;have H1:(laws_FnExactFirstForGuards.j4 kj22 t173 t172 true)=some r:=by rw[if_neg (show ¬ (false=true) by decide)] at H;exact H
           clear H;have H:=H1;clear H1;have H':=am' H;clear H;obtain ⟨Ao32,co32,eo32⟩:=Kd.S_slice HO178.out;subst eo32;obtain ⟨Ao33,co33,eo33⟩:=Kd.S_slice HO_7.out;subst eo33;go_wp2_with (first|((with_reducible refine gate_callee (f:=20) rfl ?_);refine goesL_ (some 58) rfl rfl Try.func20 (by kernel_rfl) rfl #[.slice Ao32 t175.length co32, .slice Ao33 t163.length co33] rfl (by (try simp only[List.map_toArray,List.map_cons,List.map_nil]);first|done|rfl|(simp only[List.length_drop,List.length_take];rfl)) ?_;(with_reducible refine (laws_eqIntSS.calls kj22 _ _ t175 _ _ t163 false _ ?side1 ?side2 ?side3 ?side4 A28.out).mono ?_);(case side1=>repeat (first|exact (Kd.S_reads' HO178.out).2.2|(with_reducible refine ca' ?_ _)|(with_reducible refine cn' ?_ _)|(with_reducible refine cd' ?_)));(case side2=>exact (Kd.S_reads' HO178.out).2.1);(case side3=>repeat (first|exact (Kd.S_reads' HO_7.out).2.2|(with_reducible refine ca' ?_ _)|(with_reducible refine cn' ?_ _)|(with_reducible refine cd' ?_)));(case side4=>exact (Kd.S_reads' HO_7.out).2.1);rintro e w' ⟨rfl,⟨nd,rfl⟩⟩;refine ⟨_,rfl,?_⟩));go_meet
           case rel=>exact ⟨_,(true),(by first|rfl|(simp;done)|(simp[*];done)),H',⟨by have:=HJ5.out;have:=HJ14.out;have:=HJ18.out;have:=HJ22.out;first|omega|exact Nat.le_refl _⟩,⟨by (try simp only[hl9_18]);(with_reducible repeat (first|apply Kd.S_alloc|apply Kd.S_drewN|apply Kd.S_drew));exact Kd.S_mono HO_9.out (fun _ hk=>⟨hk.1.1.2,hk.1.2⟩)⟩,⟨by repeat (first|(with_reducible first|exact HB.out|apply ba'|apply bd'|apply be')|exact HB.out)⟩⟩
         case rest =>
          clear HC26;try clear c1
          try clear c2
          try clear p2
          try clear c5
          try clear c10
          try clear c16
          try clear c18
          try clear c19
          try clear c20
          try clear c21
          try clear c22
          try clear c22b0
          try clear c24
          try clear c24b0
          try clear c24b1
          try clear c29
          try clear p2
          obtain ⟨kq,x64_25,rfl,HA,HJ25,HO_9,HB⟩:=hcut;cases kq with
          | zero=>exact absurd HA.out (by simp[laws_FnExactFirstForGuards.j4])
          | succ kj25 =>
           have H:=HA.out;clear HA;simp only[laws_FnExactFirstForGuards.j4] at H;have HC34:=am' H;clear H;go_upto_if 64 with (fail)
           go_cut [] (fun wc=>∃ (kq:Nat),Aside0 (laws_FnExactFirstForGuards.j5 kq t173 t172=some r)∧Aside0 (kq≤kj25)∧Aside0 (Kd.S (Kd.slice 3 (Kd.int .i64)) 32 wc w.heap.size (fun k_=>¬ D182_ k_∧D183_ k_) (.slice Ao20 t173.length co20) t173)∧Aside0 (Below w.heap.size w wc))
           case first =>
            have H:=HC34.out;clear HC34;by_cases c35:x64_25=true
            ·
             subst c35;have H1:(some false)=some r:=by rw[if_pos rfl] at H;exact H
             clear H;have H:=H1;clear H1;obtain rfl:=Option.some.inj H;go_wp2;go_ret
             exact ⟨by first|rfl|(simp[errW_none,errW_some] <;> rfl)|(simp[*,errW_none,errW_some] <;> rfl),by repeat (first|(with_reducible first|exact HB.out|apply ba'|apply bd'|apply be')|exact HB.out)⟩
            ·
             replace c35:=Bool.eq_false_iff.mpr c35;subst c35;have H1:(laws_FnExactFirstForGuards.j5 kj25 t173 t172)=some r:=by rw[if_neg (show ¬ (false=true) by decide)] at H;exact H
             clear H;have H:=H1;clear H1;have H':=am' H;clear H;go_wp2;go_meet
             case rel=>exact ⟨_,H',⟨by have:=HJ5.out;have:=HJ14.out;have:=HJ18.out;have:=HJ22.out;have:=HJ25.out;first|omega|exact Nat.le_refl _⟩,⟨by (try simp only[hl9_18]);(with_reducible repeat (first|apply Kd.S_alloc|apply Kd.S_drewN|apply Kd.S_drew));exact HO_9.out⟩,⟨by repeat (first|(with_reducible first|exact HB.out|apply ba'|apply bd'|apply be')|exact HB.out)⟩⟩
           case rest =>
            clear HC34;try clear c1
            try clear c2
            try clear p2
            try clear c3
            try clear c5
            try clear c10
            try clear c16
            try clear c18
            try clear c19
            try clear c20
            try clear c21
            try clear c22
            try clear c22b0
            try clear c24
            try clear c24b0
            try clear c24b1
            try clear c29
            try clear c35
            try clear p2
            obtain ⟨kq,HA,HJ33,HO_9,HB⟩:=hcut;cases kq with
            | zero=>exact absurd HA.out (by simp[laws_FnExactFirstForGuards.j5])
            | succ kj33 =>
             have H:=HA.out;clear HA;simp only[laws_FnExactFirstForGuards.j5] at H;replace H:=Option.bind_eq_some_iff.mp H;obtain ⟨t180,A360,H⟩:=H;replace H:(if t180 < 0 then (some false) else (if t180=t172 then (some true) else (some false)))=some r:=H;have A36:=am' A360;clear A360;by_cases c37:t180 < 0
             ·
              rw[if_pos c37] at H;have c37b0:decide (t180 < 0)=true:=decide_eq_true c37;clear c37;obtain rfl:=Option.some.inj H;go_wp2_with (first|((with_reducible refine gate_callee (f:=22) rfl ?_);refine goesL_ (some 67) rfl rfl Try.func22 (by kernel_rfl) rfl #[.slice Ao20 t173.length co20, .int .i64 1] rfl (by (try simp only[List.map_toArray,List.map_cons,List.map_nil]);first|done|rfl|(simp only[List.length_drop,List.length_take];rfl)) ?_;(with_reducible refine (laws_heldIntSS.calls kj33 _ _ t173 1 t180 _ ?side1 ?side2 A36.out).mono ?_);(case side1=>repeat (first|exact (Kd.S_reads' HO_9.out).2.2|(with_reducible refine ca' ?_ _)|(with_reducible refine cn' ?_ _)|(with_reducible refine cd' ?_)));(case side2=>exact (Kd.S_reads' HO_9.out).2.1);rintro e w' ⟨rfl,⟨nd,rfl⟩⟩;refine ⟨_,rfl,?_⟩));go_ret
              exact ⟨by first|rfl|(simp[errW_none,errW_some] <;> rfl)|(simp[*,errW_none,errW_some] <;> rfl),by repeat (first|(with_reducible first|exact HB.out|apply ba'|apply bd'|apply be')|exact HB.out)⟩
             ·
              rw[if_neg c37] at H;have c37b0:decide (t180 < 0)=false:=decide_eq_false c37;clear c37;by_cases c38:t180=t172
              ·
               rw[if_pos c38] at H;have c38b0:(t180 == t172)=true:=beq_iff_eq.mpr c38;have c38b1:(t180 != t172)=false:=bne_eq_false_iff_eq.mpr c38;clear c38;obtain rfl:=Option.some.inj H;go_wp2_with (first|((with_reducible refine gate_callee (f:=22) rfl ?_);refine goesL_ (some 67) rfl rfl Try.func22 (by kernel_rfl) rfl #[.slice Ao20 t173.length co20, .int .i64 1] rfl (by (try simp only[List.map_toArray,List.map_cons,List.map_nil]);first|done|rfl|(simp only[List.length_drop,List.length_take];rfl)) ?_;(with_reducible refine (laws_heldIntSS.calls kj33 _ _ t173 1 t180 _ ?side1 ?side2 A36.out).mono ?_);(case side1=>repeat (first|exact (Kd.S_reads' HO_9.out).2.2|(with_reducible refine ca' ?_ _)|(with_reducible refine cn' ?_ _)|(with_reducible refine cd' ?_)));(case side2=>exact (Kd.S_reads' HO_9.out).2.1);rintro e w' ⟨rfl,⟨nd,rfl⟩⟩;refine ⟨_,rfl,?_⟩));go_ret
               exact ⟨by first|rfl|(simp[errW_none,errW_some] <;> rfl)|(simp[*,errW_none,errW_some] <;> rfl),by repeat (first|(with_reducible first|exact HB.out|apply ba'|apply bd'|apply be')|exact HB.out)⟩
              ·
               rw[if_neg c38] at H;have c38b0:(t180 == t172)=false:=beq_eq_false_iff_ne.mpr c38;have c38b1:(t180 != t172)=true:=bne_iff_ne.mpr c38;obtain rfl:=Option.some.inj H;go_wp2_with (first|((with_reducible refine gate_callee (f:=22) rfl ?_);refine goesL_ (some 67) rfl rfl Try.func22 (by kernel_rfl) rfl #[.slice Ao20 t173.length co20, .int .i64 1] rfl (by (try simp only[List.map_toArray,List.map_cons,List.map_nil]);first|done|rfl|(simp only[List.length_drop,List.length_take];rfl)) ?_;(with_reducible refine (laws_heldIntSS.calls kj33 _ _ t173 1 t180 _ ?side1 ?side2 A36.out).mono ?_);(case side1=>repeat (first|exact (Kd.S_reads' HO_9.out).2.2|(with_reducible refine ca' ?_ _)|(with_reducible refine cn' ?_ _)|(with_reducible refine cd' ?_)));(case side2=>exact (Kd.S_reads' HO_9.out).2.1);rintro e w' ⟨rfl,⟨nd,rfl⟩⟩;refine ⟨_,rfl,?_⟩));go_ret
               exact ⟨by first|rfl|(simp[errW_none,errW_some] <;> rfl)|(simp[*,errW_none,errW_some] <;> rfl),by repeat (first|(with_reducible first|exact HB.out|apply ba'|apply bd'|apply be')|exact HB.out)⟩
def laws_FnExactFirstForGuards.Pure:Prop:=∀ (a0:Int) (a1:Int) (a2:Int),(Lit.int .i64 a0).wf=true→(Lit.int .i64 a1).wf=true→(Lit.int .i64 a2).wf=true→∃ k,laws_FnExactFirstForGuards.f k a0 a1 a2=some true
end Go.Proofs.Ytibdeohiimjocaa.C17
