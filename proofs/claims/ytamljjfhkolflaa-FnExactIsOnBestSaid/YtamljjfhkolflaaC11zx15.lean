import Derived.Test.YtamljjfhkolflaaC11zx0
import Derived.Test.YtamljjfhkolflaaC11zx1
import Derived.Test.YtamljjfhkolflaaC11zx2
import Derived.Test.YtamljjfhkolflaaC11zx8
import Derived.Test.YtamljjfhkolflaaC11zx14
import Derived.Test.YtamljjfhkolflaaC11zAl
namespace Go.Proofs.Ytamljjfhkolflaa.C11
open Go.RowKit Go.Proofs.YtamljjfhkolflaaW.PrintWords Go.Proofs.YtamljjfhkolflaaW.PrintLast Go.Proofs.YtamljjfhkolflaaW.PrintMore Go.Proofs.Ytamljjfhkolflaa.H
attribute [local go_sem] max2_int min2_int max_two min_two max_three min_three max_four min_four
set_option linter.unusedVariables false
set_option linter.unusedSimpArgs false
mutual
def laws_FnExactIsOnBest.j0:Nat→Int→List Int→Int→List Bool→Bool→Option (Bool)
 | 0,_,_,_,_,_=>none
 | k+1,x5,x343000,x343001,x344000,x344001=>(laws_szState.f x344000 x344001 x5).bind fun t345=>(if t345 < 0 then (some true) else (laws_FnExactIsOnBest.j1 k x343000 x343001 x344000 x344001))
def laws_FnExactIsOnBest.j1:Nat→List Int→Int→List Bool→Bool→Option (Bool)
 | 0,_,_,_,_=>none
 | k+1,x343000,x343001,x344000,x344001=>(laws_toParty.f k x343000 x343001).bind fun bt346=>((laws_toState.f k x344000 x344001).bind fun bt350=>((spec_IsOnBest.f k bt346.1 bt346.2 bt350.1 bt350.2).bind fun bt354=>((laws_toParty.f k x343000 x343001).bind fun bt356=>((laws_toState.f k x344000 x344001).bind fun bt361=>((impl_IsOnBest.f k bt356.1 bt356.2 bt361.1 bt361.2).bind fun bt366=>(if (bt366.1 != bt354.1)=true then (laws_FnExactIsOnBest.j2 k true x343000 x343001 x344000 x344001 bt356.1 bt356.2 bt361.1 bt361.2) else (laws_FnExactIsOnBest.j2 k (bt366.2 != bt354.2) x343000 x343001 x344000 x344001 bt356.1 bt356.2 bt361.1 bt361.2)))))))
def laws_FnExactIsOnBest.j2:Nat→Bool→List Int→Int→List Bool→Bool→List Int→Int→List Bool→Bool→Option (Bool)
 | 0,_,_,_,_,_,_,_,_,_=>none
 | k+1,x47,x343000,x343001,x344000,x344001,x361000,x361001,x366000,x366001=>if x47=true then (some false) else (laws_FnExactIsOnBest.j3 k x343000 x343001 x344000 x344001 x361000 x361001 x366000 x366001)
def laws_FnExactIsOnBest.j3:Nat→List Int→Int→List Bool→Bool→List Int→Int→List Bool→Bool→Option (Bool)
 | 0,_,_,_,_,_,_,_,_=>none
 | k+1,x343000,x343001,x344000,x344001,x361000,x361001,x366000,x366001=>(laws_toParty.f k x343000 x343001).bind fun bt368=>((laws_eqParty.f k x361000 x361001 bt368.1 bt368.2).bind fun t372=>(if t372=true then (laws_FnExactIsOnBest.j4 k x344000 x344001 x366000 x366001) else (some false)))
def laws_FnExactIsOnBest.j4:Nat→List Bool→Bool→List Bool→Bool→Option (Bool)
 | 0,_,_,_,_=>none
 | k+1,x344000,x344001,x366000,x366001=>(laws_toState.f k x344000 x344001).bind fun bt373=>((laws_eqState.f k x366000 x366001 bt373.1 bt373.2).bind fun t377=>(if t377=true then (some true) else (some false)))
end
def laws_FnExactIsOnBest.f (k:Nat) (l0_0:List Int) (a0_1:Int) (l1_0:List Bool) (a1_1:Bool):Option (Bool):=(laws_szParty.f l0_0 a0_1 1048576).bind fun t344=>(if t344 < 0 then (some true) else (laws_FnExactIsOnBest.j0 k t344 l0_0 a0_1 l1_0 a1_1))
def laws_FnExactIsOnBest.T8:Bool × List (List Nat × List Nat):=(true,[([],[]),([0],[0]),([],[]),([2,1],[2]),([1,3,3],[1,3]),([4],[4]),([5],[5]),([5],[5]),([6,4,0,1,2,3,4,5,6],[6]),([7,8,0,1,2,3,4,5,6,7,8],[7])])
def laws_FnExactIsOnBest.B8:List Nat:=[0,1,0,7,15,31,63,63,127,511]
theorem laws_FnExactIsOnBest.tab8:rtab .any (opsOf Try.f14 8)=laws_FnExactIsOnBest.T8:=by kernel_rfl
theorem laws_FnExactIsOnBest.bits8:waitsOk laws_FnExactIsOnBest.T8.2 laws_FnExactIsOnBest.B8=true:=by kernel_rfl
set_option maxHeartbeats 8000000 in
set_option maxRecDepth 100000 in
theorem laws_FnExactIsOnBest.calls (k:Nat) (A0_0:Option Addr) (c0_0:Nat) (l0_0:List Int) (a0_1:Int) (A1_0:Option Addr) (c1_0:Nat) (l1_0:List Bool) (a1_1:Bool) (r:Bool) (w:World) (hr0_0:Kd.C (Kd.int .i64) w A0_0 l0_0.length l0_0) (hc0_0:l0_0.length≤c0_0) (hr1_0:Kd.C Kd.bool w A1_0 l1_0.length l1_0) (hc1_0:l1_0.length≤c1_0) (h:laws_FnExactIsOnBest.f k l0_0 a0_1 l1_0 a1_1=some r) :
  Calls Try.prog 14 #[.agg #[.slice A0_0 l0_0.length c0_0, .int .i64 a0_1], .agg #[.slice A1_0 l1_0.length c1_0, .bool a1_1]] w fun e w'=>e = .returned (.bool r)∧Below w.heap.size w w':=by
 have hu24:=Try.underlying24
 have hu41:=Try.underlying41
 have hu28:=Try.underlying28
 have hu44:=Try.underlying44
 have HR0_0:=am' hr0_0
 have HC0_0:=am' hc0_0
 clear hr0_0 hc0_0;have HR1_0:=am' hr1_0
 have HC1_0:=am' hc1_0
 clear hr1_0 hc1_0;have HB:=am' (Below.refl w.heap.size w)
 have H:((laws_szParty.f l0_0 a0_1 1048576).bind fun t344=>(if t344 < 0 then (some true) else (laws_FnExactIsOnBest.j0 k t344 l0_0 a0_1 l1_0 a1_1)))=some r:=h
 clear h;replace H:=Option.bind_eq_some_iff.mp H
 obtain ⟨t344,A30,H⟩:=H
 replace H:(if t344 < 0 then (some true) else (laws_FnExactIsOnBest.j0 k t344 l0_0 a0_1 l1_0 a1_1))=some r:=H
 have A3:=am' A30
 clear A30;have HC4:=am' H
 clear H;go_enter Try.func14,Try.ntmps14
 go_upto_if 16 with (first|((with_reducible refine gate_dst (N:=2) rfl ?_);refine box_event ?hg (N:=2) ?hd (cs:=#[.slice A0_0 l0_0.length c0_0, .int .i64 a0_1]) (t:=24) ?hr ?_;(case hd=>rfl);(case hg=>rfl);(case hr=>first|(go_simp;done)|(go_simp;rfl));intro gb342 hg w5 hbox hb;have n0_:=am' (below_step (by repeat (first|(with_reducible first|exact HB.out|apply ba'|apply bd'|apply be')|exact HB.out)) hb);have n1_:=am' (hbox);have n2_:=am' ((by rw[hg];exact (below_size (by repeat (first|(with_reducible first|exact HB.out|apply ba'|apply bd'|apply be')|exact HB.out))):w.heap.size≤gb342));have n3_:=am' ((by rw[hg];exact (below_size (by repeat (first|(with_reducible first|exact HB.out|apply ba'|apply bd'|apply be')|exact HB.out))):w.heap.size≤gb342));clear HB;have HB:=n0_;have BK342:=n1_;have GW342:=n2_;have GE342:=n3_;clear n0_ n1_ n2_ n3_;clear hb hbox hg)|((with_reducible refine gate_dst (N:=3) rfl ?_);refine box_event ?hg (N:=3) ?hd (cs:=#[.slice A1_0 l1_0.length c1_0, .bool a1_1]) (t:=41) ?hr ?_;(case hd=>rfl);(case hg=>rfl);(case hr=>first|(go_simp;done)|(go_simp;rfl));intro gb343 hg w6 hbox hb;have n0_:=am' (blk_below (g:=gb342) (o := .cells #[.slice A0_0 l0_0.length c0_0, .int .i64 a0_1] 24 (0,0)) (by (with_reducible repeat (first|refine kn' ?_ _|refine kd' ?_|refine ka' ?_ _));exact BK342.out) hb);have n1_:=am' (below_step (by repeat (first|(with_reducible first|exact HB.out|apply ba'|apply bd'|apply be'|refine bs' ?_ GE342.out)|exact HB.out)) hb);have n2_:=am' (hbox);have n3_:=am' ((by rw[hg];exact (below_size (by repeat (first|(with_reducible first|exact HB.out|apply ba'|apply bd'|apply be'|refine bs' ?_ GE342.out)|exact HB.out))):w.heap.size≤gb343));have n4_:=am' ((by rw[hg];exact (below_size (by repeat (first|(with_reducible first|exact HB.out|apply ba'|apply bd'|apply be'|refine bs' ?_ GE342.out)|exact HB.out))):w.heap.size≤gb343));have n5_:=am' ((by rw[hg];exact Nat.ne_of_lt (blk_lt (g:=gb342) (o := .cells #[.slice A0_0 l0_0.length c0_0, .int .i64 a0_1] 24 (0,0)) (by (with_reducible repeat (first|refine kn' ?_ _|refine kd' ?_|refine ka' ?_ _));exact BK342.out)):gb342≠gb343));have n6_:=am' ((by rw[hg];exact Nat.ne_of_gt (blk_lt (g:=gb342) (o := .cells #[.slice A0_0 l0_0.length c0_0, .int .i64 a0_1] 24 (0,0)) (by (with_reducible repeat (first|refine kn' ?_ _|refine kd' ?_|refine ka' ?_ _));exact BK342.out)):gb343≠gb342));clear BK342;clear HB;have BK342:=n0_;have HB:=n1_;have BK343:=n2_;have GW343:=n3_;have GE343:=n4_;have NB342_343:=n5_;have NB343_342:=n6_;clear n0_ n1_ n2_ n3_ n4_ n5_ n6_;clear hb hbox hg;have hnb7:=NB342_343.out;have hnc7:=NB343_342.out;have hcz8_0:w6.cell? ⟨gb342,0,none⟩=some (.slice A0_0 l0_0.length c0_0):=(blk_cell BK342.out 0).trans rfl;have hcz8_1:w6.cell? ⟨gb342,1,none⟩=some (.int .i64 a0_1):=(blk_cell BK342.out 1).trans rfl;have hfz8_0:=blk_frozen BK342.out 0;have hfz8_1:=blk_frozen BK342.out 1)|((with_reducible refine gate_callee (f:=16) rfl ?_);refine goesL_ (some 14) rfl rfl Try.func16 (by kernel_rfl) rfl #[.agg #[.slice A0_0 l0_0.length c0_0, .int .i64 a0_1], .int .i64 1048576] rfl (by (try simp only[List.map_toArray,List.map_cons,List.map_nil]);first|done|rfl|(simp only[List.length_drop,List.length_take];rfl)) ?_;(with_reducible refine (laws_szParty.calls _ _ l0_0 a0_1 1048576 t344 _ ?side1 ?side2 A3.out).mono ?_);(case side1=>repeat (first|exact (Kd.C_below HR0_0.out HB.out)|(with_reducible refine ca' ?_ _)|(with_reducible refine cn' ?_ _)|(with_reducible refine cd' ?_)));(case side2=>exact HC0_0.out);rintro e w9 ⟨rfl,hb⟩;refine ⟨_,rfl,?_⟩;have n0_:=am' (blk_below (g:=gb342) (o := .cells #[.slice A0_0 l0_0.length c0_0, .int .i64 a0_1] 24 (0,0)) (by (with_reducible repeat (first|refine kn' ?_ _|refine kd' ?_|refine ka' ?_ _));exact BK342.out) hb);have n1_:=am' (blk_below (g:=gb343) (o := .cells #[.slice A1_0 l1_0.length c1_0, .bool a1_1] 41 (0,0)) (by (with_reducible repeat (first|refine kn' ?_ _|refine kd' ?_|refine ka' ?_ _));exact BK343.out) hb);have n2_:=am' (below_step (by repeat (first|(with_reducible first|exact HB.out|apply ba'|apply bd'|apply be'|refine bs' ?_ GE342.out|refine bs' ?_ GE343.out)|exact HB.out)) hb);clear BK342;clear BK343;clear HB;have BK342:=n0_;have BK343:=n1_;have HB:=n2_;clear n0_ n1_ n2_;(try clear hb);(try clear hb2);(try clear hk);(try clear hi)))
 (try simp only[Act.put,sa',sb',sc'])
 go_cut [] (fun wc=>∃ (kq:Nat),Aside0 (laws_FnExactIsOnBest.j0 kq t344 l0_0 a0_1 l1_0 a1_1=some r)∧Aside0 (kq≤k)∧Aside0 (wc.heap[gb342]? = some (.cells #[(.slice A0_0 l0_0.length c0_0), .int .i64 a0_1] 24 (0,0)))∧Aside0 (wc.heap[gb343]? = some (.cells #[(.slice A1_0 l1_0.length c1_0), .bool a1_1] 41 (0,0)))∧Aside0 (Below w.heap.size w wc))
 case first =>
  have H:=HC4.out;clear HC4;by_cases c10:t344 < 0
  ·
   rw[if_pos c10] at H;have c10b0:decide (t344 < 0)=true:=decide_eq_true c10;clear c10;(first|rw[c10b0]|(simp only[i64_w,i32_w];rw[c10b0])|skip)
   obtain rfl:=Option.some.inj H;go_wp2;go_ret
   exact ⟨by first|rfl|(simp[errW_none,errW_some] <;> rfl)|(simp[*,errW_none,errW_some] <;> rfl),by repeat (first|(with_reducible first|exact HB.out|apply ba'|apply bd'|apply be'|refine bs' ?_ GE342.out|refine bs' ?_ GE343.out)|exact HB.out)⟩
  ·
   rw[if_neg c10] at H;have c10b0:decide (t344 < 0)=false:=decide_eq_false c10;clear c10;(first|rw[c10b0]|(simp only[i64_w,i32_w];rw[c10b0])|skip)
   have H':=am' H;clear H;go_wp2;go_meet
   case rel=>exact ⟨_,H',⟨by first|omega|exact Nat.le_refl _⟩,⟨by (with_reducible repeat (first|refine kn' ?_ _|refine kd' ?_|refine ka' ?_ _));exact BK342.out⟩,⟨by (with_reducible repeat (first|refine kn' ?_ _|refine kd' ?_|refine ka' ?_ _));exact BK343.out⟩,⟨by repeat (first|(with_reducible first|exact HB.out|apply ba'|apply bd'|apply be'|refine bs' ?_ GE342.out|refine bs' ?_ GE343.out)|exact HB.out)⟩⟩
 case rest =>
  clear HC4;try clear c1
  try clear p2
  try clear c7
  try clear c10
  try clear c10b0
  try clear hcz8_0
  try clear hcz8_1
  try clear hfz8_0
  try clear hfz8_1
  obtain ⟨kq,HA,HJ3,BK342,BK343,HB⟩:=hcut;cases kq with
  | zero=>exact absurd HA.out (by simp[laws_FnExactIsOnBest.j0])
  | succ kj3 =>
   have H:=HA.out;clear HA;simp only[laws_FnExactIsOnBest.j0] at H;replace H:=Option.bind_eq_some_iff.mp H;obtain ⟨t345,A110,H⟩:=H;replace H:(if t345 < 0 then (some true) else (laws_FnExactIsOnBest.j1 kj3 l0_0 a0_1 l1_0 a1_1))=some r:=H;have A11:=am' A110;clear A110;have HC12:=am' H;clear H;have hnb13:=NB343_342.out;have hnc13:=NB342_343.out;have hcz14_0:wc.cell? ⟨gb343,0,none⟩=some (.slice A1_0 l1_0.length c1_0):=(blk_cell BK343.out 0).trans rfl;have hcz14_1:wc.cell? ⟨gb343,1,none⟩=some (.bool a1_1):=(blk_cell BK343.out 1).trans rfl;have hfz14_0:=blk_frozen BK343.out 0;have hfz14_1:=blk_frozen BK343.out 1;go_upto_if 21 with (first|((with_reducible refine gate_callee (f:=35) rfl ?_);refine goesL_ (some 19) rfl rfl Try.func35 (by kernel_rfl) rfl #[.agg #[.slice A1_0 l1_0.length c1_0, .bool a1_1], .int .i64 t344] rfl (by (try simp only[List.map_toArray,List.map_cons,List.map_nil]);first|done|rfl|(simp only[List.length_drop,List.length_take];rfl)) ?_;(with_reducible refine (laws_szState.calls _ _ l1_0 a1_1 t344 t345 _ ?side1 ?side2 A11.out).mono ?_);(case side1=>repeat (first|exact (Kd.C_below HR1_0.out HB.out)|(with_reducible refine ca' ?_ _)|(with_reducible refine cn' ?_ _)|(with_reducible refine cd' ?_)));(case side2=>exact HC1_0.out);rintro e w15 ⟨rfl,hb⟩;refine ⟨_,rfl,?_⟩;have n0_:=am' (blk_below (g:=gb342) (o := .cells #[.slice A0_0 l0_0.length c0_0, .int .i64 a0_1] 24 (0,0)) (by (with_reducible repeat (first|refine kn' ?_ _|refine kd' ?_|refine ka' ?_ _));exact BK342.out) hb);have n1_:=am' (blk_below (g:=gb343) (o := .cells #[.slice A1_0 l1_0.length c1_0, .bool a1_1] 41 (0,0)) (by (with_reducible repeat (first|refine kn' ?_ _|refine kd' ?_|refine ka' ?_ _));exact BK343.out) hb);have n2_:=am' (below_step (by repeat (first|(with_reducible first|exact HB.out|apply ba'|apply bd'|apply be'|refine bs' ?_ GE342.out|refine bs' ?_ GE343.out)|exact HB.out)) hb);clear BK342;clear BK343;clear HB;have BK342:=n0_;have BK343:=n1_;have HB:=n2_;clear n0_ n1_ n2_;(try clear hb);(try clear hb2);(try clear hk);(try clear hi)))
   (try simp only[Act.put,sa',sb',sc'])
   go_cut [] (fun wc=>∃ (kq:Nat),Aside0 (laws_FnExactIsOnBest.j1 kq l0_0 a0_1 l1_0 a1_1=some r)∧Aside0 (kq≤kj3)∧Aside0 (wc.heap[gb342]? = some (.cells #[(.slice A0_0 l0_0.length c0_0), .int .i64 a0_1] 24 (0,0)))∧Aside0 (wc.heap[gb343]? = some (.cells #[(.slice A1_0 l1_0.length c1_0), .bool a1_1] 41 (0,0)))∧Aside0 (Below w.heap.size w wc))
   case first =>
    have H:=HC12.out;clear HC12;by_cases c16:t345 < 0
    ·
     rw[if_pos c16] at H;have c16b0:decide (t345 < 0)=true:=decide_eq_true c16;clear c16;(first|rw[c16b0]|(simp only[i64_w,i32_w];rw[c16b0])|skip)
     obtain rfl:=Option.some.inj H;go_wp2;go_ret
     exact ⟨by first|rfl|(simp[errW_none,errW_some] <;> rfl)|(simp[*,errW_none,errW_some] <;> rfl),by repeat (first|(with_reducible first|exact HB.out|apply ba'|apply bd'|apply be'|refine bs' ?_ GE342.out|refine bs' ?_ GE343.out)|exact HB.out)⟩
    ·
     rw[if_neg c16] at H;have c16b0:decide (t345 < 0)=false:=decide_eq_false c16;clear c16;(first|rw[c16b0]|(simp only[i64_w,i32_w];rw[c16b0])|skip)
     have H':=am' H;clear H;go_wp2;go_meet
     case rel=>exact ⟨_,H',⟨by have:=HJ3.out;first|omega|exact Nat.le_refl _⟩,⟨by (with_reducible repeat (first|refine kn' ?_ _|refine kd' ?_|refine ka' ?_ _));exact BK342.out⟩,⟨by (with_reducible repeat (first|refine kn' ?_ _|refine kd' ?_|refine ka' ?_ _));exact BK343.out⟩,⟨by repeat (first|(with_reducible first|exact HB.out|apply ba'|apply bd'|apply be'|refine bs' ?_ GE342.out|refine bs' ?_ GE343.out)|exact HB.out)⟩⟩
   case rest =>
    clear HC12;try clear c1
    try clear p2
    try clear c3
    try clear c7
    try clear c10
    try clear c10b0
    try clear c13
    try clear c14
    try clear c16
    try clear c16b0
    try clear hcz14_0
    try clear hcz14_1
    try clear hcz8_0
    try clear hcz8_1
    try clear hfz14_0
    try clear hfz14_1
    try clear hfz8_0
    try clear hfz8_1
    try clear p2
    obtain ⟨kq,HA,HJ11,BK342,BK343,HB⟩:=hcut;cases kq with
    | zero=>exact absurd HA.out (by simp[laws_FnExactIsOnBest.j1])
    | succ kj11 =>
     have H:=HA.out;clear HA;simp only[laws_FnExactIsOnBest.j1] at H;replace H:=Option.bind_eq_some_iff.mp H;obtain ⟨⟨t346,t349⟩,A170,H⟩:=H;replace H:((laws_toState.f kj11 l1_0 a1_1).bind fun bt350=>((spec_IsOnBest.f kj11 t346 t349 bt350.1 bt350.2).bind fun bt354=>((laws_toParty.f kj11 l0_0 a0_1).bind fun bt356=>((laws_toState.f kj11 l1_0 a1_1).bind fun bt361=>((impl_IsOnBest.f kj11 bt356.1 bt356.2 bt361.1 bt361.2).bind fun bt366=>(if (bt366.1 != bt354.1)=true then (laws_FnExactIsOnBest.j2 kj11 true l0_0 a0_1 l1_0 a1_1 bt356.1 bt356.2 bt361.1 bt361.2) else (laws_FnExactIsOnBest.j2 kj11 (bt366.2 != bt354.2) l0_0 a0_1 l1_0 a1_1 bt356.1 bt356.2 bt361.1 bt361.2)))))))=some r:=H;have A17:=am' A170;clear A170;replace H:=Option.bind_eq_some_iff.mp H;obtain ⟨⟨t350,t353⟩,A180,H⟩:=H;replace H:((spec_IsOnBest.f kj11 t346 t349 t350 t353).bind fun bt354=>((laws_toParty.f kj11 l0_0 a0_1).bind fun bt356=>((laws_toState.f kj11 l1_0 a1_1).bind fun bt361=>((impl_IsOnBest.f kj11 bt356.1 bt356.2 bt361.1 bt361.2).bind fun bt366=>(if (bt366.1 != bt354.1)=true then (laws_FnExactIsOnBest.j2 kj11 true l0_0 a0_1 l1_0 a1_1 bt356.1 bt356.2 bt361.1 bt361.2) else (laws_FnExactIsOnBest.j2 kj11 (bt366.2 != bt354.2) l0_0 a0_1 l1_0 a1_1 bt356.1 bt356.2 bt361.1 bt361.2))))))=some r:=H;have A18:=am' A180;clear A180;replace H:=Option.bind_eq_some_iff.mp H;obtain ⟨⟨t354,t355⟩,A190,H⟩:=H;replace H:((laws_toParty.f kj11 l0_0 a0_1).bind fun bt356=>((laws_toState.f kj11 l1_0 a1_1).bind fun bt361=>((impl_IsOnBest.f kj11 bt356.1 bt356.2 bt361.1 bt361.2).bind fun bt366=>(if (bt366.1 != t354)=true then (laws_FnExactIsOnBest.j2 kj11 true l0_0 a0_1 l1_0 a1_1 bt356.1 bt356.2 bt361.1 bt361.2) else (laws_FnExactIsOnBest.j2 kj11 (bt366.2 != t355) l0_0 a0_1 l1_0 a1_1 bt356.1 bt356.2 bt361.1 bt361.2)))))=some r:=H;have A19:=am' A190;clear A190;replace H:=Option.bind_eq_some_iff.mp H;obtain ⟨⟨t356,t359⟩,A200,H⟩:=H;replace H:((laws_toState.f kj11 l1_0 a1_1).bind fun bt361=>((impl_IsOnBest.f kj11 t356 t359 bt361.1 bt361.2).bind fun bt366=>(if (bt366.1 != t354)=true then (laws_FnExactIsOnBest.j2 kj11 true l0_0 a0_1 l1_0 a1_1 t356 t359 bt361.1 bt361.2) else (laws_FnExactIsOnBest.j2 kj11 (bt366.2 != t355) l0_0 a0_1 l1_0 a1_1 t356 t359 bt361.1 bt361.2))))=some r:=H;have A20:=am' A200;clear A200;replace H:=Option.bind_eq_some_iff.mp H;obtain ⟨⟨t361,t364⟩,A210,H⟩:=H;replace H:((impl_IsOnBest.f kj11 t356 t359 t361 t364).bind fun bt366=>(if (bt366.1 != t354)=true then (laws_FnExactIsOnBest.j2 kj11 true l0_0 a0_1 l1_0 a1_1 t356 t359 t361 t364) else (laws_FnExactIsOnBest.j2 kj11 (bt366.2 != t355) l0_0 a0_1 l1_0 a1_1 t356 t359 t361 t364)))=some r:=H;have A21:=am' A210;clear A210;replace H:=Option.bind_eq_some_iff.mp H;obtain ⟨⟨t366,t367⟩,A220,H⟩:=H;replace H:(if (t366 != t354)=true then (laws_FnExactIsOnBest.j2 kj11 true l0_0 a0_1 l1_0 a1_1 t356 t359 t361 t364) else (laws_FnExactIsOnBest.j2 kj11 (t367 != t355) l0_0 a0_1 l1_0 a1_1 t356 t359 t361 t364))=some r:=H
     have A22:=am' A220;clear A220;have HC23:=am' H;clear H;try go_wp2
     have n0_:=am' (kd' BK342.out);have n1_:=am' (kd' BK343.out);have n2_:=am' (be' HB.out);clear BK342;clear BK343;clear HB;have BK342:=n0_;have BK343:=n1_;have HB:=n2_;clear n0_ n1_ n2_;refine start_ (n:=10) (S:=fun w'=>w'.cell? ⟨gb342,0,none⟩=some (.slice A0_0 l0_0.length c0_0)∧w'.cell? ⟨gb342,1,none⟩=some (.int .i64 a0_1)∧w'.cell? ⟨gb343,0,none⟩=some (.slice A1_0 l1_0.length c1_0)∧w'.cell? ⟨gb343,1,none⟩=some (.bool a1_1)) (ds:=[]) #[false,false,false,false,false,false,false,false,false,false] (by kernel_rfl) rfl rfl ⟨(blk_cell BK342.out 0).trans rfl,(blk_cell BK342.out 1).trans rfl,(blk_cell BK343.out 0).trans rfl,(blk_cell BK343.out 1).trans rfl⟩ (fun hHeld=>?_);refine with_tabW laws_FnExactIsOnBest.tab8 laws_FnExactIsOnBest.bits8 (fun HT_ HW_=>?_);generalize wc.drew=w24 at BK342 BK343 HB hHeld ⊢
     refine take_ (i:=0) (N:=some 23) (v:=?_) (a':=?_) #[true,false,false,false,false,false,false,false,false,false] rfl rfl (take_ofW HT_.out HW_.out (by kernel_rfl)) (fun _ _ _ h=>h) (Or.inl ⟨by rfl,?_⟩) hHeld ?_ ?_
     rotate_left
     ·
      rintro w' ⟨s0,s1,s2,s3⟩
      go_simp;with_reducible rfl
     rotate_left
     ·
      simp only[Act.put,sa',sb',sc',i64_w,i32_w];rfl
     refine take_ (i:=2) (N:=some 25) (v:=?_) (a':=?_) #[true,false,true,false,false,false,false,false,false,false] rfl rfl (take_ofW HT_.out HW_.out (by kernel_rfl)) (fun _ _ _ h=>h) (Or.inl ⟨by rfl,?_⟩) hHeld ?_ ?_
     rotate_left
     ·
      rintro w' ⟨s0,s1,s2,s3⟩
      go_simp;with_reducible rfl
     rotate_left
     ·
      simp only[Act.put,sa',sb',sc',i64_w,i32_w];rfl
     refine one_ (i:=1) (N:=some 24) #[true,true,true,false,false,false,false,false,false,false] rfl rfl (one_of HT_.out (by kernel_rfl)) (by decide) (fun K hK=>?_);refine goes_ Try.func18 (by kernel_rfl) rfl #[.agg #[.slice A0_0 l0_0.length c0_0, .int .i64 a0_1]] (by rfl) rfl rfl (by (try simp only[List.map_toArray,List.map_cons,List.map_nil]);first|done|rfl|(simp only[List.length_drop,List.length_take];rfl)) ?_
     with_reducible refine (laws_toParty.calls kj11 _ _ l0_0 a0_1 t346 t349 _ ?side1 ?side2 A17.out).mono ?_
     (case side1=>repeat (first|exact (Kd.C_below HR0_0.out HB.out)|(with_reducible refine ca' ?_ _)|(with_reducible refine cn' ?_ _)|(with_reducible refine cd' ?_)))
     (case side2=>exact HC0_0.out)
     rintro e w25 ⟨v347,rfl,ho0,hb⟩
     refine ⟨_,rfl,?_⟩;have n0_:=am' (Kd.R_lower ho0 (below_size (by repeat (first|(with_reducible first|exact HB.out|apply ba'|apply bd'|apply be'|refine bs' ?_ GE342.out|refine bs' ?_ GE343.out)|exact HB.out))));have n1_:=am' (blk_below (g:=gb342) (o := .cells #[.slice A0_0 l0_0.length c0_0, .int .i64 a0_1] 24 (0,0)) (by (with_reducible repeat (first|refine kn' ?_ _|refine kd' ?_|refine ka' ?_ _));exact BK342.out) hb);have n2_:=am' (blk_below (g:=gb343) (o := .cells #[.slice A1_0 l1_0.length c1_0, .bool a1_1] 41 (0,0)) (by (with_reducible repeat (first|refine kn' ?_ _|refine kd' ?_|refine ka' ?_ _));exact BK343.out) hb);have n3_:=am' (below_step (by repeat (first|(with_reducible first|exact HB.out|apply ba'|apply bd'|apply be'|refine bs' ?_ GE342.out|refine bs' ?_ GE343.out)|exact HB.out)) hb);clear BK342;clear BK343;clear HB;have HO348:=n0_;have BK342:=n1_;have BK343:=n2_;have HB:=n3_;clear n0_ n1_ n2_ n3_;(try clear hb)
     (try clear hb2)
     (try clear hk)
     (try clear hi)
     (try clear ho0)
     refine hK.out _ _ ⟨(blk_cell BK342.out 0).trans rfl,(blk_cell BK342.out 1).trans rfl,(blk_cell BK343.out 0).trans rfl,(blk_cell BK343.out 1).trans rfl⟩ (fun hHeld=>?_);clear hK K;refine norm_ (a':=?_) ?_ ?_
     rotate_left
     ·
      show Act.put _ (some 24) _=_
      simp only[Act.put,sa',sb',sc',i64_w,i32_w];rfl
     refine one_ (i:=3) (N:=some 26) #[true,true,true,true,false,false,false,false,false,false] rfl rfl (one_of HT_.out (by kernel_rfl)) (by decide) (fun K hK=>?_);refine goes_ Try.func37 (by kernel_rfl) rfl #[.agg #[.slice A1_0 l1_0.length c1_0, .bool a1_1]] (by rfl) rfl rfl (by (try simp only[List.map_toArray,List.map_cons,List.map_nil]);first|done|rfl|(simp only[List.length_drop,List.length_take];rfl)) ?_
     with_reducible refine (laws_toState.calls kj11 _ _ l1_0 a1_1 t350 t353 _ ?side1 ?side2 A18.out).mono ?_
     (case side1=>repeat (first|exact (Kd.C_below HR1_0.out HB.out)|(with_reducible refine ca' ?_ _)|(with_reducible refine cn' ?_ _)|(with_reducible refine cd' ?_)))
     (case side2=>exact HC1_0.out)
     rintro e w26 ⟨v351,rfl,ho0,hb⟩
     refine ⟨_,rfl,?_⟩;have n0_:=am' (Kd.R_below (by (with_reducible repeat (first|apply ra'|apply rn'|apply rw'));exact HO348.out) hb);have n1_:=am' (Kd.R_lower ho0 (below_size (by repeat (first|(with_reducible first|exact HB.out|apply ba'|apply bd'|apply be'|refine bs' ?_ GE342.out|refine bs' ?_ GE343.out)|exact HB.out))));have n2_:=am' (blk_below (g:=gb342) (o := .cells #[.slice A0_0 l0_0.length c0_0, .int .i64 a0_1] 24 (0,0)) (by (with_reducible repeat (first|refine kn' ?_ _|refine kd' ?_|refine ka' ?_ _));exact BK342.out) hb);have n3_:=am' (blk_below (g:=gb343) (o := .cells #[.slice A1_0 l1_0.length c1_0, .bool a1_1] 41 (0,0)) (by (with_reducible repeat (first|refine kn' ?_ _|refine kd' ?_|refine ka' ?_ _));exact BK343.out) hb);have n4_:=am' (below_step (by repeat (first|(with_reducible first|exact HB.out|apply ba'|apply bd'|apply be'|refine bs' ?_ GE342.out|refine bs' ?_ GE343.out)|exact HB.out)) hb);clear HO348;clear BK342;clear BK343;clear HB;have HO348:=n0_;have HO352:=n1_;have BK342:=n2_;have BK343:=n3_;have HB:=n4_;clear n0_ n1_ n2_ n3_ n4_;(try clear hb)
     (try clear hb2)
     (try clear hk)
     (try clear hi)
     (try clear ho0)
     obtain ⟨Ao27,co27,eo27⟩:=Kd.R_slice HO348.out
     (first|subst eo27|(injection eo27 with f1_ f2_ f3_;have f4_:=f1_.symm;have f5_:=f3_.symm;clear f1_ f2_ f3_;subst f4_;subst f5_))
     obtain ⟨Ao28,co28,eo28⟩:=Kd.R_slice HO352.out
     (first|subst eo28|(injection eo28 with f1_ f2_ f3_;have f4_:=f1_.symm;have f5_:=f3_.symm;clear f1_ f2_ f3_;subst f4_;subst f5_))
     refine hK.out _ _ ⟨(blk_cell BK342.out 0).trans rfl,(blk_cell BK342.out 1).trans rfl,(blk_cell BK343.out 0).trans rfl,(blk_cell BK343.out 1).trans rfl⟩ (fun hHeld=>?_);clear hK K;refine norm_ (a':=?_) ?_ ?_
     rotate_left
     ·
      show Act.put _ (some 26) _=_
      simp only[Act.put,sa',sb',sc',i64_w,i32_w];rfl
     refine one_ (i:=4) (N:=some 27) #[true,true,true,true,true,false,false,false,false,false] rfl rfl (one_of HT_.out (by kernel_rfl)) (by decide) (fun K hK=>?_);refine goes_ Try.func51 (by kernel_rfl) rfl #[.agg #[.slice Ao27 t346.length co27, .int .i64 t349], .agg #[.slice Ao28 t350.length co28, .bool t353]] (by rfl) rfl rfl (by (try simp only[List.map_toArray,List.map_cons,List.map_nil]);first|done|rfl|(simp only[List.length_drop,List.length_take];rfl)) ?_
     with_reducible refine (spec_IsOnBest.calls kj11 _ _ t346 t349 _ _ t350 t353 t354 t355 _ ?side1 ?side2 ?side3 ?side4 A19.out).mono ?_
     (case side1=>repeat (first|exact (Kd.R_reads' HO348.out).2.2|(with_reducible refine ca' ?_ _)|(with_reducible refine cn' ?_ _)|(with_reducible refine cd' ?_)))
     (case side2=>exact (Kd.R_reads' HO348.out).2.1)
     (case side3=>repeat (first|exact (Kd.R_reads' HO352.out).2.2|(with_reducible refine ca' ?_ _)|(with_reducible refine cn' ?_ _)|(with_reducible refine cd' ?_)))
     (case side4=>exact (Kd.R_reads' HO352.out).2.1)
     rintro e w29 ⟨rfl,hb⟩
     refine ⟨_,rfl,?_⟩;have n0_:=am' (Kd.R_below (by (with_reducible repeat (first|apply ra'|apply rn'|apply rw'));exact HO348.out) hb);have n1_:=am' (Kd.R_below (by (with_reducible repeat (first|apply ra'|apply rn'|apply rw'));exact HO352.out) hb);have n2_:=am' (blk_below (g:=gb342) (o := .cells #[.slice A0_0 l0_0.length c0_0, .int .i64 a0_1] 24 (0,0)) (by (with_reducible repeat (first|refine kn' ?_ _|refine kd' ?_|refine ka' ?_ _));exact BK342.out) hb);have n3_:=am' (blk_below (g:=gb343) (o := .cells #[.slice A1_0 l1_0.length c1_0, .bool a1_1] 41 (0,0)) (by (with_reducible repeat (first|refine kn' ?_ _|refine kd' ?_|refine ka' ?_ _));exact BK343.out) hb);have n4_:=am' (below_step (by repeat (first|(with_reducible first|exact HB.out|apply ba'|apply bd'|apply be'|refine bs' ?_ GE342.out|refine bs' ?_ GE343.out)|exact HB.out)) hb);clear HO348;clear HO352;clear BK342;clear BK343;clear HB;have HO348:=n0_;have HO352:=n1_;have BK342:=n2_;have BK343:=n3_;have HB:=n4_;clear n0_ n1_ n2_ n3_ n4_;(try clear hb)
     (try clear hb2)
     (try clear hk)
     (try clear hi)
     refine hK.out _ _ ⟨(blk_cell BK342.out 0).trans rfl,(blk_cell BK342.out 1).trans rfl,(blk_cell BK343.out 0).trans rfl,(blk_cell BK343.out 1).trans rfl⟩ (fun hHeld=>?_);clear hK K;refine norm_ (a':=?_) ?_ ?_
     rotate_left
     ·
      show Act.put _ (some 27) _=_
      simp only[Act.put,sa',sb',sc',i64_w,i32_w];rfl
     refine pure_ (i:=5) (N:=some 22) (v:=?_) (a':=?_) #[true,true,true,true,true,true,false,false,false,false] rfl rfl (any_of HT_.out (by kernel_rfl)) (fun _ _ _ h=>h) (Or.inl ⟨by rfl,?_⟩) ?_ ?_
     rotate_left
     ·
      intro w';go_simp;with_reducible rfl
     rotate_left
     ·
      simp only[Act.put,sa',sb',sc',i64_w,i32_w];rfl
     refine pure_ (i:=6) (N:=some 28) (v:=?_) (a':=?_) #[true,true,true,true,true,true,true,false,false,false] rfl rfl (any_of HT_.out (by kernel_rfl)) (fun _ _ _ h=>h) (Or.inl ⟨by rfl,?_⟩) ?_ ?_
     rotate_left
     ·
      intro w';go_simp;with_reducible rfl
     rotate_left
     ·
      simp only[Act.put,sa',sb',sc',i64_w,i32_w];rfl
     refine pure_ (i:=7) (N:=some 29) (v:=?_) (a':=?_) #[true,true,true,true,true,true,true,true,false,false] rfl rfl (any_of HT_.out (by kernel_rfl)) (fun _ _ _ h=>h) (Or.inl ⟨by rfl,?_⟩) ?_ ?_
     rotate_left
     ·
      intro w';go_simp;with_reducible rfl
     rotate_left
     ·
      simp only[Act.put,sa',sb',sc',i64_w,i32_w];rfl
     refine pure_ (i:=8) (N:=some 6) (v:=?_) (a':=?_) #[true,true,true,true,true,true,true,true,true,false] rfl rfl (any_of HT_.out (by kernel_rfl)) (fun _ _ _ h=>h) (Or.inl ⟨by rfl,?_⟩) ?_ ?_
     rotate_left
     ·
      intro w';go_simp;with_reducible rfl
     rotate_left
     ·
      simp only[Act.put,sa',sb',sc',i64_w,i32_w];rfl
     refine pure_ (i:=9) (N:=some 7) (v:=?_) (a':=?_) #[true,true,true,true,true,true,true,true,true,true] rfl rfl (any_of HT_.out (by kernel_rfl)) (fun _ _ _ h=>h) (Or.inl ⟨by rfl,?_⟩) ?_ ?_
     rotate_left
     ·
      intro w';go_simp;with_reducible rfl
     rotate_left
     ·
      simp only[Act.put,sa',sb',sc',i64_w,i32_w];rfl
     refine done_ (done_of HT_.out (by kernel_rfl)) ?_
     have hnb30:=NB342_343.out;have hnc30:=NB343_342.out;have hcz31_0:w29.cell? ⟨gb342,0,none⟩=some (.slice A0_0 l0_0.length c0_0):=(blk_cell BK342.out 0).trans rfl;have hcz31_1:w29.cell? ⟨gb342,1,none⟩=some (.int .i64 a0_1):=(blk_cell BK342.out 1).trans rfl;have hfz31_0:=blk_frozen BK342.out 0;have hfz31_1:=blk_frozen BK342.out 1;go_upto_region 12 with (first|((with_reducible refine gate_callee (f:=18) rfl ?_);refine goesL_ (some 31) rfl rfl Try.func18 (by kernel_rfl) rfl #[.agg #[.slice A0_0 l0_0.length c0_0, .int .i64 a0_1]] rfl (by (try simp only[List.map_toArray,List.map_cons,List.map_nil]);first|done|rfl|(simp only[List.length_drop,List.length_take];rfl)) ?_;(with_reducible refine (laws_toParty.calls kj11 _ _ l0_0 a0_1 t356 t359 _ ?side1 ?side2 A20.out).mono ?_);(case side1=>repeat (first|exact (Kd.C_below HR0_0.out HB.out)|(with_reducible refine ca' ?_ _)|(with_reducible refine cn' ?_ _)|(with_reducible refine cd' ?_)));(case side2=>exact HC0_0.out);rintro e w32 ⟨v357,rfl,ho0,hb⟩;refine ⟨_,rfl,?_⟩;obtain ⟨D378_,hdl_,hdg_⟩:=dlt_of hb;have D378_lt:=am' hdl_;have D378_ge:=am' hdg_;clear hdl_ hdg_;have n0_:=am' (Kd.R_elder' (Kd.R_dlt (by (with_reducible repeat (first|apply ra'|apply rn'|apply rw'));exact HO348.out) D378_lt.out) (Kd.R_base ho0) hb);have n1_:=am' (Kd.R_below (Kd.R_dlt (by (with_reducible repeat (first|apply ra'|apply rn'|apply rw'));exact HO352.out) D378_lt.out) hb);have n2_:=am' (Kd.R_lower (Kd.R_new' (Kd.R_dge ho0 D378_ge.out) (Kd.R_lt (by (with_reducible repeat (first|apply ra'|apply rn'|apply rw'));exact HO348.out))) (below_size (by repeat (first|(with_reducible first|exact HB.out|apply ba'|apply bd'|apply be'|refine bs' ?_ GE342.out|refine bs' ?_ GE343.out)|exact HB.out))));have n3_:=am' (blk_below (g:=gb342) (o := .cells #[.slice A0_0 l0_0.length c0_0, .int .i64 a0_1] 24 (0,0)) (by (with_reducible repeat (first|refine kn' ?_ _|refine kd' ?_|refine ka' ?_ _));exact BK342.out) hb);have n4_:=am' (blk_below (g:=gb343) (o := .cells #[.slice A1_0 l1_0.length c1_0, .bool a1_1] 41 (0,0)) (by (with_reducible repeat (first|refine kn' ?_ _|refine kd' ?_|refine ka' ?_ _));exact BK343.out) hb);have n5_:=am' (below_step (by repeat (first|(with_reducible first|exact HB.out|apply ba'|apply bd'|apply be'|refine bs' ?_ GE342.out|refine bs' ?_ GE343.out)|exact HB.out)) hb);clear HO348;clear HO352;clear BK342;clear BK343;clear HB;have HO348:=n0_;have HO352:=n1_;have HO358:=n2_;have BK342:=n3_;have BK343:=n4_;have HB:=n5_;clear n0_ n1_ n2_ n3_ n4_ n5_;(try clear hb);(try clear hb2);(try clear hk);(try clear hi);(try clear ho0))|((with_reducible refine gate_dst (N:=8) rfl ?_);refine box_event ?hg (N:=8) ?hd (cs:=#[.slice none 0 0, .int .i64 0]) (t:=28) ?hr ?_;(case hd=>rfl);(case hg=>rfl);(case hr=>first|(go_simp;done)|(go_simp;rfl));intro gb360 hg w33 hbox hb;have n0_:=am' (Kd.R_below (by (with_reducible repeat (first|apply ra'|apply rn'|apply rw'));exact HO348.out) hb);have n1_:=am' (Kd.R_below (by (with_reducible repeat (first|apply ra'|apply rn'|apply rw'));exact HO352.out) hb);have n2_:=am' (Kd.R_below (by (with_reducible repeat (first|apply ra'|apply rn'|apply rw'));exact HO358.out) hb);have n3_:=am' (blk_below (g:=gb342) (o := .cells #[.slice A0_0 l0_0.length c0_0, .int .i64 a0_1] 24 (0,0)) (by (with_reducible repeat (first|refine kn' ?_ _|refine kd' ?_|refine ka' ?_ _));exact BK342.out) hb);have n4_:=am' (blk_below (g:=gb343) (o := .cells #[.slice A1_0 l1_0.length c1_0, .bool a1_1] 41 (0,0)) (by (with_reducible repeat (first|refine kn' ?_ _|refine kd' ?_|refine ka' ?_ _));exact BK343.out) hb);have n5_:=am' (below_step (by repeat (first|(with_reducible first|exact HB.out|apply ba'|apply bd'|apply be'|refine bs' ?_ GE342.out|refine bs' ?_ GE343.out)|exact HB.out)) hb);have n6_:=am' (hbox);have n7_:=am' ((by rw[hg];exact (below_size (by repeat (first|(with_reducible first|exact HB.out|apply ba'|apply bd'|apply be'|refine bs' ?_ GE342.out|refine bs' ?_ GE343.out)|exact HB.out))):w.heap.size≤gb360));have n8_:=am' ((by rw[hg];exact (below_size (by repeat (first|(with_reducible first|exact HB.out|apply ba'|apply bd'|apply be'|refine bs' ?_ GE342.out|refine bs' ?_ GE343.out)|exact HB.out))):w.heap.size≤gb360));have n9_:=am' ((by rw[hg];exact Nat.ne_of_lt (blk_lt (g:=gb342) (o := .cells #[.slice A0_0 l0_0.length c0_0, .int .i64 a0_1] 24 (0,0)) (by (with_reducible repeat (first|refine kn' ?_ _|refine kd' ?_|refine ka' ?_ _));exact BK342.out)):gb342≠gb360));have n10_:=am' ((by rw[hg];exact Nat.ne_of_gt (blk_lt (g:=gb342) (o := .cells #[.slice A0_0 l0_0.length c0_0, .int .i64 a0_1] 24 (0,0)) (by (with_reducible repeat (first|refine kn' ?_ _|refine kd' ?_|refine ka' ?_ _));exact BK342.out)):gb360≠gb342));have n11_:=am' ((by rw[hg];exact Nat.ne_of_lt (blk_lt (g:=gb343) (o := .cells #[.slice A1_0 l1_0.length c1_0, .bool a1_1] 41 (0,0)) (by (with_reducible repeat (first|refine kn' ?_ _|refine kd' ?_|refine ka' ?_ _));exact BK343.out)):gb343≠gb360));have n12_:=am' ((by rw[hg];exact Nat.ne_of_gt (blk_lt (g:=gb343) (o := .cells #[.slice A1_0 l1_0.length c1_0, .bool a1_1] 41 (0,0)) (by (with_reducible repeat (first|refine kn' ?_ _|refine kd' ?_|refine ka' ?_ _));exact BK343.out)):gb360≠gb343));clear HO348;clear HO352;clear HO358;clear BK342;clear BK343;clear HB;have HO348:=n0_;have HO352:=n1_;have HO358:=n2_;have BK342:=n3_;have BK343:=n4_;have HB:=n5_;have BK360:=n6_;have GW360:=n7_;have GE360:=n8_;have NB342_360:=n9_;have NB360_342:=n10_;have NB343_360:=n11_;have NB360_343:=n12_;clear n0_ n1_ n2_ n3_ n4_ n5_ n6_ n7_ n8_ n9_ n10_ n11_ n12_;clear hb hbox hg;obtain ⟨Ao34,co34,eo34⟩:=Kd.R_slice HO358.out;subst eo34;have hnb35:=NB360_342.out;have hnc35:=NB342_360.out;have hnb36:=NB360_343.out;have hnc36:=NB343_360.out;have hcz37_0:w33.cell? ⟨gb360,0,none⟩=some (.slice none 0 0):=(blk_cell BK360.out 0).trans rfl;have hcz37_1:w33.cell? ⟨gb360,1,none⟩=some (.int .i64 0):=(blk_cell BK360.out 1).trans rfl;have hfz37_0:=blk_frozen BK360.out 0;have hfz37_1:=blk_frozen BK360.out 1;have hcz38_0:w33.cell? ⟨gb343,0,none⟩=some (.slice A1_0 l1_0.length c1_0):=(blk_cell BK343.out 0).trans rfl;have hcz38_1:w33.cell? ⟨gb343,1,none⟩=some (.bool a1_1):=(blk_cell BK343.out 1).trans rfl;have hfz38_0:=blk_frozen BK343.out 0;have hfz38_1:=blk_frozen BK343.out 1)|((with_reducible refine gate_callee (f:=37) rfl ?_);refine goesL_ (some 33) rfl rfl Try.func37 (by kernel_rfl) rfl #[.agg #[.slice A1_0 l1_0.length c1_0, .bool a1_1]] rfl (by (try simp only[List.map_toArray,List.map_cons,List.map_nil]);first|done|rfl|(simp only[List.length_drop,List.length_take];rfl)) ?_;(with_reducible refine (laws_toState.calls kj11 _ _ l1_0 a1_1 t361 t364 _ ?side1 ?side2 A21.out).mono ?_);(case side1=>exact Kd.C_below HR1_0.out (by repeat (first|(with_reducible first|exact HB.out|apply ba'|apply bd'|apply be'|refine bs' ?_ GE342.out|refine bs' ?_ GE343.out|refine bs' ?_ GE360.out)|exact HB.out)));(case side2=>exact HC1_0.out);rintro e w39 ⟨v362,rfl,ho0,hb⟩;refine ⟨_,rfl,?_⟩;obtain ⟨D379_,hdl_,hdg_⟩:=dlt_of hb;have D379_lt:=am' hdl_;have D379_ge:=am' hdg_;clear hdl_ hdg_;have n0_:=am' (Kd.R_below (Kd.R_dlt (by (with_reducible repeat (first|apply ra'|apply rn'|apply rw'));exact (Kd.R_mono (Kd.R_far (p:=⟨gb360,1,none⟩) (Kd.R_far (p:=⟨gb360,0,none⟩) (Kd.R_types HO348.out BK360.out (by decide)) (fun _ hk=>hk.2) (.slice Ao34 t356.length co34)) (fun _ hk=>hk.2) (.int .i64 t359)) (fun _ h_=>h_.1))) D379_lt.out) hb);have n1_:=am' (Kd.R_elder' (Kd.R_dlt (by (with_reducible repeat (first|apply ra'|apply rn'|apply rw'));exact (Kd.R_mono (Kd.R_far (p:=⟨gb360,1,none⟩) (Kd.R_far (p:=⟨gb360,0,none⟩) (Kd.R_types HO352.out BK360.out (by decide)) (fun _ hk=>hk.2) (.slice Ao34 t356.length co34)) (fun _ hk=>hk.2) (.int .i64 t359)) (fun _ h_=>h_.1))) D379_lt.out) (Kd.R_base ho0) hb);have n2_:=am' (Kd.R_below (Kd.R_dlt (by (with_reducible repeat (first|apply ra'|apply rn'|apply rw'));exact (Kd.R_mono (Kd.R_far (p:=⟨gb360,1,none⟩) (Kd.R_far (p:=⟨gb360,0,none⟩) (Kd.R_types HO358.out BK360.out (by decide)) (fun _ hk=>hk.2) (.slice Ao34 t356.length co34)) (fun _ hk=>hk.2) (.int .i64 t359)) (fun _ h_=>h_.1))) D379_lt.out) hb);have n3_:=am' (Kd.R_lower (Kd.R_new' (Kd.R_dge ho0 D379_ge.out) (Kd.R_lt (by (with_reducible repeat (first|apply ra'|apply rn'|apply rw'));exact (Kd.R_mono (Kd.R_far (p:=⟨gb360,1,none⟩) (Kd.R_far (p:=⟨gb360,0,none⟩) (Kd.R_types HO352.out BK360.out (by decide)) (fun _ hk=>hk.2) (.slice Ao34 t356.length co34)) (fun _ hk=>hk.2) (.int .i64 t359)) (fun _ h_=>h_.1))))) (below_size (by repeat (first|(with_reducible first|exact HB.out|apply ba'|apply bd'|apply be'|refine bs' ?_ GE342.out|refine bs' ?_ GE343.out|refine bs' ?_ GE360.out)|exact HB.out))));have n4_:=am' (blk_below (g:=gb342) (o := .cells #[.slice A0_0 l0_0.length c0_0, .int .i64 a0_1] 24 (0,0)) (by (with_reducible repeat (first|refine kn' ?_ _|refine kd' ?_|refine ka' ?_ _));refine blk_far ?_ NB342_360.out _;(with_reducible repeat (first|refine kn' ?_ _|refine kd' ?_|refine ka' ?_ _));refine blk_far ?_ NB342_360.out _;(with_reducible repeat (first|refine kn' ?_ _|refine kd' ?_|refine ka' ?_ _));exact BK342.out) hb);have n5_:=am' (blk_below (g:=gb343) (o := .cells #[.slice A1_0 l1_0.length c1_0, .bool a1_1] 41 (0,0)) (by (with_reducible repeat (first|refine kn' ?_ _|refine kd' ?_|refine ka' ?_ _));refine blk_far ?_ NB343_360.out _;(with_reducible repeat (first|refine kn' ?_ _|refine kd' ?_|refine ka' ?_ _));refine blk_far ?_ NB343_360.out _;(with_reducible repeat (first|refine kn' ?_ _|refine kd' ?_|refine ka' ?_ _));exact BK343.out) hb);have n6_:=am' (blk_below (g:=gb360) (o := .cells #[.slice Ao34 t356.length co34, .int .i64 t359] 28 (0,0)) (by (with_reducible repeat (first|refine kn' ?_ _|refine kd' ?_|refine ka' ?_ _));refine blk_put (cs:=#[.slice Ao34 t356.length co34, .int .i64 0]) ?_ 1 _ rfl;(with_reducible repeat (first|refine kn' ?_ _|refine kd' ?_|refine ka' ?_ _));refine blk_put (cs:=#[.slice none 0 0, .int .i64 0]) ?_ 0 _ rfl;(with_reducible repeat (first|refine kn' ?_ _|refine kd' ?_|refine ka' ?_ _));exact BK360.out) hb);have n7_:=am' (below_step (by repeat (first|(with_reducible first|exact HB.out|apply ba'|apply bd'|apply be'|refine bs' ?_ GE342.out|refine bs' ?_ GE343.out|refine bs' ?_ GE360.out)|exact HB.out)) hb);clear HO348;clear HO352;clear HO358;clear BK342;clear BK343;clear BK360;clear HB;have HO348:=n0_;have HO352:=n1_;have HO358:=n2_;have HO363:=n3_;have BK342:=n4_;have BK343:=n5_;have BK360:=n6_;have HB:=n7_;clear n0_ n1_ n2_ n3_ n4_ n5_ n6_ n7_;(try clear hb);(try clear hb2);(try clear hk);(try clear hi);(try clear ho0))|((with_reducible refine gate_dst (N:=9) rfl ?_);refine box_event ?hg (N:=9) ?hd (cs:=#[.slice none 0 0, .bool false]) (t:=44) ?hr ?_;(case hd=>rfl);(case hg=>rfl);(case hr=>first|(go_simp;done)|(go_simp;rfl));intro gb365 hg w40 hbox hb;have n0_:=am' (Kd.R_below (by (with_reducible repeat (first|apply ra'|apply rn'|apply rw'));exact HO348.out) hb);have n1_:=am' (Kd.R_below (by (with_reducible repeat (first|apply ra'|apply rn'|apply rw'));exact HO352.out) hb);have n2_:=am' (Kd.R_below (by (with_reducible repeat (first|apply ra'|apply rn'|apply rw'));exact HO358.out) hb);have n3_:=am' (Kd.R_below (by (with_reducible repeat (first|apply ra'|apply rn'|apply rw'));exact HO363.out) hb);have n4_:=am' (blk_below (g:=gb342) (o := .cells #[.slice A0_0 l0_0.length c0_0, .int .i64 a0_1] 24 (0,0)) (by (with_reducible repeat (first|refine kn' ?_ _|refine kd' ?_|refine ka' ?_ _));exact BK342.out) hb);have n5_:=am' (blk_below (g:=gb343) (o := .cells #[.slice A1_0 l1_0.length c1_0, .bool a1_1] 41 (0,0)) (by (with_reducible repeat (first|refine kn' ?_ _|refine kd' ?_|refine ka' ?_ _));exact BK343.out) hb);have n6_:=am' (blk_below (g:=gb360) (o := .cells #[.slice Ao34 t356.length co34, .int .i64 t359] 28 (0,0)) (by (with_reducible repeat (first|refine kn' ?_ _|refine kd' ?_|refine ka' ?_ _));exact BK360.out) hb);have n7_:=am' (below_step (by repeat (first|(with_reducible first|exact HB.out|apply ba'|apply bd'|apply be'|refine bs' ?_ GE342.out|refine bs' ?_ GE343.out|refine bs' ?_ GE360.out)|exact HB.out)) hb);have n8_:=am' (hbox);have n9_:=am' ((by rw[hg];exact (below_size (by repeat (first|(with_reducible first|exact HB.out|apply ba'|apply bd'|apply be'|refine bs' ?_ GE342.out|refine bs' ?_ GE343.out|refine bs' ?_ GE360.out)|exact HB.out))):w.heap.size≤gb365));have n10_:=am' ((by rw[hg];exact (below_size (by repeat (first|(with_reducible first|exact HB.out|apply ba'|apply bd'|apply be'|refine bs' ?_ GE342.out|refine bs' ?_ GE343.out|refine bs' ?_ GE360.out)|exact HB.out))):w.heap.size≤gb365));have n11_:=am' ((by rw[hg];exact Nat.ne_of_lt (blk_lt (g:=gb342) (o := .cells #[.slice A0_0 l0_0.length c0_0, .int .i64 a0_1] 24 (0,0)) (by (with_reducible repeat (first|refine kn' ?_ _|refine kd' ?_|refine ka' ?_ _));exact BK342.out)):gb342≠gb365));have n12_:=am' ((by rw[hg];exact Nat.ne_of_gt (blk_lt (g:=gb342) (o := .cells #[.slice A0_0 l0_0.length c0_0, .int .i64 a0_1] 24 (0,0)) (by (with_reducible repeat (first|refine kn' ?_ _|refine kd' ?_|refine ka' ?_ _));exact BK342.out)):gb365≠gb342));have n13_:=am' ((by rw[hg];exact Nat.ne_of_lt (blk_lt (g:=gb343) (o := .cells #[.slice A1_0 l1_0.length c1_0, .bool a1_1] 41 (0,0)) (by (with_reducible repeat (first|refine kn' ?_ _|refine kd' ?_|refine ka' ?_ _));exact BK343.out)):gb343≠gb365));have n14_:=am' ((by rw[hg];exact Nat.ne_of_gt (blk_lt (g:=gb343) (o := .cells #[.slice A1_0 l1_0.length c1_0, .bool a1_1] 41 (0,0)) (by (with_reducible repeat (first|refine kn' ?_ _|refine kd' ?_|refine ka' ?_ _));exact BK343.out)):gb365≠gb343));have n15_:=am' ((by rw[hg];exact Nat.ne_of_lt (blk_lt (g:=gb360) (o := .cells #[.slice Ao34 t356.length co34, .int .i64 t359] 28 (0,0)) (by (with_reducible repeat (first|refine kn' ?_ _|refine kd' ?_|refine ka' ?_ _));exact BK360.out)):gb360≠gb365));have n16_:=am' ((by rw[hg];exact Nat.ne_of_gt (blk_lt (g:=gb360) (o := .cells #[.slice Ao34 t356.length co34, .int .i64 t359] 28 (0,0)) (by (with_reducible repeat (first|refine kn' ?_ _|refine kd' ?_|refine ka' ?_ _));exact BK360.out)):gb365≠gb360));clear HO348;clear HO352;clear HO358;clear HO363;clear BK342;clear BK343;clear BK360;clear HB;have HO348:=n0_;have HO352:=n1_;have HO358:=n2_;have HO363:=n3_;have BK342:=n4_;have BK343:=n5_;have BK360:=n6_;have HB:=n7_;have BK365:=n8_;have GW365:=n9_;have GE365:=n10_;have NB342_365:=n11_;have NB365_342:=n12_;have NB343_365:=n13_;have NB365_343:=n14_;have NB360_365:=n15_;have NB365_360:=n16_;clear n0_ n1_ n2_ n3_ n4_ n5_ n6_ n7_ n8_ n9_ n10_ n11_ n12_ n13_ n14_ n15_ n16_;clear hb hbox hg;obtain ⟨Ao41,co41,eo41⟩:=Kd.R_slice HO363.out;subst eo41;have hnb42:=NB365_342.out;have hnc42:=NB342_365.out;have hnb43:=NB365_343.out;have hnc43:=NB343_365.out;have hnb44:=NB365_360.out;have hnc44:=NB360_365.out;have hcz45_0:w40.cell? ⟨gb365,0,none⟩=some (.slice none 0 0):=(blk_cell BK365.out 0).trans rfl;have hcz45_1:w40.cell? ⟨gb365,1,none⟩=some (.bool false):=(blk_cell BK365.out 1).trans rfl;have hfz45_0:=blk_frozen BK365.out 0;have hfz45_1:=blk_frozen BK365.out 1;have hcz46_0:w40.cell? ⟨gb360,0,none⟩=some (.slice Ao34 t356.length co34):=(blk_cell BK360.out 0).trans rfl;have hcz46_1:w40.cell? ⟨gb360,1,none⟩=some (.int .i64 t359):=(blk_cell BK360.out 1).trans rfl;have hfz46_0:=blk_frozen BK360.out 0;have hfz46_1:=blk_frozen BK360.out 1)|((with_reducible refine gate_callee (f:=52) rfl ?_);refine goesL_ (some 37) rfl rfl Try.func52 (by kernel_rfl) rfl #[.agg #[.slice Ao34 t356.length co34, .int .i64 t359], .agg #[.slice Ao41 t361.length co41, .bool t364]] rfl (by (try simp only[List.map_toArray,List.map_cons,List.map_nil]);first|done|rfl|(simp only[List.length_drop,List.length_take];rfl)) ?_;(with_reducible refine (impl_IsOnBest.calls kj11 _ _ t356 t359 _ _ t361 t364 t366 t367 _ ?side1 ?side2 ?side3 ?side4 A22.out).mono ?_);(case side1=>refine (Kd.R_reads' (e:=3) (base:=w.heap.size) (ok:=fun k_=>(((True∧¬ D378_ k_)∧some k_≠(.slice Ao27 t346.length co27:Value).ownBlock)∧D379_ k_)) (n:=t356.length) (c:=co34) ?_).2.2;exact (by (with_reducible repeat (first|apply ra'|apply rn'|apply rw'));exact (Kd.R_mono (Kd.R_far (p:=⟨gb365,1,none⟩) (Kd.R_far (p:=⟨gb365,0,none⟩) (Kd.R_types HO358.out BK365.out (by decide)) (fun _ hk=>hk.2) (.slice Ao41 t361.length co41)) (fun _ hk=>hk.2) (.bool t364)) (fun _ h_=>h_.1))));(case side2=>exact (Kd.R_reads' HO358.out).2.1);(case side3=>refine (Kd.R_reads' (e:=4) (base:=w.heap.size) (ok:=fun k_=>((True∧¬ D379_ k_)∧some k_≠(.slice Ao28 t350.length co28:Value).ownBlock)) (n:=t361.length) (c:=co41) ?_).2.2;exact (by (with_reducible repeat (first|apply ra'|apply rn'|apply rw'));exact (Kd.R_mono (Kd.R_far (p:=⟨gb365,1,none⟩) (Kd.R_far (p:=⟨gb365,0,none⟩) (Kd.R_types HO363.out BK365.out (by decide)) (fun _ hk=>hk.2) (.slice Ao41 t361.length co41)) (fun _ hk=>hk.2) (.bool t364)) (fun _ h_=>h_.1))));(case side4=>exact (Kd.R_reads' HO363.out).2.1);rintro e w47 ⟨rfl,hb⟩;refine ⟨_,rfl,?_⟩;have n0_:=am' (Kd.R_below (by (with_reducible repeat (first|apply ra'|apply rn'|apply rw'));exact (Kd.R_mono (Kd.R_far (p:=⟨gb365,1,none⟩) (Kd.R_far (p:=⟨gb365,0,none⟩) (Kd.R_types HO348.out BK365.out (by decide)) (fun _ hk=>hk.2) (.slice Ao41 t361.length co41)) (fun _ hk=>hk.2) (.bool t364)) (fun _ h_=>h_.1))) hb);have n1_:=am' (Kd.R_below (by (with_reducible repeat (first|apply ra'|apply rn'|apply rw'));exact (Kd.R_mono (Kd.R_far (p:=⟨gb365,1,none⟩) (Kd.R_far (p:=⟨gb365,0,none⟩) (Kd.R_types HO352.out BK365.out (by decide)) (fun _ hk=>hk.2) (.slice Ao41 t361.length co41)) (fun _ hk=>hk.2) (.bool t364)) (fun _ h_=>h_.1))) hb);have n2_:=am' (Kd.R_below (by (with_reducible repeat (first|apply ra'|apply rn'|apply rw'));exact (Kd.R_mono (Kd.R_far (p:=⟨gb365,1,none⟩) (Kd.R_far (p:=⟨gb365,0,none⟩) (Kd.R_types HO358.out BK365.out (by decide)) (fun _ hk=>hk.2) (.slice Ao41 t361.length co41)) (fun _ hk=>hk.2) (.bool t364)) (fun _ h_=>h_.1))) hb);have n3_:=am' (Kd.R_below (by (with_reducible repeat (first|apply ra'|apply rn'|apply rw'));exact (Kd.R_mono (Kd.R_far (p:=⟨gb365,1,none⟩) (Kd.R_far (p:=⟨gb365,0,none⟩) (Kd.R_types HO363.out BK365.out (by decide)) (fun _ hk=>hk.2) (.slice Ao41 t361.length co41)) (fun _ hk=>hk.2) (.bool t364)) (fun _ h_=>h_.1))) hb);have n4_:=am' (blk_below (g:=gb342) (o := .cells #[.slice A0_0 l0_0.length c0_0, .int .i64 a0_1] 24 (0,0)) (by (with_reducible repeat (first|refine kn' ?_ _|refine kd' ?_|refine ka' ?_ _));refine blk_far ?_ NB342_365.out _;(with_reducible repeat (first|refine kn' ?_ _|refine kd' ?_|refine ka' ?_ _));refine blk_far ?_ NB342_365.out _;(with_reducible repeat (first|refine kn' ?_ _|refine kd' ?_|refine ka' ?_ _));exact BK342.out) hb);have n5_:=am' (blk_below (g:=gb343) (o := .cells #[.slice A1_0 l1_0.length c1_0, .bool a1_1] 41 (0,0)) (by (with_reducible repeat (first|refine kn' ?_ _|refine kd' ?_|refine ka' ?_ _));refine blk_far ?_ NB343_365.out _;(with_reducible repeat (first|refine kn' ?_ _|refine kd' ?_|refine ka' ?_ _));refine blk_far ?_ NB343_365.out _;(with_reducible repeat (first|refine kn' ?_ _|refine kd' ?_|refine ka' ?_ _));exact BK343.out) hb);have n6_:=am' (blk_below (g:=gb360) (o := .cells #[.slice Ao34 t356.length co34, .int .i64 t359] 28 (0,0)) (by (with_reducible repeat (first|refine kn' ?_ _|refine kd' ?_|refine ka' ?_ _));refine blk_far ?_ NB360_365.out _;(with_reducible repeat (first|refine kn' ?_ _|refine kd' ?_|refine ka' ?_ _));refine blk_far ?_ NB360_365.out _;(with_reducible repeat (first|refine kn' ?_ _|refine kd' ?_|refine ka' ?_ _));exact BK360.out) hb);have n7_:=am' (blk_below (g:=gb365) (o := .cells #[.slice Ao41 t361.length co41, .bool t364] 44 (0,0)) (by (with_reducible repeat (first|refine kn' ?_ _|refine kd' ?_|refine ka' ?_ _));refine blk_put (cs:=#[.slice Ao41 t361.length co41, .bool false]) ?_ 1 _ rfl;(with_reducible repeat (first|refine kn' ?_ _|refine kd' ?_|refine ka' ?_ _));refine blk_put (cs:=#[.slice none 0 0, .bool false]) ?_ 0 _ rfl;(with_reducible repeat (first|refine kn' ?_ _|refine kd' ?_|refine ka' ?_ _));exact BK365.out) hb);have n8_:=am' (below_step (by repeat (first|(with_reducible first|exact HB.out|apply ba'|apply bd'|apply be'|refine bs' ?_ GE342.out|refine bs' ?_ GE343.out|refine bs' ?_ GE360.out|refine bs' ?_ GE365.out)|exact HB.out)) hb);clear HO348;clear HO352;clear HO358;clear HO363;clear BK342;clear BK343;clear BK360;clear BK365;clear HB;have HO348:=n0_;have HO352:=n1_;have HO358:=n2_;have HO363:=n3_;have BK342:=n4_;have BK343:=n5_;have BK360:=n6_;have BK365:=n7_;have HB:=n8_;clear n0_ n1_ n2_ n3_ n4_ n5_ n6_ n7_ n8_;(try clear hb);(try clear hb2);(try clear hk);(try clear hi)))
     (try simp only[Act.put,sa',sb',sc'])
     go_cut [47] (fun v47 wc=>∃ (kq:Nat) (x47_22:Bool),v47 = .bool x47_22∧Aside0 (laws_FnExactIsOnBest.j2 kq x47_22 l0_0 a0_1 l1_0 a1_1 t356 t359 t361 t364=some r)∧Aside0 (kq≤kj11)∧Aside0 (Kd.R (Kd.int .i64) 3 wc w.heap.size (fun k_=>¬ D378_ k_∧D379_ k_) (.slice Ao34 t356.length co34) t356)∧Aside0 (Kd.R Kd.bool 4 wc w.heap.size (fun k_=>¬ D379_ k_) (.slice Ao41 t361.length co41) t361)∧Aside0 (wc.heap[gb342]? = some (.cells #[(.slice A0_0 l0_0.length c0_0), .int .i64 a0_1] 24 (0,0)))∧Aside0 (wc.heap[gb343]? = some (.cells #[(.slice A1_0 l1_0.length c1_0), .bool a1_1] 41 (0,0)))∧Aside0 (wc.heap[gb360]? = some (.cells #[(.slice Ao34 t356.length co34), .int .i64 t359] 28 (0,0)))∧Aside0 (wc.heap[gb365]? = some (.cells #[(.slice Ao41 t361.length co41), .bool t364] 44 (0,0)))∧Aside0 (Below w.heap.size w wc))
     case first =>
      have H:=HC23.out;clear HC23;by_cases c48:(t366 != t354)=true
      ·
       rw[if_pos c48] at H;have c48b0:(t366 != t354)=true:=c48
       (try (have c48b1:decide (t366=t354)=false:=by simpa using c48))
       (try (have c48b2:(t366 == t354)=false:=by simpa using c48))
       (try (have c48b3:¬ (t366=t354):=by simpa using c48))
       clear c48;(first|rw[c48b0]|(simp only[i64_w,i32_w];rw[c48b0])|rw[c48b1]|skip)
       have H':=am' H;clear H;go_wp2;go_meet
       case rel=>exact ⟨_,(true),(by first|rfl|(simp;done)|(simp[*];done)),H',⟨by have:=HJ3.out;have:=HJ11.out;first|omega|exact Nat.le_refl _⟩,⟨by (with_reducible repeat (first|apply ra'|apply rn'|apply rw'));exact Kd.R_mono HO358.out (fun _ hk=>⟨hk.1.1.2,hk.2⟩)⟩,⟨by (with_reducible repeat (first|apply ra'|apply rn'|apply rw'));exact Kd.R_mono HO363.out (fun _ hk=>hk.1.2)⟩,⟨by (with_reducible repeat (first|refine kn' ?_ _|refine kd' ?_|refine ka' ?_ _));exact BK342.out⟩,⟨by (with_reducible repeat (first|refine kn' ?_ _|refine kd' ?_|refine ka' ?_ _));exact BK343.out⟩,⟨by (with_reducible repeat (first|refine kn' ?_ _|refine kd' ?_|refine ka' ?_ _));exact BK360.out⟩,⟨by (with_reducible repeat (first|refine kn' ?_ _|refine kd' ?_|refine ka' ?_ _));exact BK365.out⟩,⟨by repeat (first|(with_reducible first|exact HB.out|apply ba'|apply bd'|apply be'|refine bs' ?_ GE342.out|refine bs' ?_ GE343.out|refine bs' ?_ GE360.out|refine bs' ?_ GE365.out)|exact HB.out)⟩⟩
      ·
       rw[if_neg c48] at H;have c48b0:(t366 != t354)=false:=by simpa using c48
       (try (have c48b1:decide (t366=t354)=true:=by simpa using c48))
       (try (have c48b2:(t366 == t354)=true:=by simpa using c48))
       clear c48;(first|rw[c48b0]|(simp only[i64_w,i32_w];rw[c48b0])|rw[c48b1]|skip)
       have H':=am' H;clear H;go_wp2;go_meet
       case rel=>exact ⟨_,((t367 != t355)),(by first|rfl|(simp;done)|(simp[*];done)),H',⟨by have:=HJ3.out;have:=HJ11.out;first|omega|exact Nat.le_refl _⟩,⟨by (with_reducible repeat (first|apply ra'|apply rn'|apply rw'));exact Kd.R_mono HO358.out (fun _ hk=>⟨hk.1.1.2,hk.2⟩)⟩,⟨by (with_reducible repeat (first|apply ra'|apply rn'|apply rw'));exact Kd.R_mono HO363.out (fun _ hk=>hk.1.2)⟩,⟨by (with_reducible repeat (first|refine kn' ?_ _|refine kd' ?_|refine ka' ?_ _));exact BK342.out⟩,⟨by (with_reducible repeat (first|refine kn' ?_ _|refine kd' ?_|refine ka' ?_ _));exact BK343.out⟩,⟨by (with_reducible repeat (first|refine kn' ?_ _|refine kd' ?_|refine ka' ?_ _));exact BK360.out⟩,⟨by (with_reducible repeat (first|refine kn' ?_ _|refine kd' ?_|refine ka' ?_ _));exact BK365.out⟩,⟨by repeat (first|(with_reducible first|exact HB.out|apply ba'|apply bd'|apply be'|refine bs' ?_ GE342.out|refine bs' ?_ GE343.out|refine bs' ?_ GE360.out|refine bs' ?_ GE365.out)|exact HB.out)⟩⟩
     case rest =>
      clear HC23;try clear c1
      try clear p2
      try clear c3
      try clear c4
      try clear c5
      try clear c7
      try clear c10
      try clear c10b0
      try clear c13
      try clear c14
      try clear c16
      try clear c16b0
      try clear c18
      try clear c30
      try clear c35
      try clear c36
      try clear c37
      try clear c42
      try clear c43
      try clear c44
      try clear c48
      try clear c48b0
      try clear c48b1
      try clear c48b2
      try clear hcz14_0
      try clear hcz14_1
      try clear hcz31_0
      try clear hcz31_1
      try clear hcz37_0
      try clear hcz37_1
      try clear hcz38_0
      try clear hcz38_1
      try clear hcz45_0
      try clear hcz45_1
      try clear hcz46_0
      try clear hcz46_1
      try clear hcz8_0
      try clear hcz8_1
      try clear hfz14_0
      try clear hfz14_1
      try clear hfz31_0
      try clear hfz31_1
      try clear hfz37_0
      try clear hfz37_1
      try clear hfz38_0
      try clear hfz38_1
      try clear hfz45_0
      try clear hfz45_1
      try clear hfz46_0
      try clear hfz46_1
      try clear hfz8_0
      try clear hfz8_1
      try clear p2
      obtain ⟨kq,x47_22,rfl,HA,HJ22,HO_361000,HO_366000,BK342,BK343,BK360,BK365,HB⟩:=hcut;cases kq with
      | zero=>exact absurd HA.out (by simp[laws_FnExactIsOnBest.j2])
      | succ kj22 =>
       have H:=HA.out;clear HA;simp only[laws_FnExactIsOnBest.j2] at H;have HC49:=am' H;clear H;go_upto_if 47 with (fail)
       go_cut [] (fun wc=>∃ (kq:Nat),Aside0 (laws_FnExactIsOnBest.j3 kq l0_0 a0_1 l1_0 a1_1 t356 t359 t361 t364=some r)∧Aside0 (kq≤kj22)∧Aside0 (Kd.R (Kd.int .i64) 3 wc w.heap.size (fun k_=>¬ D378_ k_∧D379_ k_) (.slice Ao34 t356.length co34) t356)∧Aside0 (Kd.R Kd.bool 4 wc w.heap.size (fun k_=>¬ D379_ k_) (.slice Ao41 t361.length co41) t361)∧Aside0 (wc.heap[gb342]? = some (.cells #[(.slice A0_0 l0_0.length c0_0), .int .i64 a0_1] 24 (0,0)))∧Aside0 (wc.heap[gb343]? = some (.cells #[(.slice A1_0 l1_0.length c1_0), .bool a1_1] 41 (0,0)))∧Aside0 (wc.heap[gb360]? = some (.cells #[(.slice Ao34 t356.length co34), .int .i64 t359] 28 (0,0)))∧Aside0 (wc.heap[gb365]? = some (.cells #[(.slice Ao41 t361.length co41), .bool t364] 44 (0,0)))∧Aside0 (Below w.heap.size w wc))
       case first =>
        have H:=HC49.out;clear HC49;by_cases c50:x47_22=true
        ·
         subst c50;have H1:(some false)=some r:=by rw[if_pos rfl] at H;exact H
         clear H;have H:=H1;clear H1;obtain rfl:=Option.some.inj H;go_wp2;go_ret
         exact ⟨by first|rfl|(simp[errW_none,errW_some] <;> rfl)|(simp[*,errW_none,errW_some] <;> rfl),by repeat (first|(with_reducible first|exact HB.out|apply ba'|apply bd'|apply be'|refine bs' ?_ GE342.out|refine bs' ?_ GE343.out|refine bs' ?_ GE360.out|refine bs' ?_ GE365.out)|exact HB.out)⟩
        ·
         replace c50:=Bool.eq_false_iff.mpr c50;subst c50;have H1:(laws_FnExactIsOnBest.j3 kj22 l0_0 a0_1 l1_0 a1_1 t356 t359 t361 t364)=some r:=by rw[if_neg (show ¬ (false=true) by decide)] at H;exact H
         clear H;have H:=H1;clear H1;have H':=am' H;clear H;go_wp2;go_meet
         case rel=>exact ⟨_,H',⟨by have:=HJ3.out;have:=HJ11.out;have:=HJ22.out;first|omega|exact Nat.le_refl _⟩,⟨by (with_reducible repeat (first|apply ra'|apply rn'|apply rw'));exact HO_361000.out⟩,⟨by (with_reducible repeat (first|apply ra'|apply rn'|apply rw'));exact HO_366000.out⟩,⟨by (with_reducible repeat (first|refine kn' ?_ _|refine kd' ?_|refine ka' ?_ _));exact BK342.out⟩,⟨by (with_reducible repeat (first|refine kn' ?_ _|refine kd' ?_|refine ka' ?_ _));exact BK343.out⟩,⟨by (with_reducible repeat (first|refine kn' ?_ _|refine kd' ?_|refine ka' ?_ _));exact BK360.out⟩,⟨by (with_reducible repeat (first|refine kn' ?_ _|refine kd' ?_|refine ka' ?_ _));exact BK365.out⟩,⟨by repeat (first|(with_reducible first|exact HB.out|apply ba'|apply bd'|apply be'|refine bs' ?_ GE342.out|refine bs' ?_ GE343.out|refine bs' ?_ GE360.out|refine bs' ?_ GE365.out)|exact HB.out)⟩⟩
       case rest =>
        clear HC49;try clear c1
        try clear p2
        try clear c3
        try clear c4
        try clear c5
        try clear c7
        try clear c10
        try clear c10b0
        try clear c13
        try clear c14
        try clear c16
        try clear c16b0
        try clear c18
        try clear c30
        try clear c35
        try clear c36
        try clear c37
        try clear c42
        try clear c43
        try clear c44
        try clear c48
        try clear c48b0
        try clear c48b1
        try clear c48b2
        try clear c50
        try clear hcz14_0
        try clear hcz14_1
        try clear hcz31_0
        try clear hcz31_1
        try clear hcz37_0
        try clear hcz37_1
        try clear hcz38_0
        try clear hcz38_1
        try clear hcz45_0
        try clear hcz45_1
        try clear hcz46_0
        try clear hcz46_1
        try clear hcz8_0
        try clear hcz8_1
        try clear hfz14_0
        try clear hfz14_1
        try clear hfz31_0
        try clear hfz31_1
        try clear hfz37_0
        try clear hfz37_1
        try clear hfz38_0
        try clear hfz38_1
        try clear hfz45_0
        try clear hfz45_1
        try clear hfz46_0
        try clear hfz46_1
        try clear hfz8_0
        try clear hfz8_1
        try clear p2
        obtain ⟨kq,HA,HJ48,HO_361000,HO_366000,BK342,BK343,BK360,BK365,HB⟩:=hcut;cases kq with
        | zero=>exact absurd HA.out (by simp[laws_FnExactIsOnBest.j3])
        | succ kj48 =>
         have H:=HA.out;clear HA;simp only[laws_FnExactIsOnBest.j3] at H;replace H:=Option.bind_eq_some_iff.mp H;obtain ⟨⟨t368,t371⟩,A510,H⟩:=H;replace H:((laws_eqParty.f kj48 t356 t359 t368 t371).bind fun t372=>(if t372=true then (laws_FnExactIsOnBest.j4 kj48 l1_0 a1_1 t361 t364) else (some false)))=some r:=H;have A51:=am' A510;clear A510;replace H:=Option.bind_eq_some_iff.mp H;obtain ⟨t372,A520,H⟩:=H;replace H:(if t372=true then (laws_FnExactIsOnBest.j4 kj48 l1_0 a1_1 t361 t364) else (some false))=some r:=H;have A52:=am' A520;clear A520;have HC53:=am' H;clear H;try go_wp2
         have n0_:=am' (rw' HO_361000.out);have n1_:=am' (rw' HO_366000.out);have n2_:=am' (kd' BK342.out);have n3_:=am' (kd' BK343.out);have n4_:=am' (kd' BK360.out);have n5_:=am' (kd' BK365.out);have n6_:=am' (be' HB.out);clear HO_361000;clear HO_366000;clear BK342;clear BK343;clear BK360;clear BK365;clear HB;have HO_361000:=n0_;have HO_366000:=n1_;have BK342:=n2_;have BK343:=n3_;have BK360:=n4_;have BK365:=n5_;have HB:=n6_;clear n0_ n1_ n2_ n3_ n4_ n5_ n6_;refine start_ (n:=5) (S:=fun w'=>w'.cell? ⟨gb360,0,none⟩=some (.slice Ao34 t356.length co34)∧w'.cell? ⟨gb360,1,none⟩=some (.int .i64 t359)∧w'.cell? ⟨gb342,0,none⟩=some (.slice A0_0 l0_0.length c0_0)∧w'.cell? ⟨gb342,1,none⟩=some (.int .i64 a0_1)) (ds:=[]) #[false,false,false,false,false] (by kernel_rfl) rfl rfl ⟨(blk_cell BK360.out 0).trans rfl,(blk_cell BK360.out 1).trans rfl,(blk_cell BK342.out 0).trans rfl,(blk_cell BK342.out 1).trans rfl⟩ (fun hHeld=>?_);generalize wc.drew=w54 at HO_361000 HO_366000 BK342 BK343 BK360 BK365 HB hHeld ⊢
         refine take_ (i:=0) (N:=some 48) (v:=?_) (a':=?_) #[true,false,false,false,false] rfl rfl (by kernel_rfl) (fun _ _ _ h=>h) (Or.inl ⟨by rfl,?_⟩) hHeld ?_ ?_
         rotate_left
         ·
          rintro w' ⟨s0,s1,s2,s3⟩
          go_simp;with_reducible rfl
         rotate_left
         ·
          simp only[Act.put,sa',sb',sc',i64_w,i32_w];rfl
         refine take_ (i:=1) (N:=some 49) (v:=?_) (a':=?_) #[true,true,false,false,false] rfl rfl (by kernel_rfl) (fun _ _ _ h=>h) (Or.inl ⟨by rfl,?_⟩) hHeld ?_ ?_
         rotate_left
         ·
          rintro w' ⟨s0,s1,s2,s3⟩
          go_simp;with_reducible rfl
         rotate_left
         ·
          simp only[Act.put,sa',sb',sc',i64_w,i32_w];rfl
         refine one_ (i:=2) (N:=some 50) #[true,true,true,false,false] rfl rfl (by kernel_rfl) (by decide) (fun K hK=>?_);refine goes_ Try.func18 (by kernel_rfl) rfl #[.agg #[.slice A0_0 l0_0.length c0_0, .int .i64 a0_1]] (by rfl) rfl rfl (by (try simp only[List.map_toArray,List.map_cons,List.map_nil]);first|done|rfl|(simp only[List.length_drop,List.length_take];rfl)) ?_
         with_reducible refine (laws_toParty.calls kj48 _ _ l0_0 a0_1 t368 t371 _ ?side1 ?side2 A51.out).mono ?_
         (case side1=>repeat (first|exact (Kd.C_below HR0_0.out HB.out)|(with_reducible refine ca' ?_ _)|(with_reducible refine cn' ?_ _)|(with_reducible refine cd' ?_)))
         (case side2=>exact HC0_0.out)
         rintro e w55 ⟨v369,rfl,ho0,hb⟩
         refine ⟨_,rfl,?_⟩;have n0_:=am' (Kd.R_elder' (by (with_reducible repeat (first|apply ra'|apply rn'|apply rw'));exact HO_361000.out) (Kd.R_base ho0) hb);have n1_:=am' (Kd.R_below (by (with_reducible repeat (first|apply ra'|apply rn'|apply rw'));exact HO_366000.out) hb);have n2_:=am' (Kd.R_lower (Kd.R_new' ho0 (Kd.R_lt (by (with_reducible repeat (first|apply ra'|apply rn'|apply rw'));exact HO_361000.out))) (below_size (by repeat (first|(with_reducible first|exact HB.out|apply ba'|apply bd'|apply be'|refine bs' ?_ GE342.out|refine bs' ?_ GE343.out|refine bs' ?_ GE360.out|refine bs' ?_ GE365.out)|exact HB.out))));have n3_:=am' (blk_below (g:=gb342) (o := .cells #[.slice A0_0 l0_0.length c0_0, .int .i64 a0_1] 24 (0,0)) (by (with_reducible repeat (first|refine kn' ?_ _|refine kd' ?_|refine ka' ?_ _));exact BK342.out) hb);have n4_:=am' (blk_below (g:=gb343) (o := .cells #[.slice A1_0 l1_0.length c1_0, .bool a1_1] 41 (0,0)) (by (with_reducible repeat (first|refine kn' ?_ _|refine kd' ?_|refine ka' ?_ _));exact BK343.out) hb);have n5_:=am' (blk_below (g:=gb360) (o := .cells #[.slice Ao34 t356.length co34, .int .i64 t359] 28 (0,0)) (by (with_reducible repeat (first|refine kn' ?_ _|refine kd' ?_|refine ka' ?_ _));exact BK360.out) hb);have n6_:=am' (blk_below (g:=gb365) (o := .cells #[.slice Ao41 t361.length co41, .bool t364] 44 (0,0)) (by (with_reducible repeat (first|refine kn' ?_ _|refine kd' ?_|refine ka' ?_ _));exact BK365.out) hb);have n7_:=am' (below_step (by repeat (first|(with_reducible first|exact HB.out|apply ba'|apply bd'|apply be'|refine bs' ?_ GE342.out|refine bs' ?_ GE343.out|refine bs' ?_ GE360.out|refine bs' ?_ GE365.out)|exact HB.out)) hb);clear HO_361000;clear HO_366000;clear BK342;clear BK343;clear BK360;clear BK365;clear HB;have HO_361000:=n0_;have HO_366000:=n1_;have HO370:=n2_;have BK342:=n3_;have BK343:=n4_;have BK360:=n5_;have BK365:=n6_;have HB:=n7_;clear n0_ n1_ n2_ n3_ n4_ n5_ n6_ n7_;(try clear hb)
         (try clear hb2)
         (try clear hk)
         (try clear hi)
         (try clear ho0)
         obtain ⟨Ao56,co56,eo56⟩:=Kd.R_slice HO370.out
         (first|subst eo56|(injection eo56 with f1_ f2_ f3_;have f4_:=f1_.symm;have f5_:=f3_.symm;clear f1_ f2_ f3_;subst f4_;subst f5_))
         refine hK.out _ _ ⟨(blk_cell BK360.out 0).trans rfl,(blk_cell BK360.out 1).trans rfl,(blk_cell BK342.out 0).trans rfl,(blk_cell BK342.out 1).trans rfl⟩ (fun hHeld=>?_);clear hK K;refine norm_ (a':=?_) ?_ ?_
         rotate_left
         ·
          show Act.put _ (some 50) _=_
          simp only[Act.put,sa',sb',sc',i64_w,i32_w];rfl
         refine one_ (i:=3) (N:=some 51) #[true,true,true,true,false] rfl rfl (by kernel_rfl) (by decide) (fun K hK=>?_);refine goes_ Try.func20 (by kernel_rfl) rfl #[.agg #[.slice Ao34 t356.length co34, .int .i64 t359], .agg #[.slice Ao56 t368.length co56, .int .i64 t371]] (by rfl) rfl rfl (by (try simp only[List.map_toArray,List.map_cons,List.map_nil]);first|done|rfl|(simp only[List.length_drop,List.length_take];rfl)) ?_
         with_reducible refine (laws_eqParty.calls kj48 _ _ t356 t359 _ _ t368 t371 t372 _ ?side1 ?side2 ?side3 ?side4 A52.out).mono ?_
         (case side1=>repeat (first|exact (Kd.R_reads' HO_361000.out).2.2|(with_reducible refine ca' ?_ _)|(with_reducible refine cn' ?_ _)|(with_reducible refine cd' ?_)))
         (case side2=>exact (Kd.R_reads' HO_361000.out).2.1)
         (case side3=>repeat (first|exact (Kd.R_reads' HO370.out).2.2|(with_reducible refine ca' ?_ _)|(with_reducible refine cn' ?_ _)|(with_reducible refine cd' ?_)))
         (case side4=>exact (Kd.R_reads' HO370.out).2.1)
         rintro e w57 ⟨rfl,hb⟩
         refine ⟨_,rfl,?_⟩;have n0_:=am' (Kd.R_below (by (with_reducible repeat (first|apply ra'|apply rn'|apply rw'));exact HO_361000.out) hb);have n1_:=am' (Kd.R_below (by (with_reducible repeat (first|apply ra'|apply rn'|apply rw'));exact HO_366000.out) hb);have n2_:=am' (Kd.R_below (by (with_reducible repeat (first|apply ra'|apply rn'|apply rw'));exact HO370.out) hb);have n3_:=am' (blk_below (g:=gb342) (o := .cells #[.slice A0_0 l0_0.length c0_0, .int .i64 a0_1] 24 (0,0)) (by (with_reducible repeat (first|refine kn' ?_ _|refine kd' ?_|refine ka' ?_ _));exact BK342.out) hb);have n4_:=am' (blk_below (g:=gb343) (o := .cells #[.slice A1_0 l1_0.length c1_0, .bool a1_1] 41 (0,0)) (by (with_reducible repeat (first|refine kn' ?_ _|refine kd' ?_|refine ka' ?_ _));exact BK343.out) hb);have n5_:=am' (blk_below (g:=gb360) (o := .cells #[.slice Ao34 t356.length co34, .int .i64 t359] 28 (0,0)) (by (with_reducible repeat (first|refine kn' ?_ _|refine kd' ?_|refine ka' ?_ _));exact BK360.out) hb);have n6_:=am' (blk_below (g:=gb365) (o := .cells #[.slice Ao41 t361.length co41, .bool t364] 44 (0,0)) (by (with_reducible repeat (first|refine kn' ?_ _|refine kd' ?_|refine ka' ?_ _));exact BK365.out) hb);have n7_:=am' (below_step (by repeat (first|(with_reducible first|exact HB.out|apply ba'|apply bd'|apply be'|refine bs' ?_ GE342.out|refine bs' ?_ GE343.out|refine bs' ?_ GE360.out|refine bs' ?_ GE365.out)|exact HB.out)) hb);clear HO_361000;clear HO_366000;clear HO370;clear BK342;clear BK343;clear BK360;clear BK365;clear HB;have HO_361000:=n0_;have HO_366000:=n1_;have HO370:=n2_;have BK342:=n3_;have BK343:=n4_;have BK360:=n5_;have BK365:=n6_;have HB:=n7_;clear n0_ n1_ n2_ n3_ n4_ n5_ n6_ n7_;(try clear hb)
         (try clear hb2)
         (try clear hk)
         (try clear hi)
         refine hK.out _ _ ⟨(blk_cell BK360.out 0).trans rfl,(blk_cell BK360.out 1).trans rfl,(blk_cell BK342.out 0).trans rfl,(blk_cell BK342.out 1).trans rfl⟩ (fun hHeld=>?_);clear hK K;refine norm_ (a':=?_) ?_ ?_
         rotate_left
         ·
          show Act.put _ (some 51) _=_
          simp only[Act.put,sa',sb',sc',i64_w,i32_w];rfl
         refine pure_ (i:=4) (N:=some 52) (v:=?_) (a':=?_) #[true,true,true,true,true] rfl rfl (by kernel_rfl) (fun _ _ _ h=>h) (Or.inl ⟨by rfl,?_⟩) ?_ ?_
         rotate_left
         ·
          intro w';go_simp;with_reducible rfl
         rotate_left
         ·
          simp only[Act.put,sa',sb',sc',i64_w,i32_w];rfl
         refine done_ (by kernel_rfl) ?_
         go_upto_if 52 with (fail)
         go_cut [] (fun wc=>∃ (kq:Nat),Aside0 (laws_FnExactIsOnBest.j4 kq l1_0 a1_1 t361 t364=some r)∧Aside0 (kq≤kj48)∧Aside0 (Kd.R (Kd.int .i64) 3 wc w.heap.size (fun k_=>¬ D378_ k_∧D379_ k_) (.slice Ao34 t356.length co34) t356)∧Aside0 (Kd.R Kd.bool 4 wc w.heap.size (fun k_=>¬ D379_ k_) (.slice Ao41 t361.length co41) t361)∧Aside0 (wc.heap[gb342]? = some (.cells #[(.slice A0_0 l0_0.length c0_0), .int .i64 a0_1] 24 (0,0)))∧Aside0 (wc.heap[gb343]? = some (.cells #[(.slice A1_0 l1_0.length c1_0), .bool a1_1] 41 (0,0)))∧Aside0 (wc.heap[gb360]? = some (.cells #[(.slice Ao34 t356.length co34), .int .i64 t359] 28 (0,0)))∧Aside0 (wc.heap[gb365]? = some (.cells #[(.slice Ao41 t361.length co41), .bool t364] 44 (0,0)))∧Aside0 (Below w.heap.size w wc))
         case first =>
          have H:=HC53.out;clear HC53;by_cases c58:t372=true
          ·
           subst c58;have H1:(laws_FnExactIsOnBest.j4 kj48 l1_0 a1_1 t361 t364)=some r:=by rw[if_pos rfl] at H;exact H
           clear H;have H:=H1;clear H1;have H':=am' H;clear H;go_wp2;go_meet
           case rel=>exact ⟨_,H',⟨by have:=HJ3.out;have:=HJ11.out;have:=HJ22.out;have:=HJ48.out;first|omega|exact Nat.le_refl _⟩,⟨by (with_reducible repeat (first|apply ra'|apply rn'|apply rw'));exact Kd.R_mono HO_361000.out (fun _ hk=>⟨hk.1.1,hk.1.2⟩)⟩,⟨by (with_reducible repeat (first|apply ra'|apply rn'|apply rw'));exact HO_366000.out⟩,⟨by (with_reducible repeat (first|refine kn' ?_ _|refine kd' ?_|refine ka' ?_ _));exact BK342.out⟩,⟨by (with_reducible repeat (first|refine kn' ?_ _|refine kd' ?_|refine ka' ?_ _));exact BK343.out⟩,⟨by (with_reducible repeat (first|refine kn' ?_ _|refine kd' ?_|refine ka' ?_ _));exact BK360.out⟩,⟨by (with_reducible repeat (first|refine kn' ?_ _|refine kd' ?_|refine ka' ?_ _));exact BK365.out⟩,⟨by repeat (first|(with_reducible first|exact HB.out|apply ba'|apply bd'|apply be'|refine bs' ?_ GE342.out|refine bs' ?_ GE343.out|refine bs' ?_ GE360.out|refine bs' ?_ GE365.out)|exact HB.out)⟩⟩
          ·
           replace c58:=Bool.eq_false_iff.mpr c58;subst c58;have H1:(some false)=some r:=by rw[if_neg (show ¬ (false=true) by decide)] at H;exact H
           clear H;have H:=H1;clear H1;obtain rfl:=Option.some.inj H;go_wp2;go_ret
           exact ⟨by first|rfl|(simp[errW_none,errW_some] <;> rfl)|(simp[*,errW_none,errW_some] <;> rfl),by repeat (first|(with_reducible first|exact HB.out|apply ba'|apply bd'|apply be'|refine bs' ?_ GE342.out|refine bs' ?_ GE343.out|refine bs' ?_ GE360.out|refine bs' ?_ GE365.out)|exact HB.out)⟩
         case rest =>
          clear HC53;try clear c1
          try clear c2
          try clear p2
          try clear c3
          try clear c4
          try clear c5
          try clear c7
          try clear c10
          try clear c10b0
          try clear c13
          try clear c14
          try clear c16
          try clear c16b0
          try clear c18
          try clear c20
          try clear c30
          try clear c35
          try clear c36
          try clear c37
          try clear c42
          try clear c43
          try clear c44
          try clear c48
          try clear c48b0
          try clear c48b1
          try clear c48b2
          try clear c50
          try clear c51
          try clear c52
          try clear c58
          try clear hcz14_0
          try clear hcz14_1
          try clear hcz31_0
          try clear hcz31_1
          try clear hcz37_0
          try clear hcz37_1
          try clear hcz38_0
          try clear hcz38_1
          try clear hcz45_0
          try clear hcz45_1
          try clear hcz46_0
          try clear hcz46_1
          try clear hcz8_0
          try clear hcz8_1
          try clear hfz14_0
          try clear hfz14_1
          try clear hfz31_0
          try clear hfz31_1
          try clear hfz37_0
          try clear hfz37_1
          try clear hfz38_0
          try clear hfz38_1
          try clear hfz45_0
          try clear hfz45_1
          try clear hfz46_0
          try clear hfz46_1
          try clear hfz8_0
          try clear hfz8_1
          try clear p2
          obtain ⟨kq,HA,HJ52,HO_361000,HO_366000,BK342,BK343,BK360,BK365,HB⟩:=hcut;cases kq with
          | zero=>exact absurd HA.out (by simp[laws_FnExactIsOnBest.j4])
          | succ kj52 =>
           have H:=HA.out;clear HA;simp only[laws_FnExactIsOnBest.j4] at H;replace H:=Option.bind_eq_some_iff.mp H;obtain ⟨⟨t373,t376⟩,A590,H⟩:=H;replace H:((laws_eqState.f kj52 t361 t364 t373 t376).bind fun t377=>(if t377=true then (some true) else (some false)))=some r:=H;have A59:=am' A590;clear A590;replace H:=Option.bind_eq_some_iff.mp H;obtain ⟨t377,A600,H⟩:=H;replace H:(if t377=true then (some true) else (some false))=some r:=H;have A60:=am' A600;clear A600;by_cases c61:t377=true
           ·
            subst c61;have H1:(some true)=some r:=by rw[if_pos rfl] at H;exact H
            clear H;have H:=H1;clear H1;obtain rfl:=Option.some.inj H
            try go_wp2
            have n0_:=am' (rw' HO_361000.out);have n1_:=am' (rw' HO_366000.out);have n2_:=am' (kd' BK342.out);have n3_:=am' (kd' BK343.out);have n4_:=am' (kd' BK360.out);have n5_:=am' (kd' BK365.out);have n6_:=am' (be' HB.out);clear HO_361000;clear HO_366000;clear BK342;clear BK343;clear BK360;clear BK365;clear HB;have HO_361000:=n0_;have HO_366000:=n1_;have BK342:=n2_;have BK343:=n3_;have BK360:=n4_;have BK365:=n5_;have HB:=n6_;clear n0_ n1_ n2_ n3_ n4_ n5_ n6_;refine start_ (n:=5) (S:=fun w'=>w'.cell? ⟨gb365,0,none⟩=some (.slice Ao41 t361.length co41)∧w'.cell? ⟨gb365,1,none⟩=some (.bool t364)∧w'.cell? ⟨gb343,0,none⟩=some (.slice A1_0 l1_0.length c1_0)∧w'.cell? ⟨gb343,1,none⟩=some (.bool a1_1)) (ds:=[]) #[false,false,false,false,false] (by kernel_rfl) rfl rfl ⟨(blk_cell BK365.out 0).trans rfl,(blk_cell BK365.out 1).trans rfl,(blk_cell BK343.out 0).trans rfl,(blk_cell BK343.out 1).trans rfl⟩ (fun hHeld=>?_);generalize wc.drew=w62 at HO_361000 HO_366000 BK342 BK343 BK360 BK365 HB hHeld ⊢
            refine take_ (i:=0) (N:=some 53) (v:=?_) (a':=?_) #[true,false,false,false,false] rfl rfl (by kernel_rfl) (fun _ _ _ h=>h) (Or.inl ⟨by rfl,?_⟩) hHeld ?_ ?_
            rotate_left
            ·
             rintro w' ⟨s0,s1,s2,s3⟩
             go_simp;with_reducible rfl
            rotate_left
            ·
             simp only[Act.put,sa',sb',sc',i64_w,i32_w];rfl
            refine take_ (i:=1) (N:=some 54) (v:=?_) (a':=?_) #[true,true,false,false,false] rfl rfl (by kernel_rfl) (fun _ _ _ h=>h) (Or.inl ⟨by rfl,?_⟩) hHeld ?_ ?_
            rotate_left
            ·
             rintro w' ⟨s0,s1,s2,s3⟩
             go_simp;with_reducible rfl
            rotate_left
            ·
             simp only[Act.put,sa',sb',sc',i64_w,i32_w];rfl
            refine one_ (i:=2) (N:=some 55) #[true,true,true,false,false] rfl rfl (by kernel_rfl) (by decide) (fun K hK=>?_);refine goes_ Try.func37 (by kernel_rfl) rfl #[.agg #[.slice A1_0 l1_0.length c1_0, .bool a1_1]] (by rfl) rfl rfl (by (try simp only[List.map_toArray,List.map_cons,List.map_nil]);first|done|rfl|(simp only[List.length_drop,List.length_take];rfl)) ?_
            with_reducible refine (laws_toState.calls kj52 _ _ l1_0 a1_1 t373 t376 _ ?side1 ?side2 A59.out).mono ?_
            (case side1=>repeat (first|exact (Kd.C_below HR1_0.out HB.out)|(with_reducible refine ca' ?_ _)|(with_reducible refine cn' ?_ _)|(with_reducible refine cd' ?_)))
            (case side2=>exact HC1_0.out)
            rintro e w63 ⟨v374,rfl,ho0,hb⟩
            refine ⟨_,rfl,?_⟩;have n0_:=am' (Kd.R_below (by (with_reducible repeat (first|apply ra'|apply rn'|apply rw'));exact HO_361000.out) hb);have n1_:=am' (Kd.R_elder' (by (with_reducible repeat (first|apply ra'|apply rn'|apply rw'));exact HO_366000.out) (Kd.R_base ho0) hb);have n2_:=am' (Kd.R_lower (Kd.R_new' ho0 (Kd.R_lt (by (with_reducible repeat (first|apply ra'|apply rn'|apply rw'));exact HO_366000.out))) (below_size (by repeat (first|(with_reducible first|exact HB.out|apply ba'|apply bd'|apply be'|refine bs' ?_ GE342.out|refine bs' ?_ GE343.out|refine bs' ?_ GE360.out|refine bs' ?_ GE365.out)|exact HB.out))));have n3_:=am' (blk_below (g:=gb342) (o := .cells #[.slice A0_0 l0_0.length c0_0, .int .i64 a0_1] 24 (0,0)) (by (with_reducible repeat (first|refine kn' ?_ _|refine kd' ?_|refine ka' ?_ _));exact BK342.out) hb);have n4_:=am' (blk_below (g:=gb343) (o := .cells #[.slice A1_0 l1_0.length c1_0, .bool a1_1] 41 (0,0)) (by (with_reducible repeat (first|refine kn' ?_ _|refine kd' ?_|refine ka' ?_ _));exact BK343.out) hb);have n5_:=am' (blk_below (g:=gb360) (o := .cells #[.slice Ao34 t356.length co34, .int .i64 t359] 28 (0,0)) (by (with_reducible repeat (first|refine kn' ?_ _|refine kd' ?_|refine ka' ?_ _));exact BK360.out) hb);have n6_:=am' (blk_below (g:=gb365) (o := .cells #[.slice Ao41 t361.length co41, .bool t364] 44 (0,0)) (by (with_reducible repeat (first|refine kn' ?_ _|refine kd' ?_|refine ka' ?_ _));exact BK365.out) hb);have n7_:=am' (below_step (by repeat (first|(with_reducible first|exact HB.out|apply ba'|apply bd'|apply be'|refine bs' ?_ GE342.out|refine bs' ?_ GE343.out|refine bs' ?_ GE360.out|refine bs' ?_ GE365.out)|exact HB.out)) hb);clear HO_361000;clear HO_366000;clear BK342;clear BK343;clear BK360;clear BK365;clear HB;have HO_361000:=n0_;have HO_366000:=n1_;have HO375:=n2_;have BK342:=n3_;have BK343:=n4_;have BK360:=n5_;have BK365:=n6_;have HB:=n7_;clear n0_ n1_ n2_ n3_ n4_ n5_ n6_ n7_;(try clear hb)
            (try clear hb2)
            (try clear hk)
            (try clear hi)
            (try clear ho0)
            obtain ⟨Ao64,co64,eo64⟩:=Kd.R_slice HO375.out
            (first|subst eo64|(injection eo64 with f1_ f2_ f3_;have f4_:=f1_.symm;have f5_:=f3_.symm;clear f1_ f2_ f3_;subst f4_;subst f5_))
            refine hK.out _ _ ⟨(blk_cell BK365.out 0).trans rfl,(blk_cell BK365.out 1).trans rfl,(blk_cell BK343.out 0).trans rfl,(blk_cell BK343.out 1).trans rfl⟩ (fun hHeld=>?_);clear hK K;refine norm_ (a':=?_) ?_ ?_
            rotate_left
            ·
             show Act.put _ (some 55) _=_
             simp only[Act.put,sa',sb',sc',i64_w,i32_w];rfl
            refine one_ (i:=3) (N:=some 56) #[true,true,true,true,false] rfl rfl (by kernel_rfl) (by decide) (fun K hK=>?_);refine goes_ Try.func39 (by kernel_rfl) rfl #[.agg #[.slice Ao41 t361.length co41, .bool t364], .agg #[.slice Ao64 t373.length co64, .bool t376]] (by rfl) rfl rfl (by (try simp only[List.map_toArray,List.map_cons,List.map_nil]);first|done|rfl|(simp only[List.length_drop,List.length_take];rfl)) ?_
            with_reducible refine (laws_eqState.calls kj52 _ _ t361 t364 _ _ t373 t376 true _ ?side1 ?side2 ?side3 ?side4 A60.out).mono ?_
            (case side1=>repeat (first|exact (Kd.R_reads' HO_366000.out).2.2|(with_reducible refine ca' ?_ _)|(with_reducible refine cn' ?_ _)|(with_reducible refine cd' ?_)))
            (case side2=>exact (Kd.R_reads' HO_366000.out).2.1)
            (case side3=>repeat (first|exact (Kd.R_reads' HO375.out).2.2|(with_reducible refine ca' ?_ _)|(with_reducible refine cn' ?_ _)|(with_reducible refine cd' ?_)))
            (case side4=>exact (Kd.R_reads' HO375.out).2.1)
            rintro e w65 ⟨rfl,hb⟩
            refine ⟨_,rfl,?_⟩;have n0_:=am' (Kd.R_below (by (with_reducible repeat (first|apply ra'|apply rn'|apply rw'));exact HO_361000.out) hb);have n1_:=am' (Kd.R_below (by (with_reducible repeat (first|apply ra'|apply rn'|apply rw'));exact HO_366000.out) hb);have n2_:=am' (Kd.R_below (by (with_reducible repeat (first|apply ra'|apply rn'|apply rw'));exact HO375.out) hb);have n3_:=am' (blk_below (g:=gb342) (o := .cells #[.slice A0_0 l0_0.length c0_0, .int .i64 a0_1] 24 (0,0)) (by (with_reducible repeat (first|refine kn' ?_ _|refine kd' ?_|refine ka' ?_ _));exact BK342.out) hb);have n4_:=am' (blk_below (g:=gb343) (o := .cells #[.slice A1_0 l1_0.length c1_0, .bool a1_1] 41 (0,0)) (by (with_reducible repeat (first|refine kn' ?_ _|refine kd' ?_|refine ka' ?_ _));exact BK343.out) hb);have n5_:=am' (blk_below (g:=gb360) (o := .cells #[.slice Ao34 t356.length co34, .int .i64 t359] 28 (0,0)) (by (with_reducible repeat (first|refine kn' ?_ _|refine kd' ?_|refine ka' ?_ _));exact BK360.out) hb);have n6_:=am' (blk_below (g:=gb365) (o := .cells #[.slice Ao41 t361.length co41, .bool t364] 44 (0,0)) (by (with_reducible repeat (first|refine kn' ?_ _|refine kd' ?_|refine ka' ?_ _));exact BK365.out) hb);have n7_:=am' (below_step (by repeat (first|(with_reducible first|exact HB.out|apply ba'|apply bd'|apply be'|refine bs' ?_ GE342.out|refine bs' ?_ GE343.out|refine bs' ?_ GE360.out|refine bs' ?_ GE365.out)|exact HB.out)) hb);clear HO_361000;clear HO_366000;clear HO375;clear BK342;clear BK343;clear BK360;clear BK365;clear HB;have HO_361000:=n0_;have HO_366000:=n1_;have HO375:=n2_;have BK342:=n3_;have BK343:=n4_;have BK360:=n5_;have BK365:=n6_;have HB:=n7_;clear n0_ n1_ n2_ n3_ n4_ n5_ n6_ n7_;(try clear hb)
            (try clear hb2)
            (try clear hk)
            (try clear hi)
            refine hK.out _ _ ⟨(blk_cell BK365.out 0).trans rfl,(blk_cell BK365.out 1).trans rfl,(blk_cell BK343.out 0).trans rfl,(blk_cell BK343.out 1).trans rfl⟩ (fun hHeld=>?_);clear hK K;refine norm_ (a':=?_) ?_ ?_
            rotate_left
            ·
             show Act.put _ (some 56) _=_
             simp only[Act.put,sa',sb',sc',i64_w,i32_w];rfl
            refine pure_ (i:=4) (N:=some 57) (v:=?_) (a':=?_) #[true,true,true,true,true] rfl rfl (by kernel_rfl) (fun _ _ _ h=>h) (Or.inl ⟨by rfl,?_⟩) ?_ ?_
            rotate_left
            ·
             intro w';go_simp;with_reducible rfl
            rotate_left
            ·
             simp only[Act.put,sa',sb',sc',i64_w,i32_w];rfl
            refine done_ (by kernel_rfl) ?_
            try go_wp2
            go_ret
            exact ⟨by first|rfl|(simp[errW_none,errW_some] <;> rfl)|(simp[*,errW_none,errW_some] <;> rfl),by repeat (first|(with_reducible first|exact HB.out|apply ba'|apply bd'|apply be'|refine bs' ?_ GE342.out|refine bs' ?_ GE343.out|refine bs' ?_ GE360.out|refine bs' ?_ GE365.out)|exact HB.out)⟩
           ·
            replace c61:=Bool.eq_false_iff.mpr c61;subst c61;have H1:(some false)=some r:=by rw[if_neg (show ¬ (false=true) by decide)] at H;exact H
            clear H;have H:=H1;clear H1;obtain rfl:=Option.some.inj H
            try go_wp2
            have n0_:=am' (rw' HO_361000.out);have n1_:=am' (rw' HO_366000.out);have n2_:=am' (kd' BK342.out);have n3_:=am' (kd' BK343.out);have n4_:=am' (kd' BK360.out);have n5_:=am' (kd' BK365.out);have n6_:=am' (be' HB.out);clear HO_361000;clear HO_366000;clear BK342;clear BK343;clear BK360;clear BK365;clear HB;have HO_361000:=n0_;have HO_366000:=n1_;have BK342:=n2_;have BK343:=n3_;have BK360:=n4_;have BK365:=n5_;have HB:=n6_;clear n0_ n1_ n2_ n3_ n4_ n5_ n6_;refine start_ (n:=5) (S:=fun w'=>w'.cell? ⟨gb365,0,none⟩=some (.slice Ao41 t361.length co41)∧w'.cell? ⟨gb365,1,none⟩=some (.bool t364)∧w'.cell? ⟨gb343,0,none⟩=some (.slice A1_0 l1_0.length c1_0)∧w'.cell? ⟨gb343,1,none⟩=some (.bool a1_1)) (ds:=[]) #[false,false,false,false,false] (by kernel_rfl) rfl rfl ⟨(blk_cell BK365.out 0).trans rfl,(blk_cell BK365.out 1).trans rfl,(blk_cell BK343.out 0).trans rfl,(blk_cell BK343.out 1).trans rfl⟩ (fun hHeld=>?_);generalize wc.drew=w66 at HO_361000 HO_366000 BK342 BK343 BK360 BK365 HB hHeld ⊢
            refine take_ (i:=0) (N:=some 53) (v:=?_) (a':=?_) #[true,false,false,false,false] rfl rfl (by kernel_rfl) (fun _ _ _ h=>h) (Or.inl ⟨by rfl,?_⟩) hHeld ?_ ?_
            rotate_left
            ·
             rintro w' ⟨s0,s1,s2,s3⟩
             go_simp;with_reducible rfl
            rotate_left
            ·
             simp only[Act.put,sa',sb',sc',i64_w,i32_w];rfl
            refine take_ (i:=1) (N:=some 54) (v:=?_) (a':=?_) #[true,true,false,false,false] rfl rfl (by kernel_rfl) (fun _ _ _ h=>h) (Or.inl ⟨by rfl,?_⟩) hHeld ?_ ?_
            rotate_left
            ·
             rintro w' ⟨s0,s1,s2,s3⟩
             go_simp;with_reducible rfl
            rotate_left
            ·
             simp only[Act.put,sa',sb',sc',i64_w,i32_w];rfl
            refine one_ (i:=2) (N:=some 55) #[true,true,true,false,false] rfl rfl (by kernel_rfl) (by decide) (fun K hK=>?_);refine goes_ Try.func37 (by kernel_rfl) rfl #[.agg #[.slice A1_0 l1_0.length c1_0, .bool a1_1]] (by rfl) rfl rfl (by (try simp only[List.map_toArray,List.map_cons,List.map_nil]);first|done|rfl|(simp only[List.length_drop,List.length_take];rfl)) ?_
            with_reducible refine (laws_toState.calls kj52 _ _ l1_0 a1_1 t373 t376 _ ?side1 ?side2 A59.out).mono ?_
            (case side1=>repeat (first|exact (Kd.C_below HR1_0.out HB.out)|(with_reducible refine ca' ?_ _)|(with_reducible refine cn' ?_ _)|(with_reducible refine cd' ?_)))
            (case side2=>exact HC1_0.out)
            rintro e w67 ⟨v374,rfl,ho0,hb⟩
            refine ⟨_,rfl,?_⟩;have n0_:=am' (Kd.R_below (by (with_reducible repeat (first|apply ra'|apply rn'|apply rw'));exact HO_361000.out) hb);have n1_:=am' (Kd.R_elder' (by (with_reducible repeat (first|apply ra'|apply rn'|apply rw'));exact HO_366000.out) (Kd.R_base ho0) hb);have n2_:=am' (Kd.R_lower (Kd.R_new' ho0 (Kd.R_lt (by (with_reducible repeat (first|apply ra'|apply rn'|apply rw'));exact HO_366000.out))) (below_size (by repeat (first|(with_reducible first|exact HB.out|apply ba'|apply bd'|apply be'|refine bs' ?_ GE342.out|refine bs' ?_ GE343.out|refine bs' ?_ GE360.out|refine bs' ?_ GE365.out)|exact HB.out))));have n3_:=am' (blk_below (g:=gb342) (o := .cells #[.slice A0_0 l0_0.length c0_0, .int .i64 a0_1] 24 (0,0)) (by (with_reducible repeat (first|refine kn' ?_ _|refine kd' ?_|refine ka' ?_ _));exact BK342.out) hb);have n4_:=am' (blk_below (g:=gb343) (o := .cells #[.slice A1_0 l1_0.length c1_0, .bool a1_1] 41 (0,0)) (by (with_reducible repeat (first|refine kn' ?_ _|refine kd' ?_|refine ka' ?_ _));exact BK343.out) hb);have n5_:=am' (blk_below (g:=gb360) (o := .cells #[.slice Ao34 t356.length co34, .int .i64 t359] 28 (0,0)) (by (with_reducible repeat (first|refine kn' ?_ _|refine kd' ?_|refine ka' ?_ _));exact BK360.out) hb);have n6_:=am' (blk_below (g:=gb365) (o := .cells #[.slice Ao41 t361.length co41, .bool t364] 44 (0,0)) (by (with_reducible repeat (first|refine kn' ?_ _|refine kd' ?_|refine ka' ?_ _));exact BK365.out) hb);have n7_:=am' (below_step (by repeat (first|(with_reducible first|exact HB.out|apply ba'|apply bd'|apply be'|refine bs' ?_ GE342.out|refine bs' ?_ GE343.out|refine bs' ?_ GE360.out|refine bs' ?_ GE365.out)|exact HB.out)) hb);clear HO_361000;clear HO_366000;clear BK342;clear BK343;clear BK360;clear BK365;clear HB;have HO_361000:=n0_;have HO_366000:=n1_;have HO375:=n2_;have BK342:=n3_;have BK343:=n4_;have BK360:=n5_;have BK365:=n6_;have HB:=n7_;clear n0_ n1_ n2_ n3_ n4_ n5_ n6_ n7_;(try clear hb)
            (try clear hb2)
            (try clear hk)
            (try clear hi)
            (try clear ho0)
            obtain ⟨Ao68,co68,eo68⟩:=Kd.R_slice HO375.out
            (first|subst eo68|(injection eo68 with f1_ f2_ f3_;have f4_:=f1_.symm;have f5_:=f3_.symm;clear f1_ f2_ f3_;subst f4_;subst f5_))
            refine hK.out _ _ ⟨(blk_cell BK365.out 0).trans rfl,(blk_cell BK365.out 1).trans rfl,(blk_cell BK343.out 0).trans rfl,(blk_cell BK343.out 1).trans rfl⟩ (fun hHeld=>?_);clear hK K;refine norm_ (a':=?_) ?_ ?_
            rotate_left
            ·
             show Act.put _ (some 55) _=_
             simp only[Act.put,sa',sb',sc',i64_w,i32_w];rfl
            refine one_ (i:=3) (N:=some 56) #[true,true,true,true,false] rfl rfl (by kernel_rfl) (by decide) (fun K hK=>?_);refine goes_ Try.func39 (by kernel_rfl) rfl #[.agg #[.slice Ao41 t361.length co41, .bool t364], .agg #[.slice Ao68 t373.length co68, .bool t376]] (by rfl) rfl rfl (by (try simp only[List.map_toArray,List.map_cons,List.map_nil]);first|done|rfl|(simp only[List.length_drop,List.length_take];rfl)) ?_
            with_reducible refine (laws_eqState.calls kj52 _ _ t361 t364 _ _ t373 t376 false _ ?side1 ?side2 ?side3 ?side4 A60.out).mono ?_
            (case side1=>repeat (first|exact (Kd.R_reads' HO_366000.out).2.2|(with_reducible refine ca' ?_ _)|(with_reducible refine cn' ?_ _)|(with_reducible refine cd' ?_)))
            (case side2=>exact (Kd.R_reads' HO_366000.out).2.1)
            (case side3=>repeat (first|exact (Kd.R_reads' HO375.out).2.2|(with_reducible refine ca' ?_ _)|(with_reducible refine cn' ?_ _)|(with_reducible refine cd' ?_)))
            (case side4=>exact (Kd.R_reads' HO375.out).2.1)
            rintro e w69 ⟨rfl,hb⟩
            refine ⟨_,rfl,?_⟩;have n0_:=am' (Kd.R_below (by (with_reducible repeat (first|apply ra'|apply rn'|apply rw'));exact HO_361000.out) hb);have n1_:=am' (Kd.R_below (by (with_reducible repeat (first|apply ra'|apply rn'|apply rw'));exact HO_366000.out) hb);have n2_:=am' (Kd.R_below (by (with_reducible repeat (first|apply ra'|apply rn'|apply rw'));exact HO375.out) hb);have n3_:=am' (blk_below (g:=gb342) (o := .cells #[.slice A0_0 l0_0.length c0_0, .int .i64 a0_1] 24 (0,0)) (by (with_reducible repeat (first|refine kn' ?_ _|refine kd' ?_|refine ka' ?_ _));exact BK342.out) hb);have n4_:=am' (blk_below (g:=gb343) (o := .cells #[.slice A1_0 l1_0.length c1_0, .bool a1_1] 41 (0,0)) (by (with_reducible repeat (first|refine kn' ?_ _|refine kd' ?_|refine ka' ?_ _));exact BK343.out) hb);have n5_:=am' (blk_below (g:=gb360) (o := .cells #[.slice Ao34 t356.length co34, .int .i64 t359] 28 (0,0)) (by (with_reducible repeat (first|refine kn' ?_ _|refine kd' ?_|refine ka' ?_ _));exact BK360.out) hb);have n6_:=am' (blk_below (g:=gb365) (o := .cells #[.slice Ao41 t361.length co41, .bool t364] 44 (0,0)) (by (with_reducible repeat (first|refine kn' ?_ _|refine kd' ?_|refine ka' ?_ _));exact BK365.out) hb);have n7_:=am' (below_step (by repeat (first|(with_reducible first|exact HB.out|apply ba'|apply bd'|apply be'|refine bs' ?_ GE342.out|refine bs' ?_ GE343.out|refine bs' ?_ GE360.out|refine bs' ?_ GE365.out)|exact HB.out)) hb);clear HO_361000;clear HO_366000;clear HO375;clear BK342;clear BK343;clear BK360;clear BK365;clear HB;have HO_361000:=n0_;have HO_366000:=n1_;have HO375:=n2_;have BK342:=n3_;have BK343:=n4_;have BK360:=n5_;have BK365:=n6_;have HB:=n7_;clear n0_ n1_ n2_ n3_ n4_ n5_ n6_ n7_;(try clear hb)
            (try clear hb2)
            (try clear hk)
            (try clear hi)
            refine hK.out _ _ ⟨(blk_cell BK365.out 0).trans rfl,(blk_cell BK365.out 1).trans rfl,(blk_cell BK343.out 0).trans rfl,(blk_cell BK343.out 1).trans rfl⟩ (fun hHeld=>?_);clear hK K;refine norm_ (a':=?_) ?_ ?_
            rotate_left
            ·
             show Act.put _ (some 56) _=_
             simp only[Act.put,sa',sb',sc',i64_w,i32_w];rfl
            refine pure_ (i:=4) (N:=some 57) (v:=?_) (a':=?_) #[true,true,true,true,true] rfl rfl (by kernel_rfl) (fun _ _ _ h=>h) (Or.inl ⟨by rfl,?_⟩) ?_ ?_
            rotate_left
            ·
             intro w';go_simp;with_reducible rfl
            rotate_left
            ·
             simp only[Act.put,sa',sb',sc',i64_w,i32_w];rfl
            refine done_ (by kernel_rfl) ?_
            try go_wp2
            go_ret
            exact ⟨by first|rfl|(simp[errW_none,errW_some] <;> rfl)|(simp[*,errW_none,errW_some] <;> rfl),by repeat (first|(with_reducible first|exact HB.out|apply ba'|apply bd'|apply be'|refine bs' ?_ GE342.out|refine bs' ?_ GE343.out|refine bs' ?_ GE360.out|refine bs' ?_ GE365.out)|exact HB.out)⟩
end Go.Proofs.Ytamljjfhkolflaa.C11
