import Derived.Test.YtamljjfhkolflaaC14zx0
import Derived.Test.YtamljjfhkolflaaC14zx1
import Derived.Test.YtamljjfhkolflaaC14zx5
import Derived.Test.YtamljjfhkolflaaC14zx6
import Derived.Test.YtamljjfhkolflaaC14zx7
import Derived.Test.YtamljjfhkolflaaC14zAl
namespace Go.Proofs.Ytamljjfhkolflaa.C14
open Go.RowKit Go.Proofs.YtamljjfhkolflaaW.PrintWords Go.Proofs.YtamljjfhkolflaaW.PrintLast Go.Proofs.YtamljjfhkolflaaW.PrintMore Go.Proofs.Ytamljjfhkolflaa.H
attribute [local go_sem] max2_int min2_int max_two min_two max_three min_three max_four min_four
set_option linter.unusedVariables false
set_option linter.unusedSimpArgs false
def spec_BestFirstTrips.j0:Nat→Bool→List Int→Int→Option ((List (List Int)) × Bool)
 | 0,_,_,_=>none
 | k+1,x11,x258000,x258001=>if x11=true then (some (([]:List (List Int)),false)) else ((spec_paLast.f k x258000 x258001).bind fun bt260=>((spec_seFar.f k x258000 x258001 bt260.1 bt260.2).bind fun t264=>((spec_paFirst.f x258000 x258001).bind fun bt267=>((spec_seNext.f k x258000 x258001 t264 bt267.1 bt267.2).bind fun t271=>(some (t271,true))))))
def spec_BestFirstTrips.f (k:Nat) (l0_0:List Int) (a0_1:Int):Option ((List (List Int)) × Bool):=(spec_paGood.f k l0_0 a0_1).bind fun t258=>(if t258=true then ((spec_seLeast.f k l0_0 a0_1).bind fun t259=>(spec_BestFirstTrips.j0 k (decide (t259 < 0)) l0_0 a0_1)) else (spec_BestFirstTrips.j0 k true l0_0 a0_1))
def spec_BestFirstTrips.T3:Bool × List (List Nat × List Nat):=(true,[([],[]),([],[]),([],[]),([2],[2]),([1,3,3],[1,3]),([],[]),([5,4],[5]),([0,4,6,6],[0,4,6]),([7,7,0,1,2,3,4,5,6,7],[7]),([8,0,1,2,3,4,5,6,7,8],[])])
def spec_BestFirstTrips.B3:List Nat:=[0,0,0,4,14,0,62,127,255,511]
theorem spec_BestFirstTrips.tab3:rtab .any (opsOf Try.f42 3)=spec_BestFirstTrips.T3:=by kernel_rfl
theorem spec_BestFirstTrips.bits3:waitsOk spec_BestFirstTrips.T3.2 spec_BestFirstTrips.B3=true:=by kernel_rfl
set_option maxHeartbeats 8000000 in
set_option maxRecDepth 100000 in
theorem spec_BestFirstTrips.calls (k:Nat) (A0_0:Option Addr) (c0_0:Nat) (l0_0:List Int) (a0_1:Int) (r1:List (List Int)) (r2:Bool) (w:World) (hr0_0:Kd.C (Kd.int .i64) w A0_0 l0_0.length l0_0) (hc0_0:l0_0.length≤c0_0) (h:spec_BestFirstTrips.f k l0_0 a0_1=some (r1,r2)) :
  Calls Try.prog 42 #[.agg #[.slice A0_0 l0_0.length c0_0, .int .i64 a0_1]] w fun e w'=>∃ v0_:Value,e = .returned (.tuple #[v0_, .bool r2])∧Kd.N (Kd.slice 3 (Kd.int .i64)) 22 w' w.heap.size (fun k_=>(w.heap.size≤k_)) v0_ r1∧Below w.heap.size w w':=by
 have hu28:=Try.underlying28
 have HR0_0:=am' hr0_0
 have HC0_0:=am' hc0_0
 clear hr0_0 hc0_0;have HB:=am' (Below.refl w.heap.size w)
 have H:((spec_paGood.f k l0_0 a0_1).bind fun t258=>(if t258=true then ((spec_seLeast.f k l0_0 a0_1).bind fun t259=>(spec_BestFirstTrips.j0 k (decide (t259 < 0)) l0_0 a0_1)) else (spec_BestFirstTrips.j0 k true l0_0 a0_1)))=some (r1,r2):=h
 clear h;have HC2:=am' H
 clear H;go_enter Try.func42,Try.ntmps42
 go_upto_region 1 with (first|((with_reducible refine gate_dst (N:=1) rfl ?_);refine box_event ?hg (N:=1) ?hd (cs:=#[.slice A0_0 l0_0.length c0_0, .int .i64 a0_1]) (t:=28) ?hr ?_;(case hd=>rfl);(case hg=>rfl);(case hr=>first|(go_simp;done)|(go_simp;rfl));intro gb257 hg w3 hbox hb;have n0_:=am' (below_step (by repeat (first|(with_reducible first|exact HB.out|apply ba'|apply bd'|apply be')|exact HB.out)) hb);have n1_:=am' (hbox);have n2_:=am' ((by rw[hg];exact (below_size (by repeat (first|(with_reducible first|exact HB.out|apply ba'|apply bd'|apply be')|exact HB.out))):w.heap.size≤gb257));have n3_:=am' ((by rw[hg];exact (below_size (by repeat (first|(with_reducible first|exact HB.out|apply ba'|apply bd'|apply be')|exact HB.out))):w.heap.size≤gb257));clear HB;have HB:=n0_;have BK257:=n1_;have GW257:=n2_;have GE257:=n3_;clear n0_ n1_ n2_ n3_;clear hb hbox hg))
 (try simp only[Act.put,sa',sb',sc'])
 go_cut [11] (fun v11 wc=>∃ (kq:Nat) (x11_1:Bool),v11 = .bool x11_1∧Aside0 (spec_BestFirstTrips.j0 kq x11_1 l0_0 a0_1=some (r1,r2))∧Aside0 (kq≤k)∧Aside0 (wc.heap[gb257]? = some (.cells #[(.slice A0_0 l0_0.length c0_0), .int .i64 a0_1] 28 (0,0)))∧Aside0 (Below w.heap.size w wc))
 case first =>
  have H:=HC2.out;clear HC2;replace H:=Option.bind_eq_some_iff.mp H;obtain ⟨t258,A40,H⟩:=H;replace H:(if t258=true then ((spec_seLeast.f k l0_0 a0_1).bind fun t259=>(spec_BestFirstTrips.j0 k (decide (t259 < 0)) l0_0 a0_1)) else (spec_BestFirstTrips.j0 k true l0_0 a0_1))=some (r1,r2):=H;have A4:=am' A40;clear A40;by_cases c5:t258=true
  ·
   subst c5;have H1:((spec_seLeast.f k l0_0 a0_1).bind fun t259=>(spec_BestFirstTrips.j0 k (decide (t259 < 0)) l0_0 a0_1))=some (r1,r2):=by rw[if_pos rfl] at H;exact H
   clear H;have H:=H1;clear H1;replace H:=Option.bind_eq_some_iff.mp H;obtain ⟨t259,A60,H⟩:=H;replace H:(spec_BestFirstTrips.j0 k (decide (t259 < 0)) l0_0 a0_1)=some (r1,r2):=H;have A6:=am' A60;clear A60;have H':=am' H;clear H;have hcz7_0:w3.cell? ⟨gb257,0,none⟩=some (.slice A0_0 l0_0.length c0_0):=(blk_cell BK257.out 0).trans rfl;have hcz7_1:w3.cell? ⟨gb257,1,none⟩=some (.int .i64 a0_1):=(blk_cell BK257.out 1).trans rfl;have hfz7_0:=blk_frozen BK257.out 0;have hfz7_1:=blk_frozen BK257.out 1;go_wp2_with (first|((with_reducible refine gate_callee (f:=59) rfl ?_);refine goesL_ (some 5) rfl rfl Try.func59 (by kernel_rfl) rfl #[.agg #[.slice A0_0 l0_0.length c0_0, .int .i64 a0_1]] rfl (by (try simp only[List.map_toArray,List.map_cons,List.map_nil]);first|done|rfl|(simp only[List.length_drop,List.length_take];rfl)) ?_;(with_reducible refine (spec_paGood.calls k _ _ l0_0 a0_1 true _ ?side1 ?side2 A4.out).mono ?_);(case side1=>repeat (first|exact (Kd.C_below HR0_0.out HB.out)|(with_reducible refine ca' ?_ _)|(with_reducible refine cn' ?_ _)|(with_reducible refine cd' ?_)));(case side2=>exact HC0_0.out);rintro e w8 ⟨rfl,hb⟩;refine ⟨_,rfl,?_⟩;have n0_:=am' (blk_below (g:=gb257) (o := .cells #[.slice A0_0 l0_0.length c0_0, .int .i64 a0_1] 28 (0,0)) (by (with_reducible repeat (first|refine kn' ?_ _|refine kd' ?_|refine ka' ?_ _));exact BK257.out) hb);have n1_:=am' (below_step (by repeat (first|(with_reducible first|exact HB.out|apply ba'|apply bd'|apply be'|refine bs' ?_ GE257.out)|exact HB.out)) hb);clear BK257;clear HB;have BK257:=n0_;have HB:=n1_;clear n0_ n1_;(try clear hb);(try clear hb2);(try clear hk);(try clear hi);have hcz9_0:w8.cell? ⟨gb257,0,none⟩=some (.slice A0_0 l0_0.length c0_0):=(blk_cell BK257.out 0).trans rfl;have hcz9_1:w8.cell? ⟨gb257,1,none⟩=some (.int .i64 a0_1):=(blk_cell BK257.out 1).trans rfl;have hfz9_0:=blk_frozen BK257.out 0;have hfz9_1:=blk_frozen BK257.out 1)|(go_at_call 69;(with_reducible refine (spec_seLeast.calls k _ _ l0_0 a0_1 t259 _ ?side1 ?side2 A6.out).mono ?_);(case side1=>repeat (first|exact (Kd.C_below HR0_0.out HB.out)|(with_reducible refine ca' ?_ _)|(with_reducible refine cn' ?_ _)|(with_reducible refine cd' ?_)));(case side2=>exact HC0_0.out);rintro e w10 ⟨rfl,hb⟩;have n0_:=am' (blk_below (g:=gb257) (o := .cells #[.slice A0_0 l0_0.length c0_0, .int .i64 a0_1] 28 (0,0)) (by (with_reducible repeat (first|refine kn' ?_ _|refine kd' ?_|refine ka' ?_ _));exact BK257.out) hb);have n1_:=am' (below_step (by repeat (first|(with_reducible first|exact HB.out|apply ba'|apply bd'|apply be'|refine bs' ?_ GE257.out)|exact HB.out)) hb);clear BK257;clear HB;have BK257:=n0_;have HB:=n1_;clear n0_ n1_;(try clear hb);(try clear hb2);(try clear hk);(try clear hi)));go_meet
   case rel=>exact ⟨_,(decide (t259 < 0)),(by first|rfl|(simp;done)|(simp[*];done)),H',⟨by first|omega|exact Nat.le_refl _⟩,⟨by (with_reducible repeat (first|refine kn' ?_ _|refine kd' ?_|refine ka' ?_ _));exact BK257.out⟩,⟨by repeat (first|(with_reducible first|exact HB.out|apply ba'|apply bd'|apply be'|refine bs' ?_ GE257.out)|exact HB.out)⟩⟩
  ·
   replace c5:=Bool.eq_false_iff.mpr c5;subst c5;have H1:(spec_BestFirstTrips.j0 k true l0_0 a0_1)=some (r1,r2):=by rw[if_neg (show ¬ (false=true) by decide)] at H;exact H
   clear H;have H:=H1;clear H1;have H':=am' H;clear H;have hcz11_0:w3.cell? ⟨gb257,0,none⟩=some (.slice A0_0 l0_0.length c0_0):=(blk_cell BK257.out 0).trans rfl;have hcz11_1:w3.cell? ⟨gb257,1,none⟩=some (.int .i64 a0_1):=(blk_cell BK257.out 1).trans rfl;have hfz11_0:=blk_frozen BK257.out 0;have hfz11_1:=blk_frozen BK257.out 1;go_wp2_with (first|((with_reducible refine gate_callee (f:=59) rfl ?_);refine goesL_ (some 5) rfl rfl Try.func59 (by kernel_rfl) rfl #[.agg #[.slice A0_0 l0_0.length c0_0, .int .i64 a0_1]] rfl (by (try simp only[List.map_toArray,List.map_cons,List.map_nil]);first|done|rfl|(simp only[List.length_drop,List.length_take];rfl)) ?_;(with_reducible refine (spec_paGood.calls k _ _ l0_0 a0_1 false _ ?side1 ?side2 A4.out).mono ?_);(case side1=>repeat (first|exact (Kd.C_below HR0_0.out HB.out)|(with_reducible refine ca' ?_ _)|(with_reducible refine cn' ?_ _)|(with_reducible refine cd' ?_)));(case side2=>exact HC0_0.out);rintro e w12 ⟨rfl,hb⟩;refine ⟨_,rfl,?_⟩;have n0_:=am' (blk_below (g:=gb257) (o := .cells #[.slice A0_0 l0_0.length c0_0, .int .i64 a0_1] 28 (0,0)) (by (with_reducible repeat (first|refine kn' ?_ _|refine kd' ?_|refine ka' ?_ _));exact BK257.out) hb);have n1_:=am' (below_step (by repeat (first|(with_reducible first|exact HB.out|apply ba'|apply bd'|apply be'|refine bs' ?_ GE257.out)|exact HB.out)) hb);clear BK257;clear HB;have BK257:=n0_;have HB:=n1_;clear n0_ n1_;(try clear hb);(try clear hb2);(try clear hk);(try clear hi)));go_meet
   case rel=>exact ⟨_,(true),(by first|rfl|(simp;done)|(simp[*];done)),H',⟨by first|omega|exact Nat.le_refl _⟩,⟨by (with_reducible repeat (first|refine kn' ?_ _|refine kd' ?_|refine ka' ?_ _));exact BK257.out⟩,⟨by repeat (first|(with_reducible first|exact HB.out|apply ba'|apply bd'|apply be'|refine bs' ?_ GE257.out)|exact HB.out)⟩⟩
 case rest =>
  clear HC2;try clear p2
  try clear c4
  try clear c5
  try clear hcz11_0
  try clear hcz11_1
  try clear hcz7_0
  try clear hcz7_1
  try clear hcz9_0
  try clear hcz9_1
  try clear hfz11_0
  try clear hfz11_1
  try clear hfz7_0
  try clear hfz7_1
  try clear hfz9_0
  try clear hfz9_1
  obtain ⟨kq,x11_1,rfl,HA,HJ1,BK257,HB⟩:=hcut;cases kq with
  | zero=>exact absurd HA.out (by simp[spec_BestFirstTrips.j0])
  | succ kj1 =>
   have H:=HA.out;clear HA;simp only[spec_BestFirstTrips.j0] at H;by_cases c13:x11_1=true
   ·
    subst c13;have H1:(some (([]:List (List Int)),false))=some (r1,r2):=by rw[if_pos rfl] at H;exact H
    clear H;have H:=H1;clear H1;simp only[Option.some.injEq,Prod.mk.injEq] at H;obtain ⟨rfl,rfl⟩:=H;go_wp2;go_ret2
    exact ⟨_,by first|rfl|(simp[errW_none,errW_some] <;> rfl)|(simp[*,errW_none,errW_some] <;> rfl),by first|exact Kd.S_nil _ _ _ _ _|exact Kd.N_nil _ _ _ _ _|exact Kd.V_nil _ _ _ _ _|exact Kd.Q_nil _ _ _ _ _|exact Kd.R_nil _ _ _ _ _,by repeat (first|(with_reducible first|exact HB.out|apply ba'|apply bd'|apply be'|refine bs' ?_ GE257.out)|exact HB.out)⟩
   ·
    replace c13:=Bool.eq_false_iff.mpr c13;subst c13;have H1:((spec_paLast.f kj1 l0_0 a0_1).bind fun bt260=>((spec_seFar.f kj1 l0_0 a0_1 bt260.1 bt260.2).bind fun t264=>((spec_paFirst.f l0_0 a0_1).bind fun bt267=>((spec_seNext.f kj1 l0_0 a0_1 t264 bt267.1 bt267.2).bind fun t271=>(some (t271,true))))))=some (r1,r2):=by rw[if_neg (show ¬ (false=true) by decide)] at H;exact H
    clear H;have H:=H1;clear H1;replace H:=Option.bind_eq_some_iff.mp H;obtain ⟨⟨t260,t263⟩,A140,H⟩:=H;replace H:((spec_seFar.f kj1 l0_0 a0_1 t260 t263).bind fun t264=>((spec_paFirst.f l0_0 a0_1).bind fun bt267=>((spec_seNext.f kj1 l0_0 a0_1 t264 bt267.1 bt267.2).bind fun t271=>(some (t271,true)))))=some (r1,r2):=H;have A14:=am' A140;clear A140;replace H:=Option.bind_eq_some_iff.mp H;obtain ⟨t264,A150,H⟩:=H;replace H:((spec_paFirst.f l0_0 a0_1).bind fun bt267=>((spec_seNext.f kj1 l0_0 a0_1 t264 bt267.1 bt267.2).bind fun t271=>(some (t271,true))))=some (r1,r2):=H;have A15:=am' A150;clear A150;replace H:=Option.bind_eq_some_iff.mp H;obtain ⟨⟨t267,t270⟩,A160,H⟩:=H;replace H:((spec_seNext.f kj1 l0_0 a0_1 t264 t267 t270).bind fun t271=>(some (t271,true)))=some (r1,r2):=H;have A16:=am' A160;clear A160;replace H:=Option.bind_eq_some_iff.mp H;obtain ⟨t271,A170,H⟩:=H;replace H:(some (t271,true))=some (r1,r2):=H;have A17:=am' A170;clear A170;simp only[Option.some.injEq,Prod.mk.injEq] at H;obtain ⟨rfl,rfl⟩:=H
    try go_wp2
    have n0_:=am' (kd' BK257.out);have n1_:=am' (be' HB.out);clear BK257;clear HB;have BK257:=n0_;have HB:=n1_;clear n0_ n1_;refine start_ (n:=10) (S:=fun w'=>w'.cell? ⟨gb257,0,none⟩=some (.slice A0_0 l0_0.length c0_0)∧w'.cell? ⟨gb257,1,none⟩=some (.int .i64 a0_1)) (ds:=[]) #[false,false,false,false,false,false,false,false,false,false] (by kernel_rfl) rfl rfl ⟨(blk_cell BK257.out 0).trans rfl,(blk_cell BK257.out 1).trans rfl⟩ (fun hHeld=>?_);refine with_tabW spec_BestFirstTrips.tab3 spec_BestFirstTrips.bits3 (fun HT_ HW_=>?_);generalize wc.drew=w18 at BK257 HB hHeld ⊢
    refine take_ (i:=0) (N:=some 12) (v:=?_) (a':=?_) #[true,false,false,false,false,false,false,false,false,false] rfl rfl (take_ofW HT_.out HW_.out (by kernel_rfl)) (fun _ _ _ h=>h) (Or.inl ⟨by rfl,?_⟩) hHeld ?_ ?_
    rotate_left
    ·
     rintro w' ⟨s0,s1⟩
     go_simp;with_reducible rfl
    rotate_left
    ·
     simp only[Act.put,sa',sb',sc',i64_w,i32_w];rfl
    refine take_ (i:=1) (N:=some 13) (v:=?_) (a':=?_) #[true,true,false,false,false,false,false,false,false,false] rfl rfl (take_ofW HT_.out HW_.out (by kernel_rfl)) (fun _ _ _ h=>h) (Or.inl ⟨by rfl,?_⟩) hHeld ?_ ?_
    rotate_left
    ·
     rintro w' ⟨s0,s1⟩
     go_simp;with_reducible rfl
    rotate_left
    ·
     simp only[Act.put,sa',sb',sc',i64_w,i32_w];rfl
    refine take_ (i:=2) (N:=some 14) (v:=?_) (a':=?_) #[true,true,true,false,false,false,false,false,false,false] rfl rfl (take_ofW HT_.out HW_.out (by kernel_rfl)) (fun _ _ _ h=>h) (Or.inl ⟨by rfl,?_⟩) hHeld ?_ ?_
    rotate_left
    ·
     rintro w' ⟨s0,s1⟩
     go_simp;with_reducible rfl
    rotate_left
    ·
     simp only[Act.put,sa',sb',sc',i64_w,i32_w];rfl
    refine take_ (i:=5) (N:=some 17) (v:=?_) (a':=?_) #[true,true,true,false,false,true,false,false,false,false] rfl rfl (take_ofW HT_.out HW_.out (by kernel_rfl)) (fun _ _ _ h=>h) (Or.inl ⟨by rfl,?_⟩) hHeld ?_ ?_
    rotate_left
    ·
     rintro w' ⟨s0,s1⟩
     go_simp;with_reducible rfl
    rotate_left
    ·
     simp only[Act.put,sa',sb',sc',i64_w,i32_w];rfl
    refine one_ (i:=3) (N:=some 15) #[true,true,true,true,false,true,false,false,false,false] rfl rfl (one_of HT_.out (by kernel_rfl)) (by decide) (fun K hK=>?_);refine goes_ Try.func83 (by kernel_rfl) rfl #[.agg #[.slice A0_0 l0_0.length c0_0, .int .i64 a0_1]] (by rfl) rfl rfl (by (try simp only[List.map_toArray,List.map_cons,List.map_nil]);first|done|rfl|(simp only[List.length_drop,List.length_take];rfl)) ?_
    with_reducible refine (spec_paLast.calls kj1 _ _ l0_0 a0_1 t260 t263 _ ?side1 ?side2 A14.out).mono ?_
    (case side1=>repeat (first|exact (Kd.C_below HR0_0.out HB.out)|(with_reducible refine ca' ?_ _)|(with_reducible refine cn' ?_ _)|(with_reducible refine cd' ?_)))
    (case side2=>exact HC0_0.out)
    rintro e w19 ⟨v261,rfl,ho0,hb⟩
    refine ⟨_,rfl,?_⟩;have n0_:=am' (Kd.R_lower (Kd.R_newM (M:=fun k_=>(w.heap.size≤k_)) ho0 (below_size (by repeat (first|(with_reducible first|exact HB.out|apply ba'|apply bd'|apply be'|refine bs' ?_ GE257.out)|exact HB.out))) (fun k_ h_=>h_)) (below_size (by repeat (first|(with_reducible first|exact HB.out|apply ba'|apply bd'|apply be'|refine bs' ?_ GE257.out)|exact HB.out))));have n1_:=am' (blk_below (g:=gb257) (o := .cells #[.slice A0_0 l0_0.length c0_0, .int .i64 a0_1] 28 (0,0)) (by (with_reducible repeat (first|refine kn' ?_ _|refine kd' ?_|refine ka' ?_ _));exact BK257.out) hb);have n2_:=am' (below_step (by repeat (first|(with_reducible first|exact HB.out|apply ba'|apply bd'|apply be'|refine bs' ?_ GE257.out)|exact HB.out)) hb);clear BK257;clear HB;have HO262:=n0_;have BK257:=n1_;have HB:=n2_;clear n0_ n1_ n2_;(try clear hb)
    (try clear hb2)
    (try clear hk)
    (try clear hi)
    (try clear ho0)
    obtain ⟨Ao20,co20,eo20⟩:=Kd.R_slice HO262.out
    (first|subst eo20|(injection eo20 with f1_ f2_ f3_;have f4_:=f1_.symm;have f5_:=f3_.symm;clear f1_ f2_ f3_;subst f4_;subst f5_))
    refine hK.out _ _ ⟨(blk_cell BK257.out 0).trans rfl,(blk_cell BK257.out 1).trans rfl⟩ (fun hHeld=>?_);clear hK K;refine norm_ (a':=?_) ?_ ?_
    rotate_left
    ·
     show Act.put _ (some 15) _=_
     simp only[Act.put,sa',sb',sc',i64_w,i32_w];rfl
    refine one_ (i:=4) (N:=some 16) #[true,true,true,true,true,true,false,false,false,false] rfl rfl (one_of HT_.out (by kernel_rfl)) (by decide) (fun K hK=>?_);refine goes_ Try.func61 (by kernel_rfl) rfl #[.agg #[.slice A0_0 l0_0.length c0_0, .int .i64 a0_1], .agg #[.slice Ao20 t260.length co20, .bool t263]] (by rfl) rfl rfl (by (try simp only[List.map_toArray,List.map_cons,List.map_nil]);first|done|rfl|(simp only[List.length_drop,List.length_take];rfl)) ?_
    with_reducible refine (spec_seFar.calls kj1 _ _ l0_0 a0_1 _ _ t260 t263 t264 _ ?side1 ?side2 ?side3 ?side4 A15.out).mono ?_
    (case side1=>repeat (first|exact (Kd.C_below HR0_0.out HB.out)|(with_reducible refine ca' ?_ _)|(with_reducible refine cn' ?_ _)|(with_reducible refine cd' ?_)))
    (case side2=>exact HC0_0.out)
    (case side3=>repeat (first|exact (Kd.R_reads' HO262.out).2.2|(with_reducible refine ca' ?_ _)|(with_reducible refine cn' ?_ _)|(with_reducible refine cd' ?_)))
    (case side4=>exact (Kd.R_reads' HO262.out).2.1)
    rintro e w21 ⟨v265,rfl,ho0,hb⟩
    refine ⟨_,rfl,?_⟩;have n0_:=am' (Kd.R_below (by (with_reducible repeat (first|apply ra'|apply rn'|apply rw'));exact HO262.out) hb);have n1_:=am' (Kd.R_lower (Kd.R_newM (M:=fun k_=>(w.heap.size≤k_)) ho0 (below_size (by repeat (first|(with_reducible first|exact HB.out|apply ba'|apply bd'|apply be'|refine bs' ?_ GE257.out)|exact HB.out))) (fun k_ h_=>h_)) (below_size (by repeat (first|(with_reducible first|exact HB.out|apply ba'|apply bd'|apply be'|refine bs' ?_ GE257.out)|exact HB.out))));have n2_:=am' (blk_below (g:=gb257) (o := .cells #[.slice A0_0 l0_0.length c0_0, .int .i64 a0_1] 28 (0,0)) (by (with_reducible repeat (first|refine kn' ?_ _|refine kd' ?_|refine ka' ?_ _));exact BK257.out) hb);have n3_:=am' (below_step (by repeat (first|(with_reducible first|exact HB.out|apply ba'|apply bd'|apply be'|refine bs' ?_ GE257.out)|exact HB.out)) hb);clear HO262;clear BK257;clear HB;have HO262:=n0_;have HO266:=n1_;have BK257:=n2_;have HB:=n3_;clear n0_ n1_ n2_ n3_;(try clear hb)
    (try clear hb2)
    (try clear hk)
    (try clear hi)
    (try clear ho0)
    refine hK.out _ _ ⟨(blk_cell BK257.out 0).trans rfl,(blk_cell BK257.out 1).trans rfl⟩ (fun hHeld=>?_);clear hK K;refine norm_ (a':=?_) ?_ ?_
    rotate_left
    ·
     show Act.put _ (some 16) _=_
     simp only[Act.put,sa',sb',sc',i64_w,i32_w];rfl
    refine one_ (i:=6) (N:=some 18) #[true,true,true,true,true,true,true,false,false,false] rfl rfl (one_of HT_.out (by kernel_rfl)) (by decide) (fun K hK=>?_);refine goes_ Try.func62 (by kernel_rfl) rfl #[.agg #[.slice A0_0 l0_0.length c0_0, .int .i64 a0_1]] (by rfl) rfl rfl (by (try simp only[List.map_toArray,List.map_cons,List.map_nil]);first|done|rfl|(simp only[List.length_drop,List.length_take];rfl)) ?_
    with_reducible refine (spec_paFirst.calls _ _ l0_0 a0_1 t267 t270 _ ?side1 ?side2 A16.out).mono ?_
    (case side1=>repeat (first|exact (Kd.C_below HR0_0.out HB.out)|(with_reducible refine ca' ?_ _)|(with_reducible refine cn' ?_ _)|(with_reducible refine cd' ?_)))
    (case side2=>exact HC0_0.out)
    rintro e w22 ⟨v268,rfl,ho0,hb⟩
    refine ⟨_,rfl,?_⟩;have n0_:=am' (Kd.R_elder' (by (with_reducible repeat (first|apply ra'|apply rn'|apply rw'));exact HO262.out) (Kd.R_base ho0) hb);have n1_:=am' (Kd.R_below (by (with_reducible repeat (first|apply ra'|apply rn'|apply rw'));exact HO266.out) hb);have n2_:=am' (Kd.R_lower (Kd.R_new' (Kd.R_newM (M:=fun k_=>(w.heap.size≤k_)) ho0 (below_size (by repeat (first|(with_reducible first|exact HB.out|apply ba'|apply bd'|apply be'|refine bs' ?_ GE257.out)|exact HB.out))) (fun k_ h_=>h_)) (Kd.R_lt (by (with_reducible repeat (first|apply ra'|apply rn'|apply rw'));exact HO262.out))) (below_size (by repeat (first|(with_reducible first|exact HB.out|apply ba'|apply bd'|apply be'|refine bs' ?_ GE257.out)|exact HB.out))));have n3_:=am' (blk_below (g:=gb257) (o := .cells #[.slice A0_0 l0_0.length c0_0, .int .i64 a0_1] 28 (0,0)) (by (with_reducible repeat (first|refine kn' ?_ _|refine kd' ?_|refine ka' ?_ _));exact BK257.out) hb);have n4_:=am' (below_step (by repeat (first|(with_reducible first|exact HB.out|apply ba'|apply bd'|apply be'|refine bs' ?_ GE257.out)|exact HB.out)) hb);clear HO262;clear HO266;clear BK257;clear HB;have HO262:=n0_;have HO266:=n1_;have HO269:=n2_;have BK257:=n3_;have HB:=n4_;clear n0_ n1_ n2_ n3_ n4_;(try clear hb)
    (try clear hb2)
    (try clear hk)
    (try clear hi)
    (try clear ho0)
    obtain ⟨Ao23,co23,eo23⟩:=Kd.R_slice HO266.out
    (first|subst eo23|(injection eo23 with f1_ f2_ f3_;have f4_:=f1_.symm;have f5_:=f3_.symm;clear f1_ f2_ f3_;subst f4_;subst f5_))
    obtain ⟨Ao24,co24,eo24⟩:=Kd.R_slice HO269.out
    (first|subst eo24|(injection eo24 with f1_ f2_ f3_;have f4_:=f1_.symm;have f5_:=f3_.symm;clear f1_ f2_ f3_;subst f4_;subst f5_))
    refine hK.out _ _ ⟨(blk_cell BK257.out 0).trans rfl,(blk_cell BK257.out 1).trans rfl⟩ (fun hHeld=>?_);clear hK K;refine norm_ (a':=?_) ?_ ?_
    rotate_left
    ·
     show Act.put _ (some 18) _=_
     simp only[Act.put,sa',sb',sc',i64_w,i32_w];rfl
    refine one_ (i:=7) (N:=some 19) #[true,true,true,true,true,true,true,true,false,false] rfl rfl (one_of HT_.out (by kernel_rfl)) (by decide) (fun K hK=>?_);refine goes_ Try.func85 (by kernel_rfl) rfl #[.agg #[.slice A0_0 l0_0.length c0_0, .int .i64 a0_1], .slice Ao23 t264.length co23, .agg #[.slice Ao24 t267.length co24, .bool t270]] (by rfl) rfl rfl (by (try simp only[List.map_toArray,List.map_cons,List.map_nil]);first|done|rfl|(simp only[List.length_drop,List.length_take];rfl)) ?_
    with_reducible refine (spec_seNext.calls kj1 _ _ l0_0 a0_1 _ _ t264 _ _ t267 t270 t271 _ ?side1 ?side2 ?side3 ?side4 ?side5 ?side6 A17.out).mono ?_
    (case side1=>repeat (first|exact (Kd.C_below HR0_0.out HB.out)|(with_reducible refine ca' ?_ _)|(with_reducible refine cn' ?_ _)|(with_reducible refine cd' ?_)))
    (case side2=>exact HC0_0.out)
    (case side3=>repeat (first|exact (Kd.R_reads' HO266.out).2.2|(with_reducible refine ca' ?_ _)|(with_reducible refine cn' ?_ _)|(with_reducible refine cd' ?_)))
    (case side4=>exact (Kd.R_reads' HO266.out).2.1)
    (case side5=>repeat (first|exact (Kd.R_reads' HO269.out).2.2|(with_reducible refine ca' ?_ _)|(with_reducible refine cn' ?_ _)|(with_reducible refine cd' ?_)))
    (case side6=>exact (Kd.R_reads' HO269.out).2.1)
    rintro e w25 ⟨v272,rfl,ho0,hb⟩
    refine ⟨_,rfl,?_⟩;have n0_:=am' (Kd.R_below (by (with_reducible repeat (first|apply ra'|apply rn'|apply rw'));exact HO262.out) hb);have n1_:=am' (Kd.R_below (by (with_reducible repeat (first|apply ra'|apply rn'|apply rw'));exact HO266.out) hb);have n2_:=am' (Kd.R_below (by (with_reducible repeat (first|apply ra'|apply rn'|apply rw'));exact HO269.out) hb);have n3_:=am' (Kd.N_lower (Kd.N_mono (ok':=fun k_=>(w.heap.size≤k_)∧some k_≠(.slice Ao20 t260.length co20:Value).ownBlock∧some k_≠(.slice Ao23 t264.length co23:Value).ownBlock∧some k_≠(.slice Ao24 t267.length co24:Value).ownBlock∧k_≠gb257) ho0 (fun k_ hk_=>⟨(Nat.le_trans (below_size (by repeat (first|(with_reducible first|exact HB.out|apply ba'|apply bd'|apply be'|refine bs' ?_ GE257.out)|exact HB.out))) hk_),(Kd.fresh' (Kd.R_lt (by (with_reducible repeat (first|apply ra'|apply rn'|apply rw'));exact HO262.out)) k_ hk_),(Kd.fresh' (Kd.R_lt (by (with_reducible repeat (first|apply ra'|apply rn'|apply rw'));exact HO266.out)) k_ hk_),(Kd.fresh' (Kd.R_lt (by (with_reducible repeat (first|apply ra'|apply rn'|apply rw'));exact HO269.out)) k_ hk_),(Kd.freshB (g:=gb257) (o := .cells #[.slice A0_0 l0_0.length c0_0, .int .i64 a0_1] 28 (0,0)) (by (with_reducible repeat (first|refine kn' ?_ _|refine kd' ?_|refine ka' ?_ _));exact BK257.out) k_ hk_)⟩)) (below_size (by repeat (first|(with_reducible first|exact HB.out|apply ba'|apply bd'|apply be'|refine bs' ?_ GE257.out)|exact HB.out))));have n4_:=am' (blk_below (g:=gb257) (o := .cells #[.slice A0_0 l0_0.length c0_0, .int .i64 a0_1] 28 (0,0)) (by (with_reducible repeat (first|refine kn' ?_ _|refine kd' ?_|refine ka' ?_ _));exact BK257.out) hb);have n5_:=am' (below_step (by repeat (first|(with_reducible first|exact HB.out|apply ba'|apply bd'|apply be'|refine bs' ?_ GE257.out)|exact HB.out)) hb);clear HO262;clear HO266;clear HO269;clear BK257;clear HB;have HO262:=n0_;have HO266:=n1_;have HO269:=n2_;have HO273:=n3_;have BK257:=n4_;have HB:=n5_;clear n0_ n1_ n2_ n3_ n4_ n5_;(try clear hb)
    (try clear hb2)
    (try clear hk)
    (try clear hi)
    (try clear ho0)
    refine hK.out _ _ ⟨(blk_cell BK257.out 0).trans rfl,(blk_cell BK257.out 1).trans rfl⟩ (fun hHeld=>?_);clear hK K;refine norm_ (a':=?_) ?_ ?_
    rotate_left
    ·
     show Act.put _ (some 19) _=_
     simp only[Act.put,sa',sb',sc',i64_w,i32_w];rfl
    refine pure_ (i:=8) (N:=some 2) (v:=?_) (a':=?_) #[true,true,true,true,true,true,true,true,true,false] rfl rfl (any_of HT_.out (by kernel_rfl)) (fun _ _ _ h=>h) (Or.inl ⟨by rfl,?_⟩) ?_ ?_
    rotate_left
    ·
     intro w';go_simp;with_reducible rfl
    rotate_left
    ·
     simp only[Act.put,sa',sb',sc',i64_w,i32_w];rfl
    refine pure_ (i:=9) (N:=some 3) (v:=?_) (a':=?_) #[true,true,true,true,true,true,true,true,true,true] rfl rfl (any_of HT_.out (by kernel_rfl)) (fun _ _ _ h=>h) (Or.inl ⟨by rfl,?_⟩) ?_ ?_
    rotate_left
    ·
     intro w';go_simp;with_reducible rfl
    rotate_left
    ·
     simp only[Act.put,sa',sb',sc',i64_w,i32_w];rfl
    refine done_ (done_of HT_.out (by kernel_rfl)) ?_
    try go_wp2
    go_ret2
    exact ⟨_,by first|rfl|(simp[errW_none,errW_some] <;> rfl)|(simp[*,errW_none,errW_some] <;> rfl),by (with_reducible repeat (first|apply Kd.N_alloc|apply Kd.N_drewN|apply Kd.N_drew));exact Kd.N_mono HO273.out (fun _ hk=>hk.1),by repeat (first|(with_reducible first|exact HB.out|apply ba'|apply bd'|apply be'|refine bs' ?_ GE257.out)|exact HB.out)⟩
def impl_in.f (a0:Int) (a1:Int) (a2:Int):Option (Bool):=if a1≤a0 then (some (decide (a0≤a2))) else (some false)
set_option maxHeartbeats 8000000 in
set_option maxRecDepth 100000 in
theorem impl_in.calls (a0:Int) (a1:Int) (a2:Int) (r:Bool) (w:World) (h:impl_in.f a0 a1 a2=some r) :
  Calls Try.prog 65 #[.int .i64 a0, .int .i64 a1, .int .i64 a2] w fun e w'=>e = .returned (.bool r)∧Drawn0 w w':=by
 have H:(if a1≤a0 then (some (decide (a0≤a2))) else (some false))=some r:=h
 clear h;by_cases c4:a1≤a0
 ·
  rw[if_pos c4] at H;have c4b0:decide (a1≤a0)=true:=decide_eq_true c4;clear c4;obtain rfl:=Option.some.inj H;go_enter Try.func65,Try.ntmps65;go_wp2;go_ret
  exact ⟨by first|rfl|(simp;done)|(simp[*];done),by repeat (first|exact Drawn0.refl _|apply Drawn0.step)⟩
 ·
  rw[if_neg c4] at H;have c4b0:decide (a1≤a0)=false:=decide_eq_false c4;clear c4;obtain rfl:=Option.some.inj H;go_enter Try.func65,Try.ntmps65;go_wp2;go_ret
  exact ⟨by first|rfl|(simp;done)|(simp[*];done),by repeat (first|exact Drawn0.refl _|apply Drawn0.step)⟩
def PredOn (g:Nat) (lb:Array Value) (p:Int→Bool) (xs:List Int) (w:World):Prop :=
 ∀ x,x ∈ xs→∀ W:World,Below w.heap.size w W→Calls Try.prog g (#[.int .i64 x] ++ lb) W fun e w'=>e = .returned (.bool (p x))∧Below W.heap.size W w'
set_option maxHeartbeats 2000000 in
set_option maxRecDepth 100000 in
theorem IndexFunc_any (g:Nat) (lb:Array Value) (p:Int→Bool) (eg:∀ args w,(callFunc g args).run Try.prog w = .ok (.enter g args) w) (A0:Option Addr) (c0:Nat) (xs:List Int) (w:World) (hr:Kd.C (Kd.int .i64) w A0 xs.length xs) (hl:xs.length≤c0) (hbig:xs.length≤9223372036854775807)
  (hp:PredOn g lb p xs w) :
  Calls Try.prog 129 #[.slice A0 xs.length c0, .func (.func g) #[] lb] w fun e w'=>e = .returned (.int .i64 (idxF p xs))∧Below w.heap.size w w':=by
 have HP:=am' hp
 have HR:=am' hr
 clear hp hr;go_enter Try.func129,Try.ntmps129
 go_wp2
 go_loopg [5,8] xs.length (fun gg _ s8 wr=>∃ kk:Nat,kk≤xs.length∧xs.length - kk≤gg∧s8 = .int .i64 kk∧Aside0 (Below w.heap.size w wr)∧Aside0 (∀ j,j < kk→p (rd xs (j:Nat))=false))
 case atStart=>exact ⟨0,Nat.zero_le _,by omega,rfl,⟨Below.refl _ w⟩,⟨fun j hj=>absurd hj (Nat.not_lt_zero _)⟩⟩
 case round =>
  obtain ⟨kk,hkk,hg,rfl,BW,AA⟩:=hrel;by_cases hlt:kk < xs.length
  ·
   have hltz:(kk:Int) < (xs.length:Int):=by omega
   obtain ⟨ad,e0,hx0⟩:=Kd.at_int HR.out (kk:Int) (by omega) hltz;cases e0;have hx:=(BW.out.cell (bl' w _ hx0)).trans hx0;clear hx0;rw[Int.toNat_natCast] at hx;have hcall:=HP.out (rd xs kk) (rd_mem xs kk hlt) wr BW.out;generalize hy:rd xs kk=y at hx hcall
   have B:Aside0 (rd xs kk=y):=⟨hy⟩
   clear hy;cases hq:p y with
   | true =>
    rw[hq] at hcall;go_wp2_with fail;refine hcall.mono ?_
    rintro e w' ⟨rfl,hb'⟩
    clear hcall hx;go_wp2;go_ret
    refine ⟨?_,below_step BW.out hb'⟩;rw[idxF_hit p xs kk hlt (by rw[B.out];exact hq) AA.out];rfl
   | false =>
    rw[hq] at hcall;go_wp2_with fail;refine hcall.mono ?_
    rintro e w' ⟨rfl,hb'⟩
    clear hcall hx;go_wp2;go_roundg (xs.length - (kk+1))
    case measure=>omega
    case rel =>
     refine ⟨kk+1,by omega,by omega,by go_num,⟨below_step BW.out hb'⟩,⟨fun j hj=>?_⟩⟩;by_cases e:j=kk
     ·
      subst e;rw[B.out];exact hq
     ·
      exact AA.out j (by omega)
  ·
   have hltz:¬ (kk:Int) < (xs.length:Int):=by omega
   have:kk=xs.length:=by omega
   subst this;go_wp2;go_ret
   refine ⟨?_,BW.out⟩;rw[idxF_miss p xs AA.out];rfl
set_option maxHeartbeats 2000000 in
set_option maxRecDepth 100000 in
theorem ContainsFunc_any (g:Nat) (lb:Array Value) (p:Int→Bool) (eg:∀ args w,(callFunc g args).run Try.prog w = .ok (.enter g args) w) (A0:Option Addr) (c0:Nat) (xs:List Int) (w:World) (hr:Kd.C (Kd.int .i64) w A0 xs.length xs) (hl:xs.length≤c0) (hbig:xs.length≤9223372036854775807)
  (hp:PredOn g lb p xs w) :
  Calls Try.prog 122 #[.slice A0 xs.length c0, .func (.func g) #[] lb] w fun e w'=>e = .returned (.bool (xs.any p))∧Below w.heap.size w w':=by
 have HH:=am' (IndexFunc_any g lb p eg A0 c0 xs w hr hl hbig hp)
 clear hr hl hp;go_enter Try.func122,Try.ntmps122
 go_wp2_with (go_at_call 129;refine HH.out.mono ?_;rintro e w' ⟨rfl,hb⟩)
 go_ret
 refine ⟨?_,hb⟩
 rw[← idxF_any]
 rfl
theorem in_calls (x lo hi:Int) (w:World):Calls Try.prog 65 #[.int .i64 x, .int .i64 lo, .int .i64 hi] w fun e w'=>e = .returned (.bool (inB lo hi x))∧Below w.heap.size w w' :=
 (impl_in.calls x lo hi (inB lo hi x) w (by unfold impl_in.f inB;by_cases h:lo≤x <;> simp [h])).mono fun e w' ⟨he,hd⟩=>⟨he,hd.below⟩
theorem areIn1_calls (x lo hi:Int) (b1 b2:Nat) (w:World) (h1:w.cell? ⟨b1,0,none⟩=some (.int .i64 lo)) (h2:w.cell? ⟨b2,0,none⟩=some (.int .i64 hi)) :
  Calls Try.prog 123 #[.int .i64 x, .pointer (some ⟨b1,0,none⟩), .pointer (some ⟨b2,0,none⟩)] w fun e w'=>e = .returned (.bool (!inB lo hi x))∧Below w.heap.size w w':=by
 go_enter Try.func123,Try.ntmps123
 go_wp2_with (go_at_call 65;refine (in_calls _ _ _ _).mono ?_;rintro e w' ⟨rfl,hb⟩)
 go_ret
 exact ⟨rfl,hb⟩
theorem areIn_pred (lo hi:Int) (b1 b2:Nat) (xs:List Int) (w:World) (h1:w.cell? ⟨b1,0,none⟩=some (.int .i64 lo)) (h2:w.cell? ⟨b2,0,none⟩=some (.int .i64 hi)) :
  PredOn 123 #[.pointer (some ⟨b1,0,none⟩), .pointer (some ⟨b2,0,none⟩)] (fun x => !inB lo hi x) xs w:=fun x _ W hb =>
 areIn1_calls x lo hi b1 b2 W ((hb.cell (bl' w _ h1)).trans h1) ((hb.cell (bl' w _ h2)).trans h2)
def impl_areIn.f (l0:List Int) (a1 a2 a3 a4:Int):Option Bool:=some (inB a3 a4 (l0.length:Int) && l0.all (inB a1 a2))
set_option maxHeartbeats 2000000 in
set_option maxRecDepth 100000 in
theorem impl_areIn.calls (A0:Option Addr) (c0:Nat) (l0:List Int) (a1 a2 a3 a4:Int) (r:Bool) (w:World) (hr0:Kd.C (Kd.int .i64) w A0 l0.length l0) (hc0:l0.length≤c0) (h:impl_areIn.f l0 a1 a2 a3 a4=some r) :
  Calls Try.prog 103 #[.slice A0 l0.length c0, .int .i64 a1, .int .i64 a2, .int .i64 a3, .int .i64 a4] w fun e w'=>e = .returned (.bool r)∧Below w.heap.size w w':=by
 have hbig:l0.length≤9223372036854775807:=hr0.2.1
 have HC:=am' (fun (w1:World) (h1:Below w.heap.size w w1) (b1 b2:Nat) (e1:w1.cell? ⟨b1,0,none⟩=some (.int .i64 a1)) (e2:w1.cell? ⟨b2,0,none⟩=some (.int .i64 a2)) =>
  ContainsFunc_any 123 #[.pointer (some ⟨b1,0,none⟩), .pointer (some ⟨b2,0,none⟩)] (fun x => !inB a1 a2 x) (enters_of Try.func123 (by kernel_rfl) rfl) A0 c0 l0 w1 (Kd.C_below hr0 h1) hc0 hbig (areIn_pred a1 a2 b1 b2 l0 w1 e1 e2))
 clear hr0;cases hi:inB a3 a4 (l0.length:Int) with
 | false =>
  obtain rfl:false=r:=by unfold impl_areIn.f at h;simpa [hi] using h
  clear h;go_enter Try.func103,Try.ntmps103;go_wp2_with (go_at_call 65;refine (in_calls _ _ _ _).mono ?_;rintro e w' ⟨rfl,hb⟩);go_ret
  exact ⟨rfl,(after_alloc (after_alloc hb).1).1⟩
 | true =>
  obtain rfl:l0.all (inB a1 a2)=r:=by unfold impl_areIn.f at h;simpa [hi] using h
  clear h;go_enter Try.func103,Try.ntmps103;go_wp2_with (go_at_call 65;refine (in_calls _ _ _ _).mono ?_;rintro e w' ⟨rfl,hb⟩);have h2:=after_alloc hb;have h1:=after_alloc h2.1;rw[World.size_alloc] at h2;refine (HC.out w' h1.1 _ _ ((blk_cell h1.2 0).trans rfl) ((blk_cell h2.2 0).trans rfl)).mono ?_
  rintro e w2 ⟨rfl,hb2⟩
  clear hb h2;have HB2:=am' (below_step h1.1 hb2);clear h1 hb2;go_wp2;go_ret
  refine ⟨?_,HB2.out⟩;rw[← any_not_all];rfl
def impl_IsParty.f (l0_0:List Int) (a0_1:Int):Option (Bool):=(impl_areIn.f l0_0 1 1000 1 8).bind fun t275=>(if t275=true then ((impl_in.f a0_1 1 3).bind fun t276=>(some t276)) else (some false))
set_option maxHeartbeats 8000000 in
set_option maxRecDepth 100000 in
theorem impl_IsParty.calls (A0_0:Option Addr) (c0_0:Nat) (l0_0:List Int) (a0_1:Int) (r:Bool) (w:World) (hr0_0:Kd.C (Kd.int .i64) w A0_0 l0_0.length l0_0) (hc0_0:l0_0.length≤c0_0) (h:impl_IsParty.f l0_0 a0_1=some r) :
  Calls Try.prog 64 #[.agg #[.slice A0_0 l0_0.length c0_0, .int .i64 a0_1]] w fun e w'=>e = .returned (.bool r)∧Below w.heap.size w w':=by
 have hu28:=Try.underlying28
 have HR0_0:=am' hr0_0
 have HC0_0:=am' hc0_0
 clear hr0_0 hc0_0;have HB:=am' (Below.refl w.heap.size w)
 have H:((impl_areIn.f l0_0 1 1000 1 8).bind fun t275=>(if t275=true then ((impl_in.f a0_1 1 3).bind fun t276=>(some t276)) else (some false)))=some r:=h
 clear h;replace H:=Option.bind_eq_some_iff.mp H
 obtain ⟨t275,A20,H⟩:=H
 replace H:(if t275=true then ((impl_in.f a0_1 1 3).bind fun t276=>(some t276)) else (some false))=some r:=H
 have A2:=am' A20
 clear A20;by_cases c3:t275=true
 ·
  subst c3;have H1:((impl_in.f a0_1 1 3).bind fun t276=>(some t276))=some r:=by rw[if_pos rfl] at H;exact H
  clear H;have H:=H1;clear H1;replace H:=Option.bind_eq_some_iff.mp H;obtain ⟨t276,A40,H⟩:=H;replace H:(some t276)=some r:=H;have A4:=am' A40;clear A40;obtain rfl:=Option.some.inj H;go_enter Try.func64,Try.ntmps64;go_wp2_with (first|((with_reducible refine gate_dst (N:=1) rfl ?_);refine box_event ?hg (N:=1) ?hd (cs:=#[.slice A0_0 l0_0.length c0_0, .int .i64 a0_1]) (t:=28) ?hr ?_;(case hd=>rfl);(case hg=>rfl);(case hr=>first|(go_simp;done)|(go_simp;rfl));intro gb274 hg w5 hbox hb;have n0_:=am' (below_step (by repeat (first|(with_reducible first|exact HB.out|apply ba'|apply bd'|apply be')|exact HB.out)) hb);have n1_:=am' (hbox);have n2_:=am' ((by rw[hg];exact (below_size (by repeat (first|(with_reducible first|exact HB.out|apply ba'|apply bd'|apply be')|exact HB.out))):w.heap.size≤gb274));have n3_:=am' ((by rw[hg];exact (below_size (by repeat (first|(with_reducible first|exact HB.out|apply ba'|apply bd'|apply be')|exact HB.out))):w.heap.size≤gb274));clear HB;have HB:=n0_;have BK274:=n1_;have GW274:=n2_;have GE274:=n3_;clear n0_ n1_ n2_ n3_;clear hb hbox hg;have hcz6_0:w5.cell? ⟨gb274,0,none⟩=some (.slice A0_0 l0_0.length c0_0):=(blk_cell BK274.out 0).trans rfl;have hcz6_1:w5.cell? ⟨gb274,1,none⟩=some (.int .i64 a0_1):=(blk_cell BK274.out 1).trans rfl;have hfz6_0:=blk_frozen BK274.out 0;have hfz6_1:=blk_frozen BK274.out 1)|((with_reducible refine gate_callee (f:=103) rfl ?_);refine goesL_ (some 5) rfl rfl Try.func103 (by kernel_rfl) rfl #[.slice A0_0 l0_0.length c0_0, .int .i64 1, .int .i64 1000, .int .i64 1, .int .i64 8] rfl (by (try simp only[List.map_toArray,List.map_cons,List.map_nil]);first|done|rfl|(simp only[List.length_drop,List.length_take];rfl)) ?_;(with_reducible refine (impl_areIn.calls _ _ l0_0 1 1000 1 8 true _ ?side1 ?side2 A2.out).mono ?_);(case side1=>repeat (first|exact (Kd.C_below HR0_0.out HB.out)|(with_reducible refine ca' ?_ _)|(with_reducible refine cn' ?_ _)|(with_reducible refine cd' ?_)));(case side2=>exact HC0_0.out);rintro e w7 ⟨rfl,hb⟩;refine ⟨_,rfl,?_⟩;have n0_:=am' (blk_below (g:=gb274) (o := .cells #[.slice A0_0 l0_0.length c0_0, .int .i64 a0_1] 28 (0,0)) (by (with_reducible repeat (first|refine kn' ?_ _|refine kd' ?_|refine ka' ?_ _));exact BK274.out) hb);have n1_:=am' (below_step (by repeat (first|(with_reducible first|exact HB.out|apply ba'|apply bd'|apply be'|refine bs' ?_ GE274.out)|exact HB.out)) hb);clear BK274;clear HB;have BK274:=n0_;have HB:=n1_;clear n0_ n1_;(try clear hb);(try clear hb2);(try clear hk);(try clear hi);have hcz8_0:w7.cell? ⟨gb274,0,none⟩=some (.slice A0_0 l0_0.length c0_0):=(blk_cell BK274.out 0).trans rfl;have hcz8_1:w7.cell? ⟨gb274,1,none⟩=some (.int .i64 a0_1):=(blk_cell BK274.out 1).trans rfl;have hfz8_0:=blk_frozen BK274.out 0;have hfz8_1:=blk_frozen BK274.out 1)|(go_at_call 65;(with_reducible refine (impl_in.calls a0_1 1 3 t276 _ A4.out).mono ?_);rintro e w' ⟨rfl,⟨nd,rfl⟩⟩))
  go_ret
  exact ⟨by first|rfl|(simp[errW_none,errW_some] <;> rfl)|(simp[*,errW_none,errW_some] <;> rfl),by repeat (first|(with_reducible first|exact HB.out|apply ba'|apply bd'|apply be'|refine bs' ?_ GE274.out)|exact HB.out)⟩
 ·
  replace c3:=Bool.eq_false_iff.mpr c3;subst c3;have H1:(some false)=some r:=by rw[if_neg (show ¬ (false=true) by decide)] at H;exact H
  clear H;have H:=H1;clear H1;obtain rfl:=Option.some.inj H;go_enter Try.func64,Try.ntmps64;go_wp2_with (first|((with_reducible refine gate_dst (N:=1) rfl ?_);refine box_event ?hg (N:=1) ?hd (cs:=#[.slice A0_0 l0_0.length c0_0, .int .i64 a0_1]) (t:=28) ?hr ?_;(case hd=>rfl);(case hg=>rfl);(case hr=>first|(go_simp;done)|(go_simp;rfl));intro gb274 hg w9 hbox hb;have n0_:=am' (below_step (by repeat (first|(with_reducible first|exact HB.out|apply ba'|apply bd'|apply be')|exact HB.out)) hb);have n1_:=am' (hbox);have n2_:=am' ((by rw[hg];exact (below_size (by repeat (first|(with_reducible first|exact HB.out|apply ba'|apply bd'|apply be')|exact HB.out))):w.heap.size≤gb274));have n3_:=am' ((by rw[hg];exact (below_size (by repeat (first|(with_reducible first|exact HB.out|apply ba'|apply bd'|apply be')|exact HB.out))):w.heap.size≤gb274));clear HB;have HB:=n0_;have BK274:=n1_;have GW274:=n2_;have GE274:=n3_;clear n0_ n1_ n2_ n3_;clear hb hbox hg;have hcz10_0:w9.cell? ⟨gb274,0,none⟩=some (.slice A0_0 l0_0.length c0_0):=(blk_cell BK274.out 0).trans rfl;have hcz10_1:w9.cell? ⟨gb274,1,none⟩=some (.int .i64 a0_1):=(blk_cell BK274.out 1).trans rfl;have hfz10_0:=blk_frozen BK274.out 0;have hfz10_1:=blk_frozen BK274.out 1)|((with_reducible refine gate_callee (f:=103) rfl ?_);refine goesL_ (some 5) rfl rfl Try.func103 (by kernel_rfl) rfl #[.slice A0_0 l0_0.length c0_0, .int .i64 1, .int .i64 1000, .int .i64 1, .int .i64 8] rfl (by (try simp only[List.map_toArray,List.map_cons,List.map_nil]);first|done|rfl|(simp only[List.length_drop,List.length_take];rfl)) ?_;(with_reducible refine (impl_areIn.calls _ _ l0_0 1 1000 1 8 false _ ?side1 ?side2 A2.out).mono ?_);(case side1=>repeat (first|exact (Kd.C_below HR0_0.out HB.out)|(with_reducible refine ca' ?_ _)|(with_reducible refine cn' ?_ _)|(with_reducible refine cd' ?_)));(case side2=>exact HC0_0.out);rintro e w11 ⟨rfl,hb⟩;refine ⟨_,rfl,?_⟩;have n0_:=am' (blk_below (g:=gb274) (o := .cells #[.slice A0_0 l0_0.length c0_0, .int .i64 a0_1] 28 (0,0)) (by (with_reducible repeat (first|refine kn' ?_ _|refine kd' ?_|refine ka' ?_ _));exact BK274.out) hb);have n1_:=am' (below_step (by repeat (first|(with_reducible first|exact HB.out|apply ba'|apply bd'|apply be'|refine bs' ?_ GE274.out)|exact HB.out)) hb);clear BK274;clear HB;have BK274:=n0_;have HB:=n1_;clear n0_ n1_;(try clear hb);(try clear hb2);(try clear hk);(try clear hi)));go_ret
  exact ⟨by first|rfl|(simp[errW_none,errW_some] <;> rfl)|(simp[*,errW_none,errW_some] <;> rfl),by repeat (first|(with_reducible first|exact HB.out|apply ba'|apply bd'|apply be'|refine bs' ?_ GE274.out)|exact HB.out)⟩
end Go.Proofs.Ytamljjfhkolflaa.C14
