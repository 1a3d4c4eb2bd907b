import Derived.Test.YtmfofjloklafoaaC3zx0
import Derived.Test.YtmfofjloklafoaaC3zx3
import Derived.Test.YtmfofjloklafoaaC3zx6
import Derived.Test.YtmfofjloklafoaaC3zx7
import Derived.Test.YtmfofjloklafoaaC3zx8
import Derived.Test.YtmfofjloklafoaaC3zAl
namespace Go.Proofs.Ytmfofjloklafoaa.C3
open Go.RowKit Go.Proofs.YtmfofjloklafoaaW.PrintWords Go.Proofs.YtmfofjloklafoaaW.PrintLast Go.Proofs.YtmfofjloklafoaaW.PrintMore Go.Proofs.Ytmfofjloklafoaa.H
attribute [local go_sem] max2_int min2_int max_two min_two max_three min_three max_four min_four
set_option linter.unusedVariables false
set_option linter.unusedSimpArgs false
mutual
def spec_CountReachedBanks.l0:Nat→List Int→Int→Int→List (List Int)→Int→Option (Int × Bool)
 | 0,_,_,_,_,_=>none
 | k+1,x4,x5,x262000,x262001,x262002=>if x5 < (x4.length:Int) then (if 0≤x5 then ((spec_keBank.f k (rd x4 x5) x262000).bind fun bt272=>((spec_keRides.f k x262000 x262001 x262002 bt272.1 bt272.2).bind fun t277=>(spec_CountReachedBanks.l1 k x4 x5 t277 (t277.length:Int) 0 x262000 x262001 x262002 bt272.1 bt272.2))) else (none)) else (some ((x4.length:Int),true))
def spec_CountReachedBanks.l1:Nat→List Int→Int→List (List Int)→Int→Int→Int→List (List Int)→Int→List Bool→Bool→Option (Int × Bool)
 | 0,_,_,_,_,_,_,_,_,_,_=>none
 | k+1,x4,x5,x32,x33,x34,x262000,x262001,x262002,x277000,x277001=>if x34 < x33 then (if 0≤x34 then (if x34 < (x32.length:Int) then ((spec_keRide.f k x277000 x277001 (rd_L1 x32 x34)).bind fun bt281=>((spec_keIndex.f k bt281.1 bt281.2).bind fun t285=>((spec_l1Has.f k x4 t285).bind fun t286=>(if t286=true then (spec_CountReachedBanks.l1 k x4 x5 x32 x33 (wrap64 (x34+1)) x262000 x262001 x262002 x277000 x277001) else (if x4.length < 17592186044416 then (spec_CountReachedBanks.l1 k (x4 ++ [t285]) x5 x32 x33 (wrap64 (x34+1)) x262000 x262001 x262002 x277000 x277001) else (none)))))) else (none)) else (none)) else (spec_CountReachedBanks.l0 k x4 (wrap64 (x5+1)) x262000 x262001 x262002)
end
def spec_CountReachedBanks.f (k:Nat) (a0_0:Int) (l0_1:List (List Int)) (a0_2:Int):Option (Int × Bool):=(spec_keGood.f k a0_0 l0_1 a0_2).bind fun t262=>(if t262=true then ((spec_keStart.f a0_0 l0_1 a0_2).bind fun bt263=>((spec_keIndex.f k bt263.1 bt263.2).bind fun t267=>(spec_CountReachedBanks.l0 k (([t267]:List Int)) 0 a0_0 l0_1 a0_2))) else (some (0,false)))
def spec_CountReachedBanks.T7:Bool × List (List Nat × List Nat):=(true,[([],[]),([],[]),([0,1],[0,1]),([2],[2]),([],[]),([4],[4]),([3,5],[3,5]),([],[]),([7,6,6,0,1,2,3,4,5,6,7],[6,7])])
def spec_CountReachedBanks.B7:List Nat:=[0,0,3,7,0,16,63,0,255]
theorem spec_CountReachedBanks.tab7:rtab .any (opsOf Try.f47 7)=spec_CountReachedBanks.T7:=by kernel_rfl
theorem spec_CountReachedBanks.bits7:waitsOk spec_CountReachedBanks.T7.2 spec_CountReachedBanks.B7=true:=by kernel_rfl
set_option maxHeartbeats 8000000 in
set_option maxRecDepth 100000 in
theorem spec_CountReachedBanks.calls (k:Nat) (a0_0:Int) (A0_1:Option Addr) (c0_1:Nat) (l0_1:List (List Int)) (a0_2:Int) (r1:Int) (r2:Bool) (w:World) (hr0_1:Kd.C (Kd.slice 3 (Kd.int .i64)) w A0_1 l0_1.length l0_1) (hc0_1:l0_1.length≤c0_1) (h:spec_CountReachedBanks.f k a0_0 l0_1 a0_2=some (r1,r2)) :
  Calls Try.prog 47 #[.agg #[.int .i64 a0_0, .slice A0_1 l0_1.length c0_1, .int .i64 a0_2]] w fun e w'=>e = .returned (.tuple #[.int .i64 r1, .bool r2])∧Below w.heap.size w w':=by
 have hu32:=Try.underlying32
 have hu34:=Try.underlying34
 have HR0_1:=am' hr0_1
 have HC0_1:=am' hc0_1
 clear hr0_1 hc0_1;have HB:=am' (Below.refl w.heap.size w)
 have H:((spec_keGood.f k a0_0 l0_1 a0_2).bind fun t262=>(if t262=true then ((spec_keStart.f a0_0 l0_1 a0_2).bind fun bt263=>((spec_keIndex.f k bt263.1 bt263.2).bind fun t267=>(spec_CountReachedBanks.l0 k (([t267]:List Int)) 0 a0_0 l0_1 a0_2))) else (some (0,false))))=some (r1,r2):=h
 clear h;replace H:=Option.bind_eq_some_iff.mp H
 obtain ⟨t262,A20,H⟩:=H
 replace H:(if t262=true then ((spec_keStart.f a0_0 l0_1 a0_2).bind fun bt263=>((spec_keIndex.f k bt263.1 bt263.2).bind fun t267=>(spec_CountReachedBanks.l0 k (([t267]:List Int)) 0 a0_0 l0_1 a0_2))) else (some (0,false)))=some (r1,r2):=H
 have A2:=am' A20
 clear A20;by_cases c3:t262=true
 ·
  subst c3;have H1:((spec_keStart.f a0_0 l0_1 a0_2).bind fun bt263=>((spec_keIndex.f k bt263.1 bt263.2).bind fun t267=>(spec_CountReachedBanks.l0 k (([t267]:List Int)) 0 a0_0 l0_1 a0_2)))=some (r1,r2):=by rw[if_pos rfl] at H;exact H
  clear H;have H:=H1;clear H1;replace H:=Option.bind_eq_some_iff.mp H;obtain ⟨⟨t263,t266⟩,A40,H⟩:=H;replace H:((spec_keIndex.f k t263 t266).bind fun t267=>(spec_CountReachedBanks.l0 k (([t267]:List Int)) 0 a0_0 l0_1 a0_2))=some (r1,r2):=H;have A4:=am' A40;clear A40;replace H:=Option.bind_eq_some_iff.mp H;obtain ⟨t267,A50,H⟩:=H;replace H:(spec_CountReachedBanks.l0 k (([t267]:List Int)) 0 a0_0 l0_1 a0_2)=some (r1,r2):=H;have A5:=am' A50;clear A50;obtain ⟨y268,hy268⟩:∃ y_:List Int,y_=(([t267]:List Int)):=⟨_,rfl⟩
  replace H:(spec_CountReachedBanks.l0 k y268 0 a0_0 l0_1 a0_2)=some (r1,r2):=by first|(rw[hy268];with_reducible exact H)|(have H2_:=(Option.bind_some _ _).symm.trans H;rw[hy268];with_reducible exact H2_)|(have H2_:=(Option.bind_some _ _).symm.trans H;with_reducible exact H2_)|with_reducible exact H|(rw[hy268];exact H)|exact H
  have Ny268:=am' hy268;clear hy268;have H':=am' H;clear H;go_enter Try.func47,Try.ntmps47;go_wp2_with (first|((with_reducible refine gate_dst (N:=1) rfl ?_);refine box_event ?hg (N:=1) ?hd (cs:=#[.int .i64 a0_0, .slice A0_1 l0_1.length c0_1, .int .i64 a0_2]) (t:=32) ?hr ?_;(case hd=>rfl);(case hg=>rfl);(case hr=>first|(go_simp;done)|(go_simp;rfl));intro gb261 hg w6 hbox hb;have n0_:=am' (below_step (by repeat (first|(with_reducible first|exact HB.out|apply ba'|apply bd'|apply be')|exact HB.out)) hb);have n1_:=am' (hbox);have n2_:=am' ((by rw[hg];exact (below_size (by repeat (first|(with_reducible first|exact HB.out|apply ba'|apply bd'|apply be')|exact HB.out))):w.heap.size≤gb261));have n3_:=am' ((by rw[hg];exact (below_size (by repeat (first|(with_reducible first|exact HB.out|apply ba'|apply bd'|apply be')|exact HB.out))):w.heap.size≤gb261));clear HB;have HB:=n0_;have BK261:=n1_;have GW261:=n2_;have GE261:=n3_;clear n0_ n1_ n2_ n3_;clear hb hbox hg;have hcz7_0:w6.cell? ⟨gb261,0,none⟩=some (.int .i64 a0_0):=(blk_cell BK261.out 0).trans rfl;have hcz7_1:w6.cell? ⟨gb261,1,none⟩=some (.slice A0_1 l0_1.length c0_1):=(blk_cell BK261.out 1).trans rfl;have hcz7_2:w6.cell? ⟨gb261,2,none⟩=some (.int .i64 a0_2):=(blk_cell BK261.out 2).trans rfl;have hfz7_0:=blk_frozen BK261.out 0;have hfz7_1:=blk_frozen BK261.out 1;have hfz7_2:=blk_frozen BK261.out 2)|((with_reducible refine gate_callee (f:=61) rfl ?_);refine goesL_ (some 11) rfl rfl Try.func61 (by kernel_rfl) rfl #[.agg #[.int .i64 a0_0, .slice A0_1 l0_1.length c0_1, .int .i64 a0_2]] rfl (by (try simp only[List.map_toArray,List.map_cons,List.map_nil]);first|done|rfl|(simp only[List.length_drop,List.length_take];rfl)) ?_;(with_reducible refine (spec_keGood.calls k a0_0 _ _ l0_1 a0_2 true _ ?side1 ?side2 A2.out).mono ?_);(case side1=>repeat (first|exact (Kd.C_below HR0_1.out HB.out)|(with_reducible refine ca' ?_ _)|(with_reducible refine cn' ?_ _)|(with_reducible refine cd' ?_)));(case side2=>exact HC0_1.out);rintro e w8 ⟨rfl,hb⟩;refine ⟨_,rfl,?_⟩;have n0_:=am' (blk_below (g:=gb261) (o := .cells #[.int .i64 a0_0, .slice A0_1 l0_1.length c0_1, .int .i64 a0_2] 32 (0,0)) (by (with_reducible repeat (first|refine kn' ?_ _|refine kd' ?_|refine ka' ?_ _));exact BK261.out) hb);have n1_:=am' (below_step (by repeat (first|(with_reducible first|exact HB.out|apply ba'|apply bd'|apply be'|refine bs' ?_ GE261.out)|exact HB.out)) hb);clear BK261;clear HB;have BK261:=n0_;have HB:=n1_;clear n0_ n1_;(try clear hb);(try clear hb2);(try clear hk);(try clear hi);have hcz9_0:w8.cell? ⟨gb261,0,none⟩=some (.int .i64 a0_0):=(blk_cell BK261.out 0).trans rfl;have hcz9_1:w8.cell? ⟨gb261,1,none⟩=some (.slice A0_1 l0_1.length c0_1):=(blk_cell BK261.out 1).trans rfl;have hcz9_2:w8.cell? ⟨gb261,2,none⟩=some (.int .i64 a0_2):=(blk_cell BK261.out 2).trans rfl;have hfz9_0:=blk_frozen BK261.out 0;have hfz9_1:=blk_frozen BK261.out 1;have hfz9_2:=blk_frozen BK261.out 2)|((with_reducible refine gate_callee (f:=71) rfl ?_);refine goesL_ (some 14) rfl rfl Try.func71 (by kernel_rfl) rfl #[.agg #[.int .i64 a0_0, .slice A0_1 l0_1.length c0_1, .int .i64 a0_2]] rfl (by (try simp only[List.map_toArray,List.map_cons,List.map_nil]);first|done|rfl|(simp only[List.length_drop,List.length_take];rfl)) ?_;(with_reducible refine (spec_keStart.calls a0_0 _ _ l0_1 a0_2 t263 t266 _ ?side1 ?side2 A4.out).mono ?_);(case side1=>repeat (first|exact (Kd.C_below HR0_1.out HB.out)|(with_reducible refine ca' ?_ _)|(with_reducible refine cn' ?_ _)|(with_reducible refine cd' ?_)));(case side2=>exact HC0_1.out);rintro e w10 ⟨v264,rfl,ho0,hb⟩;refine ⟨_,rfl,?_⟩;have n0_:=am' (Kd.R_lower ho0 (below_size (by repeat (first|(with_reducible first|exact HB.out|apply ba'|apply bd'|apply be'|refine bs' ?_ GE261.out)|exact HB.out))));have n1_:=am' (blk_below (g:=gb261) (o := .cells #[.int .i64 a0_0, .slice A0_1 l0_1.length c0_1, .int .i64 a0_2] 32 (0,0)) (by (with_reducible repeat (first|refine kn' ?_ _|refine kd' ?_|refine ka' ?_ _));exact BK261.out) hb);have n2_:=am' (below_step (by repeat (first|(with_reducible first|exact HB.out|apply ba'|apply bd'|apply be'|refine bs' ?_ GE261.out)|exact HB.out)) hb);clear BK261;clear HB;have HO265:=n0_;have BK261:=n1_;have HB:=n2_;clear n0_ n1_ n2_;(try clear hb);(try clear hb2);(try clear hk);(try clear hi);(try clear ho0);obtain ⟨Ao11,co11,eo11⟩:=Kd.R_slice HO265.out;subst eo11)|((with_reducible refine gate_callee (f:=70) rfl ?_);refine goesL_ (some 15) rfl rfl Try.func70 (by kernel_rfl) rfl #[.agg #[.slice Ao11 t263.length co11, .bool t266]] rfl (by (try simp only[List.map_toArray,List.map_cons,List.map_nil]);first|done|rfl|(simp only[List.length_drop,List.length_take];rfl)) ?_;(with_reducible refine (spec_keIndex.calls k _ _ t263 t266 t267 _ ?side1 ?side2 A5.out).mono ?_);(case side1=>repeat (first|exact (Kd.R_reads' HO265.out).2.2|(with_reducible refine ca' ?_ _)|(with_reducible refine cn' ?_ _)|(with_reducible refine cd' ?_)));(case side2=>exact (Kd.R_reads' HO265.out).2.1);rintro e w12 ⟨rfl,hb⟩;refine ⟨_,rfl,?_⟩;have n0_:=am' (Kd.R_below (by (with_reducible repeat (first|apply ra'|apply rn'|apply rw'));exact HO265.out) hb);have n1_:=am' (blk_below (g:=gb261) (o := .cells #[.int .i64 a0_0, .slice A0_1 l0_1.length c0_1, .int .i64 a0_2] 32 (0,0)) (by (with_reducible repeat (first|refine kn' ?_ _|refine kd' ?_|refine ka' ?_ _));exact BK261.out) hb);have n2_:=am' (below_step (by repeat (first|(with_reducible first|exact HB.out|apply ba'|apply bd'|apply be'|refine bs' ?_ GE261.out)|exact HB.out)) hb);clear HO265;clear BK261;clear HB;have HO265:=n0_;have BK261:=n1_;have HB:=n2_;clear n0_ n1_ n2_;(try clear hb);(try clear hb2);(try clear hk);(try clear hi))|((with_reducible refine gate_dst (N:=16) rfl ?_);refine Kd.R_lit (Kd.int .i64) _ 3 ?hg (N:=16) ?hd (xs:=([t267]:List Int)) (inner:=[.int .i64 t267]) (ok:=fun _=>True) (okp:=fun _=>True) ?hr ?hp (fun _ hk=>hk) trivial (Below.refl _ _) (Nat.le_refl _) (by simp) ?_;(case hd=>rfl);(case hg=>rfl);(case hr=>first|(go_simp;done)|(go_simp;rfl));(case hp=>exact (Reps.one (show Kd.M (Kd.int .i64) _ _ _ t267 [.int .i64 t267] from rfl) (Reps.none _ _)));intro v269 w13 ho14 hb hg_ hnew_;clear hg_ hnew_;(first|rw[← Ny268.out] at ho14|(simp only[Int.reduceToNat] at ho14;rw[← Ny268.out] at ho14));have n0_:=am' (Kd.R_below (by (with_reducible repeat (first|apply ra'|apply rn'|apply rw'));exact HO265.out) hb);have n1_:=am' (Kd.R_lower ho14 (below_size (by repeat (first|(with_reducible first|exact HB.out|apply ba'|apply bd'|apply be'|refine bs' ?_ GE261.out)|exact HB.out))));have n2_:=am' (blk_below (g:=gb261) (o := .cells #[.int .i64 a0_0, .slice A0_1 l0_1.length c0_1, .int .i64 a0_2] 32 (0,0)) (by (with_reducible repeat (first|refine kn' ?_ _|refine kd' ?_|refine ka' ?_ _));exact BK261.out) hb);have n3_:=am' (below_step (by repeat (first|(with_reducible first|exact HB.out|apply ba'|apply bd'|apply be'|refine bs' ?_ GE261.out)|exact HB.out)) hb);clear HO265;clear BK261;clear HB;have HO265:=n0_;have HO270:=n1_;have BK261:=n2_;have HB:=n3_;clear n0_ n1_ n2_ n3_;clear hb ho14))
  go_loopg [4,5] k (fun kq v4 v5 w'=>∃ (x4_1:List Int) (x5_1:Int),v5 = .int .i64 x5_1∧Aside0 (spec_CountReachedBanks.l0 kq x4_1 x5_1 a0_0 l0_1 a0_2=some (r1,r2))∧Aside0 (kq≤k)∧Aside0 (Kd.R (Kd.int .i64) 3 w' w.heap.size (fun _=>True) v4 x4_1)∧Aside0 (w'.heap[gb261]? = some (.cells #[.int .i64 a0_0,(.slice A0_1 l0_1.length c0_1), .int .i64 a0_2] 32 (0,0)))∧Aside0 (Below w.heap.size w w'))
  case atStart=>exact ⟨(y268),(0),(by first|rfl|(simp;done)|(simp[*];done)),H',⟨Nat.le_refl _⟩,⟨by (with_reducible repeat (first|apply ra'|apply rn'|apply rw'));exact HO270.out⟩,⟨by (with_reducible repeat (first|refine kn' ?_ _|refine kd' ?_|refine ka' ?_ _));exact BK261.out⟩,⟨by repeat (first|(with_reducible first|exact HB.out|apply ba'|apply bd'|apply be'|refine bs' ?_ GE261.out)|exact HB.out)⟩⟩
  case round =>
   clear H';try clear p2
   try clear c3
   try clear c4
   try clear c6
   try clear c7
   try clear hcz7_0
   try clear hcz7_1
   try clear hcz7_2
   try clear hcz9_0
   try clear hcz9_1
   try clear hcz9_2
   try clear hfz7_0
   try clear hfz7_1
   try clear hfz7_2
   try clear hfz9_0
   try clear hfz9_1
   try clear hfz9_2
   obtain ⟨x4_1,x5_1,rfl,HA,HK1,HO_4,BK261,HB⟩:=hrel;cases gk with
   | zero=>exact absurd HA.out (by simp[spec_CountReachedBanks.l0])
   | succ k1 =>
    have H:=HA.out;clear HA;simp only[spec_CountReachedBanks.l0] at H;by_cases c15:x5_1 < (x4_1.length:Int)
    ·
     rw[if_pos c15] at H;have c15b0:decide (x5_1 < (x4_1.length:Int))=true:=decide_eq_true c15;clear c15;by_cases c16:0≤x5_1
     ·
      rw[if_pos c16] at H;have c16b0:decide (0≤x5_1)=true:=decide_eq_true c16;clear c16;replace H:=Option.bind_eq_some_iff.mp H;obtain ⟨⟨t272,t275⟩,A170,H⟩:=H;replace H:((spec_keRides.f k1 a0_0 l0_1 a0_2 t272 t275).bind fun t277=>(spec_CountReachedBanks.l1 k1 x4_1 x5_1 t277 (t277.length:Int) 0 a0_0 l0_1 a0_2 t272 t275))=some (r1,r2):=H;have A17:=am' A170;clear A170;replace H:=Option.bind_eq_some_iff.mp H;obtain ⟨t277,A180,H⟩:=H;replace H:(spec_CountReachedBanks.l1 k1 x4_1 x5_1 t277 (t277.length:Int) 0 a0_0 l0_1 a0_2 t272 t275)=some (r1,r2):=H;have A18:=am' A180;clear A180;have H':=am' H;clear H;obtain ⟨Ao19,co19,eo19⟩:=Kd.R_slice HO_4.out;subst eo19;try go_wp2
      have n0_:=am' (rw' HO_4.out);have n1_:=am' (kd' BK261.out);have n2_:=am' (be' HB.out);clear HO_4;clear BK261;clear HB;have HO_4:=n0_;have BK261:=n1_;have HB:=n2_;clear n0_ n1_ n2_;have p271:0≤(x5_1:Int):=of_decide_eq_true (by first|(with_reducible assumption)|assumption);have q271:x5_1 < (x4_1.length:Int):=of_decide_eq_true (by first|(with_reducible assumption)|assumption);obtain ⟨ad271,e271,hx271_0⟩:=Kd.at_int (Kd.R_reads' HO_4.out).2.2 x5_1 p271 q271;cases e271;replace p271:=eq_true p271;replace q271:=eq_true q271;refine start_ (n:=9) (S:=fun w'=>w'.cell? ⟨gb261,0,none⟩=some (.int .i64 a0_0)∧w'.cell? ⟨gb261,1,none⟩=some (.slice A0_1 l0_1.length c0_1)∧w'.cell? ⟨gb261,2,none⟩=some (.int .i64 a0_2)∧w'.cell? (ad271.add (x5_1).toNat)=some (.int .i64 (rd x4_1 x5_1))) (ds:=[]) #[false,false,false,false,false,false,false,false,false] (by kernel_rfl) rfl rfl ⟨(blk_cell BK261.out 0).trans rfl,(blk_cell BK261.out 1).trans rfl,(blk_cell BK261.out 2).trans rfl,hx271_0⟩ (fun hHeld=>?_);refine with_tabW spec_CountReachedBanks.tab7 spec_CountReachedBanks.bits7 (fun HT_ HW_=>?_);generalize wr.drew=w20 at HO_4 BK261 HB hx271_0 hHeld ⊢
      refine pure_ (i:=0) (N:=some 23) (v:=?_) (a':=?_) #[true,false,false,false,false,false,false,false,false] rfl rfl (any_of HT_.out (by kernel_rfl)) (fun _ _ _ h=>h) (Or.inl ⟨by rfl,?_⟩) ?_ ?_
      rotate_left
      ·
       intro w';go_simp;with_reducible rfl
      rotate_left
      ·
       simp only[Act.put,sa',sb',sc',i64_w,i32_w];rfl
      refine pure_ (i:=1) (N:=some 24) (v:=?_) (a':=?_) #[true,true,false,false,false,false,false,false,false] rfl rfl (any_of HT_.out (by kernel_rfl)) (fun _ _ _ h=>h) (Or.inl ⟨by rfl,?_⟩) ?_ ?_
      rotate_left
      ·
       intro w';go_simp;with_reducible rfl
      rotate_left
      ·
       simp only[Act.put,sa',sb',sc',i64_w,i32_w];rfl
      refine pure_ (i:=2) (N:=some 25) (v:=?_) (a':=?_) #[true,true,true,false,false,false,false,false,false] rfl rfl (any_of HT_.out (by kernel_rfl)) (fun _ _ _ h=>h) (Or.inl ⟨by rfl,?_⟩) ?_ ?_
      rotate_left
      ·
       intro w';go_simp;with_reducible rfl
      rotate_left
      ·
       simp only[Act.put,sa',sb',sc',i64_w,i32_w];rfl
      refine pure_ (i:=4) (N:=some 27) (v:=?_) (a':=?_) #[true,true,true,false,true,false,false,false,false] rfl rfl (any_of HT_.out (by kernel_rfl)) (fun _ _ _ h=>h) (Or.inl ⟨by rfl,?_⟩) ?_ ?_
      rotate_left
      ·
       intro w';go_simp;with_reducible rfl
      rotate_left
      ·
       simp only[Act.put,sa',sb',sc',i64_w,i32_w];rfl
      refine take_ (i:=3) (N:=some 26) (v:=?_) (a':=?_) #[true,true,true,true,true,false,false,false,false] rfl rfl (take_ofW HT_.out HW_.out (by kernel_rfl)) (fun _ _ _ h=>h) (Or.inl ⟨by rfl,?_⟩) hHeld ?_ ?_
      rotate_left
      ·
       rintro w' ⟨s0,s1,s2,s3⟩
       go_simp;with_reducible rfl
      rotate_left
      ·
       simp only[Act.put,sa',sb',sc',i64_w,i32_w];rfl
      refine take_ (i:=5) (N:=some 28) (v:=?_) (a':=?_) #[true,true,true,true,true,true,false,false,false] rfl rfl (take_ofW HT_.out HW_.out (by kernel_rfl)) (fun _ _ _ h=>h) (Or.inl ⟨by rfl,?_⟩) hHeld ?_ ?_
      rotate_left
      ·
       rintro w' ⟨s0,s1,s2,s3⟩
       go_simp;with_reducible rfl
      rotate_left
      ·
       simp only[Act.put,sa',sb',sc',i64_w,i32_w];rfl
      refine join_ (σ:=Value × Nat) 1 #[true,true,true,true,true,true,true,true,false] (fun s_=>[(29, .agg #[s_.1, .bool t275]),(6, .pointer (some ⟨s_.2,0,none⟩))]) (fun s_ w'=>(w'.cell? ⟨gb261,0,none⟩=some (.int .i64 a0_0)∧w'.cell? ⟨gb261,1,none⟩=some (.slice A0_1 l0_1.length c0_1)∧w'.cell? ⟨gb261,2,none⟩=some (.int .i64 a0_2)∧w'.cell? (ad271.add (x5_1).toNat)=some (.int .i64 (rd x4_1 x5_1)))∧(Kd.R Kd.bool 4 w' w.heap.size (fun _=>True) s_.1 t272)∧(Kd.R (Kd.int .i64) 3 w' w.heap.size (fun _=>True) (.slice (some ad271) x4_1.length co19) x4_1)∧(w'.heap[gb261]? = some (.cells #[.int .i64 a0_0, .slice A0_1 l0_1.length c0_1, .int .i64 a0_2] 32 (0,0)))∧(w'.heap[s_.2]? = some (.cells #[.slice none 0 0, .bool false] 34 (0,0)))∧(w.heap.size≤s_.2)∧(w.heap.size≤s_.2)∧(gb261≠s_.2)∧(s_.2≠gb261)∧(Below w.heap.size w w')) ?_ ?_
      rotate_left
      ·
       intro hCont;refine two_ (i:=6) (j:=7) (Ni:=some 29) (Nj:=some 6) #[true,true,true,true,true,true,true,false,false] #[true,true,true,true,true,true,false,true,false] rfl rfl rfl rfl (two_of HT_.out (by kernel_rfl)) (by decide) (by decide) (fun K hK=>?_) (fun K hK=>?_)
       ·
        skip
        refine goes_ Try.func87 (by kernel_rfl) rfl #[.int .i64 (rd x4_1 x5_1), .int .i64 a0_0] (by rfl) rfl rfl (by (try simp only[List.map_toArray,List.map_cons,List.map_nil]);first|done|rfl|(simp only[List.length_drop,List.length_take];rfl)) ?_
        with_reducible refine (spec_keBank.calls k1 (rd x4_1 x5_1) a0_0 t272 t275 _ A17.out).mono ?_
        rintro e w21 ⟨v273,rfl,ho0,hb⟩
        have HS3_:=(hb.cell (bl' _ _ (hHeld.2.2.2))).trans (hHeld.2.2.2);refine ⟨_,rfl,?_⟩;have n0_:=am' (Kd.R_below (by (with_reducible repeat (first|apply ra'|apply rn'|apply rw'));exact HO_4.out) hb);have n1_:=am' (Kd.R_lower ho0 (below_size (by repeat (first|(with_reducible first|exact HB.out|apply ba'|apply bd'|apply be'|refine bs' ?_ GE261.out)|exact HB.out))));have n2_:=am' (blk_below (g:=gb261) (o := .cells #[.int .i64 a0_0, .slice A0_1 l0_1.length c0_1, .int .i64 a0_2] 32 (0,0)) (by (with_reducible repeat (first|refine kn' ?_ _|refine kd' ?_|refine ka' ?_ _));exact BK261.out) hb);have n3_:=am' (below_step (by repeat (first|(with_reducible first|exact HB.out|apply ba'|apply bd'|apply be'|refine bs' ?_ GE261.out)|exact HB.out)) hb);clear HO_4;clear BK261;clear HB;have HO_4:=n0_;have HO274:=n1_;have BK261:=n2_;have HB:=n3_;clear n0_ n1_ n2_ n3_;(try clear hb)
        (try clear hb2)
        (try clear hk)
        (try clear hi)
        (try clear ho0)
        refine hK.out _ _ ⟨(blk_cell BK261.out 0).trans rfl,(blk_cell BK261.out 1).trans rfl,(blk_cell BK261.out 2).trans rfl,HS3_⟩ (fun hHeld=>?_);clear hK K;refine norm_ (a':=?_) ?_ ?_
        rotate_left
        ·
         show Act.put _ (some 29) _=_
         simp only[Act.put,sa',sb',sc',i64_w,i32_w];rfl
        refine one_ (i:=7) (N:=some 6) #[true,true,true,true,true,true,true,true,false] rfl rfl (one_of HT_.out (by kernel_rfl)) (by decide) (fun K hK=>?_);refine box_step ?hg (N:=6) ?hd (cs:=#[.slice none 0 0, .bool false]) (t:=34) ?hr ?_;(case hd=>rfl);(case hg=>rfl);(case hr=>first|(go_simp;done)|(go_simp;rfl))
        intro gb276 hg w22 hbox hb;have HS3_:=(hb.cell (bl' _ _ (hHeld.2.2.2))).trans (hHeld.2.2.2);have n0_:=am' (Kd.R_below (by (with_reducible repeat (first|apply ra'|apply rn'|apply rw'));exact HO_4.out) hb);have n1_:=am' (Kd.R_below (by (with_reducible repeat (first|apply ra'|apply rn'|apply rw'));exact HO274.out) hb);have n2_:=am' (blk_below (g:=gb261) (o := .cells #[.int .i64 a0_0, .slice A0_1 l0_1.length c0_1, .int .i64 a0_2] 32 (0,0)) (by (with_reducible repeat (first|refine kn' ?_ _|refine kd' ?_|refine ka' ?_ _));exact BK261.out) hb);have n3_:=am' (below_step (by repeat (first|(with_reducible first|exact HB.out|apply ba'|apply bd'|apply be'|refine bs' ?_ GE261.out)|exact HB.out)) hb);have n4_:=am' (hbox);have n5_:=am' ((by rw[hg];exact (below_size (by repeat (first|(with_reducible first|exact HB.out|apply ba'|apply bd'|apply be'|refine bs' ?_ GE261.out)|exact HB.out))):w.heap.size≤gb276));have n6_:=am' ((by rw[hg];exact (below_size (by repeat (first|(with_reducible first|exact HB.out|apply ba'|apply bd'|apply be'|refine bs' ?_ GE261.out)|exact HB.out))):w.heap.size≤gb276));have n7_:=am' ((by rw[hg];exact Nat.ne_of_lt (blk_lt (g:=gb261) (o := .cells #[.int .i64 a0_0, .slice A0_1 l0_1.length c0_1, .int .i64 a0_2] 32 (0,0)) (by (with_reducible repeat (first|refine kn' ?_ _|refine kd' ?_|refine ka' ?_ _));exact BK261.out)):gb261≠gb276));have n8_:=am' ((by rw[hg];exact Nat.ne_of_gt (blk_lt (g:=gb261) (o := .cells #[.int .i64 a0_0, .slice A0_1 l0_1.length c0_1, .int .i64 a0_2] 32 (0,0)) (by (with_reducible repeat (first|refine kn' ?_ _|refine kd' ?_|refine ka' ?_ _));exact BK261.out)):gb276≠gb261));clear HO_4;clear HO274;clear BK261;clear HB;have HO_4:=n0_;have HO274:=n1_;have BK261:=n2_;have HB:=n3_;have BK276:=n4_;have GW276:=n5_;have GE276:=n6_;have NB261_276:=n7_;have NB276_261:=n8_;clear n0_ n1_ n2_ n3_ n4_ n5_ n6_ n7_ n8_;clear hb hbox hg;refine hK.out _ _ ⟨(blk_cell BK261.out 0).trans rfl,(blk_cell BK261.out 1).trans rfl,(blk_cell BK261.out 2).trans rfl,HS3_⟩ (fun hHeld=>?_);clear hK K;refine norm_ (a':=?_) ?_ ?_
        rotate_left
        ·
         show Act.put _ (some 6) _=_
         simp only[Act.put,sa',sb',sc',i64_w,i32_w];rfl
        exact norm_ (by simp only[putAll,Act.put,sa',sb',sc']) (hCont (v273,gb276) _ ⟨hHeld,(by (with_reducible repeat (first|apply ra'|apply rn'|apply rw'));exact HO274.out),(by (with_reducible repeat (first|apply ra'|apply rn'|apply rw'));exact HO_4.out),(by (with_reducible repeat (first|refine kn' ?_ _|refine kd' ?_|refine ka' ?_ _));exact BK261.out),(by (with_reducible repeat (first|refine kn' ?_ _|refine kd' ?_|refine ka' ?_ _));exact BK276.out),GW276.out,GE276.out,NB261_276.out,NB276_261.out,(by repeat (first|(with_reducible first|exact HB.out|apply ba'|apply bd'|apply be'|refine bs' ?_ GE261.out|refine bs' ?_ GE276.out)|exact HB.out))⟩)
       ·
        skip
        refine box_step ?hg (N:=6) ?hd (cs:=#[.slice none 0 0, .bool false]) (t:=34) ?hr ?_;(case hd=>rfl);(case hg=>rfl);(case hr=>first|(go_simp;done)|(go_simp;rfl))
        intro gb276 hg w21 hbox hb;have HS3_:=(hb.cell (bl' _ _ (hHeld.2.2.2))).trans (hHeld.2.2.2);have n0_:=am' (Kd.R_below (by (with_reducible repeat (first|apply ra'|apply rn'|apply rw'));exact HO_4.out) hb);have n1_:=am' (blk_below (g:=gb261) (o := .cells #[.int .i64 a0_0, .slice A0_1 l0_1.length c0_1, .int .i64 a0_2] 32 (0,0)) (by (with_reducible repeat (first|refine kn' ?_ _|refine kd' ?_|refine ka' ?_ _));exact BK261.out) hb);have n2_:=am' (below_step (by repeat (first|(with_reducible first|exact HB.out|apply ba'|apply bd'|apply be'|refine bs' ?_ GE261.out)|exact HB.out)) hb);have n3_:=am' (hbox);have n4_:=am' ((by rw[hg];exact (below_size (by repeat (first|(with_reducible first|exact HB.out|apply ba'|apply bd'|apply be'|refine bs' ?_ GE261.out)|exact HB.out))):w.heap.size≤gb276));have n5_:=am' ((by rw[hg];exact (below_size (by repeat (first|(with_reducible first|exact HB.out|apply ba'|apply bd'|apply be'|refine bs' ?_ GE261.out)|exact HB.out))):w.heap.size≤gb276));have n6_:=am' ((by rw[hg];exact Nat.ne_of_lt (blk_lt (g:=gb261) (o := .cells #[.int .i64 a0_0, .slice A0_1 l0_1.length c0_1, .int .i64 a0_2] 32 (0,0)) (by (with_reducible repeat (first|refine kn' ?_ _|refine kd' ?_|refine ka' ?_ _));exact BK261.out)):gb261≠gb276));have n7_:=am' ((by rw[hg];exact Nat.ne_of_gt (blk_lt (g:=gb261) (o := .cells #[.int .i64 a0_0, .slice A0_1 l0_1.length c0_1, .int .i64 a0_2] 32 (0,0)) (by (with_reducible repeat (first|refine kn' ?_ _|refine kd' ?_|refine ka' ?_ _));exact BK261.out)):gb276≠gb261));clear HO_4;clear BK261;clear HB;have HO_4:=n0_;have BK261:=n1_;have HB:=n2_;have BK276:=n3_;have GW276:=n4_;have GE276:=n5_;have NB261_276:=n6_;have NB276_261:=n7_;clear n0_ n1_ n2_ n3_ n4_ n5_ n6_ n7_;clear hb hbox hg;refine hK.out _ _ ⟨(blk_cell BK261.out 0).trans rfl,(blk_cell BK261.out 1).trans rfl,(blk_cell BK261.out 2).trans rfl,HS3_⟩ (fun hHeld=>?_);clear hK K;refine norm_ (a':=?_) ?_ ?_
        rotate_left
        ·
         show Act.put _ (some 6) _=_
         simp only[Act.put,sa',sb',sc',i64_w,i32_w];rfl
        refine one_ (i:=6) (N:=some 29) #[true,true,true,true,true,true,true,true,false] rfl rfl (one_of HT_.out (by kernel_rfl)) (by decide) (fun K hK=>?_);refine goes_ Try.func87 (by kernel_rfl) rfl #[.int .i64 (rd x4_1 x5_1), .int .i64 a0_0] (by rfl) rfl rfl (by (try simp only[List.map_toArray,List.map_cons,List.map_nil]);first|done|rfl|(simp only[List.length_drop,List.length_take];rfl)) ?_
        with_reducible refine (spec_keBank.calls k1 (rd x4_1 x5_1) a0_0 t272 t275 _ A17.out).mono ?_
        rintro e w22 ⟨v273,rfl,ho0,hb⟩
        have HS3_:=(hb.cell (bl' _ _ (hHeld.2.2.2))).trans (hHeld.2.2.2);refine ⟨_,rfl,?_⟩;have n0_:=am' (Kd.R_below (by (with_reducible repeat (first|apply ra'|apply rn'|apply rw'));exact HO_4.out) hb);have n1_:=am' (Kd.R_lower ho0 (below_size (by repeat (first|(with_reducible first|exact HB.out|apply ba'|apply bd'|apply be'|refine bs' ?_ GE261.out|refine bs' ?_ GE276.out)|exact HB.out))));have n2_:=am' (blk_below (g:=gb261) (o := .cells #[.int .i64 a0_0, .slice A0_1 l0_1.length c0_1, .int .i64 a0_2] 32 (0,0)) (by (with_reducible repeat (first|refine kn' ?_ _|refine kd' ?_|refine ka' ?_ _));exact BK261.out) hb);have n3_:=am' (blk_below (g:=gb276) (o := .cells #[.slice none 0 0, .bool false] 34 (0,0)) (by (with_reducible repeat (first|refine kn' ?_ _|refine kd' ?_|refine ka' ?_ _));exact BK276.out) hb);have n4_:=am' (below_step (by repeat (first|(with_reducible first|exact HB.out|apply ba'|apply bd'|apply be'|refine bs' ?_ GE261.out|refine bs' ?_ GE276.out)|exact HB.out)) hb);clear HO_4;clear BK261;clear BK276;clear HB;have HO_4:=n0_;have HO274:=n1_;have BK261:=n2_;have BK276:=n3_;have HB:=n4_;clear n0_ n1_ n2_ n3_ n4_;(try clear hb)
        (try clear hb2)
        (try clear hk)
        (try clear hi)
        (try clear ho0)
        refine hK.out _ _ ⟨(blk_cell BK261.out 0).trans rfl,(blk_cell BK261.out 1).trans rfl,(blk_cell BK261.out 2).trans rfl,HS3_⟩ (fun hHeld=>?_);clear hK K;refine norm_ (a':=?_) ?_ ?_
        rotate_left
        ·
         show Act.put _ (some 29) _=_
         simp only[Act.put,sa',sb',sc',i64_w,i32_w];rfl
        exact norm_ (by simp only[putAll,Act.put,sa',sb',sc']) (hCont (v273,gb276) _ ⟨hHeld,(by (with_reducible repeat (first|apply ra'|apply rn'|apply rw'));exact HO274.out),(by (with_reducible repeat (first|apply ra'|apply rn'|apply rw'));exact HO_4.out),(by (with_reducible repeat (first|refine kn' ?_ _|refine kd' ?_|refine ka' ?_ _));exact BK261.out),(by (with_reducible repeat (first|refine kn' ?_ _|refine kd' ?_|refine ka' ?_ _));exact BK276.out),GW276.out,GE276.out,NB261_276.out,NB276_261.out,(by repeat (first|(with_reducible first|exact HB.out|apply ba'|apply bd'|apply be'|refine bs' ?_ GE261.out|refine bs' ?_ GE276.out)|exact HB.out))⟩)
      rintro ⟨v273,gb276⟩ w23 ⟨hS_,h0_,h1_,h2_,h3_,h4_,h5_,h6_,h7_,h8_⟩
      have n0_:Aside0 (Kd.R Kd.bool 4 w23 w.heap.size (fun _=>True) v273 t272):=⟨h0_⟩
      have n1_:Aside0 (Kd.R (Kd.int .i64) 3 w23 w.heap.size (fun _=>True) (.slice (some ad271) x4_1.length co19) x4_1):=⟨h1_⟩
      have n2_:Aside0 (w23.heap[gb261]? = some (.cells #[.int .i64 a0_0, .slice A0_1 l0_1.length c0_1, .int .i64 a0_2] 32 (0,0))):=⟨h2_⟩
      have n3_:Aside0 (w23.heap[gb276]? = some (.cells #[.slice none 0 0, .bool false] 34 (0,0))):=⟨h3_⟩
      have n4_:Aside0 (w.heap.size≤gb276):=⟨h4_⟩
      have n5_:Aside0 (w.heap.size≤gb276):=⟨h5_⟩
      have n6_:Aside0 (gb261≠gb276):=⟨h6_⟩
      have n7_:Aside0 (gb276≠gb261):=⟨h7_⟩
      have n8_:Aside0 (Below w.heap.size w w23):=⟨h8_⟩
      clear HO_4;clear BK261;clear HB;clear h0_ h1_ h2_ h3_ h4_ h5_ h6_ h7_ h8_;have HO274:=n0_;have HO_4:=n1_;have BK261:=n2_;have BK276:=n3_;have GW276:=n4_;have GE276:=n5_;have NB261_276:=n6_;have NB276_261:=n7_;have HB:=n8_;clear n0_ n1_ n2_ n3_ n4_ n5_ n6_ n7_ n8_;have hHeld:w23.cell? ⟨gb261,0,none⟩=some (.int .i64 a0_0)∧w23.cell? ⟨gb261,1,none⟩=some (.slice A0_1 l0_1.length c0_1)∧w23.cell? ⟨gb261,2,none⟩=some (.int .i64 a0_2)∧w23.cell? (ad271.add (x5_1).toNat)=some (.int .i64 (rd x4_1 x5_1)):=hS_;obtain ⟨Ao24,co24,eo24⟩:=Kd.R_slice HO274.out
      (first|subst eo24|(injection eo24 with f1_ f2_ f3_;have f4_:=f1_.symm;have f5_:=f3_.symm;clear f1_ f2_ f3_;subst f4_;subst f5_))
      refine norm_ (a':=?_) ?_ ?_
      rotate_left
      ·
       simp only[putAll,Act.put,sa',sb',sc'];rfl
      refine one_ (i:=8) (N:=none) #[true,true,true,true,true,true,true,true,true] rfl rfl (one_of HT_.out (by kernel_rfl)) (by decide) (fun K hK=>?_);have hs25:w23.cell? ⟨gb276,0,none⟩=some (.slice none 0 0):=(blk_cell BK276.out 0).trans rfl;have hfs25:=blk_frozen BK276.out 0;have hns25_0:=NB261_276.out;have hms25_0:=NB276_261.out;have hs26:w23.cell? ⟨gb276,1,none⟩=some (.bool false):=(blk_cell BK276.out 1).trans rfl;have hfs26:=blk_frozen BK276.out 1;have hns26_0:=NB261_276.out;have hms26_0:=NB276_261.out;refine skip_ (w1:=?_) (by rfl) rfl ?_ ?_
      rotate_left
      ·
       go_simp;rfl
      refine hK.out _ _ ⟨((cell_far (p:=⟨gb276,_,none⟩) NB261_276.out _).trans (((cell_far (p:=⟨gb276,_,none⟩) NB261_276.out _).trans (hHeld.1)))),((cell_far (p:=⟨gb276,_,none⟩) NB261_276.out _).trans (((cell_far (p:=⟨gb276,_,none⟩) NB261_276.out _).trans (hHeld.2.1)))),((cell_far (p:=⟨gb276,_,none⟩) NB261_276.out _).trans (((cell_far (p:=⟨gb276,_,none⟩) NB261_276.out _).trans (hHeld.2.2.1)))),((cell_far (p:=⟨gb276,_,none⟩) (by first|exact Kd.own_blk (Kd.R_ne HO_4.out BK276.out (by decide))|(rw[add_block];exact Kd.own_blk (Kd.R_ne HO_4.out BK276.out (by decide)))|(show (Addr.add _ _).block≠_;rw[add_block];exact Kd.own_blk (Kd.R_ne HO_4.out BK276.out (by decide)))|(dsimp only;exact Kd.own_blk (Kd.R_ne HO_4.out BK276.out (by decide)))) _).trans (((cell_far (p:=⟨gb276,_,none⟩) (by first|exact Kd.own_blk (Kd.R_ne HO_4.out BK276.out (by decide))|(rw[add_block];exact Kd.own_blk (Kd.R_ne HO_4.out BK276.out (by decide)))|(show (Addr.add _ _).block≠_;rw[add_block];exact Kd.own_blk (Kd.R_ne HO_4.out BK276.out (by decide)))|(dsimp only;exact Kd.own_blk (Kd.R_ne HO_4.out BK276.out (by decide)))) _).trans (hHeld.2.2.2))))⟩ (fun hHeld=>?_);clear hK K;refine done_ (done_of HT_.out (by kernel_rfl)) ?_
      have hnb27:=NB261_276.out;have hnc27:=NB276_261.out;have hcz28_0:w23.cell? ⟨gb261,0,none⟩=some (.int .i64 a0_0):=(blk_cell BK261.out 0).trans rfl;have hcz28_1:w23.cell? ⟨gb261,1,none⟩=some (.slice A0_1 l0_1.length c0_1):=(blk_cell BK261.out 1).trans rfl;have hcz28_2:w23.cell? ⟨gb261,2,none⟩=some (.int .i64 a0_2):=(blk_cell BK261.out 2).trans rfl;have hfz28_0:=blk_frozen BK261.out 0;have hfz28_1:=blk_frozen BK261.out 1;have hfz28_2:=blk_frozen BK261.out 2;have hcz29_0:w23.cell? ⟨gb276,0,none⟩=some (.slice none 0 0):=(blk_cell BK276.out 0).trans rfl;have hcz29_1:w23.cell? ⟨gb276,1,none⟩=some (.bool false):=(blk_cell BK276.out 1).trans rfl;have hfz29_0:=blk_frozen BK276.out 0;have hfz29_1:=blk_frozen BK276.out 1
      try go_wp2_with (first|((with_reducible refine gate_callee (f:=54) rfl ?_);refine goesL_ (some 32) rfl rfl Try.func54 (by kernel_rfl) rfl #[.agg #[.int .i64 a0_0, .slice A0_1 l0_1.length c0_1, .int .i64 a0_2], .agg #[.slice Ao24 t272.length co24, .bool t275]] rfl (by (try simp only[List.map_toArray,List.map_cons,List.map_nil]);first|done|rfl|(simp only[List.length_drop,List.length_take];rfl)) ?_;(with_reducible refine (spec_keRides.calls k1 a0_0 _ _ l0_1 a0_2 _ _ t272 t275 t277 _ ?side1 ?side2 ?side3 ?side4 A18.out).mono ?_);(case side1=>exact Kd.C_below HR0_1.out (by repeat (first|(with_reducible first|exact HB.out|apply ba'|apply bd'|apply be'|refine bs' ?_ GE261.out|refine bs' ?_ GE276.out)|exact HB.out)));(case side2=>exact HC0_1.out);(case side3=>refine (Kd.R_reads' (e:=4) (base:=w.heap.size) (ok:=fun k_=>True) (n:=t272.length) (c:=co24) ?_).2.2;exact (by (with_reducible repeat (first|apply ra'|apply rn'|apply rw'));exact (Kd.R_mono (Kd.R_far (p:=⟨gb276,1,none⟩) (Kd.R_far (p:=⟨gb276,0,none⟩) (Kd.R_types HO274.out BK276.out (by decide)) (fun _ hk=>hk.2) (.slice Ao24 t272.length co24)) (fun _ hk=>hk.2) (.bool t275)) (fun _ h_=>h_.1))));(case side4=>exact (Kd.R_reads' HO274.out).2.1);rintro e w30 ⟨v278,rfl,ho0,hb⟩;refine ⟨_,rfl,?_⟩;have n0_:=am' (Kd.R_below (by (with_reducible repeat (first|apply ra'|apply rn'|apply rw'));exact (Kd.R_mono (Kd.R_far (p:=⟨gb276,1,none⟩) (Kd.R_far (p:=⟨gb276,0,none⟩) (Kd.R_types HO_4.out BK276.out (by decide)) (fun _ hk=>hk.2) (.slice Ao24 t272.length co24)) (fun _ hk=>hk.2) (.bool t275)) (fun _ h_=>h_.1))) hb);have n1_:=am' (Kd.R_below (by (with_reducible repeat (first|apply ra'|apply rn'|apply rw'));exact (Kd.R_mono (Kd.R_far (p:=⟨gb276,1,none⟩) (Kd.R_far (p:=⟨gb276,0,none⟩) (Kd.R_types HO274.out BK276.out (by decide)) (fun _ hk=>hk.2) (.slice Ao24 t272.length co24)) (fun _ hk=>hk.2) (.bool t275)) (fun _ h_=>h_.1))) hb);have n2_:=am' (Kd.N_lower (Kd.N_mono (ok':=fun k_=>some k_≠(.slice (some ad271) x4_1.length co19:Value).ownBlock∧some k_≠(.slice Ao24 t272.length co24:Value).ownBlock∧k_≠gb261∧k_≠gb276) ho0 (fun k_ hk_=>⟨(Kd.fresh' (Kd.R_lt (by (with_reducible repeat (first|apply ra'|apply rn'|apply rw'));exact (Kd.R_mono (Kd.R_far (p:=⟨gb276,1,none⟩) (Kd.R_far (p:=⟨gb276,0,none⟩) (Kd.R_types HO_4.out BK276.out (by decide)) (fun _ hk=>hk.2) (.slice Ao24 t272.length co24)) (fun _ hk=>hk.2) (.bool t275)) (fun _ h_=>h_.1)))) k_ hk_),(Kd.fresh' (Kd.R_lt (by (with_reducible repeat (first|apply ra'|apply rn'|apply rw'));exact (Kd.R_mono (Kd.R_far (p:=⟨gb276,1,none⟩) (Kd.R_far (p:=⟨gb276,0,none⟩) (Kd.R_types HO274.out BK276.out (by decide)) (fun _ hk=>hk.2) (.slice Ao24 t272.length co24)) (fun _ hk=>hk.2) (.bool t275)) (fun _ h_=>h_.1)))) k_ hk_),(Kd.freshB (g:=gb261) (o := .cells #[.int .i64 a0_0, .slice A0_1 l0_1.length c0_1, .int .i64 a0_2] 32 (0,0)) (by (with_reducible repeat (first|refine kn' ?_ _|refine kd' ?_|refine ka' ?_ _));refine blk_far ?_ NB261_276.out _;(with_reducible repeat (first|refine kn' ?_ _|refine kd' ?_|refine ka' ?_ _));refine blk_far ?_ NB261_276.out _;(with_reducible repeat (first|refine kn' ?_ _|refine kd' ?_|refine ka' ?_ _));exact BK261.out) k_ hk_),(Kd.freshB (g:=gb276) (o := .cells #[.slice Ao24 t272.length co24, .bool t275] 34 (0,0)) (by (with_reducible repeat (first|refine kn' ?_ _|refine kd' ?_|refine ka' ?_ _));refine blk_put (cs:=#[.slice Ao24 t272.length co24, .bool false]) ?_ 1 _ rfl;(with_reducible repeat (first|refine kn' ?_ _|refine kd' ?_|refine ka' ?_ _));refine blk_put (cs:=#[.slice none 0 0, .bool false]) ?_ 0 _ rfl;(with_reducible repeat (first|refine kn' ?_ _|refine kd' ?_|refine ka' ?_ _));exact BK276.out) k_ hk_)⟩)) (below_size (by repeat (first|(with_reducible first|exact HB.out|apply ba'|apply bd'|apply be'|refine bs' ?_ GE261.out|refine bs' ?_ GE276.out)|exact HB.out))));have n3_:=am' (blk_below (g:=gb261) (o := .cells #[.int .i64 a0_0, .slice A0_1 l0_1.length c0_1, .int .i64 a0_2] 32 (0,0)) (by (with_reducible repeat (first|refine kn' ?_ _|refine kd' ?_|refine ka' ?_ _));refine blk_far ?_ NB261_276.out _;(with_reducible repeat (first|refine kn' ?_ _|refine kd' ?_|refine ka' ?_ _));refine blk_far ?_ NB261_276.out _;(with_reducible repeat (first|refine kn' ?_ _|refine kd' ?_|refine ka' ?_ _));exact BK261.out) hb);have n4_:=am' (blk_below (g:=gb276) (o := .cells #[.slice Ao24 t272.length co24, .bool t275] 34 (0,0)) (by (with_reducible repeat (first|refine kn' ?_ _|refine kd' ?_|refine ka' ?_ _));refine blk_put (cs:=#[.slice Ao24 t272.length co24, .bool false]) ?_ 1 _ rfl;(with_reducible repeat (first|refine kn' ?_ _|refine kd' ?_|refine ka' ?_ _));refine blk_put (cs:=#[.slice none 0 0, .bool false]) ?_ 0 _ rfl;(with_reducible repeat (first|refine kn' ?_ _|refine kd' ?_|refine ka' ?_ _));exact BK276.out) hb);have n5_:=am' (below_step (by repeat (first|(with_reducible first|exact HB.out|apply ba'|apply bd'|apply be'|refine bs' ?_ GE261.out|refine bs' ?_ GE276.out)|exact HB.out)) hb);clear HO_4;clear HO274;clear BK261;clear BK276;clear HB;have HO_4:=n0_;have HO274:=n1_;have HO279:=n2_;have BK261:=n3_;have BK276:=n4_;have HB:=n5_;clear n0_ n1_ n2_ n3_ n4_ n5_;(try clear hb);(try clear hb2);(try clear hk);(try clear hi);(try clear ho0);obtain ⟨Ao31,co31,eo31⟩:=Kd.N_slice HO279.out;subst eo31))
      go_loopg [4,34] k1 (fun kq v4 v34 w'=>∃ (x4_2:List Int) (x34_2:Int),v34 = .int .i64 x34_2∧Aside0 (spec_CountReachedBanks.l1 kq x4_2 x5_1 t277 (t277.length:Int) x34_2 a0_0 l0_1 a0_2 t272 t275=some (r1,r2))∧Aside0 (kq≤k1)∧Aside0 (Kd.R (Kd.int .i64) 3 w' w.heap.size (fun _=>True) v4 x4_2)∧Aside0 (Kd.N (Kd.slice 3 (Kd.int .i64)) 43 w' w.heap.size (fun k_=>some k_≠(v4:Value).ownBlock∧some k_≠((.slice Ao24 t272.length co24):Value).ownBlock∧k_≠gb261∧k_≠gb276) (.slice Ao31 t277.length co31) t277)∧Aside0 (Kd.R Kd.bool 4 w' w.heap.size (fun _=>True) (.slice Ao24 t272.length co24) t272)∧Aside0 (w'.heap[gb261]? = some (.cells #[.int .i64 a0_0,(.slice A0_1 l0_1.length c0_1), .int .i64 a0_2] 32 (0,0)))∧Aside0 (w'.heap[gb276]? = some (.cells #[(.slice Ao24 t272.length co24), .bool t275] 34 (0,0)))∧Aside0 (Below w.heap.size w w'))
      case atStart=>exact ⟨(x4_1),(0),(by first|rfl|(simp;done)|(simp[*];done)),H',⟨Nat.le_refl _⟩,⟨by (with_reducible repeat (first|apply ra'|apply rn'|apply rw'));exact HO_4.out⟩,⟨by (with_reducible repeat (first|apply Kd.N_alloc|apply Kd.N_drewN|apply Kd.N_drew));exact HO279.out⟩,⟨by (with_reducible repeat (first|apply ra'|apply rn'|apply rw'));exact HO274.out⟩,⟨by (with_reducible repeat (first|refine kn' ?_ _|refine kd' ?_|refine ka' ?_ _));exact BK261.out⟩,⟨by (with_reducible repeat (first|refine kn' ?_ _|refine kd' ?_|refine ka' ?_ _));exact BK276.out⟩,⟨by repeat (first|(with_reducible first|exact HB.out|apply ba'|apply bd'|apply be'|refine bs' ?_ GE261.out|refine bs' ?_ GE276.out)|exact HB.out)⟩⟩
      case round =>
       clear H';try clear c1
       try clear c2
       try clear p2
       try clear q2
       try clear hx2
       try clear c3
       try clear c4
       try clear c5
       try clear c6
       try clear c7
       try clear c8
       try clear c15
       try clear c15b0
       try clear c16
       try clear c16b0
       try clear c27
       try clear p27
       try clear q27
       try clear hx27
       try clear hcz28_0
       try clear hcz28_1
       try clear hcz28_2
       try clear hcz29_0
       try clear hcz29_1
       try clear hcz7_0
       try clear hcz7_1
       try clear hcz7_2
       try clear hcz9_0
       try clear hcz9_1
       try clear hcz9_2
       try clear hfz28_0
       try clear hfz28_1
       try clear hfz28_2
       try clear hfz29_0
       try clear hfz29_1
       try clear hfz7_0
       try clear hfz7_1
       try clear hfz7_2
       try clear hfz9_0
       try clear hfz9_1
       try clear hfz9_2
       try clear hx271_0
       try clear p2
       try clear p271
       try clear q271
       obtain ⟨x4_2,x34_2,rfl,HA,HK2,HO_4,HO_32,HO_277000,BK261,BK276,HB⟩:=hrel;cases gk with
       | zero=>exact absurd HA.out (by simp[spec_CountReachedBanks.l1])
       | succ k2 =>
        have H:=HA.out;clear HA;simp only[spec_CountReachedBanks.l1] at H;by_cases c32:x34_2 < (t277.length:Int)
        ·
         rw[if_pos c32] at H;have c32b0:decide (x34_2 < (t277.length:Int))=true:=decide_eq_true c32;clear c32;by_cases c33:0≤x34_2
         ·
          rw[if_pos c33] at H;have c33b0:decide (0≤x34_2)=true:=decide_eq_true c33;clear c33;by_cases c34:x34_2 < (t277.length:Int)
          ·
           rw[if_pos c34] at H;have c34b0:decide (x34_2 < (t277.length:Int))=true:=decide_eq_true c34;clear c34;replace H:=Option.bind_eq_some_iff.mp H;obtain ⟨⟨t281,t284⟩,A350,H⟩:=H;replace H:((spec_keIndex.f k2 t281 t284).bind fun t285=>((spec_l1Has.f k2 x4_2 t285).bind fun t286=>(if t286=true then (spec_CountReachedBanks.l1 k2 x4_2 x5_1 t277 (t277.length:Int) (wrap64 (x34_2+1)) a0_0 l0_1 a0_2 t272 t275) else (if x4_2.length < 17592186044416 then (spec_CountReachedBanks.l1 k2 (x4_2 ++ [t285]) x5_1 t277 (t277.length:Int) (wrap64 (x34_2+1)) a0_0 l0_1 a0_2 t272 t275) else (none)))))=some (r1,r2):=H;have A35:=am' A350;clear A350;replace H:=Option.bind_eq_some_iff.mp H;obtain ⟨t285,A360,H⟩:=H;replace H:((spec_l1Has.f k2 x4_2 t285).bind fun t286=>(if t286=true then (spec_CountReachedBanks.l1 k2 x4_2 x5_1 t277 (t277.length:Int) (wrap64 (x34_2+1)) a0_0 l0_1 a0_2 t272 t275) else (if x4_2.length < 17592186044416 then (spec_CountReachedBanks.l1 k2 (x4_2 ++ [t285]) x5_1 t277 (t277.length:Int) (wrap64 (x34_2+1)) a0_0 l0_1 a0_2 t272 t275) else (none))))=some (r1,r2):=H;have A36:=am' A360;clear A360;replace H:=Option.bind_eq_some_iff.mp H;obtain ⟨t286,A370,H⟩:=H;replace H:(if t286=true then (spec_CountReachedBanks.l1 k2 x4_2 x5_1 t277 (t277.length:Int) (wrap64 (x34_2+1)) a0_0 l0_1 a0_2 t272 t275) else (if x4_2.length < 17592186044416 then (spec_CountReachedBanks.l1 k2 (x4_2 ++ [t285]) x5_1 t277 (t277.length:Int) (wrap64 (x34_2+1)) a0_0 l0_1 a0_2 t272 t275) else (none)))=some (r1,r2):=H;have A37:=am' A370;clear A370;by_cases c38:t286=true
           ·
            subst c38;have H1:(spec_CountReachedBanks.l1 k2 x4_2 x5_1 t277 (t277.length:Int) (wrap64 (x34_2+1)) a0_0 l0_1 a0_2 t272 t275)=some (r1,r2):=by rw[if_pos rfl] at H;exact H
            clear H;have H:=H1;clear H1;have H':=am' H;clear H;have p280:0≤(x34_2:Int):=of_decide_eq_true (by first|(with_reducible assumption)|assumption);have q280:x34_2 < (t277.length:Int):=of_decide_eq_true (by first|(with_reducible assumption)|assumption);obtain ⟨ad280,A280_0,c280_0,e280,hx280_0,hl280_0,hi280_0⟩:=at_L1 (Kd.N_reads' HO_32.out).2.2 x34_2 p280 q280;cases e280;obtain ⟨ce280,hce280,hMe280,hcc280⟩:=Kd.N_get HO_32.out [] x34_2 p280 (by first|exact q280|exact of_decide_eq_true (by first|(with_reducible assumption)|assumption)|(have e_:=(Kd.N_reads' HO_32.out).1;omega));obtain ⟨ua280_0,uc280_0,rfl,ul280_0,ge280_0⟩:=Kd.FK_slice_open hMe280;have hv280_0:=hcc280 0 _ rfl;rw[Nat.add_zero,show ((Kd.slice 3 (Kd.int .i64))).sz=1 from rfl,Nat.mul_one] at hv280_0;replace hv280_0:=Option.some.inj (hv280_0.symm.trans hx280_0);injection hv280_0 with hva_ hvn_ hvc_
            rw[hva_] at ge280_0;rw[hvc_] at ul280_0;have HL280_0:=am' (show Kd.V (Kd.int .i64) 3 _ w.heap.size _ _ (rd_L1 t277 x34_2) from Kd.V_mk ul280_0 ge280_0);clear hva_ hvn_ hvc_ ge280_0 ul280_0;clear hcc280 hce280;have HR280_0:=am' hi280_0;have HC280_0:=am' hl280_0;clear hi280_0 hl280_0;replace p280:=eq_true p280;replace q280:=eq_true q280;have hnb39:=NB276_261.out;have hnc39:=NB261_276.out;have hcz40_0:wr.cell? ⟨gb276,0,none⟩=some (.slice Ao24 t272.length co24):=(blk_cell BK276.out 0).trans rfl;have hcz40_1:wr.cell? ⟨gb276,1,none⟩=some (.bool t275):=(blk_cell BK276.out 1).trans rfl;have hfz40_0:=blk_frozen BK276.out 0;have hfz40_1:=blk_frozen BK276.out 1;go_wp2_with (first|((with_reducible refine gate_callee (f:=76) rfl ?_);refine goesL_ (some 40) rfl rfl Try.func76 (by kernel_rfl) rfl #[.agg #[.slice Ao24 t272.length co24, .bool t275], .slice A280_0 (rd_L1 t277 x34_2).length c280_0] rfl (by (try simp only[List.map_toArray,List.map_cons,List.map_nil]);first|done|rfl|(simp only[List.length_drop,List.length_take];rfl)) ?_;(with_reducible refine (spec_keRide.calls k2 _ _ t272 t275 _ _ (rd_L1 t277 x34_2) t281 t284 _ ?side1 ?side2 ?side3 ?side4 A35.out).mono ?_);(case side1=>repeat (first|exact (Kd.R_reads' HO_277000.out).2.2|(with_reducible refine ca' ?_ _)|(with_reducible refine cn' ?_ _)|(with_reducible refine cd' ?_)));(case side2=>exact (Kd.R_reads' HO_277000.out).2.1);(case side3=>repeat (first|exact (by repeat (first|(with_reducible exact HR280_0.out)|(with_reducible refine ca' ?_ _)|(with_reducible refine cn' ?_ _)|(with_reducible refine cd' ?_)|exact HR280_0.out))|(with_reducible refine ca' ?_ _)|(with_reducible refine cn' ?_ _)|(with_reducible refine cd' ?_)));(case side4=>exact HC280_0.out);rintro e w41 ⟨v282,rfl,ho0,hb⟩;refine ⟨_,rfl,?_⟩;have n0_:=am' (Kd.R_below (by (with_reducible repeat (first|apply ra'|apply rn'|apply rw'));exact HO_4.out) hb);have n1_:=am' (Kd.N_elder' (by (with_reducible repeat (first|apply Kd.N_alloc|apply Kd.N_drewN|apply Kd.N_drew));exact HO_32.out) (Kd.R_base ho0) hb);have n2_:=am' (Kd.R_elder' (by (with_reducible repeat (first|apply ra'|apply rn'|apply rw'));exact HO_277000.out) (Kd.R_base ho0) hb);have n3_:=am' (Kd.V_elder' (by (with_reducible repeat (first|apply Kd.V_alloc|apply Kd.V_drewN|apply Kd.V_drew));exact HL280_0.out) (Kd.R_base ho0) hb);have n4_:=am' (Kd.R_lower (Kd.R_new' ho0 (Kd.R_lt (by (with_reducible repeat (first|apply ra'|apply rn'|apply rw'));exact HO_277000.out))) (below_size (by repeat (first|(with_reducible first|exact HB.out|apply ba'|apply bd'|apply be'|refine bs' ?_ GE261.out|refine bs' ?_ GE276.out)|exact HB.out))));have n5_:=am' (blk_below (g:=gb261) (o := .cells #[.int .i64 a0_0, .slice A0_1 l0_1.length c0_1, .int .i64 a0_2] 32 (0,0)) (by (with_reducible repeat (first|refine kn' ?_ _|refine kd' ?_|refine ka' ?_ _));exact BK261.out) hb);have n6_:=am' (blk_below (g:=gb276) (o := .cells #[.slice Ao24 t272.length co24, .bool t275] 34 (0,0)) (by (with_reducible repeat (first|refine kn' ?_ _|refine kd' ?_|refine ka' ?_ _));exact BK276.out) hb);have n7_:=am' (Kd.C_below (by repeat (first|(with_reducible exact HR280_0.out)|(with_reducible refine ca' ?_ _)|(with_reducible refine cn' ?_ _)|(with_reducible refine cd' ?_)|exact HR280_0.out)) hb);have n8_:=am' (below_step (by repeat (first|(with_reducible first|exact HB.out|apply ba'|apply bd'|apply be'|refine bs' ?_ GE261.out|refine bs' ?_ GE276.out)|exact HB.out)) hb);clear HO_4;clear HO_32;clear HO_277000;clear HL280_0;clear BK261;clear BK276;clear HR280_0;clear HB;have HO_4:=n0_;have HO_32:=n1_;have HO_277000:=n2_;have HL280_0:=n3_;have HO283:=n4_;have BK261:=n5_;have BK276:=n6_;have HR280_0:=n7_;have HB:=n8_;clear n0_ n1_ n2_ n3_ n4_ n5_ n6_ n7_ n8_;(try clear hb);(try clear hb2);(try clear hk);(try clear hi);(try clear ho0);obtain ⟨Ao42,co42,eo42⟩:=Kd.R_slice HO283.out;subst eo42)|((with_reducible refine gate_callee (f:=70) rfl ?_);refine goesL_ (some 41) rfl rfl Try.func70 (by kernel_rfl) rfl #[.agg #[.slice Ao42 t281.length co42, .bool t284]] rfl (by (try simp only[List.map_toArray,List.map_cons,List.map_nil]);first|done|rfl|(simp only[List.length_drop,List.length_take];rfl)) ?_;(with_reducible refine (spec_keIndex.calls k2 _ _ t281 t284 t285 _ ?side1 ?side2 A36.out).mono ?_);(case side1=>repeat (first|exact (Kd.R_reads' HO283.out).2.2|(with_reducible refine ca' ?_ _)|(with_reducible refine cn' ?_ _)|(with_reducible refine cd' ?_)));(case side2=>exact (Kd.R_reads' HO283.out).2.1);rintro e w43 ⟨rfl,hb⟩;refine ⟨_,rfl,?_⟩;have n0_:=am' (Kd.R_below (by (with_reducible repeat (first|apply ra'|apply rn'|apply rw'));exact HO_4.out) hb);have n1_:=am' (Kd.N_below (by (with_reducible repeat (first|apply Kd.N_alloc|apply Kd.N_drewN|apply Kd.N_drew));exact HO_32.out) hb);have n2_:=am' (Kd.R_below (by (with_reducible repeat (first|apply ra'|apply rn'|apply rw'));exact HO_277000.out) hb);have n3_:=am' (Kd.V_below (by (with_reducible repeat (first|apply Kd.V_alloc|apply Kd.V_drewN|apply Kd.V_drew));exact HL280_0.out) hb);have n4_:=am' (Kd.R_below (by (with_reducible repeat (first|apply ra'|apply rn'|apply rw'));exact HO283.out) hb);have n5_:=am' (blk_below (g:=gb261) (o := .cells #[.int .i64 a0_0, .slice A0_1 l0_1.length c0_1, .int .i64 a0_2] 32 (0,0)) (by (with_reducible repeat (first|refine kn' ?_ _|refine kd' ?_|refine ka' ?_ _));exact BK261.out) hb);have n6_:=am' (blk_below (g:=gb276) (o := .cells #[.slice Ao24 t272.length co24, .bool t275] 34 (0,0)) (by (with_reducible repeat (first|refine kn' ?_ _|refine kd' ?_|refine ka' ?_ _));exact BK276.out) hb);have n7_:=am' (Kd.C_below (by repeat (first|(with_reducible exact HR280_0.out)|(with_reducible refine ca' ?_ _)|(with_reducible refine cn' ?_ _)|(with_reducible refine cd' ?_)|exact HR280_0.out)) hb);have n8_:=am' (below_step (by repeat (first|(with_reducible first|exact HB.out|apply ba'|apply bd'|apply be'|refine bs' ?_ GE261.out|refine bs' ?_ GE276.out)|exact HB.out)) hb);clear HO_4;clear HO_32;clear HO_277000;clear HL280_0;clear HO283;clear BK261;clear BK276;clear HR280_0;clear HB;have HO_4:=n0_;have HO_32:=n1_;have HO_277000:=n2_;have HL280_0:=n3_;have HO283:=n4_;have BK261:=n5_;have BK276:=n6_;have HR280_0:=n7_;have HB:=n8_;clear n0_ n1_ n2_ n3_ n4_ n5_ n6_ n7_ n8_;(try clear hb);(try clear hb2);(try clear hk);(try clear hi);obtain ⟨Ao44,co44,eo44⟩:=Kd.R_slice HO_4.out;subst eo44)|((with_reducible refine gate_callee (f:=63) rfl ?_);refine goesL_ (some 44) rfl rfl Try.func63 (by kernel_rfl) rfl #[.slice Ao44 x4_2.length co44, .int .i64 t285] rfl (by (try simp only[List.map_toArray,List.map_cons,List.map_nil]);first|done|rfl|(simp only[List.length_drop,List.length_take];rfl)) ?_;(with_reducible refine (spec_l1Has.calls k2 _ _ x4_2 t285 true _ ?side1 ?side2 A37.out).mono ?_);(case side1=>repeat (first|exact (Kd.R_reads' HO_4.out).2.2|(with_reducible refine ca' ?_ _)|(with_reducible refine cn' ?_ _)|(with_reducible refine cd' ?_)));(case side2=>exact (Kd.R_reads' HO_4.out).2.1);rintro e w' ⟨rfl,⟨nd,rfl⟩⟩;refine ⟨_,rfl,?_⟩))
            go_roundg k2
            case measure=>have:=HK1.out;have:=HK2.out;omega
            case rel=>exact ⟨(x4_2),(wrap64 (x34_2+1)),(by first|rfl|(simp;done)|(simp[*];done)),H',⟨by have:=HK1.out;have:=HK2.out;omega⟩,⟨by (with_reducible repeat (first|apply ra'|apply rn'|apply rw'));exact HO_4.out⟩,⟨by (with_reducible repeat (first|apply Kd.N_alloc|apply Kd.N_drewN|apply Kd.N_drew));exact Kd.N_mono HO_32.out (fun _ hk=>⟨hk.1.1,⟨hk.1.2.1,⟨hk.1.2.2.1,hk.1.2.2.2⟩⟩⟩)⟩,⟨by (with_reducible repeat (first|apply ra'|apply rn'|apply rw'));exact Kd.R_mono HO_277000.out (fun _ hk=>trivial)⟩,⟨by (with_reducible repeat (first|refine kn' ?_ _|refine kd' ?_|refine ka' ?_ _));exact BK261.out⟩,⟨by (with_reducible repeat (first|refine kn' ?_ _|refine kd' ?_|refine ka' ?_ _));exact BK276.out⟩,⟨by repeat (first|(with_reducible first|exact HB.out|apply ba'|apply bd'|apply be'|refine bs' ?_ GE261.out|refine bs' ?_ GE276.out)|exact HB.out)⟩⟩
           ·
            replace c38:=Bool.eq_false_iff.mpr c38;subst c38;have H1:(if x4_2.length < 17592186044416 then (spec_CountReachedBanks.l1 k2 (x4_2 ++ [t285]) x5_1 t277 (t277.length:Int) (wrap64 (x34_2+1)) a0_0 l0_1 a0_2 t272 t275) else (none))=some (r1,r2):=by rw[if_neg (show ¬ (false=true) by decide)] at H;exact H
            clear H;have H:=H1;clear H1;by_cases c45:x4_2.length < 17592186044416
            ·
             rw[if_pos c45] at H;have LMc45:=am' c45;clear c45;obtain ⟨y287,hy287⟩:∃ y_:List Int,y_=(x4_2 ++ [t285]):=⟨_,rfl⟩
             replace H:(spec_CountReachedBanks.l1 k2 y287 x5_1 t277 (t277.length:Int) (wrap64 (x34_2+1)) a0_0 l0_1 a0_2 t272 t275)=some (r1,r2):=by first|(rw[hy287];with_reducible exact H)|(have H2_:=(Option.bind_some _ _).symm.trans H;rw[hy287];with_reducible exact H2_)|(have H2_:=(Option.bind_some _ _).symm.trans H;with_reducible exact H2_)|with_reducible exact H|(rw[hy287];exact H)|exact H
             have Ny287:=am' hy287;clear hy287;have H':=am' H;clear H;have p280:0≤(x34_2:Int):=of_decide_eq_true (by first|(with_reducible assumption)|assumption);have q280:x34_2 < (t277.length:Int):=of_decide_eq_true (by first|(with_reducible assumption)|assumption);obtain ⟨ad280,A280_0,c280_0,e280,hx280_0,hl280_0,hi280_0⟩:=at_L1 (Kd.N_reads' HO_32.out).2.2 x34_2 p280 q280;cases e280;obtain ⟨ce280,hce280,hMe280,hcc280⟩:=Kd.N_get HO_32.out [] x34_2 p280 (by first|exact q280|exact of_decide_eq_true (by first|(with_reducible assumption)|assumption)|(have e_:=(Kd.N_reads' HO_32.out).1;omega));obtain ⟨ua280_0,uc280_0,rfl,ul280_0,ge280_0⟩:=Kd.FK_slice_open hMe280;have hv280_0:=hcc280 0 _ rfl;rw[Nat.add_zero,show ((Kd.slice 3 (Kd.int .i64))).sz=1 from rfl,Nat.mul_one] at hv280_0;replace hv280_0:=Option.some.inj (hv280_0.symm.trans hx280_0);injection hv280_0 with hva_ hvn_ hvc_
             rw[hva_] at ge280_0;rw[hvc_] at ul280_0;have HL280_0:=am' (show Kd.V (Kd.int .i64) 3 _ w.heap.size _ _ (rd_L1 t277 x34_2) from Kd.V_mk ul280_0 ge280_0);clear hva_ hvn_ hvc_ ge280_0 ul280_0;clear hcc280 hce280;have HR280_0:=am' hi280_0;have HC280_0:=am' hl280_0;clear hi280_0 hl280_0;replace p280:=eq_true p280;replace q280:=eq_true q280;have hnb46:=NB276_261.out;have hnc46:=NB261_276.out;have hcz47_0:wr.cell? ⟨gb276,0,none⟩=some (.slice Ao24 t272.length co24):=(blk_cell BK276.out 0).trans rfl;have hcz47_1:wr.cell? ⟨gb276,1,none⟩=some (.bool t275):=(blk_cell BK276.out 1).trans rfl;have hfz47_0:=blk_frozen BK276.out 0;have hfz47_1:=blk_frozen BK276.out 1;go_wp2_with (first|((with_reducible refine gate_callee (f:=76) rfl ?_);refine goesL_ (some 40) rfl rfl Try.func76 (by kernel_rfl) rfl #[.agg #[.slice Ao24 t272.length co24, .bool t275], .slice A280_0 (rd_L1 t277 x34_2).length c280_0] rfl (by (try simp only[List.map_toArray,List.map_cons,List.map_nil]);first|done|rfl|(simp only[List.length_drop,List.length_take];rfl)) ?_;(with_reducible refine (spec_keRide.calls k2 _ _ t272 t275 _ _ (rd_L1 t277 x34_2) t281 t284 _ ?side1 ?side2 ?side3 ?side4 A35.out).mono ?_);(case side1=>repeat (first|exact (Kd.R_reads' HO_277000.out).2.2|(with_reducible refine ca' ?_ _)|(with_reducible refine cn' ?_ _)|(with_reducible refine cd' ?_)));(case side2=>exact (Kd.R_reads' HO_277000.out).2.1);(case side3=>repeat (first|exact (by repeat (first|(with_reducible exact HR280_0.out)|(with_reducible refine ca' ?_ _)|(with_reducible refine cn' ?_ _)|(with_reducible refine cd' ?_)|exact HR280_0.out))|(with_reducible refine ca' ?_ _)|(with_reducible refine cn' ?_ _)|(with_reducible refine cd' ?_)));(case side4=>exact HC280_0.out);rintro e w48 ⟨v282,rfl,ho0,hb⟩;refine ⟨_,rfl,?_⟩;have n0_:=am' (Kd.R_below (by (with_reducible repeat (first|apply ra'|apply rn'|apply rw'));exact HO_4.out) hb);have n1_:=am' (Kd.N_elder' (by (with_reducible repeat (first|apply Kd.N_alloc|apply Kd.N_drewN|apply Kd.N_drew));exact HO_32.out) (Kd.R_base ho0) hb);have n2_:=am' (Kd.R_elder' (by (with_reducible repeat (first|apply ra'|apply rn'|apply rw'));exact HO_277000.out) (Kd.R_base ho0) hb);have n3_:=am' (Kd.V_elder' (by (with_reducible repeat (first|apply Kd.V_alloc|apply Kd.V_drewN|apply Kd.V_drew));exact HL280_0.out) (Kd.R_base ho0) hb);have n4_:=am' (Kd.R_lower (Kd.R_new' ho0 (Kd.R_lt (by (with_reducible repeat (first|apply ra'|apply rn'|apply rw'));exact HO_277000.out))) (below_size (by repeat (first|(with_reducible first|exact HB.out|apply ba'|apply bd'|apply be'|refine bs' ?_ GE261.out|refine bs' ?_ GE276.out)|exact HB.out))));have n5_:=am' (blk_below (g:=gb261) (o := .cells #[.int .i64 a0_0, .slice A0_1 l0_1.length c0_1, .int .i64 a0_2] 32 (0,0)) (by (with_reducible repeat (first|refine kn' ?_ _|refine kd' ?_|refine ka' ?_ _));exact BK261.out) hb);have n6_:=am' (blk_below (g:=gb276) (o := .cells #[.slice Ao24 t272.length co24, .bool t275] 34 (0,0)) (by (with_reducible repeat (first|refine kn' ?_ _|refine kd' ?_|refine ka' ?_ _));exact BK276.out) hb);have n7_:=am' (Kd.C_below (by repeat (first|(with_reducible exact HR280_0.out)|(with_reducible refine ca' ?_ _)|(with_reducible refine cn' ?_ _)|(with_reducible refine cd' ?_)|exact HR280_0.out)) hb);have n8_:=am' (below_step (by repeat (first|(with_reducible first|exact HB.out|apply ba'|apply bd'|apply be'|refine bs' ?_ GE261.out|refine bs' ?_ GE276.out)|exact HB.out)) hb);clear HO_4;clear HO_32;clear HO_277000;clear HL280_0;clear BK261;clear BK276;clear HR280_0;clear HB;have HO_4:=n0_;have HO_32:=n1_;have HO_277000:=n2_;have HL280_0:=n3_;have HO283:=n4_;have BK261:=n5_;have BK276:=n6_;have HR280_0:=n7_;have HB:=n8_;clear n0_ n1_ n2_ n3_ n4_ n5_ n6_ n7_ n8_;(try clear hb);(try clear hb2);(try clear hk);(try clear hi);(try clear ho0);obtain ⟨Ao49,co49,eo49⟩:=Kd.R_slice HO283.out;subst eo49)|((with_reducible refine gate_callee (f:=70) rfl ?_);refine goesL_ (some 41) rfl rfl Try.func70 (by kernel_rfl) rfl #[.agg #[.slice Ao49 t281.length co49, .bool t284]] rfl (by (try simp only[List.map_toArray,List.map_cons,List.map_nil]);first|done|rfl|(simp only[List.length_drop,List.length_take];rfl)) ?_;(with_reducible refine (spec_keIndex.calls k2 _ _ t281 t284 t285 _ ?side1 ?side2 A36.out).mono ?_);(case side1=>repeat (first|exact (Kd.R_reads' HO283.out).2.2|(with_reducible refine ca' ?_ _)|(with_reducible refine cn' ?_ _)|(with_reducible refine cd' ?_)));(case side2=>exact (Kd.R_reads' HO283.out).2.1);rintro e w50 ⟨rfl,hb⟩;refine ⟨_,rfl,?_⟩;have n0_:=am' (Kd.R_below (by (with_reducible repeat (first|apply ra'|apply rn'|apply rw'));exact HO_4.out) hb);have n1_:=am' (Kd.N_below (by (with_reducible repeat (first|apply Kd.N_alloc|apply Kd.N_drewN|apply Kd.N_drew));exact HO_32.out) hb);have n2_:=am' (Kd.R_below (by (with_reducible repeat (first|apply ra'|apply rn'|apply rw'));exact HO_277000.out) hb);have n3_:=am' (Kd.V_below (by (with_reducible repeat (first|apply Kd.V_alloc|apply Kd.V_drewN|apply Kd.V_drew));exact HL280_0.out) hb);have n4_:=am' (Kd.R_below (by (with_reducible repeat (first|apply ra'|apply rn'|apply rw'));exact HO283.out) hb);have n5_:=am' (blk_below (g:=gb261) (o := .cells #[.int .i64 a0_0, .slice A0_1 l0_1.length c0_1, .int .i64 a0_2] 32 (0,0)) (by (with_reducible repeat (first|refine kn' ?_ _|refine kd' ?_|refine ka' ?_ _));exact BK261.out) hb);have n6_:=am' (blk_below (g:=gb276) (o := .cells #[.slice Ao24 t272.length co24, .bool t275] 34 (0,0)) (by (with_reducible repeat (first|refine kn' ?_ _|refine kd' ?_|refine ka' ?_ _));exact BK276.out) hb);have n7_:=am' (Kd.C_below (by repeat (first|(with_reducible exact HR280_0.out)|(with_reducible refine ca' ?_ _)|(with_reducible refine cn' ?_ _)|(with_reducible refine cd' ?_)|exact HR280_0.out)) hb);have n8_:=am' (below_step (by repeat (first|(with_reducible first|exact HB.out|apply ba'|apply bd'|apply be'|refine bs' ?_ GE261.out|refine bs' ?_ GE276.out)|exact HB.out)) hb);clear HO_4;clear HO_32;clear HO_277000;clear HL280_0;clear HO283;clear BK261;clear BK276;clear HR280_0;clear HB;have HO_4:=n0_;have HO_32:=n1_;have HO_277000:=n2_;have HL280_0:=n3_;have HO283:=n4_;have BK261:=n5_;have BK276:=n6_;have HR280_0:=n7_;have HB:=n8_;clear n0_ n1_ n2_ n3_ n4_ n5_ n6_ n7_ n8_;(try clear hb);(try clear hb2);(try clear hk);(try clear hi);obtain ⟨Ao51,co51,eo51⟩:=Kd.R_slice HO_4.out;subst eo51)|((with_reducible refine gate_callee (f:=63) rfl ?_);refine goesL_ (some 44) rfl rfl Try.func63 (by kernel_rfl) rfl #[.slice Ao51 x4_2.length co51, .int .i64 t285] rfl (by (try simp only[List.map_toArray,List.map_cons,List.map_nil]);first|done|rfl|(simp only[List.length_drop,List.length_take];rfl)) ?_;(with_reducible refine (spec_l1Has.calls k2 _ _ x4_2 t285 false _ ?side1 ?side2 A37.out).mono ?_);(case side1=>repeat (first|exact (Kd.R_reads' HO_4.out).2.2|(with_reducible refine ca' ?_ _)|(with_reducible refine cn' ?_ _)|(with_reducible refine cd' ?_)));(case side2=>exact (Kd.R_reads' HO_4.out).2.1);rintro e w' ⟨rfl,⟨nd,rfl⟩⟩;refine ⟨_,rfl,?_⟩)|((with_reducible refine gate_builtin (b := .append) (xs:=#[.tmp 46, .tmp 48]) rfl ?_);at_builtin;refine Kd.R_append (Kd.int .i64) (w0:=w) w.heap.size rfl (.tmp 46) (.tmp 48) 43 3 (.int .i64 0) 8 rfl Try.underlying43 info3 rfl (by decide) (by omega) (.slice Ao51 x4_2.length co51) x4_2 t285 [.int .i64 t285] (fun _=>True) (fun _=>False) rfl rfl ?aP (fun _ hk=>hk.elim) ?aF ?aO ?aB ?aS ?aL ?_;(case aP=>exact rfl);(case aB=>exact (by repeat (first|(with_reducible first|exact HB.out|apply ba'|apply bd'|apply be'|refine bs' ?_ GE261.out|refine bs' ?_ GE276.out)|exact HB.out)));(case aF=>exact (fun _ _=>trivial));(case aO=>exact (by (with_reducible repeat (first|apply ra'|apply rn'|apply rw'));exact HO_4.out));(case aS=>exact (below_size (by repeat (first|(with_reducible first|exact HB.out|apply ba'|apply bd'|apply be'|refine bs' ?_ GE261.out|refine bs' ?_ GE276.out)|exact HB.out))));(case aL=>have:=LMc45.out;omega);intro v288 w52 ho hb hg hat;rw[← Ny287.out] at ho;have n0_:=am' (Kd.N_afterv (ok:=(fun k_=>some k_≠(.slice Ao24 t272.length co24:Value).ownBlock∧some k_≠(.slice Ao49 t281.length co49:Value).ownBlock∧k_≠gb261∧k_≠gb276)) (by (with_reducible repeat (first|apply Kd.N_alloc|apply Kd.N_drewN|apply Kd.N_drew));exact Kd.N_mono HO_32.out (fun _ hk=>⟨⟨hk.1.2.1,⟨hk.2,⟨hk.1.2.2.1,hk.1.2.2.2⟩⟩⟩,hk.1.1⟩)) hg hat);have n1_:=am' (Kd.R_over' (by (with_reducible repeat (first|apply ra'|apply rn'|apply rw'));exact HO_277000.out) (Kd.R_typed (by (with_reducible repeat (first|apply ra'|apply rn'|apply rw'));exact HO_4.out)) (by decide) hg);have n2_:=am' (blk_grown (g:=gb261) (o := .cells #[.int .i64 a0_0, .slice A0_1 l0_1.length c0_1, .int .i64 a0_2] 32 (0,0)) (by (with_reducible repeat (first|refine kn' ?_ _|refine kd' ?_|refine ka' ?_ _));exact BK261.out) hg (Kd.R_ne HO_4.out BK261.out (by decide)));have n3_:=am' (blk_grown (g:=gb276) (o := .cells #[.slice Ao24 t272.length co24, .bool t275] 34 (0,0)) (by (with_reducible repeat (first|refine kn' ?_ _|refine kd' ?_|refine ka' ?_ _));exact BK276.out) hg (Kd.R_ne HO_4.out BK276.out (by decide)));have n4_:=am' (Kd.V_afterv (ok:=(fun k_=>some k_≠(.slice (some ad280) t277.length co31:Value).ownBlock∧some k_≠(.slice Ao24 t272.length co24:Value).ownBlock∧some k_≠(.slice Ao49 t281.length co49:Value).ownBlock∧k_≠gb261∧k_≠gb276)) (by (with_reducible repeat (first|apply Kd.V_alloc|apply Kd.V_drewN|apply Kd.V_drew));exact Kd.V_mono HL280_0.out (fun _ hk=>⟨⟨hk.1.2,⟨hk.1.1.2.1,⟨hk.2,⟨hk.1.1.2.2.1,hk.1.1.2.2.2⟩⟩⟩⟩,hk.1.1.1⟩)) hg hat);have n5_:=am' (Kd.R_over' (by (with_reducible repeat (first|apply ra'|apply rn'|apply rw'));exact HO283.out) (Kd.R_typed (by (with_reducible repeat (first|apply ra'|apply rn'|apply rw'));exact HO_4.out)) (by decide) hg);have n6_:=am' (hb);have n7_:=am' (ho);clear HO_32;clear HO_277000;clear BK261;clear BK276;clear HL280_0;clear HO283;clear HB;clear HO_4;have HO_32:=n0_;have HO_277000:=n1_;have BK261:=n2_;have BK276:=n3_;have HL280_0:=n4_;have HO283:=n5_;have HB:=n6_;have HO289:=n7_;clear n0_ n1_ n2_ n3_ n4_ n5_ n6_ n7_;clear ho hb hg hat))
             go_roundg k2
             case measure=>have:=HK1.out;have:=HK2.out;omega
             case rel=>exact ⟨(y287),(wrap64 (x34_2+1)),(by first|rfl|(simp;done)|(simp[*];done)),H',⟨by have:=HK1.out;have:=HK2.out;omega⟩,⟨by (with_reducible repeat (first|apply ra'|apply rn'|apply rw'));exact HO289.out⟩,⟨by (with_reducible repeat (first|apply Kd.N_alloc|apply Kd.N_drewN|apply Kd.N_drew));exact Kd.N_mono HO_32.out (fun _ hk=>⟨hk.2,⟨hk.1.1,⟨hk.1.2.2.1,hk.1.2.2.2⟩⟩⟩)⟩,⟨by (with_reducible repeat (first|apply ra'|apply rn'|apply rw'));exact Kd.R_mono HO_277000.out (fun _ hk=>trivial)⟩,⟨by (with_reducible repeat (first|refine kn' ?_ _|refine kd' ?_|refine ka' ?_ _));exact BK261.out⟩,⟨by (with_reducible repeat (first|refine kn' ?_ _|refine kd' ?_|refine ka' ?_ _));exact BK276.out⟩,⟨by repeat (first|(with_reducible first|exact HB.out|apply ba'|apply bd'|apply be'|refine bs' ?_ GE261.out|refine bs' ?_ GE276.out)|exact HB.out)⟩⟩
            ·
             rw[if_neg c45] at H;exact absurd H (by simp)
          ·
           rw[if_neg c34] at H;exact absurd H (by simp)
         ·
          rw[if_neg c33] at H;exact absurd H (by simp)
        ·
         rw[if_neg c32] at H;have c32b0:decide (x34_2 < (t277.length:Int))=false:=decide_eq_false c32;clear c32;have H':=am' H;clear H;go_wp2;go_roundg k2
         case measure=>have:=HK1.out;have:=HK2.out;omega
         case rel=>exact ⟨(x4_2),(wrap64 (x5_1+1)),(by first|rfl|(simp;done)|(simp[*];done)),H',⟨by have:=HK1.out;have:=HK2.out;omega⟩,⟨by (with_reducible repeat (first|apply ra'|apply rn'|apply rw'));exact HO_4.out⟩,⟨by (with_reducible repeat (first|refine kn' ?_ _|refine kd' ?_|refine ka' ?_ _));exact BK261.out⟩,⟨by repeat (first|(with_reducible first|exact HB.out|apply ba'|apply bd'|apply be'|refine bs' ?_ GE261.out|refine bs' ?_ GE276.out)|exact HB.out)⟩⟩
     ·
      rw[if_neg c16] at H;exact absurd H (by simp)
    ·
     rw[if_neg c15] at H;have c15b0:decide (x5_1 < (x4_1.length:Int))=false:=decide_eq_false c15;clear c15;simp only[Option.some.injEq,Prod.mk.injEq] at H;obtain ⟨rfl,rfl⟩:=H;obtain ⟨Ao53,co53,eo53⟩:=Kd.R_slice HO_4.out;subst eo53;go_wp2;go_ret2
     exact ⟨by first|rfl|(simp[errW_none,errW_some] <;> rfl)|(simp[*,errW_none,errW_some] <;> rfl),by repeat (first|(with_reducible first|exact HB.out|apply ba'|apply bd'|apply be'|refine bs' ?_ GE261.out)|exact HB.out)⟩
 ·
  replace c3:=Bool.eq_false_iff.mpr c3;subst c3;have H1:(some (0,false))=some (r1,r2):=by rw[if_neg (show ¬ (false=true) by decide)] at H;exact H
  clear H;have H:=H1;clear H1;simp only[Option.some.injEq,Prod.mk.injEq] at H;obtain ⟨rfl,rfl⟩:=H;go_enter Try.func47,Try.ntmps47;go_wp2_with (first|((with_reducible refine gate_dst (N:=1) rfl ?_);refine box_event ?hg (N:=1) ?hd (cs:=#[.int .i64 a0_0, .slice A0_1 l0_1.length c0_1, .int .i64 a0_2]) (t:=32) ?hr ?_;(case hd=>rfl);(case hg=>rfl);(case hr=>first|(go_simp;done)|(go_simp;rfl));intro gb261 hg w54 hbox hb;have n0_:=am' (below_step (by repeat (first|(with_reducible first|exact HB.out|apply ba'|apply bd'|apply be')|exact HB.out)) hb);have n1_:=am' (hbox);have n2_:=am' ((by rw[hg];exact (below_size (by repeat (first|(with_reducible first|exact HB.out|apply ba'|apply bd'|apply be')|exact HB.out))):w.heap.size≤gb261));have n3_:=am' ((by rw[hg];exact (below_size (by repeat (first|(with_reducible first|exact HB.out|apply ba'|apply bd'|apply be')|exact HB.out))):w.heap.size≤gb261));clear HB;have HB:=n0_;have BK261:=n1_;have GW261:=n2_;have GE261:=n3_;clear n0_ n1_ n2_ n3_;clear hb hbox hg;have hcz55_0:w54.cell? ⟨gb261,0,none⟩=some (.int .i64 a0_0):=(blk_cell BK261.out 0).trans rfl;have hcz55_1:w54.cell? ⟨gb261,1,none⟩=some (.slice A0_1 l0_1.length c0_1):=(blk_cell BK261.out 1).trans rfl;have hcz55_2:w54.cell? ⟨gb261,2,none⟩=some (.int .i64 a0_2):=(blk_cell BK261.out 2).trans rfl;have hfz55_0:=blk_frozen BK261.out 0;have hfz55_1:=blk_frozen BK261.out 1;have hfz55_2:=blk_frozen BK261.out 2)|((with_reducible refine gate_callee (f:=61) rfl ?_);refine goesL_ (some 11) rfl rfl Try.func61 (by kernel_rfl) rfl #[.agg #[.int .i64 a0_0, .slice A0_1 l0_1.length c0_1, .int .i64 a0_2]] rfl (by (try simp only[List.map_toArray,List.map_cons,List.map_nil]);first|done|rfl|(simp only[List.length_drop,List.length_take];rfl)) ?_;(with_reducible refine (spec_keGood.calls k a0_0 _ _ l0_1 a0_2 false _ ?side1 ?side2 A2.out).mono ?_);(case side1=>repeat (first|exact (Kd.C_below HR0_1.out HB.out)|(with_reducible refine ca' ?_ _)|(with_reducible refine cn' ?_ _)|(with_reducible refine cd' ?_)));(case side2=>exact HC0_1.out);rintro e w56 ⟨rfl,hb⟩;refine ⟨_,rfl,?_⟩;have n0_:=am' (blk_below (g:=gb261) (o := .cells #[.int .i64 a0_0, .slice A0_1 l0_1.length c0_1, .int .i64 a0_2] 32 (0,0)) (by (with_reducible repeat (first|refine kn' ?_ _|refine kd' ?_|refine ka' ?_ _));exact BK261.out) hb);have n1_:=am' (below_step (by repeat (first|(with_reducible first|exact HB.out|apply ba'|apply bd'|apply be'|refine bs' ?_ GE261.out)|exact HB.out)) hb);clear BK261;clear HB;have BK261:=n0_;have HB:=n1_;clear n0_ n1_;(try clear hb);(try clear hb2);(try clear hk);(try clear hi)));go_ret2
  exact ⟨by first|rfl|(simp[errW_none,errW_some] <;> rfl)|(simp[*,errW_none,errW_some] <;> rfl),by repeat (first|(with_reducible first|exact HB.out|apply ba'|apply bd'|apply be'|refine bs' ?_ GE261.out)|exact HB.out)⟩
def impl_in.f (a0:Int) (a1:Int) (a2:Int):Option (Bool):=if a1≤a0 then (some (decide (a0≤a2))) else (some false)
set_option maxHeartbeats 8000000 in
set_option maxRecDepth 100000 in
theorem impl_in.calls (a0:Int) (a1:Int) (a2:Int) (r:Bool) (w:World) (h:impl_in.f a0 a1 a2=some r) :
  Calls Try.prog 81 #[.int .i64 a0, .int .i64 a1, .int .i64 a2] w fun e w'=>e = .returned (.bool r)∧Drawn0 w w':=by
 have H:(if a1≤a0 then (some (decide (a0≤a2))) else (some false))=some r:=h
 clear h;by_cases c4:a1≤a0
 ·
  rw[if_pos c4] at H;have c4b0:decide (a1≤a0)=true:=decide_eq_true c4;clear c4;obtain rfl:=Option.some.inj H;go_enter Try.func81,Try.ntmps81;go_wp2;go_ret
  exact ⟨by first|rfl|(simp;done)|(simp[*];done),by repeat (first|exact Drawn0.refl _|apply Drawn0.step)⟩
 ·
  rw[if_neg c4] at H;have c4b0:decide (a1≤a0)=false:=decide_eq_false c4;clear c4;obtain rfl:=Option.some.inj H;go_enter Try.func81,Try.ntmps81;go_wp2;go_ret
  exact ⟨by first|rfl|(simp;done)|(simp[*];done),by repeat (first|exact Drawn0.refl _|apply Drawn0.step)⟩
def PredOn (g:Nat) (lb:Array Value) (p:Int→Bool) (xs:List Int) (w:World):Prop :=
 ∀ x,x ∈ xs→∀ W:World,Below w.heap.size w W→Calls Try.prog g (#[.int .i64 x] ++ lb) W fun e w'=>e = .returned (.bool (p x))∧Below W.heap.size W w'
set_option maxHeartbeats 2000000 in
set_option maxRecDepth 100000 in
theorem IndexFunc_any (g:Nat) (lb:Array Value) (p:Int→Bool) (eg:∀ args w,(callFunc g args).run Try.prog w = .ok (.enter g args) w) (A0:Option Addr) (c0:Nat) (xs:List Int) (w:World) (hr:Kd.C (Kd.int .i64) w A0 xs.length xs) (hl:xs.length≤c0) (hbig:xs.length≤9223372036854775807)
  (hp:PredOn g lb p xs w) :
  Calls Try.prog 124 #[.slice A0 xs.length c0, .func (.func g) #[] lb] w fun e w'=>e = .returned (.int .i64 (idxF p xs))∧Below w.heap.size w w':=by
 have HP:=am' hp
 have HR:=am' hr
 clear hp hr;go_enter Try.func124,Try.ntmps124
 go_wp2
 go_loopg [5,8] xs.length (fun gg _ s8 wr=>∃ kk:Nat,kk≤xs.length∧xs.length - kk≤gg∧s8 = .int .i64 kk∧Aside0 (Below w.heap.size w wr)∧Aside0 (∀ j,j < kk→p (rd xs (j:Nat))=false))
 case atStart=>exact ⟨0,Nat.zero_le _,by omega,rfl,⟨Below.refl _ w⟩,⟨fun j hj=>absurd hj (Nat.not_lt_zero _)⟩⟩
 case round =>
  obtain ⟨kk,hkk,hg,rfl,BW,AA⟩:=hrel;by_cases hlt:kk < xs.length
  ·
   have hltz:(kk:Int) < (xs.length:Int):=by omega
   obtain ⟨ad,e0,hx0⟩:=Kd.at_int HR.out (kk:Int) (by omega) hltz;cases e0;have hx:=(BW.out.cell (bl' w _ hx0)).trans hx0;clear hx0;rw[Int.toNat_natCast] at hx;have hcall:=HP.out (rd xs kk) (rd_mem xs kk hlt) wr BW.out;generalize hy:rd xs kk=y at hx hcall
   have B:Aside0 (rd xs kk=y):=⟨hy⟩
   clear hy;cases hq:p y with
   | true =>
    rw[hq] at hcall;go_wp2_with fail;refine hcall.mono ?_
    rintro e w' ⟨rfl,hb'⟩
    clear hcall hx;go_wp2;go_ret
    refine ⟨?_,below_step BW.out hb'⟩;rw[idxF_hit p xs kk hlt (by rw[B.out];exact hq) AA.out];rfl
   | false =>
    rw[hq] at hcall;go_wp2_with fail;refine hcall.mono ?_
    rintro e w' ⟨rfl,hb'⟩
    clear hcall hx;go_wp2;go_roundg (xs.length - (kk+1))
    case measure=>omega
    case rel =>
     refine ⟨kk+1,by omega,by omega,by go_num,⟨below_step BW.out hb'⟩,⟨fun j hj=>?_⟩⟩;by_cases e:j=kk
     ·
      subst e;rw[B.out];exact hq
     ·
      exact AA.out j (by omega)
  ·
   have hltz:¬ (kk:Int) < (xs.length:Int):=by omega
   have:kk=xs.length:=by omega
   subst this;go_wp2;go_ret
   refine ⟨?_,BW.out⟩;rw[idxF_miss p xs AA.out];rfl
set_option maxHeartbeats 2000000 in
set_option maxRecDepth 100000 in
theorem ContainsFunc_any (g:Nat) (lb:Array Value) (p:Int→Bool) (eg:∀ args w,(callFunc g args).run Try.prog w = .ok (.enter g args) w) (A0:Option Addr) (c0:Nat) (xs:List Int) (w:World) (hr:Kd.C (Kd.int .i64) w A0 xs.length xs) (hl:xs.length≤c0) (hbig:xs.length≤9223372036854775807)
  (hp:PredOn g lb p xs w) :
  Calls Try.prog 110 #[.slice A0 xs.length c0, .func (.func g) #[] lb] w fun e w'=>e = .returned (.bool (xs.any p))∧Below w.heap.size w w':=by
 have HH:=am' (IndexFunc_any g lb p eg A0 c0 xs w hr hl hbig hp)
 clear hr hl hp;go_enter Try.func110,Try.ntmps110
 go_wp2_with (go_at_call 124;refine HH.out.mono ?_;rintro e w' ⟨rfl,hb⟩)
 go_ret
 refine ⟨?_,hb⟩
 rw[← idxF_any]
 rfl
theorem in_calls (x lo hi:Int) (w:World):Calls Try.prog 81 #[.int .i64 x, .int .i64 lo, .int .i64 hi] w fun e w'=>e = .returned (.bool (inB lo hi x))∧Below w.heap.size w w' :=
 (impl_in.calls x lo hi (inB lo hi x) w (by unfold impl_in.f inB;by_cases h:lo≤x <;> simp [h])).mono fun e w' ⟨he,hd⟩=>⟨he,hd.below⟩
theorem areIn1_calls (x lo hi:Int) (b1 b2:Nat) (w:World) (h1:w.cell? ⟨b1,0,none⟩=some (.int .i64 lo)) (h2:w.cell? ⟨b2,0,none⟩=some (.int .i64 hi)) :
  Calls Try.prog 111 #[.int .i64 x, .pointer (some ⟨b1,0,none⟩), .pointer (some ⟨b2,0,none⟩)] w fun e w'=>e = .returned (.bool (!inB lo hi x))∧Below w.heap.size w w':=by
 go_enter Try.func111,Try.ntmps111
 go_wp2_with (go_at_call 81;refine (in_calls _ _ _ _).mono ?_;rintro e w' ⟨rfl,hb⟩)
 go_ret
 exact ⟨rfl,hb⟩
theorem areIn_pred (lo hi:Int) (b1 b2:Nat) (xs:List Int) (w:World) (h1:w.cell? ⟨b1,0,none⟩=some (.int .i64 lo)) (h2:w.cell? ⟨b2,0,none⟩=some (.int .i64 hi)) :
  PredOn 111 #[.pointer (some ⟨b1,0,none⟩), .pointer (some ⟨b2,0,none⟩)] (fun x => !inB lo hi x) xs w:=fun x _ W hb =>
 areIn1_calls x lo hi b1 b2 W ((hb.cell (bl' w _ h1)).trans h1) ((hb.cell (bl' w _ h2)).trans h2)
def impl_areIn.f (l0:List Int) (a1 a2 a3 a4:Int):Option Bool:=some (inB a3 a4 (l0.length:Int) && l0.all (inB a1 a2))
set_option maxHeartbeats 2000000 in
set_option maxRecDepth 100000 in
theorem impl_areIn.calls (A0:Option Addr) (c0:Nat) (l0:List Int) (a1 a2 a3 a4:Int) (r:Bool) (w:World) (hr0:Kd.C (Kd.int .i64) w A0 l0.length l0) (hc0:l0.length≤c0) (h:impl_areIn.f l0 a1 a2 a3 a4=some r) :
  Calls Try.prog 82 #[.slice A0 l0.length c0, .int .i64 a1, .int .i64 a2, .int .i64 a3, .int .i64 a4] w fun e w'=>e = .returned (.bool r)∧Below w.heap.size w w':=by
 have hbig:l0.length≤9223372036854775807:=hr0.2.1
 have HC:=am' (fun (w1:World) (h1:Below w.heap.size w w1) (b1 b2:Nat) (e1:w1.cell? ⟨b1,0,none⟩=some (.int .i64 a1)) (e2:w1.cell? ⟨b2,0,none⟩=some (.int .i64 a2)) =>
  ContainsFunc_any 111 #[.pointer (some ⟨b1,0,none⟩), .pointer (some ⟨b2,0,none⟩)] (fun x => !inB a1 a2 x) (enters_of Try.func111 (by kernel_rfl) rfl) A0 c0 l0 w1 (Kd.C_below hr0 h1) hc0 hbig (areIn_pred a1 a2 b1 b2 l0 w1 e1 e2))
 clear hr0;cases hi:inB a3 a4 (l0.length:Int) with
 | false =>
  obtain rfl:false=r:=by unfold impl_areIn.f at h;simpa [hi] using h
  clear h;go_enter Try.func82,Try.ntmps82;go_wp2_with (go_at_call 81;refine (in_calls _ _ _ _).mono ?_;rintro e w' ⟨rfl,hb⟩);go_ret
  exact ⟨rfl,(after_alloc (after_alloc hb).1).1⟩
 | true =>
  obtain rfl:l0.all (inB a1 a2)=r:=by unfold impl_areIn.f at h;simpa [hi] using h
  clear h;go_enter Try.func82,Try.ntmps82;go_wp2_with (go_at_call 81;refine (in_calls _ _ _ _).mono ?_;rintro e w' ⟨rfl,hb⟩);have h2:=after_alloc hb;have h1:=after_alloc h2.1;rw[World.size_alloc] at h2;refine (HC.out w' h1.1 _ _ ((blk_cell h1.2 0).trans rfl) ((blk_cell h2.2 0).trans rfl)).mono ?_
  rintro e w2 ⟨rfl,hb2⟩
  clear hb h2;have HB2:=am' (below_step h1.1 hb2);clear h1 hb2;go_wp2;go_ret
  refine ⟨?_,HB2.out⟩;rw[← any_not_all];rfl
def cmp_isNaN_int.f (a0:Int):Option (Bool):=some (a0 != a0)
set_option maxHeartbeats 8000000 in
set_option maxRecDepth 100000 in
theorem cmp_isNaN_int.calls (a0:Int) (r:Bool) (w:World) (h:cmp_isNaN_int.f a0=some r) :
  Calls Try.prog 125 #[.int .i64 a0] w fun e w'=>e = .returned (.bool r)∧Drawn0 w w':=by
 have H:(some (a0 != a0))=some r:=h
 clear h;obtain rfl:=Option.some.inj H
 go_enter Try.func125,Try.ntmps125
 go_wp2
 go_ret
 exact ⟨by first|rfl|(simp;done)|(simp[*];done),by repeat (first|exact Drawn0.refl _|apply Drawn0.step)⟩
end Go.Proofs.Ytmfofjloklafoaa.C3
