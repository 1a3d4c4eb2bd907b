import Derived.Test.YtamljjfhkolflaaC15zx0
import Derived.Test.YtamljjfhkolflaaC15zx2
import Derived.Test.YtamljjfhkolflaaC15zx6
import Derived.Test.YtamljjfhkolflaaC15zAl
namespace Go.Proofs.Ytamljjfhkolflaa.C15
open Go.RowKit Go.Proofs.YtamljjfhkolflaaW.PrintWords Go.Proofs.YtamljjfhkolflaaW.PrintLast Go.Proofs.YtamljjfhkolflaaW.PrintMore Go.Proofs.Ytamljjfhkolflaa.H
attribute [local go_sem] max2_int min2_int max_two min_two max_three min_three max_four min_four
set_option linter.unusedVariables false
set_option linter.unusedSimpArgs false
def spec_DropPerson.f (k:Nat) (l0_0:List Int) (a0_1:Int) (a1:Int):Option (List Int × Int × Bool):=(spec_paGood.f k l0_0 a0_1).bind fun t237=>(if t237=true then ((spec_l1In.f a1 0 (wrap64 ((l0_0.length:Int) - 1))).bind fun t238=>(if t238=true then (if (l0_0.length:Int)=1 then (some (([]:List Int),0,false)) else (if 0≤a1 then (if a1≤(l0_0.length:Int) then ((spec_l1Own.f (l0_0.take (a1:Int).toNat)).bind fun t240=>(if 0≤(wrap64 (a1+1)) then (if (wrap64 (a1+1))≤(l0_0.length:Int) then (if t240.length+(l0_0.drop ((wrap64 (a1+1)):Int).toNat).length < 17592186044416 then (some ((t240 ++ (l0_0.drop ((wrap64 (a1+1)):Int).toNat)),a0_1,true)) else (none)) else (none)) else (none))) else (none)) else (none))) else (some (([]:List Int),0,false)))) else (some (([]:List Int),0,false)))
def spec_DropPerson.T3:Bool × List (List Nat × List Nat):=(true,[([],[]),([0],[0]),([],[]),([1,2],[1,2]),([3],[3]),([],[]),([5],[5]),([],[]),([7],[7]),([6,8],[6,8]),([4,9,4],[4,9]),([],[]),([11],[11]),([10,12],[10,12]),([13,10,0,1,2,3,4,5,6,7,8,9,10,11,12,13],[13]),([14,0,1,2,3,4,5,6,7,8,9,10,11,12,13,14],[])])
def spec_DropPerson.B3:List Nat:=[0,1,0,7,15,0,32,0,128,480,1023,0,2048,8191,16383,32767]
theorem spec_DropPerson.tab3:rtab .any (opsOf Try.f74 3)=spec_DropPerson.T3:=by kernel_rfl
theorem spec_DropPerson.bits3:waitsOk spec_DropPerson.T3.2 spec_DropPerson.B3=true:=by kernel_rfl
set_option maxHeartbeats 8000000 in
set_option maxRecDepth 100000 in
theorem spec_DropPerson.calls (k:Nat) (A0_0:Option Addr) (c0_0:Nat) (l0_0:List Int) (a0_1:Int) (a1:Int) (r1:List Int) (r2:Int) (r3:Bool) (w:World) (hr0_0:Kd.C (Kd.int .i64) w A0_0 l0_0.length l0_0) (hc0_0:l0_0.length≤c0_0) (h:spec_DropPerson.f k l0_0 a0_1 a1=some (r1,r2,r3)) :
  Calls Try.prog 74 #[.agg #[.slice A0_0 l0_0.length c0_0, .int .i64 a0_1], .int .i64 a1] w fun e w'=>∃ v0_:Value,e = .returned (.tuple #[.agg #[v0_, .int .i64 r2], .bool r3])∧Kd.R (Kd.int .i64) 3 w' w.heap.size (fun _=>True) v0_ r1∧Below w.heap.size w w':=by
 have hu28:=Try.underlying28
 have HR0_0:=am' hr0_0
 have HC0_0:=am' hc0_0
 clear hr0_0 hc0_0;have HB:=am' (Below.refl w.heap.size w)
 have H:((spec_paGood.f k l0_0 a0_1).bind fun t237=>(if t237=true then ((spec_l1In.f a1 0 (wrap64 ((l0_0.length:Int) - 1))).bind fun t238=>(if t238=true then (if (l0_0.length:Int)=1 then (some (([]:List Int),0,false)) else (if 0≤a1 then (if a1≤(l0_0.length:Int) then ((spec_l1Own.f (l0_0.take (a1:Int).toNat)).bind fun t240=>(if 0≤(wrap64 (a1+1)) then (if (wrap64 (a1+1))≤(l0_0.length:Int) then (if t240.length+(l0_0.drop ((wrap64 (a1+1)):Int).toNat).length < 17592186044416 then (some ((t240 ++ (l0_0.drop ((wrap64 (a1+1)):Int).toNat)),a0_1,true)) else (none)) else (none)) else (none))) else (none)) else (none))) else (some (([]:List Int),0,false)))) else (some (([]:List Int),0,false))))=some (r1,r2,r3):=h
 clear h;replace H:=Option.bind_eq_some_iff.mp H
 obtain ⟨t237,A30,H⟩:=H
 replace H:(if t237=true then ((spec_l1In.f a1 0 (wrap64 ((l0_0.length:Int) - 1))).bind fun t238=>(if t238=true then (if (l0_0.length:Int)=1 then (some (([]:List Int),0,false)) else (if 0≤a1 then (if a1≤(l0_0.length:Int) then ((spec_l1Own.f (l0_0.take (a1:Int).toNat)).bind fun t240=>(if 0≤(wrap64 (a1+1)) then (if (wrap64 (a1+1))≤(l0_0.length:Int) then (if t240.length+(l0_0.drop ((wrap64 (a1+1)):Int).toNat).length < 17592186044416 then (some ((t240 ++ (l0_0.drop ((wrap64 (a1+1)):Int).toNat)),a0_1,true)) else (none)) else (none)) else (none))) else (none)) else (none))) else (some (([]:List Int),0,false)))) else (some (([]:List Int),0,false)))=some (r1,r2,r3):=H
 have A3:=am' A30
 clear A30;by_cases c4:t237=true
 ·
  subst c4;have H1:((spec_l1In.f a1 0 (wrap64 ((l0_0.length:Int) - 1))).bind fun t238=>(if t238=true then (if (l0_0.length:Int)=1 then (some (([]:List Int),0,false)) else (if 0≤a1 then (if a1≤(l0_0.length:Int) then ((spec_l1Own.f (l0_0.take (a1:Int).toNat)).bind fun t240=>(if 0≤(wrap64 (a1+1)) then (if (wrap64 (a1+1))≤(l0_0.length:Int) then (if t240.length+(l0_0.drop ((wrap64 (a1+1)):Int).toNat).length < 17592186044416 then (some ((t240 ++ (l0_0.drop ((wrap64 (a1+1)):Int).toNat)),a0_1,true)) else (none)) else (none)) else (none))) else (none)) else (none))) else (some (([]:List Int),0,false))))=some (r1,r2,r3):=by rw[if_pos rfl] at H;exact H
  clear H;have H:=H1;clear H1;replace H:=Option.bind_eq_some_iff.mp H;obtain ⟨t238,A50,H⟩:=H;replace H:(if t238=true then (if (l0_0.length:Int)=1 then (some (([]:List Int),0,false)) else (if 0≤a1 then (if a1≤(l0_0.length:Int) then ((spec_l1Own.f (l0_0.take (a1:Int).toNat)).bind fun t240=>(if 0≤(wrap64 (a1+1)) then (if (wrap64 (a1+1))≤(l0_0.length:Int) then (if t240.length+(l0_0.drop ((wrap64 (a1+1)):Int).toNat).length < 17592186044416 then (some ((t240 ++ (l0_0.drop ((wrap64 (a1+1)):Int).toNat)),a0_1,true)) else (none)) else (none)) else (none))) else (none)) else (none))) else (some (([]:List Int),0,false)))=some (r1,r2,r3):=H;have A5:=am' A50;clear A50;by_cases c6:t238=true
  ·
   subst c6;have H1:(if (l0_0.length:Int)=1 then (some (([]:List Int),0,false)) else (if 0≤a1 then (if a1≤(l0_0.length:Int) then ((spec_l1Own.f (l0_0.take (a1:Int).toNat)).bind fun t240=>(if 0≤(wrap64 (a1+1)) then (if (wrap64 (a1+1))≤(l0_0.length:Int) then (if t240.length+(l0_0.drop ((wrap64 (a1+1)):Int).toNat).length < 17592186044416 then (some ((t240 ++ (l0_0.drop ((wrap64 (a1+1)):Int).toNat)),a0_1,true)) else (none)) else (none)) else (none))) else (none)) else (none)))=some (r1,r2,r3):=by rw[if_pos rfl] at H;exact H
   clear H;have H:=H1;clear H1;by_cases c7:(l0_0.length:Int)=1
   ·
    rw[if_pos c7] at H;have c7b0:((l0_0.length:Int) == 1)=true:=beq_iff_eq.mpr c7;have c7b1:((l0_0.length:Int) != 1)=false:=bne_eq_false_iff_eq.mpr c7;clear c7;simp only[Option.some.injEq,Prod.mk.injEq] at H;obtain ⟨rfl,rfl,rfl⟩:=H;go_enter Try.func74,Try.ntmps74;go_wp2_with (first|((with_reducible refine gate_dst (N:=2) rfl ?_);(try (refine gate_guard (by rfl) ?_;dsimp only));refine box_event ?hg (N:=2) ?hd (cs:=#[.slice A0_0 l0_0.length c0_0, .int .i64 a0_1]) (t:=28) ?hr ?_;(case hd=>rfl);(case hg=>rfl);(case hr=>first|(go_simp;done)|(go_simp;rfl));intro gb235 hg w8 hbox hb;have n0_:=am' (below_step (by repeat (first|(with_reducible first|exact HB.out|apply ba'|apply bd'|apply be')|exact HB.out)) hb);have n1_:=am' (hbox);have n2_:=am' ((by rw[hg];exact (below_size (by repeat (first|(with_reducible first|exact HB.out|apply ba'|apply bd'|apply be')|exact HB.out))):w.heap.size≤gb235));have n3_:=am' ((by rw[hg];exact (below_size (by repeat (first|(with_reducible first|exact HB.out|apply ba'|apply bd'|apply be')|exact HB.out))):w.heap.size≤gb235));clear HB;have HB:=n0_;have BK235:=n1_;have GW235:=n2_;have GE235:=n3_;clear n0_ n1_ n2_ n3_;clear hb hbox hg)|((with_reducible refine gate_dst (N:=4) rfl ?_);(try (refine gate_guard (by rfl) ?_;dsimp only));refine box_event ?hg (N:=4) ?hd (cs:=#[.slice none 0 0, .int .i64 0]) (t:=28) ?hr ?_;(case hd=>rfl);(case hg=>rfl);(case hr=>first|(go_simp;done)|(go_simp;rfl));intro gb236 hg w9 hbox hb;have n0_:=am' (blk_below (g:=gb235) (o := .cells #[.slice A0_0 l0_0.length c0_0, .int .i64 a0_1] 28 (0,0)) (by (with_reducible repeat (first|refine kn' ?_ _|refine kd' ?_|refine ka' ?_ _));exact BK235.out) hb);have n1_:=am' (below_step (by repeat (first|(with_reducible first|exact HB.out|apply ba'|apply bd'|apply be'|refine bs' ?_ GE235.out)|exact HB.out)) hb);have n2_:=am' (hbox);have n3_:=am' ((by rw[hg];exact (below_size (by repeat (first|(with_reducible first|exact HB.out|apply ba'|apply bd'|apply be'|refine bs' ?_ GE235.out)|exact HB.out))):w.heap.size≤gb236));have n4_:=am' ((by rw[hg];exact (below_size (by repeat (first|(with_reducible first|exact HB.out|apply ba'|apply bd'|apply be'|refine bs' ?_ GE235.out)|exact HB.out))):w.heap.size≤gb236));have n5_:=am' ((by rw[hg];exact Nat.ne_of_lt (blk_lt (g:=gb235) (o := .cells #[.slice A0_0 l0_0.length c0_0, .int .i64 a0_1] 28 (0,0)) (by (with_reducible repeat (first|refine kn' ?_ _|refine kd' ?_|refine ka' ?_ _));exact BK235.out)):gb235≠gb236));have n6_:=am' ((by rw[hg];exact Nat.ne_of_gt (blk_lt (g:=gb235) (o := .cells #[.slice A0_0 l0_0.length c0_0, .int .i64 a0_1] 28 (0,0)) (by (with_reducible repeat (first|refine kn' ?_ _|refine kd' ?_|refine ka' ?_ _));exact BK235.out)):gb236≠gb235));clear BK235;clear HB;have BK235:=n0_;have HB:=n1_;have BK236:=n2_;have GW236:=n3_;have GE236:=n4_;have NB235_236:=n5_;have NB236_235:=n6_;clear n0_ n1_ n2_ n3_ n4_ n5_ n6_;clear hb hbox hg;have hnb10:=NB235_236.out;have hnc10:=NB236_235.out;have hcz11_0:w9.cell? ⟨gb235,0,none⟩=some (.slice A0_0 l0_0.length c0_0):=(blk_cell BK235.out 0).trans rfl;have hcz11_1:w9.cell? ⟨gb235,1,none⟩=some (.int .i64 a0_1):=(blk_cell BK235.out 1).trans rfl;have hfz11_0:=blk_frozen BK235.out 0;have hfz11_1:=blk_frozen BK235.out 1)|((with_reducible refine gate_callee (f:=59) rfl ?_);refine goesL_ (some 7) rfl rfl Try.func59 (by kernel_rfl) rfl #[.agg #[.slice A0_0 l0_0.length c0_0, .int .i64 a0_1]] rfl (by (try simp only[List.map_toArray,List.map_cons,List.map_nil]);first|done|rfl|(simp only[List.length_drop,List.length_take];rfl)) ?_;(with_reducible refine (spec_paGood.calls k _ _ l0_0 a0_1 true _ ?side1 ?side2 A3.out).mono ?_);(case side1=>repeat (first|exact (Kd.C_below HR0_0.out HB.out)|(with_reducible refine ca' ?_ _)|(with_reducible refine cn' ?_ _)|(with_reducible refine cd' ?_)));(case side2=>exact HC0_0.out);rintro e w12 ⟨rfl,hb⟩;refine ⟨_,rfl,?_⟩;have n0_:=am' (blk_below (g:=gb235) (o := .cells #[.slice A0_0 l0_0.length c0_0, .int .i64 a0_1] 28 (0,0)) (by (with_reducible repeat (first|refine kn' ?_ _|refine kd' ?_|refine ka' ?_ _));exact BK235.out) hb);have n1_:=am' (blk_below (g:=gb236) (o := .cells #[.slice none 0 0, .int .i64 0] 28 (0,0)) (by (with_reducible repeat (first|refine kn' ?_ _|refine kd' ?_|refine ka' ?_ _));exact BK236.out) hb);have n2_:=am' (below_step (by repeat (first|(with_reducible first|exact HB.out|apply ba'|apply bd'|apply be'|refine bs' ?_ GE235.out|refine bs' ?_ GE236.out)|exact HB.out)) hb);clear BK235;clear BK236;clear HB;have BK235:=n0_;have BK236:=n1_;have HB:=n2_;clear n0_ n1_ n2_;(try clear hb);(try clear hb2);(try clear hk);(try clear hi);have hcz13_0:w12.cell? ⟨gb235,0,none⟩=some (.slice A0_0 l0_0.length c0_0):=(blk_cell BK235.out 0).trans rfl;have hcz13_1:w12.cell? ⟨gb235,1,none⟩=some (.int .i64 a0_1):=(blk_cell BK235.out 1).trans rfl;have hfz13_0:=blk_frozen BK235.out 0;have hfz13_1:=blk_frozen BK235.out 1)|(go_at_call 60;(with_reducible refine (spec_l1In.calls a1 0 (wrap64 ((l0_0.length:Int) - 1)) true _ A5.out).mono ?_);rintro e w' ⟨rfl,⟨nd,rfl⟩⟩;(try (rw[drewN_self w12];generalize hq_:World.drewN w12 _=w12;have n0_:Aside0 (w12.heap[gb235]? = some (.cells #[.slice A0_0 l0_0.length c0_0, .int .i64 a0_1] 28 (0,0))):=⟨by rw[← hq_];exact (by (with_reducible repeat (first|refine kn' ?_ _|refine kd' ?_|refine ka' ?_ _));exact BK235.out)⟩;have n1_:Aside0 (w12.heap[gb236]? = some (.cells #[.slice none 0 0, .int .i64 0] 28 (0,0))):=⟨by rw[← hq_];exact (by (with_reducible repeat (first|refine kn' ?_ _|refine kd' ?_|refine ka' ?_ _));exact BK236.out)⟩;have n2_:Aside0 (Below w.heap.size w w12):=⟨by rw[← hq_];exact (by repeat (first|(with_reducible first|exact HB.out|apply ba'|apply bd'|apply be'|refine bs' ?_ GE235.out|refine bs' ?_ GE236.out)|exact HB.out))⟩;clear BK235 BK236 HB hq_;have BK235:=n0_;have BK236:=n1_;have HB:=n2_;clear n0_ n1_ n2_));(try (have hcu235_0:w12.cell? ⟨gb235,0,none⟩=some (.slice A0_0 l0_0.length c0_0):=(blk_cell BK235.out 0).trans rfl));(try (have hcu235_1:w12.cell? ⟨gb235,1,none⟩=some (.int .i64 a0_1):=(blk_cell BK235.out 1).trans rfl));(try (have hcu236_0:w12.cell? ⟨gb236,0,none⟩=some (.slice none 0 0):=(blk_cell BK236.out 0).trans rfl));(try (have hcu236_1:w12.cell? ⟨gb236,1,none⟩=some (.int .i64 0):=(blk_cell BK236.out 1).trans rfl));have hcz14_0:w12.cell? ⟨gb236,0,none⟩=some (.slice none 0 0):=(blk_cell BK236.out 0).trans rfl;have hcz14_1:w12.cell? ⟨gb236,1,none⟩=some (.int .i64 0):=(blk_cell BK236.out 1).trans rfl;have hfz14_0:=blk_frozen BK236.out 0;have hfz14_1:=blk_frozen BK236.out 1))
    refine bodyPost_ret (results_ct rfl _ _ gb236 28 #[.slice none 0 0, .int .i64 0] (0,0) _ rfl (by (with_reducible repeat (first|refine kn' ?_ _|refine kd' ?_|refine ka' ?_ _));refine blk_put (cs:=#[.slice none 0 0, .int .i64 0]) ?_ 1 _ rfl;(with_reducible repeat (first|refine kn' ?_ _|refine kd' ?_|refine ka' ?_ _));refine blk_put (cs:=#[.slice none 0 0, .int .i64 0]) ?_ 0 _ rfl;(with_reducible repeat (first|refine kn' ?_ _|refine kd' ?_|refine ka' ?_ _));exact BK236.out) Try.underlying28 rfl (by kernel_rfl)) rfl ?_
    exact ⟨_,by first|rfl|(simp[errW_none,errW_some] <;> rfl)|(simp[*,errW_none,errW_some] <;> rfl),by first|exact Kd.R_nil _ _ _ _ _|exact Kd.N_nil _ _ _ _ _|exact Kd.V_nil _ _ _ _ _|exact Kd.Q_nil _ _ _ _ _|exact Kd.S_nil _ _ _ _ _,by repeat (first|(with_reducible first|exact HB.out|apply ba'|apply bd'|apply be'|refine bs' ?_ GE235.out|refine bs' ?_ GE236.out)|exact HB.out)⟩
   ·
    rw[if_neg c7] at H;have c7b0:((l0_0.length:Int) == 1)=false:=beq_eq_false_iff_ne.mpr c7;have c7b1:((l0_0.length:Int) != 1)=true:=bne_iff_ne.mpr c7;by_cases c15:0≤a1
    ·
     rw[if_pos c15] at H;have c15b0:=eq_true c15;have c15b1:decide (0≤a1)=true:=decide_eq_true c15;clear c15;by_cases c16:a1≤(l0_0.length:Int)
     ·
      rw[if_pos c16] at H;have c16b0:=eq_true c16;have c16b1:decide (a1≤(l0_0.length:Int))=true:=decide_eq_true c16;clear c16;replace H:=Option.bind_eq_some_iff.mp H;obtain ⟨t240,A170,H⟩:=H;replace H:(if 0≤(wrap64 (a1+1)) then (if (wrap64 (a1+1))≤(l0_0.length:Int) then (if t240.length+(l0_0.drop ((wrap64 (a1+1)):Int).toNat).length < 17592186044416 then (some ((t240 ++ (l0_0.drop ((wrap64 (a1+1)):Int).toNat)),a0_1,true)) else (none)) else (none)) else (none))=some (r1,r2,r3):=H;have A17:=am' A170;clear A170;obtain ⟨ji18,hji18⟩:∃ j_:Int,(wrap64 (a1+1))=j_:=⟨_,rfl⟩
      replace H:(if 0≤(ji18) then (if (ji18)≤(l0_0.length:Int) then (if t240.length+(l0_0.drop ((ji18):Int).toNat).length < 17592186044416 then (some ((t240 ++ (l0_0.drop ((ji18):Int).toNat)),a0_1,true)) else (none)) else (none)) else (none))=some (r1,r2,r3):=by first|(rw[hji18] at H;exact H)|(simp only[hji18] at H ⊢;exact H)
      (try rw [hji18] at A3)
      (try rw [hji18] at A5)
      (try rw [hji18] at A17)
      have hji18w:(IntKind.i64.wrap (a1+1))=ji18:=(i64_w _).trans hji18;by_cases c19:0≤(ji18)
      ·
       rw[if_pos c19] at H;have c19b0:=eq_true c19;have c19b1:decide (0≤(ji18))=true:=decide_eq_true c19;clear c19;by_cases c20:(ji18)≤(l0_0.length:Int)
       ·
        rw[if_pos c20] at H;have c20b0:=eq_true c20;have c20b1:decide ((ji18)≤(l0_0.length:Int))=true:=decide_eq_true c20;clear c20;by_cases c21:t240.length+(l0_0.drop ((ji18):Int).toNat).length < 17592186044416
        ·
         rw[if_pos c21] at H;have LMc21:=am' c21;clear c21;obtain ⟨y244,hy244⟩:∃ y_:List Int,y_=(t240 ++ (l0_0.drop ((ji18):Int).toNat)):=⟨_,rfl⟩
         replace H:(some (y244,a0_1,true))=some (r1,r2,r3):=by first|(rw[hy244];with_reducible exact H)|(have H2_:=(Option.bind_some _ _).symm.trans H;rw[hy244];with_reducible exact H2_)|(have H2_:=(Option.bind_some _ _).symm.trans H;with_reducible exact H2_)|with_reducible exact H|(rw[hy244];exact H)|exact H
         have Ny244:=am' hy244;clear hy244;simp only[Option.some.injEq,Prod.mk.injEq] at H;obtain ⟨rfl,rfl,rfl⟩:=H;go_enter Try.func74,Try.ntmps74
         try go_wp2_with (first|((with_reducible refine gate_dst (N:=2) rfl ?_);(try (refine gate_guard (by rfl) ?_;dsimp only));refine box_event ?hg (N:=2) ?hd (cs:=#[.slice A0_0 l0_0.length c0_0, .int .i64 a0_1]) (t:=28) ?hr ?_;(case hd=>rfl);(case hg=>rfl);(case hr=>first|(go_simp;done)|(go_simp;rfl));intro gb235 hg w22 hbox hb;have n0_:=am' (below_step (by repeat (first|(with_reducible first|exact HB.out|apply ba'|apply bd'|apply be')|exact HB.out)) hb);have n1_:=am' (hbox);have n2_:=am' ((by rw[hg];exact (below_size (by repeat (first|(with_reducible first|exact HB.out|apply ba'|apply bd'|apply be')|exact HB.out))):w.heap.size≤gb235));have n3_:=am' ((by rw[hg];exact (below_size (by repeat (first|(with_reducible first|exact HB.out|apply ba'|apply bd'|apply be')|exact HB.out))):w.heap.size≤gb235));clear HB;have HB:=n0_;have BK235:=n1_;have GW235:=n2_;have GE235:=n3_;clear n0_ n1_ n2_ n3_;clear hb hbox hg)|((with_reducible refine gate_dst (N:=4) rfl ?_);(try (refine gate_guard (by rfl) ?_;dsimp only));refine box_event ?hg (N:=4) ?hd (cs:=#[.slice none 0 0, .int .i64 0]) (t:=28) ?hr ?_;(case hd=>rfl);(case hg=>rfl);(case hr=>first|(go_simp;done)|(go_simp;rfl));intro gb236 hg w23 hbox hb;have n0_:=am' (blk_below (g:=gb235) (o := .cells #[.slice A0_0 l0_0.length c0_0, .int .i64 a0_1] 28 (0,0)) (by (with_reducible repeat (first|refine kn' ?_ _|refine kd' ?_|refine ka' ?_ _));exact BK235.out) hb);have n1_:=am' (below_step (by repeat (first|(with_reducible first|exact HB.out|apply ba'|apply bd'|apply be'|refine bs' ?_ GE235.out)|exact HB.out)) hb);have n2_:=am' (hbox);have n3_:=am' ((by rw[hg];exact (below_size (by repeat (first|(with_reducible first|exact HB.out|apply ba'|apply bd'|apply be'|refine bs' ?_ GE235.out)|exact HB.out))):w.heap.size≤gb236));have n4_:=am' ((by rw[hg];exact (below_size (by repeat (first|(with_reducible first|exact HB.out|apply ba'|apply bd'|apply be'|refine bs' ?_ GE235.out)|exact HB.out))):w.heap.size≤gb236));have n5_:=am' ((by rw[hg];exact Nat.ne_of_lt (blk_lt (g:=gb235) (o := .cells #[.slice A0_0 l0_0.length c0_0, .int .i64 a0_1] 28 (0,0)) (by (with_reducible repeat (first|refine kn' ?_ _|refine kd' ?_|refine ka' ?_ _));exact BK235.out)):gb235≠gb236));have n6_:=am' ((by rw[hg];exact Nat.ne_of_gt (blk_lt (g:=gb235) (o := .cells #[.slice A0_0 l0_0.length c0_0, .int .i64 a0_1] 28 (0,0)) (by (with_reducible repeat (first|refine kn' ?_ _|refine kd' ?_|refine ka' ?_ _));exact BK235.out)):gb236≠gb235));clear BK235;clear HB;have BK235:=n0_;have HB:=n1_;have BK236:=n2_;have GW236:=n3_;have GE236:=n4_;have NB235_236:=n5_;have NB236_235:=n6_;clear n0_ n1_ n2_ n3_ n4_ n5_ n6_;clear hb hbox hg;have hnb24:=NB235_236.out;have hnc24:=NB236_235.out;have hcz25_0:w23.cell? ⟨gb235,0,none⟩=some (.slice A0_0 l0_0.length c0_0):=(blk_cell BK235.out 0).trans rfl;have hcz25_1:w23.cell? ⟨gb235,1,none⟩=some (.int .i64 a0_1):=(blk_cell BK235.out 1).trans rfl;have hfz25_0:=blk_frozen BK235.out 0;have hfz25_1:=blk_frozen BK235.out 1)|((with_reducible refine gate_callee (f:=59) rfl ?_);refine goesL_ (some 7) rfl rfl Try.func59 (by kernel_rfl) rfl #[.agg #[.slice A0_0 l0_0.length c0_0, .int .i64 a0_1]] rfl (by (try simp only[List.map_toArray,List.map_cons,List.map_nil]);first|done|rfl|(simp only[List.length_drop,List.length_take];rfl)) ?_;(with_reducible refine (spec_paGood.calls k _ _ l0_0 a0_1 true _ ?side1 ?side2 A3.out).mono ?_);(case side1=>repeat (first|exact (Kd.C_below HR0_0.out HB.out)|(with_reducible refine ca' ?_ _)|(with_reducible refine cn' ?_ _)|(with_reducible refine cd' ?_)));(case side2=>exact HC0_0.out);rintro e w26 ⟨rfl,hb⟩;refine ⟨_,rfl,?_⟩;have n0_:=am' (blk_below (g:=gb235) (o := .cells #[.slice A0_0 l0_0.length c0_0, .int .i64 a0_1] 28 (0,0)) (by (with_reducible repeat (first|refine kn' ?_ _|refine kd' ?_|refine ka' ?_ _));exact BK235.out) hb);have n1_:=am' (blk_below (g:=gb236) (o := .cells #[.slice none 0 0, .int .i64 0] 28 (0,0)) (by (with_reducible repeat (first|refine kn' ?_ _|refine kd' ?_|refine ka' ?_ _));exact BK236.out) hb);have n2_:=am' (below_step (by repeat (first|(with_reducible first|exact HB.out|apply ba'|apply bd'|apply be'|refine bs' ?_ GE235.out|refine bs' ?_ GE236.out)|exact HB.out)) hb);clear BK235;clear BK236;clear HB;have BK235:=n0_;have BK236:=n1_;have HB:=n2_;clear n0_ n1_ n2_;(try clear hb);(try clear hb2);(try clear hk);(try clear hi);have hcz27_0:w26.cell? ⟨gb235,0,none⟩=some (.slice A0_0 l0_0.length c0_0):=(blk_cell BK235.out 0).trans rfl;have hcz27_1:w26.cell? ⟨gb235,1,none⟩=some (.int .i64 a0_1):=(blk_cell BK235.out 1).trans rfl;have hfz27_0:=blk_frozen BK235.out 0;have hfz27_1:=blk_frozen BK235.out 1)|(go_at_call 60;(with_reducible refine (spec_l1In.calls a1 0 (wrap64 ((l0_0.length:Int) - 1)) true _ A5.out).mono ?_);rintro e w' ⟨rfl,⟨nd,rfl⟩⟩;(try (rw[drewN_self w26];generalize hq_:World.drewN w26 _=w26;have n0_:Aside0 (w26.heap[gb235]? = some (.cells #[.slice A0_0 l0_0.length c0_0, .int .i64 a0_1] 28 (0,0))):=⟨by rw[← hq_];exact (by (with_reducible repeat (first|refine kn' ?_ _|refine kd' ?_|refine ka' ?_ _));exact BK235.out)⟩;have n1_:Aside0 (w26.heap[gb236]? = some (.cells #[.slice none 0 0, .int .i64 0] 28 (0,0))):=⟨by rw[← hq_];exact (by (with_reducible repeat (first|refine kn' ?_ _|refine kd' ?_|refine ka' ?_ _));exact BK236.out)⟩;have n2_:Aside0 (Below w.heap.size w w26):=⟨by rw[← hq_];exact (by repeat (first|(with_reducible first|exact HB.out|apply ba'|apply bd'|apply be'|refine bs' ?_ GE235.out|refine bs' ?_ GE236.out)|exact HB.out))⟩;clear BK235 BK236 HB hq_;have BK235:=n0_;have BK236:=n1_;have HB:=n2_;clear n0_ n1_ n2_));(try (have hcu235_0:w26.cell? ⟨gb235,0,none⟩=some (.slice A0_0 l0_0.length c0_0):=(blk_cell BK235.out 0).trans rfl));(try (have hcu235_1:w26.cell? ⟨gb235,1,none⟩=some (.int .i64 a0_1):=(blk_cell BK235.out 1).trans rfl));(try (have hcu236_0:w26.cell? ⟨gb236,0,none⟩=some (.slice none 0 0):=(blk_cell BK236.out 0).trans rfl));(try (have hcu236_1:w26.cell? ⟨gb236,1,none⟩=some (.int .i64 0):=(blk_cell BK236.out 1).trans rfl))))
         have n0_:=am' (kd' BK235.out);have n1_:=am' (kd' BK236.out);have n2_:=am' (be' HB.out);clear BK235;clear BK236;clear HB;have BK235:=n0_;have BK236:=n1_;have HB:=n2_;clear n0_ n1_ n2_;obtain ⟨i029,hi029,_,hsz29,_⟩:=info_parts info3;obtain ⟨hcut29,hA29,hC29⟩:=print_take_of (P:=Try.prog) (Value.int .i64) 0 22 3 .i64 Try.underlying22 hi029 hsz29 A0_0 c0_0 l0_0 a1 (of_decide_eq_true (by first|(with_reducible assumption)|assumption)) (of_decide_eq_true (by first|(with_reducible assumption)|assumption)) HC0_0.out;have HR239:=am' (Kd.C_of_reads (h1:=fun _=>rfl) (hA29 _ (Kd.reads_of_C HR0_0.out)));have HC239:=am' hC29;clear hA29 hC29 hi029 hsz29;obtain ⟨i030,hi030,_,hsz30,_⟩:=info_parts info3;obtain ⟨A30,hcut30,hA30,hC30⟩:=print_drop_of (P:=Try.prog) (Value.int .i64) 0 22 3 .i64 Try.underlying22 hi030 hsz30 A0_0 c0_0 l0_0 (ji18) (of_decide_eq_true (by first|(with_reducible assumption)|assumption)) (of_decide_eq_true (by first|(with_reducible assumption)|assumption)) HC0_0.out;have HR243:=am' (Kd.C_of_reads (h1:=fun _=>rfl) (hA30 _ (Kd.reads_of_C HR0_0.out)));have HC243:=am' hC30;clear hA30 hC30 hi030 hsz30;refine start_ (n:=16) (S:=fun w'=>w'.cell? ⟨gb235,0,none⟩=some (.slice A0_0 l0_0.length c0_0)∧w'.cell? ⟨gb235,1,none⟩=some (.int .i64 a0_1)) (ds:=[]) #[false,false,false,false,false,false,false,false,false,false,false,false,false,false,false,false] (by kernel_rfl) rfl rfl ⟨(blk_cell BK235.out 0).trans rfl,(blk_cell BK235.out 1).trans rfl⟩ (fun hHeld=>?_);refine with_tabW spec_DropPerson.tab3 spec_DropPerson.bits3 (fun HT_ HW_=>?_);generalize w26.drew=w28 at BK235 BK236 HB HR239 HR243 hHeld ⊢
         refine pure_ (i:=0) (N:=some 25) (v:=?_) (a':=?_) #[true,false,false,false,false,false,false,false,false,false,false,false,false,false,false,false] rfl rfl (any_of HT_.out (by kernel_rfl)) (fun _ _ _ h=>h) (Or.inl ⟨by rfl,?_⟩) ?_ ?_
         rotate_left
         ·
          intro w';go_simp;with_reducible rfl
         rotate_left
         ·
          simp only[Act.put,sa',sb',sc',i64_w,i32_w];rfl
         refine pure_ (i:=2) (N:=some 27) (v:=?_) (a':=?_) #[true,false,true,false,false,false,false,false,false,false,false,false,false,false,false,false] rfl rfl (any_of HT_.out (by kernel_rfl)) (fun _ _ _ h=>h) (Or.inl ⟨by rfl,?_⟩) ?_ ?_
         rotate_left
         ·
          intro w';go_simp;with_reducible rfl
         rotate_left
         ·
          simp only[Act.put,sa',sb',sc',i64_w,i32_w];rfl
         refine pure_ (i:=5) (N:=some 30) (v:=?_) (a':=?_) #[true,false,true,false,false,true,false,false,false,false,false,false,false,false,false,false] rfl rfl (any_of HT_.out (by kernel_rfl)) (fun _ _ _ h=>h) (Or.inl ⟨by rfl,?_⟩) ?_ ?_
         rotate_left
         ·
          intro w';go_simp;with_reducible rfl
         rotate_left
         ·
          simp only[Act.put,sa',sb',sc',i64_w,i32_w];rfl
         refine pure_ (i:=7) (N:=some 32) (v:=?_) (a':=?_) #[true,false,true,false,false,true,false,true,false,false,false,false,false,false,false,false] rfl rfl (any_of HT_.out (by kernel_rfl)) (fun _ _ _ h=>h) (Or.inl ⟨by rfl,?_⟩) ?_ ?_
         rotate_left
         ·
          intro w';go_simp;with_reducible rfl
         rotate_left
         ·
          simp only[Act.put,sa',sb',sc',i64_w,i32_w];rfl
         refine pure_ (i:=8) (N:=some 33) (v:=?_) (a':=?_) #[true,false,true,false,false,true,false,true,true,false,false,false,false,false,false,false] rfl rfl (any_of HT_.out (by kernel_rfl)) (fun _ _ _ h=>h) (Or.inl ⟨by rfl,?_⟩) ?_ ?_
         rotate_left
         ·
          intro w';go_simp;with_reducible rfl
         rotate_left
         ·
          simp only[Act.put,sa',sb',sc',i64_w,i32_w];rfl
         refine pure_ (i:=11) (N:=some 36) (v:=?_) (a':=?_) #[true,false,true,false,false,true,false,true,true,false,false,true,false,false,false,false] rfl rfl (any_of HT_.out (by kernel_rfl)) (fun _ _ _ h=>h) (Or.inl ⟨by rfl,?_⟩) ?_ ?_
         rotate_left
         ·
          intro w';go_simp;with_reducible rfl
         rotate_left
         ·
          simp only[Act.put,sa',sb',sc',i64_w,i32_w];rfl
         refine take_ (i:=1) (N:=some 26) (v:=?_) (a':=?_) #[true,true,true,false,false,true,false,true,true,false,false,true,false,false,false,false] rfl rfl (take_ofW HT_.out HW_.out (by kernel_rfl)) (fun _ _ _ h=>h) (Or.inl ⟨by rfl,?_⟩) hHeld ?_ ?_
         rotate_left
         ·
          rintro w' ⟨s0,s1⟩
          go_simp;with_reducible rfl
         rotate_left
         ·
          simp only[Act.put,sa',sb',sc',i64_w,i32_w];rfl
         refine pure_ (i:=3) (N:=some 28) (v:=?_) (a':=?_) #[true,true,true,true,false,true,false,true,true,false,false,true,false,false,false,false] rfl rfl (any_of HT_.out (by kernel_rfl)) (fun _ _ _ h=>h) (Or.inl ⟨by rfl,?_⟩) ?_ ?_
         rotate_left
         ·
          intro w';go_simp;with_reducible rfl
         rotate_left
         ·
          simp only[Act.put,sa',sb',sc',i64_w,i32_w];rfl
         refine take_ (i:=6) (N:=some 31) (v:=?_) (a':=?_) #[true,true,true,true,false,true,true,true,true,false,false,true,false,false,false,false] rfl rfl (take_ofW HT_.out HW_.out (by kernel_rfl)) (fun _ _ _ h=>h) (Or.inl ⟨by rfl,?_⟩) hHeld ?_ ?_
         rotate_left
         ·
          rintro w' ⟨s0,s1⟩
          go_simp;with_reducible rfl
         rotate_left
         ·
          simp only[Act.put,sa',sb',sc',i64_w,i32_w];rfl
         refine pure_ (i:=9) (N:=some 34) (v:=?_) (a':=?_) #[true,true,true,true,false,true,true,true,true,true,false,true,false,false,false,false] rfl rfl (any_of HT_.out (by kernel_rfl)) (fun _ _ _ h=>h) (Or.inl ⟨by rfl,?_⟩) ?_ ?_
         rotate_left
         ·
          intro w';go_simp;with_reducible rfl
         rotate_left
         ·
          simp only[Act.put,sa',sb',sc',i64_w,i32_w];rfl
         refine take_ (i:=12) (N:=some 37) (v:=?_) (a':=?_) #[true,true,true,true,false,true,true,true,true,true,false,true,true,false,false,false] rfl rfl (take_ofW HT_.out HW_.out (by kernel_rfl)) (fun _ _ _ h=>h) (Or.inl ⟨by rfl,?_⟩) hHeld ?_ ?_
         rotate_left
         ·
          rintro w' ⟨s0,s1⟩
          go_simp;with_reducible rfl
         rotate_left
         ·
          simp only[Act.put,sa',sb',sc',i64_w,i32_w];rfl
         refine one_ (i:=4) (N:=some 29) #[true,true,true,true,true,true,true,true,true,true,false,true,true,false,false,false] rfl rfl (one_of HT_.out (by kernel_rfl)) (by decide) (fun K hK=>?_);refine goes_ Try.func112 (by kernel_rfl) rfl #[.slice A0_0 (l0_0.take (a1:Int).toNat).length c0_0] (by rfl) rfl rfl (by (try simp only[List.map_toArray,List.map_cons,List.map_nil]);first|done|(rw[show (l0_0.take (a1:Int).toNat).length=a1.toNat from (by rw[List.length_take];have h_:(a1:Int)≤(l0_0.length:Int):=of_decide_eq_true (by first|(with_reducible assumption)|assumption);omega)] <;> rfl)|rfl|(simp only[List.length_drop,List.length_take];rfl)) ?_
         with_reducible refine (spec_l1Own.calls _ _ (l0_0.take (a1:Int).toNat) t240 _ ?side1 ?side2 A17.out).mono ?_
         (case side1=>repeat (first|exact (Kd.C_below HR239.out HB.out)|(with_reducible refine ca' ?_ _)|(with_reducible refine cn' ?_ _)|(with_reducible refine cd' ?_)))
         (case side2=>exact HC239.out)
         rintro e w31 ⟨v241,rfl,ho0,hb⟩
         refine ⟨_,rfl,?_⟩;have n0_:=am' (Kd.R_lower ho0 (below_size (by repeat (first|(with_reducible first|exact HB.out|apply ba'|apply bd'|apply be'|refine bs' ?_ GE235.out|refine bs' ?_ GE236.out)|exact HB.out))));have n1_:=am' (blk_below (g:=gb235) (o := .cells #[.slice A0_0 l0_0.length c0_0, .int .i64 a0_1] 28 (0,0)) (by (with_reducible repeat (first|refine kn' ?_ _|refine kd' ?_|refine ka' ?_ _));exact BK235.out) hb);have n2_:=am' (blk_below (g:=gb236) (o := .cells #[.slice none 0 0, .int .i64 0] 28 (0,0)) (by (with_reducible repeat (first|refine kn' ?_ _|refine kd' ?_|refine ka' ?_ _));exact BK236.out) hb);have n3_:=am' (below_step (by repeat (first|(with_reducible first|exact HB.out|apply ba'|apply bd'|apply be'|refine bs' ?_ GE235.out|refine bs' ?_ GE236.out)|exact HB.out)) hb);clear BK235;clear BK236;clear HB;have HO242:=n0_;have BK235:=n1_;have BK236:=n2_;have HB:=n3_;clear n0_ n1_ n2_ n3_;(try clear hb)
         (try clear hb2)
         (try clear hk)
         (try clear hi)
         (try clear ho0)
         refine hK.out _ _ ⟨(blk_cell BK235.out 0).trans rfl,(blk_cell BK235.out 1).trans rfl⟩ (fun hHeld=>?_);clear hK K;refine norm_ (a':=?_) ?_ ?_
         rotate_left
         ·
          show Act.put _ (some 29) _=_
          simp only[Act.put,sa',sb',sc',i64_w,i32_w];rfl
         refine one_ (i:=10) (N:=some 35) #[true,true,true,true,true,true,true,true,true,true,true,true,true,false,false,false] rfl rfl (one_of HT_.out (by kernel_rfl)) (by decide) (fun K hK=>?_);refine Kd.R_append_rows_step (Kd.int .i64) (w0:=w) w.heap.size (by rfl) (.tmp 29) (.tmp 34) 22 3 (.int .i64 0) 8 rfl Try.underlying22 info3 rfl (by decide) (by omega) v241 t240 (l0_0.drop ((ji18):Int).toNat) _ _ _ (fun _=>True) (fun _=>False) rfl rfl ?aO ?aR (fun _ _ h=>h) (fun _ h=>h.elim) ?aF ?aB ?aS ?aL ?_
         (case aR=>first|(rw[← show (l0_0.drop ((ji18):Int).toNat).length=(l0_0.length - (ji18).toNat) from List.length_drop];repeat (first|exact (Kd.C_below HR243.out HB.out)|(with_reducible refine ca' ?_ _)|(with_reducible refine cn' ?_ _)|(with_reducible refine cd' ?_)))|(repeat (first|exact (Kd.C_below HR243.out HB.out)|(with_reducible refine ca' ?_ _)|(with_reducible refine cn' ?_ _)|(with_reducible refine cd' ?_))))
         (case aB=>exact (by repeat (first|(with_reducible first|exact HB.out|apply ba'|apply bd'|apply be'|refine bs' ?_ GE235.out|refine bs' ?_ GE236.out)|exact HB.out)))
         (case aF=>exact (fun _ _=>trivial))
         (case aO=>exact (by (with_reducible repeat (first|apply ra'|apply rn'|apply rw'));exact HO242.out))
         (case aS=>exact (below_size (by repeat (first|(with_reducible first|exact HB.out|apply ba'|apply bd'|apply be'|refine bs' ?_ GE235.out|refine bs' ?_ GE236.out)|exact HB.out))))
         (case aL=>have:=LMc21.out;have hlx_:=(show (l0_0.drop ((ji18):Int).toNat).length=(l0_0.length - (ji18).toNat) from List.length_drop);omega)
         intro v245 w32 ho hb hg hat;rw[← Ny244.out] at ho;have n0_:=am' (blk_grown (g:=gb235) (o := .cells #[.slice A0_0 l0_0.length c0_0, .int .i64 a0_1] 28 (0,0)) (by (with_reducible repeat (first|refine kn' ?_ _|refine kd' ?_|refine ka' ?_ _));exact BK235.out) hg (Kd.R_ne HO242.out BK235.out (by decide)));have n1_:=am' (blk_grown (g:=gb236) (o := .cells #[.slice none 0 0, .int .i64 0] 28 (0,0)) (by (with_reducible repeat (first|refine kn' ?_ _|refine kd' ?_|refine ka' ?_ _));exact BK236.out) hg (Kd.R_ne HO242.out BK236.out (by decide)));have n2_:=am' (hb);have n3_:=am' (ho);clear BK235;clear BK236;clear HB;clear HO242;have BK235:=n0_;have BK236:=n1_;have HB:=n2_;have HO246:=n3_;clear n0_ n1_ n2_ n3_;clear ho hb hg hat;obtain ⟨Ao33,co33,eo33⟩:=Kd.R_slice HO246.out
         (first|subst eo33|(injection eo33 with f1_ f2_ f3_;have f4_:=f1_.symm;have f5_:=f3_.symm;clear f1_ f2_ f3_;subst f4_;subst f5_))
         refine hK.out _ _ ⟨(blk_cell BK235.out 0).trans rfl,(blk_cell BK235.out 1).trans rfl⟩ (fun hHeld=>?_);clear hK K;refine norm_ (a':=?_) ?_ ?_
         rotate_left
         ·
          show Act.put _ (some 35) _=_
          simp only[Act.put,sa',sb',sc',i64_w,i32_w];rfl
         refine pure_ (i:=13) (N:=some 38) (v:=?_) (a':=?_) #[true,true,true,true,true,true,true,true,true,true,true,true,true,true,false,false] rfl rfl (any_of HT_.out (by kernel_rfl)) (fun _ _ _ h=>h) (Or.inl ⟨by rfl,?_⟩) ?_ ?_
         rotate_left
         ·
          intro w';go_simp;with_reducible rfl
         rotate_left
         ·
          simp only[Act.put,sa',sb',sc',i64_w,i32_w];rfl
         refine one_ (i:=14) (N:=none) #[true,true,true,true,true,true,true,true,true,true,true,true,true,true,true,false] rfl rfl (one_of HT_.out (by kernel_rfl)) (by decide) (fun K hK=>?_);have hs34:w32.cell? ⟨gb236,0,none⟩=some (.slice none 0 0):=(blk_cell BK236.out 0).trans rfl;have hfs34:=blk_frozen BK236.out 0;have hns34_0:=NB235_236.out;have hms34_0:=NB236_235.out;have hs35:w32.cell? ⟨gb236,1,none⟩=some (.int .i64 0):=(blk_cell BK236.out 1).trans rfl;have hfs35:=blk_frozen BK236.out 1;have hns35_0:=NB235_236.out;have hms35_0:=NB236_235.out;refine skip_ (w1:=?_) (by rfl) rfl ?_ ?_
         rotate_left
         ·
          go_simp;rfl
         refine hK.out _ _ ⟨((cell_far (p:=⟨gb236,_,none⟩) NB235_236.out _).trans (((cell_far (p:=⟨gb236,_,none⟩) NB235_236.out _).trans (hHeld.1)))),((cell_far (p:=⟨gb236,_,none⟩) NB235_236.out _).trans (((cell_far (p:=⟨gb236,_,none⟩) NB235_236.out _).trans (hHeld.2))))⟩ (fun hHeld=>?_);clear hK K;refine pure_ (i:=15) (N:=some 5) (v:=?_) (a':=?_) #[true,true,true,true,true,true,true,true,true,true,true,true,true,true,true,true] rfl rfl (any_of HT_.out (by kernel_rfl)) (fun _ _ _ h=>h) (Or.inl ⟨by rfl,?_⟩) ?_ ?_
         rotate_left
         ·
          intro w';go_simp;with_reducible rfl
         rotate_left
         ·
          simp only[Act.put,sa',sb',sc',i64_w,i32_w];rfl
         refine done_ (done_of HT_.out (by kernel_rfl)) ?_
         try go_wp2
         refine bodyPost_ret (results_ct rfl _ _ gb236 28 #[.slice Ao33 y244.length co33, .int .i64 a0_1] (0,0) _ rfl (by (with_reducible repeat (first|refine kn' ?_ _|refine kd' ?_|refine ka' ?_ _));refine blk_put (cs:=#[.slice Ao33 y244.length co33, .int .i64 0]) ?_ 1 _ rfl;(with_reducible repeat (first|refine kn' ?_ _|refine kd' ?_|refine ka' ?_ _));refine blk_put (cs:=#[.slice none 0 0, .int .i64 0]) ?_ 0 _ rfl;(with_reducible repeat (first|refine kn' ?_ _|refine kd' ?_|refine ka' ?_ _));exact BK236.out) Try.underlying28 rfl (by kernel_rfl)) rfl ?_
         exact ⟨_,by first|rfl|(simp[errW_none,errW_some] <;> rfl)|(simp only[← hji18];first|rfl|(simp[errW_none,errW_some] <;> rfl))|(simp[*,errW_none,errW_some] <;> rfl),by (with_reducible repeat (first|apply ra'|apply rn'|apply rw'));exact Kd.R_mono (Kd.R_far (p:=⟨gb236,1,none⟩) (Kd.R_far (p:=⟨gb236,0,none⟩) (Kd.R_types HO246.out BK236.out (by decide)) (fun _ hk=>hk.2) (.slice Ao33 y244.length co33)) (fun _ hk=>hk.2) (.int .i64 a0_1)) (fun _ hk=>trivial),by repeat (first|(with_reducible first|exact HB.out|apply ba'|apply bd'|apply be'|refine bs' ?_ GE235.out|refine bs' ?_ GE236.out)|exact HB.out)⟩
        ·
         rw[if_neg c21] at H;exact absurd H (by simp)
       ·
        rw[if_neg c20] at H;exact absurd H (by simp)
      ·
       rw[if_neg c19] at H;exact absurd H (by simp)
     ·
      rw[if_neg c16] at H;exact absurd H (by simp)
    ·
     rw[if_neg c15] at H;exact absurd H (by simp)
  ·
   replace c6:=Bool.eq_false_iff.mpr c6;subst c6;have H1:(some (([]:List Int),0,false))=some (r1,r2,r3):=by rw[if_neg (show ¬ (false=true) by decide)] at H;exact H
   clear H;have H:=H1;clear H1;simp only[Option.some.injEq,Prod.mk.injEq] at H;obtain ⟨rfl,rfl,rfl⟩:=H;go_enter Try.func74,Try.ntmps74;go_wp2_with (first|((with_reducible refine gate_dst (N:=2) rfl ?_);(try (refine gate_guard (by rfl) ?_;dsimp only));refine box_event ?hg (N:=2) ?hd (cs:=#[.slice A0_0 l0_0.length c0_0, .int .i64 a0_1]) (t:=28) ?hr ?_;(case hd=>rfl);(case hg=>rfl);(case hr=>first|(go_simp;done)|(go_simp;rfl));intro gb235 hg w36 hbox hb;have n0_:=am' (below_step (by repeat (first|(with_reducible first|exact HB.out|apply ba'|apply bd'|apply be')|exact HB.out)) hb);have n1_:=am' (hbox);have n2_:=am' ((by rw[hg];exact (below_size (by repeat (first|(with_reducible first|exact HB.out|apply ba'|apply bd'|apply be')|exact HB.out))):w.heap.size≤gb235));have n3_:=am' ((by rw[hg];exact (below_size (by repeat (first|(with_reducible first|exact HB.out|apply ba'|apply bd'|apply be')|exact HB.out))):w.heap.size≤gb235));clear HB;have HB:=n0_;have BK235:=n1_;have GW235:=n2_;have GE235:=n3_;clear n0_ n1_ n2_ n3_;clear hb hbox hg)|((with_reducible refine gate_dst (N:=4) rfl ?_);(try (refine gate_guard (by rfl) ?_;dsimp only));refine box_event ?hg (N:=4) ?hd (cs:=#[.slice none 0 0, .int .i64 0]) (t:=28) ?hr ?_;(case hd=>rfl);(case hg=>rfl);(case hr=>first|(go_simp;done)|(go_simp;rfl));intro gb236 hg w37 hbox hb;have n0_:=am' (blk_below (g:=gb235) (o := .cells #[.slice A0_0 l0_0.length c0_0, .int .i64 a0_1] 28 (0,0)) (by (with_reducible repeat (first|refine kn' ?_ _|refine kd' ?_|refine ka' ?_ _));exact BK235.out) hb);have n1_:=am' (below_step (by repeat (first|(with_reducible first|exact HB.out|apply ba'|apply bd'|apply be'|refine bs' ?_ GE235.out)|exact HB.out)) hb);have n2_:=am' (hbox);have n3_:=am' ((by rw[hg];exact (below_size (by repeat (first|(with_reducible first|exact HB.out|apply ba'|apply bd'|apply be'|refine bs' ?_ GE235.out)|exact HB.out))):w.heap.size≤gb236));have n4_:=am' ((by rw[hg];exact (below_size (by repeat (first|(with_reducible first|exact HB.out|apply ba'|apply bd'|apply be'|refine bs' ?_ GE235.out)|exact HB.out))):w.heap.size≤gb236));have n5_:=am' ((by rw[hg];exact Nat.ne_of_lt (blk_lt (g:=gb235) (o := .cells #[.slice A0_0 l0_0.length c0_0, .int .i64 a0_1] 28 (0,0)) (by (with_reducible repeat (first|refine kn' ?_ _|refine kd' ?_|refine ka' ?_ _));exact BK235.out)):gb235≠gb236));have n6_:=am' ((by rw[hg];exact Nat.ne_of_gt (blk_lt (g:=gb235) (o := .cells #[.slice A0_0 l0_0.length c0_0, .int .i64 a0_1] 28 (0,0)) (by (with_reducible repeat (first|refine kn' ?_ _|refine kd' ?_|refine ka' ?_ _));exact BK235.out)):gb236≠gb235));clear BK235;clear HB;have BK235:=n0_;have HB:=n1_;have BK236:=n2_;have GW236:=n3_;have GE236:=n4_;have NB235_236:=n5_;have NB236_235:=n6_;clear n0_ n1_ n2_ n3_ n4_ n5_ n6_;clear hb hbox hg;have hnb38:=NB235_236.out;have hnc38:=NB236_235.out;have hcz39_0:w37.cell? ⟨gb235,0,none⟩=some (.slice A0_0 l0_0.length c0_0):=(blk_cell BK235.out 0).trans rfl;have hcz39_1:w37.cell? ⟨gb235,1,none⟩=some (.int .i64 a0_1):=(blk_cell BK235.out 1).trans rfl;have hfz39_0:=blk_frozen BK235.out 0;have hfz39_1:=blk_frozen BK235.out 1)|((with_reducible refine gate_callee (f:=59) rfl ?_);refine goesL_ (some 7) rfl rfl Try.func59 (by kernel_rfl) rfl #[.agg #[.slice A0_0 l0_0.length c0_0, .int .i64 a0_1]] rfl (by (try simp only[List.map_toArray,List.map_cons,List.map_nil]);first|done|rfl|(simp only[List.length_drop,List.length_take];rfl)) ?_;(with_reducible refine (spec_paGood.calls k _ _ l0_0 a0_1 true _ ?side1 ?side2 A3.out).mono ?_);(case side1=>repeat (first|exact (Kd.C_below HR0_0.out HB.out)|(with_reducible refine ca' ?_ _)|(with_reducible refine cn' ?_ _)|(with_reducible refine cd' ?_)));(case side2=>exact HC0_0.out);rintro e w40 ⟨rfl,hb⟩;refine ⟨_,rfl,?_⟩;have n0_:=am' (blk_below (g:=gb235) (o := .cells #[.slice A0_0 l0_0.length c0_0, .int .i64 a0_1] 28 (0,0)) (by (with_reducible repeat (first|refine kn' ?_ _|refine kd' ?_|refine ka' ?_ _));exact BK235.out) hb);have n1_:=am' (blk_below (g:=gb236) (o := .cells #[.slice none 0 0, .int .i64 0] 28 (0,0)) (by (with_reducible repeat (first|refine kn' ?_ _|refine kd' ?_|refine ka' ?_ _));exact BK236.out) hb);have n2_:=am' (below_step (by repeat (first|(with_reducible first|exact HB.out|apply ba'|apply bd'|apply be'|refine bs' ?_ GE235.out|refine bs' ?_ GE236.out)|exact HB.out)) hb);clear BK235;clear BK236;clear HB;have BK235:=n0_;have BK236:=n1_;have HB:=n2_;clear n0_ n1_ n2_;(try clear hb);(try clear hb2);(try clear hk);(try clear hi);have hcz41_0:w40.cell? ⟨gb235,0,none⟩=some (.slice A0_0 l0_0.length c0_0):=(blk_cell BK235.out 0).trans rfl;have hcz41_1:w40.cell? ⟨gb235,1,none⟩=some (.int .i64 a0_1):=(blk_cell BK235.out 1).trans rfl;have hfz41_0:=blk_frozen BK235.out 0;have hfz41_1:=blk_frozen BK235.out 1)|(go_at_call 60;(with_reducible refine (spec_l1In.calls a1 0 (wrap64 ((l0_0.length:Int) - 1)) false _ A5.out).mono ?_);rintro e w' ⟨rfl,⟨nd,rfl⟩⟩;(try (rw[drewN_self w40];generalize hq_:World.drewN w40 _=w40;have n0_:Aside0 (w40.heap[gb235]? = some (.cells #[.slice A0_0 l0_0.length c0_0, .int .i64 a0_1] 28 (0,0))):=⟨by rw[← hq_];exact (by (with_reducible repeat (first|refine kn' ?_ _|refine kd' ?_|refine ka' ?_ _));exact BK235.out)⟩;have n1_:Aside0 (w40.heap[gb236]? = some (.cells #[.slice none 0 0, .int .i64 0] 28 (0,0))):=⟨by rw[← hq_];exact (by (with_reducible repeat (first|refine kn' ?_ _|refine kd' ?_|refine ka' ?_ _));exact BK236.out)⟩;have n2_:Aside0 (Below w.heap.size w w40):=⟨by rw[← hq_];exact (by repeat (first|(with_reducible first|exact HB.out|apply ba'|apply bd'|apply be'|refine bs' ?_ GE235.out|refine bs' ?_ GE236.out)|exact HB.out))⟩;clear BK235 BK236 HB hq_;have BK235:=n0_;have BK236:=n1_;have HB:=n2_;clear n0_ n1_ n2_));(try (have hcu235_0:w40.cell? ⟨gb235,0,none⟩=some (.slice A0_0 l0_0.length c0_0):=(blk_cell BK235.out 0).trans rfl));(try (have hcu235_1:w40.cell? ⟨gb235,1,none⟩=some (.int .i64 a0_1):=(blk_cell BK235.out 1).trans rfl));(try (have hcu236_0:w40.cell? ⟨gb236,0,none⟩=some (.slice none 0 0):=(blk_cell BK236.out 0).trans rfl));(try (have hcu236_1:w40.cell? ⟨gb236,1,none⟩=some (.int .i64 0):=(blk_cell BK236.out 1).trans rfl));have hcz42_0:w40.cell? ⟨gb236,0,none⟩=some (.slice none 0 0):=(blk_cell BK236.out 0).trans rfl;have hcz42_1:w40.cell? ⟨gb236,1,none⟩=some (.int .i64 0):=(blk_cell BK236.out 1).trans rfl;have hfz42_0:=blk_frozen BK236.out 0;have hfz42_1:=blk_frozen BK236.out 1))
   refine bodyPost_ret (results_ct rfl _ _ gb236 28 #[.slice none 0 0, .int .i64 0] (0,0) _ rfl (by (with_reducible repeat (first|refine kn' ?_ _|refine kd' ?_|refine ka' ?_ _));refine blk_put (cs:=#[.slice none 0 0, .int .i64 0]) ?_ 1 _ rfl;(with_reducible repeat (first|refine kn' ?_ _|refine kd' ?_|refine ka' ?_ _));refine blk_put (cs:=#[.slice none 0 0, .int .i64 0]) ?_ 0 _ rfl;(with_reducible repeat (first|refine kn' ?_ _|refine kd' ?_|refine ka' ?_ _));exact BK236.out) Try.underlying28 rfl (by kernel_rfl)) rfl ?_
   exact ⟨_,by first|rfl|(simp[errW_none,errW_some] <;> rfl)|(simp[*,errW_none,errW_some] <;> rfl),by first|exact Kd.R_nil _ _ _ _ _|exact Kd.N_nil _ _ _ _ _|exact Kd.V_nil _ _ _ _ _|exact Kd.Q_nil _ _ _ _ _|exact Kd.S_nil _ _ _ _ _,by repeat (first|(with_reducible first|exact HB.out|apply ba'|apply bd'|apply be'|refine bs' ?_ GE235.out|refine bs' ?_ GE236.out)|exact HB.out)⟩
 ·
  replace c4:=Bool.eq_false_iff.mpr c4;subst c4;have H1:(some (([]:List Int),0,false))=some (r1,r2,r3):=by rw[if_neg (show ¬ (false=true) by decide)] at H;exact H
  clear H;have H:=H1;clear H1;simp only[Option.some.injEq,Prod.mk.injEq] at H;obtain ⟨rfl,rfl,rfl⟩:=H;go_enter Try.func74,Try.ntmps74;go_wp2_with (first|((with_reducible refine gate_dst (N:=2) rfl ?_);(try (refine gate_guard (by rfl) ?_;dsimp only));refine box_event ?hg (N:=2) ?hd (cs:=#[.slice A0_0 l0_0.length c0_0, .int .i64 a0_1]) (t:=28) ?hr ?_;(case hd=>rfl);(case hg=>rfl);(case hr=>first|(go_simp;done)|(go_simp;rfl));intro gb235 hg w43 hbox hb;have n0_:=am' (below_step (by repeat (first|(with_reducible first|exact HB.out|apply ba'|apply bd'|apply be')|exact HB.out)) hb);have n1_:=am' (hbox);have n2_:=am' ((by rw[hg];exact (below_size (by repeat (first|(with_reducible first|exact HB.out|apply ba'|apply bd'|apply be')|exact HB.out))):w.heap.size≤gb235));have n3_:=am' ((by rw[hg];exact (below_size (by repeat (first|(with_reducible first|exact HB.out|apply ba'|apply bd'|apply be')|exact HB.out))):w.heap.size≤gb235));clear HB;have HB:=n0_;have BK235:=n1_;have GW235:=n2_;have GE235:=n3_;clear n0_ n1_ n2_ n3_;clear hb hbox hg)|((with_reducible refine gate_dst (N:=4) rfl ?_);(try (refine gate_guard (by rfl) ?_;dsimp only));refine box_event ?hg (N:=4) ?hd (cs:=#[.slice none 0 0, .int .i64 0]) (t:=28) ?hr ?_;(case hd=>rfl);(case hg=>rfl);(case hr=>first|(go_simp;done)|(go_simp;rfl));intro gb236 hg w44 hbox hb;have n0_:=am' (blk_below (g:=gb235) (o := .cells #[.slice A0_0 l0_0.length c0_0, .int .i64 a0_1] 28 (0,0)) (by (with_reducible repeat (first|refine kn' ?_ _|refine kd' ?_|refine ka' ?_ _));exact BK235.out) hb);have n1_:=am' (below_step (by repeat (first|(with_reducible first|exact HB.out|apply ba'|apply bd'|apply be'|refine bs' ?_ GE235.out)|exact HB.out)) hb);have n2_:=am' (hbox);have n3_:=am' ((by rw[hg];exact (below_size (by repeat (first|(with_reducible first|exact HB.out|apply ba'|apply bd'|apply be'|refine bs' ?_ GE235.out)|exact HB.out))):w.heap.size≤gb236));have n4_:=am' ((by rw[hg];exact (below_size (by repeat (first|(with_reducible first|exact HB.out|apply ba'|apply bd'|apply be'|refine bs' ?_ GE235.out)|exact HB.out))):w.heap.size≤gb236));have n5_:=am' ((by rw[hg];exact Nat.ne_of_lt (blk_lt (g:=gb235) (o := .cells #[.slice A0_0 l0_0.length c0_0, .int .i64 a0_1] 28 (0,0)) (by (with_reducible repeat (first|refine kn' ?_ _|refine kd' ?_|refine ka' ?_ _));exact BK235.out)):gb235≠gb236));have n6_:=am' ((by rw[hg];exact Nat.ne_of_gt (blk_lt (g:=gb235) (o := .cells #[.slice A0_0 l0_0.length c0_0, .int .i64 a0_1] 28 (0,0)) (by (with_reducible repeat (first|refine kn' ?_ _|refine kd' ?_|refine ka' ?_ _));exact BK235.out)):gb236≠gb235));clear BK235;clear HB;have BK235:=n0_;have HB:=n1_;have BK236:=n2_;have GW236:=n3_;have GE236:=n4_;have NB235_236:=n5_;have NB236_235:=n6_;clear n0_ n1_ n2_ n3_ n4_ n5_ n6_;clear hb hbox hg;have hnb45:=NB235_236.out;have hnc45:=NB236_235.out;have hcz46_0:w44.cell? ⟨gb235,0,none⟩=some (.slice A0_0 l0_0.length c0_0):=(blk_cell BK235.out 0).trans rfl;have hcz46_1:w44.cell? ⟨gb235,1,none⟩=some (.int .i64 a0_1):=(blk_cell BK235.out 1).trans rfl;have hfz46_0:=blk_frozen BK235.out 0;have hfz46_1:=blk_frozen BK235.out 1)|((with_reducible refine gate_callee (f:=59) rfl ?_);refine goesL_ (some 7) rfl rfl Try.func59 (by kernel_rfl) rfl #[.agg #[.slice A0_0 l0_0.length c0_0, .int .i64 a0_1]] rfl (by (try simp only[List.map_toArray,List.map_cons,List.map_nil]);first|done|rfl|(simp only[List.length_drop,List.length_take];rfl)) ?_;(with_reducible refine (spec_paGood.calls k _ _ l0_0 a0_1 false _ ?side1 ?side2 A3.out).mono ?_);(case side1=>repeat (first|exact (Kd.C_below HR0_0.out HB.out)|(with_reducible refine ca' ?_ _)|(with_reducible refine cn' ?_ _)|(with_reducible refine cd' ?_)));(case side2=>exact HC0_0.out);rintro e w47 ⟨rfl,hb⟩;refine ⟨_,rfl,?_⟩;have n0_:=am' (blk_below (g:=gb235) (o := .cells #[.slice A0_0 l0_0.length c0_0, .int .i64 a0_1] 28 (0,0)) (by (with_reducible repeat (first|refine kn' ?_ _|refine kd' ?_|refine ka' ?_ _));exact BK235.out) hb);have n1_:=am' (blk_below (g:=gb236) (o := .cells #[.slice none 0 0, .int .i64 0] 28 (0,0)) (by (with_reducible repeat (first|refine kn' ?_ _|refine kd' ?_|refine ka' ?_ _));exact BK236.out) hb);have n2_:=am' (below_step (by repeat (first|(with_reducible first|exact HB.out|apply ba'|apply bd'|apply be'|refine bs' ?_ GE235.out|refine bs' ?_ GE236.out)|exact HB.out)) hb);clear BK235;clear BK236;clear HB;have BK235:=n0_;have BK236:=n1_;have HB:=n2_;clear n0_ n1_ n2_;(try clear hb);(try clear hb2);(try clear hk);(try clear hi);have hcz48_0:w47.cell? ⟨gb236,0,none⟩=some (.slice none 0 0):=(blk_cell BK236.out 0).trans rfl;have hcz48_1:w47.cell? ⟨gb236,1,none⟩=some (.int .i64 0):=(blk_cell BK236.out 1).trans rfl;have hfz48_0:=blk_frozen BK236.out 0;have hfz48_1:=blk_frozen BK236.out 1))
  refine bodyPost_ret (results_ct rfl _ _ gb236 28 #[.slice none 0 0, .int .i64 0] (0,0) _ rfl (by (with_reducible repeat (first|refine kn' ?_ _|refine kd' ?_|refine ka' ?_ _));refine blk_put (cs:=#[.slice none 0 0, .int .i64 0]) ?_ 1 _ rfl;(with_reducible repeat (first|refine kn' ?_ _|refine kd' ?_|refine ka' ?_ _));refine blk_put (cs:=#[.slice none 0 0, .int .i64 0]) ?_ 0 _ rfl;(with_reducible repeat (first|refine kn' ?_ _|refine kd' ?_|refine ka' ?_ _));exact BK236.out) Try.underlying28 rfl (by kernel_rfl)) rfl ?_
  exact ⟨_,by first|rfl|(simp[errW_none,errW_some] <;> rfl)|(simp[*,errW_none,errW_some] <;> rfl),by first|exact Kd.R_nil _ _ _ _ _|exact Kd.N_nil _ _ _ _ _|exact Kd.V_nil _ _ _ _ _|exact Kd.Q_nil _ _ _ _ _|exact Kd.S_nil _ _ _ _ _,by repeat (first|(with_reducible first|exact HB.out|apply ba'|apply bd'|apply be'|refine bs' ?_ GE235.out|refine bs' ?_ GE236.out)|exact HB.out)⟩
def spec_CostOf.j0:Nat→Bool→List Int→Int→List Int→Int→Option (Int × Bool)
 | 0,_,_,_,_,_=>none
 | k+1,x25,x248000,x248001,x254000,x254001=>if x25=true then (some (0,false)) else ((spec_seLeast.f k x248000 x248001).bind fun t256=>((spec_seLeast.f k x254000 x254001).bind fun t257=>(some (wrap64 (t256 - t257),true))))
def spec_CostOf.f (k:Nat) (l0_0:List Int) (a0_1:Int) (a1:Int):Option (Int × Bool):=(spec_DropPerson.f k l0_0 a0_1 a1).bind fun bt248=>(if bt248.2.2=true then ((spec_seLeast.f k l0_0 a0_1).bind fun t254=>(if t254 < 0 then (spec_CostOf.j0 k true l0_0 a0_1 bt248.1 bt248.2.1) else ((spec_seLeast.f k bt248.1 bt248.2.1).bind fun t255=>(spec_CostOf.j0 k (decide (t255 < 0)) l0_0 a0_1 bt248.1 bt248.2.1)))) else (spec_CostOf.j0 k true l0_0 a0_1 bt248.1 bt248.2.1))
set_option maxHeartbeats 8000000 in
set_option maxRecDepth 100000 in
theorem spec_CostOf.calls (k:Nat) (A0_0:Option Addr) (c0_0:Nat) (l0_0:List Int) (a0_1:Int) (a1:Int) (r1:Int) (r2:Bool) (w:World) (hr0_0:Kd.C (Kd.int .i64) w A0_0 l0_0.length l0_0) (hc0_0:l0_0.length≤c0_0) (h:spec_CostOf.f k l0_0 a0_1 a1=some (r1,r2)) :
  Calls Try.prog 27 #[.agg #[.slice A0_0 l0_0.length c0_0, .int .i64 a0_1], .int .i64 a1] w fun e w'=>e = .returned (.tuple #[.int .i64 r1, .bool r2])∧Below w.heap.size w w':=by
 have hu28:=Try.underlying28
 have HR0_0:=am' hr0_0
 have HC0_0:=am' hc0_0
 clear hr0_0 hc0_0;have HB:=am' (Below.refl w.heap.size w)
 have H:((spec_DropPerson.f k l0_0 a0_1 a1).bind fun bt248=>(if bt248.2.2=true then ((spec_seLeast.f k l0_0 a0_1).bind fun t254=>(if t254 < 0 then (spec_CostOf.j0 k true l0_0 a0_1 bt248.1 bt248.2.1) else ((spec_seLeast.f k bt248.1 bt248.2.1).bind fun t255=>(spec_CostOf.j0 k (decide (t255 < 0)) l0_0 a0_1 bt248.1 bt248.2.1)))) else (spec_CostOf.j0 k true l0_0 a0_1 bt248.1 bt248.2.1)))=some (r1,r2):=h
 clear h;replace H:=Option.bind_eq_some_iff.mp H
 obtain ⟨⟨t248,t251,t252⟩,A30,H⟩:=H
 replace H:(if t252=true then ((spec_seLeast.f k l0_0 a0_1).bind fun t254=>(if t254 < 0 then (spec_CostOf.j0 k true l0_0 a0_1 t248 t251) else ((spec_seLeast.f k t248 t251).bind fun t255=>(spec_CostOf.j0 k (decide (t255 < 0)) l0_0 a0_1 t248 t251)))) else (spec_CostOf.j0 k true l0_0 a0_1 t248 t251))=some (r1,r2):=H
 have A3:=am' A30
 clear A30;have HC4:=am' H
 clear H;go_enter Try.func27,Try.ntmps27
 go_upto_region 2 with (first|((with_reducible refine gate_dst (N:=2) rfl ?_);refine box_event ?hg (N:=2) ?hd (cs:=#[.slice A0_0 l0_0.length c0_0, .int .i64 a0_1]) (t:=28) ?hr ?_;(case hd=>rfl);(case hg=>rfl);(case hr=>first|(go_simp;done)|(go_simp;rfl));intro gb247 hg w5 hbox hb;have n0_:=am' (below_step (by repeat (first|(with_reducible first|exact HB.out|apply ba'|apply bd'|apply be')|exact HB.out)) hb);have n1_:=am' (hbox);have n2_:=am' ((by rw[hg];exact (below_size (by repeat (first|(with_reducible first|exact HB.out|apply ba'|apply bd'|apply be')|exact HB.out))):w.heap.size≤gb247));have n3_:=am' ((by rw[hg];exact (below_size (by repeat (first|(with_reducible first|exact HB.out|apply ba'|apply bd'|apply be')|exact HB.out))):w.heap.size≤gb247));clear HB;have HB:=n0_;have BK247:=n1_;have GW247:=n2_;have GE247:=n3_;clear n0_ n1_ n2_ n3_;clear hb hbox hg;have hcz6_0:w5.cell? ⟨gb247,0,none⟩=some (.slice A0_0 l0_0.length c0_0):=(blk_cell BK247.out 0).trans rfl;have hcz6_1:w5.cell? ⟨gb247,1,none⟩=some (.int .i64 a0_1):=(blk_cell BK247.out 1).trans rfl;have hfz6_0:=blk_frozen BK247.out 0;have hfz6_1:=blk_frozen BK247.out 1)|((with_reducible refine gate_callee (f:=74) rfl ?_);refine goesL_ (some 11) rfl rfl Try.func74 (by kernel_rfl) rfl #[.agg #[.slice A0_0 l0_0.length c0_0, .int .i64 a0_1], .int .i64 a1] rfl (by (try simp only[List.map_toArray,List.map_cons,List.map_nil]);first|done|rfl|(simp only[List.length_drop,List.length_take];rfl)) ?_;(with_reducible refine (spec_DropPerson.calls k _ _ l0_0 a0_1 a1 t248 t251 t252 _ ?side1 ?side2 A3.out).mono ?_);(case side1=>repeat (first|exact (Kd.C_below HR0_0.out HB.out)|(with_reducible refine ca' ?_ _)|(with_reducible refine cn' ?_ _)|(with_reducible refine cd' ?_)));(case side2=>exact HC0_0.out);rintro e w7 ⟨v249,rfl,ho0,hb⟩;refine ⟨_,rfl,?_⟩;have n0_:=am' (Kd.R_lower ho0 (below_size (by repeat (first|(with_reducible first|exact HB.out|apply ba'|apply bd'|apply be'|refine bs' ?_ GE247.out)|exact HB.out))));have n1_:=am' (blk_below (g:=gb247) (o := .cells #[.slice A0_0 l0_0.length c0_0, .int .i64 a0_1] 28 (0,0)) (by (with_reducible repeat (first|refine kn' ?_ _|refine kd' ?_|refine ka' ?_ _));exact BK247.out) hb);have n2_:=am' (below_step (by repeat (first|(with_reducible first|exact HB.out|apply ba'|apply bd'|apply be'|refine bs' ?_ GE247.out)|exact HB.out)) hb);clear BK247;clear HB;have HO250:=n0_;have BK247:=n1_;have HB:=n2_;clear n0_ n1_ n2_;(try clear hb);(try clear hb2);(try clear hk);(try clear hi);(try clear ho0))|((with_reducible refine gate_dst (N:=6) rfl ?_);refine box_event ?hg (N:=6) ?hd (cs:=#[.slice none 0 0, .int .i64 0]) (t:=28) ?hr ?_;(case hd=>rfl);(case hg=>rfl);(case hr=>first|(go_simp;done)|(go_simp;rfl));intro gb253 hg w8 hbox hb;have n0_:=am' (Kd.R_below (by (with_reducible repeat (first|apply ra'|apply rn'|apply rw'));exact HO250.out) hb);have n1_:=am' (blk_below (g:=gb247) (o := .cells #[.slice A0_0 l0_0.length c0_0, .int .i64 a0_1] 28 (0,0)) (by (with_reducible repeat (first|refine kn' ?_ _|refine kd' ?_|refine ka' ?_ _));exact BK247.out) hb);have n2_:=am' (below_step (by repeat (first|(with_reducible first|exact HB.out|apply ba'|apply bd'|apply be'|refine bs' ?_ GE247.out)|exact HB.out)) hb);have n3_:=am' (hbox);have n4_:=am' ((by rw[hg];exact (below_size (by repeat (first|(with_reducible first|exact HB.out|apply ba'|apply bd'|apply be'|refine bs' ?_ GE247.out)|exact HB.out))):w.heap.size≤gb253));have n5_:=am' ((by rw[hg];exact (below_size (by repeat (first|(with_reducible first|exact HB.out|apply ba'|apply bd'|apply be'|refine bs' ?_ GE247.out)|exact HB.out))):w.heap.size≤gb253));have n6_:=am' ((by rw[hg];exact Nat.ne_of_lt (blk_lt (g:=gb247) (o := .cells #[.slice A0_0 l0_0.length c0_0, .int .i64 a0_1] 28 (0,0)) (by (with_reducible repeat (first|refine kn' ?_ _|refine kd' ?_|refine ka' ?_ _));exact BK247.out)):gb247≠gb253));have n7_:=am' ((by rw[hg];exact Nat.ne_of_gt (blk_lt (g:=gb247) (o := .cells #[.slice A0_0 l0_0.length c0_0, .int .i64 a0_1] 28 (0,0)) (by (with_reducible repeat (first|refine kn' ?_ _|refine kd' ?_|refine ka' ?_ _));exact BK247.out)):gb253≠gb247));clear HO250;clear BK247;clear HB;have HO250:=n0_;have BK247:=n1_;have HB:=n2_;have BK253:=n3_;have GW253:=n4_;have GE253:=n5_;have NB247_253:=n6_;have NB253_247:=n7_;clear n0_ n1_ n2_ n3_ n4_ n5_ n6_ n7_;clear hb hbox hg;obtain ⟨Ao9,co9,eo9⟩:=Kd.R_slice HO250.out;subst eo9;have hnb10:=NB253_247.out;have hnc10:=NB247_253.out;have hcz11_0:w8.cell? ⟨gb253,0,none⟩=some (.slice none 0 0):=(blk_cell BK253.out 0).trans rfl;have hcz11_1:w8.cell? ⟨gb253,1,none⟩=some (.int .i64 0):=(blk_cell BK253.out 1).trans rfl;have hfz11_0:=blk_frozen BK253.out 0;have hfz11_1:=blk_frozen BK253.out 1))
 (try simp only[Act.put,sa',sb',sc'])
 go_cut [25] (fun v25 wc=>∃ (kq:Nat) (x25_3:Bool),v25 = .bool x25_3∧Aside0 (spec_CostOf.j0 kq x25_3 l0_0 a0_1 t248 t251=some (r1,r2))∧Aside0 (kq≤k)∧Aside0 (Kd.R (Kd.int .i64) 3 wc w.heap.size (fun _=>True) (.slice Ao9 t248.length co9) t248)∧Aside0 (wc.heap[gb247]? = some (.cells #[(.slice A0_0 l0_0.length c0_0), .int .i64 a0_1] 28 (0,0)))∧Aside0 (wc.heap[gb253]? = some (.cells #[(.slice Ao9 t248.length co9), .int .i64 t251] 28 (0,0)))∧Aside0 (Below w.heap.size w wc))
 case first =>
  have H:=HC4.out;clear HC4;by_cases c12:t252=true
  ·
   subst c12;have H1:((spec_seLeast.f k l0_0 a0_1).bind fun t254=>(if t254 < 0 then (spec_CostOf.j0 k true l0_0 a0_1 t248 t251) else ((spec_seLeast.f k t248 t251).bind fun t255=>(spec_CostOf.j0 k (decide (t255 < 0)) l0_0 a0_1 t248 t251))))=some (r1,r2):=by rw[if_pos rfl] at H;exact H
   clear H;have H:=H1;clear H1;replace H:=Option.bind_eq_some_iff.mp H;obtain ⟨t254,A130,H⟩:=H;replace H:(if t254 < 0 then (spec_CostOf.j0 k true l0_0 a0_1 t248 t251) else ((spec_seLeast.f k t248 t251).bind fun t255=>(spec_CostOf.j0 k (decide (t255 < 0)) l0_0 a0_1 t248 t251)))=some (r1,r2):=H;have A13:=am' A130;clear A130;by_cases c14:t254 < 0
   ·
    rw[if_pos c14] at H;have c14b0:decide (t254 < 0)=true:=decide_eq_true c14;clear c14;(first|rw[c14b0]|(simp only[i64_w,i32_w];rw[c14b0])|skip)
    have H':=am' H;clear H;have hnb15:=NB247_253.out;have hnc15:=NB253_247.out;have hcz16_0:w8.cell? ⟨gb247,0,none⟩=some (.slice A0_0 l0_0.length c0_0):=(blk_cell BK247.out 0).trans rfl;have hcz16_1:w8.cell? ⟨gb247,1,none⟩=some (.int .i64 a0_1):=(blk_cell BK247.out 1).trans rfl;have hfz16_0:=blk_frozen BK247.out 0;have hfz16_1:=blk_frozen BK247.out 1;go_wp2_with (first|(go_at_call 69;(with_reducible refine (spec_seLeast.calls k _ _ l0_0 a0_1 t254 _ ?side1 ?side2 A13.out).mono ?_);(case side1=>exact Kd.C_below HR0_0.out (by repeat (first|(with_reducible first|exact HB.out|apply ba'|apply bd'|apply be'|refine bs' ?_ GE247.out|refine bs' ?_ GE253.out)|exact HB.out)));(case side2=>exact HC0_0.out);rintro e w17 ⟨rfl,hb⟩;have n0_:=am' (Kd.R_below (by (with_reducible repeat (first|apply ra'|apply rn'|apply rw'));exact (Kd.R_mono (Kd.R_far (p:=⟨gb253,1,none⟩) (Kd.R_far (p:=⟨gb253,0,none⟩) (Kd.R_types HO250.out BK253.out (by decide)) (fun _ hk=>hk.2) (.slice Ao9 t248.length co9)) (fun _ hk=>hk.2) (.int .i64 t251)) (fun _ h_=>h_.1))) hb);have n1_:=am' (blk_below (g:=gb247) (o := .cells #[.slice A0_0 l0_0.length c0_0, .int .i64 a0_1] 28 (0,0)) (by (with_reducible repeat (first|refine kn' ?_ _|refine kd' ?_|refine ka' ?_ _));refine blk_far ?_ NB247_253.out _;(with_reducible repeat (first|refine kn' ?_ _|refine kd' ?_|refine ka' ?_ _));refine blk_far ?_ NB247_253.out _;(with_reducible repeat (first|refine kn' ?_ _|refine kd' ?_|refine ka' ?_ _));exact BK247.out) hb);have n2_:=am' (blk_below (g:=gb253) (o := .cells #[.slice Ao9 t248.length co9, .int .i64 t251] 28 (0,0)) (by (with_reducible repeat (first|refine kn' ?_ _|refine kd' ?_|refine ka' ?_ _));refine blk_put (cs:=#[.slice Ao9 t248.length co9, .int .i64 0]) ?_ 1 _ rfl;(with_reducible repeat (first|refine kn' ?_ _|refine kd' ?_|refine ka' ?_ _));refine blk_put (cs:=#[.slice none 0 0, .int .i64 0]) ?_ 0 _ rfl;(with_reducible repeat (first|refine kn' ?_ _|refine kd' ?_|refine ka' ?_ _));exact BK253.out) hb);have n3_:=am' (below_step (by repeat (first|(with_reducible first|exact HB.out|apply ba'|apply bd'|apply be'|refine bs' ?_ GE247.out|refine bs' ?_ GE253.out)|exact HB.out)) hb);clear HO250;clear BK247;clear BK253;clear HB;have HO250:=n0_;have BK247:=n1_;have BK253:=n2_;have HB:=n3_;clear n0_ n1_ n2_ n3_;(try clear hb);(try clear hb2);(try clear hk);(try clear hi)));go_meet
    case rel=>exact ⟨_,(true),(by first|rfl|(simp;done)|(simp[*];done)),H',⟨by first|omega|exact Nat.le_refl _⟩,⟨by (with_reducible repeat (first|apply ra'|apply rn'|apply rw'));exact HO250.out⟩,⟨by (with_reducible repeat (first|refine kn' ?_ _|refine kd' ?_|refine ka' ?_ _));exact BK247.out⟩,⟨by (with_reducible repeat (first|refine kn' ?_ _|refine kd' ?_|refine ka' ?_ _));exact BK253.out⟩,⟨by repeat (first|(with_reducible first|exact HB.out|apply ba'|apply bd'|apply be'|refine bs' ?_ GE247.out|refine bs' ?_ GE253.out)|exact HB.out)⟩⟩
   ·
    rw[if_neg c14] at H;have c14b0:decide (t254 < 0)=false:=decide_eq_false c14;clear c14;(first|rw[c14b0]|(simp only[i64_w,i32_w];rw[c14b0])|skip)
    replace H:=Option.bind_eq_some_iff.mp H;obtain ⟨t255,A180,H⟩:=H;replace H:(spec_CostOf.j0 k (decide (t255 < 0)) l0_0 a0_1 t248 t251)=some (r1,r2):=H;have A18:=am' A180;clear A180;have H':=am' H;clear H;have hnb19:=NB247_253.out;have hnc19:=NB253_247.out;have hcz20_0:w8.cell? ⟨gb247,0,none⟩=some (.slice A0_0 l0_0.length c0_0):=(blk_cell BK247.out 0).trans rfl;have hcz20_1:w8.cell? ⟨gb247,1,none⟩=some (.int .i64 a0_1):=(blk_cell BK247.out 1).trans rfl;have hfz20_0:=blk_frozen BK247.out 0;have hfz20_1:=blk_frozen BK247.out 1;go_wp2_with (first|(go_at_call 69;(with_reducible refine (spec_seLeast.calls k _ _ l0_0 a0_1 t254 _ ?side1 ?side2 A13.out).mono ?_);(case side1=>exact Kd.C_below HR0_0.out (by repeat (first|(with_reducible first|exact HB.out|apply ba'|apply bd'|apply be'|refine bs' ?_ GE247.out|refine bs' ?_ GE253.out)|exact HB.out)));(case side2=>exact HC0_0.out);rintro e w21 ⟨rfl,hb⟩;have n0_:=am' (Kd.R_below (by (with_reducible repeat (first|apply ra'|apply rn'|apply rw'));exact (Kd.R_mono (Kd.R_far (p:=⟨gb253,1,none⟩) (Kd.R_far (p:=⟨gb253,0,none⟩) (Kd.R_types HO250.out BK253.out (by decide)) (fun _ hk=>hk.2) (.slice Ao9 t248.length co9)) (fun _ hk=>hk.2) (.int .i64 t251)) (fun _ h_=>h_.1))) hb);have n1_:=am' (blk_below (g:=gb247) (o := .cells #[.slice A0_0 l0_0.length c0_0, .int .i64 a0_1] 28 (0,0)) (by (with_reducible repeat (first|refine kn' ?_ _|refine kd' ?_|refine ka' ?_ _));refine blk_far ?_ NB247_253.out _;(with_reducible repeat (first|refine kn' ?_ _|refine kd' ?_|refine ka' ?_ _));refine blk_far ?_ NB247_253.out _;(with_reducible repeat (first|refine kn' ?_ _|refine kd' ?_|refine ka' ?_ _));exact BK247.out) hb);have n2_:=am' (blk_below (g:=gb253) (o := .cells #[.slice Ao9 t248.length co9, .int .i64 t251] 28 (0,0)) (by (with_reducible repeat (first|refine kn' ?_ _|refine kd' ?_|refine ka' ?_ _));refine blk_put (cs:=#[.slice Ao9 t248.length co9, .int .i64 0]) ?_ 1 _ rfl;(with_reducible repeat (first|refine kn' ?_ _|refine kd' ?_|refine ka' ?_ _));refine blk_put (cs:=#[.slice none 0 0, .int .i64 0]) ?_ 0 _ rfl;(with_reducible repeat (first|refine kn' ?_ _|refine kd' ?_|refine ka' ?_ _));exact BK253.out) hb);have n3_:=am' (below_step (by repeat (first|(with_reducible first|exact HB.out|apply ba'|apply bd'|apply be'|refine bs' ?_ GE247.out|refine bs' ?_ GE253.out)|exact HB.out)) hb);clear HO250;clear BK247;clear BK253;clear HB;have HO250:=n0_;have BK247:=n1_;have BK253:=n2_;have HB:=n3_;clear n0_ n1_ n2_ n3_;(try clear hb);(try clear hb2);(try clear hk);(try clear hi);have hcz22_0:w21.cell? ⟨gb253,0,none⟩=some (.slice Ao9 t248.length co9):=(blk_cell BK253.out 0).trans rfl;have hcz22_1:w21.cell? ⟨gb253,1,none⟩=some (.int .i64 t251):=(blk_cell BK253.out 1).trans rfl;have hfz22_0:=blk_frozen BK253.out 0;have hfz22_1:=blk_frozen BK253.out 1)|(go_at_call 69;(with_reducible refine (spec_seLeast.calls k _ _ t248 t251 t255 _ ?side1 ?side2 A18.out).mono ?_);(case side1=>repeat (first|exact (Kd.R_reads' HO250.out).2.2|(with_reducible refine ca' ?_ _)|(with_reducible refine cn' ?_ _)|(with_reducible refine cd' ?_)));(case side2=>exact (Kd.R_reads' HO250.out).2.1);rintro e w23 ⟨rfl,hb⟩;have n0_:=am' (Kd.R_below (by (with_reducible repeat (first|apply ra'|apply rn'|apply rw'));exact HO250.out) hb);have n1_:=am' (blk_below (g:=gb247) (o := .cells #[.slice A0_0 l0_0.length c0_0, .int .i64 a0_1] 28 (0,0)) (by (with_reducible repeat (first|refine kn' ?_ _|refine kd' ?_|refine ka' ?_ _));exact BK247.out) hb);have n2_:=am' (blk_below (g:=gb253) (o := .cells #[.slice Ao9 t248.length co9, .int .i64 t251] 28 (0,0)) (by (with_reducible repeat (first|refine kn' ?_ _|refine kd' ?_|refine ka' ?_ _));exact BK253.out) hb);have n3_:=am' (below_step (by repeat (first|(with_reducible first|exact HB.out|apply ba'|apply bd'|apply be'|refine bs' ?_ GE247.out|refine bs' ?_ GE253.out)|exact HB.out)) hb);clear HO250;clear BK247;clear BK253;clear HB;have HO250:=n0_;have BK247:=n1_;have BK253:=n2_;have HB:=n3_;clear n0_ n1_ n2_ n3_;(try clear hb);(try clear hb2);(try clear hk);(try clear hi)))
    go_meet
    case rel=>exact ⟨_,(decide (t255 < 0)),(by first|rfl|(simp;done)|(simp[*];done)),H',⟨by first|omega|exact Nat.le_refl _⟩,⟨by (with_reducible repeat (first|apply ra'|apply rn'|apply rw'));exact HO250.out⟩,⟨by (with_reducible repeat (first|refine kn' ?_ _|refine kd' ?_|refine ka' ?_ _));exact BK247.out⟩,⟨by (with_reducible repeat (first|refine kn' ?_ _|refine kd' ?_|refine ka' ?_ _));exact BK253.out⟩,⟨by repeat (first|(with_reducible first|exact HB.out|apply ba'|apply bd'|apply be'|refine bs' ?_ GE247.out|refine bs' ?_ GE253.out)|exact HB.out)⟩⟩
  ·
   replace c12:=Bool.eq_false_iff.mpr c12;subst c12;have H1:(spec_CostOf.j0 k true l0_0 a0_1 t248 t251)=some (r1,r2):=by rw[if_neg (show ¬ (false=true) by decide)] at H;exact H
   clear H;have H:=H1;clear H1;have H':=am' H;clear H;go_wp2;go_meet
   case rel=>exact ⟨_,(true),(by first|rfl|(simp;done)|(simp[*];done)),H',⟨by first|omega|exact Nat.le_refl _⟩,⟨by (with_reducible repeat (first|apply ra'|apply rn'|apply rw'));exact Kd.R_mono (Kd.R_far (p:=⟨gb253,1,none⟩) (Kd.R_far (p:=⟨gb253,0,none⟩) (Kd.R_types HO250.out BK253.out (by decide)) (fun _ hk=>hk.2) (.slice Ao9 t248.length co9)) (fun _ hk=>hk.2) (.int .i64 t251)) (fun _ hk=>trivial)⟩,⟨by (with_reducible repeat (first|refine kn' ?_ _|refine kd' ?_|refine ka' ?_ _));refine blk_far ?_ NB247_253.out _;(with_reducible repeat (first|refine kn' ?_ _|refine kd' ?_|refine ka' ?_ _));refine blk_far ?_ NB247_253.out _;(with_reducible repeat (first|refine kn' ?_ _|refine kd' ?_|refine ka' ?_ _));exact BK247.out⟩,⟨by (with_reducible repeat (first|refine kn' ?_ _|refine kd' ?_|refine ka' ?_ _));refine blk_put (cs:=#[.slice Ao9 t248.length co9, .int .i64 0]) ?_ 1 _ rfl;(with_reducible repeat (first|refine kn' ?_ _|refine kd' ?_|refine ka' ?_ _));refine blk_put (cs:=#[.slice none 0 0, .int .i64 0]) ?_ 0 _ rfl;(with_reducible repeat (first|refine kn' ?_ _|refine kd' ?_|refine ka' ?_ _));exact BK253.out⟩,⟨by repeat (first|(with_reducible first|exact HB.out|apply ba'|apply bd'|apply be'|refine bs' ?_ GE247.out|refine bs' ?_ GE253.out)|exact HB.out)⟩⟩
 case rest =>
  clear HC4;try clear c1
  try clear c2
  try clear p2
  try clear c7
  try clear c10
  try clear c12
  try clear c14
  try clear c14b0
  try clear c15
  try clear c19
  try clear hcz11_0
  try clear hcz11_1
  try clear hcz16_0
  try clear hcz16_1
  try clear hcz20_0
  try clear hcz20_1
  try clear hcz22_0
  try clear hcz22_1
  try clear hcz6_0
  try clear hcz6_1
  try clear hfz11_0
  try clear hfz11_1
  try clear hfz16_0
  try clear hfz16_1
  try clear hfz20_0
  try clear hfz20_1
  try clear hfz22_0
  try clear hfz22_1
  try clear hfz6_0
  try clear hfz6_1
  obtain ⟨kq,x25_3,rfl,HA,HJ3,HO_254000,BK247,BK253,HB⟩:=hcut;cases kq with
  | zero=>exact absurd HA.out (by simp[spec_CostOf.j0])
  | succ kj3 =>
   have H:=HA.out;clear HA;simp only[spec_CostOf.j0] at H;by_cases c24:x25_3=true
   ·
    subst c24;have H1:(some (0,false))=some (r1,r2):=by rw[if_pos rfl] at H;exact H
    clear H;have H:=H1;clear H1;simp only[Option.some.injEq,Prod.mk.injEq] at H;obtain ⟨rfl,rfl⟩:=H;go_wp2;go_ret2
    exact ⟨by first|rfl|(simp[errW_none,errW_some] <;> rfl)|(simp[*,errW_none,errW_some] <;> rfl),by repeat (first|(with_reducible first|exact HB.out|apply ba'|apply bd'|apply be'|refine bs' ?_ GE247.out|refine bs' ?_ GE253.out)|exact HB.out)⟩
   ·
    replace c24:=Bool.eq_false_iff.mpr c24;subst c24;have H1:((spec_seLeast.f kj3 l0_0 a0_1).bind fun t256=>((spec_seLeast.f kj3 t248 t251).bind fun t257=>(some (wrap64 (t256 - t257),true))))=some (r1,r2):=by rw[if_neg (show ¬ (false=true) by decide)] at H;exact H
    clear H;have H:=H1;clear H1;replace H:=Option.bind_eq_some_iff.mp H;obtain ⟨t256,A250,H⟩:=H;replace H:((spec_seLeast.f kj3 t248 t251).bind fun t257=>(some (wrap64 (t256 - t257),true)))=some (r1,r2):=H;have A25:=am' A250;clear A250;replace H:=Option.bind_eq_some_iff.mp H;obtain ⟨t257,A260,H⟩:=H;replace H:(some (wrap64 (t256 - t257),true))=some (r1,r2):=H;have A26:=am' A260;clear A260;simp only[Option.some.injEq,Prod.mk.injEq] at H;obtain ⟨rfl,rfl⟩:=H
    try go_wp2
    have n0_:=am' (rw' HO_254000.out);have n1_:=am' (kd' BK247.out);have n2_:=am' (kd' BK253.out);have n3_:=am' (be' HB.out);clear HO_254000;clear BK247;clear BK253;clear HB;have HO_254000:=n0_;have BK247:=n1_;have BK253:=n2_;have HB:=n3_;clear n0_ n1_ n2_ n3_;refine start_ (n:=7) (S:=fun w'=>w'.cell? ⟨gb247,0,none⟩=some (.slice A0_0 l0_0.length c0_0)∧w'.cell? ⟨gb247,1,none⟩=some (.int .i64 a0_1)∧w'.cell? ⟨gb253,0,none⟩=some (.slice Ao9 t248.length co9)∧w'.cell? ⟨gb253,1,none⟩=some (.int .i64 t251)) (ds:=[]) #[false,false,false,false,false,false,false] (by kernel_rfl) rfl rfl ⟨(blk_cell BK247.out 0).trans rfl,(blk_cell BK247.out 1).trans rfl,(blk_cell BK253.out 0).trans rfl,(blk_cell BK253.out 1).trans rfl⟩ (fun hHeld=>?_);generalize wc.drew=w27 at HO_254000 BK247 BK253 HB hHeld ⊢
    refine take_ (i:=0) (N:=some 26) (v:=?_) (a':=?_) #[true,false,false,false,false,false,false] rfl rfl (by kernel_rfl) (fun _ _ _ h=>h) (Or.inl ⟨by rfl,?_⟩) hHeld ?_ ?_
    rotate_left
    ·
     rintro w' ⟨s0,s1,s2,s3⟩
     go_simp;with_reducible rfl
    rotate_left
    ·
     simp only[Act.put,sa',sb',sc',i64_w,i32_w];rfl
    refine take_ (i:=2) (N:=some 28) (v:=?_) (a':=?_) #[true,false,true,false,false,false,false] rfl rfl (by kernel_rfl) (fun _ _ _ h=>h) (Or.inl ⟨by rfl,?_⟩) hHeld ?_ ?_
    rotate_left
    ·
     rintro w' ⟨s0,s1,s2,s3⟩
     go_simp;with_reducible rfl
    rotate_left
    ·
     simp only[Act.put,sa',sb',sc',i64_w,i32_w];rfl
    refine one_ (i:=1) (N:=some 27) #[true,true,true,false,false,false,false] rfl rfl (by kernel_rfl) (by decide) (fun K hK=>?_);refine goes_ Try.func69 (by kernel_rfl) rfl #[.agg #[.slice A0_0 l0_0.length c0_0, .int .i64 a0_1]] (by rfl) rfl rfl (by (try simp only[List.map_toArray,List.map_cons,List.map_nil]);first|done|rfl|(simp only[List.length_drop,List.length_take];rfl)) ?_
    with_reducible refine (spec_seLeast.calls kj3 _ _ l0_0 a0_1 t256 _ ?side1 ?side2 A25.out).mono ?_
    (case side1=>repeat (first|exact (Kd.C_below HR0_0.out HB.out)|(with_reducible refine ca' ?_ _)|(with_reducible refine cn' ?_ _)|(with_reducible refine cd' ?_)))
    (case side2=>exact HC0_0.out)
    rintro e w28 ⟨rfl,hb⟩
    refine ⟨_,rfl,?_⟩;have n0_:=am' (Kd.R_below (by (with_reducible repeat (first|apply ra'|apply rn'|apply rw'));exact HO_254000.out) hb);have n1_:=am' (blk_below (g:=gb247) (o := .cells #[.slice A0_0 l0_0.length c0_0, .int .i64 a0_1] 28 (0,0)) (by (with_reducible repeat (first|refine kn' ?_ _|refine kd' ?_|refine ka' ?_ _));exact BK247.out) hb);have n2_:=am' (blk_below (g:=gb253) (o := .cells #[.slice Ao9 t248.length co9, .int .i64 t251] 28 (0,0)) (by (with_reducible repeat (first|refine kn' ?_ _|refine kd' ?_|refine ka' ?_ _));exact BK253.out) hb);have n3_:=am' (below_step (by repeat (first|(with_reducible first|exact HB.out|apply ba'|apply bd'|apply be'|refine bs' ?_ GE247.out|refine bs' ?_ GE253.out)|exact HB.out)) hb);clear HO_254000;clear BK247;clear BK253;clear HB;have HO_254000:=n0_;have BK247:=n1_;have BK253:=n2_;have HB:=n3_;clear n0_ n1_ n2_ n3_;(try clear hb)
    (try clear hb2)
    (try clear hk)
    (try clear hi)
    refine hK.out _ _ ⟨(blk_cell BK247.out 0).trans rfl,(blk_cell BK247.out 1).trans rfl,(blk_cell BK253.out 0).trans rfl,(blk_cell BK253.out 1).trans rfl⟩ (fun hHeld=>?_);clear hK K;refine norm_ (a':=?_) ?_ ?_
    rotate_left
    ·
     show Act.put _ (some 27) _=_
     simp only[Act.put,sa',sb',sc',i64_w,i32_w];rfl
    refine one_ (i:=3) (N:=some 29) #[true,true,true,true,false,false,false] rfl rfl (by kernel_rfl) (by decide) (fun K hK=>?_);refine goes_ Try.func69 (by kernel_rfl) rfl #[.agg #[.slice Ao9 t248.length co9, .int .i64 t251]] (by rfl) rfl rfl (by (try simp only[List.map_toArray,List.map_cons,List.map_nil]);first|done|rfl|(simp only[List.length_drop,List.length_take];rfl)) ?_
    with_reducible refine (spec_seLeast.calls kj3 _ _ t248 t251 t257 _ ?side1 ?side2 A26.out).mono ?_
    (case side1=>repeat (first|exact (Kd.R_reads' HO_254000.out).2.2|(with_reducible refine ca' ?_ _)|(with_reducible refine cn' ?_ _)|(with_reducible refine cd' ?_)))
    (case side2=>exact (Kd.R_reads' HO_254000.out).2.1)
    rintro e w29 ⟨rfl,hb⟩
    refine ⟨_,rfl,?_⟩;have n0_:=am' (Kd.R_below (by (with_reducible repeat (first|apply ra'|apply rn'|apply rw'));exact HO_254000.out) hb);have n1_:=am' (blk_below (g:=gb247) (o := .cells #[.slice A0_0 l0_0.length c0_0, .int .i64 a0_1] 28 (0,0)) (by (with_reducible repeat (first|refine kn' ?_ _|refine kd' ?_|refine ka' ?_ _));exact BK247.out) hb);have n2_:=am' (blk_below (g:=gb253) (o := .cells #[.slice Ao9 t248.length co9, .int .i64 t251] 28 (0,0)) (by (with_reducible repeat (first|refine kn' ?_ _|refine kd' ?_|refine ka' ?_ _));exact BK253.out) hb);have n3_:=am' (below_step (by repeat (first|(with_reducible first|exact HB.out|apply ba'|apply bd'|apply be'|refine bs' ?_ GE247.out|refine bs' ?_ GE253.out)|exact HB.out)) hb);clear HO_254000;clear BK247;clear BK253;clear HB;have HO_254000:=n0_;have BK247:=n1_;have BK253:=n2_;have HB:=n3_;clear n0_ n1_ n2_ n3_;(try clear hb)
    (try clear hb2)
    (try clear hk)
    (try clear hi)
    refine hK.out _ _ ⟨(blk_cell BK247.out 0).trans rfl,(blk_cell BK247.out 1).trans rfl,(blk_cell BK253.out 0).trans rfl,(blk_cell BK253.out 1).trans rfl⟩ (fun hHeld=>?_);clear hK K;refine norm_ (a':=?_) ?_ ?_
    rotate_left
    ·
     show Act.put _ (some 29) _=_
     simp only[Act.put,sa',sb',sc',i64_w,i32_w];rfl
    refine pure_ (i:=4) (N:=some 30) (v:=?_) (a':=?_) #[true,true,true,true,true,false,false] rfl rfl (by kernel_rfl) (fun _ _ _ h=>h) (Or.inl ⟨by rfl,?_⟩) ?_ ?_
    rotate_left
    ·
     intro w';go_simp;with_reducible rfl
    rotate_left
    ·
     simp only[Act.put,sa',sb',sc',i64_w,i32_w];rfl
    refine pure_ (i:=5) (N:=some 4) (v:=?_) (a':=?_) #[true,true,true,true,true,true,false] rfl rfl (by kernel_rfl) (fun _ _ _ h=>h) (Or.inl ⟨by rfl,?_⟩) ?_ ?_
    rotate_left
    ·
     intro w';go_simp;with_reducible rfl
    rotate_left
    ·
     simp only[Act.put,sa',sb',sc',i64_w,i32_w];rfl
    refine pure_ (i:=6) (N:=some 5) (v:=?_) (a':=?_) #[true,true,true,true,true,true,true] rfl rfl (by kernel_rfl) (fun _ _ _ h=>h) (Or.inl ⟨by rfl,?_⟩) ?_ ?_
    rotate_left
    ·
     intro w';go_simp;with_reducible rfl
    rotate_left
    ·
     simp only[Act.put,sa',sb',sc',i64_w,i32_w];rfl
    refine done_ (by kernel_rfl) ?_
    try go_wp2
    go_ret2
    exact ⟨by first|rfl|(simp[errW_none,errW_some] <;> rfl)|(simp[*,errW_none,errW_some] <;> rfl),by repeat (first|(with_reducible first|exact HB.out|apply ba'|apply bd'|apply be'|refine bs' ?_ GE247.out|refine bs' ?_ GE253.out)|exact HB.out)⟩
def impl_in.f (a0:Int) (a1:Int) (a2:Int):Option (Bool):=if a1≤a0 then (some (decide (a0≤a2))) else (some false)
set_option maxHeartbeats 8000000 in
set_option maxRecDepth 100000 in
theorem impl_in.calls (a0:Int) (a1:Int) (a2:Int) (r:Bool) (w:World) (h:impl_in.f a0 a1 a2=some r) :
  Calls Try.prog 65 #[.int .i64 a0, .int .i64 a1, .int .i64 a2] w fun e w'=>e = .returned (.bool r)∧Drawn0 w w':=by
 have H:(if a1≤a0 then (some (decide (a0≤a2))) else (some false))=some r:=h
 clear h;by_cases c4:a1≤a0
 ·
  rw[if_pos c4] at H;have c4b0:decide (a1≤a0)=true:=decide_eq_true c4;clear c4;obtain rfl:=Option.some.inj H;go_enter Try.func65,Try.ntmps65;go_wp2;go_ret
  exact ⟨by first|rfl|(simp;done)|(simp[*];done),by repeat (first|exact Drawn0.refl _|apply Drawn0.step)⟩
 ·
  rw[if_neg c4] at H;have c4b0:decide (a1≤a0)=false:=decide_eq_false c4;clear c4;obtain rfl:=Option.some.inj H;go_enter Try.func65,Try.ntmps65;go_wp2;go_ret
  exact ⟨by first|rfl|(simp;done)|(simp[*];done),by repeat (first|exact Drawn0.refl _|apply Drawn0.step)⟩
def PredOn (g:Nat) (lb:Array Value) (p:Int→Bool) (xs:List Int) (w:World):Prop :=
 ∀ x,x ∈ xs→∀ W:World,Below w.heap.size w W→Calls Try.prog g (#[.int .i64 x] ++ lb) W fun e w'=>e = .returned (.bool (p x))∧Below W.heap.size W w'
set_option maxHeartbeats 2000000 in
set_option maxRecDepth 100000 in
theorem IndexFunc_any (g:Nat) (lb:Array Value) (p:Int→Bool) (eg:∀ args w,(callFunc g args).run Try.prog w = .ok (.enter g args) w) (A0:Option Addr) (c0:Nat) (xs:List Int) (w:World) (hr:Kd.C (Kd.int .i64) w A0 xs.length xs) (hl:xs.length≤c0) (hbig:xs.length≤9223372036854775807)
  (hp:PredOn g lb p xs w) :
  Calls Try.prog 129 #[.slice A0 xs.length c0, .func (.func g) #[] lb] w fun e w'=>e = .returned (.int .i64 (idxF p xs))∧Below w.heap.size w w':=by
 have HP:=am' hp
 have HR:=am' hr
 clear hp hr;go_enter Try.func129,Try.ntmps129
 go_wp2
 go_loopg [5,8] xs.length (fun gg _ s8 wr=>∃ kk:Nat,kk≤xs.length∧xs.length - kk≤gg∧s8 = .int .i64 kk∧Aside0 (Below w.heap.size w wr)∧Aside0 (∀ j,j < kk→p (rd xs (j:Nat))=false))
 case atStart=>exact ⟨0,Nat.zero_le _,by omega,rfl,⟨Below.refl _ w⟩,⟨fun j hj=>absurd hj (Nat.not_lt_zero _)⟩⟩
 case round =>
  obtain ⟨kk,hkk,hg,rfl,BW,AA⟩:=hrel;by_cases hlt:kk < xs.length
  ·
   have hltz:(kk:Int) < (xs.length:Int):=by omega
   obtain ⟨ad,e0,hx0⟩:=Kd.at_int HR.out (kk:Int) (by omega) hltz;cases e0;have hx:=(BW.out.cell (bl' w _ hx0)).trans hx0;clear hx0;rw[Int.toNat_natCast] at hx;have hcall:=HP.out (rd xs kk) (rd_mem xs kk hlt) wr BW.out;generalize hy:rd xs kk=y at hx hcall
   have B:Aside0 (rd xs kk=y):=⟨hy⟩
   clear hy;cases hq:p y with
   | true =>
    rw[hq] at hcall;go_wp2_with fail;refine hcall.mono ?_
    rintro e w' ⟨rfl,hb'⟩
    clear hcall hx;go_wp2;go_ret
    refine ⟨?_,below_step BW.out hb'⟩;rw[idxF_hit p xs kk hlt (by rw[B.out];exact hq) AA.out];rfl
   | false =>
    rw[hq] at hcall;go_wp2_with fail;refine hcall.mono ?_
    rintro e w' ⟨rfl,hb'⟩
    clear hcall hx;go_wp2;go_roundg (xs.length - (kk+1))
    case measure=>omega
    case rel =>
     refine ⟨kk+1,by omega,by omega,by go_num,⟨below_step BW.out hb'⟩,⟨fun j hj=>?_⟩⟩;by_cases e:j=kk
     ·
      subst e;rw[B.out];exact hq
     ·
      exact AA.out j (by omega)
  ·
   have hltz:¬ (kk:Int) < (xs.length:Int):=by omega
   have:kk=xs.length:=by omega
   subst this;go_wp2;go_ret
   refine ⟨?_,BW.out⟩;rw[idxF_miss p xs AA.out];rfl
set_option maxHeartbeats 2000000 in
set_option maxRecDepth 100000 in
theorem ContainsFunc_any (g:Nat) (lb:Array Value) (p:Int→Bool) (eg:∀ args w,(callFunc g args).run Try.prog w = .ok (.enter g args) w) (A0:Option Addr) (c0:Nat) (xs:List Int) (w:World) (hr:Kd.C (Kd.int .i64) w A0 xs.length xs) (hl:xs.length≤c0) (hbig:xs.length≤9223372036854775807)
  (hp:PredOn g lb p xs w) :
  Calls Try.prog 122 #[.slice A0 xs.length c0, .func (.func g) #[] lb] w fun e w'=>e = .returned (.bool (xs.any p))∧Below w.heap.size w w':=by
 have HH:=am' (IndexFunc_any g lb p eg A0 c0 xs w hr hl hbig hp)
 clear hr hl hp;go_enter Try.func122,Try.ntmps122
 go_wp2_with (go_at_call 129;refine HH.out.mono ?_;rintro e w' ⟨rfl,hb⟩)
 go_ret
 refine ⟨?_,hb⟩
 rw[← idxF_any]
 rfl
theorem in_calls (x lo hi:Int) (w:World):Calls Try.prog 65 #[.int .i64 x, .int .i64 lo, .int .i64 hi] w fun e w'=>e = .returned (.bool (inB lo hi x))∧Below w.heap.size w w' :=
 (impl_in.calls x lo hi (inB lo hi x) w (by unfold impl_in.f inB;by_cases h:lo≤x <;> simp [h])).mono fun e w' ⟨he,hd⟩=>⟨he,hd.below⟩
theorem areIn1_calls (x lo hi:Int) (b1 b2:Nat) (w:World) (h1:w.cell? ⟨b1,0,none⟩=some (.int .i64 lo)) (h2:w.cell? ⟨b2,0,none⟩=some (.int .i64 hi)) :
  Calls Try.prog 123 #[.int .i64 x, .pointer (some ⟨b1,0,none⟩), .pointer (some ⟨b2,0,none⟩)] w fun e w'=>e = .returned (.bool (!inB lo hi x))∧Below w.heap.size w w':=by
 go_enter Try.func123,Try.ntmps123
 go_wp2_with (go_at_call 65;refine (in_calls _ _ _ _).mono ?_;rintro e w' ⟨rfl,hb⟩)
 go_ret
 exact ⟨rfl,hb⟩
theorem areIn_pred (lo hi:Int) (b1 b2:Nat) (xs:List Int) (w:World) (h1:w.cell? ⟨b1,0,none⟩=some (.int .i64 lo)) (h2:w.cell? ⟨b2,0,none⟩=some (.int .i64 hi)) :
  PredOn 123 #[.pointer (some ⟨b1,0,none⟩), .pointer (some ⟨b2,0,none⟩)] (fun x => !inB lo hi x) xs w:=fun x _ W hb =>
 areIn1_calls x lo hi b1 b2 W ((hb.cell (bl' w _ h1)).trans h1) ((hb.cell (bl' w _ h2)).trans h2)
def impl_areIn.f (l0:List Int) (a1 a2 a3 a4:Int):Option Bool:=some (inB a3 a4 (l0.length:Int) && l0.all (inB a1 a2))
set_option maxHeartbeats 2000000 in
set_option maxRecDepth 100000 in
theorem impl_areIn.calls (A0:Option Addr) (c0:Nat) (l0:List Int) (a1 a2 a3 a4:Int) (r:Bool) (w:World) (hr0:Kd.C (Kd.int .i64) w A0 l0.length l0) (hc0:l0.length≤c0) (h:impl_areIn.f l0 a1 a2 a3 a4=some r) :
  Calls Try.prog 103 #[.slice A0 l0.length c0, .int .i64 a1, .int .i64 a2, .int .i64 a3, .int .i64 a4] w fun e w'=>e = .returned (.bool r)∧Below w.heap.size w w':=by
 have hbig:l0.length≤9223372036854775807:=hr0.2.1
 have HC:=am' (fun (w1:World) (h1:Below w.heap.size w w1) (b1 b2:Nat) (e1:w1.cell? ⟨b1,0,none⟩=some (.int .i64 a1)) (e2:w1.cell? ⟨b2,0,none⟩=some (.int .i64 a2)) =>
  ContainsFunc_any 123 #[.pointer (some ⟨b1,0,none⟩), .pointer (some ⟨b2,0,none⟩)] (fun x => !inB a1 a2 x) (enters_of Try.func123 (by kernel_rfl) rfl) A0 c0 l0 w1 (Kd.C_below hr0 h1) hc0 hbig (areIn_pred a1 a2 b1 b2 l0 w1 e1 e2))
 clear hr0;cases hi:inB a3 a4 (l0.length:Int) with
 | false =>
  obtain rfl:false=r:=by unfold impl_areIn.f at h;simpa [hi] using h
  clear h;go_enter Try.func103,Try.ntmps103;go_wp2_with (go_at_call 65;refine (in_calls _ _ _ _).mono ?_;rintro e w' ⟨rfl,hb⟩);go_ret
  exact ⟨rfl,(after_alloc (after_alloc hb).1).1⟩
 | true =>
  obtain rfl:l0.all (inB a1 a2)=r:=by unfold impl_areIn.f at h;simpa [hi] using h
  clear h;go_enter Try.func103,Try.ntmps103;go_wp2_with (go_at_call 65;refine (in_calls _ _ _ _).mono ?_;rintro e w' ⟨rfl,hb⟩);have h2:=after_alloc hb;have h1:=after_alloc h2.1;rw[World.size_alloc] at h2;refine (HC.out w' h1.1 _ _ ((blk_cell h1.2 0).trans rfl) ((blk_cell h2.2 0).trans rfl)).mono ?_
  rintro e w2 ⟨rfl,hb2⟩
  clear hb h2;have HB2:=am' (below_step h1.1 hb2);clear h1 hb2;go_wp2;go_ret
  refine ⟨?_,HB2.out⟩;rw[← any_not_all];rfl
def impl_IsParty.f (l0_0:List Int) (a0_1:Int):Option (Bool):=(impl_areIn.f l0_0 1 1000 1 8).bind fun t259=>(if t259=true then ((impl_in.f a0_1 1 3).bind fun t260=>(some t260)) else (some false))
set_option maxHeartbeats 8000000 in
set_option maxRecDepth 100000 in
theorem impl_IsParty.calls (A0_0:Option Addr) (c0_0:Nat) (l0_0:List Int) (a0_1:Int) (r:Bool) (w:World) (hr0_0:Kd.C (Kd.int .i64) w A0_0 l0_0.length l0_0) (hc0_0:l0_0.length≤c0_0) (h:impl_IsParty.f l0_0 a0_1=some r) :
  Calls Try.prog 64 #[.agg #[.slice A0_0 l0_0.length c0_0, .int .i64 a0_1]] w fun e w'=>e = .returned (.bool r)∧Below w.heap.size w w':=by
 have hu28:=Try.underlying28
 have HR0_0:=am' hr0_0
 have HC0_0:=am' hc0_0
 clear hr0_0 hc0_0;have HB:=am' (Below.refl w.heap.size w)
 have H:((impl_areIn.f l0_0 1 1000 1 8).bind fun t259=>(if t259=true then ((impl_in.f a0_1 1 3).bind fun t260=>(some t260)) else (some false)))=some r:=h
 clear h;replace H:=Option.bind_eq_some_iff.mp H
 obtain ⟨t259,A20,H⟩:=H
 replace H:(if t259=true then ((impl_in.f a0_1 1 3).bind fun t260=>(some t260)) else (some false))=some r:=H
 have A2:=am' A20
 clear A20;by_cases c3:t259=true
 ·
  subst c3;have H1:((impl_in.f a0_1 1 3).bind fun t260=>(some t260))=some r:=by rw[if_pos rfl] at H;exact H
  clear H;have H:=H1;clear H1;replace H:=Option.bind_eq_some_iff.mp H;obtain ⟨t260,A40,H⟩:=H;replace H:(some t260)=some r:=H;have A4:=am' A40;clear A40;obtain rfl:=Option.some.inj H;go_enter Try.func64,Try.ntmps64;go_wp2_with (first|((with_reducible refine gate_dst (N:=1) rfl ?_);refine box_event ?hg (N:=1) ?hd (cs:=#[.slice A0_0 l0_0.length c0_0, .int .i64 a0_1]) (t:=28) ?hr ?_;(case hd=>rfl);(case hg=>rfl);(case hr=>first|(go_simp;done)|(go_simp;rfl));intro gb258 hg w5 hbox hb;have n0_:=am' (below_step (by repeat (first|(with_reducible first|exact HB.out|apply ba'|apply bd'|apply be')|exact HB.out)) hb);have n1_:=am' (hbox);have n2_:=am' ((by rw[hg];exact (below_size (by repeat (first|(with_reducible first|exact HB.out|apply ba'|apply bd'|apply be')|exact HB.out))):w.heap.size≤gb258));have n3_:=am' ((by rw[hg];exact (below_size (by repeat (first|(with_reducible first|exact HB.out|apply ba'|apply bd'|apply be')|exact HB.out))):w.heap.size≤gb258));clear HB;have HB:=n0_;have BK258:=n1_;have GW258:=n2_;have GE258:=n3_;clear n0_ n1_ n2_ n3_;clear hb hbox hg;have hcz6_0:w5.cell? ⟨gb258,0,none⟩=some (.slice A0_0 l0_0.length c0_0):=(blk_cell BK258.out 0).trans rfl;have hcz6_1:w5.cell? ⟨gb258,1,none⟩=some (.int .i64 a0_1):=(blk_cell BK258.out 1).trans rfl;have hfz6_0:=blk_frozen BK258.out 0;have hfz6_1:=blk_frozen BK258.out 1)|((with_reducible refine gate_callee (f:=103) rfl ?_);refine goesL_ (some 5) rfl rfl Try.func103 (by kernel_rfl) rfl #[.slice A0_0 l0_0.length c0_0, .int .i64 1, .int .i64 1000, .int .i64 1, .int .i64 8] rfl (by (try simp only[List.map_toArray,List.map_cons,List.map_nil]);first|done|rfl|(simp only[List.length_drop,List.length_take];rfl)) ?_;(with_reducible refine (impl_areIn.calls _ _ l0_0 1 1000 1 8 true _ ?side1 ?side2 A2.out).mono ?_);(case side1=>repeat (first|exact (Kd.C_below HR0_0.out HB.out)|(with_reducible refine ca' ?_ _)|(with_reducible refine cn' ?_ _)|(with_reducible refine cd' ?_)));(case side2=>exact HC0_0.out);rintro e w7 ⟨rfl,hb⟩;refine ⟨_,rfl,?_⟩;have n0_:=am' (blk_below (g:=gb258) (o := .cells #[.slice A0_0 l0_0.length c0_0, .int .i64 a0_1] 28 (0,0)) (by (with_reducible repeat (first|refine kn' ?_ _|refine kd' ?_|refine ka' ?_ _));exact BK258.out) hb);have n1_:=am' (below_step (by repeat (first|(with_reducible first|exact HB.out|apply ba'|apply bd'|apply be'|refine bs' ?_ GE258.out)|exact HB.out)) hb);clear BK258;clear HB;have BK258:=n0_;have HB:=n1_;clear n0_ n1_;(try clear hb);(try clear hb2);(try clear hk);(try clear hi);have hcz8_0:w7.cell? ⟨gb258,0,none⟩=some (.slice A0_0 l0_0.length c0_0):=(blk_cell BK258.out 0).trans rfl;have hcz8_1:w7.cell? ⟨gb258,1,none⟩=some (.int .i64 a0_1):=(blk_cell BK258.out 1).trans rfl;have hfz8_0:=blk_frozen BK258.out 0;have hfz8_1:=blk_frozen BK258.out 1)|(go_at_call 65;(with_reducible refine (impl_in.calls a0_1 1 3 t260 _ A4.out).mono ?_);rintro e w' ⟨rfl,⟨nd,rfl⟩⟩))
  go_ret
  exact ⟨by first|rfl|(simp[errW_none,errW_some] <;> rfl)|(simp[*,errW_none,errW_some] <;> rfl),by repeat (first|(with_reducible first|exact HB.out|apply ba'|apply bd'|apply be'|refine bs' ?_ GE258.out)|exact HB.out)⟩
 ·
  replace c3:=Bool.eq_false_iff.mpr c3;subst c3;have H1:(some false)=some r:=by rw[if_neg (show ¬ (false=true) by decide)] at H;exact H
  clear H;have H:=H1;clear H1;obtain rfl:=Option.some.inj H;go_enter Try.func64,Try.ntmps64;go_wp2_with (first|((with_reducible refine gate_dst (N:=1) rfl ?_);refine box_event ?hg (N:=1) ?hd (cs:=#[.slice A0_0 l0_0.length c0_0, .int .i64 a0_1]) (t:=28) ?hr ?_;(case hd=>rfl);(case hg=>rfl);(case hr=>first|(go_simp;done)|(go_simp;rfl));intro gb258 hg w9 hbox hb;have n0_:=am' (below_step (by repeat (first|(with_reducible first|exact HB.out|apply ba'|apply bd'|apply be')|exact HB.out)) hb);have n1_:=am' (hbox);have n2_:=am' ((by rw[hg];exact (below_size (by repeat (first|(with_reducible first|exact HB.out|apply ba'|apply bd'|apply be')|exact HB.out))):w.heap.size≤gb258));have n3_:=am' ((by rw[hg];exact (below_size (by repeat (first|(with_reducible first|exact HB.out|apply ba'|apply bd'|apply be')|exact HB.out))):w.heap.size≤gb258));clear HB;have HB:=n0_;have BK258:=n1_;have GW258:=n2_;have GE258:=n3_;clear n0_ n1_ n2_ n3_;clear hb hbox hg;have hcz10_0:w9.cell? ⟨gb258,0,none⟩=some (.slice A0_0 l0_0.length c0_0):=(blk_cell BK258.out 0).trans rfl;have hcz10_1:w9.cell? ⟨gb258,1,none⟩=some (.int .i64 a0_1):=(blk_cell BK258.out 1).trans rfl;have hfz10_0:=blk_frozen BK258.out 0;have hfz10_1:=blk_frozen BK258.out 1)|((with_reducible refine gate_callee (f:=103) rfl ?_);refine goesL_ (some 5) rfl rfl Try.func103 (by kernel_rfl) rfl #[.slice A0_0 l0_0.length c0_0, .int .i64 1, .int .i64 1000, .int .i64 1, .int .i64 8] rfl (by (try simp only[List.map_toArray,List.map_cons,List.map_nil]);first|done|rfl|(simp only[List.length_drop,List.length_take];rfl)) ?_;(with_reducible refine (impl_areIn.calls _ _ l0_0 1 1000 1 8 false _ ?side1 ?side2 A2.out).mono ?_);(case side1=>repeat (first|exact (Kd.C_below HR0_0.out HB.out)|(with_reducible refine ca' ?_ _)|(with_reducible refine cn' ?_ _)|(with_reducible refine cd' ?_)));(case side2=>exact HC0_0.out);rintro e w11 ⟨rfl,hb⟩;refine ⟨_,rfl,?_⟩;have n0_:=am' (blk_below (g:=gb258) (o := .cells #[.slice A0_0 l0_0.length c0_0, .int .i64 a0_1] 28 (0,0)) (by (with_reducible repeat (first|refine kn' ?_ _|refine kd' ?_|refine ka' ?_ _));exact BK258.out) hb);have n1_:=am' (below_step (by repeat (first|(with_reducible first|exact HB.out|apply ba'|apply bd'|apply be'|refine bs' ?_ GE258.out)|exact HB.out)) hb);clear BK258;clear HB;have BK258:=n0_;have HB:=n1_;clear n0_ n1_;(try clear hb);(try clear hb2);(try clear hk);(try clear hi)));go_ret
  exact ⟨by first|rfl|(simp[errW_none,errW_some] <;> rfl)|(simp[*,errW_none,errW_some] <;> rfl),by repeat (first|(with_reducible first|exact HB.out|apply ba'|apply bd'|apply be'|refine bs' ?_ GE258.out)|exact HB.out)⟩
end Go.Proofs.Ytamljjfhkolflaa.C15
