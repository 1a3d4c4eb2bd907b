import Derived.Test.YtabhhkiipilghaaC2zx0
import Derived.Test.YtabhhkiipilghaaC2zAl
namespace Go.Proofs.Ytabhhkiipilghaa.C2
open Go.RowKit Go.Proofs.YtabhhkiipilghaaW.PrintWords Go.Proofs.YtabhhkiipilghaaW.PrintLast Go.Proofs.YtabhhkiipilghaaW.PrintMore Go.Proofs.Ytabhhkiipilghaa.H
attribute [local go_sem] max2_int min2_int max_two min_two max_three min_three max_four min_four
set_option linter.unusedVariables false
set_option linter.unusedSimpArgs false
def spec_cuState.l0:Nat→Int→Int→Int→Int→List Bool→Bool→Option (List Bool × Bool)
 | 0,_,_,_,_,_,_=>none
 | k+1,x1,x6,x307000,x307001,x309000,x309001=>if x6 < (wrap64 (2 * x307000)) then (if 0≤(wrap64 (x6+1)) then (if x309000.length < 140737488355328 then (spec_cuState.l0 k x1 (wrap64 (x6+1)) x307000 x307001 (x309000 ++ [((Int.tmod (shr .i64 x1 (wrap64 (x6+1))) 2) == 1)]) x309001) else (none)) else (none)) else (some (x309000,x309001))
def spec_cuState.f (k:Nat) (a0_0:Int) (a0_1:Int) (a1:Int):Option (List Bool × Bool):=spec_cuState.l0 k a1 0 a0_0 a0_1 ([]:List Bool) ((Int.tmod a1 2) == 1)
theorem spec_cuState.mono_l:∀ k,(∀ y0 y1 y2 y3 y4 y5,LeO (spec_cuState.l0 k y0 y1 y2 y3 y4 y5) (spec_cuState.l0 (k+1) y0 y1 y2 y3 y4 y5))
 | 0=>fun _ _ _ _ _ _ r h=>by simp[spec_cuState.l0] at h
 | k+1=>by
  have ih0:=spec_cuState.mono_l k
  ·
   intro y0 y1 y2 y3 y4 y5;unfold spec_cuState.l0
   repeat' first
   | (with_reducible exact ih0 _ _ _ _ _ _)
   | (with_reducible exact LeO.refl _)
   | (with_reducible exact LeO.none _)
   | (with_reducible refine LeO.ite ?_ ?_)
   | (with_reducible refine LeO.bind ?_ (fun _=>?_))
   | exact ih0 _ _ _ _ _ _
   | exact LeO.none _
   | refine LeO.ite ?_ ?_
   | refine LeO.bind ?_ (fun _=>?_)
theorem spec_cuState.mono:∀ a0 a1 a2 k,LeO (spec_cuState.f k a0 a1 a2) (spec_cuState.f (k+1) a0 a1 a2):=by
 intro a0 a1 a2 k;have ih0:=spec_cuState.mono_l k
 unfold spec_cuState.f
 repeat' first
   | (with_reducible exact ih0 _ _ _ _ _ _)
   | (with_reducible exact LeO.refl _)
   | (with_reducible exact LeO.none _)
   | (with_reducible refine LeO.ite ?_ ?_)
   | (with_reducible refine LeO.bind ?_ (fun _=>?_))
   | exact ih0 _ _ _ _ _ _
   | exact LeO.none _
   | refine LeO.ite ?_ ?_
   | refine LeO.bind ?_ (fun _=>?_)
def spec_cuState.T5:Bool × List (List Nat × List Nat):=(true,[([],[]),([0],[0]),([],[]),([],[]),([3],[3]),([2,4],[2,4]),([5],[5]),([6],[6]),([7],[7]),([1,8],[1,8]),([0,1,2,3,4,5,6,7,8,9],[]),([10,9,9,0,1,2,3,4,5,6,7,8,9],[9,10])])
def spec_cuState.B5:List Nat:=[0,1,0,0,8,28,60,124,252,511,1023,2047]
theorem spec_cuState.tab5:rtab .any (opsOf Try.f56 5)=spec_cuState.T5:=by kernel_rfl
theorem spec_cuState.bits5:waitsOk spec_cuState.T5.2 spec_cuState.B5=true:=by kernel_rfl
set_option maxHeartbeats 8000000 in
set_option maxRecDepth 100000 in
theorem spec_cuState.calls (k:Nat) (a0_0:Int) (a0_1:Int) (a1:Int) (r1:List Bool) (r2:Bool) (w:World) (h:spec_cuState.f k a0_0 a0_1 a1=some (r1,r2)) :
  Calls Try.prog 56 #[.agg #[.int .i64 a0_0, .int .i64 a0_1], .int .i64 a1] w fun e w'=>∃ v0_:Value,e = .returned (.agg #[v0_, .bool r2])∧Kd.R Kd.bool 4 w' w.heap.size (fun _=>True) v0_ r1∧Below w.heap.size w w':=by
 have hu32:=Try.underlying32
 have hu35:=Try.underlying35
 have HB:=am' (Below.refl w.heap.size w)
 have H:(spec_cuState.l0 k a1 0 a0_0 a0_1 ([]:List Bool) ((Int.tmod a1 2) == 1))=some (r1,r2):=h
 clear h;have H':=am' H
 clear H;go_enter Try.func56,Try.ntmps56
 go_wp2_with (first|((with_reducible refine gate_dst (N:=2) rfl ?_);refine box_event ?hg (N:=2) ?hd (cs:=#[.int .i64 a0_0, .int .i64 a0_1]) (t:=32) ?hr ?_;(case hd=>rfl);(case hg=>rfl);(case hr=>first|(go_simp;done)|(go_simp;rfl));intro gb306 hg w3 hbox hb;have n0_:=am' (bt' xb' hb);have n1_:=am' (hbox);have n2_:=am' ((by rw[hg];exact (bz' xb'):w.heap.size≤gb306));have n3_:=am' ((by rw[hg];exact (bz' xb'):w.heap.size≤gb306));clear HB;have HB:=n0_;have BK306:=n1_;have GW306:=n2_;have GE306:=n3_;clear n0_ n1_ n2_ n3_;clear hb hbox hg)|((with_reducible refine gate_dst (N:=4) rfl ?_);refine box_event ?hg (N:=4) ?hd (cs:=#[.slice none 0 0, .bool false]) (t:=35) ?hr ?_;(case hd=>rfl);(case hg=>rfl);(case hr=>first|(go_simp;done)|(go_simp;rfl));intro gb307 hg w4 hbox hb;have n0_:=am' (bb' (g:=gb306) (o := .cells #[.int .i64 a0_0, .int .i64 a0_1] 32 (0,0)) (kk' BK306.out) hb);have n1_:=am' (bt' (yb' GE306.out) hb);have n2_:=am' (hbox);have n3_:=am' ((by rw[hg];exact (bz' (yb' GE306.out)):w.heap.size≤gb307));have n4_:=am' ((by rw[hg];exact (bz' (yb' GE306.out)):w.heap.size≤gb307));have n5_:=am' ((by rw[hg];exact Nat.ne_of_lt (blk_lt (g:=gb306) (o := .cells #[.int .i64 a0_0, .int .i64 a0_1] 32 (0,0)) (kk' BK306.out)):gb306≠gb307));have n6_:=am' ((by rw[hg];exact Nat.ne_of_gt (blk_lt (g:=gb306) (o := .cells #[.int .i64 a0_0, .int .i64 a0_1] 32 (0,0)) (kk' BK306.out)):gb307≠gb306));clear BK306;clear HB;have BK306:=n0_;have HB:=n1_;have BK307:=n2_;have GW307:=n3_;have GE307:=n4_;have NB306_307:=n5_;have NB307_306:=n6_;clear n0_ n1_ n2_ n3_ n4_ n5_ n6_;clear hb hbox hg)|((with_reducible refine gate_dst (N:=5) rfl ?_);refine box_event ?hg (N:=5) ?hd (cs:=#[.slice none 0 0, .bool false]) (t:=35) ?hr ?_;(case hd=>rfl);(case hg=>rfl);(case hr=>first|(go_simp;done)|(go_simp;rfl));intro gb308 hg w5 hbox hb;have n0_:=am' (bb' (g:=gb306) (o := .cells #[.int .i64 a0_0, .int .i64 a0_1] 32 (0,0)) (kk' BK306.out) hb);have n1_:=am' (bb' (g:=gb307) (o := .cells #[.slice none 0 0, .bool false] 35 (0,0)) (kk' BK307.out) hb);have n2_:=am' (bt' (y2' GE306.out GE307.out) hb);have n3_:=am' (hbox);have n4_:=am' ((by rw[hg];exact (bz' (y2' GE306.out GE307.out)):w.heap.size≤gb308));have n5_:=am' ((by rw[hg];exact (bz' (y2' GE306.out GE307.out)):w.heap.size≤gb308));have n6_:=am' ((by rw[hg];exact Nat.ne_of_lt (blk_lt (g:=gb306) (o := .cells #[.int .i64 a0_0, .int .i64 a0_1] 32 (0,0)) (kk' BK306.out)):gb306≠gb308));have n7_:=am' ((by rw[hg];exact Nat.ne_of_gt (blk_lt (g:=gb306) (o := .cells #[.int .i64 a0_0, .int .i64 a0_1] 32 (0,0)) (kk' BK306.out)):gb308≠gb306));have n8_:=am' ((by rw[hg];exact Nat.ne_of_lt (blk_lt (g:=gb307) (o := .cells #[.slice none 0 0, .bool false] 35 (0,0)) (kk' BK307.out)):gb307≠gb308));have n9_:=am' ((by rw[hg];exact Nat.ne_of_gt (blk_lt (g:=gb307) (o := .cells #[.slice none 0 0, .bool false] 35 (0,0)) (kk' BK307.out)):gb308≠gb307));clear BK306;clear BK307;clear HB;have BK306:=n0_;have BK307:=n1_;have HB:=n2_;have BK308:=n3_;have GW308:=n4_;have GE308:=n5_;have NB306_308:=n6_;have NB308_306:=n7_;have NB307_308:=n8_;have NB308_307:=n9_;clear n0_ n1_ n2_ n3_ n4_ n5_ n6_ n7_ n8_ n9_;clear hb hbox hg;have hnb6:=NB308_306.out;have hnc6:=NB306_308.out;have hnb7:=NB308_307.out;have hnc7:=NB307_308.out;have hcz8_0:w5.cell? ⟨gb308,0,none⟩=some (.slice none 0 0):=(bc' BK308.out 0).trans rfl;have hcz8_1:w5.cell? ⟨gb308,1,none⟩=some (.bool false):=(bc' BK308.out 1).trans rfl;have hfz8_0:=bf' BK308.out 0;have hfz8_1:=bf' BK308.out 1))
 go_loopg [6] k (fun kq v6 w'=>∃ (x6_1:Int) (x309000_1:List Bool) (u309000:Value),v6 = .int .i64 x6_1∧Aside0 (spec_cuState.l0 kq a1 x6_1 a0_0 a0_1 x309000_1 ((Int.tmod a1 2) == 1)=some (r1,r2))∧Aside0 (kq≤k)∧Aside0 (Kd.R Kd.bool 4 w' w.heap.size (fun _=>True) u309000 x309000_1)∧Aside0 (w'.heap[gb306]? = some (.cells #[.int .i64 a0_0, .int .i64 a0_1] 32 (0,0)))∧Aside0 (w'.heap[gb307]? = some (.cells #[(.slice none 0 0), .bool false] 35 (0,0)))∧Aside0 (w'.heap[gb308]? = some (.cells #[u309000, .bool ((Int.tmod a1 2) == 1)] 35 (0,0)))∧Aside0 (Below w.heap.size w w'))
 case atStart=>exact ⟨(0),(([]:List Bool)),(.slice none 0 0),xs',H',⟨Nat.le_refl _⟩,⟨by first|exact Kd.R_nil _ _ _ _ _|exact Kd.N_nil _ _ _ _ _|exact Kd.V_nil _ _ _ _ _|exact Kd.Q_nil _ _ _ _ _|exact Kd.S_nil _ _ _ _ _⟩,⟨by (with_reducible repeat (first|refine kn' ?_ _|refine kd' ?_|refine ka' ?_ _));refine blk_far ?_ NB306_308.out _;(with_reducible repeat (first|refine kn' ?_ _|refine kd' ?_|refine ka' ?_ _));refine blk_far ?_ NB306_308.out _;(with_reducible repeat (first|refine kn' ?_ _|refine kd' ?_|refine ka' ?_ _));exact BK306.out⟩,⟨by (with_reducible repeat (first|refine kn' ?_ _|refine kd' ?_|refine ka' ?_ _));refine blk_far ?_ NB307_308.out _;(with_reducible repeat (first|refine kn' ?_ _|refine kd' ?_|refine ka' ?_ _));refine blk_far ?_ NB307_308.out _;(with_reducible repeat (first|refine kn' ?_ _|refine kd' ?_|refine ka' ?_ _));exact BK307.out⟩,⟨by (with_reducible repeat (first|refine kn' ?_ _|refine kd' ?_|refine ka' ?_ _));refine blk_put (cs:=#[.slice none 0 0, .bool false]) ?_ 1 _ rfl;(with_reducible repeat (first|refine kn' ?_ _|refine kd' ?_|refine ka' ?_ _));refine blk_put (cs:=#[.slice none 0 0, .bool false]) ?_ 0 _ rfl;(with_reducible repeat (first|refine kn' ?_ _|refine kd' ?_|refine ka' ?_ _));exact BK308.out⟩,⟨y3' GE306.out GE307.out GE308.out⟩⟩
 case round =>
  clear H';try clear p2
  try clear c5
  try clear c6
  try clear c7
  try clear hcz8_0
  try clear hcz8_1
  try clear hfz8_0
  try clear hfz8_1
  obtain ⟨x6_1,x309000_1,u309000,rfl,HA,HK1,HO_309000,BK306,BK307,BK308,HB⟩:=hrel;cases gk with
  | zero=>exact absurd HA.out (by simp[spec_cuState.l0])
  | succ k1 =>
   have H:=HA.out;clear HA;simp only[spec_cuState.l0] at H;by_cases c9:x6_1 < (wrap64 (2 * a0_0))
   ·
    rw[if_pos c9] at H;have c9b0:decide (x6_1 < (wrap64 (2 * a0_0)))=true:=dt' c9;clear c9;obtain ⟨ji10,hji10⟩:∃ j_:Int,(wrap64 (x6_1+1))=j_:=⟨_,rfl⟩
    replace H:(if 0≤(ji10) then (if x309000_1.length < 140737488355328 then (spec_cuState.l0 k1 a1 ji10 a0_0 a0_1 (x309000_1 ++ [((Int.tmod (shr .i64 a1 (ji10)) 2) == 1)]) ((Int.tmod a1 2) == 1)) else (none)) else (none))=some (r1,r2):=by first|(rw[hji10] at H;exact H)|(simp only[hji10] at H ⊢;exact H)
    have hji10w:(IntKind.i64.wrap (x6_1+1))=ji10:=(i64_w _).trans hji10;by_cases c11:0≤(ji10)
    ·
     rw[if_pos c11] at H;have c11b0:=eq_true c11;have c11b1:decide (0≤(ji10))=true:=dt' c11;clear c11;obtain ⟨ji12,hji12⟩:∃ j_:Int,(shr .i64 a1 (ji10))=j_:=⟨_,rfl⟩
     replace H:(if x309000_1.length < 140737488355328 then (spec_cuState.l0 k1 a1 ji10 a0_0 a0_1 (x309000_1 ++ [((Int.tmod (ji12) 2) == 1)]) ((Int.tmod a1 2) == 1)) else (none))=some (r1,r2):=by first|(rw[hji12] at H;exact H)|(simp only[hji12] at H ⊢;exact H)
     have hji12_:(a1 / 2 ^ min (ji10).toNat 64)=ji12:=hji12;have hji12z:(ji10)≤64→(a1 / 2 ^ (ji10).toNat)=ji12:=shr_small hji12;by_cases c13:x309000_1.length < 140737488355328
     ·
      rw[if_pos c13] at H;have LMc13:=am' c13;clear c13;obtain ⟨y309,hy309⟩:∃ y_:List Bool,y_=(x309000_1 ++ [((Int.tmod (ji12) 2) == 1)]):=⟨_,rfl⟩
      replace H:(spec_cuState.l0 k1 a1 ji10 a0_0 a0_1 y309 ((Int.tmod a1 2) == 1))=some (r1,r2):=by first|(rw[hy309];with_reducible exact H)|(have H2_:=(Option.bind_some _ _).symm.trans H;rw[hy309];with_reducible exact H2_)|(have H2_:=(Option.bind_some _ _).symm.trans H;with_reducible exact H2_)|with_reducible exact H|(rw[hy309];exact H)|exact H
      have Ny309:=am' hy309;clear hy309;have H':=am' H;clear H;have hnb14:=NB306_307.out;have hnc14:=NB307_306.out;have hnb15:=NB306_308.out;have hnc15:=NB308_306.out;have hcz16_0:wr.cell? ⟨gb306,0,none⟩=some (.int .i64 a0_0):=(bc' BK306.out 0).trans rfl;have hcz16_1:wr.cell? ⟨gb306,1,none⟩=some (.int .i64 a0_1):=(bc' BK306.out 1).trans rfl;have hfz16_0:=bf' BK306.out 0;have hfz16_1:=bf' BK306.out 1
      try go_wp2
      have n0_:=am' (rw' HO_309000.out);have n1_:=am' (kd' BK306.out);have n2_:=am' (kd' BK307.out);have n3_:=am' (kd' BK308.out);have n4_:=am' (be' HB.out);clear HO_309000;clear BK306;clear BK307;clear BK308;clear HB;have HO_309000:=n0_;have BK306:=n1_;have BK307:=n2_;have BK308:=n3_;have HB:=n4_;clear n0_ n1_ n2_ n3_ n4_;refine start_ (n:=12) (S:=fun w'=>w'.cell? ⟨gb308,0,none⟩=some (u309000)∧w'.cell? ⟨gb308,1,none⟩=some (.bool ((Int.tmod a1 2) == 1))) (ds:=[11]) #[false,false,false,false,false,false,false,false,false,false,false,false] xk' rfl rfl ⟨(bc' BK308.out 0).trans rfl,(bc' BK308.out 1).trans rfl⟩ (fun hHeld=>?_);refine with_tabW spec_cuState.tab5 spec_cuState.bits5 (fun HT_ HW_=>?_);generalize wr.drew=w17 at HO_309000 BK306 BK307 BK308 HB hHeld ⊢
      refine pure_ (i:=0) (N:=some 18) (v:=?_) (a':=?_) #[true,false,false,false,false,false,false,false,false,false,false,false] rfl rfl (any_of HT_.out xk') (fun _ _ _ h=>h) (Or.inl ⟨by rfl,?_⟩) ?_ ?_
      rotate_left
      ·
       intro w';go_simp;with_reducible rfl
      rotate_left
      ·
       simp only[Act.put,sa',sb',sc',i64_w,i32_w];rfl
      refine pure_ (i:=2) (N:=some 20) (v:=?_) (a':=?_) #[true,false,true,false,false,false,false,false,false,false,false,false] rfl rfl (any_of HT_.out xk') (fun _ _ _ h=>h) (Or.inl ⟨by rfl,?_⟩) ?_ ?_
      rotate_left
      ·
       intro w';go_simp;with_reducible rfl
      rotate_left
      ·
       simp only[Act.put,sa',sb',sc',i64_w,i32_w];rfl
      refine pure_ (i:=3) (N:=some 21) (v:=?_) (a':=?_) #[true,false,true,true,false,false,false,false,false,false,false,false] rfl rfl (any_of HT_.out xk') (fun _ _ _ h=>h) (Or.inl ⟨by rfl,?_⟩) ?_ ?_
      rotate_left
      ·
       intro w';go_simp;with_reducible rfl
      rotate_left
      ·
       simp only[Act.put,sa',sb',sc',i64_w,i32_w];rfl
      refine pure_ (i:=4) (N:=some 22) (v:=?_) (a':=?_) #[true,false,true,true,true,false,false,false,false,false,false,false] rfl rfl (any_of HT_.out xk') (fun _ _ _ h=>h) (Or.inl ⟨by rfl,?_⟩) ?_ ?_
      rotate_left
      ·
       intro w';go_simp;with_reducible rfl
      rotate_left
      ·
       simp only[Act.put,sa',sb',sc',i64_w,i32_w];rfl
      refine pure_ (i:=5) (N:=some 23) (v:=?_) (a':=?_) #[true,false,true,true,true,true,false,false,false,false,false,false] rfl rfl (any_of HT_.out xk') (fun _ _ _ h=>h) (Or.inl ⟨by rfl,?_⟩) ?_ ?_
      rotate_left
      ·
       intro w';go_simp;with_reducible rfl
      rotate_left
      ·
       simp only[Act.put,sa',sb',sc',i64_w,i32_w];rfl
      refine pure_ (i:=6) (N:=some 24) (v:=?_) (a':=?_) #[true,false,true,true,true,true,true,false,false,false,false,false] rfl rfl (any_of HT_.out xk') (fun _ _ _ h=>h) (Or.inl ⟨by rfl,?_⟩) ?_ ?_
      rotate_left
      ·
       intro w';go_simp;with_reducible rfl
      rotate_left
      ·
       simp only[Act.put,sa',sb',sc',i64_w,i32_w];rfl
      refine pure_ (i:=7) (N:=some 25) (v:=?_) (a':=?_) #[true,false,true,true,true,true,true,true,false,false,false,false] rfl rfl (any_of HT_.out xk') (fun _ _ _ h=>h) (Or.inl ⟨by rfl,?_⟩) ?_ ?_
      rotate_left
      ·
       intro w';go_simp;with_reducible rfl
      rotate_left
      ·
       simp only[Act.put,sa',sb',sc',i64_w,i32_w];rfl
      refine take_ (i:=1) (N:=some 19) (v:=?_) (a':=?_) #[true,true,true,true,true,true,true,true,false,false,false,false] rfl rfl (take_ofW HT_.out HW_.out xk') (fun _ _ _ h=>h) (Or.inl ⟨by rfl,?_⟩) hHeld ?_ ?_
      rotate_left
      ·
       rintro w' ⟨s0,s1⟩
       go_simp;with_reducible rfl
      rotate_left
      ·
       simp only[Act.put,sa',sb',sc',i64_w,i32_w];rfl
      refine one_ (i:=8) (N:=some 26) #[true,true,true,true,true,true,true,true,true,false,false,false] rfl rfl (one_of HT_.out xk') (by decide) (fun K hK=>?_);refine value_ (w1:=?_) (v:=?_) (by rfl) rfl ?_ ?_
      rotate_left 2
      ·
       go_simp;constructor
       ·
        rfl
       ·
        rfl
      refine hK.out _ _ ⟨(bc' (ka' BK308.out _) 0).trans rfl,(bc' (ka' BK308.out _) 1).trans rfl⟩ (fun hHeld=>?_);clear hK K;refine norm_ (a':=?_) ?_ ?_
      rotate_left
      ·
       show Act.put _ (some 26) _=_
       simp only[Act.put,sa',sb',sc',i64_w,i32_w];rfl
      refine one_ (i:=9) (N:=some 27) #[true,true,true,true,true,true,true,true,true,true,false,false] rfl rfl (one_of HT_.out xk') (by decide) (fun K hK=>?_);refine Kd.R_append_step Kd.bool (w0:=w) w.heap.size (by rfl) (.tmp 19) (.tmp 26) 33 4 (.bool false) 1 rfl Try.underlying33 info4 rfl (by decide) (by omega) u309000 x309000_1 ((Int.tmod (ji12) 2) == 1) [.bool ((Int.tmod (ji12) 2) == 1)] (fun _=>True) (fun _=>False) rfl rfl ?aP (fun _ hk=>hk.elim) ?aF ?aO ?aB ?aS ?aL ?_
      (case aP=>exact rfl)
      (case aB=>exact (y3' GE306.out GE307.out GE308.out))
      (case aF=>exact (fun _ _=>trivial))
      (case aO=>exact (kr' HO_309000.out))
      (case aS=>exact (bz' (y3' GE306.out GE307.out GE308.out)))
      (case aL=>have:=LMc13.out;omega)
      intro v310 w18 ho hb hg hat;rw[← Ny309.out] at ho;have n0_:=am' (blk_grown (g:=gb306) (o := .cells #[.int .i64 a0_0, .int .i64 a0_1] 32 (0,0)) (kk' BK306.out) hg (Kd.R_ne HO_309000.out BK306.out (by decide)));have n1_:=am' (blk_grown (g:=gb307) (o := .cells #[.slice none 0 0, .bool false] 35 (0,0)) (kk' BK307.out) hg (Kd.R_ne HO_309000.out BK307.out (by decide)));have n2_:=am' (blk_grown (g:=gb308) (o := .cells #[u309000, .bool ((Int.tmod a1 2) == 1)] 35 (0,0)) (kk' BK308.out) hg (Kd.R_ne HO_309000.out BK308.out (by decide)));have n3_:=am' (hb);have n4_:=am' (ho);clear BK306;clear BK307;clear BK308;clear HB;clear HO_309000;have BK306:=n0_;have BK307:=n1_;have BK308:=n2_;have HB:=n3_;have HO311:=n4_;clear n0_ n1_ n2_ n3_ n4_;clear ho hb hg hat;obtain ⟨Ao19,co19,eo19⟩:=Kd.R_slice HO311.out
      (first|subst eo19|(injection eo19 with f1_ f2_ f3_;have f4_:=f1_.symm;have f5_:=f3_.symm;clear f1_ f2_ f3_;subst f4_;subst f5_))
      refine hK.out _ _ ⟨(bc' BK308.out 0).trans rfl,(bc' BK308.out 1).trans rfl⟩ (fun hHeld=>?_);clear hK K;refine norm_ (a':=?_) ?_ ?_
      rotate_left
      ·
       show Act.put _ (some 27) _=_
       simp only[Act.put,sa',sb',sc',i64_w,i32_w];rfl
      refine pure_ (i:=10) (N:=some 28) (v:=?_) (a':=?_) #[true,true,true,true,true,true,true,true,true,true,true,false] rfl rfl (any_of HT_.out xk') (fun _ _ _ h=>h) (Or.inl ⟨by rfl,?_⟩) ?_ ?_
      rotate_left
      ·
       intro w';go_simp;with_reducible rfl
      rotate_left
      ·
       simp only[Act.put,sa',sb',sc',i64_w,i32_w];rfl
      refine last_ (i:=11) (N:=none) #[true,true,true,true,true,true,true,true,true,true,true,true] rfl rfl (one_of HT_.out xk') (by decide) (fun K hK=>?_);have hs20:w18.cell? ⟨gb308,0,none⟩=some (u309000):=(bc' BK308.out 0).trans rfl;have hfs20:=bf' BK308.out 0;have hns20_0:=NB306_308.out;have hns20_1:=NB307_308.out;have hms20_0:=NB308_306.out;have hms20_1:=NB308_307.out;refine skip_ (w1:=?_) (by rfl) rfl ?_ ?_
      rotate_left
      ·
       go_simp;rfl
      refine hK.out _ _ ?_
      clear hK K;refine done_ (done_of HT_.out xk') ?_
      try go_wp2
      go_roundg k1
      case measure=>have:=HK1.out;omega
      case rel=>exact ⟨(ji10),(y309),(.slice Ao19 y309.length co19),(by first|rfl|(simp;done)|(simp only[← hji10] <;> (first|rfl|simp))|(simp[*];done)),H',⟨by have:=HK1.out;omega⟩,⟨by (with_reducible repeat (first|apply ra'|apply rn'|apply rw'));exact Kd.R_mono (Kd.R_far (p:=⟨gb308,0,none⟩) (Kd.R_types HO311.out BK308.out (by decide)) (fun _ hk=>hk.2) (.slice Ao19 y309.length co19)) (fun _ hk=>trivial)⟩,⟨by (with_reducible repeat (first|refine kn' ?_ _|refine kd' ?_|refine ka' ?_ _));refine blk_far ?_ NB306_308.out _;(with_reducible repeat (first|refine kn' ?_ _|refine kd' ?_|refine ka' ?_ _));exact BK306.out⟩,⟨by (with_reducible repeat (first|refine kn' ?_ _|refine kd' ?_|refine ka' ?_ _));refine blk_far ?_ NB307_308.out _;(with_reducible repeat (first|refine kn' ?_ _|refine kd' ?_|refine ka' ?_ _));exact BK307.out⟩,⟨by (with_reducible repeat (first|refine kn' ?_ _|refine kd' ?_|refine ka' ?_ _));refine blk_put (cs:=#[u309000, .bool ((Int.tmod a1 2) == 1)]) ?_ 0 _ rfl;(with_reducible repeat (first|refine kn' ?_ _|refine kd' ?_|refine ka' ?_ _));exact BK308.out⟩,⟨y3' GE306.out GE307.out GE308.out⟩⟩
     ·
      rw[if_neg c13] at H;exact absurd H (by simp)
    ·
     rw[if_neg c11] at H;exact absurd H (by simp)
   ·
    rw[if_neg c9] at H;have c9b0:decide (x6_1 < (wrap64 (2 * a0_0)))=false:=df' c9;clear c9;simp only[Option.some.injEq,Prod.mk.injEq] at H;obtain ⟨rfl,rfl⟩:=H;have hnb21:=NB306_307.out;have hnc21:=NB307_306.out;have hnb22:=NB306_308.out;have hnc22:=NB308_306.out;have hcz23_0:wr.cell? ⟨gb306,0,none⟩=some (.int .i64 a0_0):=(bc' BK306.out 0).trans rfl;have hcz23_1:wr.cell? ⟨gb306,1,none⟩=some (.int .i64 a0_1):=(bc' BK306.out 1).trans rfl;have hfz23_0:=bf' BK306.out 0;have hfz23_1:=bf' BK306.out 1;have hnb24:=NB308_307.out;have hnc24:=NB307_308.out;have hcz25_0:wr.cell? ⟨gb308,0,none⟩=some (u309000):=(bc' BK308.out 0).trans rfl;have hcz25_1:wr.cell? ⟨gb308,1,none⟩=some (.bool ((Int.tmod a1 2) == 1)):=(bc' BK308.out 1).trans rfl;have hfz25_0:=bf' BK308.out 0;have hfz25_1:=bf' BK308.out 1;obtain ⟨Ao26,co26,eo26⟩:=Kd.R_slice HO_309000.out;subst eo26;have hcz27_0:wr.cell? ⟨gb307,0,none⟩=some (.slice none 0 0):=(bc' BK307.out 0).trans rfl;have hcz27_1:wr.cell? ⟨gb307,1,none⟩=some (.bool false):=(bc' BK307.out 1).trans rfl;have hfz27_0:=bf' BK307.out 0;have hfz27_1:=bf' BK307.out 1;go_wp2;refine bodyPost_ret (results_cell_row rfl _ _ gb307 35 #[.slice Ao26 x309000_1.length co26, .bool ((Int.tmod a1 2) == 1)] (0,0) _ rfl (by (with_reducible repeat (first|refine kn' ?_ _|refine kd' ?_|refine ka' ?_ _));refine blk_put (cs:=#[.slice Ao26 x309000_1.length co26, .bool false]) ?_ 1 _ rfl;(with_reducible repeat (first|refine kn' ?_ _|refine kd' ?_|refine ka' ?_ _));refine blk_put (cs:=#[.slice none 0 0, .bool false]) ?_ 0 _ rfl;(with_reducible repeat (first|refine kn' ?_ _|refine kd' ?_|refine ka' ?_ _));exact BK307.out) Try.underlying35 rfl xk') rfl ?_
    exact ⟨_,by first|rfl|(simp[errW_none,errW_some] <;> rfl)|(simp[*,errW_none,errW_some] <;> rfl),by (with_reducible repeat (first|apply ra'|apply rn'|apply rw'));exact Kd.R_mono (Kd.R_far (p:=⟨gb307,1,none⟩) (Kd.R_far (p:=⟨gb307,0,none⟩) (Kd.R_types HO_309000.out BK307.out (by decide)) (fun _ hk=>hk.2) (.slice Ao26 x309000_1.length co26)) (fun _ hk=>hk.2) (.bool ((Int.tmod a1 2) == 1))) (fun _ hk=>trivial),y3' GE306.out GE307.out GE308.out⟩
end Go.Proofs.Ytabhhkiipilghaa.C2
