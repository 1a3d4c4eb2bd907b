import Derived.Test.YtikjdmiohpdnaaaC20zx0
import Derived.Test.YtikjdmiohpdnaaaC20zAl
namespace Go.Proofs.Ytikjdmiohpdnaaa.C20
open Go.RowKit Go.Proofs.YtikjdmiohpdnaaaW.PrintWords Go.Proofs.YtikjdmiohpdnaaaW.PrintLast Go.Proofs.YtikjdmiohpdnaaaW.PrintMore Go.Proofs.Ytikjdmiohpdnaaa.H
attribute [local go_sem] max2_int min2_int max_two min_two max_three min_three max_four min_four
set_option linter.unusedVariables false
set_option linter.unusedSimpArgs false
def spec_paCross.l0:Nat→List Int→Int→Int→List Bool→Bool→List Bool→Bool→Option (List Bool × Bool)
 | 0,_,_,_,_,_,_,_=>none
 | k+1,x16,x17,x18,x170000,x170001,x178000,x178001=>if x18 < x17 then (if 0≤x18 then (if x18 < (x16.length:Int) then (if 0≤(rd x16 x18) then (if (rd x16 x18) < (x170000.length:Int) then (if (rd x16 x18) < (x178000.length:Int) then (spec_paCross.l0 k x16 x17 (wrap64 (x18+1)) x170000 x170001 (x178000.set ((rd x16 x18):Int).toNat (!(rdOf false x170000 (rd x16 x18)))) x178001) else (none)) else (none)) else (none)) else (none)) else (none)) else (some (x178000,x178001))
def spec_paCross.f (k:Nat) (l0_0:List Bool) (a0_1:Bool) (l1:List Int):Option (List Bool × Bool):=(some (([]:List Bool):List Bool)).bind fun y171=>(if y171.length+l0_0.length < 140737488355328 then (spec_paCross.l0 k l1 (l1.length:Int) 0 l0_0 a0_1 (y171 ++ l0_0) (!a0_1)) else (none))
def spec_paCross.T1:Bool × List (List Nat × List Nat):=(true,[([],[]),([],[]),([1],[1]),([0,2],[0,2]),([],[]),([4],[4]),([5],[5]),([3,6],[3,6]),([],[]),([8,7,3,0,1,2,3,4,5,6,7,8],[7,8])])
def spec_paCross.B1:List Nat:=[0,0,2,7,0,16,48,127,0,511]
theorem spec_paCross.tab1:rtab .any (opsOf Try.f60 1)=spec_paCross.T1:=by kernel_rfl
theorem spec_paCross.bits1:waitsOk spec_paCross.T1.2 spec_paCross.B1=true:=by kernel_rfl
def spec_paCross.T5:Bool × List (List Nat × List Nat):=(true,[([],[]),([0],[0]),([],[]),([],[]),([3],[3]),([],[]),([4,5],[4,5]),([6],[6]),([7],[7]),([1,2,0,1,2,3,4,5,6,7,8],[1,2]),([9,8,0,1,2,3,4,5,6,7,8],[8,9])])
def spec_paCross.B5:List Nat:=[0,1,0,0,8,0,56,120,248,511,1023]
theorem spec_paCross.tab5:rtab .any (opsOf Try.f60 5)=spec_paCross.T5:=by kernel_rfl
theorem spec_paCross.bits5:waitsOk spec_paCross.T5.2 spec_paCross.B5=true:=by kernel_rfl
set_option maxHeartbeats 8000000 in
set_option maxRecDepth 100000 in
theorem spec_paCross.calls (k:Nat) (A0_0:Option Addr) (c0_0:Nat) (l0_0:List Bool) (a0_1:Bool) (A1:Option Addr) (c1:Nat) (l1:List Int) (r1:List Bool) (r2:Bool) (w:World) (hr0_0:Kd.C Kd.bool w A0_0 l0_0.length l0_0) (hc0_0:l0_0.length≤c0_0) (hr1:Kd.C (Kd.int .i64) w A1 l1.length l1) (hc1:l1.length≤c1) (h:spec_paCross.f k l0_0 a0_1 l1=some (r1,r2)) :
  Calls Try.prog 60 #[.agg #[.slice A0_0 l0_0.length c0_0, .bool a0_1], .slice A1 l1.length c1] w fun e w'=>∃ v0_:Value,e = .returned (.agg #[v0_, .bool r2])∧Kd.R Kd.bool 4 w' w.heap.size (fun _=>True) v0_ r1∧Below w.heap.size w w':=by
 have hu38:=Try.underlying38
 have HR0_0:=am' hr0_0
 have HC0_0:=am' hc0_0
 clear hr0_0 hc0_0;have HR1:=am' hr1
 have HC1:=am' hc1
 clear hr1 hc1;have HB:=am' (Below.refl w.heap.size w)
 have H:((some (([]:List Bool):List Bool)).bind fun y171=>(if y171.length+l0_0.length < 140737488355328 then (spec_paCross.l0 k l1 (l1.length:Int) 0 l0_0 a0_1 (y171 ++ l0_0) (!a0_1)) else (none)))=some (r1,r2):=h
 clear h;obtain ⟨y171,hy171⟩:∃ y_:List Bool,y_=(([]:List Bool)):=⟨_,rfl⟩
 replace H:(if y171.length+l0_0.length < 140737488355328 then (spec_paCross.l0 k l1 (l1.length:Int) 0 l0_0 a0_1 (y171 ++ l0_0) (!a0_1)) else (none))=some (r1,r2):=by first|(rw[hy171];with_reducible exact H)|(have H2_:=(Option.bind_some _ _).symm.trans H;rw[hy171];with_reducible exact H2_)|(have H2_:=(Option.bind_some _ _).symm.trans H;with_reducible exact H2_)|with_reducible exact H|(rw[hy171];exact H)|exact H
 have Ny171:=am' hy171
 clear hy171;by_cases c3:y171.length+l0_0.length < 140737488355328
 ·
  rw[if_pos c3] at H;have LMc3:=am' c3;clear c3;obtain ⟨y174,hy174⟩:∃ y_:List Bool,y_=(y171 ++ l0_0):=⟨_,rfl⟩
  replace H:(spec_paCross.l0 k l1 (l1.length:Int) 0 l0_0 a0_1 y174 (!a0_1))=some (r1,r2):=by first|(rw[hy174];with_reducible exact H)|(have H2_:=(Option.bind_some _ _).symm.trans H;rw[hy174];with_reducible exact H2_)|(have H2_:=(Option.bind_some _ _).symm.trans H;with_reducible exact H2_)|with_reducible exact H|(rw[hy174];exact H)|exact H
  have Ny174:=am' hy174;clear hy174;have H':=am' H;clear H;go_enter Try.func60,Try.ntmps60
  try go_wp2_with (first|((with_reducible refine gate_dst (N:=2) rfl ?_);refine box_event ?hg (N:=2) ?hd (cs:=#[.slice A0_0 l0_0.length c0_0, .bool a0_1]) (t:=38) ?hr ?_;(case hd=>rfl);(case hg=>rfl);(case hr=>first|(go_simp;done)|(go_simp;rfl));intro gb169 hg w4 hbox hb;have n0_:=am' (bt' xb' hb);have n1_:=am' (hbox);have n2_:=am' ((by rw[hg];exact (bz' xb'):w.heap.size≤gb169));have n3_:=am' ((by rw[hg];exact (bz' xb'):w.heap.size≤gb169));clear HB;have HB:=n0_;have BK169:=n1_;have GW169:=n2_;have GE169:=n3_;clear n0_ n1_ n2_ n3_;clear hb hbox hg)|((with_reducible refine gate_dst (N:=4) rfl ?_);refine box_event ?hg (N:=4) ?hd (cs:=#[.slice none 0 0, .bool false]) (t:=38) ?hr ?_;(case hd=>rfl);(case hg=>rfl);(case hr=>first|(go_simp;done)|(go_simp;rfl));intro gb170 hg w5 hbox hb;have n0_:=am' (bb' (g:=gb169) (o := .cells #[.slice A0_0 l0_0.length c0_0, .bool a0_1] 38 (0,0)) (kk' BK169.out) hb);have n1_:=am' (bt' (yb' GE169.out) hb);have n2_:=am' (hbox);have n3_:=am' ((by rw[hg];exact (bz' (yb' GE169.out)):w.heap.size≤gb170));have n4_:=am' ((by rw[hg];exact (bz' (yb' GE169.out)):w.heap.size≤gb170));have n5_:=am' ((by rw[hg];exact Nat.ne_of_lt (blk_lt (g:=gb169) (o := .cells #[.slice A0_0 l0_0.length c0_0, .bool a0_1] 38 (0,0)) (kk' BK169.out)):gb169≠gb170));have n6_:=am' ((by rw[hg];exact Nat.ne_of_gt (blk_lt (g:=gb169) (o := .cells #[.slice A0_0 l0_0.length c0_0, .bool a0_1] 38 (0,0)) (kk' BK169.out)):gb170≠gb169));clear BK169;clear HB;have BK169:=n0_;have HB:=n1_;have BK170:=n2_;have GW170:=n3_;have GE170:=n4_;have NB169_170:=n5_;have NB170_169:=n6_;clear n0_ n1_ n2_ n3_ n4_ n5_ n6_;clear hb hbox hg))
  have n0_:=am' (kd' BK169.out);have n1_:=am' (kd' BK170.out);have n2_:=am' (be' HB.out);clear BK169;clear BK170;clear HB;have BK169:=n0_;have BK170:=n1_;have HB:=n2_;clear n0_ n1_ n2_;refine start_ (n:=10) (S:=fun w'=>w'.cell? ⟨gb169,0,none⟩=some (.slice A0_0 l0_0.length c0_0)∧w'.cell? ⟨gb169,1,none⟩=some (.bool a0_1)) (ds:=[]) #[false,false,false,false,false,false,false,false,false,false] xk' rfl rfl ⟨(bc' BK169.out 0).trans rfl,(bc' BK169.out 1).trans rfl⟩ (fun hHeld=>?_);refine with_tabW spec_paCross.tab1 spec_paCross.bits1 (fun HT_ HW_=>?_);generalize w5.drew=w6 at BK169 BK170 HB hHeld ⊢
  refine pure_ (i:=1) (N:=some 9) (v:=?_) (a':=?_) #[false,true,false,false,false,false,false,false,false,false] rfl rfl (any_of HT_.out xk') (fun _ _ _ h=>h) (Or.inl ⟨by rfl,?_⟩) ?_ ?_
  rotate_left
  ·
   intro w';go_simp;with_reducible rfl
  rotate_left
  ·
   simp only[Act.put,sa',sb',sc',i64_w,i32_w];rfl
  refine pure_ (i:=4) (N:=some 12) (v:=?_) (a':=?_) #[false,true,false,false,true,false,false,false,false,false] rfl rfl (any_of HT_.out xk') (fun _ _ _ h=>h) (Or.inl ⟨by rfl,?_⟩) ?_ ?_
  rotate_left
  ·
   intro w';go_simp;with_reducible rfl
  rotate_left
  ·
   simp only[Act.put,sa',sb',sc',i64_w,i32_w];rfl
  refine take_ (i:=2) (N:=some 10) (v:=?_) (a':=?_) #[false,true,true,false,true,false,false,false,false,false] rfl rfl (take_ofW HT_.out HW_.out xk') (fun _ _ _ h=>h) (Or.inl ⟨by rfl,?_⟩) hHeld ?_ ?_
  rotate_left
  ·
   rintro w' ⟨s0,s1⟩
   go_simp;with_reducible rfl
  rotate_left
  ·
   simp only[Act.put,sa',sb',sc',i64_w,i32_w];rfl
  refine take_ (i:=5) (N:=some 13) (v:=?_) (a':=?_) #[false,true,true,false,true,true,false,false,false,false] rfl rfl (take_ofW HT_.out HW_.out xk') (fun _ _ _ h=>h) (Or.inl ⟨by rfl,?_⟩) hHeld ?_ ?_
  rotate_left
  ·
   rintro w' ⟨s0,s1⟩
   go_simp;with_reducible rfl
  rotate_left
  ·
   simp only[Act.put,sa',sb',sc',i64_w,i32_w];rfl
  refine pure_ (i:=6) (N:=some 14) (v:=?_) (a':=?_) #[false,true,true,false,true,true,true,false,false,false] rfl rfl (any_of HT_.out xk') (fun _ _ _ h=>h) (Or.inl ⟨by rfl,?_⟩) ?_ ?_
  rotate_left
  ·
   intro w';go_simp;with_reducible rfl
  rotate_left
  ·
   simp only[Act.put,sa',sb',sc',i64_w,i32_w];rfl
  refine join_ (σ:=Value × Value × Nat) 1 #[true,true,true,true,true,true,true,true,true,false] (fun s_=>[(8,s_.1),(11,s_.2.1),(5, .pointer (some ⟨s_.2.2,0,none⟩)),(15, .agg #[s_.2.1, .bool (!a0_1)])]) (fun s_ w'=>(w'.cell? ⟨gb169,0,none⟩=some (.slice A0_0 l0_0.length c0_0)∧w'.cell? ⟨gb169,1,none⟩=some (.bool a0_1))∧(Kd.R Kd.bool 4 w' w.heap.size (fun _=>True) s_.2.1 y174)∧(w'.heap[gb169]? = some (.cells #[.slice A0_0 l0_0.length c0_0, .bool a0_1] 38 (0,0)))∧(w'.heap[gb170]? = some (.cells #[.slice none 0 0, .bool false] 38 (0,0)))∧(w'.heap[s_.2.2]? = some (.cells #[.slice none 0 0, .bool false] 38 (0,0)))∧(w.heap.size≤s_.2.2)∧(w.heap.size≤s_.2.2)∧(gb169≠s_.2.2)∧(s_.2.2≠gb169)∧(gb170≠s_.2.2)∧(s_.2.2≠gb170)∧(Below w.heap.size w w')) ?_ ?_
  rotate_left
  ·
   intro hCont;refine two_ (i:=0) (j:=8) (Ni:=some 8) (Nj:=some 5) #[true,true,true,false,true,true,true,false,false,false] #[false,true,true,false,true,true,true,false,true,false] rfl rfl rfl rfl (two_of HT_.out xk') (by decide) (by decide) (fun K hK=>?_) (fun K hK=>?_)
   ·
    skip
    refine Kd.R_lit_step Kd.bool _ 4 ?hg (N:=8) ?hd (xs:=([]:List Bool)) (inner:=[]) (ok:=fun _=>True) (okp:=fun _=>True) ?hr ?hp (fun _ hk=>hk) trivial (Below.refl _ _) (Nat.le_refl _) (by simp) ?_;(case hd=>rfl);(case hg=>rfl);(case hr=>first|(go_simp;done)|(go_simp;rfl));(case hp=>exact (Reps.none _ _))
    intro v172 w7 ho8 hb hg_ hnew_;clear hg_ hnew_;(first|rw[← Ny171.out] at ho8|(simp only[Int.reduceToNat] at ho8;rw[← Ny171.out] at ho8))
    have n0_:=am' (Kd.R_lower ho8 (bz' (y2' GE169.out GE170.out)));have n1_:=am' (bb' (g:=gb169) (o := .cells #[.slice A0_0 l0_0.length c0_0, .bool a0_1] 38 (0,0)) (kk' BK169.out) hb);have n2_:=am' (bb' (g:=gb170) (o := .cells #[.slice none 0 0, .bool false] 38 (0,0)) (kk' BK170.out) hb);have n3_:=am' (bt' (y2' GE169.out GE170.out) hb);clear BK169;clear BK170;clear HB;have HO173:=n0_;have BK169:=n1_;have BK170:=n2_;have HB:=n3_;clear n0_ n1_ n2_ n3_;clear hb ho8;refine hK.out _ _ ⟨(bc' BK169.out 0).trans rfl,(bc' BK169.out 1).trans rfl⟩ (fun hHeld=>?_);clear hK K;refine norm_ (a':=?_) ?_ ?_
    rotate_left
    ·
     show Act.put _ (some 8) _=_
     simp only[Act.put,sa',sb',sc',i64_w,i32_w];rfl
    refine two_ (i:=3) (j:=8) (Ni:=some 11) (Nj:=some 5) #[true,true,true,true,true,true,true,false,false,false] #[true,true,true,false,true,true,true,false,true,false] rfl rfl rfl rfl (two_of HT_.out xk') (by decide) (by decide) (fun K hK=>?_) (fun K hK=>?_)
    ·
     skip
     refine Kd.R_append_rows_step Kd.bool (w0:=w) w.heap.size (by rfl) (.tmp 8) (.tmp 10) 23 4 (.bool false) 1 rfl Try.underlying23 info4 rfl (by decide) (by omega) v172 y171 l0_0 _ _ _ (fun _=>True) (fun _=>False) rfl rfl ?aO ?aR (fun _ _ h=>h) (fun _ h=>h.elim) ?aF ?aB ?aS ?aL ?_
     (case aR=>exact kc' (cb' HR0_0.out HB.out))
     (case aB=>exact (y2' GE169.out GE170.out))
     (case aF=>exact (fun _ _=>trivial))
     (case aO=>exact (kr' HO173.out))
     (case aS=>exact (bz' (y2' GE169.out GE170.out)))
     (case aL=>have:=LMc3.out;omega)
     intro v175 w9 ho hb hg hat;rw[← Ny174.out] at ho;have n0_:=am' (blk_grown (g:=gb169) (o := .cells #[.slice A0_0 l0_0.length c0_0, .bool a0_1] 38 (0,0)) (kk' BK169.out) hg (Kd.R_ne HO173.out BK169.out (by decide)));have n1_:=am' (blk_grown (g:=gb170) (o := .cells #[.slice none 0 0, .bool false] 38 (0,0)) (kk' BK170.out) hg (Kd.R_ne HO173.out BK170.out (by decide)));have n2_:=am' (hb);have n3_:=am' (ho);clear BK169;clear BK170;clear HB;clear HO173;have BK169:=n0_;have BK170:=n1_;have HB:=n2_;have HO176:=n3_;clear n0_ n1_ n2_ n3_;clear ho hb hg hat;obtain ⟨Ao10,co10,eo10⟩:=Kd.R_slice HO176.out
     (first|subst eo10|(injection eo10 with f1_ f2_ f3_;have f4_:=f1_.symm;have f5_:=f3_.symm;clear f1_ f2_ f3_;subst f4_;subst f5_))
     refine hK.out _ _ ⟨(bc' BK169.out 0).trans rfl,(bc' BK169.out 1).trans rfl⟩ (fun hHeld=>?_);clear hK K;refine norm_ (a':=?_) ?_ ?_
     rotate_left
     ·
      show Act.put _ (some 11) _=_
      simp only[Act.put,sa',sb',sc',i64_w,i32_w];rfl
     refine pure_ (i:=7) (N:=some 15) (v:=?_) (a':=?_) #[true,true,true,true,true,true,true,true,false,false] rfl rfl (any_of HT_.out xk') (fun _ _ _ h=>h) (Or.inl ⟨by rfl,?_⟩) ?_ ?_
     rotate_left
     ·
      intro w';go_simp;with_reducible rfl
     rotate_left
     ·
      simp only[Act.put,sa',sb',sc',i64_w,i32_w];rfl
     refine one_ (i:=8) (N:=some 5) #[true,true,true,true,true,true,true,true,true,false] rfl rfl (one_of HT_.out xk') (by decide) (fun K hK=>?_);refine box_step ?hg (N:=5) ?hd (cs:=#[.slice none 0 0, .bool false]) (t:=38) ?hr ?_;(case hd=>rfl);(case hg=>rfl);(case hr=>first|(go_simp;done)|(go_simp;rfl))
     intro gb177 hg w11 hbox hb;have n0_:=am' (rb' (kr' HO176.out) hb);have n1_:=am' (bb' (g:=gb169) (o := .cells #[.slice A0_0 l0_0.length c0_0, .bool a0_1] 38 (0,0)) (kk' BK169.out) hb);have n2_:=am' (bb' (g:=gb170) (o := .cells #[.slice none 0 0, .bool false] 38 (0,0)) (kk' BK170.out) hb);have n3_:=am' (bt' (y2' GE169.out GE170.out) hb);have n4_:=am' (hbox);have n5_:=am' ((by rw[hg];exact (bz' (y2' GE169.out GE170.out)):w.heap.size≤gb177));have n6_:=am' ((by rw[hg];exact (bz' (y2' GE169.out GE170.out)):w.heap.size≤gb177));have n7_:=am' ((by rw[hg];exact Nat.ne_of_lt (blk_lt (g:=gb169) (o := .cells #[.slice A0_0 l0_0.length c0_0, .bool a0_1] 38 (0,0)) (kk' BK169.out)):gb169≠gb177));have n8_:=am' ((by rw[hg];exact Nat.ne_of_gt (blk_lt (g:=gb169) (o := .cells #[.slice A0_0 l0_0.length c0_0, .bool a0_1] 38 (0,0)) (kk' BK169.out)):gb177≠gb169));have n9_:=am' ((by rw[hg];exact Nat.ne_of_lt (blk_lt (g:=gb170) (o := .cells #[.slice none 0 0, .bool false] 38 (0,0)) (kk' BK170.out)):gb170≠gb177));have n10_:=am' ((by rw[hg];exact Nat.ne_of_gt (blk_lt (g:=gb170) (o := .cells #[.slice none 0 0, .bool false] 38 (0,0)) (kk' BK170.out)):gb177≠gb170));clear HO176;clear BK169;clear BK170;clear HB;have HO176:=n0_;have BK169:=n1_;have BK170:=n2_;have HB:=n3_;have BK177:=n4_;have GW177:=n5_;have GE177:=n6_;have NB169_177:=n7_;have NB177_169:=n8_;have NB170_177:=n9_;have NB177_170:=n10_;clear n0_ n1_ n2_ n3_ n4_ n5_ n6_ n7_ n8_ n9_ n10_;clear hb hbox hg;refine hK.out _ _ ⟨(bc' BK169.out 0).trans rfl,(bc' BK169.out 1).trans rfl⟩ (fun hHeld=>?_);clear hK K;refine norm_ (a':=?_) ?_ ?_
     rotate_left
     ·
      show Act.put _ (some 5) _=_
      simp only[Act.put,sa',sb',sc',i64_w,i32_w];rfl
     exact norm_ (by simp only[putAll,Act.put,sa',sb',sc']) (hCont (v172, .slice Ao10 y174.length co10,gb177) _ ⟨hHeld,(kr' HO176.out),(kk' BK169.out),(kk' BK170.out),(kk' BK177.out),GW177.out,GE177.out,NB169_177.out,NB177_169.out,NB170_177.out,NB177_170.out,(y3' GE169.out GE170.out GE177.out)⟩)
    ·
     skip
     refine box_step ?hg (N:=5) ?hd (cs:=#[.slice none 0 0, .bool false]) (t:=38) ?hr ?_;(case hd=>rfl);(case hg=>rfl);(case hr=>first|(go_simp;done)|(go_simp;rfl))
     intro gb177 hg w9 hbox hb;have n0_:=am' (rb' (kr' HO173.out) hb);have n1_:=am' (bb' (g:=gb169) (o := .cells #[.slice A0_0 l0_0.length c0_0, .bool a0_1] 38 (0,0)) (kk' BK169.out) hb);have n2_:=am' (bb' (g:=gb170) (o := .cells #[.slice none 0 0, .bool false] 38 (0,0)) (kk' BK170.out) hb);have n3_:=am' (bt' (y2' GE169.out GE170.out) hb);have n4_:=am' (hbox);have n5_:=am' ((by rw[hg];exact (bz' (y2' GE169.out GE170.out)):w.heap.size≤gb177));have n6_:=am' ((by rw[hg];exact (bz' (y2' GE169.out GE170.out)):w.heap.size≤gb177));have n7_:=am' ((by rw[hg];exact Nat.ne_of_lt (blk_lt (g:=gb169) (o := .cells #[.slice A0_0 l0_0.length c0_0, .bool a0_1] 38 (0,0)) (kk' BK169.out)):gb169≠gb177));have n8_:=am' ((by rw[hg];exact Nat.ne_of_gt (blk_lt (g:=gb169) (o := .cells #[.slice A0_0 l0_0.length c0_0, .bool a0_1] 38 (0,0)) (kk' BK169.out)):gb177≠gb169));have n9_:=am' ((by rw[hg];exact Nat.ne_of_lt (blk_lt (g:=gb170) (o := .cells #[.slice none 0 0, .bool false] 38 (0,0)) (kk' BK170.out)):gb170≠gb177));have n10_:=am' ((by rw[hg];exact Nat.ne_of_gt (blk_lt (g:=gb170) (o := .cells #[.slice none 0 0, .bool false] 38 (0,0)) (kk' BK170.out)):gb177≠gb170));clear HO173;clear BK169;clear BK170;clear HB;have HO173:=n0_;have BK169:=n1_;have BK170:=n2_;have HB:=n3_;have BK177:=n4_;have GW177:=n5_;have GE177:=n6_;have NB169_177:=n7_;have NB177_169:=n8_;have NB170_177:=n9_;have NB177_170:=n10_;clear n0_ n1_ n2_ n3_ n4_ n5_ n6_ n7_ n8_ n9_ n10_;clear hb hbox hg;refine hK.out _ _ ⟨(bc' BK169.out 0).trans rfl,(bc' BK169.out 1).trans rfl⟩ (fun hHeld=>?_);clear hK K;refine norm_ (a':=?_) ?_ ?_
     rotate_left
     ·
      show Act.put _ (some 5) _=_
      simp only[Act.put,sa',sb',sc',i64_w,i32_w];rfl
     refine one_ (i:=3) (N:=some 11) #[true,true,true,true,true,true,true,false,true,false] rfl rfl (one_of HT_.out xk') (by decide) (fun K hK=>?_);refine Kd.R_append_rows_step Kd.bool (w0:=w) w.heap.size (by rfl) (.tmp 8) (.tmp 10) 23 4 (.bool false) 1 rfl Try.underlying23 info4 rfl (by decide) (by omega) v172 y171 l0_0 _ _ _ (fun _=>True) (fun _=>False) rfl rfl ?aO ?aR (fun _ _ h=>h) (fun _ h=>h.elim) ?aF ?aB ?aS ?aL ?_
     (case aR=>exact kc' (cb' HR0_0.out HB.out))
     (case aB=>exact (y3' GE169.out GE170.out GE177.out))
     (case aF=>exact (fun _ _=>trivial))
     (case aO=>exact (kr' HO173.out))
     (case aS=>exact (bz' (y3' GE169.out GE170.out GE177.out)))
     (case aL=>have:=LMc3.out;omega)
     intro v175 w10 ho hb hg hat;rw[← Ny174.out] at ho;have n0_:=am' (blk_grown (g:=gb169) (o := .cells #[.slice A0_0 l0_0.length c0_0, .bool a0_1] 38 (0,0)) (kk' BK169.out) hg (Kd.R_ne HO173.out BK169.out (by decide)));have n1_:=am' (blk_grown (g:=gb170) (o := .cells #[.slice none 0 0, .bool false] 38 (0,0)) (kk' BK170.out) hg (Kd.R_ne HO173.out BK170.out (by decide)));have n2_:=am' (blk_grown (g:=gb177) (o := .cells #[.slice none 0 0, .bool false] 38 (0,0)) (kk' BK177.out) hg (Kd.R_ne HO173.out BK177.out (by decide)));have n3_:=am' (hb);have n4_:=am' (ho);clear BK169;clear BK170;clear BK177;clear HB;clear HO173;have BK169:=n0_;have BK170:=n1_;have BK177:=n2_;have HB:=n3_;have HO176:=n4_;clear n0_ n1_ n2_ n3_ n4_;clear ho hb hg hat;obtain ⟨Ao11,co11,eo11⟩:=Kd.R_slice HO176.out
     (first|subst eo11|(injection eo11 with f1_ f2_ f3_;have f4_:=f1_.symm;have f5_:=f3_.symm;clear f1_ f2_ f3_;subst f4_;subst f5_))
     refine hK.out _ _ ⟨(bc' BK169.out 0).trans rfl,(bc' BK169.out 1).trans rfl⟩ (fun hHeld=>?_);clear hK K;refine norm_ (a':=?_) ?_ ?_
     rotate_left
     ·
      show Act.put _ (some 11) _=_
      simp only[Act.put,sa',sb',sc',i64_w,i32_w];rfl
     refine pure_ (i:=7) (N:=some 15) (v:=?_) (a':=?_) #[true,true,true,true,true,true,true,true,true,false] rfl rfl (any_of HT_.out xk') (fun _ _ _ h=>h) (Or.inl ⟨by rfl,?_⟩) ?_ ?_
     rotate_left
     ·
      intro w';go_simp;with_reducible rfl
     rotate_left
     ·
      simp only[Act.put,sa',sb',sc',i64_w,i32_w];rfl
     exact norm_ (by simp only[putAll,Act.put,sa',sb',sc']) (hCont (v172, .slice Ao11 y174.length co11,gb177) _ ⟨hHeld,(kr' HO176.out),(kk' BK169.out),(kk' BK170.out),(kk' BK177.out),GW177.out,GE177.out,NB169_177.out,NB177_169.out,NB170_177.out,NB177_170.out,(y3' GE169.out GE170.out GE177.out)⟩)
   ·
    skip
    refine box_step ?hg (N:=5) ?hd (cs:=#[.slice none 0 0, .bool false]) (t:=38) ?hr ?_;(case hd=>rfl);(case hg=>rfl);(case hr=>first|(go_simp;done)|(go_simp;rfl))
    intro gb177 hg w7 hbox hb;have n0_:=am' (bb' (g:=gb169) (o := .cells #[.slice A0_0 l0_0.length c0_0, .bool a0_1] 38 (0,0)) (kk' BK169.out) hb);have n1_:=am' (bb' (g:=gb170) (o := .cells #[.slice none 0 0, .bool false] 38 (0,0)) (kk' BK170.out) hb);have n2_:=am' (bt' (y2' GE169.out GE170.out) hb);have n3_:=am' (hbox);have n4_:=am' ((by rw[hg];exact (bz' (y2' GE169.out GE170.out)):w.heap.size≤gb177));have n5_:=am' ((by rw[hg];exact (bz' (y2' GE169.out GE170.out)):w.heap.size≤gb177));have n6_:=am' ((by rw[hg];exact Nat.ne_of_lt (blk_lt (g:=gb169) (o := .cells #[.slice A0_0 l0_0.length c0_0, .bool a0_1] 38 (0,0)) (kk' BK169.out)):gb169≠gb177));have n7_:=am' ((by rw[hg];exact Nat.ne_of_gt (blk_lt (g:=gb169) (o := .cells #[.slice A0_0 l0_0.length c0_0, .bool a0_1] 38 (0,0)) (kk' BK169.out)):gb177≠gb169));have n8_:=am' ((by rw[hg];exact Nat.ne_of_lt (blk_lt (g:=gb170) (o := .cells #[.slice none 0 0, .bool false] 38 (0,0)) (kk' BK170.out)):gb170≠gb177));have n9_:=am' ((by rw[hg];exact Nat.ne_of_gt (blk_lt (g:=gb170) (o := .cells #[.slice none 0 0, .bool false] 38 (0,0)) (kk' BK170.out)):gb177≠gb170));clear BK169;clear BK170;clear HB;have BK169:=n0_;have BK170:=n1_;have HB:=n2_;have BK177:=n3_;have GW177:=n4_;have GE177:=n5_;have NB169_177:=n6_;have NB177_169:=n7_;have NB170_177:=n8_;have NB177_170:=n9_;clear n0_ n1_ n2_ n3_ n4_ n5_ n6_ n7_ n8_ n9_;clear hb hbox hg;refine hK.out _ _ ⟨(bc' BK169.out 0).trans rfl,(bc' BK169.out 1).trans rfl⟩ (fun hHeld=>?_);clear hK K;refine norm_ (a':=?_) ?_ ?_
    rotate_left
    ·
     show Act.put _ (some 5) _=_
     simp only[Act.put,sa',sb',sc',i64_w,i32_w];rfl
    refine one_ (i:=0) (N:=some 8) #[true,true,true,false,true,true,true,false,true,false] rfl rfl (one_of HT_.out xk') (by decide) (fun K hK=>?_);refine Kd.R_lit_step Kd.bool _ 4 ?hg (N:=8) ?hd (xs:=([]:List Bool)) (inner:=[]) (ok:=fun _=>True) (okp:=fun _=>True) ?hr ?hp (fun _ hk=>hk) trivial (Below.refl _ _) (Nat.le_refl _) (by simp) ?_;(case hd=>rfl);(case hg=>rfl);(case hr=>first|(go_simp;done)|(go_simp;rfl));(case hp=>exact (Reps.none _ _))
    intro v172 w8 ho9 hb hg_ hnew_;clear hg_ hnew_;(first|rw[← Ny171.out] at ho9|(simp only[Int.reduceToNat] at ho9;rw[← Ny171.out] at ho9))
    have n0_:=am' (Kd.R_lower ho9 (bz' (y3' GE169.out GE170.out GE177.out)));have n1_:=am' (bb' (g:=gb169) (o := .cells #[.slice A0_0 l0_0.length c0_0, .bool a0_1] 38 (0,0)) (kk' BK169.out) hb);have n2_:=am' (bb' (g:=gb170) (o := .cells #[.slice none 0 0, .bool false] 38 (0,0)) (kk' BK170.out) hb);have n3_:=am' (bb' (g:=gb177) (o := .cells #[.slice none 0 0, .bool false] 38 (0,0)) (kk' BK177.out) hb);have n4_:=am' (bt' (y3' GE169.out GE170.out GE177.out) hb);clear BK169;clear BK170;clear BK177;clear HB;have HO173:=n0_;have BK169:=n1_;have BK170:=n2_;have BK177:=n3_;have HB:=n4_;clear n0_ n1_ n2_ n3_ n4_;clear hb ho9;refine hK.out _ _ ⟨(bc' BK169.out 0).trans rfl,(bc' BK169.out 1).trans rfl⟩ (fun hHeld=>?_);clear hK K;refine norm_ (a':=?_) ?_ ?_
    rotate_left
    ·
     show Act.put _ (some 8) _=_
     simp only[Act.put,sa',sb',sc',i64_w,i32_w];rfl
    refine one_ (i:=3) (N:=some 11) #[true,true,true,true,true,true,true,false,true,false] rfl rfl (one_of HT_.out xk') (by decide) (fun K hK=>?_);refine Kd.R_append_rows_step Kd.bool (w0:=w) w.heap.size (by rfl) (.tmp 8) (.tmp 10) 23 4 (.bool false) 1 rfl Try.underlying23 info4 rfl (by decide) (by omega) v172 y171 l0_0 _ _ _ (fun _=>True) (fun _=>False) rfl rfl ?aO ?aR (fun _ _ h=>h) (fun _ h=>h.elim) ?aF ?aB ?aS ?aL ?_
    (case aR=>exact kc' (cb' HR0_0.out HB.out))
    (case aB=>exact (y3' GE169.out GE170.out GE177.out))
    (case aF=>exact (fun _ _=>trivial))
    (case aO=>exact (kr' HO173.out))
    (case aS=>exact (bz' (y3' GE169.out GE170.out GE177.out)))
    (case aL=>have:=LMc3.out;omega)
    intro v175 w10 ho hb hg hat;rw[← Ny174.out] at ho;have n0_:=am' (blk_grown (g:=gb169) (o := .cells #[.slice A0_0 l0_0.length c0_0, .bool a0_1] 38 (0,0)) (kk' BK169.out) hg (Kd.R_ne HO173.out BK169.out (by decide)));have n1_:=am' (blk_grown (g:=gb170) (o := .cells #[.slice none 0 0, .bool false] 38 (0,0)) (kk' BK170.out) hg (Kd.R_ne HO173.out BK170.out (by decide)));have n2_:=am' (blk_grown (g:=gb177) (o := .cells #[.slice none 0 0, .bool false] 38 (0,0)) (kk' BK177.out) hg (Kd.R_ne HO173.out BK177.out (by decide)));have n3_:=am' (hb);have n4_:=am' (ho);clear BK169;clear BK170;clear BK177;clear HB;clear HO173;have BK169:=n0_;have BK170:=n1_;have BK177:=n2_;have HB:=n3_;have HO176:=n4_;clear n0_ n1_ n2_ n3_ n4_;clear ho hb hg hat;obtain ⟨Ao11,co11,eo11⟩:=Kd.R_slice HO176.out
    (first|subst eo11|(injection eo11 with f1_ f2_ f3_;have f4_:=f1_.symm;have f5_:=f3_.symm;clear f1_ f2_ f3_;subst f4_;subst f5_))
    refine hK.out _ _ ⟨(bc' BK169.out 0).trans rfl,(bc' BK169.out 1).trans rfl⟩ (fun hHeld=>?_);clear hK K;refine norm_ (a':=?_) ?_ ?_
    rotate_left
    ·
     show Act.put _ (some 11) _=_
     simp only[Act.put,sa',sb',sc',i64_w,i32_w];rfl
    refine pure_ (i:=7) (N:=some 15) (v:=?_) (a':=?_) #[true,true,true,true,true,true,true,true,true,false] rfl rfl (any_of HT_.out xk') (fun _ _ _ h=>h) (Or.inl ⟨by rfl,?_⟩) ?_ ?_
    rotate_left
    ·
     intro w';go_simp;with_reducible rfl
    rotate_left
    ·
     simp only[Act.put,sa',sb',sc',i64_w,i32_w];rfl
    exact norm_ (by simp only[putAll,Act.put,sa',sb',sc']) (hCont (v172, .slice Ao11 y174.length co11,gb177) _ ⟨hHeld,(kr' HO176.out),(kk' BK169.out),(kk' BK170.out),(kk' BK177.out),GW177.out,GE177.out,NB169_177.out,NB177_169.out,NB170_177.out,NB177_170.out,(y3' GE169.out GE170.out GE177.out)⟩)
  rintro ⟨v172,v175,gb177⟩ w12 ⟨hS_,h0_,h1_,h2_,h3_,h4_,h5_,h6_,h7_,h8_,h9_,h10_⟩
  have n0_:Aside0 (Kd.R Kd.bool 4 w12 w.heap.size (fun _=>True) v175 y174):=⟨h0_⟩
  have n1_:Aside0 (w12.heap[gb169]? = some (.cells #[.slice A0_0 l0_0.length c0_0, .bool a0_1] 38 (0,0))):=⟨h1_⟩
  have n2_:Aside0 (w12.heap[gb170]? = some (.cells #[.slice none 0 0, .bool false] 38 (0,0))):=⟨h2_⟩
  have n3_:Aside0 (w12.heap[gb177]? = some (.cells #[.slice none 0 0, .bool false] 38 (0,0))):=⟨h3_⟩
  have n4_:Aside0 (w.heap.size≤gb177):=⟨h4_⟩
  have n5_:Aside0 (w.heap.size≤gb177):=⟨h5_⟩
  have n6_:Aside0 (gb169≠gb177):=⟨h6_⟩
  have n7_:Aside0 (gb177≠gb169):=⟨h7_⟩
  have n8_:Aside0 (gb170≠gb177):=⟨h8_⟩
  have n9_:Aside0 (gb177≠gb170):=⟨h9_⟩
  have n10_:Aside0 (Below w.heap.size w w12):=⟨h10_⟩
  clear BK169;clear BK170;clear HB;clear h0_ h1_ h2_ h3_ h4_ h5_ h6_ h7_ h8_ h9_ h10_;have HO176:=n0_;have BK169:=n1_;have BK170:=n2_;have BK177:=n3_;have GW177:=n4_;have GE177:=n5_;have NB169_177:=n6_;have NB177_169:=n7_;have NB170_177:=n8_;have NB177_170:=n9_;have HB:=n10_;clear n0_ n1_ n2_ n3_ n4_ n5_ n6_ n7_ n8_ n9_ n10_;have hHeld:w12.cell? ⟨gb169,0,none⟩=some (.slice A0_0 l0_0.length c0_0)∧w12.cell? ⟨gb169,1,none⟩=some (.bool a0_1):=hS_;obtain ⟨Ao13,co13,eo13⟩:=Kd.R_slice HO176.out
  (first|subst eo13|(injection eo13 with f1_ f2_ f3_;have f4_:=f1_.symm;have f5_:=f3_.symm;clear f1_ f2_ f3_;subst f4_;subst f5_))
  refine norm_ (a':=?_) ?_ ?_
  rotate_left
  ·
   simp only[putAll,Act.put,sa',sb',sc'];rfl
  refine one_ (i:=9) (N:=none) #[true,true,true,true,true,true,true,true,true,true] rfl rfl (one_of HT_.out xk') (by decide) (fun K hK=>?_);have hs14:w12.cell? ⟨gb177,0,none⟩=some (.slice none 0 0):=(bc' BK177.out 0).trans rfl;have hfs14:=bf' BK177.out 0;have hns14_0:=NB169_177.out;have hns14_1:=NB170_177.out;have hms14_0:=NB177_169.out;have hms14_1:=NB177_170.out;have hs15:w12.cell? ⟨gb177,1,none⟩=some (.bool false):=(bc' BK177.out 1).trans rfl;have hfs15:=bf' BK177.out 1;have hns15_0:=NB169_177.out;have hns15_1:=NB170_177.out;have hms15_0:=NB177_169.out;have hms15_1:=NB177_170.out;refine skip_ (w1:=?_) (by rfl) rfl ?_ ?_
  rotate_left
  ·
   go_simp;rfl
  refine hK.out _ _ ⟨((cell_far (p:=⟨gb177,_,none⟩) NB169_177.out _).trans (((cell_far (p:=⟨gb177,_,none⟩) NB169_177.out _).trans (hHeld.1)))),((cell_far (p:=⟨gb177,_,none⟩) NB169_177.out _).trans (((cell_far (p:=⟨gb177,_,none⟩) NB169_177.out _).trans (hHeld.2))))⟩ (fun hHeld=>?_);clear hK K;refine done_ (done_of HT_.out xk') ?_
  try go_wp2
  go_loopg [18] k (fun kq v18 w'=>∃ (x18_1:Int) (x178000_1:List Bool) (u178000:Value),v18 = .int .i64 x18_1∧Aside0 (spec_paCross.l0 kq l1 (l1.length:Int) x18_1 l0_0 a0_1 x178000_1 (!a0_1)=some (r1,r2))∧Aside0 (kq≤k)∧Aside0 (Kd.R Kd.bool 4 w' w.heap.size (fun _=>True) u178000 x178000_1)∧Aside0 (w'.heap[gb169]? = some (.cells #[(.slice A0_0 l0_0.length c0_0), .bool a0_1] 38 (0,0)))∧Aside0 (w'.heap[gb170]? = some (.cells #[(.slice none 0 0), .bool false] 38 (0,0)))∧Aside0 (w'.heap[gb177]? = some (.cells #[u178000, .bool (!a0_1)] 38 (0,0)))∧Aside0 (Below w.heap.size w w'))
  case atStart=>exact ⟨(0),(y174),(.slice Ao13 y174.length co13),xs',H',⟨Nat.le_refl _⟩,⟨by (with_reducible repeat (first|apply ra'|apply rn'|apply rw'));exact Kd.R_mono (Kd.R_far (p:=⟨gb177,1,none⟩) (Kd.R_far (p:=⟨gb177,0,none⟩) (Kd.R_types HO176.out BK177.out (by decide)) (fun _ hk=>hk.2) (.slice Ao13 y174.length co13)) (fun _ hk=>hk.2) (.bool (!a0_1))) (fun _ hk=>trivial)⟩,⟨by (with_reducible repeat (first|refine kn' ?_ _|refine kd' ?_|refine ka' ?_ _));refine blk_far ?_ NB169_177.out _;(with_reducible repeat (first|refine kn' ?_ _|refine kd' ?_|refine ka' ?_ _));refine blk_far ?_ NB169_177.out _;(with_reducible repeat (first|refine kn' ?_ _|refine kd' ?_|refine ka' ?_ _));exact BK169.out⟩,⟨by (with_reducible repeat (first|refine kn' ?_ _|refine kd' ?_|refine ka' ?_ _));refine blk_far ?_ NB170_177.out _;(with_reducible repeat (first|refine kn' ?_ _|refine kd' ?_|refine ka' ?_ _));refine blk_far ?_ NB170_177.out _;(with_reducible repeat (first|refine kn' ?_ _|refine kd' ?_|refine ka' ?_ _));exact BK170.out⟩,⟨by (with_reducible repeat (first|refine kn' ?_ _|refine kd' ?_|refine ka' ?_ _));refine blk_put (cs:=#[.slice Ao13 y174.length co13, .bool false]) ?_ 1 _ rfl;(with_reducible repeat (first|refine kn' ?_ _|refine kd' ?_|refine ka' ?_ _));refine blk_put (cs:=#[.slice none 0 0, .bool false]) ?_ 0 _ rfl;(with_reducible repeat (first|refine kn' ?_ _|refine kd' ?_|refine ka' ?_ _));exact BK177.out⟩,⟨y3' GE169.out GE170.out GE177.out⟩⟩
  case round =>
   clear H';try clear c1
   try clear p2
   try clear c3
   try clear c6
   obtain ⟨x18_1,x178000_1,u178000,rfl,HA,HK1,HO_178000,BK169,BK170,BK177,HB⟩:=hrel;cases gk with
   | zero=>exact absurd HA.out (by simp[spec_paCross.l0])
   | succ k1 =>
    have H:=HA.out;clear HA;simp only[spec_paCross.l0] at H;by_cases c16:x18_1 < (l1.length:Int)
    ·
     rw[if_pos c16] at H;have c16b0:decide (x18_1 < (l1.length:Int))=true:=dt' c16;clear c16;by_cases c17:0≤x18_1
     ·
      rw[if_pos c17] at H;have c17b0:decide (0≤x18_1)=true:=dt' c17;clear c17;by_cases c18:x18_1 < (l1.length:Int)
      ·
       rw[if_pos c18] at H;have c18b0:decide (x18_1 < (l1.length:Int))=true:=dt' c18;clear c18;by_cases c19:0≤(rd l1 x18_1)
       ·
        rw[if_pos c19] at H;have c19b0:decide (0≤(rd l1 x18_1))=true:=dt' c19;clear c19;by_cases c20:(rd l1 x18_1) < (l0_0.length:Int)
        ·
         rw[if_pos c20] at H;have c20b0:decide ((rd l1 x18_1) < (l0_0.length:Int))=true:=dt' c20;clear c20;by_cases c21:(rd l1 x18_1) < (x178000_1.length:Int)
         ·
          rw[if_pos c21] at H;have c21b0:decide ((rd l1 x18_1) < (x178000_1.length:Int))=true:=dt' c21;clear c21;obtain ⟨y180,hy180⟩:∃ y_:List Bool,y_=(x178000_1.set ((rd l1 x18_1):Int).toNat (!(rdOf false l0_0 (rd l1 x18_1)))):=⟨_,rfl⟩
          replace H:(spec_paCross.l0 k1 l1 (l1.length:Int) (wrap64 (x18_1+1)) l0_0 a0_1 y180 (!a0_1))=some (r1,r2):=by first|(rw[hy180];with_reducible exact H)|(have H2_:=(Option.bind_some _ _).symm.trans H;rw[hy180];with_reducible exact H2_)|(have H2_:=(Option.bind_some _ _).symm.trans H;with_reducible exact H2_)|with_reducible exact H|(rw[hy180];exact H)|exact H
          have Ny180:=am' hy180;clear hy180;have H':=am' H;clear H;have p178:0≤(x18_1:Int):=od' xa';have q178:x18_1 < (l1.length:Int):=od' xa';obtain ⟨ad178,e178,hx178_0⟩:=Kd.at_int HR1.out x18_1 p178 q178;cases e178;replace hx178_0:=(HB.out.cell (bl' w _ hx178_0)).trans hx178_0;replace p178:=eq_true p178;replace q178:=eq_true q178
          try go_wp2
          have n0_:=am' (rw' HO_178000.out);have n1_:=am' (kd' BK169.out);have n2_:=am' (kd' BK170.out);have n3_:=am' (kd' BK177.out);have n4_:=am' (be' HB.out);clear HO_178000;clear BK169;clear BK170;clear BK177;clear HB;have HO_178000:=n0_;have BK169:=n1_;have BK170:=n2_;have BK177:=n3_;have HB:=n4_;clear n0_ n1_ n2_ n3_ n4_;have p179:0≤((rd l1 x18_1):Int):=od' xa';have q179:(rd l1 x18_1) < (l0_0.length:Int):=od' xa';obtain ⟨ad179,e179,hx179_0⟩:=Kd.at_bool HR0_0.out (rd l1 x18_1) p179 q179;have hw179_0:=hx179_0;cases e179;replace hx179_0:=(HB.out.cell (bl' w _ hx179_0)).trans hx179_0;replace p179:=eq_true p179;replace q179:=eq_true q179;have p22:0≤((rd l1 x18_1):Int):=od' xa';have q22:((rd l1 x18_1):Int) < ((x178000_1.length:Int):Int):=od' xa';obtain ⟨go22,co22,eo22,gb22,gl22,cl22,HG22⟩:=Kd.R_form HO_178000.out (by omega)
          (first|cases eo22|(injection eo22 with ea_ en_ ec_;(first|subst ea_|(injection ea_ with ea_;subst ea_));subst ec_;clear en_))
          have GB22:=am' gb22;have GG22:=am' HG22;clear gb22 gl22 HG22;obtain ⟨hx22_0,hf22_0⟩:=Kd.R_celln false HO_178000.out ((rd l1 x18_1):Int) p22 q22;replace p22:=eq_true p22;replace q22:=eq_true q22;have HP24:=Kd.R_putn HO_178000.out ((rd l1 x18_1):Int) (!(rdOf false l0_0 (rd l1 x18_1)));rw[← Ny180.out] at HP24;have HQ24:=am' HP24;clear HP24;refine start_ (n:=11) (S:=fun w'=>w'.cell? ⟨gb177,0,none⟩=some (.slice (some ⟨go22,0,none⟩) x178000_1.length co22)∧w'.cell? ⟨gb177,1,none⟩=some (.bool (!a0_1))∧w'.cell? ⟨gb169,0,none⟩=some (.slice (some ad179) l0_0.length c0_0)∧w'.cell? ⟨gb169,1,none⟩=some (.bool a0_1)∧w'.cell? (ad179.add ((rd l1 x18_1)).toNat)=some (.bool (rdOf false l0_0 (rd l1 x18_1)))) (ds:=[10]) #[false,false,false,false,false,false,false,false,false,false,false] xk' rfl rfl ⟨(bc' BK177.out 0).trans rfl,(bc' BK177.out 1).trans rfl,(bc' BK169.out 0).trans rfl,(bc' BK169.out 1).trans rfl,((HB.out.cell (bl' w _ hw179_0)).trans hw179_0)⟩ (fun hHeld=>?_);refine with_tabW spec_paCross.tab5 spec_paCross.bits5 (fun HT_ HW_=>?_);generalize wr.drew=w23 at HO_178000 BK169 BK170 BK177 HB GG22 HQ24 hf22_0 hx179_0 hx22_0 hHeld ⊢
          refine pure_ (i:=0) (N:=some 22) (v:=?_) (a':=?_) #[true,false,false,false,false,false,false,false,false,false,false] rfl rfl (any_of HT_.out xk') (fun _ _ _ h=>h) (Or.inl ⟨by rfl,?_⟩) ?_ ?_
          rotate_left
          ·
           intro w';go_simp;with_reducible rfl
          rotate_left
          ·
           simp only[Act.put,sa',sb',sc',i64_w,i32_w];rfl
          refine pure_ (i:=2) (N:=some 24) (v:=?_) (a':=?_) #[true,false,true,false,false,false,false,false,false,false,false] rfl rfl (any_of HT_.out xk') (fun _ _ _ h=>h) (Or.inl ⟨by rfl,?_⟩) ?_ ?_
          rotate_left
          ·
           intro w';go_simp;with_reducible rfl
          rotate_left
          ·
           simp only[Act.put,sa',sb',sc',i64_w,i32_w];rfl
          refine pure_ (i:=3) (N:=some 25) (v:=?_) (a':=?_) #[true,false,true,true,false,false,false,false,false,false,false] rfl rfl (any_of HT_.out xk') (fun _ _ _ h=>h) (Or.inl ⟨by rfl,?_⟩) ?_ ?_
          rotate_left
          ·
           intro w';go_simp;with_reducible rfl
          rotate_left
          ·
           simp only[Act.put,sa',sb',sc',i64_w,i32_w];rfl
          refine pure_ (i:=5) (N:=some 27) (v:=?_) (a':=?_) #[true,false,true,true,false,true,false,false,false,false,false] rfl rfl (any_of HT_.out xk') (fun _ _ _ h=>h) (Or.inl ⟨by rfl,?_⟩) ?_ ?_
          rotate_left
          ·
           intro w';go_simp;with_reducible rfl
          rotate_left
          ·
           simp only[Act.put,sa',sb',sc',i64_w,i32_w];rfl
          refine take_ (i:=1) (N:=some 23) (v:=?_) (a':=?_) #[true,true,true,true,false,true,false,false,false,false,false] rfl rfl (take_ofW HT_.out HW_.out xk') (fun _ _ _ h=>h) (Or.inl ⟨by rfl,?_⟩) hHeld ?_ ?_
          rotate_left
          ·
           rintro w' ⟨s0,s1,s2,s3,s4⟩
           go_simp;with_reducible rfl
          rotate_left
          ·
           simp only[Act.put,sa',sb',sc',i64_w,i32_w];rfl
          refine take_ (i:=4) (N:=some 26) (v:=?_) (a':=?_) #[true,true,true,true,true,true,false,false,false,false,false] rfl rfl (take_ofW HT_.out HW_.out xk') (fun _ _ _ h=>h) (Or.inl ⟨by rfl,?_⟩) hHeld ?_ ?_
          rotate_left
          ·
           rintro w' ⟨s0,s1,s2,s3,s4⟩
           go_simp;with_reducible rfl
          rotate_left
          ·
           simp only[Act.put,sa',sb',sc',i64_w,i32_w];rfl
          refine pure_ (i:=6) (N:=some 28) (v:=?_) (a':=?_) #[true,true,true,true,true,true,true,false,false,false,false] rfl rfl (any_of HT_.out xk') (fun _ _ _ h=>h) (Or.inl ⟨by rfl,?_⟩) ?_ ?_
          rotate_left
          ·
           intro w';go_simp;with_reducible rfl
          rotate_left
          ·
           simp only[Act.put,sa',sb',sc',i64_w,i32_w];rfl
          refine take_ (i:=7) (N:=some 29) (v:=?_) (a':=?_) #[true,true,true,true,true,true,true,true,false,false,false] rfl rfl (take_ofW HT_.out HW_.out xk') (fun _ _ _ h=>h) (Or.inl ⟨by rfl,?_⟩) hHeld ?_ ?_
          rotate_left
          ·
           rintro w' ⟨s0,s1,s2,s3,s4⟩
           go_simp;with_reducible rfl
          rotate_left
          ·
           simp only[Act.put,sa',sb',sc',i64_w,i32_w];rfl
          refine pure_ (i:=8) (N:=some 30) (v:=?_) (a':=?_) #[true,true,true,true,true,true,true,true,true,false,false] rfl rfl (any_of HT_.out xk') (fun _ _ _ h=>h) (Or.inl ⟨by rfl,?_⟩) ?_ ?_
          rotate_left
          ·
           intro w';go_simp;with_reducible rfl
          rotate_left
          ·
           simp only[Act.put,sa',sb',sc',i64_w,i32_w];rfl
          refine pure_ (i:=9) (N:=some 31) (v:=?_) (a':=?_) #[true,true,true,true,true,true,true,true,true,true,false] rfl rfl (any_of HT_.out xk') (fun _ _ _ h=>h) (Or.inl ⟨by rfl,?_⟩) ?_ ?_
          rotate_left
          ·
           intro w';go_simp;with_reducible rfl
          rotate_left
          ·
           simp only[Act.put,sa',sb',sc',i64_w,i32_w];rfl
          refine last_ (i:=10) (N:=none) #[true,true,true,true,true,true,true,true,true,true,true] rfl rfl (one_of HT_.out xk') (by decide) (fun K hK=>?_);refine skip_ (w1:=?_) (by rfl) rfl ?_ ?_
          rotate_left
          ·
           go_simp;rfl
          refine hK.out _ _ ?_
          clear hK K;refine done_ (done_of HT_.out xk') ?_
          try go_wp2
          go_roundg k1
          case measure=>have:=HK1.out;omega
          case rel=>exact ⟨(wrap64 (x18_1+1)),(y180),(.slice (some ⟨go22,0,none⟩) x178000_1.length co22),xs',H',⟨by have:=HK1.out;omega⟩,⟨kr' HQ24.out⟩,⟨by (with_reducible repeat (first|refine kn' ?_ _|refine kd' ?_|refine ka' ?_ _));refine blk_far ?_ (by have h_:=Kd.R_ne HO_178000.out BK169.out (by decide);intro e_;exact h_ (by rw[e_];rfl)) _;(with_reducible repeat (first|refine kn' ?_ _|refine kd' ?_|refine ka' ?_ _));exact BK169.out⟩,⟨by (with_reducible repeat (first|refine kn' ?_ _|refine kd' ?_|refine ka' ?_ _));refine blk_far ?_ (by have h_:=Kd.R_ne HO_178000.out BK170.out (by decide);intro e_;exact h_ (by rw[e_];rfl)) _;(with_reducible repeat (first|refine kn' ?_ _|refine kd' ?_|refine ka' ?_ _));exact BK170.out⟩,⟨by (with_reducible repeat (first|refine kn' ?_ _|refine kd' ?_|refine ka' ?_ _));refine blk_far ?_ (by have h_:=Kd.R_ne HO_178000.out BK177.out (by decide);intro e_;exact h_ (by rw[e_];rfl)) _;(with_reducible repeat (first|refine kn' ?_ _|refine kd' ?_|refine ka' ?_ _));exact BK177.out⟩,⟨y4' GB22.out GE169.out GE170.out GE177.out⟩⟩
         ·
          rw[if_neg c21] at H;exact absurd H (by simp)
        ·
         rw[if_neg c20] at H;exact absurd H (by simp)
       ·
        rw[if_neg c19] at H;exact absurd H (by simp)
      ·
       rw[if_neg c18] at H;exact absurd H (by simp)
     ·
      rw[if_neg c17] at H;exact absurd H (by simp)
    ·
     rw[if_neg c16] at H;have c16b0:decide (x18_1 < (l1.length:Int))=false:=df' c16;clear c16;simp only[Option.some.injEq,Prod.mk.injEq] at H;obtain ⟨rfl,rfl⟩:=H;have hnb25:=NB177_169.out;have hnc25:=NB169_177.out;have hnb26:=NB177_170.out;have hnc26:=NB170_177.out;have hcz27_0:wr.cell? ⟨gb177,0,none⟩=some (u178000):=(bc' BK177.out 0).trans rfl;have hcz27_1:wr.cell? ⟨gb177,1,none⟩=some (.bool (!a0_1)):=(bc' BK177.out 1).trans rfl;have hfz27_0:=bf' BK177.out 0;have hfz27_1:=bf' BK177.out 1;obtain ⟨Ao28,co28,eo28⟩:=Kd.R_slice HO_178000.out;subst eo28;have hnb29:=NB170_169.out;have hnc29:=NB169_170.out;have hcz30_0:wr.cell? ⟨gb170,0,none⟩=some (.slice none 0 0):=(bc' BK170.out 0).trans rfl;have hcz30_1:wr.cell? ⟨gb170,1,none⟩=some (.bool false):=(bc' BK170.out 1).trans rfl;have hfz30_0:=bf' BK170.out 0;have hfz30_1:=bf' BK170.out 1;go_wp2;refine bodyPost_ret (results_cell_row rfl _ _ gb170 38 #[.slice Ao28 x178000_1.length co28, .bool (!a0_1)] (0,0) _ rfl (by (with_reducible repeat (first|refine kn' ?_ _|refine kd' ?_|refine ka' ?_ _));refine blk_put (cs:=#[.slice Ao28 x178000_1.length co28, .bool false]) ?_ 1 _ rfl;(with_reducible repeat (first|refine kn' ?_ _|refine kd' ?_|refine ka' ?_ _));refine blk_put (cs:=#[.slice none 0 0, .bool false]) ?_ 0 _ rfl;(with_reducible repeat (first|refine kn' ?_ _|refine kd' ?_|refine ka' ?_ _));exact BK170.out) Try.underlying38 rfl xk') rfl ?_
     exact ⟨_,by first|rfl|(simp[errW_none,errW_some] <;> rfl)|(simp[*,errW_none,errW_some] <;> rfl),by (with_reducible repeat (first|apply ra'|apply rn'|apply rw'));exact Kd.R_mono (Kd.R_far (p:=⟨gb170,1,none⟩) (Kd.R_far (p:=⟨gb170,0,none⟩) (Kd.R_types HO_178000.out BK170.out (by decide)) (fun _ hk=>hk.2) (.slice Ao28 x178000_1.length co28)) (fun _ hk=>hk.2) (.bool (!a0_1))) (fun _ hk=>trivial),y3' GE169.out GE170.out GE177.out⟩
 ·
  rw[if_neg c3] at H;exact absurd H (by simp)
def spec_paLast.l0:Nat→Int→Int→List Bool→Bool→Option (List Bool × Bool)
 | 0,_,_,_,_=>none
 | k+1,x7,x8,x184000,x184001=>if x8 < x7 then (if x184000.length < 140737488355328 then (spec_paLast.l0 k x7 (wrap64 (x8+1)) (x184000 ++ [true]) x184001) else (none)) else (some (x184000,x184001))
def spec_paLast.f (k:Nat) (l0_0:List Int) (a0_1:Int):Option (List Bool × Bool):=spec_paLast.l0 k (l0_0.length:Int) 0 ([]:List Bool) true
set_option maxHeartbeats 8000000 in
set_option maxRecDepth 100000 in
theorem spec_paLast.calls (k:Nat) (A0_0:Option Addr) (c0_0:Nat) (l0_0:List Int) (a0_1:Int) (r1:List Bool) (r2:Bool) (w:World) (hr0_0:Kd.C (Kd.int .i64) w A0_0 l0_0.length l0_0) (hc0_0:l0_0.length≤c0_0) (h:spec_paLast.f k l0_0 a0_1=some (r1,r2)) :
  Calls Try.prog 69 #[.agg #[.slice A0_0 l0_0.length c0_0, .int .i64 a0_1]] w fun e w'=>∃ v0_:Value,e = .returned (.agg #[v0_, .bool r2])∧Kd.R Kd.bool 4 w' w.heap.size (fun _=>True) v0_ r1∧Below w.heap.size w w':=by
 have hu78:=Try.underlying78
 have hu38:=Try.underlying38
 have HR0_0:=am' hr0_0
 have HC0_0:=am' hc0_0
 clear hr0_0 hc0_0;have HB:=am' (Below.refl w.heap.size w)
 have H:(spec_paLast.l0 k (l0_0.length:Int) 0 ([]:List Bool) true)=some (r1,r2):=h
 clear h;have H':=am' H
 clear H;go_enter Try.func69,Try.ntmps69
 go_wp2_with (first|((with_reducible refine gate_dst (N:=1) rfl ?_);refine box_event ?hg (N:=1) ?hd (cs:=#[.slice A0_0 l0_0.length c0_0, .int .i64 a0_1]) (t:=78) ?hr ?_;(case hd=>rfl);(case hg=>rfl);(case hr=>first|(go_simp;done)|(go_simp;rfl));intro gb181 hg w2 hbox hb;have n0_:=am' (bt' xb' hb);have n1_:=am' (hbox);have n2_:=am' ((by rw[hg];exact (bz' xb'):w.heap.size≤gb181));have n3_:=am' ((by rw[hg];exact (bz' xb'):w.heap.size≤gb181));clear HB;have HB:=n0_;have BK181:=n1_;have GW181:=n2_;have GE181:=n3_;clear n0_ n1_ n2_ n3_;clear hb hbox hg)|((with_reducible refine gate_dst (N:=2) rfl ?_);refine box_event ?hg (N:=2) ?hd (cs:=#[.slice none 0 0, .bool false]) (t:=38) ?hr ?_;(case hd=>rfl);(case hg=>rfl);(case hr=>first|(go_simp;done)|(go_simp;rfl));intro gb182 hg w3 hbox hb;have n0_:=am' (bb' (g:=gb181) (o := .cells #[.slice A0_0 l0_0.length c0_0, .int .i64 a0_1] 78 (0,0)) (kk' BK181.out) hb);have n1_:=am' (bt' (yb' GE181.out) hb);have n2_:=am' (hbox);have n3_:=am' ((by rw[hg];exact (bz' (yb' GE181.out)):w.heap.size≤gb182));have n4_:=am' ((by rw[hg];exact (bz' (yb' GE181.out)):w.heap.size≤gb182));have n5_:=am' ((by rw[hg];exact Nat.ne_of_lt (blk_lt (g:=gb181) (o := .cells #[.slice A0_0 l0_0.length c0_0, .int .i64 a0_1] 78 (0,0)) (kk' BK181.out)):gb181≠gb182));have n6_:=am' ((by rw[hg];exact Nat.ne_of_gt (blk_lt (g:=gb181) (o := .cells #[.slice A0_0 l0_0.length c0_0, .int .i64 a0_1] 78 (0,0)) (kk' BK181.out)):gb182≠gb181));clear BK181;clear HB;have BK181:=n0_;have HB:=n1_;have BK182:=n2_;have GW182:=n3_;have GE182:=n4_;have NB181_182:=n5_;have NB182_181:=n6_;clear n0_ n1_ n2_ n3_ n4_ n5_ n6_;clear hb hbox hg)|((with_reducible refine gate_dst (N:=3) rfl ?_);refine box_event ?hg (N:=3) ?hd (cs:=#[.slice none 0 0, .bool false]) (t:=38) ?hr ?_;(case hd=>rfl);(case hg=>rfl);(case hr=>first|(go_simp;done)|(go_simp;rfl));intro gb183 hg w4 hbox hb;have n0_:=am' (bb' (g:=gb181) (o := .cells #[.slice A0_0 l0_0.length c0_0, .int .i64 a0_1] 78 (0,0)) (kk' BK181.out) hb);have n1_:=am' (bb' (g:=gb182) (o := .cells #[.slice none 0 0, .bool false] 38 (0,0)) (kk' BK182.out) hb);have n2_:=am' (bt' (y2' GE181.out GE182.out) hb);have n3_:=am' (hbox);have n4_:=am' ((by rw[hg];exact (bz' (y2' GE181.out GE182.out)):w.heap.size≤gb183));have n5_:=am' ((by rw[hg];exact (bz' (y2' GE181.out GE182.out)):w.heap.size≤gb183));have n6_:=am' ((by rw[hg];exact Nat.ne_of_lt (blk_lt (g:=gb181) (o := .cells #[.slice A0_0 l0_0.length c0_0, .int .i64 a0_1] 78 (0,0)) (kk' BK181.out)):gb181≠gb183));have n7_:=am' ((by rw[hg];exact Nat.ne_of_gt (blk_lt (g:=gb181) (o := .cells #[.slice A0_0 l0_0.length c0_0, .int .i64 a0_1] 78 (0,0)) (kk' BK181.out)):gb183≠gb181));have n8_:=am' ((by rw[hg];exact Nat.ne_of_lt (blk_lt (g:=gb182) (o := .cells #[.slice none 0 0, .bool false] 38 (0,0)) (kk' BK182.out)):gb182≠gb183));have n9_:=am' ((by rw[hg];exact Nat.ne_of_gt (blk_lt (g:=gb182) (o := .cells #[.slice none 0 0, .bool false] 38 (0,0)) (kk' BK182.out)):gb183≠gb182));clear BK181;clear BK182;clear HB;have BK181:=n0_;have BK182:=n1_;have HB:=n2_;have BK183:=n3_;have GW183:=n4_;have GE183:=n5_;have NB181_183:=n6_;have NB183_181:=n7_;have NB182_183:=n8_;have NB183_182:=n9_;clear n0_ n1_ n2_ n3_ n4_ n5_ n6_ n7_ n8_ n9_;clear hb hbox hg;have hnb5:=NB183_181.out;have hnc5:=NB181_183.out;have hnb6:=NB183_182.out;have hnc6:=NB182_183.out;have hcz7_0:w4.cell? ⟨gb183,0,none⟩=some (.slice none 0 0):=(bc' BK183.out 0).trans rfl;have hcz7_1:w4.cell? ⟨gb183,1,none⟩=some (.bool false):=(bc' BK183.out 1).trans rfl;have hfz7_0:=bf' BK183.out 0;have hfz7_1:=bf' BK183.out 1;have hnb8:=NB181_182.out;have hnc8:=NB182_181.out;have hcz9_0:w4.cell? ⟨gb181,0,none⟩=some (.slice A0_0 l0_0.length c0_0):=(bc' BK181.out 0).trans rfl;have hcz9_1:w4.cell? ⟨gb181,1,none⟩=some (.int .i64 a0_1):=(bc' BK181.out 1).trans rfl;have hfz9_0:=bf' BK181.out 0;have hfz9_1:=bf' BK181.out 1))
 go_loopg [8] k (fun kq v8 w'=>∃ (x8_1:Int) (x184000_1:List Bool) (u184000:Value),v8 = .int .i64 x8_1∧Aside0 (spec_paLast.l0 kq (l0_0.length:Int) x8_1 x184000_1 true=some (r1,r2))∧Aside0 (kq≤k)∧Aside0 (Kd.R Kd.bool 4 w' w.heap.size (fun _=>True) u184000 x184000_1)∧Aside0 (w'.heap[gb181]? = some (.cells #[(.slice A0_0 l0_0.length c0_0), .int .i64 a0_1] 78 (0,0)))∧Aside0 (w'.heap[gb182]? = some (.cells #[(.slice none 0 0), .bool false] 38 (0,0)))∧Aside0 (w'.heap[gb183]? = some (.cells #[u184000, .bool true] 38 (0,0)))∧Aside0 (Below w.heap.size w w'))
 case atStart=>exact ⟨(0),(([]:List Bool)),(.slice none 0 0),xs',H',⟨Nat.le_refl _⟩,⟨by first|exact Kd.R_nil _ _ _ _ _|exact Kd.N_nil _ _ _ _ _|exact Kd.V_nil _ _ _ _ _|exact Kd.Q_nil _ _ _ _ _|exact Kd.S_nil _ _ _ _ _⟩,⟨by (with_reducible repeat (first|refine kn' ?_ _|refine kd' ?_|refine ka' ?_ _));refine blk_far ?_ NB181_183.out _;(with_reducible repeat (first|refine kn' ?_ _|refine kd' ?_|refine ka' ?_ _));refine blk_far ?_ NB181_183.out _;(with_reducible repeat (first|refine kn' ?_ _|refine kd' ?_|refine ka' ?_ _));exact BK181.out⟩,⟨by (with_reducible repeat (first|refine kn' ?_ _|refine kd' ?_|refine ka' ?_ _));refine blk_far ?_ NB182_183.out _;(with_reducible repeat (first|refine kn' ?_ _|refine kd' ?_|refine ka' ?_ _));refine blk_far ?_ NB182_183.out _;(with_reducible repeat (first|refine kn' ?_ _|refine kd' ?_|refine ka' ?_ _));exact BK182.out⟩,⟨by (with_reducible repeat (first|refine kn' ?_ _|refine kd' ?_|refine ka' ?_ _));refine blk_put (cs:=#[.slice none 0 0, .bool false]) ?_ 1 _ rfl;(with_reducible repeat (first|refine kn' ?_ _|refine kd' ?_|refine ka' ?_ _));refine blk_put (cs:=#[.slice none 0 0, .bool false]) ?_ 0 _ rfl;(with_reducible repeat (first|refine kn' ?_ _|refine kd' ?_|refine ka' ?_ _));exact BK183.out⟩,⟨y3' GE181.out GE182.out GE183.out⟩⟩
 case round =>
  clear H';try clear p2
  try clear c5
  try clear c6
  try clear c8
  try clear hcz7_0
  try clear hcz7_1
  try clear hcz9_0
  try clear hcz9_1
  try clear hfz7_0
  try clear hfz7_1
  try clear hfz9_0
  try clear hfz9_1
  obtain ⟨x8_1,x184000_1,u184000,rfl,HA,HK1,HO_184000,BK181,BK182,BK183,HB⟩:=hrel;cases gk with
  | zero=>exact absurd HA.out (by simp[spec_paLast.l0])
  | succ k1 =>
   have H:=HA.out;clear HA;simp only[spec_paLast.l0] at H;by_cases c10:x8_1 < (l0_0.length:Int)
   ·
    rw[if_pos c10] at H;have c10b0:decide (x8_1 < (l0_0.length:Int))=true:=dt' c10;clear c10;by_cases c11:x184000_1.length < 140737488355328
    ·
     rw[if_pos c11] at H;have LMc11:=am' c11;clear c11;obtain ⟨y184,hy184⟩:∃ y_:List Bool,y_=(x184000_1 ++ [true]):=⟨_,rfl⟩
     replace H:(spec_paLast.l0 k1 (l0_0.length:Int) (wrap64 (x8_1+1)) y184 true)=some (r1,r2):=by first|(rw[hy184];with_reducible exact H)|(have H2_:=(Option.bind_some _ _).symm.trans H;rw[hy184];with_reducible exact H2_)|(have H2_:=(Option.bind_some _ _).symm.trans H;with_reducible exact H2_)|with_reducible exact H|(rw[hy184];exact H)|exact H
     have Ny184:=am' hy184;clear hy184;have H':=am' H;clear H;have hnb12:=NB183_181.out;have hnc12:=NB181_183.out;have hnb13:=NB183_182.out;have hnc13:=NB182_183.out;have hcz14_0:wr.cell? ⟨gb183,0,none⟩=some (u184000):=(bc' BK183.out 0).trans rfl;have hcz14_1:wr.cell? ⟨gb183,1,none⟩=some (.bool true):=(bc' BK183.out 1).trans rfl;have hfz14_0:=bf' BK183.out 0;have hfz14_1:=bf' BK183.out 1;go_wp2_with (first|((with_reducible refine gate_builtin (b := .append) (xs:=#[.tmp 11, .tmp 12]) rfl ?_);at_builtin;refine Kd.R_append Kd.bool (w0:=w) w.heap.size rfl (.tmp 11) (.tmp 12) 23 4 (.bool false) 1 rfl Try.underlying23 info4 rfl (by decide) (by omega) u184000 x184000_1 true [.bool true] (fun _=>True) (fun _=>False) rfl rfl ?aP (fun _ hk=>hk.elim) ?aF ?aO ?aB ?aS ?aL ?_;(case aP=>exact rfl);(case aB=>exact (y3' GE181.out GE182.out GE183.out));(case aF=>exact (fun _ _=>trivial));(case aO=>exact (kr' HO_184000.out));(case aS=>exact (bz' (y3' GE181.out GE182.out GE183.out)));(case aL=>have:=LMc11.out;omega);intro v185 w15 ho hb hg hat;rw[← Ny184.out] at ho;have n0_:=am' (blk_grown (g:=gb181) (o := .cells #[.slice A0_0 l0_0.length c0_0, .int .i64 a0_1] 78 (0,0)) (kk' BK181.out) hg (Kd.R_ne HO_184000.out BK181.out (by decide)));have n1_:=am' (blk_grown (g:=gb182) (o := .cells #[.slice none 0 0, .bool false] 38 (0,0)) (kk' BK182.out) hg (Kd.R_ne HO_184000.out BK182.out (by decide)));have n2_:=am' (blk_grown (g:=gb183) (o := .cells #[u184000, .bool true] 38 (0,0)) (kk' BK183.out) hg (Kd.R_ne HO_184000.out BK183.out (by decide)));have n3_:=am' (hb);have n4_:=am' (ho);clear BK181;clear BK182;clear BK183;clear HB;clear HO_184000;have BK181:=n0_;have BK182:=n1_;have BK183:=n2_;have HB:=n3_;have HO186:=n4_;clear n0_ n1_ n2_ n3_ n4_;clear ho hb hg hat;obtain ⟨Ao16,co16,eo16⟩:=Kd.R_slice HO186.out;subst eo16;have hcz17_0:w15.cell? ⟨gb183,0,none⟩=some (u184000):=(bc' BK183.out 0).trans rfl;have hcz17_1:w15.cell? ⟨gb183,1,none⟩=some (.bool true):=(bc' BK183.out 1).trans rfl;have hfz17_0:=bf' BK183.out 0;have hfz17_1:=bf' BK183.out 1));go_roundg k1
     case measure=>have:=HK1.out;omega
     case rel=>exact ⟨(wrap64 (x8_1+1)),(y184),(.slice Ao16 y184.length co16),xs',H',⟨by have:=HK1.out;omega⟩,⟨by (with_reducible repeat (first|apply ra'|apply rn'|apply rw'));exact Kd.R_mono (Kd.R_far (p:=⟨gb183,0,none⟩) (Kd.R_types HO186.out BK183.out (by decide)) (fun _ hk=>hk.2) (.slice Ao16 y184.length co16)) (fun _ hk=>trivial)⟩,⟨by (with_reducible repeat (first|refine kn' ?_ _|refine kd' ?_|refine ka' ?_ _));refine blk_far ?_ NB181_183.out _;(with_reducible repeat (first|refine kn' ?_ _|refine kd' ?_|refine ka' ?_ _));exact BK181.out⟩,⟨by (with_reducible repeat (first|refine kn' ?_ _|refine kd' ?_|refine ka' ?_ _));refine blk_far ?_ NB182_183.out _;(with_reducible repeat (first|refine kn' ?_ _|refine kd' ?_|refine ka' ?_ _));exact BK182.out⟩,⟨by (with_reducible repeat (first|refine kn' ?_ _|refine kd' ?_|refine ka' ?_ _));refine blk_put (cs:=#[u184000, .bool true]) ?_ 0 _ rfl;(with_reducible repeat (first|refine kn' ?_ _|refine kd' ?_|refine ka' ?_ _));exact BK183.out⟩,⟨y3' GE181.out GE182.out GE183.out⟩⟩
    ·
     rw[if_neg c11] at H;exact absurd H (by simp)
   ·
    rw[if_neg c10] at H;have c10b0:decide (x8_1 < (l0_0.length:Int))=false:=df' c10;clear c10;simp only[Option.some.injEq,Prod.mk.injEq] at H;obtain ⟨rfl,rfl⟩:=H;have hnb18:=NB183_181.out;have hnc18:=NB181_183.out;have hnb19:=NB183_182.out;have hnc19:=NB182_183.out;have hcz20_0:wr.cell? ⟨gb183,0,none⟩=some (u184000):=(bc' BK183.out 0).trans rfl;have hcz20_1:wr.cell? ⟨gb183,1,none⟩=some (.bool true):=(bc' BK183.out 1).trans rfl;have hfz20_0:=bf' BK183.out 0;have hfz20_1:=bf' BK183.out 1;obtain ⟨Ao21,co21,eo21⟩:=Kd.R_slice HO_184000.out;subst eo21;have hnb22:=NB182_181.out;have hnc22:=NB181_182.out;have hcz23_0:wr.cell? ⟨gb182,0,none⟩=some (.slice none 0 0):=(bc' BK182.out 0).trans rfl;have hcz23_1:wr.cell? ⟨gb182,1,none⟩=some (.bool false):=(bc' BK182.out 1).trans rfl;have hfz23_0:=bf' BK182.out 0;have hfz23_1:=bf' BK182.out 1;go_wp2;refine bodyPost_ret (results_cell_row rfl _ _ gb182 38 #[.slice Ao21 x184000_1.length co21, .bool true] (0,0) _ rfl (by (with_reducible repeat (first|refine kn' ?_ _|refine kd' ?_|refine ka' ?_ _));refine blk_put (cs:=#[.slice Ao21 x184000_1.length co21, .bool false]) ?_ 1 _ rfl;(with_reducible repeat (first|refine kn' ?_ _|refine kd' ?_|refine ka' ?_ _));refine blk_put (cs:=#[.slice none 0 0, .bool false]) ?_ 0 _ rfl;(with_reducible repeat (first|refine kn' ?_ _|refine kd' ?_|refine ka' ?_ _));exact BK182.out) Try.underlying38 rfl xk') rfl ?_
    exact ⟨_,by first|rfl|(simp[errW_none,errW_some] <;> rfl)|(simp[*,errW_none,errW_some] <;> rfl),by (with_reducible repeat (first|apply ra'|apply rn'|apply rw'));exact Kd.R_mono (Kd.R_far (p:=⟨gb182,1,none⟩) (Kd.R_far (p:=⟨gb182,0,none⟩) (Kd.R_types HO_184000.out BK182.out (by decide)) (fun _ hk=>hk.2) (.slice Ao21 x184000_1.length co21)) (fun _ hk=>hk.2) (.bool true)) (fun _ hk=>trivial),y3' GE181.out GE182.out GE183.out⟩
end Go.Proofs.Ytikjdmiohpdnaaa.C20
