import Derived.Test.YtmfofjloklafoaaC5zx0
import Derived.Test.YtmfofjloklafoaaC5zAl
namespace Go.Proofs.Ytmfofjloklafoaa.C5
open Go.RowKit Go.Proofs.YtmfofjloklafoaaW.PrintWords Go.Proofs.YtmfofjloklafoaaW.PrintLast Go.Proofs.YtmfofjloklafoaaW.PrintMore Go.Proofs.Ytmfofjloklafoaa.H
attribute [local go_sem] max2_int min2_int max_two min_two max_three min_three max_four min_four
set_option linter.unusedVariables false
set_option linter.unusedSimpArgs false
def spec_keRide.l0:Nat→List Int→Int→Int→List Bool→Bool→List Bool→Bool→Option (List Bool × Bool)
 | 0,_,_,_,_,_,_,_=>none
 | k+1,x16,x17,x18,x180000,x180001,x188000,x188001=>if x18 < x17 then (if 0≤x18 then (if x18 < (x16.length:Int) then (if 0≤(rd x16 x18) then (if (rd x16 x18) < (x180000.length:Int) then (if (rd x16 x18) < (x188000.length:Int) then (spec_keRide.l0 k x16 x17 (wrap64 (x18+1)) x180000 x180001 (x188000.set ((rd x16 x18):Int).toNat (!(rdOf false x180000 (rd x16 x18)))) x188001) else (none)) else (none)) else (none)) else (none)) else (none)) else (some (x188000,x188001))
def spec_keRide.f (k:Nat) (l0_0:List Bool) (a0_1:Bool) (l1:List Int):Option (List Bool × Bool):=(some (([]:List Bool):List Bool)).bind fun y181=>(if y181.length+l0_0.length < 140737488355328 then (spec_keRide.l0 k l1 (l1.length:Int) 0 l0_0 a0_1 (y181 ++ l0_0) (!a0_1)) else (none))
def spec_keRide.T1:Bool × List (List Nat × List Nat):=(true,[([],[]),([],[]),([1],[1]),([0,2],[0,2]),([],[]),([4],[4]),([5],[5]),([3,6],[3,6]),([],[]),([8,7,3,0,1,2,3,4,5,6,7,8],[7,8])])
def spec_keRide.B1:List Nat:=[0,0,2,7,0,16,48,127,0,511]
theorem spec_keRide.tab1:rtab .any (opsOf Try.f76 1)=spec_keRide.T1:=by kernel_rfl
theorem spec_keRide.bits1:waitsOk spec_keRide.T1.2 spec_keRide.B1=true:=by kernel_rfl
def spec_keRide.T5:Bool × List (List Nat × List Nat):=(true,[([],[]),([0],[0]),([],[]),([],[]),([3],[3]),([],[]),([4,5],[4,5]),([6],[6]),([7],[7]),([1,2,0,1,2,3,4,5,6,7,8],[1,2]),([9,8,0,1,2,3,4,5,6,7,8],[8,9])])
def spec_keRide.B5:List Nat:=[0,1,0,0,8,0,56,120,248,511,1023]
theorem spec_keRide.tab5:rtab .any (opsOf Try.f76 5)=spec_keRide.T5:=by kernel_rfl
theorem spec_keRide.bits5:waitsOk spec_keRide.T5.2 spec_keRide.B5=true:=by kernel_rfl
set_option maxHeartbeats 8000000 in
set_option maxRecDepth 100000 in
theorem spec_keRide.calls (k:Nat) (A0_0:Option Addr) (c0_0:Nat) (l0_0:List Bool) (a0_1:Bool) (A1:Option Addr) (c1:Nat) (l1:List Int) (r1:List Bool) (r2:Bool) (w:World) (hr0_0:Kd.C Kd.bool w A0_0 l0_0.length l0_0) (hc0_0:l0_0.length≤c0_0) (hr1:Kd.C (Kd.int .i64) w A1 l1.length l1) (hc1:l1.length≤c1) (h:spec_keRide.f k l0_0 a0_1 l1=some (r1,r2)) :
  Calls Try.prog 76 #[.agg #[.slice A0_0 l0_0.length c0_0, .bool a0_1], .slice A1 l1.length c1] w fun e w'=>∃ v0_:Value,e = .returned (.agg #[v0_, .bool r2])∧Kd.R Kd.bool 4 w' w.heap.size (fun _=>True) v0_ r1∧Below w.heap.size w w':=by
 have hu34:=Try.underlying34
 have HR0_0:=am' hr0_0
 have HC0_0:=am' hc0_0
 clear hr0_0 hc0_0;have HR1:=am' hr1
 have HC1:=am' hc1
 clear hr1 hc1;have HB:=am' (Below.refl w.heap.size w)
 have H:((some (([]:List Bool):List Bool)).bind fun y181=>(if y181.length+l0_0.length < 140737488355328 then (spec_keRide.l0 k l1 (l1.length:Int) 0 l0_0 a0_1 (y181 ++ l0_0) (!a0_1)) else (none)))=some (r1,r2):=h
 clear h;obtain ⟨y181,hy181⟩:∃ y_:List Bool,y_=(([]:List Bool)):=⟨_,rfl⟩
 replace H:(if y181.length+l0_0.length < 140737488355328 then (spec_keRide.l0 k l1 (l1.length:Int) 0 l0_0 a0_1 (y181 ++ l0_0) (!a0_1)) else (none))=some (r1,r2):=by first|(rw[hy181];with_reducible exact H)|(have H2_:=(Option.bind_some _ _).symm.trans H;rw[hy181];with_reducible exact H2_)|(have H2_:=(Option.bind_some _ _).symm.trans H;with_reducible exact H2_)|with_reducible exact H|(rw[hy181];exact H)|exact H
 have Ny181:=am' hy181
 clear hy181;by_cases c3:y181.length+l0_0.length < 140737488355328
 ·
  rw[if_pos c3] at H;have LMc3:=am' c3;clear c3;obtain ⟨y184,hy184⟩:∃ y_:List Bool,y_=(y181 ++ l0_0):=⟨_,rfl⟩
  replace H:(spec_keRide.l0 k l1 (l1.length:Int) 0 l0_0 a0_1 y184 (!a0_1))=some (r1,r2):=by first|(rw[hy184];with_reducible exact H)|(have H2_:=(Option.bind_some _ _).symm.trans H;rw[hy184];with_reducible exact H2_)|(have H2_:=(Option.bind_some _ _).symm.trans H;with_reducible exact H2_)|with_reducible exact H|(rw[hy184];exact H)|exact H
  have Ny184:=am' hy184;clear hy184;have H':=am' H;clear H;go_enter Try.func76,Try.ntmps76
  try go_wp2_with (first|((with_reducible refine gate_dst (N:=2) rfl ?_);refine box_event ?hg (N:=2) ?hd (cs:=#[.slice A0_0 l0_0.length c0_0, .bool a0_1]) (t:=34) ?hr ?_;(case hd=>rfl);(case hg=>rfl);(case hr=>first|(go_simp;done)|(go_simp;rfl));intro gb179 hg w4 hbox hb;have n0_:=am' (bt' xb' hb);have n1_:=am' (hbox);have n2_:=am' ((by rw[hg];exact (bz' xb'):w.heap.size≤gb179));have n3_:=am' ((by rw[hg];exact (bz' xb'):w.heap.size≤gb179));clear HB;have HB:=n0_;have BK179:=n1_;have GW179:=n2_;have GE179:=n3_;clear n0_ n1_ n2_ n3_;clear hb hbox hg)|((with_reducible refine gate_dst (N:=4) rfl ?_);refine box_event ?hg (N:=4) ?hd (cs:=#[.slice none 0 0, .bool false]) (t:=34) ?hr ?_;(case hd=>rfl);(case hg=>rfl);(case hr=>first|(go_simp;done)|(go_simp;rfl));intro gb180 hg w5 hbox hb;have n0_:=am' (bb' (g:=gb179) (o := .cells #[.slice A0_0 l0_0.length c0_0, .bool a0_1] 34 (0,0)) (kk' BK179.out) hb);have n1_:=am' (bt' (yb' GE179.out) hb);have n2_:=am' (hbox);have n3_:=am' ((by rw[hg];exact (bz' (yb' GE179.out)):w.heap.size≤gb180));have n4_:=am' ((by rw[hg];exact (bz' (yb' GE179.out)):w.heap.size≤gb180));have n5_:=am' ((by rw[hg];exact Nat.ne_of_lt (blk_lt (g:=gb179) (o := .cells #[.slice A0_0 l0_0.length c0_0, .bool a0_1] 34 (0,0)) (kk' BK179.out)):gb179≠gb180));have n6_:=am' ((by rw[hg];exact Nat.ne_of_gt (blk_lt (g:=gb179) (o := .cells #[.slice A0_0 l0_0.length c0_0, .bool a0_1] 34 (0,0)) (kk' BK179.out)):gb180≠gb179));clear BK179;clear HB;have BK179:=n0_;have HB:=n1_;have BK180:=n2_;have GW180:=n3_;have GE180:=n4_;have NB179_180:=n5_;have NB180_179:=n6_;clear n0_ n1_ n2_ n3_ n4_ n5_ n6_;clear hb hbox hg))
  have n0_:=am' (kd' BK179.out);have n1_:=am' (kd' BK180.out);have n2_:=am' (be' HB.out);clear BK179;clear BK180;clear HB;have BK179:=n0_;have BK180:=n1_;have HB:=n2_;clear n0_ n1_ n2_;refine start_ (n:=10) (S:=fun w'=>w'.cell? ⟨gb179,0,none⟩=some (.slice A0_0 l0_0.length c0_0)∧w'.cell? ⟨gb179,1,none⟩=some (.bool a0_1)) (ds:=[]) #[false,false,false,false,false,false,false,false,false,false] xk' rfl rfl ⟨(bc' BK179.out 0).trans rfl,(bc' BK179.out 1).trans rfl⟩ (fun hHeld=>?_);refine with_tabW spec_keRide.tab1 spec_keRide.bits1 (fun HT_ HW_=>?_);generalize w5.drew=w6 at BK179 BK180 HB hHeld ⊢
  refine pure_ (i:=1) (N:=some 9) (v:=?_) (a':=?_) #[false,true,false,false,false,false,false,false,false,false] rfl rfl (any_of HT_.out xk') (fun _ _ _ h=>h) (Or.inl ⟨by rfl,?_⟩) ?_ ?_
  rotate_left
  ·
   intro w';go_simp;with_reducible rfl
  rotate_left
  ·
   simp only[Act.put,sa',sb',sc',i64_w,i32_w];rfl
  refine pure_ (i:=4) (N:=some 12) (v:=?_) (a':=?_) #[false,true,false,false,true,false,false,false,false,false] rfl rfl (any_of HT_.out xk') (fun _ _ _ h=>h) (Or.inl ⟨by rfl,?_⟩) ?_ ?_
  rotate_left
  ·
   intro w';go_simp;with_reducible rfl
  rotate_left
  ·
   simp only[Act.put,sa',sb',sc',i64_w,i32_w];rfl
  refine take_ (i:=2) (N:=some 10) (v:=?_) (a':=?_) #[false,true,true,false,true,false,false,false,false,false] rfl rfl (take_ofW HT_.out HW_.out xk') (fun _ _ _ h=>h) (Or.inl ⟨by rfl,?_⟩) hHeld ?_ ?_
  rotate_left
  ·
   rintro w' ⟨s0,s1⟩
   go_simp;with_reducible rfl
  rotate_left
  ·
   simp only[Act.put,sa',sb',sc',i64_w,i32_w];rfl
  refine take_ (i:=5) (N:=some 13) (v:=?_) (a':=?_) #[false,true,true,false,true,true,false,false,false,false] rfl rfl (take_ofW HT_.out HW_.out xk') (fun _ _ _ h=>h) (Or.inl ⟨by rfl,?_⟩) hHeld ?_ ?_
  rotate_left
  ·
   rintro w' ⟨s0,s1⟩
   go_simp;with_reducible rfl
  rotate_left
  ·
   simp only[Act.put,sa',sb',sc',i64_w,i32_w];rfl
  refine pure_ (i:=6) (N:=some 14) (v:=?_) (a':=?_) #[false,true,true,false,true,true,true,false,false,false] rfl rfl (any_of HT_.out xk') (fun _ _ _ h=>h) (Or.inl ⟨by rfl,?_⟩) ?_ ?_
  rotate_left
  ·
   intro w';go_simp;with_reducible rfl
  rotate_left
  ·
   simp only[Act.put,sa',sb',sc',i64_w,i32_w];rfl
  refine join_ (σ:=Value × Value × Nat) 1 #[true,true,true,true,true,true,true,true,true,false] (fun s_=>[(8,s_.1),(11,s_.2.1),(5, .pointer (some ⟨s_.2.2,0,none⟩)),(15, .agg #[s_.2.1, .bool (!a0_1)])]) (fun s_ w'=>(w'.cell? ⟨gb179,0,none⟩=some (.slice A0_0 l0_0.length c0_0)∧w'.cell? ⟨gb179,1,none⟩=some (.bool a0_1))∧(Kd.R Kd.bool 4 w' w.heap.size (fun _=>True) s_.2.1 y184)∧(w'.heap[gb179]? = some (.cells #[.slice A0_0 l0_0.length c0_0, .bool a0_1] 34 (0,0)))∧(w'.heap[gb180]? = some (.cells #[.slice none 0 0, .bool false] 34 (0,0)))∧(w'.heap[s_.2.2]? = some (.cells #[.slice none 0 0, .bool false] 34 (0,0)))∧(w.heap.size≤s_.2.2)∧(w.heap.size≤s_.2.2)∧(gb179≠s_.2.2)∧(s_.2.2≠gb179)∧(gb180≠s_.2.2)∧(s_.2.2≠gb180)∧(Below w.heap.size w w')) ?_ ?_
  rotate_left
  ·
   intro hCont;refine two_ (i:=0) (j:=8) (Ni:=some 8) (Nj:=some 5) #[true,true,true,false,true,true,true,false,false,false] #[false,true,true,false,true,true,true,false,true,false] rfl rfl rfl rfl (two_of HT_.out xk') (by decide) (by decide) (fun K hK=>?_) (fun K hK=>?_)
   ·
    skip
    refine Kd.R_lit_step Kd.bool _ 4 ?hg (N:=8) ?hd (xs:=([]:List Bool)) (inner:=[]) (ok:=fun _=>True) (okp:=fun _=>True) ?hr ?hp (fun _ hk=>hk) trivial (Below.refl _ _) (Nat.le_refl _) (by simp) ?_;(case hd=>rfl);(case hg=>rfl);(case hr=>first|(go_simp;done)|(go_simp;rfl));(case hp=>exact (Reps.none _ _))
    intro v182 w7 ho8 hb hg_ hnew_;clear hg_ hnew_;(first|rw[← Ny181.out] at ho8|(simp only[Int.reduceToNat] at ho8;rw[← Ny181.out] at ho8))
    have n0_:=am' (Kd.R_lower ho8 (bz' (y2' GE179.out GE180.out)));have n1_:=am' (bb' (g:=gb179) (o := .cells #[.slice A0_0 l0_0.length c0_0, .bool a0_1] 34 (0,0)) (kk' BK179.out) hb);have n2_:=am' (bb' (g:=gb180) (o := .cells #[.slice none 0 0, .bool false] 34 (0,0)) (kk' BK180.out) hb);have n3_:=am' (bt' (y2' GE179.out GE180.out) hb);clear BK179;clear BK180;clear HB;have HO183:=n0_;have BK179:=n1_;have BK180:=n2_;have HB:=n3_;clear n0_ n1_ n2_ n3_;clear hb ho8;refine hK.out _ _ ⟨(bc' BK179.out 0).trans rfl,(bc' BK179.out 1).trans rfl⟩ (fun hHeld=>?_);clear hK K;refine norm_ (a':=?_) ?_ ?_
    rotate_left
    ·
     show Act.put _ (some 8) _=_
     simp only[Act.put,sa',sb',sc',i64_w,i32_w];rfl
    refine two_ (i:=3) (j:=8) (Ni:=some 11) (Nj:=some 5) #[true,true,true,true,true,true,true,false,false,false] #[true,true,true,false,true,true,true,false,true,false] rfl rfl rfl rfl (two_of HT_.out xk') (by decide) (by decide) (fun K hK=>?_) (fun K hK=>?_)
    ·
     skip
     refine Kd.R_append_rows_step Kd.bool (w0:=w) w.heap.size (by rfl) (.tmp 8) (.tmp 10) 25 4 (.bool false) 1 rfl Try.underlying25 info4 rfl (by decide) (by omega) v182 y181 l0_0 _ _ _ (fun _=>True) (fun _=>False) rfl rfl ?aO ?aR (fun _ _ h=>h) (fun _ h=>h.elim) ?aF ?aB ?aS ?aL ?_
     (case aR=>exact kc' (cb' HR0_0.out HB.out))
     (case aB=>exact (y2' GE179.out GE180.out))
     (case aF=>exact (fun _ _=>trivial))
     (case aO=>exact (kr' HO183.out))
     (case aS=>exact (bz' (y2' GE179.out GE180.out)))
     (case aL=>have:=LMc3.out;omega)
     intro v185 w9 ho hb hg hat;rw[← Ny184.out] at ho;have n0_:=am' (blk_grown (g:=gb179) (o := .cells #[.slice A0_0 l0_0.length c0_0, .bool a0_1] 34 (0,0)) (kk' BK179.out) hg (Kd.R_ne HO183.out BK179.out (by decide)));have n1_:=am' (blk_grown (g:=gb180) (o := .cells #[.slice none 0 0, .bool false] 34 (0,0)) (kk' BK180.out) hg (Kd.R_ne HO183.out BK180.out (by decide)));have n2_:=am' (hb);have n3_:=am' (ho);clear BK179;clear BK180;clear HB;clear HO183;have BK179:=n0_;have BK180:=n1_;have HB:=n2_;have HO186:=n3_;clear n0_ n1_ n2_ n3_;clear ho hb hg hat;obtain ⟨Ao10,co10,eo10⟩:=Kd.R_slice HO186.out
     (first|subst eo10|(injection eo10 with f1_ f2_ f3_;have f4_:=f1_.symm;have f5_:=f3_.symm;clear f1_ f2_ f3_;subst f4_;subst f5_))
     refine hK.out _ _ ⟨(bc' BK179.out 0).trans rfl,(bc' BK179.out 1).trans rfl⟩ (fun hHeld=>?_);clear hK K;refine norm_ (a':=?_) ?_ ?_
     rotate_left
     ·
      show Act.put _ (some 11) _=_
      simp only[Act.put,sa',sb',sc',i64_w,i32_w];rfl
     refine pure_ (i:=7) (N:=some 15) (v:=?_) (a':=?_) #[true,true,true,true,true,true,true,true,false,false] rfl rfl (any_of HT_.out xk') (fun _ _ _ h=>h) (Or.inl ⟨by rfl,?_⟩) ?_ ?_
     rotate_left
     ·
      intro w';go_simp;with_reducible rfl
     rotate_left
     ·
      simp only[Act.put,sa',sb',sc',i64_w,i32_w];rfl
     refine one_ (i:=8) (N:=some 5) #[true,true,true,true,true,true,true,true,true,false] rfl rfl (one_of HT_.out xk') (by decide) (fun K hK=>?_);refine box_step ?hg (N:=5) ?hd (cs:=#[.slice none 0 0, .bool false]) (t:=34) ?hr ?_;(case hd=>rfl);(case hg=>rfl);(case hr=>first|(go_simp;done)|(go_simp;rfl))
     intro gb187 hg w11 hbox hb;have n0_:=am' (rb' (kr' HO186.out) hb);have n1_:=am' (bb' (g:=gb179) (o := .cells #[.slice A0_0 l0_0.length c0_0, .bool a0_1] 34 (0,0)) (kk' BK179.out) hb);have n2_:=am' (bb' (g:=gb180) (o := .cells #[.slice none 0 0, .bool false] 34 (0,0)) (kk' BK180.out) hb);have n3_:=am' (bt' (y2' GE179.out GE180.out) hb);have n4_:=am' (hbox);have n5_:=am' ((by rw[hg];exact (bz' (y2' GE179.out GE180.out)):w.heap.size≤gb187));have n6_:=am' ((by rw[hg];exact (bz' (y2' GE179.out GE180.out)):w.heap.size≤gb187));have n7_:=am' ((by rw[hg];exact Nat.ne_of_lt (blk_lt (g:=gb179) (o := .cells #[.slice A0_0 l0_0.length c0_0, .bool a0_1] 34 (0,0)) (kk' BK179.out)):gb179≠gb187));have n8_:=am' ((by rw[hg];exact Nat.ne_of_gt (blk_lt (g:=gb179) (o := .cells #[.slice A0_0 l0_0.length c0_0, .bool a0_1] 34 (0,0)) (kk' BK179.out)):gb187≠gb179));have n9_:=am' ((by rw[hg];exact Nat.ne_of_lt (blk_lt (g:=gb180) (o := .cells #[.slice none 0 0, .bool false] 34 (0,0)) (kk' BK180.out)):gb180≠gb187));have n10_:=am' ((by rw[hg];exact Nat.ne_of_gt (blk_lt (g:=gb180) (o := .cells #[.slice none 0 0, .bool false] 34 (0,0)) (kk' BK180.out)):gb187≠gb180));clear HO186;clear BK179;clear BK180;clear HB;have HO186:=n0_;have BK179:=n1_;have BK180:=n2_;have HB:=n3_;have BK187:=n4_;have GW187:=n5_;have GE187:=n6_;have NB179_187:=n7_;have NB187_179:=n8_;have NB180_187:=n9_;have NB187_180:=n10_;clear n0_ n1_ n2_ n3_ n4_ n5_ n6_ n7_ n8_ n9_ n10_;clear hb hbox hg;refine hK.out _ _ ⟨(bc' BK179.out 0).trans rfl,(bc' BK179.out 1).trans rfl⟩ (fun hHeld=>?_);clear hK K;refine norm_ (a':=?_) ?_ ?_
     rotate_left
     ·
      show Act.put _ (some 5) _=_
      simp only[Act.put,sa',sb',sc',i64_w,i32_w];rfl
     exact norm_ (by simp only[putAll,Act.put,sa',sb',sc']) (hCont (v182, .slice Ao10 y184.length co10,gb187) _ ⟨hHeld,(kr' HO186.out),(kk' BK179.out),(kk' BK180.out),(kk' BK187.out),GW187.out,GE187.out,NB179_187.out,NB187_179.out,NB180_187.out,NB187_180.out,(y3' GE179.out GE180.out GE187.out)⟩)
    ·
     skip
     refine box_step ?hg (N:=5) ?hd (cs:=#[.slice none 0 0, .bool false]) (t:=34) ?hr ?_;(case hd=>rfl);(case hg=>rfl);(case hr=>first|(go_simp;done)|(go_simp;rfl))
     intro gb187 hg w9 hbox hb;have n0_:=am' (rb' (kr' HO183.out) hb);have n1_:=am' (bb' (g:=gb179) (o := .cells #[.slice A0_0 l0_0.length c0_0, .bool a0_1] 34 (0,0)) (kk' BK179.out) hb);have n2_:=am' (bb' (g:=gb180) (o := .cells #[.slice none 0 0, .bool false] 34 (0,0)) (kk' BK180.out) hb);have n3_:=am' (bt' (y2' GE179.out GE180.out) hb);have n4_:=am' (hbox);have n5_:=am' ((by rw[hg];exact (bz' (y2' GE179.out GE180.out)):w.heap.size≤gb187));have n6_:=am' ((by rw[hg];exact (bz' (y2' GE179.out GE180.out)):w.heap.size≤gb187));have n7_:=am' ((by rw[hg];exact Nat.ne_of_lt (blk_lt (g:=gb179) (o := .cells #[.slice A0_0 l0_0.length c0_0, .bool a0_1] 34 (0,0)) (kk' BK179.out)):gb179≠gb187));have n8_:=am' ((by rw[hg];exact Nat.ne_of_gt (blk_lt (g:=gb179) (o := .cells #[.slice A0_0 l0_0.length c0_0, .bool a0_1] 34 (0,0)) (kk' BK179.out)):gb187≠gb179));have n9_:=am' ((by rw[hg];exact Nat.ne_of_lt (blk_lt (g:=gb180) (o := .cells #[.slice none 0 0, .bool false] 34 (0,0)) (kk' BK180.out)):gb180≠gb187));have n10_:=am' ((by rw[hg];exact Nat.ne_of_gt (blk_lt (g:=gb180) (o := .cells #[.slice none 0 0, .bool false] 34 (0,0)) (kk' BK180.out)):gb187≠gb180));clear HO183;clear BK179;clear BK180;clear HB;have HO183:=n0_;have BK179:=n1_;have BK180:=n2_;have HB:=n3_;have BK187:=n4_;have GW187:=n5_;have GE187:=n6_;have NB179_187:=n7_;have NB187_179:=n8_;have NB180_187:=n9_;have NB187_180:=n10_;clear n0_ n1_ n2_ n3_ n4_ n5_ n6_ n7_ n8_ n9_ n10_;clear hb hbox hg;refine hK.out _ _ ⟨(bc' BK179.out 0).trans rfl,(bc' BK179.out 1).trans rfl⟩ (fun hHeld=>?_);clear hK K;refine norm_ (a':=?_) ?_ ?_
     rotate_left
     ·
      show Act.put _ (some 5) _=_
      simp only[Act.put,sa',sb',sc',i64_w,i32_w];rfl
     refine one_ (i:=3) (N:=some 11) #[true,true,true,true,true,true,true,false,true,false] rfl rfl (one_of HT_.out xk') (by decide) (fun K hK=>?_);refine Kd.R_append_rows_step Kd.bool (w0:=w) w.heap.size (by rfl) (.tmp 8) (.tmp 10) 25 4 (.bool false) 1 rfl Try.underlying25 info4 rfl (by decide) (by omega) v182 y181 l0_0 _ _ _ (fun _=>True) (fun _=>False) rfl rfl ?aO ?aR (fun _ _ h=>h) (fun _ h=>h.elim) ?aF ?aB ?aS ?aL ?_
     (case aR=>exact kc' (cb' HR0_0.out HB.out))
     (case aB=>exact (y3' GE179.out GE180.out GE187.out))
     (case aF=>exact (fun _ _=>trivial))
     (case aO=>exact (kr' HO183.out))
     (case aS=>exact (bz' (y3' GE179.out GE180.out GE187.out)))
     (case aL=>have:=LMc3.out;omega)
     intro v185 w10 ho hb hg hat;rw[← Ny184.out] at ho;have n0_:=am' (blk_grown (g:=gb179) (o := .cells #[.slice A0_0 l0_0.length c0_0, .bool a0_1] 34 (0,0)) (kk' BK179.out) hg (Kd.R_ne HO183.out BK179.out (by decide)));have n1_:=am' (blk_grown (g:=gb180) (o := .cells #[.slice none 0 0, .bool false] 34 (0,0)) (kk' BK180.out) hg (Kd.R_ne HO183.out BK180.out (by decide)));have n2_:=am' (blk_grown (g:=gb187) (o := .cells #[.slice none 0 0, .bool false] 34 (0,0)) (kk' BK187.out) hg (Kd.R_ne HO183.out BK187.out (by decide)));have n3_:=am' (hb);have n4_:=am' (ho);clear BK179;clear BK180;clear BK187;clear HB;clear HO183;have BK179:=n0_;have BK180:=n1_;have BK187:=n2_;have HB:=n3_;have HO186:=n4_;clear n0_ n1_ n2_ n3_ n4_;clear ho hb hg hat;obtain ⟨Ao11,co11,eo11⟩:=Kd.R_slice HO186.out
     (first|subst eo11|(injection eo11 with f1_ f2_ f3_;have f4_:=f1_.symm;have f5_:=f3_.symm;clear f1_ f2_ f3_;subst f4_;subst f5_))
     refine hK.out _ _ ⟨(bc' BK179.out 0).trans rfl,(bc' BK179.out 1).trans rfl⟩ (fun hHeld=>?_);clear hK K;refine norm_ (a':=?_) ?_ ?_
     rotate_left
     ·
      show Act.put _ (some 11) _=_
      simp only[Act.put,sa',sb',sc',i64_w,i32_w];rfl
     refine pure_ (i:=7) (N:=some 15) (v:=?_) (a':=?_) #[true,true,true,true,true,true,true,true,true,false] rfl rfl (any_of HT_.out xk') (fun _ _ _ h=>h) (Or.inl ⟨by rfl,?_⟩) ?_ ?_
     rotate_left
     ·
      intro w';go_simp;with_reducible rfl
     rotate_left
     ·
      simp only[Act.put,sa',sb',sc',i64_w,i32_w];rfl
     exact norm_ (by simp only[putAll,Act.put,sa',sb',sc']) (hCont (v182, .slice Ao11 y184.length co11,gb187) _ ⟨hHeld,(kr' HO186.out),(kk' BK179.out),(kk' BK180.out),(kk' BK187.out),GW187.out,GE187.out,NB179_187.out,NB187_179.out,NB180_187.out,NB187_180.out,(y3' GE179.out GE180.out GE187.out)⟩)
   ·
    skip
    refine box_step ?hg (N:=5) ?hd (cs:=#[.slice none 0 0, .bool false]) (t:=34) ?hr ?_;(case hd=>rfl);(case hg=>rfl);(case hr=>first|(go_simp;done)|(go_simp;rfl))
    intro gb187 hg w7 hbox hb;have n0_:=am' (bb' (g:=gb179) (o := .cells #[.slice A0_0 l0_0.length c0_0, .bool a0_1] 34 (0,0)) (kk' BK179.out) hb);have n1_:=am' (bb' (g:=gb180) (o := .cells #[.slice none 0 0, .bool false] 34 (0,0)) (kk' BK180.out) hb);have n2_:=am' (bt' (y2' GE179.out GE180.out) hb);have n3_:=am' (hbox);have n4_:=am' ((by rw[hg];exact (bz' (y2' GE179.out GE180.out)):w.heap.size≤gb187));have n5_:=am' ((by rw[hg];exact (bz' (y2' GE179.out GE180.out)):w.heap.size≤gb187));have n6_:=am' ((by rw[hg];exact Nat.ne_of_lt (blk_lt (g:=gb179) (o := .cells #[.slice A0_0 l0_0.length c0_0, .bool a0_1] 34 (0,0)) (kk' BK179.out)):gb179≠gb187));have n7_:=am' ((by rw[hg];exact Nat.ne_of_gt (blk_lt (g:=gb179) (o := .cells #[.slice A0_0 l0_0.length c0_0, .bool a0_1] 34 (0,0)) (kk' BK179.out)):gb187≠gb179));have n8_:=am' ((by rw[hg];exact Nat.ne_of_lt (blk_lt (g:=gb180) (o := .cells #[.slice none 0 0, .bool false] 34 (0,0)) (kk' BK180.out)):gb180≠gb187));have n9_:=am' ((by rw[hg];exact Nat.ne_of_gt (blk_lt (g:=gb180) (o := .cells #[.slice none 0 0, .bool false] 34 (0,0)) (kk' BK180.out)):gb187≠gb180));clear BK179;clear BK180;clear HB;have BK179:=n0_;have BK180:=n1_;have HB:=n2_;have BK187:=n3_;have GW187:=n4_;have GE187:=n5_;have NB179_187:=n6_;have NB187_179:=n7_;have NB180_187:=n8_;have NB187_180:=n9_;clear n0_ n1_ n2_ n3_ n4_ n5_ n6_ n7_ n8_ n9_;clear hb hbox hg;refine hK.out _ _ ⟨(bc' BK179.out 0).trans rfl,(bc' BK179.out 1).trans rfl⟩ (fun hHeld=>?_);clear hK K;refine norm_ (a':=?_) ?_ ?_
    rotate_left
    ·
     show Act.put _ (some 5) _=_
     simp only[Act.put,sa',sb',sc',i64_w,i32_w];rfl
    refine one_ (i:=0) (N:=some 8) #[true,true,true,false,true,true,true,false,true,false] rfl rfl (one_of HT_.out xk') (by decide) (fun K hK=>?_);refine Kd.R_lit_step Kd.bool _ 4 ?hg (N:=8) ?hd (xs:=([]:List Bool)) (inner:=[]) (ok:=fun _=>True) (okp:=fun _=>True) ?hr ?hp (fun _ hk=>hk) trivial (Below.refl _ _) (Nat.le_refl _) (by simp) ?_;(case hd=>rfl);(case hg=>rfl);(case hr=>first|(go_simp;done)|(go_simp;rfl));(case hp=>exact (Reps.none _ _))
    intro v182 w8 ho9 hb hg_ hnew_;clear hg_ hnew_;(first|rw[← Ny181.out] at ho9|(simp only[Int.reduceToNat] at ho9;rw[← Ny181.out] at ho9))
    have n0_:=am' (Kd.R_lower ho9 (bz' (y3' GE179.out GE180.out GE187.out)));have n1_:=am' (bb' (g:=gb179) (o := .cells #[.slice A0_0 l0_0.length c0_0, .bool a0_1] 34 (0,0)) (kk' BK179.out) hb);have n2_:=am' (bb' (g:=gb180) (o := .cells #[.slice none 0 0, .bool false] 34 (0,0)) (kk' BK180.out) hb);have n3_:=am' (bb' (g:=gb187) (o := .cells #[.slice none 0 0, .bool false] 34 (0,0)) (kk' BK187.out) hb);have n4_:=am' (bt' (y3' GE179.out GE180.out GE187.out) hb);clear BK179;clear BK180;clear BK187;clear HB;have HO183:=n0_;have BK179:=n1_;have BK180:=n2_;have BK187:=n3_;have HB:=n4_;clear n0_ n1_ n2_ n3_ n4_;clear hb ho9;refine hK.out _ _ ⟨(bc' BK179.out 0).trans rfl,(bc' BK179.out 1).trans rfl⟩ (fun hHeld=>?_);clear hK K;refine norm_ (a':=?_) ?_ ?_
    rotate_left
    ·
     show Act.put _ (some 8) _=_
     simp only[Act.put,sa',sb',sc',i64_w,i32_w];rfl
    refine one_ (i:=3) (N:=some 11) #[true,true,true,true,true,true,true,false,true,false] rfl rfl (one_of HT_.out xk') (by decide) (fun K hK=>?_);refine Kd.R_append_rows_step Kd.bool (w0:=w) w.heap.size (by rfl) (.tmp 8) (.tmp 10) 25 4 (.bool false) 1 rfl Try.underlying25 info4 rfl (by decide) (by omega) v182 y181 l0_0 _ _ _ (fun _=>True) (fun _=>False) rfl rfl ?aO ?aR (fun _ _ h=>h) (fun _ h=>h.elim) ?aF ?aB ?aS ?aL ?_
    (case aR=>exact kc' (cb' HR0_0.out HB.out))
    (case aB=>exact (y3' GE179.out GE180.out GE187.out))
    (case aF=>exact (fun _ _=>trivial))
    (case aO=>exact (kr' HO183.out))
    (case aS=>exact (bz' (y3' GE179.out GE180.out GE187.out)))
    (case aL=>have:=LMc3.out;omega)
    intro v185 w10 ho hb hg hat;rw[← Ny184.out] at ho;have n0_:=am' (blk_grown (g:=gb179) (o := .cells #[.slice A0_0 l0_0.length c0_0, .bool a0_1] 34 (0,0)) (kk' BK179.out) hg (Kd.R_ne HO183.out BK179.out (by decide)));have n1_:=am' (blk_grown (g:=gb180) (o := .cells #[.slice none 0 0, .bool false] 34 (0,0)) (kk' BK180.out) hg (Kd.R_ne HO183.out BK180.out (by decide)));have n2_:=am' (blk_grown (g:=gb187) (o := .cells #[.slice none 0 0, .bool false] 34 (0,0)) (kk' BK187.out) hg (Kd.R_ne HO183.out BK187.out (by decide)));have n3_:=am' (hb);have n4_:=am' (ho);clear BK179;clear BK180;clear BK187;clear HB;clear HO183;have BK179:=n0_;have BK180:=n1_;have BK187:=n2_;have HB:=n3_;have HO186:=n4_;clear n0_ n1_ n2_ n3_ n4_;clear ho hb hg hat;obtain ⟨Ao11,co11,eo11⟩:=Kd.R_slice HO186.out
    (first|subst eo11|(injection eo11 with f1_ f2_ f3_;have f4_:=f1_.symm;have f5_:=f3_.symm;clear f1_ f2_ f3_;subst f4_;subst f5_))
    refine hK.out _ _ ⟨(bc' BK179.out 0).trans rfl,(bc' BK179.out 1).trans rfl⟩ (fun hHeld=>?_);clear hK K;refine norm_ (a':=?_) ?_ ?_
    rotate_left
    ·
     show Act.put _ (some 11) _=_
     simp only[Act.put,sa',sb',sc',i64_w,i32_w];rfl
    refine pure_ (i:=7) (N:=some 15) (v:=?_) (a':=?_) #[true,true,true,true,true,true,true,true,true,false] rfl rfl (any_of HT_.out xk') (fun _ _ _ h=>h) (Or.inl ⟨by rfl,?_⟩) ?_ ?_
    rotate_left
    ·
     intro w';go_simp;with_reducible rfl
    rotate_left
    ·
     simp only[Act.put,sa',sb',sc',i64_w,i32_w];rfl
    exact norm_ (by simp only[putAll,Act.put,sa',sb',sc']) (hCont (v182, .slice Ao11 y184.length co11,gb187) _ ⟨hHeld,(kr' HO186.out),(kk' BK179.out),(kk' BK180.out),(kk' BK187.out),GW187.out,GE187.out,NB179_187.out,NB187_179.out,NB180_187.out,NB187_180.out,(y3' GE179.out GE180.out GE187.out)⟩)
  rintro ⟨v182,v185,gb187⟩ w12 ⟨hS_,h0_,h1_,h2_,h3_,h4_,h5_,h6_,h7_,h8_,h9_,h10_⟩
  have n0_:Aside0 (Kd.R Kd.bool 4 w12 w.heap.size (fun _=>True) v185 y184):=⟨h0_⟩
  have n1_:Aside0 (w12.heap[gb179]? = some (.cells #[.slice A0_0 l0_0.length c0_0, .bool a0_1] 34 (0,0))):=⟨h1_⟩
  have n2_:Aside0 (w12.heap[gb180]? = some (.cells #[.slice none 0 0, .bool false] 34 (0,0))):=⟨h2_⟩
  have n3_:Aside0 (w12.heap[gb187]? = some (.cells #[.slice none 0 0, .bool false] 34 (0,0))):=⟨h3_⟩
  have n4_:Aside0 (w.heap.size≤gb187):=⟨h4_⟩
  have n5_:Aside0 (w.heap.size≤gb187):=⟨h5_⟩
  have n6_:Aside0 (gb179≠gb187):=⟨h6_⟩
  have n7_:Aside0 (gb187≠gb179):=⟨h7_⟩
  have n8_:Aside0 (gb180≠gb187):=⟨h8_⟩
  have n9_:Aside0 (gb187≠gb180):=⟨h9_⟩
  have n10_:Aside0 (Below w.heap.size w w12):=⟨h10_⟩
  clear BK179;clear BK180;clear HB;clear h0_ h1_ h2_ h3_ h4_ h5_ h6_ h7_ h8_ h9_ h10_;have HO186:=n0_;have BK179:=n1_;have BK180:=n2_;have BK187:=n3_;have GW187:=n4_;have GE187:=n5_;have NB179_187:=n6_;have NB187_179:=n7_;have NB180_187:=n8_;have NB187_180:=n9_;have HB:=n10_;clear n0_ n1_ n2_ n3_ n4_ n5_ n6_ n7_ n8_ n9_ n10_;have hHeld:w12.cell? ⟨gb179,0,none⟩=some (.slice A0_0 l0_0.length c0_0)∧w12.cell? ⟨gb179,1,none⟩=some (.bool a0_1):=hS_;obtain ⟨Ao13,co13,eo13⟩:=Kd.R_slice HO186.out
  (first|subst eo13|(injection eo13 with f1_ f2_ f3_;have f4_:=f1_.symm;have f5_:=f3_.symm;clear f1_ f2_ f3_;subst f4_;subst f5_))
  refine norm_ (a':=?_) ?_ ?_
  rotate_left
  ·
   simp only[putAll,Act.put,sa',sb',sc'];rfl
  refine one_ (i:=9) (N:=none) #[true,true,true,true,true,true,true,true,true,true] rfl rfl (one_of HT_.out xk') (by decide) (fun K hK=>?_);have hs14:w12.cell? ⟨gb187,0,none⟩=some (.slice none 0 0):=(bc' BK187.out 0).trans rfl;have hfs14:=bf' BK187.out 0;have hns14_0:=NB179_187.out;have hns14_1:=NB180_187.out;have hms14_0:=NB187_179.out;have hms14_1:=NB187_180.out;have hs15:w12.cell? ⟨gb187,1,none⟩=some (.bool false):=(bc' BK187.out 1).trans rfl;have hfs15:=bf' BK187.out 1;have hns15_0:=NB179_187.out;have hns15_1:=NB180_187.out;have hms15_0:=NB187_179.out;have hms15_1:=NB187_180.out;refine skip_ (w1:=?_) (by rfl) rfl ?_ ?_
  rotate_left
  ·
   go_simp;rfl
  refine hK.out _ _ ⟨((cell_far (p:=⟨gb187,_,none⟩) NB179_187.out _).trans (((cell_far (p:=⟨gb187,_,none⟩) NB179_187.out _).trans (hHeld.1)))),((cell_far (p:=⟨gb187,_,none⟩) NB179_187.out _).trans (((cell_far (p:=⟨gb187,_,none⟩) NB179_187.out _).trans (hHeld.2))))⟩ (fun hHeld=>?_);clear hK K;refine done_ (done_of HT_.out xk') ?_
  try go_wp2
  go_loopg [18] k (fun kq v18 w'=>∃ (x18_1:Int) (x188000_1:List Bool) (u188000:Value),v18 = .int .i64 x18_1∧Aside0 (spec_keRide.l0 kq l1 (l1.length:Int) x18_1 l0_0 a0_1 x188000_1 (!a0_1)=some (r1,r2))∧Aside0 (kq≤k)∧Aside0 (Kd.R Kd.bool 4 w' w.heap.size (fun _=>True) u188000 x188000_1)∧Aside0 (w'.heap[gb179]? = some (.cells #[(.slice A0_0 l0_0.length c0_0), .bool a0_1] 34 (0,0)))∧Aside0 (w'.heap[gb180]? = some (.cells #[(.slice none 0 0), .bool false] 34 (0,0)))∧Aside0 (w'.heap[gb187]? = some (.cells #[u188000, .bool (!a0_1)] 34 (0,0)))∧Aside0 (Below w.heap.size w w'))
  case atStart=>exact ⟨(0),(y184),(.slice Ao13 y184.length co13),xs',H',⟨Nat.le_refl _⟩,⟨by (with_reducible repeat (first|apply ra'|apply rn'|apply rw'));exact Kd.R_mono (Kd.R_far (p:=⟨gb187,1,none⟩) (Kd.R_far (p:=⟨gb187,0,none⟩) (Kd.R_types HO186.out BK187.out (by decide)) (fun _ hk=>hk.2) (.slice Ao13 y184.length co13)) (fun _ hk=>hk.2) (.bool (!a0_1))) (fun _ hk=>trivial)⟩,⟨by (with_reducible repeat (first|refine kn' ?_ _|refine kd' ?_|refine ka' ?_ _));refine blk_far ?_ NB179_187.out _;(with_reducible repeat (first|refine kn' ?_ _|refine kd' ?_|refine ka' ?_ _));refine blk_far ?_ NB179_187.out _;(with_reducible repeat (first|refine kn' ?_ _|refine kd' ?_|refine ka' ?_ _));exact BK179.out⟩,⟨by (with_reducible repeat (first|refine kn' ?_ _|refine kd' ?_|refine ka' ?_ _));refine blk_far ?_ NB180_187.out _;(with_reducible repeat (first|refine kn' ?_ _|refine kd' ?_|refine ka' ?_ _));refine blk_far ?_ NB180_187.out _;(with_reducible repeat (first|refine kn' ?_ _|refine kd' ?_|refine ka' ?_ _));exact BK180.out⟩,⟨by (with_reducible repeat (first|refine kn' ?_ _|refine kd' ?_|refine ka' ?_ _));refine blk_put (cs:=#[.slice Ao13 y184.length co13, .bool false]) ?_ 1 _ rfl;(with_reducible repeat (first|refine kn' ?_ _|refine kd' ?_|refine ka' ?_ _));refine blk_put (cs:=#[.slice none 0 0, .bool false]) ?_ 0 _ rfl;(with_reducible repeat (first|refine kn' ?_ _|refine kd' ?_|refine ka' ?_ _));exact BK187.out⟩,⟨y3' GE179.out GE180.out GE187.out⟩⟩
  case round =>
   clear H';try clear c1
   try clear p2
   try clear c3
   try clear c7
   obtain ⟨x18_1,x188000_1,u188000,rfl,HA,HK1,HO_188000,BK179,BK180,BK187,HB⟩:=hrel;cases gk with
   | zero=>exact absurd HA.out (by simp[spec_keRide.l0])
   | succ k1 =>
    have H:=HA.out;clear HA;simp only[spec_keRide.l0] at H;by_cases c16:x18_1 < (l1.length:Int)
    ·
     rw[if_pos c16] at H;have c16b0:decide (x18_1 < (l1.length:Int))=true:=dt' c16;clear c16;by_cases c17:0≤x18_1
     ·
      rw[if_pos c17] at H;have c17b0:decide (0≤x18_1)=true:=dt' c17;clear c17;by_cases c18:x18_1 < (l1.length:Int)
      ·
       rw[if_pos c18] at H;have c18b0:decide (x18_1 < (l1.length:Int))=true:=dt' c18;clear c18;by_cases c19:0≤(rd l1 x18_1)
       ·
        rw[if_pos c19] at H;have c19b0:decide (0≤(rd l1 x18_1))=true:=dt' c19;clear c19;by_cases c20:(rd l1 x18_1) < (l0_0.length:Int)
        ·
         rw[if_pos c20] at H;have c20b0:decide ((rd l1 x18_1) < (l0_0.length:Int))=true:=dt' c20;clear c20;by_cases c21:(rd l1 x18_1) < (x188000_1.length:Int)
         ·
          rw[if_pos c21] at H;have c21b0:decide ((rd l1 x18_1) < (x188000_1.length:Int))=true:=dt' c21;clear c21;obtain ⟨y190,hy190⟩:∃ y_:List Bool,y_=(x188000_1.set ((rd l1 x18_1):Int).toNat (!(rdOf false l0_0 (rd l1 x18_1)))):=⟨_,rfl⟩
          replace H:(spec_keRide.l0 k1 l1 (l1.length:Int) (wrap64 (x18_1+1)) l0_0 a0_1 y190 (!a0_1))=some (r1,r2):=by first|(rw[hy190];with_reducible exact H)|(have H2_:=(Option.bind_some _ _).symm.trans H;rw[hy190];with_reducible exact H2_)|(have H2_:=(Option.bind_some _ _).symm.trans H;with_reducible exact H2_)|with_reducible exact H|(rw[hy190];exact H)|exact H
          have Ny190:=am' hy190;clear hy190;have H':=am' H;clear H;have p188:0≤(x18_1:Int):=od' xa';have q188:x18_1 < (l1.length:Int):=od' xa';obtain ⟨ad188,e188,hx188_0⟩:=Kd.at_int HR1.out x18_1 p188 q188;cases e188;replace hx188_0:=(HB.out.cell (bl' w _ hx188_0)).trans hx188_0;replace p188:=eq_true p188;replace q188:=eq_true q188
          try go_wp2
          have n0_:=am' (rw' HO_188000.out);have n1_:=am' (kd' BK179.out);have n2_:=am' (kd' BK180.out);have n3_:=am' (kd' BK187.out);have n4_:=am' (be' HB.out);clear HO_188000;clear BK179;clear BK180;clear BK187;clear HB;have HO_188000:=n0_;have BK179:=n1_;have BK180:=n2_;have BK187:=n3_;have HB:=n4_;clear n0_ n1_ n2_ n3_ n4_;have p189:0≤((rd l1 x18_1):Int):=od' xa';have q189:(rd l1 x18_1) < (l0_0.length:Int):=od' xa';obtain ⟨ad189,e189,hx189_0⟩:=Kd.at_bool HR0_0.out (rd l1 x18_1) p189 q189;have hw189_0:=hx189_0;cases e189;replace hx189_0:=(HB.out.cell (bl' w _ hx189_0)).trans hx189_0;replace p189:=eq_true p189;replace q189:=eq_true q189;have p22:0≤((rd l1 x18_1):Int):=od' xa';have q22:((rd l1 x18_1):Int) < ((x188000_1.length:Int):Int):=od' xa';obtain ⟨go22,co22,eo22,gb22,gl22,cl22,HG22⟩:=Kd.R_form HO_188000.out (by omega)
          (first|cases eo22|(injection eo22 with ea_ en_ ec_;(first|subst ea_|(injection ea_ with ea_;subst ea_));subst ec_;clear en_))
          have GB22:=am' gb22;have GG22:=am' HG22;clear gb22 gl22 HG22;obtain ⟨hx22_0,hf22_0⟩:=Kd.R_celln false HO_188000.out ((rd l1 x18_1):Int) p22 q22;replace p22:=eq_true p22;replace q22:=eq_true q22;have HP24:=Kd.R_putn HO_188000.out ((rd l1 x18_1):Int) (!(rdOf false l0_0 (rd l1 x18_1)));rw[← Ny190.out] at HP24;have HQ24:=am' HP24;clear HP24;refine start_ (n:=11) (S:=fun w'=>w'.cell? ⟨gb187,0,none⟩=some (.slice (some ⟨go22,0,none⟩) x188000_1.length co22)∧w'.cell? ⟨gb187,1,none⟩=some (.bool (!a0_1))∧w'.cell? ⟨gb179,0,none⟩=some (.slice (some ad189) l0_0.length c0_0)∧w'.cell? ⟨gb179,1,none⟩=some (.bool a0_1)∧w'.cell? (ad189.add ((rd l1 x18_1)).toNat)=some (.bool (rdOf false l0_0 (rd l1 x18_1)))) (ds:=[10]) #[false,false,false,false,false,false,false,false,false,false,false] xk' rfl rfl ⟨(bc' BK187.out 0).trans rfl,(bc' BK187.out 1).trans rfl,(bc' BK179.out 0).trans rfl,(bc' BK179.out 1).trans rfl,((HB.out.cell (bl' w _ hw189_0)).trans hw189_0)⟩ (fun hHeld=>?_);refine with_tabW spec_keRide.tab5 spec_keRide.bits5 (fun HT_ HW_=>?_);generalize wr.drew=w23 at HO_188000 BK179 BK180 BK187 HB GG22 HQ24 hf22_0 hx189_0 hx22_0 hHeld ⊢
          refine pure_ (i:=0) (N:=some 22) (v:=?_) (a':=?_) #[true,false,false,false,false,false,false,false,false,false,false] rfl rfl (any_of HT_.out xk') (fun _ _ _ h=>h) (Or.inl ⟨by rfl,?_⟩) ?_ ?_
          rotate_left
          ·
           intro w';go_simp;with_reducible rfl
          rotate_left
          ·
           simp only[Act.put,sa',sb',sc',i64_w,i32_w];rfl
          refine pure_ (i:=2) (N:=some 24) (v:=?_) (a':=?_) #[true,false,true,false,false,false,false,false,false,false,false] rfl rfl (any_of HT_.out xk') (fun _ _ _ h=>h) (Or.inl ⟨by rfl,?_⟩) ?_ ?_
          rotate_left
          ·
           intro w';go_simp;with_reducible rfl
          rotate_left
          ·
           simp only[Act.put,sa',sb',sc',i64_w,i32_w];rfl
          refine pure_ (i:=3) (N:=some 25) (v:=?_) (a':=?_) #[true,false,true,true,false,false,false,false,false,false,false] rfl rfl (any_of HT_.out xk') (fun _ _ _ h=>h) (Or.inl ⟨by rfl,?_⟩) ?_ ?_
          rotate_left
          ·
           intro w';go_simp;with_reducible rfl
          rotate_left
          ·
           simp only[Act.put,sa',sb',sc',i64_w,i32_w];rfl
          refine pure_ (i:=5) (N:=some 27) (v:=?_) (a':=?_) #[true,false,true,true,false,true,false,false,false,false,false] rfl rfl (any_of HT_.out xk') (fun _ _ _ h=>h) (Or.inl ⟨by rfl,?_⟩) ?_ ?_
          rotate_left
          ·
           intro w';go_simp;with_reducible rfl
          rotate_left
          ·
           simp only[Act.put,sa',sb',sc',i64_w,i32_w];rfl
          refine take_ (i:=1) (N:=some 23) (v:=?_) (a':=?_) #[true,true,true,true,false,true,false,false,false,false,false] rfl rfl (take_ofW HT_.out HW_.out xk') (fun _ _ _ h=>h) (Or.inl ⟨by rfl,?_⟩) hHeld ?_ ?_
          rotate_left
          ·
           rintro w' ⟨s0,s1,s2,s3,s4⟩
           go_simp;with_reducible rfl
          rotate_left
          ·
           simp only[Act.put,sa',sb',sc',i64_w,i32_w];rfl
          refine take_ (i:=4) (N:=some 26) (v:=?_) (a':=?_) #[true,true,true,true,true,true,false,false,false,false,false] rfl rfl (take_ofW HT_.out HW_.out xk') (fun _ _ _ h=>h) (Or.inl ⟨by rfl,?_⟩) hHeld ?_ ?_
          rotate_left
          ·
           rintro w' ⟨s0,s1,s2,s3,s4⟩
           go_simp;with_reducible rfl
          rotate_left
          ·
           simp only[Act.put,sa',sb',sc',i64_w,i32_w];rfl
          refine pure_ (i:=6) (N:=some 28) (v:=?_) (a':=?_) #[true,true,true,true,true,true,true,false,false,false,false] rfl rfl (any_of HT_.out xk') (fun _ _ _ h=>h) (Or.inl ⟨by rfl,?_⟩) ?_ ?_
          rotate_left
          ·
           intro w';go_simp;with_reducible rfl
          rotate_left
          ·
           simp only[Act.put,sa',sb',sc',i64_w,i32_w];rfl
          refine take_ (i:=7) (N:=some 29) (v:=?_) (a':=?_) #[true,true,true,true,true,true,true,true,false,false,false] rfl rfl (take_ofW HT_.out HW_.out xk') (fun _ _ _ h=>h) (Or.inl ⟨by rfl,?_⟩) hHeld ?_ ?_
          rotate_left
          ·
           rintro w' ⟨s0,s1,s2,s3,s4⟩
           go_simp;with_reducible rfl
          rotate_left
          ·
           simp only[Act.put,sa',sb',sc',i64_w,i32_w];rfl
          refine pure_ (i:=8) (N:=some 30) (v:=?_) (a':=?_) #[true,true,true,true,true,true,true,true,true,false,false] rfl rfl (any_of HT_.out xk') (fun _ _ _ h=>h) (Or.inl ⟨by rfl,?_⟩) ?_ ?_
          rotate_left
          ·
           intro w';go_simp;with_reducible rfl
          rotate_left
          ·
           simp only[Act.put,sa',sb',sc',i64_w,i32_w];rfl
          refine pure_ (i:=9) (N:=some 31) (v:=?_) (a':=?_) #[true,true,true,true,true,true,true,true,true,true,false] rfl rfl (any_of HT_.out xk') (fun _ _ _ h=>h) (Or.inl ⟨by rfl,?_⟩) ?_ ?_
          rotate_left
          ·
           intro w';go_simp;with_reducible rfl
          rotate_left
          ·
           simp only[Act.put,sa',sb',sc',i64_w,i32_w];rfl
          refine last_ (i:=10) (N:=none) #[true,true,true,true,true,true,true,true,true,true,true] rfl rfl (one_of HT_.out xk') (by decide) (fun K hK=>?_);refine skip_ (w1:=?_) (by rfl) rfl ?_ ?_
          rotate_left
          ·
           go_simp;rfl
          refine hK.out _ _ ?_
          clear hK K;refine done_ (done_of HT_.out xk') ?_
          try go_wp2
          go_roundg k1
          case measure=>have:=HK1.out;omega
          case rel=>exact ⟨(wrap64 (x18_1+1)),(y190),(.slice (some ⟨go22,0,none⟩) x188000_1.length co22),xs',H',⟨by have:=HK1.out;omega⟩,⟨kr' HQ24.out⟩,⟨by (with_reducible repeat (first|refine kn' ?_ _|refine kd' ?_|refine ka' ?_ _));refine blk_far ?_ (by have h_:=Kd.R_ne HO_188000.out BK179.out (by decide);intro e_;exact h_ (by rw[e_];rfl)) _;(with_reducible repeat (first|refine kn' ?_ _|refine kd' ?_|refine ka' ?_ _));exact BK179.out⟩,⟨by (with_reducible repeat (first|refine kn' ?_ _|refine kd' ?_|refine ka' ?_ _));refine blk_far ?_ (by have h_:=Kd.R_ne HO_188000.out BK180.out (by decide);intro e_;exact h_ (by rw[e_];rfl)) _;(with_reducible repeat (first|refine kn' ?_ _|refine kd' ?_|refine ka' ?_ _));exact BK180.out⟩,⟨by (with_reducible repeat (first|refine kn' ?_ _|refine kd' ?_|refine ka' ?_ _));refine blk_far ?_ (by have h_:=Kd.R_ne HO_188000.out BK187.out (by decide);intro e_;exact h_ (by rw[e_];rfl)) _;(with_reducible repeat (first|refine kn' ?_ _|refine kd' ?_|refine ka' ?_ _));exact BK187.out⟩,⟨y4' GB22.out GE179.out GE180.out GE187.out⟩⟩
         ·
          rw[if_neg c21] at H;exact absurd H (by simp)
        ·
         rw[if_neg c20] at H;exact absurd H (by simp)
       ·
        rw[if_neg c19] at H;exact absurd H (by simp)
      ·
       rw[if_neg c18] at H;exact absurd H (by simp)
     ·
      rw[if_neg c17] at H;exact absurd H (by simp)
    ·
     rw[if_neg c16] at H;have c16b0:decide (x18_1 < (l1.length:Int))=false:=df' c16;clear c16;simp only[Option.some.injEq,Prod.mk.injEq] at H;obtain ⟨rfl,rfl⟩:=H;have hnb25:=NB187_179.out;have hnc25:=NB179_187.out;have hnb26:=NB187_180.out;have hnc26:=NB180_187.out;have hcz27_0:wr.cell? ⟨gb187,0,none⟩=some (u188000):=(bc' BK187.out 0).trans rfl;have hcz27_1:wr.cell? ⟨gb187,1,none⟩=some (.bool (!a0_1)):=(bc' BK187.out 1).trans rfl;have hfz27_0:=bf' BK187.out 0;have hfz27_1:=bf' BK187.out 1;obtain ⟨Ao28,co28,eo28⟩:=Kd.R_slice HO_188000.out;subst eo28;have hnb29:=NB180_179.out;have hnc29:=NB179_180.out;have hcz30_0:wr.cell? ⟨gb180,0,none⟩=some (.slice none 0 0):=(bc' BK180.out 0).trans rfl;have hcz30_1:wr.cell? ⟨gb180,1,none⟩=some (.bool false):=(bc' BK180.out 1).trans rfl;have hfz30_0:=bf' BK180.out 0;have hfz30_1:=bf' BK180.out 1;go_wp2;refine bodyPost_ret (results_cell_row rfl _ _ gb180 34 #[.slice Ao28 x188000_1.length co28, .bool (!a0_1)] (0,0) _ rfl (by (with_reducible repeat (first|refine kn' ?_ _|refine kd' ?_|refine ka' ?_ _));refine blk_put (cs:=#[.slice Ao28 x188000_1.length co28, .bool false]) ?_ 1 _ rfl;(with_reducible repeat (first|refine kn' ?_ _|refine kd' ?_|refine ka' ?_ _));refine blk_put (cs:=#[.slice none 0 0, .bool false]) ?_ 0 _ rfl;(with_reducible repeat (first|refine kn' ?_ _|refine kd' ?_|refine ka' ?_ _));exact BK180.out) Try.underlying34 rfl xk') rfl ?_
     exact ⟨_,by first|rfl|(simp[errW_none,errW_some] <;> rfl)|(simp[*,errW_none,errW_some] <;> rfl),by (with_reducible repeat (first|apply ra'|apply rn'|apply rw'));exact Kd.R_mono (Kd.R_far (p:=⟨gb180,1,none⟩) (Kd.R_far (p:=⟨gb180,0,none⟩) (Kd.R_types HO_188000.out BK180.out (by decide)) (fun _ hk=>hk.2) (.slice Ao28 x188000_1.length co28)) (fun _ hk=>hk.2) (.bool (!a0_1))) (fun _ hk=>trivial),y3' GE179.out GE180.out GE187.out⟩
 ·
  rw[if_neg c3] at H;exact absurd H (by simp)
end Go.Proofs.Ytmfofjloklafoaa.C5
