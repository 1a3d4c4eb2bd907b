import Derived.Test.YtibdeohiimjocaaC12zx0
import Derived.Test.YtibdeohiimjocaaC12zx5
import Derived.Test.YtibdeohiimjocaaC12zx6
import Derived.Test.YtibdeohiimjocaaC12zAl
namespace Go.Proofs.Ytibdeohiimjocaa.C12
open Go.RowKit Go.Proofs.YtibdeohiimjocaaW.PrintWords Go.Proofs.YtibdeohiimjocaaW.PrintLast Go.Proofs.YtibdeohiimjocaaW.PrintMore Go.Proofs.Ytibdeohiimjocaa.H
attribute [local go_sem] max2_int min2_int max_two min_two max_three min_three max_four min_four
set_option linter.unusedVariables false
set_option linter.unusedSimpArgs false
theorem mulOne:∀ m:Nat,m≤8→bits_Mul.f 1 (m:Int)=some (0,(m:Int))
 | 0,_=>by kernel_rfl
 | 1,_=>by kernel_rfl
 | 2,_=>by kernel_rfl
 | 3,_=>by kernel_rfl
 | 4,_=>by kernel_rfl
 | 5,_=>by kernel_rfl
 | 6,_=>by kernel_rfl
 | 7,_=>by kernel_rfl
 | 8,_=>by kernel_rfl
theorem splice_rep (n m:Nat) (v z:Value) (q:Nat) (hq:n+q≤m):splice (List.replicate n v ++ List.replicate (m - n) z) n (List.replicate q v)=List.replicate (n+q) v ++ List.replicate (m - (n+q)) z:=by
 unfold splice
 have e1:(List.replicate n v ++ List.replicate (m - n) z).take n=List.replicate n v:=by simp
 have e2:(List.replicate n v ++ List.replicate (m - n) z).drop (n+(List.replicate q v).length)=List.replicate (m - (n+q)) z:=by
  rw[List.length_replicate,List.drop_append,List.length_replicate,List.drop_replicate,List.drop_replicate];have a1:n - (n+q)=0:=by omega
  have a2:m - n - (n+q - n)=m - (n+q):=by omega
  rw[a1,a2];rfl
 rw[e1,e2,← List.append_assoc,List.replicate_append_replicate]
theorem made_rep (z:Value) (m:Nat):madeCells #[z] m=(List.replicate m z).toArray:=by
 apply Array.ext
 ·
  simp[madeCells]
 ·
  intro i h1 h2;simp[madeCells,Nat.mod_one]
theorem rep_one (n:Nat) (b:Bool):∀ u ∈ List.replicate n (Value.bool b),u.oneCell'=true:=fun u hu=>by rw[List.eq_of_mem_replicate hu];rfl
theorem rep_cells {w w1:World} {ad:Addr} {v:Value} (hx:w.cell? (ad.add 0)=some v) (m:Nat) (hb:Below w.heap.size w w1) (o:Obj):∀ j u,(List.replicate (min 1 m) v)[j]? = some u→(w1.alloc o).cell? (ad.add j)=some u:=by
 intro j u hu;have hb2:Below w.heap.size w (w1.alloc o):=ba' hb o
 have hj:j < min 1 m:=by have:=(List.getElem?_eq_some_iff.1 hu).1;simpa using this
 obtain rfl:j=0:=by omega
 rw[List.getElem?_replicate,if_pos hj] at hu
 cases hu
 exact (hb2.cell (bl' w _ hx)).trans hx
theorem rep_first {w:World} {g m t:Nat} {v z:Value} (h:w.heap[g]? = some (.cells (splice (List.replicate m z) 0 (List.replicate (min 1 m) v)).toArray t (0,0))):w.heap[g]? = some (.cells (List.replicate (min 1 m) v ++ List.replicate (m - min 1 m) z).toArray t (0,0)):=by
 have:=splice_rep 0 m v z (min 1 m) (by omega)
 simp only[List.replicate_zero,List.nil_append,Nat.sub_zero,Nat.zero_add] at this
 rwa [this] at h
theorem rep_next {w:World} {g m n t:Nat} {v z:Value} (h:w.heap[g]? = some (.cells (splice (List.replicate n v ++ List.replicate (m - n) z) n (List.replicate (min n (m - n)) v)).toArray t (0,0))) (hn:n≤m:=by omega):w.heap[g]? = some (.cells (List.replicate (n+min n (m - n)) v ++ List.replicate (m - (n+min n (m - n))) z).toArray t (0,0)):=by
 rwa [splice_rep n m v z _ (by omega)] at h
theorem rep_self {w:World} {g m n t:Nat} {v z:Value} (h:w.heap[g]? = some (.cells (List.replicate n v ++ List.replicate (m - n) z).toArray t (0,0))) (hn:n≤m):∀ j u,(List.replicate (min n (m - n)) v)[j]? = some u→w.cell? ((⟨g,0,none⟩:Addr).add j)=some u:=by
 intro j u hu;have hj:j < min n (m - n):=by have:=(List.getElem?_eq_some_iff.1 hu).1;simpa using this
 rw[List.getElem?_replicate,if_pos hj] at hu
 cases hu
 have ha:(⟨g,0,none⟩:Addr).add j=⟨g,j,none⟩:=by unfold Addr.add;split <;> simp_all
 rw[ha,blk_cell h j,List.getElem?_toArray,List.getElem?_append_left (by simp;omega),List.getElem?_replicate,if_pos (by omega)]
theorem rep_row {w:World} {base m:Nat} {v:Bool} (hm:m≤8) (h:w.heap[base]? = some (.cells (List.replicate m (Value.bool v) ++ List.replicate (m - m) (Value.bool false)).toArray 4 (0,0))):Kd.R Kd.bool 4 w base (fun _=>True) (.slice (some ⟨base,0,none⟩) m m) (List.replicate m v):=by
 refine Kd.R_of_own ?_ (fun _ _=>trivial)
 refine ⟨by simp[encs], .inr ⟨base,m,_,by simp,Nat.le_refl _,h,by simp,by unfold maxLen;omega,by simp,?_⟩⟩
 simp[encs]
def slices_Repeat_bool_bool.f (l0:List Bool) (a1:Int):Option (List Bool):=if 0≤a1∧a1≤8∧l0.length=1 then some (List.replicate a1.toNat (rdOf false l0 0)) else none
set_option maxHeartbeats 4000000 in
set_option maxRecDepth 100000 in
theorem repeat_calls (A0:Option Addr) (c0:Nat) (v:Bool) (m:Nat) (hm:m≤8) (w:World) (hr0:Kd.C Kd.bool w A0 1 [v]) :
  Calls Try.prog 133 #[.slice A0 1 c0, .int .i64 (m:Int)] w fun e w'=>∃ v0_:Value,e = .returned (v0_)∧Kd.R Kd.bool 4 w' w.heap.size (fun _=>True) v0_ (List.replicate m v)∧Below w.heap.size w w':=by
 obtain ⟨ad,rfl,hx0⟩:=Kd.at_bool hr0 0 (by omega) (by omega)
 have hx:w.cell? (ad.add 0)=some (.bool v):=by simpa [rdOf] using hx0
 have hinfo:(Try.prog.info? 4).map (fun i=>(i.zero,i.size,i.bytes))=some (some (.bool false),1,1):=by kernel_rfl
 have hsz1:(Try.prog.info? 4).map (·.size)=some 1:=by kernel_rfl
 have hmul:=mulOne m hm
 have hmk:=fun W:World=>run_make_row' (P:=Try.prog) 46 4 (.bool false) 1 Try.underlying46 hinfo rfl .i64 .i64 m (by omega) (by omega) W
 rw[made_rep (.bool false) m] at hmk
 have HX:=am' hx
 have HI:=am' hsz1
 have HM:=am' hmul
 clear hr0 hx0 hx hinfo hsz1 hmul;have hm0:(0:Int)≤(m:Int):=by omega
 have hm8:(m:Int)≤8:=by omega
 go_enter Try.func133,Try.ntmps133
 go_wp2_with (first|(go_at_call 140;refine (bits_Mul.calls 1 m 0 m _ HM.out).mono ?_;rintro e w' ⟨rfl,⟨nd,rfl⟩⟩)|((with_reducible refine gate_builtin (b := .copy) (xs:=#[.tmp 31, .tmp 32]) rfl ?_);refine wpList_copy_splice rfl (.tmp 31) (.tmp 32) 46 46 rfl 4 Try.underlying46 HI.out (some ⟨w.heap.size,0,none⟩) (some ad) m m 1 c0 rfl rfl w.heap.size 0 (List.replicate m (.bool false)) 4 ?hg1 (List.replicate (min 1 m) (.bool v)) ?hn1 ?hp1 ?hf1 ?ho1 w.heap.size w ?hb1 (Nat.le_refl _) ?_;(case hg1=>exact heap_alloc_new (w.drewN nd) _);(case hn1=>simp[Nat.min_def]);(case hp1=>exact fun hp=>⟨rfl,ad,rfl,rep_cells HX.out m (bd' (Below.refl _ _) nd) _⟩);(case hf1=>simp;omega);(case ho1=>exact rep_one _ _);(case hb1=>exact ba' (bd' (Below.refl _ _) nd) _);intro w1 hc1 hb1;have HC1:=am' (rep_first hc1.out);have HB1:=am' hb1;clear hc1 hb1))
 go_loopg [8] m (fun gg s8 wr=>∃ n:Nat,s8 = .int .i64 (n:Int)∧min 1 m≤n∧n≤m∧m - n≤gg∧Aside0 (wr.heap[w.heap.size]? = some (.cells (List.replicate n (Value.bool v) ++ List.replicate (m - n) (Value.bool false)).toArray 4 (0,0)))∧Aside0 (Below w.heap.size w wr))
 case atStart=>exact ⟨min 1 m,by simp,Nat.le_refl _,Nat.min_le_right _ _,by omega,HC1,HB1⟩
 case round =>
  obtain ⟨n,rfl,h1n,hnm,hng,HC,HB⟩:=hrel;clear HC1 HB1;by_cases hlt:n < m
  ·
   have d0:decide ((n:Int) < (m:Int))=true:=by simp;omega
   have q0:(0≤(n:Int))=True:=by simp
   have q1:((n:Int)≤(m:Int))=True:=by simp;omega
   go_wp2;go_region_law (refine step_copy_splice rfl (.tmp 41) (.tmp 44) 46 46 rfl 4 Try.underlying46 HI.out (some ⟨w.heap.size,n,none⟩) (some ⟨w.heap.size,0,none⟩) (m - n) (m - n) n m ?hd ?hs w.heap.size n (List.replicate n (Value.bool v) ++ List.replicate (m - n) (Value.bool false)) 4 ?hg1 (List.replicate (min n (m - n)) (Value.bool v)) ?hn1 ?hp1 ?hf1 (rep_one _ _) w.heap.size w ?hb1 (Nat.le_refl _) ?_;(case hd=>go_simp;omega);(case hs=>go_simp);(case hg1=>exact HC.out);(case hn1=>simp[Nat.min_def]);(case hp1=>exact fun hp=>⟨rfl,_,rfl,rep_self HC.out hnm⟩);(case hf1=>simp;omega);(case hb1=>exact bd' HB.out 1);intro w1 hc1 hb1;have HC1:=am' (rep_next hc1.out);have HB1:=am' hb1;clear hc1 hb1)
   go_wp2;go_roundg (m - (n+min n (m - n)))
   case measure=>omega
   case rel=>exact ⟨n+min n (m - n),by (show Value.int _ _=Value.int _ _);congr 1;exact (i64_w _).trans ((wr_id (a:=(n:Int)+(min n (m - n):Nat)) (by omega) (by omega)).trans (Int.natCast_add _ _).symm),by omega,by omega,by omega,HC1,HB1⟩
  ·
   have d0:decide ((n:Int) < (m:Int))=false:=by simp;omega
   go_wp2;go_ret
   obtain rfl:n=m:=by omega
   refine ⟨_,rfl,?_,HB.out⟩;exact rep_row hm HC.out
theorem slices_Repeat_bool_bool.calls (A0:Option Addr) (c0:Nat) (l0:List Bool) (a1:Int) (r:List Bool) (w:World) (hr0:Kd.C Kd.bool w A0 l0.length l0) (hc0:l0.length≤c0) (h:slices_Repeat_bool_bool.f l0 a1=some r) :
  Calls Try.prog 133 #[.slice A0 l0.length c0, .int .i64 a1] w fun e w'=>∃ v0_:Value,e = .returned (v0_)∧Kd.R Kd.bool 4 w' w.heap.size (fun _=>True) v0_ r∧Below w.heap.size w w':=by
 unfold slices_Repeat_bool_bool.f at h
 by_cases hc:0≤a1∧a1≤8∧l0.length=1
 ·
  rw[if_pos hc] at h;obtain ⟨h0,h8,h1⟩:=hc;obtain rfl:=Option.some.inj h;obtain ⟨m,rfl⟩:=Int.eq_ofNat_of_zero_le h0;match l0,h1 with
  | [v],_=>exact repeat_calls A0 c0 v m (by omega) w hr0
 ·
  rw[if_neg hc] at h;cases h
def impl_allAt.f (a0:Int) (a1:Bool):Option (List Bool × Bool):=(slices_Repeat_bool_bool.f (([a1]:List Bool)) a0).bind fun t206=>(some (t206,a1))
set_option maxHeartbeats 8000000 in
set_option maxRecDepth 100000 in
theorem impl_allAt.calls (a0:Int) (a1:Bool) (r1:List Bool) (r2:Bool) (w:World) (h:impl_allAt.f a0 a1=some (r1,r2)) :
  Calls Try.prog 111 #[.int .i64 a0, .bool a1] w fun e w'=>∃ v0_:Value,e = .returned (.agg #[v0_, .bool r2])∧Kd.R Kd.bool 4 w' w.heap.size (fun _=>True) v0_ r1∧Below w.heap.size w w':=by
 have hu51:=Try.underlying51
 have HB:=am' (Below.refl w.heap.size w)
 have H:((slices_Repeat_bool_bool.f (([a1]:List Bool)) a0).bind fun t206=>(some (t206,a1)))=some (r1,r2):=h
 clear h;obtain ⟨y203,hy203⟩:∃ y_:List Bool,y_=(([a1]:List Bool)):=⟨_,rfl⟩
 replace H:((slices_Repeat_bool_bool.f y203 a0).bind fun t206=>(some (t206,a1)))=some (r1,r2):=by first|(rw[hy203];with_reducible exact H)|(have H2_:=(Option.bind_some _ _).symm.trans H;rw[hy203];with_reducible exact H2_)|(have H2_:=(Option.bind_some _ _).symm.trans H;with_reducible exact H2_)|with_reducible exact H|(rw[hy203];exact H)|exact H
 have Ny203:=am' hy203
 clear hy203;replace H:=Option.bind_eq_some_iff.mp H
 obtain ⟨t206,A30,H⟩:=H
 replace H:(some (t206,a1))=some (r1,r2):=H
 have A3:=am' A30
 clear A30;simp only[Option.some.injEq,Prod.mk.injEq] at H
 obtain ⟨rfl,rfl⟩:=H
 go_enter Try.func111,Try.ntmps111
 go_wp2_with (first|((with_reducible refine gate_dst (N:=4) rfl ?_);refine box_event ?hg (N:=4) ?hd (cs:=#[.slice none 0 0, .bool false]) (t:=51) ?hr ?_;(case hd=>rfl);(case hg=>rfl);(case hr=>first|(go_simp;done)|(go_simp;rfl));intro gb202 hg w4 hbox hb;have n0_:=am' (below_step (by repeat (first|(with_reducible first|exact HB.out|apply ba'|apply bd'|apply be')|exact HB.out)) hb);have n1_:=am' (hbox);have n2_:=am' ((by rw[hg];exact (below_size (by repeat (first|(with_reducible first|exact HB.out|apply ba'|apply bd'|apply be')|exact HB.out))):w.heap.size≤gb202));have n3_:=am' ((by rw[hg];exact (below_size (by repeat (first|(with_reducible first|exact HB.out|apply ba'|apply bd'|apply be')|exact HB.out))):w.heap.size≤gb202));clear HB;have HB:=n0_;have BK202:=n1_;have GW202:=n2_;have GE202:=n3_;clear n0_ n1_ n2_ n3_;clear hb hbox hg)|((with_reducible refine gate_dst (N:=6) rfl ?_);refine Kd.R_lit Kd.bool _ 4 ?hg (N:=6) ?hd (xs:=([a1]:List Bool)) (inner:=[.bool a1]) (ok:=fun _=>True) (okp:=fun _=>True) ?hr ?hp (fun _ hk=>hk) trivial (Below.refl _ _) (Nat.le_refl _) (by simp) ?_;(case hd=>rfl);(case hg=>rfl);(case hr=>first|(go_simp;done)|(go_simp;rfl));(case hp=>exact (Reps.one (show Kd.M Kd.bool _ _ _ a1 [.bool a1] from rfl) (Reps.none _ _)));intro v204 w5 ho6 hb hg_ hnew_;clear hg_ hnew_;(first|rw[← Ny203.out] at ho6|(simp only[Int.reduceToNat] at ho6;rw[← Ny203.out] at ho6));have n0_:=am' (Kd.R_lower ho6 (below_size (by repeat (first|(with_reducible first|exact HB.out|apply ba'|apply bd'|apply be'|refine bs' ?_ GE202.out)|exact HB.out))));have n1_:=am' (blk_below (g:=gb202) (o := .cells #[.slice none 0 0, .bool false] 51 (0,0)) (by (with_reducible repeat (first|refine kn' ?_ _|refine kd' ?_|refine ka' ?_ _));exact BK202.out) hb);have n2_:=am' (below_step (by repeat (first|(with_reducible first|exact HB.out|apply ba'|apply bd'|apply be'|refine bs' ?_ GE202.out)|exact HB.out)) hb);clear BK202;clear HB;have HO205:=n0_;have BK202:=n1_;have HB:=n2_;clear n0_ n1_ n2_;clear hb ho6;obtain ⟨Ao7,co7,eo7⟩:=Kd.R_slice HO205.out;subst eo7)|((with_reducible refine gate_callee (f:=133) rfl ?_);refine goesL_ (some 8) rfl rfl Try.func133 (by kernel_rfl) rfl #[.slice Ao7 y203.length co7, .int .i64 a0] rfl (by (try simp only[List.map_toArray,List.map_cons,List.map_nil]);first|done|rfl|(simp only[List.length_drop,List.length_take];rfl)) ?_;(with_reducible refine (slices_Repeat_bool_bool.calls _ _ y203 a0 t206 _ ?side1 ?side2 A3.out).mono ?_);(case side1=>repeat (first|exact (Kd.R_reads' HO205.out).2.2|(with_reducible refine ca' ?_ _)|(with_reducible refine cn' ?_ _)|(with_reducible refine cd' ?_)));(case side2=>exact (Kd.R_reads' HO205.out).2.1);rintro e w8 ⟨v207,rfl,ho0,hb⟩;refine ⟨_,rfl,?_⟩;have n0_:=am' (Kd.R_elder' (by (with_reducible repeat (first|apply ra'|apply rn'|apply rw'));exact HO205.out) (Kd.R_base ho0) hb);have n1_:=am' (Kd.R_lower (Kd.R_new' ho0 (Kd.R_lt (by (with_reducible repeat (first|apply ra'|apply rn'|apply rw'));exact HO205.out))) (below_size (by repeat (first|(with_reducible first|exact HB.out|apply ba'|apply bd'|apply be'|refine bs' ?_ GE202.out)|exact HB.out))));have n2_:=am' (blk_below (g:=gb202) (o := .cells #[.slice none 0 0, .bool false] 51 (0,0)) (by (with_reducible repeat (first|refine kn' ?_ _|refine kd' ?_|refine ka' ?_ _));exact BK202.out) hb);have n3_:=am' (below_step (by repeat (first|(with_reducible first|exact HB.out|apply ba'|apply bd'|apply be'|refine bs' ?_ GE202.out)|exact HB.out)) hb);clear HO205;clear BK202;clear HB;have HO205:=n0_;have HO208:=n1_;have BK202:=n2_;have HB:=n3_;clear n0_ n1_ n2_ n3_;(try clear hb);(try clear hb2);(try clear hk);(try clear hi);(try clear ho0);obtain ⟨Ao9,co9,eo9⟩:=Kd.R_slice HO208.out;subst eo9;have hcz10_0:w8.cell? ⟨gb202,0,none⟩=some (.slice none 0 0):=(blk_cell BK202.out 0).trans rfl;have hcz10_1:w8.cell? ⟨gb202,1,none⟩=some (.bool false):=(blk_cell BK202.out 1).trans rfl;have hfz10_0:=blk_frozen BK202.out 0;have hfz10_1:=blk_frozen BK202.out 1))
 refine bodyPost_ret (results_cell_row rfl _ _ gb202 51 #[.slice Ao9 t206.length co9, .bool a1] (0,0) _ rfl (by (with_reducible repeat (first|refine kn' ?_ _|refine kd' ?_|refine ka' ?_ _));refine blk_put (cs:=#[.slice Ao9 t206.length co9, .bool false]) ?_ 1 _ rfl;(with_reducible repeat (first|refine kn' ?_ _|refine kd' ?_|refine ka' ?_ _));refine blk_put (cs:=#[.slice none 0 0, .bool false]) ?_ 0 _ rfl;(with_reducible repeat (first|refine kn' ?_ _|refine kd' ?_|refine ka' ?_ _));exact BK202.out) Try.underlying51 rfl (by kernel_rfl)) rfl ?_
 exact ⟨_,by first|rfl|(simp[errW_none,errW_some] <;> rfl)|(simp[*,errW_none,errW_some] <;> rfl),by (with_reducible repeat (first|apply ra'|apply rn'|apply rw'));exact Kd.R_mono (Kd.R_far (p:=⟨gb202,1,none⟩) (Kd.R_far (p:=⟨gb202,0,none⟩) (Kd.R_types HO208.out BK202.out (by decide)) (fun _ hk=>hk.2) (.slice Ao9 t206.length co9)) (fun _ hk=>hk.2) (.bool a1)) (fun _ hk=>trivial),by repeat (first|(with_reducible first|exact HB.out|apply ba'|apply bd'|apply be'|refine bs' ?_ GE202.out)|exact HB.out)⟩
def impl_bit.f (a0:Bool):Option (Int):=if a0=true then (some 1) else (some 0)
set_option maxHeartbeats 8000000 in
set_option maxRecDepth 100000 in
theorem impl_bit.calls (a0:Bool) (r:Int) (w:World) (h:impl_bit.f a0=some r) :
  Calls Try.prog 68 #[.bool a0] w fun e w'=>e = .returned (.int .i64 r)∧Drawn0 w w':=by
 have H:(if a0=true then (some 1) else (some 0))=some r:=h
 clear h;by_cases c2:a0=true
 ·
  subst c2;have H1:(some 1)=some r:=by rw[if_pos rfl] at H;exact H
  clear H;have H:=H1;clear H1;obtain rfl:=Option.some.inj H;go_enter Try.func68,Try.ntmps68;go_wp2;go_ret
  exact ⟨by first|rfl|(simp;done)|(simp[*];done),by repeat (first|exact Drawn0.refl _|apply Drawn0.step)⟩
 ·
  replace c2:=Bool.eq_false_iff.mpr c2;subst c2;have H1:(some 0)=some r:=by rw[if_neg (show ¬ (false=true) by decide)] at H;exact H
  clear H;have H:=H1;clear H1;obtain rfl:=Option.some.inj H;go_enter Try.func68,Try.ntmps68;go_wp2;go_ret
  exact ⟨by first|rfl|(simp;done)|(simp[*];done),by repeat (first|exact Drawn0.refl _|apply Drawn0.step)⟩
def impl_State_code.l0:Nat→Int→List Bool→Int→Int→Option (Int)
 | 0,_,_,_,_=>none
 | k+1,x3,x14,x15,x16=>if x16 < x15 then (if 0≤x16 then (if x16 < (x14.length:Int) then ((impl_bit.f (rdOf false x14 x16)).bind fun t212=>(impl_State_code.l0 k (Go.bits .or .i64 x3 (shl .i64 t212 x16)) x14 x15 (wrap64 (x16+1)))) else (none)) else (none)) else (some x3)
def impl_State_code.f (k:Nat) (l0_0:List Bool) (a0_1:Bool):Option (Int):=(impl_bit.f a0_1).bind fun t210=>(impl_State_code.l0 k (shl .i64 t210 (l0_0.length:Int)) l0_0 (l0_0.length:Int) 0)
theorem impl_State_code.mono_l:∀ k,(∀ y0 y1 y2 y3,LeO (impl_State_code.l0 k y0 y1 y2 y3) (impl_State_code.l0 (k+1) y0 y1 y2 y3))
 | 0=>fun _ _ _ _ r h=>by simp[impl_State_code.l0] at h
 | k+1=>by
  have ih0:=impl_State_code.mono_l k
  ·
   intro y0 y1 y2 y3;unfold impl_State_code.l0
   repeat' first
   | (with_reducible exact ih0 _ _ _ _)
   | (with_reducible exact LeO.refl _)
   | (with_reducible exact LeO.none _)
   | (with_reducible refine LeO.ite ?_ ?_)
   | (with_reducible refine LeO.bind ?_ (fun _=>?_))
   | exact ih0 _ _ _ _
   | exact LeO.none _
   | refine LeO.ite ?_ ?_
   | refine LeO.bind ?_ (fun _=>?_)
theorem impl_State_code.mono:∀ a0 a1 k,LeO (impl_State_code.f k a0 a1) (impl_State_code.f (k+1) a0 a1):=by
 intro a0 a1 k;have ih0:=impl_State_code.mono_l k
 unfold impl_State_code.f
 repeat' first
   | (with_reducible exact ih0 _ _ _ _)
   | (with_reducible exact LeO.refl _)
   | (with_reducible exact LeO.none _)
   | (with_reducible refine LeO.ite ?_ ?_)
   | (with_reducible refine LeO.bind ?_ (fun _=>?_))
   | exact ih0 _ _ _ _
   | exact LeO.none _
   | refine LeO.ite ?_ ?_
   | refine LeO.bind ?_ (fun _=>?_)
set_option maxHeartbeats 8000000 in
set_option maxRecDepth 100000 in
theorem impl_State_code.calls (k:Nat) (A0_0:Option Addr) (c0_0:Nat) (l0_0:List Bool) (a0_1:Bool) (r:Int) (w:World) (hr0_0:Kd.C Kd.bool w A0_0 l0_0.length l0_0) (hc0_0:l0_0.length≤c0_0) (h:impl_State_code.f k l0_0 a0_1=some r) :
  Calls Try.prog 112 #[.agg #[.slice A0_0 l0_0.length c0_0, .bool a0_1]] w fun e w'=>e = .returned (.int .i64 r)∧Below w.heap.size w w':=by
 have hu51:=Try.underlying51
 have HR0_0:=am' hr0_0
 have HC0_0:=am' hc0_0
 clear hr0_0 hc0_0;have HB:=am' (Below.refl w.heap.size w)
 have H:((impl_bit.f a0_1).bind fun t210=>(impl_State_code.l0 k (shl .i64 t210 (l0_0.length:Int)) l0_0 (l0_0.length:Int) 0))=some r:=h
 clear h;replace H:=Option.bind_eq_some_iff.mp H
 obtain ⟨t210,A20,H⟩:=H
 replace H:(impl_State_code.l0 k (shl .i64 t210 (l0_0.length:Int)) l0_0 (l0_0.length:Int) 0)=some r:=H
 have A2:=am' A20
 clear A20;obtain ⟨ji3,hji3⟩:∃ j_:Int,(shl .i64 t210 (l0_0.length:Int))=j_:=⟨_,rfl⟩
 replace H:(impl_State_code.l0 k ji3 l0_0 (l0_0.length:Int) 0)=some r:=by first|(rw[hji3] at H;exact H)|(simp only[hji3] at H ⊢;exact H)
 (try rw[hji3] at A2)
 have hji3_:(IntKind.i64.wrap (t210 * 2 ^ min (l0_0.length:Int).toNat 64))=ji3:=hji3
 have hji3z:(l0_0.length:Int)≤64→(IntKind.i64.wrap (t210 * 2 ^ (l0_0.length:Int).toNat))=ji3:=shl_small hji3
 have hji3p:(IntKind.i64.wrap (t210 * 2 ^ min l0_0.length 64))=ji3:=hji3_
 have hji3q:(l0_0.length:Int)≤64→(IntKind.i64.wrap (t210 * 2 ^ l0_0.length))=ji3:=hji3z
 have hji3y:(wrap64 (t210 * 2 ^ min (l0_0.length:Int).toNat 64))=ji3:=(i64_w _).symm.trans hji3_
 have hji3x:(l0_0.length:Int)≤64→(wrap64 (t210 * 2 ^ (l0_0.length:Int).toNat))=ji3:=fun h_=>(i64_w _).symm.trans (hji3z h_)
 have H':=am' H
 clear H;go_enter Try.func112,Try.ntmps112
 go_wp2_with (first|((with_reducible refine gate_dst (N:=1) rfl ?_);refine box_event ?hg (N:=1) ?hd (cs:=#[.slice A0_0 l0_0.length c0_0, .bool a0_1]) (t:=51) ?hr ?_;(case hd=>rfl);(case hg=>rfl);(case hr=>first|(go_simp;done)|(go_simp;rfl));intro gb209 hg w4 hbox hb;have n0_:=am' (below_step (by repeat (first|(with_reducible first|exact HB.out|apply ba'|apply bd'|apply be')|exact HB.out)) hb);have n1_:=am' (hbox);have n2_:=am' ((by rw[hg];exact (below_size (by repeat (first|(with_reducible first|exact HB.out|apply ba'|apply bd'|apply be')|exact HB.out))):w.heap.size≤gb209));have n3_:=am' ((by rw[hg];exact (below_size (by repeat (first|(with_reducible first|exact HB.out|apply ba'|apply bd'|apply be')|exact HB.out))):w.heap.size≤gb209));clear HB;have HB:=n0_;have BK209:=n1_;have GW209:=n2_;have GE209:=n3_;clear n0_ n1_ n2_ n3_;clear hb hbox hg;have hcz5_0:w4.cell? ⟨gb209,0,none⟩=some (.slice A0_0 l0_0.length c0_0):=(blk_cell BK209.out 0).trans rfl;have hcz5_1:w4.cell? ⟨gb209,1,none⟩=some (.bool a0_1):=(blk_cell BK209.out 1).trans rfl;have hfz5_0:=blk_frozen BK209.out 0;have hfz5_1:=blk_frozen BK209.out 1)|(go_at_call 68;(with_reducible refine (impl_bit.calls a0_1 t210 _ A2.out).mono ?_);rintro e w' ⟨rfl,⟨nd,rfl⟩⟩;(try first|exact ⟨rfl,_,World.drewN_drewN _ _ _⟩|exact ⟨rfl,_,Eq.trans (World.drewN_drewN _ _ _) (congrArg (World.drewN _) (Nat.add_assoc _ _ _))⟩)))
 repeat (go_quiet (first|((with_reducible refine gate_dst (N:=1) rfl ?_);refine box_event ?hg (N:=1) ?hd (cs:=#[.slice A0_0 l0_0.length c0_0, .bool a0_1]) (t:=51) ?hr ?_;(case hd=>rfl);(case hg=>rfl);(case hr=>first|(go_simp;done)|(go_simp;rfl));intro gb209 hg w4 hbox hb;have n0_:=am' (below_step (by repeat (first|(with_reducible first|exact HB.out|apply ba'|apply bd'|apply be')|exact HB.out)) hb);have n1_:=am' (hbox);have n2_:=am' ((by rw[hg];exact (below_size (by repeat (first|(with_reducible first|exact HB.out|apply ba'|apply bd'|apply be')|exact HB.out))):w.heap.size≤gb209));have n3_:=am' ((by rw[hg];exact (below_size (by repeat (first|(with_reducible first|exact HB.out|apply ba'|apply bd'|apply be')|exact HB.out))):w.heap.size≤gb209));clear HB;have HB:=n0_;have BK209:=n1_;have GW209:=n2_;have GE209:=n3_;clear n0_ n1_ n2_ n3_;clear hb hbox hg;have hcz5_0:w4.cell? ⟨gb209,0,none⟩=some (.slice A0_0 l0_0.length c0_0):=(blk_cell BK209.out 0).trans rfl;have hcz5_1:w4.cell? ⟨gb209,1,none⟩=some (.bool a0_1):=(blk_cell BK209.out 1).trans rfl;have hfz5_0:=blk_frozen BK209.out 0;have hfz5_1:=blk_frozen BK209.out 1)|(go_at_call 68;(with_reducible refine (impl_bit.calls a0_1 t210 _ A2.out).mono ?_);rintro e w' ⟨rfl,⟨nd,rfl⟩⟩;(try first|exact ⟨rfl,_,World.drewN_drewN _ _ _⟩|exact ⟨rfl,_,Eq.trans (World.drewN_drewN _ _ _) (congrArg (World.drewN _) (Nat.add_assoc _ _ _))⟩)));try go_wp2_with (first|((with_reducible refine gate_dst (N:=1) rfl ?_);refine box_event ?hg (N:=1) ?hd (cs:=#[.slice A0_0 l0_0.length c0_0, .bool a0_1]) (t:=51) ?hr ?_;(case hd=>rfl);(case hg=>rfl);(case hr=>first|(go_simp;done)|(go_simp;rfl));intro gb209 hg w4 hbox hb;have n0_:=am' (below_step (by repeat (first|(with_reducible first|exact HB.out|apply ba'|apply bd'|apply be')|exact HB.out)) hb);have n1_:=am' (hbox);have n2_:=am' ((by rw[hg];exact (below_size (by repeat (first|(with_reducible first|exact HB.out|apply ba'|apply bd'|apply be')|exact HB.out))):w.heap.size≤gb209));have n3_:=am' ((by rw[hg];exact (below_size (by repeat (first|(with_reducible first|exact HB.out|apply ba'|apply bd'|apply be')|exact HB.out))):w.heap.size≤gb209));clear HB;have HB:=n0_;have BK209:=n1_;have GW209:=n2_;have GE209:=n3_;clear n0_ n1_ n2_ n3_;clear hb hbox hg;have hcz5_0:w4.cell? ⟨gb209,0,none⟩=some (.slice A0_0 l0_0.length c0_0):=(blk_cell BK209.out 0).trans rfl;have hcz5_1:w4.cell? ⟨gb209,1,none⟩=some (.bool a0_1):=(blk_cell BK209.out 1).trans rfl;have hfz5_0:=blk_frozen BK209.out 0;have hfz5_1:=blk_frozen BK209.out 1)|(go_at_call 68;(with_reducible refine (impl_bit.calls a0_1 t210 _ A2.out).mono ?_);rintro e w' ⟨rfl,⟨nd,rfl⟩⟩;(try first|exact ⟨rfl,_,World.drewN_drewN _ _ _⟩|exact ⟨rfl,_,Eq.trans (World.drewN_drewN _ _ _) (congrArg (World.drewN _) (Nat.add_assoc _ _ _))⟩))))
 go_loopg [3,16] k (fun kq v3 v16 w'=>∃ (x3_1:Int) (x16_1:Int),v3 = .int .i64 x3_1∧v16 = .int .i64 x16_1∧Aside0 (impl_State_code.l0 kq x3_1 l0_0 (l0_0.length:Int) x16_1=some r)∧Aside0 (kq≤k)∧Aside0 (w'.heap[gb209]? = some (.cells #[(.slice A0_0 l0_0.length c0_0), .bool a0_1] 51 (0,0)))∧Aside0 (Below w.heap.size w w'))
 case atStart=>exact ⟨(ji3),(0),(by first|rfl|(simp;done)|(simp only[← hji3] <;> (first|rfl|simp))|(simp[*];done)),(by first|rfl|(simp;done)|(simp[*];done)),H',⟨Nat.le_refl _⟩,⟨by (with_reducible repeat (first|refine kn' ?_ _|refine kd' ?_|refine ka' ?_ _));exact BK209.out⟩,⟨by repeat (first|(with_reducible first|exact HB.out|apply ba'|apply bd'|apply be'|refine bs' ?_ GE209.out)|exact HB.out)⟩⟩
 case round =>
  clear H';try clear c1
  try clear p2
  try clear hcz5_0
  try clear hcz5_1
  try clear hfz5_0
  try clear hfz5_1
  obtain ⟨x3_1,x16_1,rfl,rfl,HA,HK1,BK209,HB⟩:=hrel;cases gk with
  | zero=>exact absurd HA.out (by simp[impl_State_code.l0])
  | succ k1 =>
   have H:=HA.out;clear HA;simp only[impl_State_code.l0] at H;by_cases c6:x16_1 < (l0_0.length:Int)
   ·
    rw[if_pos c6] at H;have c6b0:decide (x16_1 < (l0_0.length:Int))=true:=decide_eq_true c6;clear c6;by_cases c7:0≤x16_1
    ·
     rw[if_pos c7] at H;have c7b0:decide (0≤x16_1)=true:=decide_eq_true c7;clear c7;by_cases c8:x16_1 < (l0_0.length:Int)
     ·
      rw[if_pos c8] at H;have c8b0:decide (x16_1 < (l0_0.length:Int))=true:=decide_eq_true c8;clear c8;replace H:=Option.bind_eq_some_iff.mp H;obtain ⟨t212,A90,H⟩:=H;replace H:(impl_State_code.l0 k1 (Go.bits .or .i64 x3_1 (shl .i64 t212 x16_1)) l0_0 (l0_0.length:Int) (wrap64 (x16_1+1)))=some r:=H;have A9:=am' A90;clear A90;have c10b0:=eq_true (of_decide_eq_true (by first|(with_reducible assumption)|assumption):0≤x16_1);obtain ⟨ji11,hji11⟩:∃ j_:Int,(shl .i64 t212 x16_1)=j_:=⟨_,rfl⟩
      replace H:(impl_State_code.l0 k1 (Go.bits .or .i64 x3_1 (ji11)) l0_0 (l0_0.length:Int) (wrap64 (x16_1+1)))=some r:=by first|(rw[hji11] at H;exact H)|(simp only[hji11] at H ⊢;exact H)
      (try rw[hji11] at A9)
      have hji11_:(IntKind.i64.wrap (t212 * 2 ^ min x16_1.toNat 64))=ji11:=hji11;have hji11z:x16_1≤64→(IntKind.i64.wrap (t212 * 2 ^ x16_1.toNat))=ji11:=shl_small hji11;have hji11y:(wrap64 (t212 * 2 ^ min x16_1.toNat 64))=ji11:=(i64_w _).symm.trans hji11_;have hji11x:x16_1≤64→(wrap64 (t212 * 2 ^ x16_1.toNat))=ji11:=fun h_=>(i64_w _).symm.trans (hji11z h_)
      have H':=am' H;clear H;have p211:0≤(x16_1:Int):=of_decide_eq_true (by first|(with_reducible assumption)|assumption);have q211:x16_1 < (l0_0.length:Int):=of_decide_eq_true (by first|(with_reducible assumption)|assumption);obtain ⟨ad211,e211,hx211_0⟩:=Kd.at_bool HR0_0.out x16_1 p211 q211;cases e211;replace hx211_0:=(HB.out.cell (bl' w _ hx211_0)).trans hx211_0;replace p211:=eq_true p211;replace q211:=eq_true q211;go_wp2_with (first|(go_at_call 68;(with_reducible refine (impl_bit.calls (rdOf false l0_0 x16_1) t212 _ A9.out).mono ?_);rintro e w' ⟨rfl,⟨nd,rfl⟩⟩;(try first|exact ⟨rfl,_,World.drewN_drewN _ _ _⟩|exact ⟨rfl,_,Eq.trans (World.drewN_drewN _ _ _) (congrArg (World.drewN _) (Nat.add_assoc _ _ _))⟩)))
      repeat (go_quiet (first|(go_at_call 68;(with_reducible refine (impl_bit.calls (rdOf false l0_0 x16_1) t212 _ A9.out).mono ?_);rintro e w' ⟨rfl,⟨nd,rfl⟩⟩;(try first|exact ⟨rfl,_,World.drewN_drewN _ _ _⟩|exact ⟨rfl,_,Eq.trans (World.drewN_drewN _ _ _) (congrArg (World.drewN _) (Nat.add_assoc _ _ _))⟩)));try go_wp2_with (first|(go_at_call 68;(with_reducible refine (impl_bit.calls (rdOf false l0_0 x16_1) t212 _ A9.out).mono ?_);rintro e w' ⟨rfl,⟨nd,rfl⟩⟩;(try first|exact ⟨rfl,_,World.drewN_drewN _ _ _⟩|exact ⟨rfl,_,Eq.trans (World.drewN_drewN _ _ _) (congrArg (World.drewN _) (Nat.add_assoc _ _ _))⟩))))
      go_roundg k1
      case measure=>have:=HK1.out;omega
      case rel=>exact ⟨(Go.bits .or .i64 x3_1 (ji11)),(wrap64 (x16_1+1)),(by first|rfl|(simp;done)|(simp only[← hji11] <;> (first|rfl|simp))|(simp[*];done)),(by first|rfl|(simp;done)|(simp[*];done)),H',⟨by have:=HK1.out;omega⟩,⟨by (with_reducible repeat (first|refine kn' ?_ _|refine kd' ?_|refine ka' ?_ _));exact BK209.out⟩,⟨by repeat (first|(with_reducible first|exact HB.out|apply ba'|apply bd'|apply be'|refine bs' ?_ GE209.out)|exact HB.out)⟩⟩
     ·
      rw[if_neg c8] at H;exact absurd H (by simp)
    ·
     rw[if_neg c7] at H;exact absurd H (by simp)
   ·
    rw[if_neg c6] at H;have c6b0:decide (x16_1 < (l0_0.length:Int))=false:=decide_eq_false c6;clear c6;obtain rfl:=Option.some.inj H;go_wp2
    repeat (go_quiet (fail);try go_wp2)
    go_ret
    exact ⟨by first|rfl|(simp[errW_none,errW_some] <;> rfl)|(simp only[← hji3];first|rfl|(simp[errW_none,errW_some] <;> rfl))|(simp[*,errW_none,errW_some] <;> rfl),by repeat (first|(with_reducible first|exact HB.out|apply ba'|apply bd'|apply be'|refine bs' ?_ GE209.out)|exact HB.out)⟩
def impl_Company_isCalmPlan.l0:Nat→List (List Int)→Int→Int→Int→Int→List Bool→Bool→Option (Bool)
 | 0,_,_,_,_,_,_,_=>none
 | k+1,x12,x13,x14,x214000,x214001,x219000,x219001=>if x14 < x13 then (if 0≤x14 then (if x14 < (x12.length:Int) then ((impl_Company_isRow.f k x214000 x214001 x219000 x219001 (rd_L1 x12 x14)).bind fun t222=>(if t222=true then ((impl_State_moved.f k x219000 x219001 (rd_L1 x12 x14)).bind fun bt223=>(impl_Company_isCalmPlan.l0 k x12 x13 (wrap64 (x14+1)) x214000 x214001 bt223.1 bt223.2)) else (some false))) else (none)) else (none)) else ((impl_State_code.f k x219000 x219001).bind fun t219=>((impl_last.f (wrap64 (2 * x214000))).bind fun t220=>(some (t219 == t220))))
def impl_Company_isCalmPlan.f (k:Nat) (a0_0:Int) (a0_1:Int) (l1:List (List Int)):Option (Bool):=(impl_allAt.f (wrap64 (2 * a0_0)) false).bind fun bt214=>(impl_Company_isCalmPlan.l0 k l1 (l1.length:Int) 0 a0_0 a0_1 bt214.1 bt214.2)
def impl_Company_isCalmPlan.T9:Bool × List (List Nat × List Nat):=(true,[([],[]),([0],[0]),([],[]),([2],[2]),([3],[3]),([4,1],[4]),([1,5],[1,5]),([6,5,0,1,2,3,4,5,6],[6])])
def impl_Company_isCalmPlan.B9:List Nat:=[0,1,0,4,12,31,63,127]
theorem impl_Company_isCalmPlan.tab9:rtab .any (opsOf Try.f78 9)=impl_Company_isCalmPlan.T9:=by kernel_rfl
theorem impl_Company_isCalmPlan.bits9:waitsOk impl_Company_isCalmPlan.T9.2 impl_Company_isCalmPlan.B9=true:=by kernel_rfl
set_option maxHeartbeats 8000000 in
set_option maxRecDepth 100000 in
theorem impl_Company_isCalmPlan.calls (k:Nat) (a0_0:Int) (a0_1:Int) (A1:Option Addr) (c1:Nat) (l1:List (List Int)) (r:Bool) (w:World) (hr1:Kd.C (Kd.slice 3 (Kd.int .i64)) w A1 l1.length l1) (hc1:l1.length≤c1) (h:impl_Company_isCalmPlan.f k a0_0 a0_1 l1=some r) :
  Calls Try.prog 78 #[.agg #[.int .i64 a0_0, .int .i64 a0_1], .slice A1 l1.length c1] w fun e w'=>e = .returned (.bool r)∧Below w.heap.size w w':=by
 have hu40:=Try.underlying40
 have hu51:=Try.underlying51
 have HR1:=am' hr1
 have HC1:=am' hc1
 clear hr1 hc1;have HB:=am' (Below.refl w.heap.size w)
 have H:((impl_allAt.f (wrap64 (2 * a0_0)) false).bind fun bt214=>(impl_Company_isCalmPlan.l0 k l1 (l1.length:Int) 0 a0_0 a0_1 bt214.1 bt214.2))=some r:=h
 clear h;replace H:=Option.bind_eq_some_iff.mp H
 obtain ⟨⟨t214,t217⟩,A30,H⟩:=H
 replace H:(impl_Company_isCalmPlan.l0 k l1 (l1.length:Int) 0 a0_0 a0_1 t214 t217)=some r:=H
 have A3:=am' A30
 clear A30;have H':=am' H
 clear H;go_enter Try.func78,Try.ntmps78
 go_wp2_with (first|((with_reducible refine gate_dst (N:=2) rfl ?_);refine box_event ?hg (N:=2) ?hd (cs:=#[.int .i64 a0_0, .int .i64 a0_1]) (t:=40) ?hr ?_;(case hd=>rfl);(case hg=>rfl);(case hr=>first|(go_simp;done)|(go_simp;rfl));intro gb213 hg w4 hbox hb;have n0_:=am' (below_step (by repeat (first|(with_reducible first|exact HB.out|apply ba'|apply bd'|apply be')|exact HB.out)) hb);have n1_:=am' (hbox);have n2_:=am' ((by rw[hg];exact (below_size (by repeat (first|(with_reducible first|exact HB.out|apply ba'|apply bd'|apply be')|exact HB.out))):w.heap.size≤gb213));have n3_:=am' ((by rw[hg];exact (below_size (by repeat (first|(with_reducible first|exact HB.out|apply ba'|apply bd'|apply be')|exact HB.out))):w.heap.size≤gb213));clear HB;have HB:=n0_;have BK213:=n1_;have GW213:=n2_;have GE213:=n3_;clear n0_ n1_ n2_ n3_;clear hb hbox hg;have hcz5_0:w4.cell? ⟨gb213,0,none⟩=some (.int .i64 a0_0):=(blk_cell BK213.out 0).trans rfl;have hcz5_1:w4.cell? ⟨gb213,1,none⟩=some (.int .i64 a0_1):=(blk_cell BK213.out 1).trans rfl;have hfz5_0:=blk_frozen BK213.out 0;have hfz5_1:=blk_frozen BK213.out 1)|((with_reducible refine gate_callee (f:=111) rfl ?_);refine goesL_ (some 11) rfl rfl Try.func111 (by kernel_rfl) rfl #[.int .i64 (wrap64 (2 * a0_0)), .bool false] rfl (by (try simp only[List.map_toArray,List.map_cons,List.map_nil]);first|done|rfl|(simp only[List.length_drop,List.length_take];rfl)) ?_;(with_reducible refine (impl_allAt.calls (wrap64 (2 * a0_0)) false t214 t217 _ A3.out).mono ?_);rintro e w6 ⟨v215,rfl,ho0,hb⟩;refine ⟨_,rfl,?_⟩;have n0_:=am' (Kd.R_lower ho0 (below_size (by repeat (first|(with_reducible first|exact HB.out|apply ba'|apply bd'|apply be'|refine bs' ?_ GE213.out)|exact HB.out))));have n1_:=am' (blk_below (g:=gb213) (o := .cells #[.int .i64 a0_0, .int .i64 a0_1] 40 (0,0)) (by (with_reducible repeat (first|refine kn' ?_ _|refine kd' ?_|refine ka' ?_ _));exact BK213.out) hb);have n2_:=am' (below_step (by repeat (first|(with_reducible first|exact HB.out|apply ba'|apply bd'|apply be'|refine bs' ?_ GE213.out)|exact HB.out)) hb);clear BK213;clear HB;have HO216:=n0_;have BK213:=n1_;have HB:=n2_;clear n0_ n1_ n2_;(try clear hb);(try clear hb2);(try clear hk);(try clear hi);(try clear ho0))|((with_reducible refine gate_dst (N:=5) rfl ?_);refine box_event ?hg (N:=5) ?hd (cs:=#[.slice none 0 0, .bool false]) (t:=51) ?hr ?_;(case hd=>rfl);(case hg=>rfl);(case hr=>first|(go_simp;done)|(go_simp;rfl));intro gb218 hg w7 hbox hb;have n0_:=am' (Kd.R_below (by (with_reducible repeat (first|apply ra'|apply rn'|apply rw'));exact HO216.out) hb);have n1_:=am' (blk_below (g:=gb213) (o := .cells #[.int .i64 a0_0, .int .i64 a0_1] 40 (0,0)) (by (with_reducible repeat (first|refine kn' ?_ _|refine kd' ?_|refine ka' ?_ _));exact BK213.out) hb);have n2_:=am' (below_step (by repeat (first|(with_reducible first|exact HB.out|apply ba'|apply bd'|apply be'|refine bs' ?_ GE213.out)|exact HB.out)) hb);have n3_:=am' (hbox);have n4_:=am' ((by rw[hg];exact (below_size (by repeat (first|(with_reducible first|exact HB.out|apply ba'|apply bd'|apply be'|refine bs' ?_ GE213.out)|exact HB.out))):w.heap.size≤gb218));have n5_:=am' ((by rw[hg];exact (below_size (by repeat (first|(with_reducible first|exact HB.out|apply ba'|apply bd'|apply be'|refine bs' ?_ GE213.out)|exact HB.out))):w.heap.size≤gb218));have n6_:=am' ((by rw[hg];exact Nat.ne_of_lt (blk_lt (g:=gb213) (o := .cells #[.int .i64 a0_0, .int .i64 a0_1] 40 (0,0)) (by (with_reducible repeat (first|refine kn' ?_ _|refine kd' ?_|refine ka' ?_ _));exact BK213.out)):gb213≠gb218));have n7_:=am' ((by rw[hg];exact Nat.ne_of_gt (blk_lt (g:=gb213) (o := .cells #[.int .i64 a0_0, .int .i64 a0_1] 40 (0,0)) (by (with_reducible repeat (first|refine kn' ?_ _|refine kd' ?_|refine ka' ?_ _));exact BK213.out)):gb218≠gb213));clear HO216;clear BK213;clear HB;have HO216:=n0_;have BK213:=n1_;have HB:=n2_;have BK218:=n3_;have GW218:=n4_;have GE218:=n5_;have NB213_218:=n6_;have NB218_213:=n7_;clear n0_ n1_ n2_ n3_ n4_ n5_ n6_ n7_;clear hb hbox hg;obtain ⟨Ao8,co8,eo8⟩:=Kd.R_slice HO216.out;subst eo8;have hnb9:=NB218_213.out;have hnc9:=NB213_218.out;have hcz10_0:w7.cell? ⟨gb218,0,none⟩=some (.slice none 0 0):=(blk_cell BK218.out 0).trans rfl;have hcz10_1:w7.cell? ⟨gb218,1,none⟩=some (.bool false):=(blk_cell BK218.out 1).trans rfl;have hfz10_0:=blk_frozen BK218.out 0;have hfz10_1:=blk_frozen BK218.out 1))
 go_loopg [14] k (fun kq v14 w'=>∃ (x14_1:Int) (x219000_1:List Bool) (x219001_1:Bool) (u219000:Value),v14 = .int .i64 x14_1∧Aside0 (impl_Company_isCalmPlan.l0 kq l1 (l1.length:Int) x14_1 a0_0 a0_1 x219000_1 x219001_1=some r)∧Aside0 (kq≤k)∧Aside0 (Kd.R Kd.bool 4 w' w.heap.size (fun _=>True) u219000 x219000_1)∧Aside0 (w'.heap[gb213]? = some (.cells #[.int .i64 a0_0, .int .i64 a0_1] 40 (0,0)))∧Aside0 (w'.heap[gb218]? = some (.cells #[u219000, .bool x219001_1] 51 (0,0)))∧Aside0 (Below w.heap.size w w'))
 case atStart=>exact ⟨(0),(t214),(t217),(.slice Ao8 t214.length co8),(by first|rfl|(simp;done)|(simp[*];done)),H',⟨Nat.le_refl _⟩,⟨by (with_reducible repeat (first|apply ra'|apply rn'|apply rw'));exact Kd.R_mono (Kd.R_far (p:=⟨gb218,1,none⟩) (Kd.R_far (p:=⟨gb218,0,none⟩) (Kd.R_types HO216.out BK218.out (by decide)) (fun _ hk=>hk.2) (.slice Ao8 t214.length co8)) (fun _ hk=>hk.2) (.bool t217)) (fun _ hk=>trivial)⟩,⟨by (with_reducible repeat (first|refine kn' ?_ _|refine kd' ?_|refine ka' ?_ _));refine blk_far ?_ NB213_218.out _;(with_reducible repeat (first|refine kn' ?_ _|refine kd' ?_|refine ka' ?_ _));refine blk_far ?_ NB213_218.out _;(with_reducible repeat (first|refine kn' ?_ _|refine kd' ?_|refine ka' ?_ _));exact BK213.out⟩,⟨by (with_reducible repeat (first|refine kn' ?_ _|refine kd' ?_|refine ka' ?_ _));refine blk_put (cs:=#[.slice Ao8 t214.length co8, .bool false]) ?_ 1 _ rfl;(with_reducible repeat (first|refine kn' ?_ _|refine kd' ?_|refine ka' ?_ _));refine blk_put (cs:=#[.slice none 0 0, .bool false]) ?_ 0 _ rfl;(with_reducible repeat (first|refine kn' ?_ _|refine kd' ?_|refine ka' ?_ _));exact BK218.out⟩,⟨by repeat (first|(with_reducible first|exact HB.out|apply ba'|apply bd'|apply be'|refine bs' ?_ GE213.out|refine bs' ?_ GE218.out)|exact HB.out)⟩⟩
 case round =>
  clear H';try clear c1
  try clear p2
  try clear p6
  try clear c7
  try clear c9
  try clear hcz10_0
  try clear hcz10_1
  try clear hcz5_0
  try clear hcz5_1
  try clear hfz10_0
  try clear hfz10_1
  try clear hfz5_0
  try clear hfz5_1
  obtain ⟨x14_1,x219000_1,x219001_1,u219000,rfl,HA,HK1,HO_219000,BK213,BK218,HB⟩:=hrel;cases gk with
  | zero=>exact absurd HA.out (by simp[impl_Company_isCalmPlan.l0])
  | succ k1 =>
   have H:=HA.out;clear HA;simp only[impl_Company_isCalmPlan.l0] at H;by_cases c11:x14_1 < (l1.length:Int)
   ·
    rw[if_pos c11] at H;have c11b0:decide (x14_1 < (l1.length:Int))=true:=decide_eq_true c11;clear c11;by_cases c12:0≤x14_1
    ·
     rw[if_pos c12] at H;have c12b0:decide (0≤x14_1)=true:=decide_eq_true c12;clear c12;by_cases c13:x14_1 < (l1.length:Int)
     ·
      rw[if_pos c13] at H;have c13b0:decide (x14_1 < (l1.length:Int))=true:=decide_eq_true c13;clear c13;replace H:=Option.bind_eq_some_iff.mp H;obtain ⟨t222,A140,H⟩:=H;replace H:(if t222=true then ((impl_State_moved.f k1 x219000_1 x219001_1 (rd_L1 l1 x14_1)).bind fun bt223=>(impl_Company_isCalmPlan.l0 k1 l1 (l1.length:Int) (wrap64 (x14_1+1)) a0_0 a0_1 bt223.1 bt223.2)) else (some false))=some r:=H;have A14:=am' A140;clear A140;by_cases c15:t222=true
      ·
       subst c15;have H1:((impl_State_moved.f k1 x219000_1 x219001_1 (rd_L1 l1 x14_1)).bind fun bt223=>(impl_Company_isCalmPlan.l0 k1 l1 (l1.length:Int) (wrap64 (x14_1+1)) a0_0 a0_1 bt223.1 bt223.2))=some r:=by rw[if_pos rfl] at H;exact H
       clear H;have H:=H1;clear H1;replace H:=Option.bind_eq_some_iff.mp H;obtain ⟨⟨t223,t226⟩,A160,H⟩:=H;replace H:(impl_Company_isCalmPlan.l0 k1 l1 (l1.length:Int) (wrap64 (x14_1+1)) a0_0 a0_1 t223 t226)=some r:=H;have A16:=am' A160;clear A160;have H':=am' H;clear H;have p221:0≤(x14_1:Int):=of_decide_eq_true (by first|(with_reducible assumption)|assumption);have q221:x14_1 < (l1.length:Int):=of_decide_eq_true (by first|(with_reducible assumption)|assumption);obtain ⟨ad221,A221_0,c221_0,e221,hx221_0,hl221_0,hi221_0⟩:=at_L1 HR1.out x14_1 p221 q221;cases e221;replace hx221_0:=(HB.out.cell (bl' w _ hx221_0)).trans hx221_0;have HR221_0:=am' hi221_0;have HC221_0:=am' hl221_0;clear hi221_0 hl221_0;replace p221:=eq_true p221;replace q221:=eq_true q221;have hnb17:=NB213_218.out;have hnc17:=NB218_213.out;have hcz18_0:wr.cell? ⟨gb213,0,none⟩=some (.int .i64 a0_0):=(blk_cell BK213.out 0).trans rfl;have hcz18_1:wr.cell? ⟨gb213,1,none⟩=some (.int .i64 a0_1):=(blk_cell BK213.out 1).trans rfl;have hfz18_0:=blk_frozen BK213.out 0;have hfz18_1:=blk_frozen BK213.out 1;have hcz19_0:wr.cell? ⟨gb218,0,none⟩=some (u219000):=(blk_cell BK218.out 0).trans rfl;have hcz19_1:wr.cell? ⟨gb218,1,none⟩=some (.bool x219001_1):=(blk_cell BK218.out 1).trans rfl;have hfz19_0:=blk_frozen BK218.out 0;have hfz19_1:=blk_frozen BK218.out 1;obtain ⟨Ao20,co20,eo20⟩:=Kd.R_slice HO_219000.out;subst eo20;go_wp2_with (first|((with_reducible refine gate_callee (f:=94) rfl ?_);refine goesL_ (some 21) rfl rfl Try.func94 (by kernel_rfl) rfl #[.agg #[.int .i64 a0_0, .int .i64 a0_1], .agg #[.slice Ao20 x219000_1.length co20, .bool x219001_1], .slice A221_0 (rd_L1 l1 x14_1).length c221_0] rfl (by (try simp only[List.map_toArray,List.map_cons,List.map_nil]);first|done|rfl|(simp only[List.length_drop,List.length_take];rfl)) ?_;(with_reducible refine (impl_Company_isRow.calls k1 a0_0 a0_1 _ _ x219000_1 x219001_1 _ _ (rd_L1 l1 x14_1) true _ ?side1 ?side2 ?side3 ?side4 A14.out).mono ?_);(case side1=>repeat (first|exact (Kd.R_reads' HO_219000.out).2.2|(with_reducible refine ca' ?_ _)|(with_reducible refine cn' ?_ _)|(with_reducible refine cd' ?_)));(case side2=>exact (Kd.R_reads' HO_219000.out).2.1);(case side3=>repeat (first|exact (Kd.C_below HR221_0.out HB.out)|(with_reducible refine ca' ?_ _)|(with_reducible refine cn' ?_ _)|(with_reducible refine cd' ?_)));(case side4=>exact HC221_0.out);rintro e w21 ⟨rfl,hb⟩;refine ⟨_,rfl,?_⟩;have n0_:=am' (Kd.R_below (by (with_reducible repeat (first|apply ra'|apply rn'|apply rw'));exact HO_219000.out) hb);have n1_:=am' (blk_below (g:=gb213) (o := .cells #[.int .i64 a0_0, .int .i64 a0_1] 40 (0,0)) (by (with_reducible repeat (first|refine kn' ?_ _|refine kd' ?_|refine ka' ?_ _));exact BK213.out) hb);have n2_:=am' (blk_below (g:=gb218) (o := .cells #[.slice Ao20 x219000_1.length co20, .bool x219001_1] 51 (0,0)) (by (with_reducible repeat (first|refine kn' ?_ _|refine kd' ?_|refine ka' ?_ _));exact BK218.out) hb);have n3_:=am' (below_step (by repeat (first|(with_reducible first|exact HB.out|apply ba'|apply bd'|apply be'|refine bs' ?_ GE213.out|refine bs' ?_ GE218.out)|exact HB.out)) hb);clear HO_219000;clear BK213;clear BK218;clear HB;have HO_219000:=n0_;have BK213:=n1_;have BK218:=n2_;have HB:=n3_;clear n0_ n1_ n2_ n3_;(try clear hb);(try clear hb2);(try clear hk);(try clear hi);have hcz22_0:w21.cell? ⟨gb218,0,none⟩=some (.slice Ao20 x219000_1.length co20):=(blk_cell BK218.out 0).trans rfl;have hcz22_1:w21.cell? ⟨gb218,1,none⟩=some (.bool x219001_1):=(blk_cell BK218.out 1).trans rfl;have hfz22_0:=blk_frozen BK218.out 0;have hfz22_1:=blk_frozen BK218.out 1)|((with_reducible refine gate_callee (f:=95) rfl ?_);refine goesL_ (some 25) rfl rfl Try.func95 (by kernel_rfl) rfl #[.agg #[.slice Ao20 x219000_1.length co20, .bool x219001_1], .slice A221_0 (rd_L1 l1 x14_1).length c221_0] rfl (by (try simp only[List.map_toArray,List.map_cons,List.map_nil]);first|done|rfl|(simp only[List.length_drop,List.length_take];rfl)) ?_;(with_reducible refine (impl_State_moved.calls k1 _ _ x219000_1 x219001_1 _ _ (rd_L1 l1 x14_1) t223 t226 _ ?side1 ?side2 ?side3 ?side4 A16.out).mono ?_);(case side1=>repeat (first|exact (Kd.R_reads' HO_219000.out).2.2|(with_reducible refine ca' ?_ _)|(with_reducible refine cn' ?_ _)|(with_reducible refine cd' ?_)));(case side2=>exact (Kd.R_reads' HO_219000.out).2.1);(case side3=>repeat (first|exact (Kd.C_below HR221_0.out HB.out)|(with_reducible refine ca' ?_ _)|(with_reducible refine cn' ?_ _)|(with_reducible refine cd' ?_)));(case side4=>exact HC221_0.out);rintro e w23 ⟨v224,rfl,ho0,hb⟩;refine ⟨_,rfl,?_⟩;have n0_:=am' (Kd.R_elder' (by (with_reducible repeat (first|apply ra'|apply rn'|apply rw'));exact HO_219000.out) (Kd.R_base ho0) hb);have n1_:=am' (Kd.R_lower (Kd.R_new' ho0 (Kd.R_lt (by (with_reducible repeat (first|apply ra'|apply rn'|apply rw'));exact HO_219000.out))) (below_size (by repeat (first|(with_reducible first|exact HB.out|apply ba'|apply bd'|apply be'|refine bs' ?_ GE213.out|refine bs' ?_ GE218.out)|exact HB.out))));have n2_:=am' (blk_below (g:=gb213) (o := .cells #[.int .i64 a0_0, .int .i64 a0_1] 40 (0,0)) (by (with_reducible repeat (first|refine kn' ?_ _|refine kd' ?_|refine ka' ?_ _));exact BK213.out) hb);have n3_:=am' (blk_below (g:=gb218) (o := .cells #[.slice Ao20 x219000_1.length co20, .bool x219001_1] 51 (0,0)) (by (with_reducible repeat (first|refine kn' ?_ _|refine kd' ?_|refine ka' ?_ _));exact BK218.out) hb);have n4_:=am' (below_step (by repeat (first|(with_reducible first|exact HB.out|apply ba'|apply bd'|apply be'|refine bs' ?_ GE213.out|refine bs' ?_ GE218.out)|exact HB.out)) hb);clear HO_219000;clear BK213;clear BK218;clear HB;have HO_219000:=n0_;have HO225:=n1_;have BK213:=n2_;have BK218:=n3_;have HB:=n4_;clear n0_ n1_ n2_ n3_ n4_;(try clear hb);(try clear hb2);(try clear hk);(try clear hi);(try clear ho0);obtain ⟨Ao24,co24,eo24⟩:=Kd.R_slice HO225.out;subst eo24;have hcz25_0:w23.cell? ⟨gb218,0,none⟩=some (.slice Ao20 x219000_1.length co20):=(blk_cell BK218.out 0).trans rfl;have hcz25_1:w23.cell? ⟨gb218,1,none⟩=some (.bool x219001_1):=(blk_cell BK218.out 1).trans rfl;have hfz25_0:=blk_frozen BK218.out 0;have hfz25_1:=blk_frozen BK218.out 1))
       go_roundg k1
       case measure=>have:=HK1.out;omega
       case rel=>exact ⟨(wrap64 (x14_1+1)),(t223),(t226),(.slice Ao24 t223.length co24),(by first|rfl|(simp;done)|(simp[*];done)),H',⟨by have:=HK1.out;omega⟩,⟨by (with_reducible repeat (first|apply ra'|apply rn'|apply rw'));exact Kd.R_mono (Kd.R_far (p:=⟨gb218,1,none⟩) (Kd.R_far (p:=⟨gb218,0,none⟩) (Kd.R_types HO225.out BK218.out (by decide)) (fun _ hk=>hk.2) (.slice Ao24 t223.length co24)) (fun _ hk=>hk.2) (.bool t226)) (fun _ hk=>trivial)⟩,⟨by (with_reducible repeat (first|refine kn' ?_ _|refine kd' ?_|refine ka' ?_ _));refine blk_far ?_ NB213_218.out _;(with_reducible repeat (first|refine kn' ?_ _|refine kd' ?_|refine ka' ?_ _));refine blk_far ?_ NB213_218.out _;(with_reducible repeat (first|refine kn' ?_ _|refine kd' ?_|refine ka' ?_ _));exact BK213.out⟩,⟨by (with_reducible repeat (first|refine kn' ?_ _|refine kd' ?_|refine ka' ?_ _));refine blk_put (cs:=#[.slice Ao24 t223.length co24, .bool x219001_1]) ?_ 1 _ rfl;(with_reducible repeat (first|refine kn' ?_ _|refine kd' ?_|refine ka' ?_ _));refine blk_put (cs:=#[.slice Ao20 x219000_1.length co20, .bool x219001_1]) ?_ 0 _ rfl;(with_reducible repeat (first|refine kn' ?_ _|refine kd' ?_|refine ka' ?_ _));exact BK218.out⟩,⟨by repeat (first|(with_reducible first|exact HB.out|apply ba'|apply bd'|apply be'|refine bs' ?_ GE213.out|refine bs' ?_ GE218.out)|exact HB.out)⟩⟩
      ·
       replace c15:=Bool.eq_false_iff.mpr c15;subst c15;have H1:(some false)=some r:=by rw[if_neg (show ¬ (false=true) by decide)] at H;exact H
       clear H;have H:=H1;clear H1;obtain rfl:=Option.some.inj H;have p221:0≤(x14_1:Int):=of_decide_eq_true (by first|(with_reducible assumption)|assumption);have q221:x14_1 < (l1.length:Int):=of_decide_eq_true (by first|(with_reducible assumption)|assumption);obtain ⟨ad221,A221_0,c221_0,e221,hx221_0,hl221_0,hi221_0⟩:=at_L1 HR1.out x14_1 p221 q221;cases e221;replace hx221_0:=(HB.out.cell (bl' w _ hx221_0)).trans hx221_0;have HR221_0:=am' hi221_0;have HC221_0:=am' hl221_0;clear hi221_0 hl221_0;replace p221:=eq_true p221;replace q221:=eq_true q221;have hnb26:=NB213_218.out;have hnc26:=NB218_213.out;have hcz27_0:wr.cell? ⟨gb213,0,none⟩=some (.int .i64 a0_0):=(blk_cell BK213.out 0).trans rfl;have hcz27_1:wr.cell? ⟨gb213,1,none⟩=some (.int .i64 a0_1):=(blk_cell BK213.out 1).trans rfl;have hfz27_0:=blk_frozen BK213.out 0;have hfz27_1:=blk_frozen BK213.out 1;have hcz28_0:wr.cell? ⟨gb218,0,none⟩=some (u219000):=(blk_cell BK218.out 0).trans rfl;have hcz28_1:wr.cell? ⟨gb218,1,none⟩=some (.bool x219001_1):=(blk_cell BK218.out 1).trans rfl;have hfz28_0:=blk_frozen BK218.out 0;have hfz28_1:=blk_frozen BK218.out 1;obtain ⟨Ao29,co29,eo29⟩:=Kd.R_slice HO_219000.out;subst eo29;go_wp2_with (first|((with_reducible refine gate_callee (f:=94) rfl ?_);refine goesL_ (some 21) rfl rfl Try.func94 (by kernel_rfl) rfl #[.agg #[.int .i64 a0_0, .int .i64 a0_1], .agg #[.slice Ao29 x219000_1.length co29, .bool x219001_1], .slice A221_0 (rd_L1 l1 x14_1).length c221_0] rfl (by (try simp only[List.map_toArray,List.map_cons,List.map_nil]);first|done|rfl|(simp only[List.length_drop,List.length_take];rfl)) ?_;(with_reducible refine (impl_Company_isRow.calls k1 a0_0 a0_1 _ _ x219000_1 x219001_1 _ _ (rd_L1 l1 x14_1) false _ ?side1 ?side2 ?side3 ?side4 A14.out).mono ?_);(case side1=>repeat (first|exact (Kd.R_reads' HO_219000.out).2.2|(with_reducible refine ca' ?_ _)|(with_reducible refine cn' ?_ _)|(with_reducible refine cd' ?_)));(case side2=>exact (Kd.R_reads' HO_219000.out).2.1);(case side3=>repeat (first|exact (Kd.C_below HR221_0.out HB.out)|(with_reducible refine ca' ?_ _)|(with_reducible refine cn' ?_ _)|(with_reducible refine cd' ?_)));(case side4=>exact HC221_0.out);rintro e w30 ⟨rfl,hb⟩;refine ⟨_,rfl,?_⟩;have n0_:=am' (Kd.R_below (by (with_reducible repeat (first|apply ra'|apply rn'|apply rw'));exact HO_219000.out) hb);have n1_:=am' (blk_below (g:=gb213) (o := .cells #[.int .i64 a0_0, .int .i64 a0_1] 40 (0,0)) (by (with_reducible repeat (first|refine kn' ?_ _|refine kd' ?_|refine ka' ?_ _));exact BK213.out) hb);have n2_:=am' (blk_below (g:=gb218) (o := .cells #[.slice Ao29 x219000_1.length co29, .bool x219001_1] 51 (0,0)) (by (with_reducible repeat (first|refine kn' ?_ _|refine kd' ?_|refine ka' ?_ _));exact BK218.out) hb);have n3_:=am' (below_step (by repeat (first|(with_reducible first|exact HB.out|apply ba'|apply bd'|apply be'|refine bs' ?_ GE213.out|refine bs' ?_ GE218.out)|exact HB.out)) hb);clear HO_219000;clear BK213;clear BK218;clear HB;have HO_219000:=n0_;have BK213:=n1_;have BK218:=n2_;have HB:=n3_;clear n0_ n1_ n2_ n3_;(try clear hb);(try clear hb2);(try clear hk);(try clear hi)))
       go_ret
       exact ⟨by first|rfl|(simp[errW_none,errW_some] <;> rfl)|(simp[*,errW_none,errW_some] <;> rfl),by repeat (first|(with_reducible first|exact HB.out|apply ba'|apply bd'|apply be'|refine bs' ?_ GE213.out|refine bs' ?_ GE218.out)|exact HB.out)⟩
     ·
      rw[if_neg c13] at H;exact absurd H (by simp)
    ·
     rw[if_neg c12] at H;exact absurd H (by simp)
   ·
    rw[if_neg c11] at H;have c11b0:decide (x14_1 < (l1.length:Int))=false:=decide_eq_false c11;clear c11;replace H:=Option.bind_eq_some_iff.mp H;obtain ⟨t219,A310,H⟩:=H;replace H:((impl_last.f (wrap64 (2 * a0_0))).bind fun t220=>(some (t219 == t220)))=some r:=H;have A31:=am' A310;clear A310;replace H:=Option.bind_eq_some_iff.mp H;obtain ⟨t220,A320,H⟩:=H;replace H:(some (t219 == t220))=some r:=H;have A32:=am' A320;clear A320;obtain rfl:=Option.some.inj H
    try go_wp2
    have n0_:=am' (rw' HO_219000.out);have n1_:=am' (kd' BK213.out);have n2_:=am' (kd' BK218.out);have n3_:=am' (be' HB.out);clear HO_219000;clear BK213;clear BK218;clear HB;have HO_219000:=n0_;have BK213:=n1_;have BK218:=n2_;have HB:=n3_;clear n0_ n1_ n2_ n3_;obtain ⟨Ao34,co34,eo34⟩:=Kd.R_slice HO_219000.out
    (first|subst eo34|(injection eo34 with f1_ f2_ f3_;have f4_:=f1_.symm;have f5_:=f3_.symm;clear f1_ f2_ f3_;subst f4_;subst f5_))
    refine start_ (n:=8) (S:=fun w'=>w'.cell? ⟨gb218,0,none⟩=some (.slice Ao34 x219000_1.length co34)∧w'.cell? ⟨gb218,1,none⟩=some (.bool x219001_1)∧w'.cell? ⟨gb213,0,none⟩=some (.int .i64 a0_0)∧w'.cell? ⟨gb213,1,none⟩=some (.int .i64 a0_1)) (ds:=[]) #[false,false,false,false,false,false,false,false] (by kernel_rfl) rfl rfl ⟨(blk_cell BK218.out 0).trans rfl,(blk_cell BK218.out 1).trans rfl,(blk_cell BK213.out 0).trans rfl,(blk_cell BK213.out 1).trans rfl⟩ (fun hHeld=>?_);refine with_tabW impl_Company_isCalmPlan.tab9 impl_Company_isCalmPlan.bits9 (fun HT_ HW_=>?_);generalize wr.drew=w33 at HO_219000 BK213 BK218 HB hHeld ⊢
    refine pure_ (i:=2) (N:=some 29) (v:=?_) (a':=?_) #[false,false,true,false,false,false,false,false] rfl rfl (any_of HT_.out (by kernel_rfl)) (fun _ _ _ h=>h) (Or.inl ⟨by rfl,?_⟩) ?_ ?_
    rotate_left
    ·
     intro w';go_simp;with_reducible rfl
    rotate_left
    ·
     simp only[Act.put,sa',sb',sc',i64_w,i32_w];rfl
    refine take_ (i:=0) (N:=some 27) (v:=?_) (a':=?_) #[true,false,true,false,false,false,false,false] rfl rfl (take_ofW HT_.out HW_.out (by kernel_rfl)) (fun _ _ _ h=>h) (Or.inl ⟨by rfl,?_⟩) hHeld ?_ ?_
    rotate_left
    ·
     rintro w' ⟨s0,s1,s2,s3⟩
     go_simp;with_reducible rfl
    rotate_left
    ·
     simp only[Act.put,sa',sb',sc',i64_w,i32_w];rfl
    refine take_ (i:=3) (N:=some 30) (v:=?_) (a':=?_) #[true,false,true,true,false,false,false,false] rfl rfl (take_ofW HT_.out HW_.out (by kernel_rfl)) (fun _ _ _ h=>h) (Or.inl ⟨by rfl,?_⟩) hHeld ?_ ?_
    rotate_left
    ·
     rintro w' ⟨s0,s1,s2,s3⟩
     go_simp;with_reducible rfl
    rotate_left
    ·
     simp only[Act.put,sa',sb',sc',i64_w,i32_w];rfl
    refine pure_ (i:=4) (N:=some 31) (v:=?_) (a':=?_) #[true,false,true,true,true,false,false,false] rfl rfl (any_of HT_.out (by kernel_rfl)) (fun _ _ _ h=>h) (Or.inl ⟨by rfl,?_⟩) ?_ ?_
    rotate_left
    ·
     intro w';go_simp;with_reducible rfl
    rotate_left
    ·
     simp only[Act.put,sa',sb',sc',i64_w,i32_w];rfl
    refine one_ (i:=1) (N:=some 28) #[true,true,true,true,true,false,false,false] rfl rfl (one_of HT_.out (by kernel_rfl)) (by decide) (fun K hK=>?_);refine goes_ Try.func112 (by kernel_rfl) rfl #[.agg #[.slice Ao34 x219000_1.length co34, .bool x219001_1]] (by rfl) rfl rfl (by (try simp only[List.map_toArray,List.map_cons,List.map_nil]);first|done|rfl|(simp only[List.length_drop,List.length_take];rfl)) ?_
    with_reducible refine (impl_State_code.calls k1 _ _ x219000_1 x219001_1 t219 _ ?side1 ?side2 A31.out).mono ?_
    (case side1=>repeat (first|exact (Kd.R_reads' HO_219000.out).2.2|(with_reducible refine ca' ?_ _)|(with_reducible refine cn' ?_ _)|(with_reducible refine cd' ?_)))
    (case side2=>exact (Kd.R_reads' HO_219000.out).2.1)
    rintro e w35 ⟨rfl,hb⟩
    refine ⟨_,rfl,?_⟩;have n0_:=am' (Kd.R_below (by (with_reducible repeat (first|apply ra'|apply rn'|apply rw'));exact HO_219000.out) hb);have n1_:=am' (blk_below (g:=gb213) (o := .cells #[.int .i64 a0_0, .int .i64 a0_1] 40 (0,0)) (by (with_reducible repeat (first|refine kn' ?_ _|refine kd' ?_|refine ka' ?_ _));exact BK213.out) hb);have n2_:=am' (blk_below (g:=gb218) (o := .cells #[.slice Ao34 x219000_1.length co34, .bool x219001_1] 51 (0,0)) (by (with_reducible repeat (first|refine kn' ?_ _|refine kd' ?_|refine ka' ?_ _));exact BK218.out) hb);have n3_:=am' (below_step (by repeat (first|(with_reducible first|exact HB.out|apply ba'|apply bd'|apply be'|refine bs' ?_ GE213.out|refine bs' ?_ GE218.out)|exact HB.out)) hb);clear HO_219000;clear BK213;clear BK218;clear HB;have HO_219000:=n0_;have BK213:=n1_;have BK218:=n2_;have HB:=n3_;clear n0_ n1_ n2_ n3_;(try clear hb)
    (try clear hb2)
    (try clear hk)
    (try clear hi)
    refine hK.out _ _ ⟨(blk_cell BK218.out 0).trans rfl,(blk_cell BK218.out 1).trans rfl,(blk_cell BK213.out 0).trans rfl,(blk_cell BK213.out 1).trans rfl⟩ (fun hHeld=>?_);clear hK K;refine norm_ (a':=?_) ?_ ?_
    rotate_left
    ·
     show Act.put _ (some 28) _=_
     simp only[Act.put,sa',sb',sc',i64_w,i32_w];rfl
    refine one_ (i:=5) (N:=some 32) #[true,true,true,true,true,true,false,false] rfl rfl (one_of HT_.out (by kernel_rfl)) (by decide) (fun K hK=>?_);refine goes_ Try.func110 (by kernel_rfl) rfl #[.int .i64 (wrap64 (2 * a0_0))] (by rfl) rfl rfl (by (try simp only[List.map_toArray,List.map_cons,List.map_nil]);first|done|rfl|(simp only[List.length_drop,List.length_take];rfl)) ?_
    with_reducible refine (impl_last.calls (wrap64 (2 * a0_0)) t220 _ A32.out).mono ?_
    rintro e w' ⟨rfl,⟨nd,rfl⟩⟩
    refine ⟨_,rfl,?_⟩;refine hK.out _ _ ⟨(blk_cell BK218.out 0).trans rfl,(blk_cell BK218.out 1).trans rfl,(blk_cell BK213.out 0).trans rfl,(blk_cell BK213.out 1).trans rfl⟩ (fun hHeld=>?_);clear hK K;refine norm_ (a':=?_) ?_ ?_
    rotate_left
    ·
     show Act.put _ (some 32) _=_
     simp only[Act.put,sa',sb',sc',i64_w,i32_w];rfl
    refine pure_ (i:=6) (N:=some 33) (v:=?_) (a':=?_) #[true,true,true,true,true,true,true,false] rfl rfl (any_of HT_.out (by kernel_rfl)) (fun _ _ _ h=>h) (Or.inl ⟨by rfl,?_⟩) ?_ ?_
    rotate_left
    ·
     intro w';go_simp;with_reducible rfl
    rotate_left
    ·
     simp only[Act.put,sa',sb',sc',i64_w,i32_w];rfl
    refine pure_ (i:=7) (N:=some 4) (v:=?_) (a':=?_) #[true,true,true,true,true,true,true,true] rfl rfl (any_of HT_.out (by kernel_rfl)) (fun _ _ _ h=>h) (Or.inl ⟨by rfl,?_⟩) ?_ ?_
    rotate_left
    ·
     intro w';go_simp;with_reducible rfl
    rotate_left
    ·
     simp only[Act.put,sa',sb',sc',i64_w,i32_w];rfl
    refine done_ (done_of HT_.out (by kernel_rfl)) ?_
    try go_wp2
    go_ret
    exact ⟨by first|rfl|(simp[errW_none,errW_some] <;> rfl)|(simp[*,errW_none,errW_some] <;> rfl),by repeat (first|(with_reducible first|exact HB.out|apply ba'|apply bd'|apply be'|refine bs' ?_ GE213.out|refine bs' ?_ GE218.out)|exact HB.out)⟩
def impl_IsCalmPlan.f (k:Nat) (a0_0:Int) (a0_1:Int) (l1:List (List Int)):Option (Bool × Bool):=(impl_IsCompany.f a0_0 a0_1).bind fun t228=>(if t228=true then (if (l1.length:Int) > 40 then (some (false,false)) else ((impl_Company_isCalmPlan.f k a0_0 a0_1 l1).bind fun t229=>(some (t229,true)))) else (some (false,false)))
set_option maxHeartbeats 8000000 in
set_option maxRecDepth 100000 in
theorem impl_IsCalmPlan.calls (k:Nat) (a0_0:Int) (a0_1:Int) (A1:Option Addr) (c1:Nat) (l1:List (List Int)) (r1:Bool) (r2:Bool) (w:World) (hr1:Kd.C (Kd.slice 3 (Kd.int .i64)) w A1 l1.length l1) (hc1:l1.length≤c1) (h:impl_IsCalmPlan.f k a0_0 a0_1 l1=some (r1,r2)) :
  Calls Try.prog 32 #[.agg #[.int .i64 a0_0, .int .i64 a0_1], .slice A1 l1.length c1] w fun e w'=>e = .returned (.tuple #[.bool r1, .bool r2])∧Below w.heap.size w w':=by
 have hu40:=Try.underlying40
 have HR1:=am' hr1
 have HC1:=am' hc1
 clear hr1 hc1;have HB:=am' (Below.refl w.heap.size w)
 have H:((impl_IsCompany.f a0_0 a0_1).bind fun t228=>(if t228=true then (if (l1.length:Int) > 40 then (some (false,false)) else ((impl_Company_isCalmPlan.f k a0_0 a0_1 l1).bind fun t229=>(some (t229,true)))) else (some (false,false))))=some (r1,r2):=h
 clear h;replace H:=Option.bind_eq_some_iff.mp H
 obtain ⟨t228,A30,H⟩:=H
 replace H:(if t228=true then (if (l1.length:Int) > 40 then (some (false,false)) else ((impl_Company_isCalmPlan.f k a0_0 a0_1 l1).bind fun t229=>(some (t229,true)))) else (some (false,false)))=some (r1,r2):=H
 have A3:=am' A30
 clear A30;by_cases c4:t228=true
 ·
  subst c4;have H1:(if (l1.length:Int) > 40 then (some (false,false)) else ((impl_Company_isCalmPlan.f k a0_0 a0_1 l1).bind fun t229=>(some (t229,true))))=some (r1,r2):=by rw[if_pos rfl] at H;exact H
  clear H;have H:=H1;clear H1;by_cases c5:(l1.length:Int) > 40
  ·
   rw[if_pos c5] at H;have c5b0:decide (40 < (l1.length:Int))=true:=decide_eq_true c5;have c5b1:decide (40 < l1.length)=true:=decide_eq_true (by omega);clear c5;simp only[Option.some.injEq,Prod.mk.injEq] at H;obtain ⟨rfl,rfl⟩:=H;go_enter Try.func32,Try.ntmps32;go_wp2_with (first|((with_reducible refine gate_dst (N:=2) rfl ?_);(try (refine gate_guard (by rfl) ?_;dsimp only));refine box_event ?hg (N:=2) ?hd (cs:=#[.int .i64 a0_0, .int .i64 a0_1]) (t:=40) ?hr ?_;(case hd=>rfl);(case hg=>rfl);(case hr=>first|(go_simp;done)|(go_simp;rfl));intro gb227 hg w6 hbox hb;have n0_:=am' (below_step (by repeat (first|(with_reducible first|exact HB.out|apply ba'|apply bd'|apply be')|exact HB.out)) hb);have n1_:=am' (hbox);have n2_:=am' ((by rw[hg];exact (below_size (by repeat (first|(with_reducible first|exact HB.out|apply ba'|apply bd'|apply be')|exact HB.out))):w.heap.size≤gb227));have n3_:=am' ((by rw[hg];exact (below_size (by repeat (first|(with_reducible first|exact HB.out|apply ba'|apply bd'|apply be')|exact HB.out))):w.heap.size≤gb227));clear HB;have HB:=n0_;have BK227:=n1_;have GW227:=n2_;have GE227:=n3_;clear n0_ n1_ n2_ n3_;clear hb hbox hg;have hcz7_0:w6.cell? ⟨gb227,0,none⟩=some (.int .i64 a0_0):=(blk_cell BK227.out 0).trans rfl;have hcz7_1:w6.cell? ⟨gb227,1,none⟩=some (.int .i64 a0_1):=(blk_cell BK227.out 1).trans rfl;have hfz7_0:=blk_frozen BK227.out 0;have hfz7_1:=blk_frozen BK227.out 1)|((with_reducible refine gate_callee (f:=45) rfl ?_);refine goesL_ (some 7) rfl rfl Try.func45 (by kernel_rfl) rfl #[.agg #[.int .i64 a0_0, .int .i64 a0_1]] rfl (by (try simp only[List.map_toArray,List.map_cons,List.map_nil]);first|done|rfl|(simp only[List.length_drop,List.length_take];rfl)) ?_;(with_reducible refine (impl_IsCompany.calls a0_0 a0_1 true _ A3.out).mono ?_);rintro e w8 ⟨rfl,hb⟩;refine ⟨_,rfl,?_⟩;have n0_:=am' (blk_below (g:=gb227) (o := .cells #[.int .i64 a0_0, .int .i64 a0_1] 40 (0,0)) (by (with_reducible repeat (first|refine kn' ?_ _|refine kd' ?_|refine ka' ?_ _));exact BK227.out) hb);have n1_:=am' (below_step (by repeat (first|(with_reducible first|exact HB.out|apply ba'|apply bd'|apply be'|refine bs' ?_ GE227.out)|exact HB.out)) hb);clear BK227;clear HB;have BK227:=n0_;have HB:=n1_;clear n0_ n1_;(try clear hb);(try clear hb2);(try clear hk);(try clear hi)));go_ret2
   exact ⟨by first|rfl|(simp[errW_none,errW_some] <;> rfl)|(simp[*,errW_none,errW_some] <;> rfl),by repeat (first|(with_reducible first|exact HB.out|apply ba'|apply bd'|apply be'|refine bs' ?_ GE227.out)|exact HB.out)⟩
  ·
   rw[if_neg c5] at H;have c5b0:decide (40 < (l1.length:Int))=false:=decide_eq_false c5;have c5b1:decide (40 < l1.length)=false:=decide_eq_false (by omega);clear c5;replace H:=Option.bind_eq_some_iff.mp H;obtain ⟨t229,A90,H⟩:=H;replace H:(some (t229,true))=some (r1,r2):=H;have A9:=am' A90;clear A90;simp only[Option.some.injEq,Prod.mk.injEq] at H;obtain ⟨rfl,rfl⟩:=H;go_enter Try.func32,Try.ntmps32;go_wp2_with (first|((with_reducible refine gate_dst (N:=2) rfl ?_);(try (refine gate_guard (by rfl) ?_;dsimp only));refine box_event ?hg (N:=2) ?hd (cs:=#[.int .i64 a0_0, .int .i64 a0_1]) (t:=40) ?hr ?_;(case hd=>rfl);(case hg=>rfl);(case hr=>first|(go_simp;done)|(go_simp;rfl));intro gb227 hg w10 hbox hb;have n0_:=am' (below_step (by repeat (first|(with_reducible first|exact HB.out|apply ba'|apply bd'|apply be')|exact HB.out)) hb);have n1_:=am' (hbox);have n2_:=am' ((by rw[hg];exact (below_size (by repeat (first|(with_reducible first|exact HB.out|apply ba'|apply bd'|apply be')|exact HB.out))):w.heap.size≤gb227));have n3_:=am' ((by rw[hg];exact (below_size (by repeat (first|(with_reducible first|exact HB.out|apply ba'|apply bd'|apply be')|exact HB.out))):w.heap.size≤gb227));clear HB;have HB:=n0_;have BK227:=n1_;have GW227:=n2_;have GE227:=n3_;clear n0_ n1_ n2_ n3_;clear hb hbox hg;have hcz11_0:w10.cell? ⟨gb227,0,none⟩=some (.int .i64 a0_0):=(blk_cell BK227.out 0).trans rfl;have hcz11_1:w10.cell? ⟨gb227,1,none⟩=some (.int .i64 a0_1):=(blk_cell BK227.out 1).trans rfl;have hfz11_0:=blk_frozen BK227.out 0;have hfz11_1:=blk_frozen BK227.out 1)|((with_reducible refine gate_callee (f:=45) rfl ?_);refine goesL_ (some 7) rfl rfl Try.func45 (by kernel_rfl) rfl #[.agg #[.int .i64 a0_0, .int .i64 a0_1]] rfl (by (try simp only[List.map_toArray,List.map_cons,List.map_nil]);first|done|rfl|(simp only[List.length_drop,List.length_take];rfl)) ?_;(with_reducible refine (impl_IsCompany.calls a0_0 a0_1 true _ A3.out).mono ?_);rintro e w12 ⟨rfl,hb⟩;refine ⟨_,rfl,?_⟩;have n0_:=am' (blk_below (g:=gb227) (o := .cells #[.int .i64 a0_0, .int .i64 a0_1] 40 (0,0)) (by (with_reducible repeat (first|refine kn' ?_ _|refine kd' ?_|refine ka' ?_ _));exact BK227.out) hb);have n1_:=am' (below_step (by repeat (first|(with_reducible first|exact HB.out|apply ba'|apply bd'|apply be'|refine bs' ?_ GE227.out)|exact HB.out)) hb);clear BK227;clear HB;have BK227:=n0_;have HB:=n1_;clear n0_ n1_;(try clear hb);(try clear hb2);(try clear hk);(try clear hi);have hcz13_0:w12.cell? ⟨gb227,0,none⟩=some (.int .i64 a0_0):=(blk_cell BK227.out 0).trans rfl;have hcz13_1:w12.cell? ⟨gb227,1,none⟩=some (.int .i64 a0_1):=(blk_cell BK227.out 1).trans rfl;have hfz13_0:=blk_frozen BK227.out 0;have hfz13_1:=blk_frozen BK227.out 1)|((with_reducible refine gate_callee (f:=78) rfl ?_);refine goesL_ (some 16) rfl rfl Try.func78 (by kernel_rfl) rfl #[.agg #[.int .i64 a0_0, .int .i64 a0_1], .slice A1 l1.length c1] rfl (by (try simp only[List.map_toArray,List.map_cons,List.map_nil]);first|done|rfl|(simp only[List.length_drop,List.length_take];rfl)) ?_;(with_reducible refine (impl_Company_isCalmPlan.calls k a0_0 a0_1 _ _ l1 t229 _ ?side1 ?side2 A9.out).mono ?_);(case side1=>repeat (first|exact (Kd.C_below HR1.out HB.out)|(with_reducible refine ca' ?_ _)|(with_reducible refine cn' ?_ _)|(with_reducible refine cd' ?_)));(case side2=>exact HC1.out);rintro e w14 ⟨rfl,hb⟩;refine ⟨_,rfl,?_⟩;have n0_:=am' (blk_below (g:=gb227) (o := .cells #[.int .i64 a0_0, .int .i64 a0_1] 40 (0,0)) (by (with_reducible repeat (first|refine kn' ?_ _|refine kd' ?_|refine ka' ?_ _));exact BK227.out) hb);have n1_:=am' (below_step (by repeat (first|(with_reducible first|exact HB.out|apply ba'|apply bd'|apply be'|refine bs' ?_ GE227.out)|exact HB.out)) hb);clear BK227;clear HB;have BK227:=n0_;have HB:=n1_;clear n0_ n1_;(try clear hb);(try clear hb2);(try clear hk);(try clear hi)))
   go_ret2
   exact ⟨by first|rfl|(simp[errW_none,errW_some] <;> rfl)|(simp[*,errW_none,errW_some] <;> rfl),by repeat (first|(with_reducible first|exact HB.out|apply ba'|apply bd'|apply be'|refine bs' ?_ GE227.out)|exact HB.out)⟩
 ·
  replace c4:=Bool.eq_false_iff.mpr c4;subst c4;have H1:(some (false,false))=some (r1,r2):=by rw[if_neg (show ¬ (false=true) by decide)] at H;exact H
  clear H;have H:=H1;clear H1;simp only[Option.some.injEq,Prod.mk.injEq] at H;obtain ⟨rfl,rfl⟩:=H;go_enter Try.func32,Try.ntmps32;go_wp2_with (first|((with_reducible refine gate_dst (N:=2) rfl ?_);(try (refine gate_guard (by rfl) ?_;dsimp only));refine box_event ?hg (N:=2) ?hd (cs:=#[.int .i64 a0_0, .int .i64 a0_1]) (t:=40) ?hr ?_;(case hd=>rfl);(case hg=>rfl);(case hr=>first|(go_simp;done)|(go_simp;rfl));intro gb227 hg w15 hbox hb;have n0_:=am' (below_step (by repeat (first|(with_reducible first|exact HB.out|apply ba'|apply bd'|apply be')|exact HB.out)) hb);have n1_:=am' (hbox);have n2_:=am' ((by rw[hg];exact (below_size (by repeat (first|(with_reducible first|exact HB.out|apply ba'|apply bd'|apply be')|exact HB.out))):w.heap.size≤gb227));have n3_:=am' ((by rw[hg];exact (below_size (by repeat (first|(with_reducible first|exact HB.out|apply ba'|apply bd'|apply be')|exact HB.out))):w.heap.size≤gb227));clear HB;have HB:=n0_;have BK227:=n1_;have GW227:=n2_;have GE227:=n3_;clear n0_ n1_ n2_ n3_;clear hb hbox hg;have hcz16_0:w15.cell? ⟨gb227,0,none⟩=some (.int .i64 a0_0):=(blk_cell BK227.out 0).trans rfl;have hcz16_1:w15.cell? ⟨gb227,1,none⟩=some (.int .i64 a0_1):=(blk_cell BK227.out 1).trans rfl;have hfz16_0:=blk_frozen BK227.out 0;have hfz16_1:=blk_frozen BK227.out 1)|((with_reducible refine gate_callee (f:=45) rfl ?_);refine goesL_ (some 7) rfl rfl Try.func45 (by kernel_rfl) rfl #[.agg #[.int .i64 a0_0, .int .i64 a0_1]] rfl (by (try simp only[List.map_toArray,List.map_cons,List.map_nil]);first|done|rfl|(simp only[List.length_drop,List.length_take];rfl)) ?_;(with_reducible refine (impl_IsCompany.calls a0_0 a0_1 false _ A3.out).mono ?_);rintro e w17 ⟨rfl,hb⟩;refine ⟨_,rfl,?_⟩;have n0_:=am' (blk_below (g:=gb227) (o := .cells #[.int .i64 a0_0, .int .i64 a0_1] 40 (0,0)) (by (with_reducible repeat (first|refine kn' ?_ _|refine kd' ?_|refine ka' ?_ _));exact BK227.out) hb);have n1_:=am' (below_step (by repeat (first|(with_reducible first|exact HB.out|apply ba'|apply bd'|apply be'|refine bs' ?_ GE227.out)|exact HB.out)) hb);clear BK227;clear HB;have BK227:=n0_;have HB:=n1_;clear n0_ n1_;(try clear hb);(try clear hb2);(try clear hk);(try clear hi)));go_ret2
  exact ⟨by first|rfl|(simp[errW_none,errW_some] <;> rfl)|(simp[*,errW_none,errW_some] <;> rfl),by repeat (first|(with_reducible first|exact HB.out|apply ba'|apply bd'|apply be'|refine bs' ?_ GE227.out)|exact HB.out)⟩
end Go.Proofs.Ytibdeohiimjocaa.C12
