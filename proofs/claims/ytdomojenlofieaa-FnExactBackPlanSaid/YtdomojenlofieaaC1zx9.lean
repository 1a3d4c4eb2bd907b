import Derived.Test.YtdomojenlofieaaC1zx0
import Derived.Test.YtdomojenlofieaaC1zx5
import Derived.Test.YtdomojenlofieaaC1zx8
import Derived.Test.YtdomojenlofieaaC1zAl
namespace Go.Proofs.Ytdomojenlofieaa.C1
open Go.RowKit Go.Proofs.YtdomojenlofieaaW.PrintWords Go.Proofs.YtdomojenlofieaaW.PrintLast Go.Proofs.YtdomojenlofieaaW.PrintMore Go.Proofs.Ytdomojenlofieaa.H
attribute [local go_sem] max2_int min2_int max_two min_two max_three min_three max_four min_four
set_option linter.unusedVariables false
set_option linter.unusedSimpArgs false
def slices_Clone_int_int.f (l0:List Int):Option (List Int):=if l0.length < 17592186044416 then some l0 else none
set_option maxHeartbeats 2000000 in
set_option maxRecDepth 100000 in
theorem slices_Clone_int_int.calls (A0:Option Addr) (c0:Nat) (l0:List Int) (r:List Int) (w:World) (hr0:Kd.C (Kd.int .i64) w A0 l0.length l0) (hc0:l0.length≤c0) (h:slices_Clone_int_int.f l0=some r) :
  Calls Try.prog 70 #[.slice A0 l0.length c0] w fun e w'=>∃ v0_:Value,e = .returned (v0_)∧Kd.R (Kd.int .i64) 3 w' w.heap.size (fun _=>True) v0_ r∧Below w.heap.size w w':=by
 have hinfo:(Try.prog.info? 3).map (fun i=>(i.zero,i.size,i.bytes))=some (some (.int .i64 0),1,8):=by kernel_rfl
 obtain ⟨hlim,rfl⟩:l0.length < 17592186044416∧l0=r:=by
  unfold slices_Clone_int_int.f at h
  by_cases hl:l0.length < 17592186044416
  ·
   rw[if_pos hl] at h;exact ⟨hl,Option.some.inj h⟩
  ·
   rw[if_neg hl] at h;cases h
 clear h;cases A0 with
 | none =>
  obtain rfl:l0=[]:=by
   cases l0 with
   | nil=>rfl
   | cons x l=>obtain ⟨_,e,_⟩:=hr0.2.2 (by simp);cases e
  clear hr0 hc0 hlim hinfo;have heq:=fun (w:World) (n c:Nat)=>Lib.run_eql_slice_nil (P:=Try.prog) w 22 3 none n c 0 0 Try.underlying22
  go_enter Try.func70,Try.ntmps70;go_wp2;go_ret
  exact ⟨_,rfl,Kd.R_nil _ _ _ _ _,Below.refl _ _⟩
 | some a =>
  have HR0:=am' hr0;have HL:=am' hlim;have hie:=am' hinfo;clear hr0 hc0 hlim hinfo;have HB:=am' (Below.refl w.heap.size w);have heq:=fun (w:World) (n c:Nat)=>Lib.run_eql_slice_nil (P:=Try.prog) w 22 3 (some a) n c 0 0 Try.underlying22
  go_enter Try.func70,Try.ntmps70;go_wp2_with (first|((with_reducible refine gate_dst (N:=5) rfl ?_);refine Kd.R_lit (Kd.int .i64) _ 3 ?hg (N:=5) ?hd (xs:=([]:List Int)) (inner:=[]) (ok:=fun _=>True) (okp:=fun _=>True) ?hr ?hp (fun _ hk=>hk) trivial (Below.refl _ _) (Nat.le_refl _) (by simp) ?_;(case hd=>rfl);(case hg=>rfl);(case hr=>first|(go_simp;done)|(go_simp;rfl));(case hp=>exact (Reps.none _ _));intro v210 w3 ho4 hb hg_ hnew_;clear hg_ hnew_;have n0_:=am' (Kd.R_lower ho4 (below_size HB.out));have n1_:=am' (below_step HB.out hb);clear HB;have HO211:=n0_;have HB:=n1_;clear n0_ n1_;clear hb ho4)|((with_reducible refine gate_builtin (b := .append) (xs:=#[.tmp 5, .tmp 6]) rfl ?_);at_builtin;refine Kd.R_append_rows (Kd.int .i64) (w0:=w) w.heap.size rfl (.tmp 5) (.tmp 6) 22 3 (.int .i64 0) 8 rfl Try.underlying22 hie.out rfl (by decide) (by omega) v210 [] l0 _ _ _ (fun _=>True) (fun _=>False) rfl rfl ?aO ?aR (fun _ _ h=>h) (fun _ h=>h.elim) ?aF ?aB ?aS ?aL ?_;(case aR=>exact (Kd.C_below HR0.out HB.out));(case aB=>exact HB.out);(case aF=>exact (fun _ _=>trivial));(case aO=>exact HO211.out);(case aS=>exact (below_size HB.out));(case aL=>have:=HL.out;simp;omega);intro v213 w5 ho hb hg hat;have n0_:=am' (hb);have n1_:=am' (ho);clear HB;clear HO211;have HB:=n0_;have HO214:=n1_;clear n0_ n1_;clear ho hb hg hat));go_ret
  exact ⟨_,rfl,by simpa using HO214.out,HB.out⟩
def impl_cloneLists.l0:Nat→List (List Int)→List (List Int)→Int→Int→Option ((List (List Int)))
 | 0,_,_,_,_=>none
 | k+1,x3,x7,x8,x9=>if x9 < x8 then (if 0≤x9 then (if x9 < (x7.length:Int) then ((slices_Clone_int_int.f (rd_L1 x7 x9)).bind fun t273=>(if x3.length < 5864062014805 then (impl_cloneLists.l0 k (x3 ++ [t273]) x7 x8 (wrap64 (x9+1))) else (none))) else (none)) else (none)) else (some x3)
def impl_cloneLists.f (k:Nat) (l0:List (List Int)):Option ((List (List Int))):=impl_cloneLists.l0 k (([]:List (List Int))) l0 (l0.length:Int) 0
set_option maxHeartbeats 8000000 in
set_option maxRecDepth 100000 in
theorem impl_cloneLists.calls (k:Nat) (A0:Option Addr) (c0:Nat) (l0:List (List Int)) (r:List (List Int)) (w:World) (hr0:Kd.C (Kd.slice 3 (Kd.int .i64)) w A0 l0.length l0) (hc0:l0.length≤c0) (h:impl_cloneLists.f k l0=some r) :
  Calls Try.prog 49 #[.slice A0 l0.length c0] w fun e w'=>∃ v0_:Value,e = .returned (v0_)∧Kd.S (Kd.slice 3 (Kd.int .i64)) 22 w' w.heap.size (fun _=>True) v0_ r∧Below w.heap.size w w':=by
 have HR0:=am' hr0
 have HC0:=am' hc0
 clear hr0 hc0;have HB:=am' (Below.refl w.heap.size w)
 have H:(impl_cloneLists.l0 k (([]:List (List Int))) l0 (l0.length:Int) 0)=some r:=h
 clear h;obtain ⟨y269,hy269⟩:∃ y_:List (List Int),y_=(([]:List (List Int))):=⟨_,rfl⟩
 replace H:(impl_cloneLists.l0 k y269 l0 (l0.length:Int) 0)=some r:=by first|(rw[hy269];with_reducible exact H)|(have H2_:=(Option.bind_some _ _).symm.trans H;rw[hy269];with_reducible exact H2_)|(have H2_:=(Option.bind_some _ _).symm.trans H;with_reducible exact H2_)|with_reducible exact H|(rw[hy269];exact H)|exact H
 have Ny269:=am' hy269
 clear hy269;have H':=am' H
 clear H;go_enter Try.func49,Try.ntmps49
 go_wp2_with (first|((with_reducible refine gate_dst (N:=6) rfl ?_);refine Kd.S_lit (Kd.slice 3 (Kd.int .i64)) _ 22 ?hg (N:=6) ?hd (xs:=([]:List (List Int))) (inner:=[]) (ok:=fun _=>True) (okp:=fun _=>True) ?hr ?hp (fun _ hk=>hk) trivial (Below.refl _ _) (Nat.le_refl _) (by simp) ?_;(case hd=>rfl);(case hg=>rfl);(case hr=>first|(go_simp;done)|(go_simp;rfl));(case hp=>exact (Reps.none _ _));intro v270 w2 ho3 hb hg_ hnew_;clear hg_ hnew_;(first|rw[← Ny269.out] at ho3|(simp only[Int.reduceToNat] at ho3;rw[← Ny269.out] at ho3));have n0_:=am' (Kd.S_lower ho3 (below_size (by repeat (first|(with_reducible first|exact HB.out|apply ba'|apply bd'|apply be')|exact HB.out))));have n1_:=am' (below_step (by repeat (first|(with_reducible first|exact HB.out|apply ba'|apply bd'|apply be')|exact HB.out)) hb);clear HB;have HO271:=n0_;have HB:=n1_;clear n0_ n1_;clear hb ho3))
 go_loopg [3,9] k (fun kq v3 v9 w'=>∃ (x3_1:List (List Int)) (x9_1:Int),v9 = .int .i64 x9_1∧Aside0 (impl_cloneLists.l0 kq x3_1 l0 (l0.length:Int) x9_1=some r)∧Aside0 (kq≤k)∧Aside0 (Kd.S (Kd.slice 3 (Kd.int .i64)) 22 w' w.heap.size (fun _=>True) v3 x3_1)∧Aside0 (Below w.heap.size w w'))
 case atStart=>exact ⟨(y269),(0),(by first|rfl|(simp;done)|(simp[*];done)),H',⟨Nat.le_refl _⟩,⟨by (with_reducible repeat (first|apply Kd.S_alloc|apply Kd.S_drewN|apply Kd.S_drew));exact HO271.out⟩,⟨by repeat (first|(with_reducible first|exact HB.out|apply ba'|apply bd'|apply be')|exact HB.out)⟩⟩
 case round =>
  clear H';try clear p2
  obtain ⟨x3_1,x9_1,rfl,HA,HK1,HO_3,HB⟩:=hrel;cases gk with
  | zero=>exact absurd HA.out (by simp[impl_cloneLists.l0])
  | succ k1 =>
   have H:=HA.out;clear HA;simp only[impl_cloneLists.l0] at H;by_cases c4:x9_1 < (l0.length:Int)
   ·
    rw[if_pos c4] at H;have c4b0:decide (x9_1 < (l0.length:Int))=true:=decide_eq_true c4;clear c4;by_cases c5:0≤x9_1
    ·
     rw[if_pos c5] at H;have c5b0:decide (0≤x9_1)=true:=decide_eq_true c5;clear c5;by_cases c6:x9_1 < (l0.length:Int)
     ·
      rw[if_pos c6] at H;have c6b0:decide (x9_1 < (l0.length:Int))=true:=decide_eq_true c6;clear c6;replace H:=Option.bind_eq_some_iff.mp H;obtain ⟨t273,A70,H⟩:=H;replace H:(if x3_1.length < 5864062014805 then (impl_cloneLists.l0 k1 (x3_1 ++ [t273]) l0 (l0.length:Int) (wrap64 (x9_1+1))) else (none))=some r:=H;have A7:=am' A70;clear A70;by_cases c8:x3_1.length < 5864062014805
      ·
       rw[if_pos c8] at H;have LMc8:=am' c8;clear c8;obtain ⟨y276,hy276⟩:∃ y_:List (List Int),y_=(x3_1 ++ [t273]):=⟨_,rfl⟩
       replace H:(impl_cloneLists.l0 k1 y276 l0 (l0.length:Int) (wrap64 (x9_1+1)))=some r:=by first|(rw[hy276];with_reducible exact H)|(have H2_:=(Option.bind_some _ _).symm.trans H;rw[hy276];with_reducible exact H2_)|(have H2_:=(Option.bind_some _ _).symm.trans H;with_reducible exact H2_)|with_reducible exact H|(rw[hy276];exact H)|exact H
       have Ny276:=am' hy276;clear hy276;have H':=am' H;clear H;have p272:0≤(x9_1:Int):=of_decide_eq_true (by first|(with_reducible assumption)|assumption);have q272:x9_1 < (l0.length:Int):=of_decide_eq_true (by first|(with_reducible assumption)|assumption);obtain ⟨ad272,A272_0,c272_0,e272,hx272_0,hl272_0,hi272_0⟩:=at_L1 HR0.out x9_1 p272 q272;cases e272;replace hx272_0:=(HB.out.cell (bl' w _ hx272_0)).trans hx272_0;have HR272_0:=am' hi272_0;have HC272_0:=am' hl272_0;clear hi272_0 hl272_0;replace p272:=eq_true p272;replace q272:=eq_true q272;go_wp2_with (first|((with_reducible refine gate_callee (f:=70) rfl ?_);refine goesL_ (some 15) rfl rfl Try.func70 (by kernel_rfl) rfl #[.slice A272_0 (rd_L1 l0 x9_1).length c272_0] rfl (by (try simp only[List.map_toArray,List.map_cons,List.map_nil]);first|done|rfl|(simp only[List.length_drop,List.length_take];rfl)) ?_;(with_reducible refine (slices_Clone_int_int.calls _ _ (rd_L1 l0 x9_1) t273 _ ?side1 ?side2 A7.out).mono ?_);(case side1=>repeat (first|exact (Kd.C_below HR272_0.out HB.out)|(with_reducible refine ca' ?_ _)|(with_reducible refine cn' ?_ _)|(with_reducible refine cd' ?_)));(case side2=>exact HC272_0.out);rintro e w9 ⟨v274,rfl,ho0,hb⟩;refine ⟨_,rfl,?_⟩;have n0_:=am' (Kd.S_elder' (by (with_reducible repeat (first|apply Kd.S_alloc|apply Kd.S_drewN|apply Kd.S_drew));exact HO_3.out) (Kd.R_base ho0) hb);have n1_:=am' (Kd.R_lower ho0 (below_size (by repeat (first|(with_reducible first|exact HB.out|apply ba'|apply bd'|apply be')|exact HB.out))));have n2_:=am' (below_step (by repeat (first|(with_reducible first|exact HB.out|apply ba'|apply bd'|apply be')|exact HB.out)) hb);clear HO_3;clear HB;have HO_3:=n0_;have HO275:=n1_;have HB:=n2_;clear n0_ n1_ n2_;(try clear hb);(try clear hb2);(try clear hk);(try clear hi);(try clear ho0);obtain ⟨Ao11,co11,eo11⟩:=Kd.R_slice HO275.out;subst eo11)|((with_reducible refine gate_builtin (b := .append) (xs:=#[.tmp 13, .tmp 16]) rfl ?_);at_builtin;refine Kd.S_append (Kd.slice 3 (Kd.int .i64)) (w0:=w) w.heap.size rfl (.tmp 13) (.tmp 16) 47 22 (.slice none 0 0) 24 rfl Try.underlying47 info22 rfl (by decide) (by omega) u3 x3_1 t273 [.slice Ao11 t273.length co11] (fun _=>True) (fun k_=>some k_=(.slice Ao11 t273.length co11:Value).ownBlock) rfl rfl ?aP (fun k_ hk_=>((Kd.R_mono (ok':=fun k_=>((fun _=>True)) k_∧some k_≠(u3:Value).ownBlock) (Kd.R_apart' (HO275.out) (Kd.S_typed HO_3.out) (by decide)) (fun k_ hk=>⟨trivial,hk.2⟩))).1 k_ hk_.symm) ?aF ?aO ?aB ?aS ?aL ?_;(case aP=>exact Kd.M_row (Kd.R_mono (Kd.R_tight rfl (Kd.R_mono (ok':=fun k_=>((fun _=>True)) k_∧some k_≠(u3:Value).ownBlock) (Kd.R_apart' (HO275.out) (Kd.S_typed HO_3.out) (by decide)) (fun k_ hk=>⟨trivial,hk.2⟩))) (fun _ h_=>h_)));(case aB=>exact (by repeat (first|(with_reducible first|exact HB.out|apply ba'|apply bd'|apply be')|exact HB.out)));(case aF=>exact (fun _ _=>trivial));(case aO=>exact (by (with_reducible repeat (first|apply Kd.S_alloc|apply Kd.S_drewN|apply Kd.S_drew));exact Kd.S_mono HO_3.out (fun k_ hk=>⟨trivial,fun e_=>hk.2 e_⟩)));(case aS=>exact (below_size (by repeat (first|(with_reducible first|exact HB.out|apply ba'|apply bd'|apply be')|exact HB.out))));(case aL=>have:=LMc8.out;omega);intro v277 w10 ho hb hg hat;rw[← Ny276.out] at ho;have n0_:=am' (hb);have n1_:=am' (ho);clear HB;clear HO_3;clear HO275;have HB:=n0_;have HO278:=n1_;clear n0_ n1_;clear ho hb hg hat))
       go_roundg k1
       case measure=>have:=HK1.out;omega
       case rel=>exact ⟨(y276),(wrap64 (x9_1+1)),(by first|rfl|(simp;done)|(simp[*];done)),H',⟨by have:=HK1.out;omega⟩,⟨by (with_reducible repeat (first|apply Kd.S_alloc|apply Kd.S_drewN|apply Kd.S_drew));exact HO278.out⟩,⟨by repeat (first|(with_reducible first|exact HB.out|apply ba'|apply bd'|apply be')|exact HB.out)⟩⟩
      ·
       rw[if_neg c8] at H;exact absurd H (by simp)
     ·
      rw[if_neg c6] at H;exact absurd H (by simp)
    ·
     rw[if_neg c5] at H;exact absurd H (by simp)
   ·
    rw[if_neg c4] at H;have c4b0:decide (x9_1 < (l0.length:Int))=false:=decide_eq_false c4;clear c4;obtain rfl:=Option.some.inj H;go_wp2;go_ret
    exact ⟨_,by first|rfl|(simp[errW_none,errW_some] <;> rfl)|(simp[*,errW_none,errW_some] <;> rfl),by (with_reducible repeat (first|apply Kd.S_alloc|apply Kd.S_drewN|apply Kd.S_drew));exact HO_3.out,by repeat (first|(with_reducible first|exact HB.out|apply ba'|apply bd'|apply be')|exact HB.out)⟩
theorem S_reverse {α:Type} {d:Kd α} {e base g n cap:Nat} {w:World} {ok:Nat→Prop} {xs:List α} (hd:d.sz=1) (h:Kd.S d e w base ok (.slice (some ⟨g,0,none⟩) n cap) xs) :
  base≤g∧ok g∧∃ inner:List Value,inner.length=xs.length∧(∀ (j:Nat) (u:Value),inner[j]? = some u→w.cell? ⟨g,j,none⟩=some u∧w.frozen? ⟨g,j,none⟩=false)∧(∀ (j:Nat) (x:α),xs[j]? = some x→∃ u,inner[j]? = some u∧d.K w x [u]) ∧
   ∀ q,Kd.S d e ((w.drewN q).setCells g 0 inner.reverse) base ok (.slice (some ⟨g,0,none⟩) n cap) xs.reverse:=by
 obtain ⟨f,h0,inner,⟨hl,h2⟩,hr⟩:=h
 have hl:inner.length=xs.zipIdx.length * d.sz:=hl
 have h2:((Value.slice (some ⟨g,0,none⟩) n cap) = .slice none 0 0∧xs.zipIdx.length=0)∨∃ g_ cap_ cur,(Value.slice (some ⟨g,0,none⟩) n cap) = .slice (some ⟨g_,0,none⟩) xs.zipIdx.length cap_∧base≤g_∧w.heap[g_]? = some (.cells cur e (0,0))∧xs.zipIdx.length≤cap_∧cap_≤maxLen∧cur.size=cap_ * d.sz∧cur.toList.take (xs.zipIdx.length * d.sz)=inner:=h2
 rw[List.length_zipIdx] at hl h2
 rw[hd,Nat.mul_one] at hl
 rw[hd,Nat.mul_one] at h2
 rcases h2 with ⟨hv,_⟩|⟨g_,cap_,cur,hv,hg,hh,hnc,hcm,hcs,htk⟩
 ·
  cases hv
 ·
  cases hv
  rw[Nat.mul_one] at hcs
  have hin:∀ (j:Nat) (u:Value),inner[j]? = some u→cur[j]? = some u:=fun j u hj=>by
   rw[← htk,List.getElem?_take] at hj;split at hj
   ·
    simpa using hj
   ·
    cases hj
  have hel:∀ (j:Nat) (x:α),xs[j]? = some x→∃ u,inner[j]? = some u∧d.M w base (fun k=>(ok k∧some k≠(Value.slice (some ⟨g,0,none⟩) xs.length cap).ownBlock)∧f k=j) x [u]:=fun j x hj=>by
   have hM:=hr.2 j (x,j) (Kd.zip_at hj);have hlt:=(List.getElem?_eq_some_iff.1 hj).1;have hM:d.M w base (fun k=>(ok k∧some k≠(Value.slice (some ⟨g,0,none⟩) xs.length cap).ownBlock)∧f k=j) x ((inner.drop (j * d.sz)).take d.sz):=hM;rw[hd,Nat.mul_one,List.drop_eq_getElem_cons (by omega),List.take_succ_cons,List.take_zero] at hM;exact ⟨_,List.getElem?_eq_getElem (by omega),hM⟩
  refine ⟨hg,h0 g rfl,inner,hl,fun j u hj=>⟨?_,blk_frozen hh j⟩,fun j x hj=>?_,fun q=>?_⟩
  ·
   rw[blk_cell hh j];exact hin j u hj
  ·
   obtain ⟨u,hu,hM⟩:=hel j x hj;exact ⟨u,hu,d.K_of_M hM⟩
  ·
   have hh2:(w.drewN q).heap[g]? = some (.cells cur e (0,0)):=hh;obtain ⟨cur',h3,h4,h5⟩:=setCells_row inner.reverse 0 (w.drewN q) cur hh2 (by rw[List.length_reverse];omega);refine ⟨fun k=>xs.length - 1 - f k,h0,inner.reverse,⟨?_, .inr ⟨g,cap,cur',?_,hg,h3,?_,hcm,?_,?_⟩⟩,?_,fun m p hm=>?_⟩
   ·
    show inner.reverse.length=xs.reverse.zipIdx.length * d.sz
    rw[hd,Nat.mul_one,List.length_zipIdx,List.length_reverse,List.length_reverse,hl]
   ·
    rw[List.length_zipIdx,List.length_reverse]
   ·
    rw[List.length_zipIdx,List.length_reverse];exact hnc
   ·
    show cur'.size=cap * d.sz
    rw[hd,Nat.mul_one,h4,hcs]
   ·
    show cur'.toList.take (xs.reverse.zipIdx.length * d.sz)=inner.reverse
    rw[hd,Nat.mul_one,List.length_zipIdx,List.length_reverse,h5,List.take_zero,List.nil_append,List.take_left' (by rw[List.length_reverse,hl])]
   ·
    show inner.reverse.length=xs.reverse.zipIdx.length * d.sz
    rw[hd,Nat.mul_one,List.length_zipIdx,List.length_reverse,List.length_reverse,hl]
   ·
    rw[List.getElem?_zipIdx,Nat.zero_add] at hm;obtain ⟨x,hx,rfl⟩:=Option.map_eq_some_iff.1 hm;have hm2:m < xs.length:=by have:=(List.getElem?_eq_some_iff.1 hx).1;rwa [List.length_reverse] at this
    rw[List.getElem?_reverse hm2] at hx;obtain ⟨u,hu,hM⟩:=hel _ x hx
    show d.M _ base (fun k=>(ok k∧some k≠(Value.slice (some ⟨g,0,none⟩) xs.length cap).ownBlock)∧xs.length - 1 - f k=m) x ((inner.reverse.drop (m * d.sz)).take d.sz)
    have e1:(inner.reverse.drop (m * d.sz)).take d.sz=[u]:=by
     rw[hd,Nat.mul_one,List.drop_eq_getElem_cons (by rw[List.length_reverse];omega),List.take_succ_cons,List.take_zero];have:inner.reverse[m]? = some u:=by rw[List.getElem?_reverse (by omega),hl];exact hu
     rw[List.getElem?_eq_getElem (by rw[List.length_reverse];omega)] at this;rw[Option.some.inj this]
    rw[e1];refine d.M_mono (fun k hk=>⟨hk.1,by have:=hk.2;omega⟩) (Kd.M_step hM (fun k hk _=>?_));rw[setCells_far _ _ _ (fun e=>hk.1.2 (by rw[e];rfl))];rfl
abbrev SlV:=Option Addr × Nat × Nat
def encV (x:SlV):Value := .slice x.1 x.2.1 x.2.2
theorem slvs {α:Type} {d:Kd α} {e':Nat}:∀ (inner:List Value) (w:World) (xs:List (List α)),inner.length=xs.length→(∀ (j:Nat) (x:List α),xs[j]? = some x→∃ u,inner[j]? = some u∧(Kd.slice e' d).K w x [u])→∃ ys:List SlV,inner=ys.map encV
 | [],_,_,_,_=>⟨[],rfl⟩
 | u :: inner,w,[],hl,_=>by simp at hl
 | u :: inner,w,x :: xs,hl,h=>by
  obtain ⟨u',hu,A,c,hv,_⟩:=h 0 x rfl;cases hu;obtain ⟨ys,rfl⟩:=slvs inner w xs (by simpa using hl) (fun j y hj=>by simpa using h (j+1) y (by simpa using hj));refine ⟨(A,x.length,c) :: ys,?_⟩;simp only[List.map_cons,List.cons.injEq,and_true];simpa [encV] using hv
open Go.Lib Go.Sort in
set_option maxHeartbeats 1600000 in
set_option maxRecDepth 1000000 in
theorem rev_arr (blk off cap:Nat) (d:Array SlV) (w:World) (hH:Holds encV w blk off d) (hsz:d.size≤9223372036854775807) :
  Calls Try.prog 50 #[.slice (some ⟨blk,off,none⟩) d.size cap] w fun e w'=>e = .returned (.tuple #[])∧∃ n,w'=putRow encV (Sort.ahead w n) blk off d.reverse:=by
 have mixed:Try.prog.follows Departure.mixedOrders=true:=by kernel_rfl
 go_enter Try.func50,Try.ntmps50
 go_wp2
 go_loopg [2,3] d.size (fun k s2 s3 wr=>∃ (i jn:Nat) (jz:Int) (dk:Array SlV) (n:Nat),s2 = .int .i64 i∧s3 = .int .i64 jz∧((i:Int) < jz→jz=jn∧jn < d.size)∧(¬ (i:Int) < jz→¬ i < jn)∧jn - i≤k ∧
  dk.size=d.size∧wr=putRow encV (Sort.ahead w n) blk off dk∧reverseLoop i jn dk=reverseLoop 0 (d.size - 1) d)
 case atStart=>exact ⟨0,d.size - 1,(d.size:Int) - 1,d,0,rfl,rfl,fun h=>⟨by omega,by omega⟩,fun h=>by omega,by omega,rfl,(putRow_self encV w blk off d hH).symm,rfl⟩
 case round =>
  obtain ⟨i,jn,jz,dk,n,rfl,rfl,h1,h2,hk,hds,hwr,heq⟩:=hrel;by_cases hlt:(i:Int) < jz
  ·
   obtain ⟨rfl,hjn⟩:=h1 hlt;have hij:i < jn:=by omega
   have hHk:Holds encV wr blk off dk:=by rw[hwr];exact holds_putRow encV _ blk off d dk (holds_ahead encV w n blk off d hH) hds
   obtain ⟨ci,fi⟩:=hHk i (by omega);obtain ⟨cj,fj⟩:=hHk jn (by omega);have A:Aside (wr=putRow encV (Sort.ahead w n) blk off dk):=hwr;obtain ⟨a1,n1,c1,e1⟩:∃ a n c,encV dk[i]! = .slice a n c:=⟨_,_,_,rfl⟩
   obtain ⟨a2,n2,c2,e2⟩:∃ a n c,encV dk[jn]! = .slice a n c:=⟨_,_,_,rfl⟩
   rw[e1] at ci;rw[e2] at cj;have E1:=am' e1;have E2:=am' e2;clear hwr hHk hH h1 h2 e1 e2;go_wp2_with fail;go_region_o
   go_wp2;go_roundg (jn - 1 - (i+1))
   case measure=>omega
   case rel =>
    rw[reverseLoop,if_pos hij] at heq
    exact ⟨i+1,jn - 1,(jn:Int) - 1,swp dk i jn,n+1,by simp,rfl,fun h=>⟨by omega,by omega⟩,fun h=>by omega,Nat.le_refl _,by rw[size_swp];exact hds,
     swap_world encV (by omega) (by omega) A.out E2.out.symm E1.out.symm,heq⟩
  ·
   have hnot:=h2 hlt;go_wp2;go_end0
   refine ⟨rfl,n,?_⟩;rw[reverseLoop,if_neg hnot] at heq;rw[← Lib.reverseLoop_reverse,← heq]
set_option maxHeartbeats 1000000 in
theorem rev_empty (a:Option Addr) (cap:Nat) (w:World) :
  Calls Try.prog 50 #[.slice a 0 cap] w fun e w'=>e = .returned (.tuple #[])∧w'=w:=by
 go_enter Try.func50,Try.ntmps50
 go_wp2
 go_loopg [2,3] 0 (fun _ s2 s3 wr=>s2 = .int .i64 0∧s3 = .int .i64 (-1)∧wr=w)
 case atStart=>exact ⟨rfl,rfl,rfl⟩
 case round =>
  obtain ⟨rfl,rfl,rfl⟩:=hrel;go_wp2;go_end0
  exact ⟨rfl,rfl⟩
theorem below_setCells {w:World} {g:Nat} (hg:w.heap.size≤g):∀ (vs:List Value) (o:Nat) (W:World),Below w.heap.size w W→Below w.heap.size w (W.setCells g o vs)
 | [],_,_,h=>h
 | v :: vs,o,W,h=>below_setCells hg vs (o+1) _ (bs' h hg)
theorem kept_setCells {w:World} {S:Nat→Prop} {g:Nat} (hg:S g):∀ (vs:List Value) (o:Nat) (W:World),Kept w W S→Kept w (W.setCells g o vs) S
 | [],_,_,h=>h
 | v :: vs,o,W,h=>kept_setCells hg vs (o+1) _ (h.setCell (p:=⟨g,o,none⟩) (.inl hg) v)
def slices_Reverse_int_int.f (l0:List (List Int)):Option (List (List Int)):=some l0.reverse
theorem slices_Reverse_int_int.calls (P0_:Nat→Prop) (u9000_:Value) (l0 r1:List (List Int)) (w0 w:World) (hB:Below w0.heap.size w0 w) (ho0:Kd.S (Kd.slice 3 (Kd.int .i64)) 22 w w0.heap.size P0_ u9000_ l0) (h:slices_Reverse_int_int.f l0=some r1) :
  Calls Try.prog 50 #[u9000_] w fun e w'=>e = .returned (.tuple #[])∧Kd.S (Kd.slice 3 (Kd.int .i64)) 22 w' w0.heap.size P0_ u9000_ r1∧Below w0.heap.size w0 w'∧Kept w w' (fun k_=>P0_ k_):=by
 obtain rfl:l0.reverse=r1:=Option.some.inj h
 clear h;by_cases hp:0 < l0.length
 ·
  obtain ⟨g,cap,rfl,_⟩:=Kd.S_form ho0 hp;have hmax:=(Kd.S_reads' ho0).2.2.2.1;obtain ⟨hg,hP,inner,hl,hc,hk,hS⟩:=S_reverse rfl ho0;obtain ⟨ys,rfl⟩:=slvs inner w l0 hl hk;have hly:ys.length=l0.length:=by simpa using hl
  have hH:Go.Sort.Holds encV w g 0 ys.toArray:=fun j hj=>by
   have hj':j < ys.length:=by simpa using hj
   rw[Nat.zero_add];have:=hc j (encV ys[j]) (by simp[List.getElem?_eq_getElem hj']);rw[getElem!_pos ys.toArray j hj];simpa using this
  have h:=rev_arr g 0 cap ys.toArray w hH (by simpa [hly] using hmax);rw[show ys.toArray.size=l0.length by simpa using hly] at h;refine h.mono ?_
  rintro e w' ⟨rfl,q,rfl⟩
  have e1:=Lib.putRow_eq_setCells encV w g 0 ys.toArray ys.reverse q hH (by simp);rw[show ys.toArray.reverse=ys.reverse.toArray by simp,e1,List.map_reverse];exact ⟨rfl,hS q,below_setCells hg _ _ _ (bd' hB q),kept_setCells (S:=fun k_=>P0_ k_) hP _ _ _ (Kept.drewN (Kept.refl _ _) q)⟩
 ·
  obtain rfl:l0=[]:=by cases l0 with|nil=>rfl|cons x l=>simp at hp
  obtain ⟨A,c,rfl⟩:=Kd.S_slice ho0;refine (rev_empty A c w).mono ?_
  rintro e w' ⟨rfl,rfl⟩
  exact ⟨rfl,ho0,hB,Kept.refl _ _⟩
def impl_BackPlan.j0:Nat→List (List Int)→Bool→Option ((List (List Int)) × Bool)
 | 0,_,_=>none
 | k+1,x1,x15=>if x15=true then (some (([]:List (List Int)),false)) else ((impl_cloneLists.f k x1).bind fun t282=>((slices_Reverse_int_int.f t282).bind fun t285=>(some (t285,true))))
def impl_BackPlan.f (k:Nat) (l0_0:List Int) (a0_1:Int) (l1:List (List Int)):Option ((List (List Int)) × Bool):=(impl_IsParty.f l0_0 a0_1).bind fun t280=>(if t280=true then ((impl_Party_isPlan.f k l0_0 a0_1 l1).bind fun t281=>(impl_BackPlan.j0 k l1 (!t281))) else (impl_BackPlan.j0 k l1 true))
set_option maxHeartbeats 8000000 in
set_option maxRecDepth 100000 in
theorem impl_BackPlan.calls (k:Nat) (A0_0:Option Addr) (c0_0:Nat) (l0_0:List Int) (a0_1:Int) (A1:Option Addr) (c1:Nat) (l1:List (List Int)) (r1:List (List Int)) (r2:Bool) (w:World) (hr0_0:Kd.C (Kd.int .i64) w A0_0 l0_0.length l0_0) (hc0_0:l0_0.length≤c0_0) (hr1:Kd.C (Kd.slice 3 (Kd.int .i64)) w A1 l1.length l1) (hc1:l1.length≤c1) (h:impl_BackPlan.f k l0_0 a0_1 l1=some (r1,r2)) :
  Calls Try.prog 25 #[.agg #[.slice A0_0 l0_0.length c0_0, .int .i64 a0_1], .slice A1 l1.length c1] w fun e w'=>∃ v0_:Value,e = .returned (.tuple #[v0_, .bool r2])∧Kd.S (Kd.slice 3 (Kd.int .i64)) 22 w' w.heap.size (fun _=>True) v0_ r1∧Below w.heap.size w w':=by
 have hu52:=Try.underlying52
 have HR0_0:=am' hr0_0
 have HC0_0:=am' hc0_0
 clear hr0_0 hc0_0;have HR1:=am' hr1
 have HC1:=am' hc1
 clear hr1 hc1;have HB:=am' (Below.refl w.heap.size w)
 have H:((impl_IsParty.f l0_0 a0_1).bind fun t280=>(if t280=true then ((impl_Party_isPlan.f k l0_0 a0_1 l1).bind fun t281=>(impl_BackPlan.j0 k l1 (!t281))) else (impl_BackPlan.j0 k l1 true)))=some (r1,r2):=h
 clear h;have HC3:=am' H
 clear H;go_enter Try.func25,Try.ntmps25
 go_upto_region 1 with (first|((with_reducible refine gate_dst (N:=2) rfl ?_);refine box_event ?hg (N:=2) ?hd (cs:=#[.slice A0_0 l0_0.length c0_0, .int .i64 a0_1]) (t:=52) ?hr ?_;(case hd=>rfl);(case hg=>rfl);(case hr=>first|(go_simp;done)|(go_simp;rfl));intro gb279 hg w4 hbox hb;have n0_:=am' (below_step (by repeat (first|(with_reducible first|exact HB.out|apply ba'|apply bd'|apply be')|exact HB.out)) hb);have n1_:=am' (hbox);have n2_:=am' ((by rw[hg];exact (below_size (by repeat (first|(with_reducible first|exact HB.out|apply ba'|apply bd'|apply be')|exact HB.out))):w.heap.size≤gb279));have n3_:=am' ((by rw[hg];exact (below_size (by repeat (first|(with_reducible first|exact HB.out|apply ba'|apply bd'|apply be')|exact HB.out))):w.heap.size≤gb279));clear HB;have HB:=n0_;have BK279:=n1_;have GW279:=n2_;have GE279:=n3_;clear n0_ n1_ n2_ n3_;clear hb hbox hg))
 (try simp only[Act.put,sa',sb',sc'])
 go_cut [15] (fun v15 wc=>∃ (kq:Nat) (x15_2:Bool),v15 = .bool x15_2∧Aside0 (impl_BackPlan.j0 kq l1 x15_2=some (r1,r2))∧Aside0 (kq≤k)∧Aside0 (wc.heap[gb279]? = some (.cells #[(.slice A0_0 l0_0.length c0_0), .int .i64 a0_1] 52 (0,0)))∧Aside0 (Below w.heap.size w wc))
 case first =>
  have H:=HC3.out;clear HC3;replace H:=Option.bind_eq_some_iff.mp H;obtain ⟨t280,A50,H⟩:=H;replace H:(if t280=true then ((impl_Party_isPlan.f k l0_0 a0_1 l1).bind fun t281=>(impl_BackPlan.j0 k l1 (!t281))) else (impl_BackPlan.j0 k l1 true))=some (r1,r2):=H;have A5:=am' A50;clear A50;by_cases c6:t280=true
  ·
   subst c6;have H1:((impl_Party_isPlan.f k l0_0 a0_1 l1).bind fun t281=>(impl_BackPlan.j0 k l1 (!t281)))=some (r1,r2):=by rw[if_pos rfl] at H;exact H
   clear H;have H:=H1;clear H1;replace H:=Option.bind_eq_some_iff.mp H;obtain ⟨t281,A70,H⟩:=H;replace H:(impl_BackPlan.j0 k l1 (!t281))=some (r1,r2):=H;have A7:=am' A70;clear A70;have H':=am' H;clear H;have hcz8_0:w4.cell? ⟨gb279,0,none⟩=some (.slice A0_0 l0_0.length c0_0):=(blk_cell BK279.out 0).trans rfl;have hcz8_1:w4.cell? ⟨gb279,1,none⟩=some (.int .i64 a0_1):=(blk_cell BK279.out 1).trans rfl;have hfz8_0:=blk_frozen BK279.out 0;have hfz8_1:=blk_frozen BK279.out 1;go_wp2_with (first|((with_reducible refine gate_callee (f:=47) rfl ?_);refine goesL_ (some 8) rfl rfl Try.func47 (by kernel_rfl) rfl #[.agg #[.slice A0_0 l0_0.length c0_0, .int .i64 a0_1]] rfl (by (try simp only[List.map_toArray,List.map_cons,List.map_nil]);first|done|rfl|(simp only[List.length_drop,List.length_take];rfl)) ?_;(with_reducible refine (impl_IsParty.calls _ _ l0_0 a0_1 true _ ?side1 ?side2 A5.out).mono ?_);(case side1=>repeat (first|exact (Kd.C_below HR0_0.out HB.out)|(with_reducible refine ca' ?_ _)|(with_reducible refine cn' ?_ _)|(with_reducible refine cd' ?_)));(case side2=>exact HC0_0.out);rintro e w9 ⟨rfl,hb⟩;refine ⟨_,rfl,?_⟩;have n0_:=am' (blk_below (g:=gb279) (o := .cells #[.slice A0_0 l0_0.length c0_0, .int .i64 a0_1] 52 (0,0)) (by (with_reducible repeat (first|refine kn' ?_ _|refine kd' ?_|refine ka' ?_ _));exact BK279.out) hb);have n1_:=am' (below_step (by repeat (first|(with_reducible first|exact HB.out|apply ba'|apply bd'|apply be'|refine bs' ?_ GE279.out)|exact HB.out)) hb);clear BK279;clear HB;have BK279:=n0_;have HB:=n1_;clear n0_ n1_;(try clear hb);(try clear hb2);(try clear hk);(try clear hi);have hcz10_0:w9.cell? ⟨gb279,0,none⟩=some (.slice A0_0 l0_0.length c0_0):=(blk_cell BK279.out 0).trans rfl;have hcz10_1:w9.cell? ⟨gb279,1,none⟩=some (.int .i64 a0_1):=(blk_cell BK279.out 1).trans rfl;have hfz10_0:=blk_frozen BK279.out 0;have hfz10_1:=blk_frozen BK279.out 1)|(go_at_call 48;(with_reducible refine (impl_Party_isPlan.calls k _ _ l0_0 a0_1 _ _ l1 t281 _ ?side1 ?side2 ?side3 ?side4 A7.out).mono ?_);(case side1=>repeat (first|exact (Kd.C_below HR0_0.out HB.out)|(with_reducible refine ca' ?_ _)|(with_reducible refine cn' ?_ _)|(with_reducible refine cd' ?_)));(case side2=>exact HC0_0.out);(case side3=>repeat (first|exact (Kd.C_below HR1.out HB.out)|(with_reducible refine ca' ?_ _)|(with_reducible refine cn' ?_ _)|(with_reducible refine cd' ?_)));(case side4=>exact HC1.out);rintro e w11 ⟨rfl,hb⟩;have n0_:=am' (blk_below (g:=gb279) (o := .cells #[.slice A0_0 l0_0.length c0_0, .int .i64 a0_1] 52 (0,0)) (by (with_reducible repeat (first|refine kn' ?_ _|refine kd' ?_|refine ka' ?_ _));exact BK279.out) hb);have n1_:=am' (below_step (by repeat (first|(with_reducible first|exact HB.out|apply ba'|apply bd'|apply be'|refine bs' ?_ GE279.out)|exact HB.out)) hb);clear BK279;clear HB;have BK279:=n0_;have HB:=n1_;clear n0_ n1_;(try clear hb);(try clear hb2);(try clear hk);(try clear hi)))
   go_meet
   case rel=>exact ⟨_,(!t281),(by first|rfl|(simp;done)|(simp[*];done)),H',⟨by first|omega|exact Nat.le_refl _⟩,⟨by (with_reducible repeat (first|refine kn' ?_ _|refine kd' ?_|refine ka' ?_ _));exact BK279.out⟩,⟨by repeat (first|(with_reducible first|exact HB.out|apply ba'|apply bd'|apply be'|refine bs' ?_ GE279.out)|exact HB.out)⟩⟩
  ·
   replace c6:=Bool.eq_false_iff.mpr c6;subst c6;have H1:(impl_BackPlan.j0 k l1 true)=some (r1,r2):=by rw[if_neg (show ¬ (false=true) by decide)] at H;exact H
   clear H;have H:=H1;clear H1;have H':=am' H;clear H;have hcz12_0:w4.cell? ⟨gb279,0,none⟩=some (.slice A0_0 l0_0.length c0_0):=(blk_cell BK279.out 0).trans rfl;have hcz12_1:w4.cell? ⟨gb279,1,none⟩=some (.int .i64 a0_1):=(blk_cell BK279.out 1).trans rfl;have hfz12_0:=blk_frozen BK279.out 0;have hfz12_1:=blk_frozen BK279.out 1;go_wp2_with (first|((with_reducible refine gate_callee (f:=47) rfl ?_);refine goesL_ (some 8) rfl rfl Try.func47 (by kernel_rfl) rfl #[.agg #[.slice A0_0 l0_0.length c0_0, .int .i64 a0_1]] rfl (by (try simp only[List.map_toArray,List.map_cons,List.map_nil]);first|done|rfl|(simp only[List.length_drop,List.length_take];rfl)) ?_;(with_reducible refine (impl_IsParty.calls _ _ l0_0 a0_1 false _ ?side1 ?side2 A5.out).mono ?_);(case side1=>repeat (first|exact (Kd.C_below HR0_0.out HB.out)|(with_reducible refine ca' ?_ _)|(with_reducible refine cn' ?_ _)|(with_reducible refine cd' ?_)));(case side2=>exact HC0_0.out);rintro e w13 ⟨rfl,hb⟩;refine ⟨_,rfl,?_⟩;have n0_:=am' (blk_below (g:=gb279) (o := .cells #[.slice A0_0 l0_0.length c0_0, .int .i64 a0_1] 52 (0,0)) (by (with_reducible repeat (first|refine kn' ?_ _|refine kd' ?_|refine ka' ?_ _));exact BK279.out) hb);have n1_:=am' (below_step (by repeat (first|(with_reducible first|exact HB.out|apply ba'|apply bd'|apply be'|refine bs' ?_ GE279.out)|exact HB.out)) hb);clear BK279;clear HB;have BK279:=n0_;have HB:=n1_;clear n0_ n1_;(try clear hb);(try clear hb2);(try clear hk);(try clear hi)));go_meet
   case rel=>exact ⟨_,(true),(by first|rfl|(simp;done)|(simp[*];done)),H',⟨by first|omega|exact Nat.le_refl _⟩,⟨by (with_reducible repeat (first|refine kn' ?_ _|refine kd' ?_|refine ka' ?_ _));exact BK279.out⟩,⟨by repeat (first|(with_reducible first|exact HB.out|apply ba'|apply bd'|apply be'|refine bs' ?_ GE279.out)|exact HB.out)⟩⟩
 case rest =>
  clear HC3;try clear c1
  try clear c2
  try clear p2
  try clear c4
  try clear c6
  try clear hcz10_0
  try clear hcz10_1
  try clear hcz12_0
  try clear hcz12_1
  try clear hcz8_0
  try clear hcz8_1
  try clear hfz10_0
  try clear hfz10_1
  try clear hfz12_0
  try clear hfz12_1
  try clear hfz8_0
  try clear hfz8_1
  obtain ⟨kq,x15_2,rfl,HA,HJ2,BK279,HB⟩:=hcut;cases kq with
  | zero=>exact absurd HA.out (by simp[impl_BackPlan.j0])
  | succ kj2 =>
   have H:=HA.out;clear HA;simp only[impl_BackPlan.j0] at H;by_cases c14:x15_2=true
   ·
    subst c14;have H1:(some (([]:List (List Int)),false))=some (r1,r2):=by rw[if_pos rfl] at H;exact H
    clear H;have H:=H1;clear H1;simp only[Option.some.injEq,Prod.mk.injEq] at H;obtain ⟨rfl,rfl⟩:=H;go_wp2;go_ret2
    exact ⟨_,by first|rfl|(simp[errW_none,errW_some] <;> rfl)|(simp[*,errW_none,errW_some] <;> rfl),by first|exact Kd.S_nil _ _ _ _ _|exact Kd.N_nil _ _ _ _ _|exact Kd.V_nil _ _ _ _ _|exact Kd.Q_nil _ _ _ _ _|exact Kd.R_nil _ _ _ _ _,by repeat (first|(with_reducible first|exact HB.out|apply ba'|apply bd'|apply be'|refine bs' ?_ GE279.out)|exact HB.out)⟩
   ·
    replace c14:=Bool.eq_false_iff.mpr c14;subst c14;have H1:((impl_cloneLists.f kj2 l1).bind fun t282=>((slices_Reverse_int_int.f t282).bind fun t285=>(some (t285,true))))=some (r1,r2):=by rw[if_neg (show ¬ (false=true) by decide)] at H;exact H
    clear H;have H:=H1;clear H1;replace H:=Option.bind_eq_some_iff.mp H;obtain ⟨t282,A150,H⟩:=H;replace H:((slices_Reverse_int_int.f t282).bind fun t285=>(some (t285,true)))=some (r1,r2):=H;have A15:=am' A150;clear A150;replace H:=Option.bind_eq_some_iff.mp H;obtain ⟨t285,A160,H⟩:=H;replace H:(some (t285,true))=some (r1,r2):=H;have A16:=am' A160;clear A160;simp only[Option.some.injEq,Prod.mk.injEq] at H;obtain ⟨rfl,rfl⟩:=H;go_wp2_with (first|((with_reducible refine gate_callee (f:=49) rfl ?_);refine goesL_ (some 17) rfl rfl Try.func49 (by kernel_rfl) rfl #[.slice A1 l1.length c1] rfl (by (try simp only[List.map_toArray,List.map_cons,List.map_nil]);first|done|rfl|(simp only[List.length_drop,List.length_take];rfl)) ?_;(with_reducible refine (impl_cloneLists.calls kj2 _ _ l1 t282 _ ?side1 ?side2 A15.out).mono ?_);(case side1=>repeat (first|exact (Kd.C_below HR1.out HB.out)|(with_reducible refine ca' ?_ _)|(with_reducible refine cn' ?_ _)|(with_reducible refine cd' ?_)));(case side2=>exact HC1.out);rintro e w17 ⟨v283,rfl,ho0,hb⟩;refine ⟨_,rfl,?_⟩;have n0_:=am' (Kd.S_lower ho0 (below_size (by repeat (first|(with_reducible first|exact HB.out|apply ba'|apply bd'|apply be'|refine bs' ?_ GE279.out)|exact HB.out))));have n1_:=am' (blk_below (g:=gb279) (o := .cells #[.slice A0_0 l0_0.length c0_0, .int .i64 a0_1] 52 (0,0)) (by (with_reducible repeat (first|refine kn' ?_ _|refine kd' ?_|refine ka' ?_ _));exact BK279.out) hb);have n2_:=am' (below_step (by repeat (first|(with_reducible first|exact HB.out|apply ba'|apply bd'|apply be'|refine bs' ?_ GE279.out)|exact HB.out)) hb);clear BK279;clear HB;have HO284:=n0_;have BK279:=n1_;have HB:=n2_;clear n0_ n1_ n2_;(try clear hb);(try clear hb2);(try clear hk);(try clear hi);(try clear ho0);obtain ⟨Ao18,co18,eo18⟩:=Kd.S_slice HO284.out;subst eo18)|((with_reducible refine gate_callee (f:=50) rfl ?_);refine goesL_ (some 19) rfl rfl Try.func50 (by kernel_rfl) rfl #[.slice Ao18 t282.length co18] rfl (by (try simp only[List.map_toArray,List.map_cons,List.map_nil]);first|done|rfl|(simp only[List.length_drop,List.length_take];rfl)) ?_;(with_reducible refine (slices_Reverse_int_int.calls (fun k_=>k_≠gb279) (.slice Ao18 t282.length co18) t282 t285 w _ ?side1 ?side2 A16.out).mono ?_);(case side1=>repeat (first|(with_reducible first|exact HB.out|apply ba'|apply bd'|apply be'|refine bs' ?_ GE279.out)|exact HB.out));(case side2=>exact (by (with_reducible repeat (first|apply Kd.S_alloc|apply Kd.S_drewN|apply Kd.S_drew));exact (Kd.S_mono (ok':=fun k_=>k_≠gb279) (Kd.S_types HO284.out BK279.out (by decide)) (fun k_ hk_=>hk_.2))));rintro e w19 ⟨rfl,hy0,hb,hkp⟩;refine ⟨_,rfl,?_⟩;have n0_:=am' (blk_kept (by (with_reducible repeat (first|refine kn' ?_ _|refine kd' ?_|refine ka' ?_ _));exact BK279.out) hkp (fun hs_=>(fun e_=>(e_) rfl) hs_));have n1_:=am' (hy0);have n2_:=am' (hb);clear BK279;clear HO284;clear HB;have BK279:=n0_;have HO284:=n1_;have HB:=n2_;clear n0_ n1_ n2_;(try clear hb);(try clear hkp);(try clear hy0)))
    go_ret2
    exact ⟨_,by first|rfl|(simp[errW_none,errW_some] <;> rfl)|(simp[*,errW_none,errW_some] <;> rfl),by (with_reducible repeat (first|apply Kd.S_alloc|apply Kd.S_drewN|apply Kd.S_drew));exact Kd.S_mono HO284.out (fun _ hk=>trivial),by repeat (first|(with_reducible first|exact HB.out|apply ba'|apply bd'|apply be'|refine bs' ?_ GE279.out)|exact HB.out)⟩
def laws_eqIntS.l0:Nat→List Int→List Int→Int→Option (Bool)
 | 0,_,_,_=>none
 | k+1,x0,x1,x5=>if x5 < (x0.length:Int) then (if 0≤x5 then (if x5 < (x1.length:Int) then (if (rd x0 x5)=(rd x1 x5) then (laws_eqIntS.l0 k x0 x1 (wrap64 (x5+1))) else (some false)) else (none)) else (none)) else (some true)
def laws_eqIntS.f (k:Nat) (l0:List Int) (l1:List Int):Option (Bool):=if (l0.length:Int)=(l1.length:Int) then (laws_eqIntS.l0 k l0 l1 0) else (some false)
set_option maxHeartbeats 8000000 in
set_option maxRecDepth 100000 in
theorem laws_eqIntS.calls (k:Nat) (A0:Option Addr) (c0:Nat) (l0:List Int) (A1:Option Addr) (c1:Nat) (l1:List Int) (r:Bool) (w:World) (hr0:Kd.C (Kd.int .i64) w A0 l0.length l0) (hc0:l0.length≤c0) (hr1:Kd.C (Kd.int .i64) w A1 l1.length l1) (hc1:l1.length≤c1) (h:laws_eqIntS.f k l0 l1=some r) :
  Calls Try.prog 40 #[.slice A0 l0.length c0, .slice A1 l1.length c1] w fun e w'=>e = .returned (.bool r)∧Drawn0 w w':=by
 have HR0:=am' hr0
 have HC0:=am' hc0
 clear hr0 hc0;have HR1:=am' hr1
 have HC1:=am' hc1
 clear hr1 hc1;have H:(if (l0.length:Int)=(l1.length:Int) then (laws_eqIntS.l0 k l0 l1 0) else (some false))=some r:=h
 clear h;by_cases c3:(l0.length:Int)=(l1.length:Int)
 ·
  rw[if_pos c3] at H;have c3b0:((l0.length:Int) == (l1.length:Int))=true:=beq_iff_eq.mpr c3;have c3b1:((l0.length:Int) != (l1.length:Int))=false:=bne_eq_false_iff_eq.mpr c3;have c3b2:(l0.length == l1.length)=true:=by first|simpa using c3|(simp at c3 ⊢;omega)
  clear c3;have H':=am' H;clear H;go_enter Try.func40,Try.ntmps40;go_wp2
  repeat (go_quiet (fail);try go_wp2)
  go_loopg [5] k (fun kq v5 w'=>∃ (x5_1:Int),v5 = .int .i64 x5_1∧Aside0 (laws_eqIntS.l0 kq l0 l1 x5_1=some r)∧Aside0 (kq≤k)∧Drawn0 w w')
  case atStart=>exact ⟨(0),(by first|rfl|(simp;done)|(simp[*];done)),H',⟨Nat.le_refl _⟩,by repeat (first|exact Drawn0.refl _|apply Drawn0.step)⟩
  case round =>
   clear H';try clear c1
   try clear p2
   try clear c3
   try clear c3b0
   try clear c3b1
   try clear c3b2
   obtain ⟨x5_1,rfl,HA,HK1,⟨m1,rfl⟩⟩:=hrel;cases gk with
   | zero=>exact absurd HA.out (by simp[laws_eqIntS.l0])
   | succ k1 =>
    have H:=HA.out;clear HA;simp only[laws_eqIntS.l0] at H;by_cases c4:x5_1 < (l0.length:Int)
    ·
     rw[if_pos c4] at H;have c4b0:decide (x5_1 < (l0.length:Int))=true:=decide_eq_true c4;clear c4;by_cases c5:0≤x5_1
     ·
      rw[if_pos c5] at H;have c5b0:decide (0≤x5_1)=true:=decide_eq_true c5;clear c5;by_cases c6:x5_1 < (l1.length:Int)
      ·
       rw[if_pos c6] at H;have c6b0:decide (x5_1 < (l1.length:Int))=true:=decide_eq_true c6;clear c6;by_cases c7:(rd l0 x5_1)=(rd l1 x5_1)
       ·
        rw[if_pos c7] at H;have c7b0:((rd l0 x5_1) == (rd l1 x5_1))=true:=beq_iff_eq.mpr c7;have c7b1:((rd l0 x5_1) != (rd l1 x5_1))=false:=bne_eq_false_iff_eq.mpr c7;clear c7;have H':=am' H;clear H;have p286:0≤(x5_1:Int):=of_decide_eq_true (by first|(with_reducible assumption)|assumption);have q286:x5_1 < (l0.length:Int):=of_decide_eq_true (by first|(with_reducible assumption)|assumption);obtain ⟨ad286,e286,hx286_0⟩:=Kd.at_int HR0.out x5_1 p286 q286;cases e286;replace p286:=eq_true p286;replace q286:=eq_true q286;have p287:0≤(x5_1:Int):=of_decide_eq_true (by first|(with_reducible assumption)|assumption);have q287:x5_1 < (l1.length:Int):=of_decide_eq_true (by first|(with_reducible assumption)|assumption);obtain ⟨ad287,e287,hx287_0⟩:=Kd.at_int HR1.out x5_1 p287 q287;cases e287;replace p287:=eq_true p287;replace q287:=eq_true q287;go_wp2
        repeat (go_quiet (fail);try go_wp2)
        go_roundg k1
        case measure=>have:=HK1.out;omega
        case rel=>exact ⟨(wrap64 (x5_1+1)),(by first|rfl|(simp;done)|(simp[*];done)),H',⟨by have:=HK1.out;omega⟩,by repeat (first|exact Drawn0.refl _|apply Drawn0.step)⟩
       ·
        rw[if_neg c7] at H;have c7b0:((rd l0 x5_1) == (rd l1 x5_1))=false:=beq_eq_false_iff_ne.mpr c7;have c7b1:((rd l0 x5_1) != (rd l1 x5_1))=true:=bne_iff_ne.mpr c7;obtain rfl:=Option.some.inj H;have p286:0≤(x5_1:Int):=of_decide_eq_true (by first|(with_reducible assumption)|assumption);have q286:x5_1 < (l0.length:Int):=of_decide_eq_true (by first|(with_reducible assumption)|assumption);obtain ⟨ad286,e286,hx286_0⟩:=Kd.at_int HR0.out x5_1 p286 q286;cases e286;replace p286:=eq_true p286;replace q286:=eq_true q286;have p287:0≤(x5_1:Int):=of_decide_eq_true (by first|(with_reducible assumption)|assumption);have q287:x5_1 < (l1.length:Int):=of_decide_eq_true (by first|(with_reducible assumption)|assumption);obtain ⟨ad287,e287,hx287_0⟩:=Kd.at_int HR1.out x5_1 p287 q287;cases e287;replace p287:=eq_true p287;replace q287:=eq_true q287;go_wp2
        repeat (go_quiet (fail);try go_wp2)
        go_ret
        exact ⟨by first|rfl|(simp;done)|(simp[*];done),by repeat (first|exact Drawn0.refl _|apply Drawn0.step)⟩
      ·
       rw[if_neg c6] at H;exact absurd H (by simp)
     ·
      rw[if_neg c5] at H;exact absurd H (by simp)
    ·
     rw[if_neg c4] at H;have c4b0:decide (x5_1 < (l0.length:Int))=false:=decide_eq_false c4;clear c4;obtain rfl:=Option.some.inj H;go_wp2
     repeat (go_quiet (fail);try go_wp2)
     go_ret
     exact ⟨by first|rfl|(simp;done)|(simp[*];done),by repeat (first|exact Drawn0.refl _|apply Drawn0.step)⟩
 ·
  rw[if_neg c3] at H;have c3b0:((l0.length:Int) == (l1.length:Int))=false:=beq_eq_false_iff_ne.mpr c3;have c3b1:((l0.length:Int) != (l1.length:Int))=true:=bne_iff_ne.mpr c3;have c3b2:(l0.length == l1.length)=false:=by first|simpa using c3|(simp at c3 ⊢;omega)
  obtain rfl:=Option.some.inj H;go_enter Try.func40,Try.ntmps40;go_wp2
  repeat (go_quiet (fail);try go_wp2)
  go_ret
  exact ⟨by first|rfl|(simp;done)|(simp[*];done),by repeat (first|exact Drawn0.refl _|apply Drawn0.step)⟩
def laws_eqIntSS.l0:Nat→List (List Int)→List (List Int)→Int→Option (Bool)
 | 0,_,_,_=>none
 | k+1,x0,x1,x5=>if x5 < (x0.length:Int) then (if 0≤x5 then (if x5 < (x1.length:Int) then ((laws_eqIntS.f k (rd_L1 x0 x5) (rd_L1 x1 x5)).bind fun t290=>(if t290=true then (laws_eqIntSS.l0 k x0 x1 (wrap64 (x5+1))) else (some false))) else (none)) else (none)) else (some true)
def laws_eqIntSS.f (k:Nat) (l0:List (List Int)) (l1:List (List Int)):Option (Bool):=if (l0.length:Int)=(l1.length:Int) then (laws_eqIntSS.l0 k l0 l1 0) else (some false)
set_option maxHeartbeats 8000000 in
set_option maxRecDepth 100000 in
theorem laws_eqIntSS.calls (k:Nat) (A0:Option Addr) (c0:Nat) (l0:List (List Int)) (A1:Option Addr) (c1:Nat) (l1:List (List Int)) (r:Bool) (w:World) (hr0:Kd.C (Kd.slice 3 (Kd.int .i64)) w A0 l0.length l0) (hc0:l0.length≤c0) (hr1:Kd.C (Kd.slice 3 (Kd.int .i64)) w A1 l1.length l1) (hc1:l1.length≤c1) (h:laws_eqIntSS.f k l0 l1=some r) :
  Calls Try.prog 26 #[.slice A0 l0.length c0, .slice A1 l1.length c1] w fun e w'=>e = .returned (.bool r)∧Drawn0 w w':=by
 have HR0:=am' hr0
 have HC0:=am' hc0
 clear hr0 hc0;have HR1:=am' hr1
 have HC1:=am' hc1
 clear hr1 hc1;have H:(if (l0.length:Int)=(l1.length:Int) then (laws_eqIntSS.l0 k l0 l1 0) else (some false))=some r:=h
 clear h;by_cases c3:(l0.length:Int)=(l1.length:Int)
 ·
  rw[if_pos c3] at H;have c3b0:((l0.length:Int) == (l1.length:Int))=true:=beq_iff_eq.mpr c3;have c3b1:((l0.length:Int) != (l1.length:Int))=false:=bne_eq_false_iff_eq.mpr c3;have c3b2:(l0.length == l1.length)=true:=by first|simpa using c3|(simp at c3 ⊢;omega)
  clear c3;have H':=am' H;clear H;go_enter Try.func26,Try.ntmps26;go_wp2
  repeat (go_quiet (fail);try go_wp2)
  go_loopg [5] k (fun kq v5 w'=>∃ (x5_1:Int),v5 = .int .i64 x5_1∧Aside0 (laws_eqIntSS.l0 kq l0 l1 x5_1=some r)∧Aside0 (kq≤k)∧Drawn0 w w')
  case atStart=>exact ⟨(0),(by first|rfl|(simp;done)|(simp[*];done)),H',⟨Nat.le_refl _⟩,by repeat (first|exact Drawn0.refl _|apply Drawn0.step)⟩
  case round =>
   clear H';try clear c1
   try clear c2
   try clear p2
   try clear c3
   try clear c3b0
   try clear c3b1
   try clear c3b2
   obtain ⟨x5_1,rfl,HA,HK1,⟨m1,rfl⟩⟩:=hrel;cases gk with
   | zero=>exact absurd HA.out (by simp[laws_eqIntSS.l0])
   | succ k1 =>
    have H:=HA.out;clear HA;simp only[laws_eqIntSS.l0] at H;by_cases c4:x5_1 < (l0.length:Int)
    ·
     rw[if_pos c4] at H;have c4b0:decide (x5_1 < (l0.length:Int))=true:=decide_eq_true c4;clear c4;by_cases c5:0≤x5_1
     ·
      rw[if_pos c5] at H;have c5b0:decide (0≤x5_1)=true:=decide_eq_true c5;clear c5;by_cases c6:x5_1 < (l1.length:Int)
      ·
       rw[if_pos c6] at H;have c6b0:decide (x5_1 < (l1.length:Int))=true:=decide_eq_true c6;clear c6;replace H:=Option.bind_eq_some_iff.mp H;obtain ⟨t290,A70,H⟩:=H;replace H:(if t290=true then (laws_eqIntSS.l0 k1 l0 l1 (wrap64 (x5_1+1))) else (some false))=some r:=H;have A7:=am' A70;clear A70;by_cases c8:t290=true
       ·
        subst c8;have H1:(laws_eqIntSS.l0 k1 l0 l1 (wrap64 (x5_1+1)))=some r:=by rw[if_pos rfl] at H;exact H
        clear H;have H:=H1;clear H1;have H':=am' H;clear H;have p288:0≤(x5_1:Int):=of_decide_eq_true (by first|(with_reducible assumption)|assumption);have q288:x5_1 < (l0.length:Int):=of_decide_eq_true (by first|(with_reducible assumption)|assumption);obtain ⟨ad288,A288_0,c288_0,e288,hx288_0,hl288_0,hi288_0⟩:=at_L1 HR0.out x5_1 p288 q288;cases e288;have HR288_0:=am' hi288_0;have HC288_0:=am' hl288_0;clear hi288_0 hl288_0;replace p288:=eq_true p288;replace q288:=eq_true q288;have p289:0≤(x5_1:Int):=of_decide_eq_true (by first|(with_reducible assumption)|assumption);have q289:x5_1 < (l1.length:Int):=of_decide_eq_true (by first|(with_reducible assumption)|assumption);obtain ⟨ad289,A289_0,c289_0,e289,hx289_0,hl289_0,hi289_0⟩:=at_L1 HR1.out x5_1 p289 q289;cases e289;have HR289_0:=am' hi289_0;have HC289_0:=am' hl289_0;clear hi289_0 hl289_0;replace p289:=eq_true p289;replace q289:=eq_true q289;go_wp2_with (first|(go_at_call 40;(with_reducible refine (laws_eqIntS.calls k1 _ _ (rd_L1 l0 x5_1) _ _ (rd_L1 l1 x5_1) true _ ?side1 ?side2 ?side3 ?side4 A7.out).mono ?_);(case side1=>repeat (first|exact HR288_0.out|(with_reducible refine ca' ?_ _)|(with_reducible refine cn' ?_ _)|(with_reducible refine cd' ?_)));(case side2=>exact HC288_0.out);(case side3=>repeat (first|exact HR289_0.out|(with_reducible refine ca' ?_ _)|(with_reducible refine cn' ?_ _)|(with_reducible refine cd' ?_)));(case side4=>exact HC289_0.out);rintro e w' ⟨rfl,⟨nd,rfl⟩⟩;(try first|exact ⟨rfl,_,World.drewN_drewN _ _ _⟩|exact ⟨rfl,_,Eq.trans (World.drewN_drewN _ _ _) (congrArg (World.drewN _) (Nat.add_assoc _ _ _))⟩)))
        repeat (go_quiet (first|(go_at_call 40;(with_reducible refine (laws_eqIntS.calls k1 _ _ (rd_L1 l0 x5_1) _ _ (rd_L1 l1 x5_1) true _ ?side1 ?side2 ?side3 ?side4 A7.out).mono ?_);(case side1=>repeat (first|exact HR288_0.out|(with_reducible refine ca' ?_ _)|(with_reducible refine cn' ?_ _)|(with_reducible refine cd' ?_)));(case side2=>exact HC288_0.out);(case side3=>repeat (first|exact HR289_0.out|(with_reducible refine ca' ?_ _)|(with_reducible refine cn' ?_ _)|(with_reducible refine cd' ?_)));(case side4=>exact HC289_0.out);rintro e w' ⟨rfl,⟨nd,rfl⟩⟩;(try first|exact ⟨rfl,_,World.drewN_drewN _ _ _⟩|exact ⟨rfl,_,Eq.trans (World.drewN_drewN _ _ _) (congrArg (World.drewN _) (Nat.add_assoc _ _ _))⟩)));try go_wp2_with (first|(go_at_call 40;(with_reducible refine (laws_eqIntS.calls k1 _ _ (rd_L1 l0 x5_1) _ _ (rd_L1 l1 x5_1) true _ ?side1 ?side2 ?side3 ?side4 A7.out).mono ?_);(case side1=>repeat (first|exact HR288_0.out|(with_reducible refine ca' ?_ _)|(with_reducible refine cn' ?_ _)|(with_reducible refine cd' ?_)));(case side2=>exact HC288_0.out);(case side3=>repeat (first|exact HR289_0.out|(with_reducible refine ca' ?_ _)|(with_reducible refine cn' ?_ _)|(with_reducible refine cd' ?_)));(case side4=>exact HC289_0.out);rintro e w' ⟨rfl,⟨nd,rfl⟩⟩;(try first|exact ⟨rfl,_,World.drewN_drewN _ _ _⟩|exact ⟨rfl,_,Eq.trans (World.drewN_drewN _ _ _) (congrArg (World.drewN _) (Nat.add_assoc _ _ _))⟩))))
        go_roundg k1
        case measure=>have:=HK1.out;omega
        case rel=>exact ⟨(wrap64 (x5_1+1)),(by first|rfl|(simp;done)|(simp[*];done)),H',⟨by have:=HK1.out;omega⟩,by repeat (first|exact Drawn0.refl _|apply Drawn0.step)⟩
       ·
        replace c8:=Bool.eq_false_iff.mpr c8;subst c8;have H1:(some false)=some r:=by rw[if_neg (show ¬ (false=true) by decide)] at H;exact H
        clear H;have H:=H1;clear H1;obtain rfl:=Option.some.inj H;have p288:0≤(x5_1:Int):=of_decide_eq_true (by first|(with_reducible assumption)|assumption);have q288:x5_1 < (l0.length:Int):=of_decide_eq_true (by first|(with_reducible assumption)|assumption);obtain ⟨ad288,A288_0,c288_0,e288,hx288_0,hl288_0,hi288_0⟩:=at_L1 HR0.out x5_1 p288 q288;cases e288;have HR288_0:=am' hi288_0;have HC288_0:=am' hl288_0;clear hi288_0 hl288_0;replace p288:=eq_true p288;replace q288:=eq_true q288;have p289:0≤(x5_1:Int):=of_decide_eq_true (by first|(with_reducible assumption)|assumption);have q289:x5_1 < (l1.length:Int):=of_decide_eq_true (by first|(with_reducible assumption)|assumption);obtain ⟨ad289,A289_0,c289_0,e289,hx289_0,hl289_0,hi289_0⟩:=at_L1 HR1.out x5_1 p289 q289;cases e289;have HR289_0:=am' hi289_0;have HC289_0:=am' hl289_0;clear hi289_0 hl289_0;replace p289:=eq_true p289;replace q289:=eq_true q289;go_wp2_with (first|(go_at_call 40;(with_reducible refine (laws_eqIntS.calls k1 _ _ (rd_L1 l0 x5_1) _ _ (rd_L1 l1 x5_1) false _ ?side1 ?side2 ?side3 ?side4 A7.out).mono ?_);(case side1=>repeat (first|exact HR288_0.out|(with_reducible refine ca' ?_ _)|(with_reducible refine cn' ?_ _)|(with_reducible refine cd' ?_)));(case side2=>exact HC288_0.out);(case side3=>repeat (first|exact HR289_0.out|(with_reducible refine ca' ?_ _)|(with_reducible refine cn' ?_ _)|(with_reducible refine cd' ?_)));(case side4=>exact HC289_0.out);rintro e w' ⟨rfl,⟨nd,rfl⟩⟩;(try first|exact ⟨rfl,_,World.drewN_drewN _ _ _⟩|exact ⟨rfl,_,Eq.trans (World.drewN_drewN _ _ _) (congrArg (World.drewN _) (Nat.add_assoc _ _ _))⟩)))
        repeat (go_quiet (first|(go_at_call 40;(with_reducible refine (laws_eqIntS.calls k1 _ _ (rd_L1 l0 x5_1) _ _ (rd_L1 l1 x5_1) false _ ?side1 ?side2 ?side3 ?side4 A7.out).mono ?_);(case side1=>repeat (first|exact HR288_0.out|(with_reducible refine ca' ?_ _)|(with_reducible refine cn' ?_ _)|(with_reducible refine cd' ?_)));(case side2=>exact HC288_0.out);(case side3=>repeat (first|exact HR289_0.out|(with_reducible refine ca' ?_ _)|(with_reducible refine cn' ?_ _)|(with_reducible refine cd' ?_)));(case side4=>exact HC289_0.out);rintro e w' ⟨rfl,⟨nd,rfl⟩⟩;(try first|exact ⟨rfl,_,World.drewN_drewN _ _ _⟩|exact ⟨rfl,_,Eq.trans (World.drewN_drewN _ _ _) (congrArg (World.drewN _) (Nat.add_assoc _ _ _))⟩)));try go_wp2_with (first|(go_at_call 40;(with_reducible refine (laws_eqIntS.calls k1 _ _ (rd_L1 l0 x5_1) _ _ (rd_L1 l1 x5_1) false _ ?side1 ?side2 ?side3 ?side4 A7.out).mono ?_);(case side1=>repeat (first|exact HR288_0.out|(with_reducible refine ca' ?_ _)|(with_reducible refine cn' ?_ _)|(with_reducible refine cd' ?_)));(case side2=>exact HC288_0.out);(case side3=>repeat (first|exact HR289_0.out|(with_reducible refine ca' ?_ _)|(with_reducible refine cn' ?_ _)|(with_reducible refine cd' ?_)));(case side4=>exact HC289_0.out);rintro e w' ⟨rfl,⟨nd,rfl⟩⟩;(try first|exact ⟨rfl,_,World.drewN_drewN _ _ _⟩|exact ⟨rfl,_,Eq.trans (World.drewN_drewN _ _ _) (congrArg (World.drewN _) (Nat.add_assoc _ _ _))⟩))))
        go_ret
        exact ⟨by first|rfl|(simp;done)|(simp[*];done),by repeat (first|exact Drawn0.refl _|apply Drawn0.step)⟩
      ·
       rw[if_neg c6] at H;exact absurd H (by simp)
     ·
      rw[if_neg c5] at H;exact absurd H (by simp)
    ·
     rw[if_neg c4] at H;have c4b0:decide (x5_1 < (l0.length:Int))=false:=decide_eq_false c4;clear c4;obtain rfl:=Option.some.inj H;go_wp2
     repeat (go_quiet (fail);try go_wp2)
     go_ret
     exact ⟨by first|rfl|(simp;done)|(simp[*];done),by repeat (first|exact Drawn0.refl _|apply Drawn0.step)⟩
 ·
  rw[if_neg c3] at H;have c3b0:((l0.length:Int) == (l1.length:Int))=false:=beq_eq_false_iff_ne.mpr c3;have c3b1:((l0.length:Int) != (l1.length:Int))=true:=bne_iff_ne.mpr c3;have c3b2:(l0.length == l1.length)=false:=by first|simpa using c3|(simp at c3 ⊢;omega)
  obtain rfl:=Option.some.inj H;go_enter Try.func26,Try.ntmps26;go_wp2
  repeat (go_quiet (fail);try go_wp2)
  go_ret
  exact ⟨by first|rfl|(simp;done)|(simp[*];done),by repeat (first|exact Drawn0.refl _|apply Drawn0.step)⟩
def laws_eqParty.f (k:Nat) (l0_0:List Int) (a0_1:Int) (l1_0:List Int) (a1_1:Int):Option (Bool):=(laws_eqIntS.f k l0_0 l1_0).bind fun t293=>(if t293=true then (if a0_1=a1_1 then (some true) else (some false)) else (some false))
set_option maxHeartbeats 8000000 in
set_option maxRecDepth 100000 in
theorem laws_eqParty.calls (k:Nat) (A0_0:Option Addr) (c0_0:Nat) (l0_0:List Int) (a0_1:Int) (A1_0:Option Addr) (c1_0:Nat) (l1_0:List Int) (a1_1:Int) (r:Bool) (w:World) (hr0_0:Kd.C (Kd.int .i64) w A0_0 l0_0.length l0_0) (hc0_0:l0_0.length≤c0_0) (hr1_0:Kd.C (Kd.int .i64) w A1_0 l1_0.length l1_0) (hc1_0:l1_0.length≤c1_0) (h:laws_eqParty.f k l0_0 a0_1 l1_0 a1_1=some r) :
  Calls Try.prog 27 #[.agg #[.slice A0_0 l0_0.length c0_0, .int .i64 a0_1], .agg #[.slice A1_0 l1_0.length c1_0, .int .i64 a1_1]] w fun e w'=>e = .returned (.bool r)∧Below w.heap.size w w':=by
 have hu52:=Try.underlying52
 have HR0_0:=am' hr0_0
 have HC0_0:=am' hc0_0
 clear hr0_0 hc0_0;have HR1_0:=am' hr1_0
 have HC1_0:=am' hc1_0
 clear hr1_0 hc1_0;have HB:=am' (Below.refl w.heap.size w)
 have H:((laws_eqIntS.f k l0_0 l1_0).bind fun t293=>(if t293=true then (if a0_1=a1_1 then (some true) else (some false)) else (some false)))=some r:=h
 clear h;replace H:=Option.bind_eq_some_iff.mp H
 obtain ⟨t293,A30,H⟩:=H
 replace H:(if t293=true then (if a0_1=a1_1 then (some true) else (some false)) else (some false))=some r:=H
 have A3:=am' A30
 clear A30;by_cases c4:t293=true
 ·
  subst c4;have H1:(if a0_1=a1_1 then (some true) else (some false))=some r:=by rw[if_pos rfl] at H;exact H
  clear H;have H:=H1;clear H1;by_cases c5:a0_1=a1_1
  ·
   rw[if_pos c5] at H;have c5b0:(a0_1 == a1_1)=true:=beq_iff_eq.mpr c5;have c5b1:(a0_1 != a1_1)=false:=bne_eq_false_iff_eq.mpr c5;clear c5;obtain rfl:=Option.some.inj H;go_enter Try.func27,Try.ntmps27;go_wp2_with (first|((with_reducible refine gate_dst (N:=2) rfl ?_);refine box_event ?hg (N:=2) ?hd (cs:=#[.slice A0_0 l0_0.length c0_0, .int .i64 a0_1]) (t:=52) ?hr ?_;(case hd=>rfl);(case hg=>rfl);(case hr=>first|(go_simp;done)|(go_simp;rfl));intro gb291 hg w6 hbox hb;have n0_:=am' (below_step (by repeat (first|(with_reducible first|exact HB.out|apply ba'|apply bd'|apply be')|exact HB.out)) hb);have n1_:=am' (hbox);have n2_:=am' ((by rw[hg];exact (below_size (by repeat (first|(with_reducible first|exact HB.out|apply ba'|apply bd'|apply be')|exact HB.out))):w.heap.size≤gb291));have n3_:=am' ((by rw[hg];exact (below_size (by repeat (first|(with_reducible first|exact HB.out|apply ba'|apply bd'|apply be')|exact HB.out))):w.heap.size≤gb291));clear HB;have HB:=n0_;have BK291:=n1_;have GW291:=n2_;have GE291:=n3_;clear n0_ n1_ n2_ n3_;clear hb hbox hg)|((with_reducible refine gate_dst (N:=3) rfl ?_);refine box_event ?hg (N:=3) ?hd (cs:=#[.slice A1_0 l1_0.length c1_0, .int .i64 a1_1]) (t:=52) ?hr ?_;(case hd=>rfl);(case hg=>rfl);(case hr=>first|(go_simp;done)|(go_simp;rfl));intro gb292 hg w7 hbox hb;have n0_:=am' (blk_below (g:=gb291) (o := .cells #[.slice A0_0 l0_0.length c0_0, .int .i64 a0_1] 52 (0,0)) (by (with_reducible repeat (first|refine kn' ?_ _|refine kd' ?_|refine ka' ?_ _));exact BK291.out) hb);have n1_:=am' (below_step (by repeat (first|(with_reducible first|exact HB.out|apply ba'|apply bd'|apply be'|refine bs' ?_ GE291.out)|exact HB.out)) hb);have n2_:=am' (hbox);have n3_:=am' ((by rw[hg];exact (below_size (by repeat (first|(with_reducible first|exact HB.out|apply ba'|apply bd'|apply be'|refine bs' ?_ GE291.out)|exact HB.out))):w.heap.size≤gb292));have n4_:=am' ((by rw[hg];exact (below_size (by repeat (first|(with_reducible first|exact HB.out|apply ba'|apply bd'|apply be'|refine bs' ?_ GE291.out)|exact HB.out))):w.heap.size≤gb292));have n5_:=am' ((by rw[hg];exact Nat.ne_of_lt (blk_lt (g:=gb291) (o := .cells #[.slice A0_0 l0_0.length c0_0, .int .i64 a0_1] 52 (0,0)) (by (with_reducible repeat (first|refine kn' ?_ _|refine kd' ?_|refine ka' ?_ _));exact BK291.out)):gb291≠gb292));have n6_:=am' ((by rw[hg];exact Nat.ne_of_gt (blk_lt (g:=gb291) (o := .cells #[.slice A0_0 l0_0.length c0_0, .int .i64 a0_1] 52 (0,0)) (by (with_reducible repeat (first|refine kn' ?_ _|refine kd' ?_|refine ka' ?_ _));exact BK291.out)):gb292≠gb291));clear BK291;clear HB;have BK291:=n0_;have HB:=n1_;have BK292:=n2_;have GW292:=n3_;have GE292:=n4_;have NB291_292:=n5_;have NB292_291:=n6_;clear n0_ n1_ n2_ n3_ n4_ n5_ n6_;clear hb hbox hg;have hnb8:=NB291_292.out;have hnc8:=NB292_291.out;have hcz9_0:w7.cell? ⟨gb291,0,none⟩=some (.slice A0_0 l0_0.length c0_0):=(blk_cell BK291.out 0).trans rfl;have hcz9_1:w7.cell? ⟨gb291,1,none⟩=some (.int .i64 a0_1):=(blk_cell BK291.out 1).trans rfl;have hfz9_0:=blk_frozen BK291.out 0;have hfz9_1:=blk_frozen BK291.out 1;have hcz10_0:w7.cell? ⟨gb292,0,none⟩=some (.slice A1_0 l1_0.length c1_0):=(blk_cell BK292.out 0).trans rfl;have hcz10_1:w7.cell? ⟨gb292,1,none⟩=some (.int .i64 a1_1):=(blk_cell BK292.out 1).trans rfl;have hfz10_0:=blk_frozen BK292.out 0;have hfz10_1:=blk_frozen BK292.out 1)|((with_reducible refine gate_callee (f:=40) rfl ?_);refine goesL_ (some 9) rfl rfl Try.func40 (by kernel_rfl) rfl #[.slice A0_0 l0_0.length c0_0, .slice A1_0 l1_0.length c1_0] rfl (by (try simp only[List.map_toArray,List.map_cons,List.map_nil]);first|done|rfl|(simp only[List.length_drop,List.length_take];rfl)) ?_;(with_reducible refine (laws_eqIntS.calls k _ _ l0_0 _ _ l1_0 true _ ?side1 ?side2 ?side3 ?side4 A3.out).mono ?_);(case side1=>repeat (first|exact (Kd.C_below HR0_0.out HB.out)|(with_reducible refine ca' ?_ _)|(with_reducible refine cn' ?_ _)|(with_reducible refine cd' ?_)));(case side2=>exact HC0_0.out);(case side3=>repeat (first|exact (Kd.C_below HR1_0.out HB.out)|(with_reducible refine ca' ?_ _)|(with_reducible refine cn' ?_ _)|(with_reducible refine cd' ?_)));(case side4=>exact HC1_0.out);rintro e w' ⟨rfl,⟨nd,rfl⟩⟩;refine ⟨_,rfl,?_⟩))
   go_ret
   exact ⟨by first|rfl|(simp[errW_none,errW_some] <;> rfl)|(simp[*,errW_none,errW_some] <;> rfl),by repeat (first|(with_reducible first|exact HB.out|apply ba'|apply bd'|apply be'|refine bs' ?_ GE291.out|refine bs' ?_ GE292.out)|exact HB.out)⟩
  ·
   rw[if_neg c5] at H;have c5b0:(a0_1 == a1_1)=false:=beq_eq_false_iff_ne.mpr c5;have c5b1:(a0_1 != a1_1)=true:=bne_iff_ne.mpr c5;obtain rfl:=Option.some.inj H;go_enter Try.func27,Try.ntmps27;go_wp2_with (first|((with_reducible refine gate_dst (N:=2) rfl ?_);refine box_event ?hg (N:=2) ?hd (cs:=#[.slice A0_0 l0_0.length c0_0, .int .i64 a0_1]) (t:=52) ?hr ?_;(case hd=>rfl);(case hg=>rfl);(case hr=>first|(go_simp;done)|(go_simp;rfl));intro gb291 hg w11 hbox hb;have n0_:=am' (below_step (by repeat (first|(with_reducible first|exact HB.out|apply ba'|apply bd'|apply be')|exact HB.out)) hb);have n1_:=am' (hbox);have n2_:=am' ((by rw[hg];exact (below_size (by repeat (first|(with_reducible first|exact HB.out|apply ba'|apply bd'|apply be')|exact HB.out))):w.heap.size≤gb291));have n3_:=am' ((by rw[hg];exact (below_size (by repeat (first|(with_reducible first|exact HB.out|apply ba'|apply bd'|apply be')|exact HB.out))):w.heap.size≤gb291));clear HB;have HB:=n0_;have BK291:=n1_;have GW291:=n2_;have GE291:=n3_;clear n0_ n1_ n2_ n3_;clear hb hbox hg)|((with_reducible refine gate_dst (N:=3) rfl ?_);refine box_event ?hg (N:=3) ?hd (cs:=#[.slice A1_0 l1_0.length c1_0, .int .i64 a1_1]) (t:=52) ?hr ?_;(case hd=>rfl);(case hg=>rfl);(case hr=>first|(go_simp;done)|(go_simp;rfl));intro gb292 hg w12 hbox hb;have n0_:=am' (blk_below (g:=gb291) (o := .cells #[.slice A0_0 l0_0.length c0_0, .int .i64 a0_1] 52 (0,0)) (by (with_reducible repeat (first|refine kn' ?_ _|refine kd' ?_|refine ka' ?_ _));exact BK291.out) hb);have n1_:=am' (below_step (by repeat (first|(with_reducible first|exact HB.out|apply ba'|apply bd'|apply be'|refine bs' ?_ GE291.out)|exact HB.out)) hb);have n2_:=am' (hbox);have n3_:=am' ((by rw[hg];exact (below_size (by repeat (first|(with_reducible first|exact HB.out|apply ba'|apply bd'|apply be'|refine bs' ?_ GE291.out)|exact HB.out))):w.heap.size≤gb292));have n4_:=am' ((by rw[hg];exact (below_size (by repeat (first|(with_reducible first|exact HB.out|apply ba'|apply bd'|apply be'|refine bs' ?_ GE291.out)|exact HB.out))):w.heap.size≤gb292));have n5_:=am' ((by rw[hg];exact Nat.ne_of_lt (blk_lt (g:=gb291) (o := .cells #[.slice A0_0 l0_0.length c0_0, .int .i64 a0_1] 52 (0,0)) (by (with_reducible repeat (first|refine kn' ?_ _|refine kd' ?_|refine ka' ?_ _));exact BK291.out)):gb291≠gb292));have n6_:=am' ((by rw[hg];exact Nat.ne_of_gt (blk_lt (g:=gb291) (o := .cells #[.slice A0_0 l0_0.length c0_0, .int .i64 a0_1] 52 (0,0)) (by (with_reducible repeat (first|refine kn' ?_ _|refine kd' ?_|refine ka' ?_ _));exact BK291.out)):gb292≠gb291));clear BK291;clear HB;have BK291:=n0_;have HB:=n1_;have BK292:=n2_;have GW292:=n3_;have GE292:=n4_;have NB291_292:=n5_;have NB292_291:=n6_;clear n0_ n1_ n2_ n3_ n4_ n5_ n6_;clear hb hbox hg;have hnb13:=NB291_292.out;have hnc13:=NB292_291.out;have hcz14_0:w12.cell? ⟨gb291,0,none⟩=some (.slice A0_0 l0_0.length c0_0):=(blk_cell BK291.out 0).trans rfl;have hcz14_1:w12.cell? ⟨gb291,1,none⟩=some (.int .i64 a0_1):=(blk_cell BK291.out 1).trans rfl;have hfz14_0:=blk_frozen BK291.out 0;have hfz14_1:=blk_frozen BK291.out 1;have hcz15_0:w12.cell? ⟨gb292,0,none⟩=some (.slice A1_0 l1_0.length c1_0):=(blk_cell BK292.out 0).trans rfl;have hcz15_1:w12.cell? ⟨gb292,1,none⟩=some (.int .i64 a1_1):=(blk_cell BK292.out 1).trans rfl;have hfz15_0:=blk_frozen BK292.out 0;have hfz15_1:=blk_frozen BK292.out 1)|((with_reducible refine gate_callee (f:=40) rfl ?_);refine goesL_ (some 9) rfl rfl Try.func40 (by kernel_rfl) rfl #[.slice A0_0 l0_0.length c0_0, .slice A1_0 l1_0.length c1_0] rfl (by (try simp only[List.map_toArray,List.map_cons,List.map_nil]);first|done|rfl|(simp only[List.length_drop,List.length_take];rfl)) ?_;(with_reducible refine (laws_eqIntS.calls k _ _ l0_0 _ _ l1_0 true _ ?side1 ?side2 ?side3 ?side4 A3.out).mono ?_);(case side1=>repeat (first|exact (Kd.C_below HR0_0.out HB.out)|(with_reducible refine ca' ?_ _)|(with_reducible refine cn' ?_ _)|(with_reducible refine cd' ?_)));(case side2=>exact HC0_0.out);(case side3=>repeat (first|exact (Kd.C_below HR1_0.out HB.out)|(with_reducible refine ca' ?_ _)|(with_reducible refine cn' ?_ _)|(with_reducible refine cd' ?_)));(case side4=>exact HC1_0.out);rintro e w' ⟨rfl,⟨nd,rfl⟩⟩;refine ⟨_,rfl,?_⟩))
   go_ret
   exact ⟨by first|rfl|(simp[errW_none,errW_some] <;> rfl)|(simp[*,errW_none,errW_some] <;> rfl),by repeat (first|(with_reducible first|exact HB.out|apply ba'|apply bd'|apply be'|refine bs' ?_ GE291.out|refine bs' ?_ GE292.out)|exact HB.out)⟩
 ·
  replace c4:=Bool.eq_false_iff.mpr c4;subst c4;have H1:(some false)=some r:=by rw[if_neg (show ¬ (false=true) by decide)] at H;exact H
  clear H;have H:=H1;clear H1;obtain rfl:=Option.some.inj H;go_enter Try.func27,Try.ntmps27;go_wp2_with (first|((with_reducible refine gate_dst (N:=2) rfl ?_);refine box_event ?hg (N:=2) ?hd (cs:=#[.slice A0_0 l0_0.length c0_0, .int .i64 a0_1]) (t:=52) ?hr ?_;(case hd=>rfl);(case hg=>rfl);(case hr=>first|(go_simp;done)|(go_simp;rfl));intro gb291 hg w16 hbox hb;have n0_:=am' (below_step (by repeat (first|(with_reducible first|exact HB.out|apply ba'|apply bd'|apply be')|exact HB.out)) hb);have n1_:=am' (hbox);have n2_:=am' ((by rw[hg];exact (below_size (by repeat (first|(with_reducible first|exact HB.out|apply ba'|apply bd'|apply be')|exact HB.out))):w.heap.size≤gb291));have n3_:=am' ((by rw[hg];exact (below_size (by repeat (first|(with_reducible first|exact HB.out|apply ba'|apply bd'|apply be')|exact HB.out))):w.heap.size≤gb291));clear HB;have HB:=n0_;have BK291:=n1_;have GW291:=n2_;have GE291:=n3_;clear n0_ n1_ n2_ n3_;clear hb hbox hg)|((with_reducible refine gate_dst (N:=3) rfl ?_);refine box_event ?hg (N:=3) ?hd (cs:=#[.slice A1_0 l1_0.length c1_0, .int .i64 a1_1]) (t:=52) ?hr ?_;(case hd=>rfl);(case hg=>rfl);(case hr=>first|(go_simp;done)|(go_simp;rfl));intro gb292 hg w17 hbox hb;have n0_:=am' (blk_below (g:=gb291) (o := .cells #[.slice A0_0 l0_0.length c0_0, .int .i64 a0_1] 52 (0,0)) (by (with_reducible repeat (first|refine kn' ?_ _|refine kd' ?_|refine ka' ?_ _));exact BK291.out) hb);have n1_:=am' (below_step (by repeat (first|(with_reducible first|exact HB.out|apply ba'|apply bd'|apply be'|refine bs' ?_ GE291.out)|exact HB.out)) hb);have n2_:=am' (hbox);have n3_:=am' ((by rw[hg];exact (below_size (by repeat (first|(with_reducible first|exact HB.out|apply ba'|apply bd'|apply be'|refine bs' ?_ GE291.out)|exact HB.out))):w.heap.size≤gb292));have n4_:=am' ((by rw[hg];exact (below_size (by repeat (first|(with_reducible first|exact HB.out|apply ba'|apply bd'|apply be'|refine bs' ?_ GE291.out)|exact HB.out))):w.heap.size≤gb292));have n5_:=am' ((by rw[hg];exact Nat.ne_of_lt (blk_lt (g:=gb291) (o := .cells #[.slice A0_0 l0_0.length c0_0, .int .i64 a0_1] 52 (0,0)) (by (with_reducible repeat (first|refine kn' ?_ _|refine kd' ?_|refine ka' ?_ _));exact BK291.out)):gb291≠gb292));have n6_:=am' ((by rw[hg];exact Nat.ne_of_gt (blk_lt (g:=gb291) (o := .cells #[.slice A0_0 l0_0.length c0_0, .int .i64 a0_1] 52 (0,0)) (by (with_reducible repeat (first|refine kn' ?_ _|refine kd' ?_|refine ka' ?_ _));exact BK291.out)):gb292≠gb291));clear BK291;clear HB;have BK291:=n0_;have HB:=n1_;have BK292:=n2_;have GW292:=n3_;have GE292:=n4_;have NB291_292:=n5_;have NB292_291:=n6_;clear n0_ n1_ n2_ n3_ n4_ n5_ n6_;clear hb hbox hg;have hnb18:=NB291_292.out;have hnc18:=NB292_291.out;have hcz19_0:w17.cell? ⟨gb291,0,none⟩=some (.slice A0_0 l0_0.length c0_0):=(blk_cell BK291.out 0).trans rfl;have hcz19_1:w17.cell? ⟨gb291,1,none⟩=some (.int .i64 a0_1):=(blk_cell BK291.out 1).trans rfl;have hfz19_0:=blk_frozen BK291.out 0;have hfz19_1:=blk_frozen BK291.out 1;have hcz20_0:w17.cell? ⟨gb292,0,none⟩=some (.slice A1_0 l1_0.length c1_0):=(blk_cell BK292.out 0).trans rfl;have hcz20_1:w17.cell? ⟨gb292,1,none⟩=some (.int .i64 a1_1):=(blk_cell BK292.out 1).trans rfl;have hfz20_0:=blk_frozen BK292.out 0;have hfz20_1:=blk_frozen BK292.out 1)|((with_reducible refine gate_callee (f:=40) rfl ?_);refine goesL_ (some 9) rfl rfl Try.func40 (by kernel_rfl) rfl #[.slice A0_0 l0_0.length c0_0, .slice A1_0 l1_0.length c1_0] rfl (by (try simp only[List.map_toArray,List.map_cons,List.map_nil]);first|done|rfl|(simp only[List.length_drop,List.length_take];rfl)) ?_;(with_reducible refine (laws_eqIntS.calls k _ _ l0_0 _ _ l1_0 false _ ?side1 ?side2 ?side3 ?side4 A3.out).mono ?_);(case side1=>repeat (first|exact (Kd.C_below HR0_0.out HB.out)|(with_reducible refine ca' ?_ _)|(with_reducible refine cn' ?_ _)|(with_reducible refine cd' ?_)));(case side2=>exact HC0_0.out);(case side3=>repeat (first|exact (Kd.C_below HR1_0.out HB.out)|(with_reducible refine ca' ?_ _)|(with_reducible refine cn' ?_ _)|(with_reducible refine cd' ?_)));(case side4=>exact HC1_0.out);rintro e w' ⟨rfl,⟨nd,rfl⟩⟩;refine ⟨_,rfl,?_⟩))
  go_ret
  exact ⟨by first|rfl|(simp[errW_none,errW_some] <;> rfl)|(simp[*,errW_none,errW_some] <;> rfl),by repeat (first|(with_reducible first|exact HB.out|apply ba'|apply bd'|apply be'|refine bs' ?_ GE291.out|refine bs' ?_ GE292.out)|exact HB.out)⟩
end Go.Proofs.Ytdomojenlofieaa.C1
