import Derived.Test.YtcjjhkapdlfaeaaC1zx0
import Derived.Test.YtcjjhkapdlfaeaaC1zx6
import Derived.Test.YtcjjhkapdlfaeaaC1zx7
import Derived.Test.YtcjjhkapdlfaeaaC1zAl
namespace Go.Proofs.Ytcjjhkapdlfaeaa.C1
open Go.RowKit Go.Proofs.YtcjjhkapdlfaeaaW.PrintWords Go.Proofs.YtcjjhkapdlfaeaaW.PrintLast Go.Proofs.YtcjjhkapdlfaeaaW.PrintMore Go.Proofs.Ytcjjhkapdlfaeaa.H
attribute [local go_sem] max2_int min2_int max_two min_two max_three min_three max_four min_four
set_option linter.unusedVariables false
set_option linter.unusedSimpArgs false
def grpsF (most:Int):List Int→List Int→List (List Int)
 | [],_=>[]
 | x :: r,l=>if (l.length:Int) < most then (l ++ [x]) :: (grpsF most r (l ++ [x]) ++ grpsF most r l) else []
def CbPost {σ:Type} (B:Nat) (Inv:σ→World→(Nat→Prop)→Prop) (s':σ) (O:Nat→Prop) (W:World) (e:Ending) (W':World):Prop :=
 e = .returned (.tuple #[])∧Below B W W'∧∃ O',Inv s' W' O'∧Kept W W' O∧∀ k,O' k→O k∨W.heap.size≤k
def EachOk {σ:Type} (B g:Nat) (lb:Array Value) (Inv:σ→World→(Nat→Prop)→Prop) (step:σ→List Int→Option σ):Prop :=
 ∀ (s s':σ) (O:Nat→Prop) (W0 W:World) (v:Value) (l:List Int),Inv s W0 O→Below W0.heap.size W0 W→Kd.R (Kd.int .i64) 3 W W0.heap.size (fun _=>True) v l→step s l=some s' →
  Calls Try.prog g (#[v] ++ lb) W (CbPost B Inv s' O W)
structure GFr (w:World) (O:Nat→Prop) (g:Nat) (lb:Array Value) (people:List Int) (most:Int) (A:Option Addr) (c p0 p1 p2 p3:Nat):Prop where
 h0:w.heap[p0]? = some (.cells #[.slice A people.length c] 26 (0,0))
 h1:w.heap[p1]? = some (.cells #[.int .i64 most] 3 (0,0))
 h2:w.heap[p2]? = some (.cells #[.func (.func g) #[] lb] 63 (0,0))
 h3:w.heap[p3]? = some (.cells #[.func (.func 75) #[] #[.pointer (some ⟨p0,0,none⟩), .pointer (some ⟨p1,0,none⟩), .pointer (some ⟨p2,0,none⟩), .pointer (some ⟨p3,0,none⟩)]] 82 (0,0))
 n0:¬ O p0
 n1:¬ O p1
 n2:¬ O p2
 n3:¬ O p3
 hF:Kd.F (Kd.int .i64) w (fun k=>¬ O k) A people.length people
theorem GFr.kept {w W:World} {O O':Nat→Prop} {g:Nat} {lb:Array Value} {people:List Int} {most:Int} {A:Option Addr} {c p0 p1 p2 p3:Nat} (h:GFr w O g lb people most A c p0 p1 p2 p3) (hk:Kept w W O) (ho:∀ k,O' k→O k∨w.heap.size≤k):GFr W O' g lb people most A c p0 p1 p2 p3:=by
 have lt:∀ {p:Nat} {o:Obj},w.heap[p]? = some o→¬ O p→¬ O' p:=fun hp hn h=>by
  rcases ho _ h with q|q
  ·
   exact hn q
  ·
   have:=blk_lt hp;omega
 exact ⟨blk_kept h.h0 hk h.n0,blk_kept h.h1 hk h.n1,blk_kept h.h2 hk h.n2,blk_kept h.h3 hk h.n3,lt h.h0 h.n0,lt h.h1 h.n1,lt h.h2 h.n2,lt h.h3 h.n3,
  Kd.F_mono (Kd.F_kept (Kd.F_bound h.hF) hk (fun _ q=>q.1)) (fun k q q2=>by rcases ho k q2 with q3|q3;exact q.1 q3;omega)⟩
theorem F_turn {w W:World} {O O':Nat→Prop} {A:Option Addr} {n:Nat} {l:List Int} (h:Kd.F (Kd.int .i64) w (fun k=>¬ O k) A n l) (hk:Kept w W O) (ho:∀ k,O' k→O k∨w.heap.size≤k):Kd.F (Kd.int .i64) W (fun k=>¬ O' k) A n l :=
 Kd.F_mono (Kd.F_kept (Kd.F_bound h) hk (fun _ q=>q.1)) (fun k q q2=>by rcases ho k q2 with q3|q3;exact q.1 q3;omega)
section
variable {σ:Type} {B g:Nat} {lb:Array Value} {Inv:σ→World→(Nat→Prop)→Prop} {step:σ→List Int→Option σ}
set_option maxHeartbeats 2000000 in
set_option maxRecDepth 100000 in
theorem on_any (HE:EachOk B g lb Inv step) (HI:∀ s W O,Inv s W O→∀ k,O k→B≤k∧k < W.heap.size) (eg:∀ args w,(callFunc g args).run Try.prog w = .ok (.enter g args) w)
  (people:List Int) (most:Int) (A:Option Addr) (c p0 p1 p2 p3:Nat) (hpc:people.length≤c) (hpl:people.length≤1048576) :
  ∀ (d f:Nat) (s s':σ) (O:Nat→Prop) (w:World) (Al:Option Addr) (cl:Nat) (l:List Int),people.length - f≤d→f≤people.length→B≤w.heap.size→Inv s w O→GFr w O g lb people most A c p0 p1 p2 p3→Kd.F (Kd.int .i64) w (fun k=>¬ O k) Al l.length l→l.length≤cl→l.length+(people.length - f)≤1048576 →
   (grpsF most (people.drop f) l).foldlM step s=some s' →
   Calls Try.prog 75 #[.int .i64 f, .slice Al l.length cl, .pointer (some ⟨p0,0,none⟩), .pointer (some ⟨p1,0,none⟩), .pointer (some ⟨p2,0,none⟩), .pointer (some ⟨p3,0,none⟩)] w (CbPost B Inv s' O w):=by
 intro d;induction d using Nat.strongRecOn with
 | ind d ih =>
 intro f s s' O w Al cl l hd hf hB hinv hfr hl hlc hbig hfold;have HD:=am' hd
 have HBG:=am' hbig
 have IH:=am' ih
 have HINV:=am' hinv
 have HFR:=am' hfr
 have HL:=am' hl
 have HFO:=am' hfold
 have HBB:=am' (Below.refl B w)
 clear ih hinv hfr hl hfold hd hbig;have hinfo:=am' (show (Try.prog.info? 3).map (fun i=>(i.zero,i.size,i.bytes))=some (some (.int .i64 0),1,8) by kernel_rfl)
 go_enter Try.func75,Try.ntmps75
 go_wp2
 go_loopg [8] (people.length - f) (fun gg v8 wr=>∃ (i:Nat) (s1:σ) (O1:Nat→Prop),v8 = .int .i64 i∧i≤people.length∧f≤i∧people.length - i≤gg∧Aside0 ((grpsF most (people.drop i) l).foldlM step s1=some s')∧Aside0 (Inv s1 wr O1)∧Aside0 (GFr wr O1 g lb people most A c p0 p1 p2 p3)∧Aside0 (Kd.F (Kd.int .i64) wr (fun k=>¬ O1 k) Al l.length l)∧Aside0 (Below B w wr)∧Aside0 (Kept w wr O)∧Aside0 (∀ k,O1 k→O k∨w.heap.size≤k))
 case atStart=>exact ⟨f,s,O,rfl,hf,Nat.le_refl _,Nat.le_refl _,HFO,HINV,HFR,HL,HBB,⟨Kept.refl _ _⟩,⟨fun _ h => .inl h⟩⟩
 case round =>
  obtain ⟨i,s1,O1,rfl,hi,hfi,hg,HF1,HI1,HG1,HL1,HB1,HK1,HO1⟩:=hrel;have x0:wr.cell? ⟨p0,0,none⟩=some (.slice A people.length c):=(blk_cell HG1.out.h0 0).trans rfl;have x1:wr.cell? ⟨p1,0,none⟩=some (.int .i64 most):=(blk_cell HG1.out.h1 0).trans rfl;have x2:wr.cell? ⟨p2,0,none⟩=some (.func (.func g) #[] lb):=(blk_cell HG1.out.h2 0).trans rfl;have x3:wr.cell? ⟨p3,0,none⟩=some (.func (.func 75) #[] #[.pointer (some ⟨p0,0,none⟩), .pointer (some ⟨p1,0,none⟩), .pointer (some ⟨p2,0,none⟩), .pointer (some ⟨p3,0,none⟩)]):=(blk_cell HG1.out.h3 0).trans rfl;by_cases hlt:i < people.length
  ·
   by_cases hm:(l.length:Int) < most
   ·
    have hltz:(i:Int) < (people.length:Int):=by omega
    have hdz:=decide_eq_true hltz;have hdm:=decide_eq_true hm;obtain ⟨ad,e0,hx0⟩:=Kd.at_int (Kd.F_now HG1.out.hF) (i:Int) (by omega) hltz;cases e0;rw[Int.toNat_natCast] at hx0;generalize hxx:rd people i=x at hx0
    have HX:=am' hxx;clear hxx;have HCL:=am' (show slices_Clone_int_int.f l=some l from if_pos (by have:=HBG.out;omega));have HHB:=am' (Below.refl wr.heap.size wr);go_wp2_with fail
    go_region_held3? (fun w'=>w'.cell? ⟨p0,0,none⟩=some (.slice (some ad) people.length c)∧w'.cell? (ad.add i)=some (.int .i64 x))
     (first|exact ⟨z0,z1⟩|exact ⟨y0,y1⟩|go_keep)
     (first|((refine Kd.R_append_rows_step (Kd.int .i64) (w0:=wr) wr.heap.size (by rfl) (.tmp 24) (.tmp 29) 26 3 (.int .i64 0) 8 (by rfl) Try.underlying26 hinfo.out rfl (by decide) (by omega) vc l [x] (some ⟨_,0,none⟩) 1 1 (fun _=>True) (fun _=>False) (by rfl) (by rfl) ?aO ?aR (fun _ _ h=>h) (fun _ h=>h.elim) (fun _ _=>trivial) ?aB ?aS ?aL ?_;(case aR=>first|exact C_one (heap_alloc_new _ _)|exact C_one ((HB2.out.block _ (by simp)).trans (heap_alloc_new _ _)));(case aO=>(with_reducible repeat (first|apply ra'|apply rn'|apply rw'));exact HO2.out);(case aB=>repeat (first|(with_reducible first|exact HHB2.out|apply ba'|apply bd'|apply be')|exact HHB2.out));(case aS=>exact below_size (by repeat (first|(with_reducible first|exact HHB2.out|apply ba'|apply bd'|apply be')|exact HHB2.out)));(case aL=>have:=HBG.out;omega);intro v3 w3 ho hb hg hat;have HO3:=am' ho;have HB3:=am' hb;clear ho hb hg hat;have z0:=(HB3.out.cell (bl' wr _ x0)).trans x0;have z1:=(HB3.out.cell (bl' wr _ hx0)).trans hx0))|((go_at_call 76;refine (slices_Clone_int_int.calls Al cl l l _ ?_ hlc HCL.out).mono ?_;(repeat (first|exact Kd.F_now HL1.out|refine ca' ?_ _|refine cd' ?_|refine cn' ?_ _));rintro e w2 ⟨vc,rfl,ho,hb⟩;have HHB2:=am' (below_step (by repeat (first|(with_reducible first|exact HHB.out|apply ba'|apply bd'|apply be')|exact HHB.out)) hb);have HO2:=am' (Kd.R_lower ho (below_size (by repeat (first|(with_reducible first|exact HHB.out|apply ba'|apply bd'|apply be')|exact HHB.out))));have HB2:=am' hb;clear hb ho;have y0:=(HHB2.out.cell (bl' wr _ x0)).trans x0;have y1:=(HHB2.out.cell (bl' wr _ hx0)).trans hx0)))
    all_goals
     have HB1':=am' (HB1.out.trans (HB3.out.mono (Nat.le_trans hB HB1.out.size)));have HG3:=am' (HG1.out.kept (O':=O1) (Kept.of_below HB3.out O1) (fun _ h => .inl h));have HL3:=am' (F_turn (O':=O1) HL1.out (Kept.of_below HB3.out O1) (fun _ h => .inl h));obtain ⟨A3,c3,hv3,hlc3,hC3⟩:=Kd.R_reads HO3.out;have HF3:=am' (show Kd.F (Kd.int .i64) w3 (fun k=>¬ O1 k) A3 (l ++ [x]).length (l ++ [x]) from Kd.F_mono (Kd.R_F (Kd.R_bound (hv3 ▸ HO3.out))) (fun k q h=>by have:=HI _ _ _ HI1.out k h;have:=q.2.1;omega));have HK3:=am' (HK1.out.then_ (Kept.of_below HB3.out O1) HO1.out)
     have hdrop:people.drop i=x :: people.drop (i+1):=by
      rw[List.drop_eq_getElem_cons hlt];congr 1
      rw[← HX.out];simp[rd,List.getD_eq_getElem?_getD,List.getElem?_eq_getElem hlt]
     have hf1:=HF1.out;rw[hdrop,grpsF,if_pos hm,List.foldlM_cons] at hf1;obtain ⟨s2,hs2,hf1⟩:=Option.bind_eq_some_iff.mp hf1;rw[List.foldlM_append] at hf1;obtain ⟨s3,hs3,hf1⟩:=Option.bind_eq_some_iff.mp hf1;have HE2:=am' (HE s1 s2 O1 wr w3 v3 (l ++ [x]) HI1.out HB3.out HO3.out hs2);have HS3:=am' hs3;have HF2:=am' hf1;have HLC3:=am' hlc3;have HN3:=am' (show (l ++ [x]).length=l.length+1 by simp);clear hC3;generalize l ++ [x]=l2 at HO3 HF3 HE2 HS3 HLC3 HN3 hv3 hs2 hs3 hlc3
     subst hv3;clear HB3 HG1 HL1 HK1 HB1 hdrop hs2 hs3 hf1 hlc3;have e2:w3.cell? ⟨p2,0,none⟩=some (.func (.func g) #[] lb):=(blk_cell HG3.out.h2 0).trans rfl;go_wp2_with fail;refine HE2.out.mono ?_
     rintro e w4 ⟨rfl,hb4,O2,hi4,hk4,ho4⟩
     have HG4:=am' (HG3.out.kept hk4 ho4);have HL4:=am' (F_turn HL3.out hk4 ho4);have HF4:=am' (F_turn HF3.out hk4 ho4);have HK4:=am' (HK3.out.then_ hk4 HO1.out);have HI4:=am' hi4;have HB4:=am' (HB1'.out.trans hb4)
     have HO4:=am' (show ∀ k,O2 k→O k∨w.heap.size≤k from fun k h=>by
      rcases ho4 k h with q|q
      ·
       exact HO1.out k q
      ·
       have:=HK3.out.1;exact .inr (by omega))
     have hrec:=IH.out (people.length - (i+1)) (by have:=HD.out;omega) (i+1) s2 s3 O2 w4 A3 c3 l2 (Nat.le_refl _) (by omega) (Nat.le_trans hB HB4.out.size) hi4 HG4.out HF4.out HLC3.out (by have:=HBG.out;have:=HN3.out;omega) HS3.out;rw[show ((i+1:Nat):Int)=(i:Int)+1 from rfl] at hrec;have HREC:=am' hrec;clear hrec hb4 hi4 hk4 ho4 HE2 HG3 HL3 HF3 HK3 HB1' e2 x0 x1 x2 x3 hx0;have e3:w4.cell? ⟨p3,0,none⟩=some (.func (.func 75) #[] #[.pointer (some ⟨p0,0,none⟩), .pointer (some ⟨p1,0,none⟩), .pointer (some ⟨p2,0,none⟩), .pointer (some ⟨p3,0,none⟩)]):=(blk_cell HG4.out.h3 0).trans rfl;go_wp2_with (go_at_call 75;refine HREC.out.mono ?_;rintro e w5 ⟨rfl,hb5,O3,hi5,hk5,ho5⟩);go_roundg (people.length - (i+1))
     case measure=>omega
     case rel =>
      refine ⟨i+1,s3,O3,by go_num,by omega,by omega,Nat.le_refl _,HF2,⟨hi5⟩,⟨HG4.out.kept hk5 ho5⟩,⟨F_turn HL4.out hk5 ho5⟩,⟨HB4.out.trans hb5⟩,⟨HK4.out.then_ hk5 HO4.out⟩,⟨fun k h=>?_⟩⟩;rcases ho5 k h with q|q
      ·
       exact HO4.out k q
      ·
       have:=HK4.out.1;exact .inr (by omega)
   ·
    have hdm:=decide_eq_false hm;have hltz:(i:Int) < (people.length:Int):=by omega
    have hdz:=decide_eq_true hltz;go_wp2;go_end0
    refine ⟨rfl,HB1.out,O1,?_,HK1.out,HO1.out⟩;have hf1:=HF1.out;rw[List.drop_eq_getElem_cons hlt,grpsF,if_neg (by omega)] at hf1;cases hf1;exact HI1.out
  ·
   have hnl:¬ (i:Int) < (people.length:Int):=by omega
   have hdz:=decide_eq_false hnl;go_wp2;go_end0
   refine ⟨rfl,HB1.out,O1,?_,HK1.out,HO1.out⟩;have hf1:=HF1.out;rw[List.drop_eq_nil_of_le (by omega),grpsF] at hf1;cases hf1;exact HI1.out
set_option maxHeartbeats 2000000 in
set_option maxRecDepth 100000 in
theorem groups_any (HE:EachOk B g lb Inv step) (HI:∀ s W O,Inv s W O→∀ k,O k→B≤k∧k < W.heap.size) (eg:∀ args w,(callFunc g args).run Try.prog w = .ok (.enter g args) w)
  (people:List Int) (most:Int) (A:Option Addr) (c:Nat) (hpc:people.length≤c) (hpl:people.length≤1048576) (s s':σ) (O:Nat→Prop) (w:World) (hB:B≤w.heap.size) (hinv:∀ W,Below w.heap.size w W→Inv s W O) (hpe:Kd.F (Kd.int .i64) w (fun k=>¬ O k) A people.length people)
  (hfold:(grpsF most people []).foldlM step s=some s') :
  Calls Try.prog 42 #[.slice A people.length c, .int .i64 most, .func (.func g) #[] lb] w (CbPost B Inv s' O w):=by
 have HINV:=am' hinv
 have HPE:=am' hpe
 have HFO:=am' hfold
 clear hinv hpe hfold;have ho:∀ k,O k→k < w.heap.size:=fun k h=>(HI _ _ _ (HINV.out w (Below.refl _ _)) k h).2
 have HO:=am' ho
 clear ho;go_enter Try.func42,Try.ntmps42
 go_wp2_with fail
 obtain ⟨b0,b1,b2,b3,hb4⟩:=four_blocks w (.cells #[.slice A people.length c] 26) (.cells #[.int .i64 most] 3) (.cells #[.func (.func g) #[] lb] 63) (.cells #[.func (.func 75) #[] #[.pointer (some ⟨w.heap.size,0,none⟩), .pointer (some ⟨w.heap.size+1,0,none⟩), .pointer (some ⟨w.heap.size+1+1,0,none⟩), .pointer (some ⟨w.heap.size+1+1+1,0,none⟩)]] 82)
 have hpe4:=Kd.F_below HPE.out hb4
 have hin4:=HINV.out _ hb4
 generalize (((w.alloc (.cells #[.slice A people.length c] 26)).alloc (.cells #[.int .i64 most] 3)).alloc (.cells #[.func (.func g) #[] lb] 63)).alloc (.cells #[.func (.func 75) #[] #[.pointer (some ⟨w.heap.size,0,none⟩), .pointer (some ⟨w.heap.size+1,0,none⟩), .pointer (some ⟨w.heap.size+1+1,0,none⟩), .pointer (some ⟨w.heap.size+1+1+1,0,none⟩)]] 82)=W4 at *
 have hsz:=hb4.size
 have hcall:=on_any HE HI eg people most A c (w.heap.size) (w.heap.size+1) (w.heap.size+1+1) (w.heap.size+1+1+1) hpc hpl people.length 0 s s' O W4 none 0 [] (by omega) (by omega) (by omega) hin4
  ⟨b0,b1,b2,b3,fun h=>by have:=HO.out _ h;omega,fun h=>by have:=HO.out _ h;omega,fun h=>by have:=HO.out _ h;omega,fun h=>by have:=HO.out _ h;omega,hpe4⟩ (Kd.F_nil _ _ _) (Nat.le_refl _) (by simp;omega) HFO.out
 rw[show ((0:Nat):Int)=0 from rfl,show ([]:List Int).length=0 from rfl] at hcall
 refine hcall.mono ?_
 rintro e w5 ⟨rfl,hb5,O3,hi5,hk5,ho5⟩
 go_wp2
 go_end0
 refine ⟨rfl,(hb4.mono hB).trans hb5,O3,hi5,(Kept.of_below hb4 O).then_ hk5 (fun k h => .inl h),fun k h=>?_⟩
 rcases ho5 k h with q|q
 ·
  exact .inl q
 ·
  exact .inr (by omega)
end
def OutInv (B bo:Nat) (s:List (List Int)) (W:World) (O:Nat→Prop):Prop :=
 ∃ v,W.heap[bo]? = some (.cells #[v] 22 (0,0))∧B≤bo∧Kd.S (Kd.slice 3 (Kd.int .i64)) 26 W B (fun k=>k≠bo) v s∧O=(fun k=>k=bo∨some k=v.ownBlock)
theorem OutInv.lt {B bo:Nat} (s:List (List Int)) (W:World) (O:Nat→Prop) (h:OutInv B bo s W O):∀ k,O k→B≤k∧k < W.heap.size:=by
 obtain ⟨v,hb,hB,hS,rfl⟩:=h
 rintro k (rfl|hk)
 ·
  exact ⟨hB,blk_lt hb⟩
 ·
  exact ⟨Kd.S_base hS k hk.symm,Kd.S_lt hS k hk.symm⟩
theorem OutInv.below {B bo:Nat} {s:List (List Int)} {W W1:World} {O:Nat→Prop} (h:OutInv B bo s W O) (hb:Below W.heap.size W W1):OutInv B bo s W1 O:=by
 obtain ⟨v,h1,h2,h3,h4⟩:=h
 exact ⟨v,blk_below h1 hb,h2,Kd.S_below h3 hb,h4⟩
theorem grpsF_len (m:Int):∀ (r l:List Int),(grpsF m r l).length+1≤2 ^ r.length:=by
 intro r;induction r with
 | nil=>intro l;simp[grpsF]
 | cons x r ih =>
  intro l;simp only[grpsF];split
  ·
   have h1:=ih (l ++ [x]);have h2:=ih l;simp only[List.length_cons,List.length_append,Nat.pow_succ];omega
  ·
   have:0 < 2 ^ (x :: r).length:=Nat.pow_pos (by omega);simp only[List.length_nil];omega
def LwFr (pk pn n0:Nat) (n:Int) (A0:Option Addr) (c0:Nat) (l0:List (List Int)) (m:Int) (W:World) (O:Nat→Prop):Prop :=
 (W.heap[pk]? = some (.cells #[.int .i64 n, .slice A0 l0.length c0, .int .i64 m] 29 (0,0))∧¬ O pk)∧(W.heap[pn]? = some (.cells #[.int .i64 (n0:Int)] 3 (0,0))∧¬ O pn)∧Kd.F (Kd.slice 3 (Kd.int .i64)) W (fun k=>¬ O k) A0 l0.length l0∧l0.length≤c0
theorem LwFr.turn {pk pn n0:Nat} {n:Int} {A0:Option Addr} {c0:Nat} {l0:List (List Int)} {m:Int} {w W:World} {O O':Nat→Prop} (h:LwFr pk pn n0 n A0 c0 l0 m w O) (hk:Kept w W O) (ho:∀ k,O' k→O k∨w.heap.size≤k):LwFr pk pn n0 n A0 c0 l0 m W O':=by
 obtain ⟨⟨h1,g1⟩,⟨h2,g2⟩,h3,h4⟩:=h
 refine ⟨⟨blk_kept h1 hk g1,fun q=>?_⟩,⟨blk_kept h2 hk g2,fun q=>?_⟩,Kd.F_mono (Kd.F_kept (Kd.F_bound h3) hk (fun _ q=>q.1)) (fun k q q2=>by rcases ho k q2 with q3|q3;exact q.1 q3;omega),h4⟩
 ·
  rcases ho _ q with q|q
  ·
   exact g1 q
  ·
   have:=blk_lt h1;omega
 ·
  rcases ho _ q with q|q
  ·
   exact g2 q
  ·
   have:=blk_lt h2;omega
def LwIn (B pb pf:Nat) (s:List Int × Bool) (W:World) (O:Nat→Prop):Prop :=
 ∃ v,W.heap[pb]? = some (.cells #[v] 26 (0,0))∧B≤pb∧W.heap[pf]? = some (.cells #[.bool s.2] 4 (0,0))∧B≤pf∧Kd.R (Kd.int .i64) 3 W B (fun k=>k≠pb∧k≠pf) v s.1∧O=(fun k=>k=pb∨k=pf)
theorem LwIn.below {B pb pf:Nat} {s:List Int × Bool} {W W1:World} {O:Nat→Prop} (h:LwIn B pb pf s W O) (hb:Below W.heap.size W W1):LwIn B pb pf s W1 O:=by
 obtain ⟨v,h1,h2,h3,h4,h5,h6⟩:=h
 exact ⟨v,blk_below h1 hb,h2,blk_below h3 hb,h4,Kd.R_below h5 hb,h6⟩
theorem LwIn.lt {B pb pf:Nat} (s:List Int × Bool) (W:World) (O:Nat→Prop) (h:LwIn B pb pf s W O):∀ k,O k→B≤k∧k < W.heap.size:=by
 obtain ⟨v,h1,h2,h3,h4,h5,rfl⟩:=h
 rintro k (rfl|rfl)
 ·
  exact ⟨h2,blk_lt h1⟩
 ·
  exact ⟨h4,blk_lt h3⟩
theorem LwIn.o {B pb pf:Nat} {s:List Int × Bool} {W:World} {O:Nat→Prop} (h:LwIn B pb pf s W O):O=(fun k=>k=pb∨k=pf):=h.choose_spec.2.2.2.2.2
def lwInv (B pb pf pk pn n0:Nat) (n:Int) (A0:Option Addr) (c0:Nat) (l0:List (List Int)) (m:Int) (s:List Int × Bool) (W:World) (O:Nat→Prop):Prop:=LwIn B pb pf s W O∧LwFr pk pn n0 n A0 c0 l0 m W O
def lwStep (n0:Nat) (l0:List (List Int)) (s:List Int × Bool) (l:List Int):Option (List Int × Bool):=some (if s.2=false∧l.length=n0∧coversB l0 l=true then (l,true) else s)
set_option maxHeartbeats 4000000 in
set_option maxRecDepth 100000 in
theorem lw1_each (B pb pf pk pn n0:Nat) (n:Int) (A0:Option Addr) (c0:Nat) (l0:List (List Int)) (m:Int) (h2:∀ d ∈ l0,2≤d.length):EachOk B 43 #[.pointer (some ⟨pf,0,none⟩), .pointer (some ⟨pn,0,none⟩), .pointer (some ⟨pk,0,none⟩), .pointer (some ⟨pb,0,none⟩)] (lwInv B pb pf pk pn n0 n A0 c0 l0 m) (lwStep n0 l0):=by
 intro s s' O W0 W vl l hinv hbel hR hs;obtain ⟨hin,hfr⟩:=hinv
 have HLT:=am' (LwIn.lt s W0 O hin)
 have hin:=hin.below hbel
 have hfr:=hfr.turn (O':=O) (Kept.of_below hbel O) (fun _ h => .inl h)
 obtain ⟨Al,cl,rfl,hlc,hC⟩:=Kd.R_reads hR
 obtain ⟨v,hbo,hB,hfo,hBf,hS,rfl⟩:=hin
 have hs:=Option.some.inj hs
 obtain ⟨bs,fd⟩:=s
 have HC:=am' (fun (W1:World) (hb:Below W.heap.size W W1)=>covers_any n A0 c0 l0 m Al cl l W1 (Kd.C_below (Kd.F_now hfr.2.2.1) hb) hfr.2.2.2 (Kd.C_below hC hb) hlc h2)
 have x0:W.cell? ⟨pf,0,none⟩=some (.bool fd):=(blk_cell hfo 0).trans rfl
 have x1:W.cell? ⟨pn,0,none⟩=some (.int .i64 (n0:Int)):=(blk_cell hfr.2.1.1 0).trans rfl
 have x2:W.cell? ⟨pk,0,none⟩=some (.int .i64 n):=(blk_cell hfr.1.1 0).trans rfl
 have x3:W.cell? ⟨pk,1,none⟩=some (.slice A0 l0.length c0):=(blk_cell hfr.1.1 1).trans rfl
 have x4:W.cell? ⟨pk,2,none⟩=some (.int .i64 m):=(blk_cell hfr.1.1 2).trans rfl
 have hu:=Try.underlying29
 have HNE:=am' (show pf≠pb from blk_ne hfo hbo (by decide))
 have HBO:=am' hbo
 have HFO:=am' hfo
 have HFR:=am' hfr
 have HS:=am' hS
 have HR:=am' hR
 have HBE:=am' hB
 have HBF:=am' hBf
 have HSZ:=am' hbel.size
 clear hbo hfo hfr hS hR hB hBf hbel hC hlc;have HST:=am' hs
 clear hs
 have hstay:s'=(bs,fd)→CbPost B (lwInv B pb pf pk pn n0 n A0 c0 l0 m) s' (fun k=>k=pb∨k=pf) W (.returned (.tuple #[])) W:=fun e=>by
  subst e;exact ⟨rfl,Below.refl _ _,_,⟨⟨v,HBO.out,HBE.out,HFO.out,HBF.out,HS.out,rfl⟩,HFR.out⟩,Kept.refl _ _,fun k h => .inl h⟩
 have HSTAY:=am' hstay
 clear hstay;cases fd with
 | true =>
  go_enter Try.func43,Try.ntmps43;go_wp2;go_end0
  exact HSTAY.out (by have:=HST.out;simpa using this.symm)
 | false =>
  by_cases hln:l.length=n0
  ·
   have hq1:((l.length:Int) == (n0:Int))=true:=by rw[beq_iff_eq];omega
   have hq2:decide ((l.length:Int)=(n0:Int))=true:=decide_eq_true (by omega);have hq3:((l.length:Int)=(n0:Int))=True:=eq_true (by omega);have HLN:=am' hln;clear hln;cases hcv:coversB l0 l with
   | false =>
    rw[hcv] at HC;have HCV:=am' hcv;clear hcv;go_enter Try.func43,Try.ntmps43;go_wp2_with (go_at_call 39;refine (HC.out _ (Below.refl _ _)).mono ?_;rintro e w2 ⟨rfl,hb2⟩;have HB2:=am' hb2;have y0:w2.cell? ⟨pb,0,none⟩=some v:=(blk_cell (blk_below HBO.out hb2) 0).trans rfl;have y1:=blk_frozen (blk_below HBO.out hb2) 0;have y2:(w2.setCell ⟨pb,0,none⟩ (.slice Al l.length cl)).cell? ⟨pf,0,none⟩=some (.bool false):=(blk_cell (blk_far (blk_below HFO.out hb2) (p:=⟨pb,0,none⟩) HNE.out _) 0).trans rfl;have y3:=blk_frozen (blk_far (blk_below HFO.out hb2) (p:=⟨pb,0,none⟩) HNE.out (.slice Al l.length cl)) 0;clear hb2 x0 x1 x2 x3 x4);go_end0
    obtain rfl:s'=(bs,false):=by have:=HST.out;rw[HCV.out] at this;simpa using this.symm
    have hb2:Below W.heap.size W w2:=HB2.out;have hBW:B≤W.heap.size:=by have:=HBE.out;have:=blk_lt HBO.out;omega
    exact ⟨rfl,HB2.out.mono hBW,_,⟨LwIn.below ⟨v,HBO.out,HBE.out,HFO.out,HBF.out,HS.out,rfl⟩ hb2,HFR.out.turn (Kept.of_below hb2 _) (fun _ h => .inl h)⟩,Kept.of_below hb2 _,fun k h => .inl h⟩
   | true =>
    rw[hcv] at HC;have HCV:=am' hcv;clear hcv;go_enter Try.func43,Try.ntmps43;go_wp2_with (go_at_call 39;refine (HC.out _ (Below.refl _ _)).mono ?_;rintro e w2 ⟨rfl,hb2⟩;have HB2:=am' hb2;have y0:w2.cell? ⟨pb,0,none⟩=some v:=(blk_cell (blk_below HBO.out hb2) 0).trans rfl;have y1:=blk_frozen (blk_below HBO.out hb2) 0;have y2:(w2.setCell ⟨pb,0,none⟩ (.slice Al l.length cl)).cell? ⟨pf,0,none⟩=some (.bool false):=(blk_cell (blk_far (blk_below HFO.out hb2) (p:=⟨pb,0,none⟩) HNE.out _) 0).trans rfl;have y3:=blk_frozen (blk_far (blk_below HFO.out hb2) (p:=⟨pb,0,none⟩) HNE.out (.slice Al l.length cl)) 0;clear hb2 x0 x1 x2 x3 x4);go_end0
    obtain rfl:s'=(l,true):=by have:=HST.out;simpa [HCV.out,HLN.out] using this.symm
    have hb2:Below W.heap.size W w2:=HB2.out;have hBW:B≤W.heap.size:=by have:=HBE.out;have:=blk_lt HBO.out;omega
    have hbo2:=blk_below HBO.out hb2;have hfo2:=blk_below HFO.out hb2;have hkp:Kept W ((w2.setCell ⟨pb,0,none⟩ (.slice Al l.length cl)).setCell ⟨pf,0,none⟩ (.bool true)) (fun k=>k=pb∨k=pf):=Kept.setCell (Kept.setCell (Kept.of_below hb2 _) (.inl (.inl rfl)) _) (.inl (.inr rfl)) _;have hlt:=HLT.out;refine ⟨rfl,((HB2.out.mono hBW).setCell HBE.out _).setCell HBF.out _,_,⟨⟨.slice Al l.length cl,?_,HBE.out,?_,HBF.out,?_,rfl⟩,HFR.out.turn hkp (fun _ h => .inl h)⟩,hkp,fun k h => .inl h⟩
    ·
     exact blk_far (blk_put hbo2 0 _ rfl) (p:=⟨pf,0,none⟩) (fun e=>HNE.out e.symm) _
    ·
     exact blk_put (blk_far hfo2 (p:=⟨pb,0,none⟩) HNE.out _) 0 _ rfl
    ·
     have h0:=(hlt pb (.inl rfl)).2;have h1:=(hlt pf (.inr rfl)).2;refine Kd.R_lower (Kd.R_mono (Kd.R_kept (Kd.R_bound HR.out) hkp (fun k hk q=>?_)) (fun k hk=>?_)) (by have:=(hlt pb (.inl rfl)).1;omega)
     ·
      have:=hk.2.1;rcases q with q|q <;> omega
     ·
      have:=hk.2.1;constructor <;> omega
  ·
   have hq1:((l.length:Int) == (n0:Int))=false:=by rw[beq_eq_false_iff_ne];omega
   have hq2:decide ((l.length:Int)=(n0:Int))=false:=decide_eq_false (by omega);have hq3:¬ ((l.length:Int)=(n0:Int)):=by omega
   go_enter Try.func43,Try.ntmps43;go_wp2;go_end0
   exact HSTAY.out (by have:=HST.out;rw[if_neg (fun h=>hln h.2.1)] at this;exact this.symm)
def lwLoop (l0:List (List Int)) (things:List Int):Nat→Nat→List Int × Bool→Option (List Int)
 | 0,_,_=>none
 | f+1,n,s=>if s.2=true then some s.1 else if n≤1000000 then ((grpsF (n:Int) things []).foldlM (lwStep n l0) s).bind fun s'=>lwLoop l0 things f (n+1) s' else none
def impl_LeastWatched.f (k:Nat) (a0_0:Int) (l0_1:List (List Int)) (a0_2:Int):Option (List Int × Bool) :=
 (impl_IsKeep.f k a0_0 l0_1 a0_2).bind fun t=>if t=true then (if l0_1.all (fun d=>decide (2≤d.length))=true then ((impl_allAt.f a0_0 false).bind fun st=>(impl_State_side.f k st.1 st.2 false).bind fun sd=>if sd.length≤20 then (lwLoop l0_1 sd k 1 ([],coversB l0_1 [])).bind fun b=>some (b,true) else none) else none) else some ([],false)
set_option maxHeartbeats 4000000 in
set_option maxRecDepth 100000 in
theorem impl_LeastWatched.calls (k:Nat) (a0_0:Int) (A0_1:Option Addr) (c0_1:Nat) (l0_1:List (List Int)) (a0_2:Int) (r1:List Int) (r2:Bool) (w:World) (hr0_1:Kd.C (Kd.slice 3 (Kd.int .i64)) w A0_1 l0_1.length l0_1) (hc0_1:l0_1.length≤c0_1) (h:impl_LeastWatched.f k a0_0 l0_1 a0_2=some (r1,r2)) :
  Calls Try.prog 8 #[.agg #[.int .i64 a0_0, .slice A0_1 l0_1.length c0_1, .int .i64 a0_2]] w fun e w'=>∃ v0_:Value,e = .returned (.tuple #[v0_, .bool r2])∧Kd.R (Kd.int .i64) 3 w' w.heap.size (fun _=>True) v0_ r1∧Below w.heap.size w w':=by
 have hu:=Try.underlying29
 unfold impl_LeastWatched.f at h
 obtain ⟨t,ht,h⟩:=Option.bind_eq_some_iff.mp h
 have HB0:=am' (show (w.alloc (.cells #[.int .i64 a0_0, .slice A0_1 l0_1.length c0_1, .int .i64 a0_2] 29)).heap[w.heap.size]? = _∧Below w.heap.size w (w.alloc (.cells #[.int .i64 a0_0, .slice A0_1 l0_1.length c0_1, .int .i64 a0_2] 29)) from ⟨heap_alloc_new w _,ba' (Below.refl _ _) _⟩)
 have HIK:=am' (fun (W:World) (hb:Below w.heap.size w W)=>impl_IsKeep.calls k a0_0 A0_1 c0_1 l0_1 a0_2 t W (Kd.C_below hr0_1 hb) hc0_1 ht)
 cases t with
 | false =>
  simp only[Bool.false_eq_true,if_false,Option.some.injEq,Prod.mk.injEq] at h;obtain ⟨rfl,rfl⟩:=h;clear hr0_1 ht;go_enter Try.func8,Try.ntmps8;go_wp2_with (go_at_call 24;refine (HIK.out _ HB0.out.2).mono ?_;rintro e w2 ⟨rfl,hb⟩;have HB2:=am' (below_step HB0.out.2 hb);clear hb);go_ret2
  exact ⟨_,rfl,Kd.R_nil _ _ _ _ _,HB2.out⟩
 | true =>
  simp only[if_true] at h;by_cases hall:l0_1.all (fun d=>decide (2≤d.length))=true
  ·
   rw[if_pos hall] at h;obtain ⟨⟨st1,st2⟩,hst,h⟩:=Option.bind_eq_some_iff.mp h;obtain ⟨sd,hsd,h⟩:=Option.bind_eq_some_iff.mp h;dsimp only at hsd
   by_cases hlen:sd.length≤20
   ·
    rw[if_pos hlen] at h;obtain ⟨b,hlo,h⟩:=Option.bind_eq_some_iff.mp h;simp only[Option.some.injEq,Prod.mk.injEq] at h;obtain ⟨rfl,rfl⟩:=h;have h2:∀ d ∈ l0_1,2≤d.length:=fun d hd=>by simpa using List.all_eq_true.1 hall d hd
    have HST:=am' (fun (W:World)=>impl_allAt.calls a0_0 false st1 st2 W hst);have HSD:=am' (fun (W:World) (A:Option Addr) (c:Nat) (hr:Kd.C Kd.bool W A st1.length st1) (hc:st1.length≤c)=>impl_State_side.calls k A c st1 st2 false sd W hr hc hsd);have HCV:=am' (fun (W:World) (hb:Below w.heap.size w W)=>covers_any a0_0 A0_1 c0_1 l0_1 a0_2 none 0 [] W (Kd.C_below hr0_1 hb) hc0_1 (Kd.C_nil _ _) (Nat.le_refl _) h2);have HF0:=am' (Kd.C_F (Kd.heap_slice 3 (Kd.heap_int .i64)) hr0_1);have HLO:=am' hlo;have HLEN:=am' hlen;have H2:=am' h2;clear hr0_1 hst hsd hlen hlo hall h2 ht;go_enter Try.func8,Try.ntmps8
    go_wp2_with (first
     | (go_at_call 24;refine (HIK.out _ HB0.out.2).mono ?_;rintro e w2 ⟨rfl,hb⟩;have HB2:=am' (below_step HB0.out.2 hb);have HK2:=am' (blk_below HB0.out.1 hb);have x0:w2.cell? ⟨w.heap.size,0,none⟩=some (.int .i64 a0_0):=(blk_cell HK2.out 0).trans rfl;have x1:w2.cell? ⟨w.heap.size,1,none⟩=some (.slice A0_1 l0_1.length c0_1):=(blk_cell HK2.out 1).trans rfl;have x2:w2.cell? ⟨w.heap.size,2,none⟩=some (.int .i64 a0_2):=(blk_cell HK2.out 2).trans rfl;have HN3:=am' (heap_alloc_new w2 (.cells #[] 3));have HB3:=am' (ba' HB2.out (.cells #[] 3));have HK3:=am' (ka' HK2.out (.cells #[] 3));have y0:(w2.alloc (.cells #[] 3)).cell? ⟨w.heap.size,0,none⟩=some (.int .i64 a0_0):=(blk_cell HK3.out 0).trans rfl;have y1:(w2.alloc (.cells #[] 3)).cell? ⟨w.heap.size,1,none⟩=some (.slice A0_1 l0_1.length c0_1):=(blk_cell HK3.out 1).trans rfl;have y2:(w2.alloc (.cells #[] 3)).cell? ⟨w.heap.size,2,none⟩=some (.int .i64 a0_2):=(blk_cell HK3.out 2).trans rfl;clear hb)
     | (go_at_call 39;refine (HCV.out _ HB3.out).mono ?_;rintro e w3 ⟨rfl,hb⟩;have HB4:=am' (below_step HB3.out hb);have HT:=am' (two_blocks w3 (.cells #[.slice (some ⟨w2.heap.size,0,none⟩) 0 0] 26) (.cells #[.bool (coversB l0_1 [])] 4));have HL:=am' (blk_lt (blk_below HK3.out hb));have HL2:=am' (blk_lt (blk_below HN3.out hb));have HK5:=am' (blk_below (blk_below HK3.out hb) HT.out.2.2);have HN5:=am' (blk_below (blk_below HN3.out hb) HT.out.2.2);have HB5:=am' (below_step HB4.out HT.out.2.2);have HBW:=am' HB2.out.size;clear hb x0 x1 x2 y0 y1 y2;have k0:((w3.alloc (.cells #[.slice (some ⟨w2.heap.size,0,none⟩) 0 0] 26)).alloc (.cells #[.bool (coversB l0_1 [])] 4)).cell? ⟨w.heap.size,0,none⟩=some (.int .i64 a0_0):=(blk_cell HK5.out 0).trans rfl)
     | (go_at_call 40;refine (HST.out _).mono ?_;rintro e w6 ⟨v6,rfl,hR6,hb6⟩;obtain ⟨A6,c6,rfl⟩:=Kd.R_slice hR6;have HR6:=am' hR6;have HB6:=am' hb6;clear hR6 hb6)
     | (go_at_call 41;refine (HSD.out _ A6 c6 (Kd.R_reads' HR6.out).2.2 (Kd.R_reads' HR6.out).2.1).mono ?_;rintro e w8 ⟨v8,rfl,hR8,hb8⟩;obtain ⟨A8,c8,rfl⟩:=Kd.R_slice hR8;have HR8:=am' hR8;have HB68:=am' (below_step HB6.out hb8);have HS56:=am' HB6.out.size;have HB8:=am' (below_step HB5.out HB68.out);clear hR8 hb8))
    have HBA:=am' (ba' (Below.refl w8.heap.size w8) (.cells #[.int .i64 1] 3));have HN9:=am' (heap_alloc_new w8 (.cells #[.int .i64 1] 3));have HB59:=am' (below_step HB68.out HBA.out);have HB9:=am' (below_step HB8.out HBA.out);have HK9:=am' (blk_below HK5.out HB59.out);have HE9:=am' (blk_below HN5.out HB59.out);have HP9:=am' (blk_below HT.out.1 HB59.out);have HQ9:=am' (blk_below HT.out.2.1 HB59.out);have HL8:=am' (show w3.heap.size+1 < w8.heap.size from Nat.lt_of_lt_of_le (blk_lt HT.out.2.1) HB68.out.size);have HL6:=am' (show w3.heap.size+1 < w6.heap.size from Nat.lt_of_lt_of_le (blk_lt HT.out.2.1) HS56.out);have HF8:=am' (show Kd.F (Kd.int .i64) w8 (fun k=>¬ (k=w3.heap.size∨k=w3.heap.size+1)) A8 sd.length sd from Kd.F_mono (Kd.R_F (Kd.R_bound HR8.out)) (fun k hk q=>by have h1:=hk.2.1;have h2:=HL6.out;omega));have HF9:=am' (Kd.F_below HF8.out HBA.out);have HFK:=am' (Kd.F_mono (Kd.F_below HF0.out HB9.out) (fun k hk=>show ¬ (k=w3.heap.size∨k=w3.heap.size+1) from fun q=>by have h1:=HL.out;omega));have HC8:=am' (Kd.R_reads' HR8.out).2.1;have HLW:=am' (show w.heap.size < w3.heap.size from HL.out);have HW2:=am' (show w2.heap.size < w3.heap.size from HL2.out);have HZ8:=am' (Nat.le_trans HB8.out.size (Nat.le_refl _));clear k0 HB68 HB6 HR6 HST HSD HIK HCV HR8;go_loopg [7] k (fun gg s7 wr=>∃ (pn n0 f:Nat) (s:List Int × Bool),s7 = .pointer (some ⟨pn,0,none⟩)∧f≤gg∧Aside0 (lwLoop l0_1 sd f n0 s=some b)∧Aside0 (LwIn w.heap.size w3.heap.size (w3.heap.size+1) s wr (fun k=>k=w3.heap.size∨k=w3.heap.size+1))∧Aside0 (LwFr w.heap.size pn n0 a0_0 A0_1 c0_1 l0_1 a0_2 wr (fun k=>k=w3.heap.size∨k=w3.heap.size+1))∧Aside0 (Kd.F (Kd.int .i64) wr (fun k=>¬ (k=w3.heap.size∨k=w3.heap.size+1)) A8 sd.length sd)∧Aside0 (Below w.heap.size w wr))
    case atStart=>exact ⟨w8.heap.size,1,k,([],coversB l0_1 []),rfl,Nat.le_refl _,HLO,⟨⟨_,HP9.out,by have:=HLW.out;omega,HQ9.out,by have:=HLW.out;omega,Kd.S_R (S_empty (Kd.int .i64) HE9.out (by have:=HBW.out;omega) (by have:=HW2.out;constructor <;> omega)),rfl⟩⟩,⟨⟨HK9.out,fun q=>by have:=HLW.out;omega⟩,⟨HN9.out,fun q=>by have:=HL8.out;omega⟩,HFK.out,hc0_1⟩,HF9,HB9⟩
    case round =>
     obtain ⟨pn,n0,f,s,rfl,hf,HLP,HI,HFR,HFS,HBB⟩:=hrel;clear HF9 HFK HF8 HP9 HQ9 HE9 HN9 HK9 HB9 HB59 HBA;obtain ⟨bs,fd⟩:=s;obtain ⟨v,hv,hB,hq,hBf,hR,_⟩:=HI.out;have x0:wr.cell? ⟨w3.heap.size+1,0,none⟩=some (.bool fd):=(blk_cell hq 0).trans rfl;have x1:wr.cell? ⟨w3.heap.size,0,none⟩=some v:=(blk_cell hv 0).trans rfl;have HRV:=am' hR;clear hv hB hq hBf hR;cases f with
     | zero=>exact absurd HLP.out (by simp[lwLoop])
     | succ f =>
      have hlp:=HLP.out;rw[lwLoop] at hlp;cases fd with
      | true =>
       rw[if_pos rfl] at hlp;obtain rfl:bs=b:=Option.some.inj hlp;go_wp2;go_ret2
       exact ⟨_,rfl,Kd.R_mono HRV.out (fun _ _=>trivial),HBB.out⟩
      | false =>
       rw[if_neg (by simp)] at hlp;by_cases hn:n0≤1000000
       ·
        rw[if_pos hn] at hlp;obtain ⟨s',hfo,hlp⟩:=Option.bind_eq_some_iff.mp hlp;have HLP2:=am' hlp;have HFO:=am' hfo;have HGN:=am' hn;clear hlp hfo hn HLP;have x2:wr.cell? ⟨pn,0,none⟩=some (.int .i64 (n0:Int)):=(blk_cell HFR.out.2.1.1 0).trans rfl;go_wp2_with (go_at_call 42;refine (groups_any (lw1_each w.heap.size w3.heap.size (w3.heap.size+1) w.heap.size pn n0 a0_0 A0_1 c0_1 l0_1 a0_2 H2.out) (fun s W O h=>LwIn.lt s W O h.1) (enters_of Try.func43 (by kernel_rfl) rfl) sd (n0:Int) A8 c8 HC8.out (by have:=HLEN.out;omega) (bs,false) s' (fun k=>k=w3.heap.size∨k=w3.heap.size+1) wr HBB.out.size (fun W hb=>⟨HI.out.below hb,HFR.out.turn (Kept.of_below hb _) (fun _ h => .inl h)⟩) HFS.out HFO.out).mono ?_;rintro e w5 ⟨rfl,hb5,O5,⟨hi5,hfr5⟩,hk5,ho5⟩;have e5:=LwIn.o hi5;subst e5;have HI5:=am' hi5;have HFR5:=am' hfr5;have HB5':=am' (HBB.out.trans hb5);have HFS5:=am' (F_turn HFS.out hk5 ho5);have y0:w5.cell? ⟨pn,0,none⟩=some (.int .i64 (n0:Int)):=(blk_cell hfr5.2.1.1 0).trans rfl;have HNW:=am' (heap_alloc_new w5 (.cells #[.int .i64 (n0:Int)] 3));have y1:(w5.alloc (.cells #[.int .i64 (n0:Int)] 3)).cell? ⟨w5.heap.size,0,none⟩=some (.int .i64 (n0:Int)):=(blk_cell HNW.out 0).trans rfl;have y2:=blk_frozen HNW.out 0;clear hb5 hi5 hfr5 hk5 ho5 x0 x1 x2);go_roundg f
        case measure=>omega
        case rel =>
         have hb6:Below w5.heap.size w5 (w5.alloc (.cells #[.int .i64 (wrap64 ((n0:Int)+1))] 3)):=ba' (Below.refl _ _) _;have e1:wrap64 ((n0:Int)+1)=((n0+1:Nat):Int):=by have:=HGN.out;rw[wr_id (by omega) (by omega)];rfl
         have hlt:=LwIn.lt _ _ _ HI5.out;refine ⟨w5.heap.size,n0+1,f,s',rfl,Nat.le_refl _,HLP2,⟨HI5.out.below hb6⟩,⟨⟨blk_below HFR5.out.1.1 hb6,HFR5.out.1.2⟩,⟨?_,fun q=>?_⟩,Kd.F_below HFR5.out.2.2.1 hb6,HFR5.out.2.2.2⟩,⟨Kd.F_below HFS5.out hb6⟩,⟨below_step HB5'.out hb6⟩⟩
         ·
          rw[← e1];exact heap_alloc_new _ _
         ·
          rcases q with q|q
          ·
           have:=(hlt _ (.inl q)).2;omega
          ·
           have:=(hlt _ (.inr q)).2;omega
       ·
        rw[if_neg hn] at hlp;cases hlp
   ·
    rw[if_neg hlen] at h;cases h
  ·
   rw[if_neg hall] at h;cases h
def laws_eqIntS.l0:Nat→List Int→List Int→Int→Option (Bool)
 | 0,_,_,_=>none
 | k+1,x0,x1,x5=>if x5 < (x0.length:Int) then (if 0≤x5 then (if x5 < (x1.length:Int) then (if (rd x0 x5)=(rd x1 x5) then (laws_eqIntS.l0 k x0 x1 (wrap64 (x5+1))) else (some false)) else (none)) else (none)) else (some true)
def laws_eqIntS.f (k:Nat) (l0:List Int) (l1:List Int):Option (Bool):=if (l0.length:Int)=(l1.length:Int) then (laws_eqIntS.l0 k l0 l1 0) else (some false)
set_option maxHeartbeats 8000000 in
set_option maxRecDepth 100000 in
theorem laws_eqIntS.calls (k:Nat) (A0:Option Addr) (c0:Nat) (l0:List Int) (A1:Option Addr) (c1:Nat) (l1:List Int) (r:Bool) (w:World) (hr0:Kd.C (Kd.int .i64) w A0 l0.length l0) (hc0:l0.length≤c0) (hr1:Kd.C (Kd.int .i64) w A1 l1.length l1) (hc1:l1.length≤c1) (h:laws_eqIntS.f k l0 l1=some r) :
  Calls Try.prog 9 #[.slice A0 l0.length c0, .slice A1 l1.length c1] w fun e w'=>e = .returned (.bool r)∧Drawn0 w w':=by
 have HR0:=am' hr0
 have HC0:=am' hc0
 clear hr0 hc0;have HR1:=am' hr1
 have HC1:=am' hc1
 clear hr1 hc1;have H:(if (l0.length:Int)=(l1.length:Int) then (laws_eqIntS.l0 k l0 l1 0) else (some false))=some r:=h
 clear h;by_cases c3:(l0.length:Int)=(l1.length:Int)
 ·
  rw[if_pos c3] at H;have c3b0:((l0.length:Int) == (l1.length:Int))=true:=beq_iff_eq.mpr c3;have c3b1:((l0.length:Int) != (l1.length:Int))=false:=bne_eq_false_iff_eq.mpr c3;have c3b2:(l0.length == l1.length)=true:=by first|simpa using c3|(simp at c3 ⊢;omega)
  clear c3;have H':=am' H;clear H;go_enter Try.func9,Try.ntmps9;go_wp2
  repeat (go_quiet (fail);try go_wp2)
  go_loopg [5] k (fun kq v5 w'=>∃ (x5_1:Int),v5 = .int .i64 x5_1∧Aside0 (laws_eqIntS.l0 kq l0 l1 x5_1=some r)∧Aside0 (kq≤k)∧Drawn0 w w')
  case atStart=>exact ⟨(0),(by first|rfl|(simp;done)|(simp[*];done)),H',⟨Nat.le_refl _⟩,by repeat (first|exact Drawn0.refl _|apply Drawn0.step)⟩
  case round =>
   clear H';try clear c1
   try clear p2
   try clear c3
   try clear c3b0
   try clear c3b1
   try clear c3b2
   obtain ⟨x5_1,rfl,HA,HK1,⟨m1,rfl⟩⟩:=hrel;cases gk with
   | zero=>exact absurd HA.out (by simp[laws_eqIntS.l0])
   | succ k1 =>
    have H:=HA.out;clear HA;simp only[laws_eqIntS.l0] at H;by_cases c4:x5_1 < (l0.length:Int)
    ·
     rw[if_pos c4] at H;have c4b0:decide (x5_1 < (l0.length:Int))=true:=decide_eq_true c4;clear c4;by_cases c5:0≤x5_1
     ·
      rw[if_pos c5] at H;have c5b0:decide (0≤x5_1)=true:=decide_eq_true c5;clear c5;by_cases c6:x5_1 < (l1.length:Int)
      ·
       rw[if_pos c6] at H;have c6b0:decide (x5_1 < (l1.length:Int))=true:=decide_eq_true c6;clear c6;by_cases c7:(rd l0 x5_1)=(rd l1 x5_1)
       ·
        rw[if_pos c7] at H;have c7b0:((rd l0 x5_1) == (rd l1 x5_1))=true:=beq_iff_eq.mpr c7;have c7b1:((rd l0 x5_1) != (rd l1 x5_1))=false:=bne_eq_false_iff_eq.mpr c7;clear c7;have H':=am' H;clear H;have p203:0≤(x5_1:Int):=of_decide_eq_true (by first|(with_reducible assumption)|assumption);have q203:x5_1 < (l0.length:Int):=of_decide_eq_true (by first|(with_reducible assumption)|assumption);obtain ⟨ad203,e203,hx203_0⟩:=Kd.at_int HR0.out x5_1 p203 q203;cases e203;replace p203:=eq_true p203;replace q203:=eq_true q203;have p204:0≤(x5_1:Int):=of_decide_eq_true (by first|(with_reducible assumption)|assumption);have q204:x5_1 < (l1.length:Int):=of_decide_eq_true (by first|(with_reducible assumption)|assumption);obtain ⟨ad204,e204,hx204_0⟩:=Kd.at_int HR1.out x5_1 p204 q204;cases e204;replace p204:=eq_true p204;replace q204:=eq_true q204;go_wp2
        repeat (go_quiet (fail);try go_wp2)
        go_roundg k1
        case measure=>have:=HK1.out;omega
        case rel=>exact ⟨(wrap64 (x5_1+1)),(by first|rfl|(simp;done)|(simp[*];done)),H',⟨by have:=HK1.out;omega⟩,by repeat (first|exact Drawn0.refl _|apply Drawn0.step)⟩
       ·
        rw[if_neg c7] at H;have c7b0:((rd l0 x5_1) == (rd l1 x5_1))=false:=beq_eq_false_iff_ne.mpr c7;have c7b1:((rd l0 x5_1) != (rd l1 x5_1))=true:=bne_iff_ne.mpr c7;obtain rfl:=Option.some.inj H;have p203:0≤(x5_1:Int):=of_decide_eq_true (by first|(with_reducible assumption)|assumption);have q203:x5_1 < (l0.length:Int):=of_decide_eq_true (by first|(with_reducible assumption)|assumption);obtain ⟨ad203,e203,hx203_0⟩:=Kd.at_int HR0.out x5_1 p203 q203;cases e203;replace p203:=eq_true p203;replace q203:=eq_true q203;have p204:0≤(x5_1:Int):=of_decide_eq_true (by first|(with_reducible assumption)|assumption);have q204:x5_1 < (l1.length:Int):=of_decide_eq_true (by first|(with_reducible assumption)|assumption);obtain ⟨ad204,e204,hx204_0⟩:=Kd.at_int HR1.out x5_1 p204 q204;cases e204;replace p204:=eq_true p204;replace q204:=eq_true q204;go_wp2
        repeat (go_quiet (fail);try go_wp2)
        go_ret
        exact ⟨by first|rfl|(simp;done)|(simp[*];done),by repeat (first|exact Drawn0.refl _|apply Drawn0.step)⟩
      ·
       rw[if_neg c6] at H;exact absurd H (by simp)
     ·
      rw[if_neg c5] at H;exact absurd H (by simp)
    ·
     rw[if_neg c4] at H;have c4b0:decide (x5_1 < (l0.length:Int))=false:=decide_eq_false c4;clear c4;obtain rfl:=Option.some.inj H;go_wp2
     repeat (go_quiet (fail);try go_wp2)
     go_ret
     exact ⟨by first|rfl|(simp;done)|(simp[*];done),by repeat (first|exact Drawn0.refl _|apply Drawn0.step)⟩
 ·
  rw[if_neg c3] at H;have c3b0:((l0.length:Int) == (l1.length:Int))=false:=beq_eq_false_iff_ne.mpr c3;have c3b1:((l0.length:Int) != (l1.length:Int))=true:=bne_iff_ne.mpr c3;have c3b2:(l0.length == l1.length)=false:=by first|simpa using c3|(simp at c3 ⊢;omega)
  obtain rfl:=Option.some.inj H;go_enter Try.func9,Try.ntmps9;go_wp2
  repeat (go_quiet (fail);try go_wp2)
  go_ret
  exact ⟨by first|rfl|(simp;done)|(simp[*];done),by repeat (first|exact Drawn0.refl _|apply Drawn0.step)⟩
def laws_eqIntSS.l0:Nat→List (List Int)→List (List Int)→Int→Option (Bool)
 | 0,_,_,_=>none
 | k+1,x0,x1,x5=>if x5 < (x0.length:Int) then (if 0≤x5 then (if x5 < (x1.length:Int) then ((laws_eqIntS.f k (rd_L1 x0 x5) (rd_L1 x1 x5)).bind fun t207=>(if t207=true then (laws_eqIntSS.l0 k x0 x1 (wrap64 (x5+1))) else (some false))) else (none)) else (none)) else (some true)
def laws_eqIntSS.f (k:Nat) (l0:List (List Int)) (l1:List (List Int)):Option (Bool):=if (l0.length:Int)=(l1.length:Int) then (laws_eqIntSS.l0 k l0 l1 0) else (some false)
set_option maxHeartbeats 8000000 in
set_option maxRecDepth 100000 in
theorem laws_eqIntSS.calls (k:Nat) (A0:Option Addr) (c0:Nat) (l0:List (List Int)) (A1:Option Addr) (c1:Nat) (l1:List (List Int)) (r:Bool) (w:World) (hr0:Kd.C (Kd.slice 3 (Kd.int .i64)) w A0 l0.length l0) (hc0:l0.length≤c0) (hr1:Kd.C (Kd.slice 3 (Kd.int .i64)) w A1 l1.length l1) (hc1:l1.length≤c1) (h:laws_eqIntSS.f k l0 l1=some r) :
  Calls Try.prog 44 #[.slice A0 l0.length c0, .slice A1 l1.length c1] w fun e w'=>e = .returned (.bool r)∧Drawn0 w w':=by
 have HR0:=am' hr0
 have HC0:=am' hc0
 clear hr0 hc0;have HR1:=am' hr1
 have HC1:=am' hc1
 clear hr1 hc1;have H:(if (l0.length:Int)=(l1.length:Int) then (laws_eqIntSS.l0 k l0 l1 0) else (some false))=some r:=h
 clear h;by_cases c3:(l0.length:Int)=(l1.length:Int)
 ·
  rw[if_pos c3] at H;have c3b0:((l0.length:Int) == (l1.length:Int))=true:=beq_iff_eq.mpr c3;have c3b1:((l0.length:Int) != (l1.length:Int))=false:=bne_eq_false_iff_eq.mpr c3;have c3b2:(l0.length == l1.length)=true:=by first|simpa using c3|(simp at c3 ⊢;omega)
  clear c3;have H':=am' H;clear H;go_enter Try.func44,Try.ntmps44;go_wp2
  repeat (go_quiet (fail);try go_wp2)
  go_loopg [5] k (fun kq v5 w'=>∃ (x5_1:Int),v5 = .int .i64 x5_1∧Aside0 (laws_eqIntSS.l0 kq l0 l1 x5_1=some r)∧Aside0 (kq≤k)∧Drawn0 w w')
  case atStart=>exact ⟨(0),(by first|rfl|(simp;done)|(simp[*];done)),H',⟨Nat.le_refl _⟩,by repeat (first|exact Drawn0.refl _|apply Drawn0.step)⟩
  case round =>
   clear H';try clear c1
   try clear p2
   try clear c3
   try clear c3b0
   try clear c3b1
   try clear c3b2
   obtain ⟨x5_1,rfl,HA,HK1,⟨m1,rfl⟩⟩:=hrel;cases gk with
   | zero=>exact absurd HA.out (by simp[laws_eqIntSS.l0])
   | succ k1 =>
    have H:=HA.out;clear HA;simp only[laws_eqIntSS.l0] at H;by_cases c4:x5_1 < (l0.length:Int)
    ·
     rw[if_pos c4] at H;have c4b0:decide (x5_1 < (l0.length:Int))=true:=decide_eq_true c4;clear c4;by_cases c5:0≤x5_1
     ·
      rw[if_pos c5] at H;have c5b0:decide (0≤x5_1)=true:=decide_eq_true c5;clear c5;by_cases c6:x5_1 < (l1.length:Int)
      ·
       rw[if_pos c6] at H;have c6b0:decide (x5_1 < (l1.length:Int))=true:=decide_eq_true c6;clear c6;replace H:=Option.bind_eq_some_iff.mp H;obtain ⟨t207,A70,H⟩:=H;replace H:(if t207=true then (laws_eqIntSS.l0 k1 l0 l1 (wrap64 (x5_1+1))) else (some false))=some r:=H;have A7:=am' A70;clear A70;by_cases c8:t207=true
       ·
        subst c8;have H1:(laws_eqIntSS.l0 k1 l0 l1 (wrap64 (x5_1+1)))=some r:=by rw[if_pos rfl] at H;exact H
        clear H;have H:=H1;clear H1;have H':=am' H;clear H;have p205:0≤(x5_1:Int):=of_decide_eq_true (by first|(with_reducible assumption)|assumption);have q205:x5_1 < (l0.length:Int):=of_decide_eq_true (by first|(with_reducible assumption)|assumption);obtain ⟨ad205,A205_0,c205_0,e205,hx205_0,hl205_0,hi205_0⟩:=at_L1 HR0.out x5_1 p205 q205;cases e205;have HR205_0:=am' hi205_0;have HC205_0:=am' hl205_0;clear hi205_0 hl205_0;replace p205:=eq_true p205;replace q205:=eq_true q205;have p206:0≤(x5_1:Int):=of_decide_eq_true (by first|(with_reducible assumption)|assumption);have q206:x5_1 < (l1.length:Int):=of_decide_eq_true (by first|(with_reducible assumption)|assumption);obtain ⟨ad206,A206_0,c206_0,e206,hx206_0,hl206_0,hi206_0⟩:=at_L1 HR1.out x5_1 p206 q206;cases e206;have HR206_0:=am' hi206_0;have HC206_0:=am' hl206_0;clear hi206_0 hl206_0;replace p206:=eq_true p206;replace q206:=eq_true q206;go_wp2_with (first|(go_at_call 9;(with_reducible refine (laws_eqIntS.calls k1 _ _ (rd_L1 l0 x5_1) _ _ (rd_L1 l1 x5_1) true _ ?side1 ?side2 ?side3 ?side4 A7.out).mono ?_);(case side1=>repeat (first|exact HR205_0.out|(with_reducible refine ca' ?_ _)|(with_reducible refine cn' ?_ _)|(with_reducible refine cd' ?_)));(case side2=>exact HC205_0.out);(case side3=>repeat (first|exact HR206_0.out|(with_reducible refine ca' ?_ _)|(with_reducible refine cn' ?_ _)|(with_reducible refine cd' ?_)));(case side4=>exact HC206_0.out);rintro e w' ⟨rfl,⟨nd,rfl⟩⟩;(try first|exact ⟨rfl,_,World.drewN_drewN _ _ _⟩|exact ⟨rfl,_,Eq.trans (World.drewN_drewN _ _ _) (congrArg (World.drewN _) (Nat.add_assoc _ _ _))⟩)))
        repeat (go_quiet (first|(go_at_call 9;(with_reducible refine (laws_eqIntS.calls k1 _ _ (rd_L1 l0 x5_1) _ _ (rd_L1 l1 x5_1) true _ ?side1 ?side2 ?side3 ?side4 A7.out).mono ?_);(case side1=>repeat (first|exact HR205_0.out|(with_reducible refine ca' ?_ _)|(with_reducible refine cn' ?_ _)|(with_reducible refine cd' ?_)));(case side2=>exact HC205_0.out);(case side3=>repeat (first|exact HR206_0.out|(with_reducible refine ca' ?_ _)|(with_reducible refine cn' ?_ _)|(with_reducible refine cd' ?_)));(case side4=>exact HC206_0.out);rintro e w' ⟨rfl,⟨nd,rfl⟩⟩;(try first|exact ⟨rfl,_,World.drewN_drewN _ _ _⟩|exact ⟨rfl,_,Eq.trans (World.drewN_drewN _ _ _) (congrArg (World.drewN _) (Nat.add_assoc _ _ _))⟩)));try go_wp2_with (first|(go_at_call 9;(with_reducible refine (laws_eqIntS.calls k1 _ _ (rd_L1 l0 x5_1) _ _ (rd_L1 l1 x5_1) true _ ?side1 ?side2 ?side3 ?side4 A7.out).mono ?_);(case side1=>repeat (first|exact HR205_0.out|(with_reducible refine ca' ?_ _)|(with_reducible refine cn' ?_ _)|(with_reducible refine cd' ?_)));(case side2=>exact HC205_0.out);(case side3=>repeat (first|exact HR206_0.out|(with_reducible refine ca' ?_ _)|(with_reducible refine cn' ?_ _)|(with_reducible refine cd' ?_)));(case side4=>exact HC206_0.out);rintro e w' ⟨rfl,⟨nd,rfl⟩⟩;(try first|exact ⟨rfl,_,World.drewN_drewN _ _ _⟩|exact ⟨rfl,_,Eq.trans (World.drewN_drewN _ _ _) (congrArg (World.drewN _) (Nat.add_assoc _ _ _))⟩))))
        go_roundg k1
        case measure=>have:=HK1.out;omega
        case rel=>exact ⟨(wrap64 (x5_1+1)),(by first|rfl|(simp;done)|(simp[*];done)),H',⟨by have:=HK1.out;omega⟩,by repeat (first|exact Drawn0.refl _|apply Drawn0.step)⟩
       ·
        replace c8:=Bool.eq_false_iff.mpr c8;subst c8;have H1:(some false)=some r:=by rw[if_neg (show ¬ (false=true) by decide)] at H;exact H
        clear H;have H:=H1;clear H1;obtain rfl:=Option.some.inj H;have p205:0≤(x5_1:Int):=of_decide_eq_true (by first|(with_reducible assumption)|assumption);have q205:x5_1 < (l0.length:Int):=of_decide_eq_true (by first|(with_reducible assumption)|assumption);obtain ⟨ad205,A205_0,c205_0,e205,hx205_0,hl205_0,hi205_0⟩:=at_L1 HR0.out x5_1 p205 q205;cases e205;have HR205_0:=am' hi205_0;have HC205_0:=am' hl205_0;clear hi205_0 hl205_0;replace p205:=eq_true p205;replace q205:=eq_true q205;have p206:0≤(x5_1:Int):=of_decide_eq_true (by first|(with_reducible assumption)|assumption);have q206:x5_1 < (l1.length:Int):=of_decide_eq_true (by first|(with_reducible assumption)|assumption);obtain ⟨ad206,A206_0,c206_0,e206,hx206_0,hl206_0,hi206_0⟩:=at_L1 HR1.out x5_1 p206 q206;cases e206;have HR206_0:=am' hi206_0;have HC206_0:=am' hl206_0;clear hi206_0 hl206_0;replace p206:=eq_true p206;replace q206:=eq_true q206;go_wp2_with (first|(go_at_call 9;(with_reducible refine (laws_eqIntS.calls k1 _ _ (rd_L1 l0 x5_1) _ _ (rd_L1 l1 x5_1) false _ ?side1 ?side2 ?side3 ?side4 A7.out).mono ?_);(case side1=>repeat (first|exact HR205_0.out|(with_reducible refine ca' ?_ _)|(with_reducible refine cn' ?_ _)|(with_reducible refine cd' ?_)));(case side2=>exact HC205_0.out);(case side3=>repeat (first|exact HR206_0.out|(with_reducible refine ca' ?_ _)|(with_reducible refine cn' ?_ _)|(with_reducible refine cd' ?_)));(case side4=>exact HC206_0.out);rintro e w' ⟨rfl,⟨nd,rfl⟩⟩;(try first|exact ⟨rfl,_,World.drewN_drewN _ _ _⟩|exact ⟨rfl,_,Eq.trans (World.drewN_drewN _ _ _) (congrArg (World.drewN _) (Nat.add_assoc _ _ _))⟩)))
        repeat (go_quiet (first|(go_at_call 9;(with_reducible refine (laws_eqIntS.calls k1 _ _ (rd_L1 l0 x5_1) _ _ (rd_L1 l1 x5_1) false _ ?side1 ?side2 ?side3 ?side4 A7.out).mono ?_);(case side1=>repeat (first|exact HR205_0.out|(with_reducible refine ca' ?_ _)|(with_reducible refine cn' ?_ _)|(with_reducible refine cd' ?_)));(case side2=>exact HC205_0.out);(case side3=>repeat (first|exact HR206_0.out|(with_reducible refine ca' ?_ _)|(with_reducible refine cn' ?_ _)|(with_reducible refine cd' ?_)));(case side4=>exact HC206_0.out);rintro e w' ⟨rfl,⟨nd,rfl⟩⟩;(try first|exact ⟨rfl,_,World.drewN_drewN _ _ _⟩|exact ⟨rfl,_,Eq.trans (World.drewN_drewN _ _ _) (congrArg (World.drewN _) (Nat.add_assoc _ _ _))⟩)));try go_wp2_with (first|(go_at_call 9;(with_reducible refine (laws_eqIntS.calls k1 _ _ (rd_L1 l0 x5_1) _ _ (rd_L1 l1 x5_1) false _ ?side1 ?side2 ?side3 ?side4 A7.out).mono ?_);(case side1=>repeat (first|exact HR205_0.out|(with_reducible refine ca' ?_ _)|(with_reducible refine cn' ?_ _)|(with_reducible refine cd' ?_)));(case side2=>exact HC205_0.out);(case side3=>repeat (first|exact HR206_0.out|(with_reducible refine ca' ?_ _)|(with_reducible refine cn' ?_ _)|(with_reducible refine cd' ?_)));(case side4=>exact HC206_0.out);rintro e w' ⟨rfl,⟨nd,rfl⟩⟩;(try first|exact ⟨rfl,_,World.drewN_drewN _ _ _⟩|exact ⟨rfl,_,Eq.trans (World.drewN_drewN _ _ _) (congrArg (World.drewN _) (Nat.add_assoc _ _ _))⟩))))
        go_ret
        exact ⟨by first|rfl|(simp;done)|(simp[*];done),by repeat (first|exact Drawn0.refl _|apply Drawn0.step)⟩
      ·
       rw[if_neg c6] at H;exact absurd H (by simp)
     ·
      rw[if_neg c5] at H;exact absurd H (by simp)
    ·
     rw[if_neg c4] at H;have c4b0:decide (x5_1 < (l0.length:Int))=false:=decide_eq_false c4;clear c4;obtain rfl:=Option.some.inj H;go_wp2
     repeat (go_quiet (fail);try go_wp2)
     go_ret
     exact ⟨by first|rfl|(simp;done)|(simp[*];done),by repeat (first|exact Drawn0.refl _|apply Drawn0.step)⟩
 ·
  rw[if_neg c3] at H;have c3b0:((l0.length:Int) == (l1.length:Int))=false:=beq_eq_false_iff_ne.mpr c3;have c3b1:((l0.length:Int) != (l1.length:Int))=true:=bne_iff_ne.mpr c3;have c3b2:(l0.length == l1.length)=false:=by first|simpa using c3|(simp at c3 ⊢;omega)
  obtain rfl:=Option.some.inj H;go_enter Try.func44,Try.ntmps44;go_wp2
  repeat (go_quiet (fail);try go_wp2)
  go_ret
  exact ⟨by first|rfl|(simp;done)|(simp[*];done),by repeat (first|exact Drawn0.refl _|apply Drawn0.step)⟩
def laws_eqKeep.f (k:Nat) (a0_0:Int) (l0_1:List (List Int)) (a0_2:Int) (a1_0:Int) (l1_1:List (List Int)) (a1_2:Int):Option (Bool):=if a0_0=a1_0 then ((laws_eqIntSS.f k l0_1 l1_1).bind fun t210=>(if t210=true then (if a0_2=a1_2 then (some true) else (some false)) else (some false))) else (some false)
set_option maxHeartbeats 8000000 in
set_option maxRecDepth 100000 in
theorem laws_eqKeep.calls (k:Nat) (a0_0:Int) (A0_1:Option Addr) (c0_1:Nat) (l0_1:List (List Int)) (a0_2:Int) (a1_0:Int) (A1_1:Option Addr) (c1_1:Nat) (l1_1:List (List Int)) (a1_2:Int) (r:Bool) (w:World) (hr0_1:Kd.C (Kd.slice 3 (Kd.int .i64)) w A0_1 l0_1.length l0_1) (hc0_1:l0_1.length≤c0_1) (hr1_1:Kd.C (Kd.slice 3 (Kd.int .i64)) w A1_1 l1_1.length l1_1) (hc1_1:l1_1.length≤c1_1) (h:laws_eqKeep.f k a0_0 l0_1 a0_2 a1_0 l1_1 a1_2=some r) :
  Calls Try.prog 10 #[.agg #[.int .i64 a0_0, .slice A0_1 l0_1.length c0_1, .int .i64 a0_2], .agg #[.int .i64 a1_0, .slice A1_1 l1_1.length c1_1, .int .i64 a1_2]] w fun e w'=>e = .returned (.bool r)∧Below w.heap.size w w':=by
 have hu29:=Try.underlying29
 have HR0_1:=am' hr0_1
 have HC0_1:=am' hc0_1
 clear hr0_1 hc0_1;have HR1_1:=am' hr1_1
 have HC1_1:=am' hc1_1
 clear hr1_1 hc1_1;have HB:=am' (Below.refl w.heap.size w)
 have H:(if a0_0=a1_0 then ((laws_eqIntSS.f k l0_1 l1_1).bind fun t210=>(if t210=true then (if a0_2=a1_2 then (some true) else (some false)) else (some false))) else (some false))=some r:=h
 clear h;by_cases c3:a0_0=a1_0
 ·
  rw[if_pos c3] at H;have c3b0:(a0_0 == a1_0)=true:=beq_iff_eq.mpr c3;have c3b1:(a0_0 != a1_0)=false:=bne_eq_false_iff_eq.mpr c3;clear c3;replace H:=Option.bind_eq_some_iff.mp H;obtain ⟨t210,A40,H⟩:=H;replace H:(if t210=true then (if a0_2=a1_2 then (some true) else (some false)) else (some false))=some r:=H;have A4:=am' A40;clear A40;by_cases c5:t210=true
  ·
   subst c5;have H1:(if a0_2=a1_2 then (some true) else (some false))=some r:=by rw[if_pos rfl] at H;exact H
   clear H;have H:=H1;clear H1;by_cases c6:a0_2=a1_2
   ·
    rw[if_pos c6] at H;have c6b0:(a0_2 == a1_2)=true:=beq_iff_eq.mpr c6;have c6b1:(a0_2 != a1_2)=false:=bne_eq_false_iff_eq.mpr c6;clear c6;obtain rfl:=Option.some.inj H;go_enter Try.func10,Try.ntmps10;go_wp2_with (first|((with_reducible refine gate_dst (N:=2) rfl ?_);refine box_event ?hg (N:=2) ?hd (cs:=#[.int .i64 a0_0, .slice A0_1 l0_1.length c0_1, .int .i64 a0_2]) (t:=29) ?hr ?_;(case hd=>rfl);(case hg=>rfl);(case hr=>first|(go_simp;done)|(go_simp;rfl));intro gb208 hg w7 hbox hb;have n0_:=am' (below_step (by repeat (first|(with_reducible first|exact HB.out|apply ba'|apply bd'|apply be')|exact HB.out)) hb);have n1_:=am' (hbox);have n2_:=am' ((by rw[hg];exact (below_size (by repeat (first|(with_reducible first|exact HB.out|apply ba'|apply bd'|apply be')|exact HB.out))):w.heap.size≤gb208));have n3_:=am' ((by rw[hg];exact (below_size (by repeat (first|(with_reducible first|exact HB.out|apply ba'|apply bd'|apply be')|exact HB.out))):w.heap.size≤gb208));clear HB;have HB:=n0_;have BK208:=n1_;have GW208:=n2_;have GE208:=n3_;clear n0_ n1_ n2_ n3_;clear hb hbox hg)|((with_reducible refine gate_dst (N:=3) rfl ?_);refine box_event ?hg (N:=3) ?hd (cs:=#[.int .i64 a1_0, .slice A1_1 l1_1.length c1_1, .int .i64 a1_2]) (t:=29) ?hr ?_;(case hd=>rfl);(case hg=>rfl);(case hr=>first|(go_simp;done)|(go_simp;rfl));intro gb209 hg w8 hbox hb;have n0_:=am' (blk_below (g:=gb208) (o := .cells #[.int .i64 a0_0, .slice A0_1 l0_1.length c0_1, .int .i64 a0_2] 29 (0,0)) (by (with_reducible repeat (first|refine kn' ?_ _|refine kd' ?_|refine ka' ?_ _));exact BK208.out) hb);have n1_:=am' (below_step (by repeat (first|(with_reducible first|exact HB.out|apply ba'|apply bd'|apply be'|refine bs' ?_ GE208.out)|exact HB.out)) hb);have n2_:=am' (hbox);have n3_:=am' ((by rw[hg];exact (below_size (by repeat (first|(with_reducible first|exact HB.out|apply ba'|apply bd'|apply be'|refine bs' ?_ GE208.out)|exact HB.out))):w.heap.size≤gb209));have n4_:=am' ((by rw[hg];exact (below_size (by repeat (first|(with_reducible first|exact HB.out|apply ba'|apply bd'|apply be'|refine bs' ?_ GE208.out)|exact HB.out))):w.heap.size≤gb209));have n5_:=am' ((by rw[hg];exact Nat.ne_of_lt (blk_lt (g:=gb208) (o := .cells #[.int .i64 a0_0, .slice A0_1 l0_1.length c0_1, .int .i64 a0_2] 29 (0,0)) (by (with_reducible repeat (first|refine kn' ?_ _|refine kd' ?_|refine ka' ?_ _));exact BK208.out)):gb208≠gb209));have n6_:=am' ((by rw[hg];exact Nat.ne_of_gt (blk_lt (g:=gb208) (o := .cells #[.int .i64 a0_0, .slice A0_1 l0_1.length c0_1, .int .i64 a0_2] 29 (0,0)) (by (with_reducible repeat (first|refine kn' ?_ _|refine kd' ?_|refine ka' ?_ _));exact BK208.out)):gb209≠gb208));clear BK208;clear HB;have BK208:=n0_;have HB:=n1_;have BK209:=n2_;have GW209:=n3_;have GE209:=n4_;have NB208_209:=n5_;have NB209_208:=n6_;clear n0_ n1_ n2_ n3_ n4_ n5_ n6_;clear hb hbox hg;have hnb9:=NB208_209.out;have hnc9:=NB209_208.out;have hcz10_0:w8.cell? ⟨gb208,0,none⟩=some (.int .i64 a0_0):=(blk_cell BK208.out 0).trans rfl;have hcz10_1:w8.cell? ⟨gb208,1,none⟩=some (.slice A0_1 l0_1.length c0_1):=(blk_cell BK208.out 1).trans rfl;have hcz10_2:w8.cell? ⟨gb208,2,none⟩=some (.int .i64 a0_2):=(blk_cell BK208.out 2).trans rfl;have hfz10_0:=blk_frozen BK208.out 0;have hfz10_1:=blk_frozen BK208.out 1;have hfz10_2:=blk_frozen BK208.out 2;have hcz11_0:w8.cell? ⟨gb209,0,none⟩=some (.int .i64 a1_0):=(blk_cell BK209.out 0).trans rfl;have hcz11_1:w8.cell? ⟨gb209,1,none⟩=some (.slice A1_1 l1_1.length c1_1):=(blk_cell BK209.out 1).trans rfl;have hcz11_2:w8.cell? ⟨gb209,2,none⟩=some (.int .i64 a1_2):=(blk_cell BK209.out 2).trans rfl;have hfz11_0:=blk_frozen BK209.out 0;have hfz11_1:=blk_frozen BK209.out 1;have hfz11_2:=blk_frozen BK209.out 2)|((with_reducible refine gate_callee (f:=44) rfl ?_);refine goesL_ (some 14) rfl rfl Try.func44 (by kernel_rfl) rfl #[.slice A0_1 l0_1.length c0_1, .slice A1_1 l1_1.length c1_1] rfl (by (try simp only[List.map_toArray,List.map_cons,List.map_nil]);first|done|rfl|(simp only[List.length_drop,List.length_take];rfl)) ?_;(with_reducible refine (laws_eqIntSS.calls k _ _ l0_1 _ _ l1_1 true _ ?side1 ?side2 ?side3 ?side4 A4.out).mono ?_);(case side1=>repeat (first|exact (Kd.C_below HR0_1.out HB.out)|(with_reducible refine ca' ?_ _)|(with_reducible refine cn' ?_ _)|(with_reducible refine cd' ?_)));(case side2=>exact HC0_1.out);(case side3=>repeat (first|exact (Kd.C_below HR1_1.out HB.out)|(with_reducible refine ca' ?_ _)|(with_reducible refine cn' ?_ _)|(with_reducible refine cd' ?_)));(case side4=>exact HC1_1.out);rintro e w' ⟨rfl,⟨nd,rfl⟩⟩;refine ⟨_,rfl,?_⟩))
    go_ret
    exact ⟨by first|rfl|(simp[errW_none,errW_some] <;> rfl)|(simp[*,errW_none,errW_some] <;> rfl),by repeat (first|(with_reducible first|exact HB.out|apply ba'|apply bd'|apply be'|refine bs' ?_ GE208.out|refine bs' ?_ GE209.out)|exact HB.out)⟩
   ·
    rw[if_neg c6] at H;have c6b0:(a0_2 == a1_2)=false:=beq_eq_false_iff_ne.mpr c6;have c6b1:(a0_2 != a1_2)=true:=bne_iff_ne.mpr c6;obtain rfl:=Option.some.inj H;go_enter Try.func10,Try.ntmps10;go_wp2_with (first|((with_reducible refine gate_dst (N:=2) rfl ?_);refine box_event ?hg (N:=2) ?hd (cs:=#[.int .i64 a0_0, .slice A0_1 l0_1.length c0_1, .int .i64 a0_2]) (t:=29) ?hr ?_;(case hd=>rfl);(case hg=>rfl);(case hr=>first|(go_simp;done)|(go_simp;rfl));intro gb208 hg w12 hbox hb;have n0_:=am' (below_step (by repeat (first|(with_reducible first|exact HB.out|apply ba'|apply bd'|apply be')|exact HB.out)) hb);have n1_:=am' (hbox);have n2_:=am' ((by rw[hg];exact (below_size (by repeat (first|(with_reducible first|exact HB.out|apply ba'|apply bd'|apply be')|exact HB.out))):w.heap.size≤gb208));have n3_:=am' ((by rw[hg];exact (below_size (by repeat (first|(with_reducible first|exact HB.out|apply ba'|apply bd'|apply be')|exact HB.out))):w.heap.size≤gb208));clear HB;have HB:=n0_;have BK208:=n1_;have GW208:=n2_;have GE208:=n3_;clear n0_ n1_ n2_ n3_;clear hb hbox hg)|((with_reducible refine gate_dst (N:=3) rfl ?_);refine box_event ?hg (N:=3) ?hd (cs:=#[.int .i64 a1_0, .slice A1_1 l1_1.length c1_1, .int .i64 a1_2]) (t:=29) ?hr ?_;(case hd=>rfl);(case hg=>rfl);(case hr=>first|(go_simp;done)|(go_simp;rfl));intro gb209 hg w13 hbox hb;have n0_:=am' (blk_below (g:=gb208) (o := .cells #[.int .i64 a0_0, .slice A0_1 l0_1.length c0_1, .int .i64 a0_2] 29 (0,0)) (by (with_reducible repeat (first|refine kn' ?_ _|refine kd' ?_|refine ka' ?_ _));exact BK208.out) hb);have n1_:=am' (below_step (by repeat (first|(with_reducible first|exact HB.out|apply ba'|apply bd'|apply be'|refine bs' ?_ GE208.out)|exact HB.out)) hb);have n2_:=am' (hbox);have n3_:=am' ((by rw[hg];exact (below_size (by repeat (first|(with_reducible first|exact HB.out|apply ba'|apply bd'|apply be'|refine bs' ?_ GE208.out)|exact HB.out))):w.heap.size≤gb209));have n4_:=am' ((by rw[hg];exact (below_size (by repeat (first|(with_reducible first|exact HB.out|apply ba'|apply bd'|apply be'|refine bs' ?_ GE208.out)|exact HB.out))):w.heap.size≤gb209));have n5_:=am' ((by rw[hg];exact Nat.ne_of_lt (blk_lt (g:=gb208) (o := .cells #[.int .i64 a0_0, .slice A0_1 l0_1.length c0_1, .int .i64 a0_2] 29 (0,0)) (by (with_reducible repeat (first|refine kn' ?_ _|refine kd' ?_|refine ka' ?_ _));exact BK208.out)):gb208≠gb209));have n6_:=am' ((by rw[hg];exact Nat.ne_of_gt (blk_lt (g:=gb208) (o := .cells #[.int .i64 a0_0, .slice A0_1 l0_1.length c0_1, .int .i64 a0_2] 29 (0,0)) (by (with_reducible repeat (first|refine kn' ?_ _|refine kd' ?_|refine ka' ?_ _));exact BK208.out)):gb209≠gb208));clear BK208;clear HB;have BK208:=n0_;have HB:=n1_;have BK209:=n2_;have GW209:=n3_;have GE209:=n4_;have NB208_209:=n5_;have NB209_208:=n6_;clear n0_ n1_ n2_ n3_ n4_ n5_ n6_;clear hb hbox hg;have hnb14:=NB208_209.out;have hnc14:=NB209_208.out;have hcz15_0:w13.cell? ⟨gb208,0,none⟩=some (.int .i64 a0_0):=(blk_cell BK208.out 0).trans rfl;have hcz15_1:w13.cell? ⟨gb208,1,none⟩=some (.slice A0_1 l0_1.length c0_1):=(blk_cell BK208.out 1).trans rfl;have hcz15_2:w13.cell? ⟨gb208,2,none⟩=some (.int .i64 a0_2):=(blk_cell BK208.out 2).trans rfl;have hfz15_0:=blk_frozen BK208.out 0;have hfz15_1:=blk_frozen BK208.out 1;have hfz15_2:=blk_frozen BK208.out 2;have hcz16_0:w13.cell? ⟨gb209,0,none⟩=some (.int .i64 a1_0):=(blk_cell BK209.out 0).trans rfl;have hcz16_1:w13.cell? ⟨gb209,1,none⟩=some (.slice A1_1 l1_1.length c1_1):=(blk_cell BK209.out 1).trans rfl;have hcz16_2:w13.cell? ⟨gb209,2,none⟩=some (.int .i64 a1_2):=(blk_cell BK209.out 2).trans rfl;have hfz16_0:=blk_frozen BK209.out 0;have hfz16_1:=blk_frozen BK209.out 1;have hfz16_2:=blk_frozen BK209.out 2)|((with_reducible refine gate_callee (f:=44) rfl ?_);refine goesL_ (some 14) rfl rfl Try.func44 (by kernel_rfl) rfl #[.slice A0_1 l0_1.length c0_1, .slice A1_1 l1_1.length c1_1] rfl (by (try simp only[List.map_toArray,List.map_cons,List.map_nil]);first|done|rfl|(simp only[List.length_drop,List.length_take];rfl)) ?_;(with_reducible refine (laws_eqIntSS.calls k _ _ l0_1 _ _ l1_1 true _ ?side1 ?side2 ?side3 ?side4 A4.out).mono ?_);(case side1=>repeat (first|exact (Kd.C_below HR0_1.out HB.out)|(with_reducible refine ca' ?_ _)|(with_reducible refine cn' ?_ _)|(with_reducible refine cd' ?_)));(case side2=>exact HC0_1.out);(case side3=>repeat (first|exact (Kd.C_below HR1_1.out HB.out)|(with_reducible refine ca' ?_ _)|(with_reducible refine cn' ?_ _)|(with_reducible refine cd' ?_)));(case side4=>exact HC1_1.out);rintro e w' ⟨rfl,⟨nd,rfl⟩⟩;refine ⟨_,rfl,?_⟩))
    go_ret
    exact ⟨by first|rfl|(simp[errW_none,errW_some] <;> rfl)|(simp[*,errW_none,errW_some] <;> rfl),by repeat (first|(with_reducible first|exact HB.out|apply ba'|apply bd'|apply be'|refine bs' ?_ GE208.out|refine bs' ?_ GE209.out)|exact HB.out)⟩
  ·
   replace c5:=Bool.eq_false_iff.mpr c5;subst c5;have H1:(some false)=some r:=by rw[if_neg (show ¬ (false=true) by decide)] at H;exact H
   clear H;have H:=H1;clear H1;obtain rfl:=Option.some.inj H;go_enter Try.func10,Try.ntmps10;go_wp2_with (first|((with_reducible refine gate_dst (N:=2) rfl ?_);refine box_event ?hg (N:=2) ?hd (cs:=#[.int .i64 a0_0, .slice A0_1 l0_1.length c0_1, .int .i64 a0_2]) (t:=29) ?hr ?_;(case hd=>rfl);(case hg=>rfl);(case hr=>first|(go_simp;done)|(go_simp;rfl));intro gb208 hg w17 hbox hb;have n0_:=am' (below_step (by repeat (first|(with_reducible first|exact HB.out|apply ba'|apply bd'|apply be')|exact HB.out)) hb);have n1_:=am' (hbox);have n2_:=am' ((by rw[hg];exact (below_size (by repeat (first|(with_reducible first|exact HB.out|apply ba'|apply bd'|apply be')|exact HB.out))):w.heap.size≤gb208));have n3_:=am' ((by rw[hg];exact (below_size (by repeat (first|(with_reducible first|exact HB.out|apply ba'|apply bd'|apply be')|exact HB.out))):w.heap.size≤gb208));clear HB;have HB:=n0_;have BK208:=n1_;have GW208:=n2_;have GE208:=n3_;clear n0_ n1_ n2_ n3_;clear hb hbox hg)|((with_reducible refine gate_dst (N:=3) rfl ?_);refine box_event ?hg (N:=3) ?hd (cs:=#[.int .i64 a1_0, .slice A1_1 l1_1.length c1_1, .int .i64 a1_2]) (t:=29) ?hr ?_;(case hd=>rfl);(case hg=>rfl);(case hr=>first|(go_simp;done)|(go_simp;rfl));intro gb209 hg w18 hbox hb;have n0_:=am' (blk_below (g:=gb208) (o := .cells #[.int .i64 a0_0, .slice A0_1 l0_1.length c0_1, .int .i64 a0_2] 29 (0,0)) (by (with_reducible repeat (first|refine kn' ?_ _|refine kd' ?_|refine ka' ?_ _));exact BK208.out) hb);have n1_:=am' (below_step (by repeat (first|(with_reducible first|exact HB.out|apply ba'|apply bd'|apply be'|refine bs' ?_ GE208.out)|exact HB.out)) hb);have n2_:=am' (hbox);have n3_:=am' ((by rw[hg];exact (below_size (by repeat (first|(with_reducible first|exact HB.out|apply ba'|apply bd'|apply be'|refine bs' ?_ GE208.out)|exact HB.out))):w.heap.size≤gb209));have n4_:=am' ((by rw[hg];exact (below_size (by repeat (first|(with_reducible first|exact HB.out|apply ba'|apply bd'|apply be'|refine bs' ?_ GE208.out)|exact HB.out))):w.heap.size≤gb209));have n5_:=am' ((by rw[hg];exact Nat.ne_of_lt (blk_lt (g:=gb208) (o := .cells #[.int .i64 a0_0, .slice A0_1 l0_1.length c0_1, .int .i64 a0_2] 29 (0,0)) (by (with_reducible repeat (first|refine kn' ?_ _|refine kd' ?_|refine ka' ?_ _));exact BK208.out)):gb208≠gb209));have n6_:=am' ((by rw[hg];exact Nat.ne_of_gt (blk_lt (g:=gb208) (o := .cells #[.int .i64 a0_0, .slice A0_1 l0_1.length c0_1, .int .i64 a0_2] 29 (0,0)) (by (with_reducible repeat (first|refine kn' ?_ _|refine kd' ?_|refine ka' ?_ _));exact BK208.out)):gb209≠gb208));clear BK208;clear HB;have BK208:=n0_;have HB:=n1_;have BK209:=n2_;have GW209:=n3_;have GE209:=n4_;have NB208_209:=n5_;have NB209_208:=n6_;clear n0_ n1_ n2_ n3_ n4_ n5_ n6_;clear hb hbox hg;have hnb19:=NB208_209.out;have hnc19:=NB209_208.out;have hcz20_0:w18.cell? ⟨gb208,0,none⟩=some (.int .i64 a0_0):=(blk_cell BK208.out 0).trans rfl;have hcz20_1:w18.cell? ⟨gb208,1,none⟩=some (.slice A0_1 l0_1.length c0_1):=(blk_cell BK208.out 1).trans rfl;have hcz20_2:w18.cell? ⟨gb208,2,none⟩=some (.int .i64 a0_2):=(blk_cell BK208.out 2).trans rfl;have hfz20_0:=blk_frozen BK208.out 0;have hfz20_1:=blk_frozen BK208.out 1;have hfz20_2:=blk_frozen BK208.out 2;have hcz21_0:w18.cell? ⟨gb209,0,none⟩=some (.int .i64 a1_0):=(blk_cell BK209.out 0).trans rfl;have hcz21_1:w18.cell? ⟨gb209,1,none⟩=some (.slice A1_1 l1_1.length c1_1):=(blk_cell BK209.out 1).trans rfl;have hcz21_2:w18.cell? ⟨gb209,2,none⟩=some (.int .i64 a1_2):=(blk_cell BK209.out 2).trans rfl;have hfz21_0:=blk_frozen BK209.out 0;have hfz21_1:=blk_frozen BK209.out 1;have hfz21_2:=blk_frozen BK209.out 2)|((with_reducible refine gate_callee (f:=44) rfl ?_);refine goesL_ (some 14) rfl rfl Try.func44 (by kernel_rfl) rfl #[.slice A0_1 l0_1.length c0_1, .slice A1_1 l1_1.length c1_1] rfl (by (try simp only[List.map_toArray,List.map_cons,List.map_nil]);first|done|rfl|(simp only[List.length_drop,List.length_take];rfl)) ?_;(with_reducible refine (laws_eqIntSS.calls k _ _ l0_1 _ _ l1_1 false _ ?side1 ?side2 ?side3 ?side4 A4.out).mono ?_);(case side1=>repeat (first|exact (Kd.C_below HR0_1.out HB.out)|(with_reducible refine ca' ?_ _)|(with_reducible refine cn' ?_ _)|(with_reducible refine cd' ?_)));(case side2=>exact HC0_1.out);(case side3=>repeat (first|exact (Kd.C_below HR1_1.out HB.out)|(with_reducible refine ca' ?_ _)|(with_reducible refine cn' ?_ _)|(with_reducible refine cd' ?_)));(case side4=>exact HC1_1.out);rintro e w' ⟨rfl,⟨nd,rfl⟩⟩;refine ⟨_,rfl,?_⟩))
   go_ret
   exact ⟨by first|rfl|(simp[errW_none,errW_some] <;> rfl)|(simp[*,errW_none,errW_some] <;> rfl),by repeat (first|(with_reducible first|exact HB.out|apply ba'|apply bd'|apply be'|refine bs' ?_ GE208.out|refine bs' ?_ GE209.out)|exact HB.out)⟩
 ·
  rw[if_neg c3] at H;have c3b0:(a0_0 == a1_0)=false:=beq_eq_false_iff_ne.mpr c3;have c3b1:(a0_0 != a1_0)=true:=bne_iff_ne.mpr c3;obtain rfl:=Option.some.inj H;go_enter Try.func10,Try.ntmps10;go_wp2_with (first|((with_reducible refine gate_dst (N:=2) rfl ?_);refine box_event ?hg (N:=2) ?hd (cs:=#[.int .i64 a0_0, .slice A0_1 l0_1.length c0_1, .int .i64 a0_2]) (t:=29) ?hr ?_;(case hd=>rfl);(case hg=>rfl);(case hr=>first|(go_simp;done)|(go_simp;rfl));intro gb208 hg w22 hbox hb;have n0_:=am' (below_step (by repeat (first|(with_reducible first|exact HB.out|apply ba'|apply bd'|apply be')|exact HB.out)) hb);have n1_:=am' (hbox);have n2_:=am' ((by rw[hg];exact (below_size (by repeat (first|(with_reducible first|exact HB.out|apply ba'|apply bd'|apply be')|exact HB.out))):w.heap.size≤gb208));have n3_:=am' ((by rw[hg];exact (below_size (by repeat (first|(with_reducible first|exact HB.out|apply ba'|apply bd'|apply be')|exact HB.out))):w.heap.size≤gb208));clear HB;have HB:=n0_;have BK208:=n1_;have GW208:=n2_;have GE208:=n3_;clear n0_ n1_ n2_ n3_;clear hb hbox hg)|((with_reducible refine gate_dst (N:=3) rfl ?_);refine box_event ?hg (N:=3) ?hd (cs:=#[.int .i64 a1_0, .slice A1_1 l1_1.length c1_1, .int .i64 a1_2]) (t:=29) ?hr ?_;(case hd=>rfl);(case hg=>rfl);(case hr=>first|(go_simp;done)|(go_simp;rfl));intro gb209 hg w23 hbox hb;have n0_:=am' (blk_below (g:=gb208) (o := .cells #[.int .i64 a0_0, .slice A0_1 l0_1.length c0_1, .int .i64 a0_2] 29 (0,0)) (by (with_reducible repeat (first|refine kn' ?_ _|refine kd' ?_|refine ka' ?_ _));exact BK208.out) hb);have n1_:=am' (below_step (by repeat (first|(with_reducible first|exact HB.out|apply ba'|apply bd'|apply be'|refine bs' ?_ GE208.out)|exact HB.out)) hb);have n2_:=am' (hbox);have n3_:=am' ((by rw[hg];exact (below_size (by repeat (first|(with_reducible first|exact HB.out|apply ba'|apply bd'|apply be'|refine bs' ?_ GE208.out)|exact HB.out))):w.heap.size≤gb209));have n4_:=am' ((by rw[hg];exact (below_size (by repeat (first|(with_reducible first|exact HB.out|apply ba'|apply bd'|apply be'|refine bs' ?_ GE208.out)|exact HB.out))):w.heap.size≤gb209));have n5_:=am' ((by rw[hg];exact Nat.ne_of_lt (blk_lt (g:=gb208) (o := .cells #[.int .i64 a0_0, .slice A0_1 l0_1.length c0_1, .int .i64 a0_2] 29 (0,0)) (by (with_reducible repeat (first|refine kn' ?_ _|refine kd' ?_|refine ka' ?_ _));exact BK208.out)):gb208≠gb209));have n6_:=am' ((by rw[hg];exact Nat.ne_of_gt (blk_lt (g:=gb208) (o := .cells #[.int .i64 a0_0, .slice A0_1 l0_1.length c0_1, .int .i64 a0_2] 29 (0,0)) (by (with_reducible repeat (first|refine kn' ?_ _|refine kd' ?_|refine ka' ?_ _));exact BK208.out)):gb209≠gb208));clear BK208;clear HB;have BK208:=n0_;have HB:=n1_;have BK209:=n2_;have GW209:=n3_;have GE209:=n4_;have NB208_209:=n5_;have NB209_208:=n6_;clear n0_ n1_ n2_ n3_ n4_ n5_ n6_;clear hb hbox hg;have hnb24:=NB208_209.out;have hnc24:=NB209_208.out;have hcz25_0:w23.cell? ⟨gb208,0,none⟩=some (.int .i64 a0_0):=(blk_cell BK208.out 0).trans rfl;have hcz25_1:w23.cell? ⟨gb208,1,none⟩=some (.slice A0_1 l0_1.length c0_1):=(blk_cell BK208.out 1).trans rfl;have hcz25_2:w23.cell? ⟨gb208,2,none⟩=some (.int .i64 a0_2):=(blk_cell BK208.out 2).trans rfl;have hfz25_0:=blk_frozen BK208.out 0;have hfz25_1:=blk_frozen BK208.out 1;have hfz25_2:=blk_frozen BK208.out 2;have hcz26_0:w23.cell? ⟨gb209,0,none⟩=some (.int .i64 a1_0):=(blk_cell BK209.out 0).trans rfl;have hcz26_1:w23.cell? ⟨gb209,1,none⟩=some (.slice A1_1 l1_1.length c1_1):=(blk_cell BK209.out 1).trans rfl;have hcz26_2:w23.cell? ⟨gb209,2,none⟩=some (.int .i64 a1_2):=(blk_cell BK209.out 2).trans rfl;have hfz26_0:=blk_frozen BK209.out 0;have hfz26_1:=blk_frozen BK209.out 1;have hfz26_2:=blk_frozen BK209.out 2))
  go_ret
  exact ⟨by first|rfl|(simp[errW_none,errW_some] <;> rfl)|(simp[*,errW_none,errW_some] <;> rfl),by repeat (first|(with_reducible first|exact HB.out|apply ba'|apply bd'|apply be'|refine bs' ?_ GE208.out|refine bs' ?_ GE209.out)|exact HB.out)⟩
end Go.Proofs.Ytcjjhkapdlfaeaa.C1
