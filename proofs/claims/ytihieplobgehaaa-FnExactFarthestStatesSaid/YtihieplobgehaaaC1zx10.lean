import Derived.Test.YtihieplobgehaaaC1zx0
import Derived.Test.YtihieplobgehaaaC1zx9
import Derived.Test.YtihieplobgehaaaC1zAl
namespace Go.Proofs.Ytihieplobgehaaa.C1
open Go.RowKit Go.Proofs.YtihieplobgehaaaW.PrintWords Go.Proofs.YtihieplobgehaaaW.PrintLast Go.Proofs.YtihieplobgehaaaW.PrintMore Go.Proofs.Ytihieplobgehaaa.H
attribute [local go_sem] max2_int min2_int max_two min_two max_three min_three max_four min_four
set_option linter.unusedVariables false
set_option linter.unusedSimpArgs false
def grpsF (most:Int):List Int→List Int→List (List Int)
 | [],_=>[]
 | x :: r,l=>if (l.length:Int) < most then (l ++ [x]) :: (grpsF most r (l ++ [x]) ++ grpsF most r l) else []
def CbPost {σ:Type} (B:Nat) (Inv:σ→World→(Nat→Prop)→Prop) (s':σ) (O:Nat→Prop) (W:World) (e:Ending) (W':World):Prop :=
 e = .returned (.tuple #[])∧Below B W W'∧∃ O',Inv s' W' O'∧Kept W W' O∧∀ k,O' k→O k∨W.heap.size≤k
def EachOk {σ:Type} (B g:Nat) (lb:Array Value) (Inv:σ→World→(Nat→Prop)→Prop) (step:σ→List Int→Option σ):Prop :=
 ∀ (s s':σ) (O:Nat→Prop) (W0 W:World) (v:Value) (l:List Int),Inv s W0 O→Below W0.heap.size W0 W→Kd.R (Kd.int .i64) 3 W W0.heap.size (fun _=>True) v l→step s l=some s' →
  Calls Try.prog g (#[v] ++ lb) W (CbPost B Inv s' O W)
structure GFr (w:World) (O:Nat→Prop) (g:Nat) (lb:Array Value) (people:List Int) (most:Int) (A:Option Addr) (c p0 p1 p2 p3:Nat):Prop where
 h0:w.heap[p0]? = some (.cells #[.slice A people.length c] 22 (0,0))
 h1:w.heap[p1]? = some (.cells #[.int .i64 most] 3 (0,0))
 h2:w.heap[p2]? = some (.cells #[.func (.func g) #[] lb] 85 (0,0))
 h3:w.heap[p3]? = some (.cells #[.func (.func 68) #[] #[.pointer (some ⟨p0,0,none⟩), .pointer (some ⟨p1,0,none⟩), .pointer (some ⟨p2,0,none⟩), .pointer (some ⟨p3,0,none⟩)]] 94 (0,0))
 n0:¬ O p0
 n1:¬ O p1
 n2:¬ O p2
 n3:¬ O p3
 hF:Kd.F (Kd.int .i64) w (fun k=>¬ O k) A people.length people
theorem GFr.kept {w W:World} {O O':Nat→Prop} {g:Nat} {lb:Array Value} {people:List Int} {most:Int} {A:Option Addr} {c p0 p1 p2 p3:Nat} (h:GFr w O g lb people most A c p0 p1 p2 p3) (hk:Kept w W O) (ho:∀ k,O' k→O k∨w.heap.size≤k):GFr W O' g lb people most A c p0 p1 p2 p3:=by
 have lt:∀ {p:Nat} {o:Obj},w.heap[p]? = some o→¬ O p→¬ O' p:=fun hp hn h=>by
  rcases ho _ h with q|q
  ·
   exact hn q
  ·
   have:=blk_lt hp;omega
 exact ⟨blk_kept h.h0 hk h.n0,blk_kept h.h1 hk h.n1,blk_kept h.h2 hk h.n2,blk_kept h.h3 hk h.n3,lt h.h0 h.n0,lt h.h1 h.n1,lt h.h2 h.n2,lt h.h3 h.n3,
  Kd.F_mono (Kd.F_kept (Kd.F_bound h.hF) hk (fun _ q=>q.1)) (fun k q q2=>by rcases ho k q2 with q3|q3;exact q.1 q3;omega)⟩
theorem F_turn {w W:World} {O O':Nat→Prop} {A:Option Addr} {n:Nat} {l:List Int} (h:Kd.F (Kd.int .i64) w (fun k=>¬ O k) A n l) (hk:Kept w W O) (ho:∀ k,O' k→O k∨w.heap.size≤k):Kd.F (Kd.int .i64) W (fun k=>¬ O' k) A n l :=
 Kd.F_mono (Kd.F_kept (Kd.F_bound h) hk (fun _ q=>q.1)) (fun k q q2=>by rcases ho k q2 with q3|q3;exact q.1 q3;omega)
section
variable {σ:Type} {B g:Nat} {lb:Array Value} {Inv:σ→World→(Nat→Prop)→Prop} {step:σ→List Int→Option σ}
set_option maxHeartbeats 2000000 in
set_option maxRecDepth 100000 in
theorem on_any (HE:EachOk B g lb Inv step) (HI:∀ s W O,Inv s W O→∀ k,O k→B≤k∧k < W.heap.size) (eg:∀ args w,(callFunc g args).run Try.prog w = .ok (.enter g args) w)
  (people:List Int) (most:Int) (A:Option Addr) (c p0 p1 p2 p3:Nat) (hpc:people.length≤c) (hpl:people.length≤1048576) :
  ∀ (d f:Nat) (s s':σ) (O:Nat→Prop) (w:World) (Al:Option Addr) (cl:Nat) (l:List Int),people.length - f≤d→f≤people.length→B≤w.heap.size→Inv s w O→GFr w O g lb people most A c p0 p1 p2 p3→Kd.F (Kd.int .i64) w (fun k=>¬ O k) Al l.length l→l.length≤cl→l.length+(people.length - f)≤1048576 →
   (grpsF most (people.drop f) l).foldlM step s=some s' →
   Calls Try.prog 68 #[.int .i64 f, .slice Al l.length cl, .pointer (some ⟨p0,0,none⟩), .pointer (some ⟨p1,0,none⟩), .pointer (some ⟨p2,0,none⟩), .pointer (some ⟨p3,0,none⟩)] w (CbPost B Inv s' O w):=by
 intro d;induction d using Nat.strongRecOn with
 | ind d ih =>
 intro f s s' O w Al cl l hd hf hB hinv hfr hl hlc hbig hfold;have HD:=am' hd
 have HBG:=am' hbig
 have IH:=am' ih
 have HINV:=am' hinv
 have HFR:=am' hfr
 have HL:=am' hl
 have HFO:=am' hfold
 have HBB:=am' (Below.refl B w)
 clear ih hinv hfr hl hfold hd hbig;have hinfo:=am' (show (Try.prog.info? 3).map (fun i=>(i.zero,i.size,i.bytes))=some (some (.int .i64 0),1,8) by kernel_rfl)
 go_enter Try.func68,Try.ntmps68
 go_wp2
 go_loopg [8] (people.length - f) (fun gg v8 wr=>∃ (i:Nat) (s1:σ) (O1:Nat→Prop),v8 = .int .i64 i∧i≤people.length∧f≤i∧people.length - i≤gg∧Aside0 ((grpsF most (people.drop i) l).foldlM step s1=some s')∧Aside0 (Inv s1 wr O1)∧Aside0 (GFr wr O1 g lb people most A c p0 p1 p2 p3)∧Aside0 (Kd.F (Kd.int .i64) wr (fun k=>¬ O1 k) Al l.length l)∧Aside0 (Below B w wr)∧Aside0 (Kept w wr O)∧Aside0 (∀ k,O1 k→O k∨w.heap.size≤k))
 case atStart=>exact ⟨f,s,O,rfl,hf,Nat.le_refl _,Nat.le_refl _,HFO,HINV,HFR,HL,HBB,⟨Kept.refl _ _⟩,⟨fun _ h => .inl h⟩⟩
 case round =>
  obtain ⟨i,s1,O1,rfl,hi,hfi,hg,HF1,HI1,HG1,HL1,HB1,HK1,HO1⟩:=hrel;have x0:wr.cell? ⟨p0,0,none⟩=some (.slice A people.length c):=(blk_cell HG1.out.h0 0).trans rfl;have x1:wr.cell? ⟨p1,0,none⟩=some (.int .i64 most):=(blk_cell HG1.out.h1 0).trans rfl;have x2:wr.cell? ⟨p2,0,none⟩=some (.func (.func g) #[] lb):=(blk_cell HG1.out.h2 0).trans rfl;have x3:wr.cell? ⟨p3,0,none⟩=some (.func (.func 68) #[] #[.pointer (some ⟨p0,0,none⟩), .pointer (some ⟨p1,0,none⟩), .pointer (some ⟨p2,0,none⟩), .pointer (some ⟨p3,0,none⟩)]):=(blk_cell HG1.out.h3 0).trans rfl;by_cases hlt:i < people.length
  ·
   by_cases hm:(l.length:Int) < most
   ·
    have hltz:(i:Int) < (people.length:Int):=by omega
    have hdz:=decide_eq_true hltz;have hdm:=decide_eq_true hm;obtain ⟨ad,e0,hx0⟩:=Kd.at_int (Kd.F_now HG1.out.hF) (i:Int) (by omega) hltz;cases e0;rw[Int.toNat_natCast] at hx0;generalize hxx:rd people i=x at hx0
    have HX:=am' hxx;clear hxx;have HCL:=am' (show slices_Clone_int_int.f l=some l from if_pos (by have:=HBG.out;omega));have HHB:=am' (Below.refl wr.heap.size wr);go_wp2_with fail
    go_region_held3? (fun w'=>w'.cell? ⟨p0,0,none⟩=some (.slice (some ad) people.length c)∧w'.cell? (ad.add i)=some (.int .i64 x))
     (first|exact ⟨z0,z1⟩|exact ⟨y0,y1⟩|go_keep)
     (first|((refine Kd.R_append_rows_step (Kd.int .i64) (w0:=wr) wr.heap.size (by rfl) (.tmp 24) (.tmp 29) 22 3 (.int .i64 0) 8 (by rfl) Try.underlying22 hinfo.out rfl (by decide) (by omega) vc l [x] (some ⟨_,0,none⟩) 1 1 (fun _=>True) (fun _=>False) (by rfl) (by rfl) ?aO ?aR (fun _ _ h=>h) (fun _ h=>h.elim) (fun _ _=>trivial) ?aB ?aS ?aL ?_;(case aR=>first|exact C_one (heap_alloc_new _ _)|exact C_one ((HB2.out.block _ (by simp)).trans (heap_alloc_new _ _)));(case aO=>(with_reducible repeat (first|apply ra'|apply rn'|apply rw'));exact HO2.out);(case aB=>repeat (first|(with_reducible first|exact HHB2.out|apply ba'|apply bd'|apply be')|exact HHB2.out));(case aS=>exact below_size (by repeat (first|(with_reducible first|exact HHB2.out|apply ba'|apply bd'|apply be')|exact HHB2.out)));(case aL=>have:=HBG.out;omega);intro v3 w3 ho hb hg hat;have HO3:=am' ho;have HB3:=am' hb;clear ho hb hg hat;have z0:=(HB3.out.cell (bl' wr _ x0)).trans x0;have z1:=(HB3.out.cell (bl' wr _ hx0)).trans hx0))|((go_at_call 69;refine (slices_Clone_int_int.calls Al cl l l _ ?_ hlc HCL.out).mono ?_;(repeat (first|exact Kd.F_now HL1.out|refine ca' ?_ _|refine cd' ?_|refine cn' ?_ _));rintro e w2 ⟨vc,rfl,ho,hb⟩;have HHB2:=am' (below_step (by repeat (first|(with_reducible first|exact HHB.out|apply ba'|apply bd'|apply be')|exact HHB.out)) hb);have HO2:=am' (Kd.R_lower ho (below_size (by repeat (first|(with_reducible first|exact HHB.out|apply ba'|apply bd'|apply be')|exact HHB.out))));have HB2:=am' hb;clear hb ho;have y0:=(HHB2.out.cell (bl' wr _ x0)).trans x0;have y1:=(HHB2.out.cell (bl' wr _ hx0)).trans hx0)))
    all_goals
     have HB1':=am' (HB1.out.trans (HB3.out.mono (Nat.le_trans hB HB1.out.size)));have HG3:=am' (HG1.out.kept (O':=O1) (Kept.of_below HB3.out O1) (fun _ h => .inl h));have HL3:=am' (F_turn (O':=O1) HL1.out (Kept.of_below HB3.out O1) (fun _ h => .inl h));obtain ⟨A3,c3,hv3,hlc3,hC3⟩:=Kd.R_reads HO3.out;have HF3:=am' (show Kd.F (Kd.int .i64) w3 (fun k=>¬ O1 k) A3 (l ++ [x]).length (l ++ [x]) from Kd.F_mono (Kd.R_F (Kd.R_bound (hv3 ▸ HO3.out))) (fun k q h=>by have:=HI _ _ _ HI1.out k h;have:=q.2.1;omega));have HK3:=am' (HK1.out.then_ (Kept.of_below HB3.out O1) HO1.out)
     have hdrop:people.drop i=x :: people.drop (i+1):=by
      rw[List.drop_eq_getElem_cons hlt];congr 1
      rw[← HX.out];simp[rd,List.getD_eq_getElem?_getD,List.getElem?_eq_getElem hlt]
     have hf1:=HF1.out;rw[hdrop,grpsF,if_pos hm,List.foldlM_cons] at hf1;obtain ⟨s2,hs2,hf1⟩:=Option.bind_eq_some_iff.mp hf1;rw[List.foldlM_append] at hf1;obtain ⟨s3,hs3,hf1⟩:=Option.bind_eq_some_iff.mp hf1;have HE2:=am' (HE s1 s2 O1 wr w3 v3 (l ++ [x]) HI1.out HB3.out HO3.out hs2);have HS3:=am' hs3;have HF2:=am' hf1;have HLC3:=am' hlc3;have HN3:=am' (show (l ++ [x]).length=l.length+1 by simp);clear hC3;generalize l ++ [x]=l2 at HO3 HF3 HE2 HS3 HLC3 HN3 hv3 hs2 hs3 hlc3
     subst hv3;clear HB3 HG1 HL1 HK1 HB1 hdrop hs2 hs3 hf1 hlc3;have e2:w3.cell? ⟨p2,0,none⟩=some (.func (.func g) #[] lb):=(blk_cell HG3.out.h2 0).trans rfl;go_wp2_with fail;refine HE2.out.mono ?_
     rintro e w4 ⟨rfl,hb4,O2,hi4,hk4,ho4⟩
     have HG4:=am' (HG3.out.kept hk4 ho4);have HL4:=am' (F_turn HL3.out hk4 ho4);have HF4:=am' (F_turn HF3.out hk4 ho4);have HK4:=am' (HK3.out.then_ hk4 HO1.out);have HI4:=am' hi4;have HB4:=am' (HB1'.out.trans hb4)
     have HO4:=am' (show ∀ k,O2 k→O k∨w.heap.size≤k from fun k h=>by
      rcases ho4 k h with q|q
      ·
       exact HO1.out k q
      ·
       have:=HK3.out.1;exact .inr (by omega))
     have hrec:=IH.out (people.length - (i+1)) (by have:=HD.out;omega) (i+1) s2 s3 O2 w4 A3 c3 l2 (Nat.le_refl _) (by omega) (Nat.le_trans hB HB4.out.size) hi4 HG4.out HF4.out HLC3.out (by have:=HBG.out;have:=HN3.out;omega) HS3.out;rw[show ((i+1:Nat):Int)=(i:Int)+1 from rfl] at hrec;have HREC:=am' hrec;clear hrec hb4 hi4 hk4 ho4 HE2 HG3 HL3 HF3 HK3 HB1' e2 x0 x1 x2 x3 hx0;have e3:w4.cell? ⟨p3,0,none⟩=some (.func (.func 68) #[] #[.pointer (some ⟨p0,0,none⟩), .pointer (some ⟨p1,0,none⟩), .pointer (some ⟨p2,0,none⟩), .pointer (some ⟨p3,0,none⟩)]):=(blk_cell HG4.out.h3 0).trans rfl;go_wp2_with (go_at_call 68;refine HREC.out.mono ?_;rintro e w5 ⟨rfl,hb5,O3,hi5,hk5,ho5⟩);go_roundg (people.length - (i+1))
     case measure=>omega
     case rel =>
      refine ⟨i+1,s3,O3,by go_num,by omega,by omega,Nat.le_refl _,HF2,⟨hi5⟩,⟨HG4.out.kept hk5 ho5⟩,⟨F_turn HL4.out hk5 ho5⟩,⟨HB4.out.trans hb5⟩,⟨HK4.out.then_ hk5 HO4.out⟩,⟨fun k h=>?_⟩⟩;rcases ho5 k h with q|q
      ·
       exact HO4.out k q
      ·
       have:=HK4.out.1;exact .inr (by omega)
   ·
    have hdm:=decide_eq_false hm;have hltz:(i:Int) < (people.length:Int):=by omega
    have hdz:=decide_eq_true hltz;go_wp2;go_end0
    refine ⟨rfl,HB1.out,O1,?_,HK1.out,HO1.out⟩;have hf1:=HF1.out;rw[List.drop_eq_getElem_cons hlt,grpsF,if_neg (by omega)] at hf1;cases hf1;exact HI1.out
  ·
   have hnl:¬ (i:Int) < (people.length:Int):=by omega
   have hdz:=decide_eq_false hnl;go_wp2;go_end0
   refine ⟨rfl,HB1.out,O1,?_,HK1.out,HO1.out⟩;have hf1:=HF1.out;rw[List.drop_eq_nil_of_le (by omega),grpsF] at hf1;cases hf1;exact HI1.out
set_option maxHeartbeats 2000000 in
set_option maxRecDepth 100000 in
theorem groups_any (HE:EachOk B g lb Inv step) (HI:∀ s W O,Inv s W O→∀ k,O k→B≤k∧k < W.heap.size) (eg:∀ args w,(callFunc g args).run Try.prog w = .ok (.enter g args) w)
  (people:List Int) (most:Int) (A:Option Addr) (c:Nat) (hpc:people.length≤c) (hpl:people.length≤1048576) (s s':σ) (O:Nat→Prop) (w:World) (hB:B≤w.heap.size) (hinv:∀ W,Below w.heap.size w W→Inv s W O) (hpe:Kd.F (Kd.int .i64) w (fun k=>¬ O k) A people.length people)
  (hfold:(grpsF most people []).foldlM step s=some s') :
  Calls Try.prog 54 #[.slice A people.length c, .int .i64 most, .func (.func g) #[] lb] w (CbPost B Inv s' O w):=by
 have HINV:=am' hinv
 have HPE:=am' hpe
 have HFO:=am' hfold
 clear hinv hpe hfold;have ho:∀ k,O k→k < w.heap.size:=fun k h=>(HI _ _ _ (HINV.out w (Below.refl _ _)) k h).2
 have HO:=am' ho
 clear ho;go_enter Try.func54,Try.ntmps54
 go_wp2_with fail
 obtain ⟨b0,b1,b2,b3,hb4⟩:=four_blocks w (.cells #[.slice A people.length c] 22) (.cells #[.int .i64 most] 3) (.cells #[.func (.func g) #[] lb] 85) (.cells #[.func (.func 68) #[] #[.pointer (some ⟨w.heap.size,0,none⟩), .pointer (some ⟨w.heap.size+1,0,none⟩), .pointer (some ⟨w.heap.size+1+1,0,none⟩), .pointer (some ⟨w.heap.size+1+1+1,0,none⟩)]] 94)
 have hpe4:=Kd.F_below HPE.out hb4
 have hin4:=HINV.out _ hb4
 generalize (((w.alloc (.cells #[.slice A people.length c] 22)).alloc (.cells #[.int .i64 most] 3)).alloc (.cells #[.func (.func g) #[] lb] 85)).alloc (.cells #[.func (.func 68) #[] #[.pointer (some ⟨w.heap.size,0,none⟩), .pointer (some ⟨w.heap.size+1,0,none⟩), .pointer (some ⟨w.heap.size+1+1,0,none⟩), .pointer (some ⟨w.heap.size+1+1+1,0,none⟩)]] 94)=W4 at *
 have hsz:=hb4.size
 have hcall:=on_any HE HI eg people most A c (w.heap.size) (w.heap.size+1) (w.heap.size+1+1) (w.heap.size+1+1+1) hpc hpl people.length 0 s s' O W4 none 0 [] (by omega) (by omega) (by omega) hin4
  ⟨b0,b1,b2,b3,fun h=>by have:=HO.out _ h;omega,fun h=>by have:=HO.out _ h;omega,fun h=>by have:=HO.out _ h;omega,fun h=>by have:=HO.out _ h;omega,hpe4⟩ (Kd.F_nil _ _ _) (Nat.le_refl _) (by simp;omega) HFO.out
 rw[show ((0:Nat):Int)=0 from rfl,show ([]:List Int).length=0 from rfl] at hcall
 refine hcall.mono ?_
 rintro e w5 ⟨rfl,hb5,O3,hi5,hk5,ho5⟩
 go_wp2
 go_end0
 refine ⟨rfl,(hb4.mono hB).trans hb5,O3,hi5,(Kept.of_below hb4 O).then_ hk5 (fun k h => .inl h),fun k h=>?_⟩
 rcases ho5 k h with q|q
 ·
  exact .inl q
 ·
  exact .inr (by omega)
end
def OutInv (B bo:Nat) (s:List (List Int)) (W:World) (O:Nat→Prop):Prop :=
 ∃ v,W.heap[bo]? = some (.cells #[v] 68 (0,0))∧B≤bo∧Kd.S (Kd.slice 3 (Kd.int .i64)) 22 W B (fun k=>k≠bo) v s∧O=(fun k=>k=bo∨some k=v.ownBlock)
theorem OutInv.lt {B bo:Nat} (s:List (List Int)) (W:World) (O:Nat→Prop) (h:OutInv B bo s W O):∀ k,O k→B≤k∧k < W.heap.size:=by
 obtain ⟨v,hb,hB,hS,rfl⟩:=h
 rintro k (rfl|hk)
 ·
  exact ⟨hB,blk_lt hb⟩
 ·
  exact ⟨Kd.S_base hS k hk.symm,Kd.S_lt hS k hk.symm⟩
theorem OutInv.below {B bo:Nat} {s:List (List Int)} {W W1:World} {O:Nat→Prop} (h:OutInv B bo s W O) (hb:Below W.heap.size W W1):OutInv B bo s W1 O:=by
 obtain ⟨v,h1,h2,h3,h4⟩:=h
 exact ⟨v,blk_below h1 hb,h2,Kd.S_below h3 hb,h4⟩
theorem grpsF_len (m:Int):∀ (r l:List Int),(grpsF m r l).length+1≤2 ^ r.length:=by
 intro r;induction r with
 | nil=>intro l;simp[grpsF]
 | cons x r ih =>
  intro l;simp only[grpsF];split
  ·
   have h1:=ih (l ++ [x]);have h2:=ih l;simp only[List.length_cons,List.length_append,Nat.pow_succ];omega
  ·
   have:0 < 2 ^ (x :: r).length:=Nat.pow_pos (by omega);simp only[List.length_nil];omega
def impl_State_side.l0:Nat→Bool→List Int→List Bool→Int→Int→Option (List Int)
 | 0,_,_,_,_,_=>none
 | k+1,x1,x5,x10,x11,x12=>if x12 < x11 then (if 0≤x12 then (if x12 < (x10.length:Int) then (if ((rdOf false x10 x12) == x1)=true then (if x5.length < 17592186044416 then (impl_State_side.l0 k x1 (x5 ++ [x12]) x10 x11 (wrap64 (x12+1))) else (none)) else (impl_State_side.l0 k x1 x5 x10 x11 (wrap64 (x12+1)))) else (none)) else (none)) else (some x5)
def impl_State_side.f (k:Nat) (l0_0:List Bool) (a0_1:Bool) (a1:Bool):Option (List Int):=impl_State_side.l0 k a1 (([]:List Int)) l0_0 (l0_0.length:Int) 0
set_option maxHeartbeats 8000000 in
set_option maxRecDepth 100000 in
theorem impl_State_side.calls (k:Nat) (A0_0:Option Addr) (c0_0:Nat) (l0_0:List Bool) (a0_1:Bool) (a1:Bool) (r:List Int) (w:World) (hr0_0:Kd.C Kd.bool w A0_0 l0_0.length l0_0) (hc0_0:l0_0.length≤c0_0) (h:impl_State_side.f k l0_0 a0_1 a1=some r) :
  Calls Try.prog 55 #[.agg #[.slice A0_0 l0_0.length c0_0, .bool a0_1], .bool a1] w fun e w'=>∃ v0_:Value,e = .returned (v0_)∧Kd.R (Kd.int .i64) 3 w' w.heap.size (fun _=>True) v0_ r∧Below w.heap.size w w':=by
 have hu54:=Try.underlying54
 have HR0_0:=am' hr0_0
 have HC0_0:=am' hc0_0
 clear hr0_0 hc0_0;have HB:=am' (Below.refl w.heap.size w)
 have H:(impl_State_side.l0 k a1 (([]:List Int)) l0_0 (l0_0.length:Int) 0)=some r:=h
 clear h;obtain ⟨y267,hy267⟩:∃ y_:List Int,y_=(([]:List Int)):=⟨_,rfl⟩
 replace H:(impl_State_side.l0 k a1 y267 l0_0 (l0_0.length:Int) 0)=some r:=by first|(rw[hy267];with_reducible exact H)|(have H2_:=(Option.bind_some _ _).symm.trans H;rw[hy267];with_reducible exact H2_)|(have H2_:=(Option.bind_some _ _).symm.trans H;with_reducible exact H2_)|with_reducible exact H|(rw[hy267];exact H)|exact H
 have Ny267:=am' hy267
 clear hy267;have H':=am' H
 clear H;go_enter Try.func55,Try.ntmps55
 go_wp2_with (first|((with_reducible refine gate_dst (N:=2) rfl ?_);refine box_event ?hg (N:=2) ?hd (cs:=#[.slice A0_0 l0_0.length c0_0, .bool a0_1]) (t:=54) ?hr ?_;(case hd=>rfl);(case hg=>rfl);(case hr=>first|(go_simp;done)|(go_simp;rfl));intro gb266 hg w3 hbox hb;have n0_:=am' (below_step (by repeat (first|(with_reducible first|exact HB.out|apply ba'|apply bd'|apply be')|exact HB.out)) hb);have n1_:=am' (hbox);have n2_:=am' ((by rw[hg];exact (below_size (by repeat (first|(with_reducible first|exact HB.out|apply ba'|apply bd'|apply be')|exact HB.out))):w.heap.size≤gb266));have n3_:=am' ((by rw[hg];exact (below_size (by repeat (first|(with_reducible first|exact HB.out|apply ba'|apply bd'|apply be')|exact HB.out))):w.heap.size≤gb266));clear HB;have HB:=n0_;have BK266:=n1_;have GW266:=n2_;have GE266:=n3_;clear n0_ n1_ n2_ n3_;clear hb hbox hg)|((with_reducible refine gate_dst (N:=8) rfl ?_);refine Kd.R_lit (Kd.int .i64) _ 3 ?hg (N:=8) ?hd (xs:=([]:List Int)) (inner:=[]) (ok:=fun _=>True) (okp:=fun _=>True) ?hr ?hp (fun _ hk=>hk) trivial (Below.refl _ _) (Nat.le_refl _) (by simp) ?_;(case hd=>rfl);(case hg=>rfl);(case hr=>first|(go_simp;done)|(go_simp;rfl));(case hp=>exact (Reps.none _ _));intro v268 w4 ho5 hb hg_ hnew_;clear hg_ hnew_;(first|rw[← Ny267.out] at ho5|(simp only[Int.reduceToNat] at ho5;rw[← Ny267.out] at ho5));have n0_:=am' (Kd.R_lower ho5 (below_size (by repeat (first|(with_reducible first|exact HB.out|apply ba'|apply bd'|apply be'|refine bs' ?_ GE266.out)|exact HB.out))));have n1_:=am' (blk_below (g:=gb266) (o := .cells #[.slice A0_0 l0_0.length c0_0, .bool a0_1] 54 (0,0)) (by (with_reducible repeat (first|refine kn' ?_ _|refine kd' ?_|refine ka' ?_ _));exact BK266.out) hb);have n2_:=am' (below_step (by repeat (first|(with_reducible first|exact HB.out|apply ba'|apply bd'|apply be'|refine bs' ?_ GE266.out)|exact HB.out)) hb);clear BK266;clear HB;have HO269:=n0_;have BK266:=n1_;have HB:=n2_;clear n0_ n1_ n2_;clear hb ho5;have hcz6_0:w4.cell? ⟨gb266,0,none⟩=some (.slice A0_0 l0_0.length c0_0):=(blk_cell BK266.out 0).trans rfl;have hcz6_1:w4.cell? ⟨gb266,1,none⟩=some (.bool a0_1):=(blk_cell BK266.out 1).trans rfl;have hfz6_0:=blk_frozen BK266.out 0;have hfz6_1:=blk_frozen BK266.out 1))
 go_loopg [5,12] k (fun kq v5 v12 w'=>∃ (x5_1:List Int) (x12_1:Int),v12 = .int .i64 x12_1∧Aside0 (impl_State_side.l0 kq a1 x5_1 l0_0 (l0_0.length:Int) x12_1=some r)∧Aside0 (kq≤k)∧Aside0 (Kd.R (Kd.int .i64) 3 w' w.heap.size (fun _=>True) v5 x5_1)∧Aside0 (w'.heap[gb266]? = some (.cells #[(.slice A0_0 l0_0.length c0_0), .bool a0_1] 54 (0,0)))∧Aside0 (Below w.heap.size w w'))
 case atStart=>exact ⟨(y267),(0),(by first|rfl|(simp;done)|(simp[*];done)),H',⟨Nat.le_refl _⟩,⟨by (with_reducible repeat (first|apply ra'|apply rn'|apply rw'));exact HO269.out⟩,⟨by (with_reducible repeat (first|refine kn' ?_ _|refine kd' ?_|refine ka' ?_ _));exact BK266.out⟩,⟨by repeat (first|(with_reducible first|exact HB.out|apply ba'|apply bd'|apply be'|refine bs' ?_ GE266.out)|exact HB.out)⟩⟩
 case round =>
  clear H';try clear p2
  try clear c5
  try clear hcz6_0
  try clear hcz6_1
  try clear hfz6_0
  try clear hfz6_1
  obtain ⟨x5_1,x12_1,rfl,HA,HK1,HO_5,BK266,HB⟩:=hrel;cases gk with
  | zero=>exact absurd HA.out (by simp[impl_State_side.l0])
  | succ k1 =>
   have H:=HA.out;clear HA;simp only[impl_State_side.l0] at H;by_cases c7:x12_1 < (l0_0.length:Int)
   ·
    rw[if_pos c7] at H;have c7b0:decide (x12_1 < (l0_0.length:Int))=true:=decide_eq_true c7;clear c7;by_cases c8:0≤x12_1
    ·
     rw[if_pos c8] at H;have c8b0:decide (0≤x12_1)=true:=decide_eq_true c8;clear c8;by_cases c9:x12_1 < (l0_0.length:Int)
     ·
      rw[if_pos c9] at H;have c9b0:decide (x12_1 < (l0_0.length:Int))=true:=decide_eq_true c9;clear c9;by_cases c10:((rdOf false l0_0 x12_1) == a1)=true
      ·
       rw[if_pos c10] at H;have c10b0:((rdOf false l0_0 x12_1) == a1)=true:=c10
       (try (have c10b1:decide ((rdOf false l0_0 x12_1)=a1)=true:=by simpa using c10))
       (try (have c10b2:((rdOf false l0_0 x12_1) == a1)=true:=by simpa using c10))
       clear c10;by_cases c11:x5_1.length < 17592186044416
       ·
        rw[if_pos c11] at H;have LMc11:=am' c11;clear c11;obtain ⟨y271,hy271⟩:∃ y_:List Int,y_=(x5_1 ++ [x12_1]):=⟨_,rfl⟩
        replace H:(impl_State_side.l0 k1 a1 y271 l0_0 (l0_0.length:Int) (wrap64 (x12_1+1)))=some r:=by first|(rw[hy271];with_reducible exact H)|(have H2_:=(Option.bind_some _ _).symm.trans H;rw[hy271];with_reducible exact H2_)|(have H2_:=(Option.bind_some _ _).symm.trans H;with_reducible exact H2_)|with_reducible exact H|(rw[hy271];exact H)|exact H
        have Ny271:=am' hy271;clear hy271;have H':=am' H;clear H;have p270:0≤(x12_1:Int):=of_decide_eq_true (by first|(with_reducible assumption)|assumption);have q270:x12_1 < (l0_0.length:Int):=of_decide_eq_true (by first|(with_reducible assumption)|assumption);obtain ⟨ad270,e270,hx270_0⟩:=Kd.at_bool HR0_0.out x12_1 p270 q270;cases e270;replace hx270_0:=(HB.out.cell (bl' w _ hx270_0)).trans hx270_0;replace p270:=eq_true p270;replace q270:=eq_true q270;go_wp2_with (first|((with_reducible refine gate_builtin (b := .append) (xs:=#[.tmp 20, .tmp 22]) rfl ?_);at_builtin;refine Kd.R_append (Kd.int .i64) (w0:=w) w.heap.size rfl (.tmp 20) (.tmp 22) 22 3 (.int .i64 0) 8 rfl Try.underlying22 info3 rfl (by decide) (by omega) u5 x5_1 x12_1 [.int .i64 x12_1] (fun _=>True) (fun _=>False) rfl rfl ?aP (fun _ hk=>hk.elim) ?aF ?aO ?aB ?aS ?aL ?_;(case aP=>exact rfl);(case aB=>exact (by repeat (first|(with_reducible first|exact HB.out|apply ba'|apply bd'|apply be'|refine bs' ?_ GE266.out)|exact HB.out)));(case aF=>exact (fun _ _=>trivial));(case aO=>exact (by (with_reducible repeat (first|apply ra'|apply rn'|apply rw'));exact HO_5.out));(case aS=>exact (below_size (by repeat (first|(with_reducible first|exact HB.out|apply ba'|apply bd'|apply be'|refine bs' ?_ GE266.out)|exact HB.out))));(case aL=>have:=LMc11.out;omega);intro v272 w12 ho hb hg hat;rw[← Ny271.out] at ho;have n0_:=am' (blk_grown (g:=gb266) (o := .cells #[.slice (some ad270) l0_0.length c0_0, .bool a0_1] 54 (0,0)) (by (with_reducible repeat (first|refine kn' ?_ _|refine kd' ?_|refine ka' ?_ _));exact BK266.out) hg (Kd.R_ne HO_5.out BK266.out (by decide)));have n1_:=am' (hb);have n2_:=am' (ho);clear BK266;clear HB;clear HO_5;have BK266:=n0_;have HB:=n1_;have HO273:=n2_;clear n0_ n1_ n2_;clear ho hb hg hat));go_roundg k1
        case measure=>have:=HK1.out;omega
        case rel=>exact ⟨(y271),(wrap64 (x12_1+1)),(by first|rfl|(simp;done)|(simp[*];done)),H',⟨by have:=HK1.out;omega⟩,⟨by (with_reducible repeat (first|apply ra'|apply rn'|apply rw'));exact HO273.out⟩,⟨by (with_reducible repeat (first|refine kn' ?_ _|refine kd' ?_|refine ka' ?_ _));exact BK266.out⟩,⟨by repeat (first|(with_reducible first|exact HB.out|apply ba'|apply bd'|apply be'|refine bs' ?_ GE266.out)|exact HB.out)⟩⟩
       ·
        rw[if_neg c11] at H;exact absurd H (by simp)
      ·
       rw[if_neg c10] at H;have c10b0:((rdOf false l0_0 x12_1) == a1)=false:=by simpa using c10
       (try (have c10b1:decide ((rdOf false l0_0 x12_1)=a1)=false:=by simpa using c10))
       (try (have c10b2:((rdOf false l0_0 x12_1) == a1)=false:=by simpa using c10))
       (try (have c10b3:¬ ((rdOf false l0_0 x12_1)=a1):=by simpa using c10))
       clear c10;have H':=am' H;clear H;have p270:0≤(x12_1:Int):=of_decide_eq_true (by first|(with_reducible assumption)|assumption);have q270:x12_1 < (l0_0.length:Int):=of_decide_eq_true (by first|(with_reducible assumption)|assumption);obtain ⟨ad270,e270,hx270_0⟩:=Kd.at_bool HR0_0.out x12_1 p270 q270;cases e270;replace hx270_0:=(HB.out.cell (bl' w _ hx270_0)).trans hx270_0;replace p270:=eq_true p270;replace q270:=eq_true q270;go_wp2;go_roundg k1
       case measure=>have:=HK1.out;omega
       case rel=>exact ⟨(x5_1),(wrap64 (x12_1+1)),(by first|rfl|(simp;done)|(simp[*];done)),H',⟨by have:=HK1.out;omega⟩,⟨by (with_reducible repeat (first|apply ra'|apply rn'|apply rw'));exact HO_5.out⟩,⟨by (with_reducible repeat (first|refine kn' ?_ _|refine kd' ?_|refine ka' ?_ _));exact BK266.out⟩,⟨by repeat (first|(with_reducible first|exact HB.out|apply ba'|apply bd'|apply be'|refine bs' ?_ GE266.out)|exact HB.out)⟩⟩
     ·
      rw[if_neg c9] at H;exact absurd H (by simp)
    ·
     rw[if_neg c8] at H;exact absurd H (by simp)
   ·
    rw[if_neg c7] at H;have c7b0:decide (x12_1 < (l0_0.length:Int))=false:=decide_eq_false c7;clear c7;obtain rfl:=Option.some.inj H;go_wp2;go_ret
    exact ⟨_,by first|rfl|(simp[errW_none,errW_some] <;> rfl)|(simp[*,errW_none,errW_some] <;> rfl),by (with_reducible repeat (first|apply ra'|apply rn'|apply rw'));exact HO_5.out,by repeat (first|(with_reducible first|exact HB.out|apply ba'|apply bd'|apply be'|refine bs' ?_ GE266.out)|exact HB.out)⟩
def impl_bit.f (a0:Bool):Option (Int):=if a0=true then (some 1) else (some 0)
set_option maxHeartbeats 8000000 in
set_option maxRecDepth 100000 in
theorem impl_bit.calls (a0:Bool) (r:Int) (w:World) (h:impl_bit.f a0=some r) :
  Calls Try.prog 61 #[.bool a0] w fun e w'=>e = .returned (.int .i64 r)∧Drawn0 w w':=by
 have H:(if a0=true then (some 1) else (some 0))=some r:=h
 clear h;by_cases c2:a0=true
 ·
  subst c2;have H1:(some 1)=some r:=by rw[if_pos rfl] at H;exact H
  clear H;have H:=H1;clear H1;obtain rfl:=Option.some.inj H;go_enter Try.func61,Try.ntmps61;go_wp2;go_ret
  exact ⟨by first|rfl|(simp;done)|(simp[*];done),by repeat (first|exact Drawn0.refl _|apply Drawn0.step)⟩
 ·
  replace c2:=Bool.eq_false_iff.mpr c2;subst c2;have H1:(some 0)=some r:=by rw[if_neg (show ¬ (false=true) by decide)] at H;exact H
  clear H;have H:=H1;clear H1;obtain rfl:=Option.some.inj H;go_enter Try.func61,Try.ntmps61;go_wp2;go_ret
  exact ⟨by first|rfl|(simp;done)|(simp[*];done),by repeat (first|exact Drawn0.refl _|apply Drawn0.step)⟩
def impl_State_code.l0:Nat→Int→List Bool→Int→Int→Option (Int)
 | 0,_,_,_,_=>none
 | k+1,x3,x14,x15,x16=>if x16 < x15 then (if 0≤x16 then (if x16 < (x14.length:Int) then ((impl_bit.f (rdOf false x14 x16)).bind fun t277=>(impl_State_code.l0 k (Go.bits .or .i64 x3 (shl .i64 t277 x16)) x14 x15 (wrap64 (x16+1)))) else (none)) else (none)) else (some x3)
def impl_State_code.f (k:Nat) (l0_0:List Bool) (a0_1:Bool):Option (Int):=(impl_bit.f a0_1).bind fun t275=>(impl_State_code.l0 k (shl .i64 t275 (l0_0.length:Int)) l0_0 (l0_0.length:Int) 0)
theorem impl_State_code.mono_l:∀ k,(∀ y0 y1 y2 y3,LeO (impl_State_code.l0 k y0 y1 y2 y3) (impl_State_code.l0 (k+1) y0 y1 y2 y3))
 | 0=>fun _ _ _ _ r h=>by simp[impl_State_code.l0] at h
 | k+1=>by
  have ih0:=impl_State_code.mono_l k
  ·
   intro y0 y1 y2 y3;unfold impl_State_code.l0
   repeat' first
   | (with_reducible exact ih0 _ _ _ _)
   | (with_reducible exact LeO.refl _)
   | (with_reducible exact LeO.none _)
   | (with_reducible refine LeO.ite ?_ ?_)
   | (with_reducible refine LeO.bind ?_ (fun _=>?_))
   | exact ih0 _ _ _ _
   | exact LeO.none _
   | refine LeO.ite ?_ ?_
   | refine LeO.bind ?_ (fun _=>?_)
theorem impl_State_code.mono:∀ a0 a1 k,LeO (impl_State_code.f k a0 a1) (impl_State_code.f (k+1) a0 a1):=by
 intro a0 a1 k;have ih0:=impl_State_code.mono_l k
 unfold impl_State_code.f
 repeat' first
   | (with_reducible exact ih0 _ _ _ _)
   | (with_reducible exact LeO.refl _)
   | (with_reducible exact LeO.none _)
   | (with_reducible refine LeO.ite ?_ ?_)
   | (with_reducible refine LeO.bind ?_ (fun _=>?_))
   | exact ih0 _ _ _ _
   | exact LeO.none _
   | refine LeO.ite ?_ ?_
   | refine LeO.bind ?_ (fun _=>?_)
set_option maxHeartbeats 8000000 in
set_option maxRecDepth 100000 in
theorem impl_State_code.calls (k:Nat) (A0_0:Option Addr) (c0_0:Nat) (l0_0:List Bool) (a0_1:Bool) (r:Int) (w:World) (hr0_0:Kd.C Kd.bool w A0_0 l0_0.length l0_0) (hc0_0:l0_0.length≤c0_0) (h:impl_State_code.f k l0_0 a0_1=some r) :
  Calls Try.prog 33 #[.agg #[.slice A0_0 l0_0.length c0_0, .bool a0_1]] w fun e w'=>e = .returned (.int .i64 r)∧Below w.heap.size w w':=by
 have hu54:=Try.underlying54
 have HR0_0:=am' hr0_0
 have HC0_0:=am' hc0_0
 clear hr0_0 hc0_0;have HB:=am' (Below.refl w.heap.size w)
 have H:((impl_bit.f a0_1).bind fun t275=>(impl_State_code.l0 k (shl .i64 t275 (l0_0.length:Int)) l0_0 (l0_0.length:Int) 0))=some r:=h
 clear h;replace H:=Option.bind_eq_some_iff.mp H
 obtain ⟨t275,A20,H⟩:=H
 replace H:(impl_State_code.l0 k (shl .i64 t275 (l0_0.length:Int)) l0_0 (l0_0.length:Int) 0)=some r:=H
 have A2:=am' A20
 clear A20;obtain ⟨ji3,hji3⟩:∃ j_:Int,(shl .i64 t275 (l0_0.length:Int))=j_:=⟨_,rfl⟩
 replace H:(impl_State_code.l0 k ji3 l0_0 (l0_0.length:Int) 0)=some r:=by first|(rw[hji3] at H;exact H)|(simp only[hji3] at H ⊢;exact H)
 (try rw [hji3] at A2)
 have hji3_:(IntKind.i64.wrap (t275 * 2 ^ min (l0_0.length:Int).toNat 64))=ji3:=hji3
 have hji3z:(l0_0.length:Int)≤64→(IntKind.i64.wrap (t275 * 2 ^ (l0_0.length:Int).toNat))=ji3:=shl_small hji3
 have hji3p:(IntKind.i64.wrap (t275 * 2 ^ min l0_0.length 64))=ji3:=hji3_
 have hji3q:(l0_0.length:Int)≤64→(IntKind.i64.wrap (t275 * 2 ^ l0_0.length))=ji3:=hji3z
 have hji3y:(wrap64 (t275 * 2 ^ min (l0_0.length:Int).toNat 64))=ji3:=(i64_w _).symm.trans hji3_
 have hji3x:(l0_0.length:Int)≤64→(wrap64 (t275 * 2 ^ (l0_0.length:Int).toNat))=ji3:=fun h_=>(i64_w _).symm.trans (hji3z h_)
 have H':=am' H
 clear H;go_enter Try.func33,Try.ntmps33
 go_wp2_with (first|((with_reducible refine gate_dst (N:=1) rfl ?_);refine box_event ?hg (N:=1) ?hd (cs:=#[.slice A0_0 l0_0.length c0_0, .bool a0_1]) (t:=54) ?hr ?_;(case hd=>rfl);(case hg=>rfl);(case hr=>first|(go_simp;done)|(go_simp;rfl));intro gb274 hg w4 hbox hb;have n0_:=am' (below_step (by repeat (first|(with_reducible first|exact HB.out|apply ba'|apply bd'|apply be')|exact HB.out)) hb);have n1_:=am' (hbox);have n2_:=am' ((by rw[hg];exact (below_size (by repeat (first|(with_reducible first|exact HB.out|apply ba'|apply bd'|apply be')|exact HB.out))):w.heap.size≤gb274));have n3_:=am' ((by rw[hg];exact (below_size (by repeat (first|(with_reducible first|exact HB.out|apply ba'|apply bd'|apply be')|exact HB.out))):w.heap.size≤gb274));clear HB;have HB:=n0_;have BK274:=n1_;have GW274:=n2_;have GE274:=n3_;clear n0_ n1_ n2_ n3_;clear hb hbox hg;have hcz5_0:w4.cell? ⟨gb274,0,none⟩=some (.slice A0_0 l0_0.length c0_0):=(blk_cell BK274.out 0).trans rfl;have hcz5_1:w4.cell? ⟨gb274,1,none⟩=some (.bool a0_1):=(blk_cell BK274.out 1).trans rfl;have hfz5_0:=blk_frozen BK274.out 0;have hfz5_1:=blk_frozen BK274.out 1)|(go_at_call 61;(with_reducible refine (impl_bit.calls a0_1 t275 _ A2.out).mono ?_);rintro e w' ⟨rfl,⟨nd,rfl⟩⟩;(try first|exact ⟨rfl,_,World.drewN_drewN _ _ _⟩|exact ⟨rfl,_,Eq.trans (World.drewN_drewN _ _ _) (congrArg (World.drewN _) (Nat.add_assoc _ _ _))⟩)))
 repeat (go_quiet (first|((with_reducible refine gate_dst (N:=1) rfl ?_);refine box_event ?hg (N:=1) ?hd (cs:=#[.slice A0_0 l0_0.length c0_0, .bool a0_1]) (t:=54) ?hr ?_;(case hd=>rfl);(case hg=>rfl);(case hr=>first|(go_simp;done)|(go_simp;rfl));intro gb274 hg w4 hbox hb;have n0_:=am' (below_step (by repeat (first|(with_reducible first|exact HB.out|apply ba'|apply bd'|apply be')|exact HB.out)) hb);have n1_:=am' (hbox);have n2_:=am' ((by rw[hg];exact (below_size (by repeat (first|(with_reducible first|exact HB.out|apply ba'|apply bd'|apply be')|exact HB.out))):w.heap.size≤gb274));have n3_:=am' ((by rw[hg];exact (below_size (by repeat (first|(with_reducible first|exact HB.out|apply ba'|apply bd'|apply be')|exact HB.out))):w.heap.size≤gb274));clear HB;have HB:=n0_;have BK274:=n1_;have GW274:=n2_;have GE274:=n3_;clear n0_ n1_ n2_ n3_;clear hb hbox hg;have hcz5_0:w4.cell? ⟨gb274,0,none⟩=some (.slice A0_0 l0_0.length c0_0):=(blk_cell BK274.out 0).trans rfl;have hcz5_1:w4.cell? ⟨gb274,1,none⟩=some (.bool a0_1):=(blk_cell BK274.out 1).trans rfl;have hfz5_0:=blk_frozen BK274.out 0;have hfz5_1:=blk_frozen BK274.out 1)|(go_at_call 61;(with_reducible refine (impl_bit.calls a0_1 t275 _ A2.out).mono ?_);rintro e w' ⟨rfl,⟨nd,rfl⟩⟩;(try first|exact ⟨rfl,_,World.drewN_drewN _ _ _⟩|exact ⟨rfl,_,Eq.trans (World.drewN_drewN _ _ _) (congrArg (World.drewN _) (Nat.add_assoc _ _ _))⟩)));try go_wp2_with (first|((with_reducible refine gate_dst (N:=1) rfl ?_);refine box_event ?hg (N:=1) ?hd (cs:=#[.slice A0_0 l0_0.length c0_0, .bool a0_1]) (t:=54) ?hr ?_;(case hd=>rfl);(case hg=>rfl);(case hr=>first|(go_simp;done)|(go_simp;rfl));intro gb274 hg w4 hbox hb;have n0_:=am' (below_step (by repeat (first|(with_reducible first|exact HB.out|apply ba'|apply bd'|apply be')|exact HB.out)) hb);have n1_:=am' (hbox);have n2_:=am' ((by rw[hg];exact (below_size (by repeat (first|(with_reducible first|exact HB.out|apply ba'|apply bd'|apply be')|exact HB.out))):w.heap.size≤gb274));have n3_:=am' ((by rw[hg];exact (below_size (by repeat (first|(with_reducible first|exact HB.out|apply ba'|apply bd'|apply be')|exact HB.out))):w.heap.size≤gb274));clear HB;have HB:=n0_;have BK274:=n1_;have GW274:=n2_;have GE274:=n3_;clear n0_ n1_ n2_ n3_;clear hb hbox hg;have hcz5_0:w4.cell? ⟨gb274,0,none⟩=some (.slice A0_0 l0_0.length c0_0):=(blk_cell BK274.out 0).trans rfl;have hcz5_1:w4.cell? ⟨gb274,1,none⟩=some (.bool a0_1):=(blk_cell BK274.out 1).trans rfl;have hfz5_0:=blk_frozen BK274.out 0;have hfz5_1:=blk_frozen BK274.out 1)|(go_at_call 61;(with_reducible refine (impl_bit.calls a0_1 t275 _ A2.out).mono ?_);rintro e w' ⟨rfl,⟨nd,rfl⟩⟩;(try first|exact ⟨rfl,_,World.drewN_drewN _ _ _⟩|exact ⟨rfl,_,Eq.trans (World.drewN_drewN _ _ _) (congrArg (World.drewN _) (Nat.add_assoc _ _ _))⟩))))
 go_loopg [3,16] k (fun kq v3 v16 w'=>∃ (x3_1:Int) (x16_1:Int),v3 = .int .i64 x3_1∧v16 = .int .i64 x16_1∧Aside0 (impl_State_code.l0 kq x3_1 l0_0 (l0_0.length:Int) x16_1=some r)∧Aside0 (kq≤k)∧Aside0 (w'.heap[gb274]? = some (.cells #[(.slice A0_0 l0_0.length c0_0), .bool a0_1] 54 (0,0)))∧Aside0 (Below w.heap.size w w'))
 case atStart=>exact ⟨(ji3),(0),(by first|rfl|(simp;done)|(simp only[← hji3] <;> (first|rfl|simp))|(simp[*];done)),(by first|rfl|(simp;done)|(simp[*];done)),H',⟨Nat.le_refl _⟩,⟨by (with_reducible repeat (first|refine kn' ?_ _|refine kd' ?_|refine ka' ?_ _));exact BK274.out⟩,⟨by repeat (first|(with_reducible first|exact HB.out|apply ba'|apply bd'|apply be'|refine bs' ?_ GE274.out)|exact HB.out)⟩⟩
 case round =>
  clear H';try clear p2
  try clear c3
  try clear hcz5_0
  try clear hcz5_1
  try clear hfz5_0
  try clear hfz5_1
  obtain ⟨x3_1,x16_1,rfl,rfl,HA,HK1,BK274,HB⟩:=hrel;cases gk with
  | zero=>exact absurd HA.out (by simp[impl_State_code.l0])
  | succ k1 =>
   have H:=HA.out;clear HA;simp only[impl_State_code.l0] at H;by_cases c6:x16_1 < (l0_0.length:Int)
   ·
    rw[if_pos c6] at H;have c6b0:decide (x16_1 < (l0_0.length:Int))=true:=decide_eq_true c6;clear c6;by_cases c7:0≤x16_1
    ·
     rw[if_pos c7] at H;have c7b0:decide (0≤x16_1)=true:=decide_eq_true c7;clear c7;by_cases c8:x16_1 < (l0_0.length:Int)
     ·
      rw[if_pos c8] at H;have c8b0:decide (x16_1 < (l0_0.length:Int))=true:=decide_eq_true c8;clear c8;replace H:=Option.bind_eq_some_iff.mp H;obtain ⟨t277,A90,H⟩:=H;replace H:(impl_State_code.l0 k1 (Go.bits .or .i64 x3_1 (shl .i64 t277 x16_1)) l0_0 (l0_0.length:Int) (wrap64 (x16_1+1)))=some r:=H;have A9:=am' A90;clear A90;have c10b0:=eq_true (of_decide_eq_true (by first|(with_reducible assumption)|assumption):0≤x16_1);obtain ⟨ji11,hji11⟩:∃ j_:Int,(shl .i64 t277 x16_1)=j_:=⟨_,rfl⟩
      replace H:(impl_State_code.l0 k1 (Go.bits .or .i64 x3_1 (ji11)) l0_0 (l0_0.length:Int) (wrap64 (x16_1+1)))=some r:=by first|(rw[hji11] at H;exact H)|(simp only[hji11] at H ⊢;exact H)
      (try rw [hji11] at A9)
      have hji11_:(IntKind.i64.wrap (t277 * 2 ^ min x16_1.toNat 64))=ji11:=hji11;have hji11z:x16_1≤64→(IntKind.i64.wrap (t277 * 2 ^ x16_1.toNat))=ji11:=shl_small hji11;have hji11y:(wrap64 (t277 * 2 ^ min x16_1.toNat 64))=ji11:=(i64_w _).symm.trans hji11_;have hji11x:x16_1≤64→(wrap64 (t277 * 2 ^ x16_1.toNat))=ji11:=fun h_=>(i64_w _).symm.trans (hji11z h_)
      have H':=am' H;clear H;have p276:0≤(x16_1:Int):=of_decide_eq_true (by first|(with_reducible assumption)|assumption);have q276:x16_1 < (l0_0.length:Int):=of_decide_eq_true (by first|(with_reducible assumption)|assumption);obtain ⟨ad276,e276,hx276_0⟩:=Kd.at_bool HR0_0.out x16_1 p276 q276;cases e276;replace hx276_0:=(HB.out.cell (bl' w _ hx276_0)).trans hx276_0;replace p276:=eq_true p276;replace q276:=eq_true q276;go_wp2_with (first|(go_at_call 61;(with_reducible refine (impl_bit.calls (rdOf false l0_0 x16_1) t277 _ A9.out).mono ?_);rintro e w' ⟨rfl,⟨nd,rfl⟩⟩;(try first|exact ⟨rfl,_,World.drewN_drewN _ _ _⟩|exact ⟨rfl,_,Eq.trans (World.drewN_drewN _ _ _) (congrArg (World.drewN _) (Nat.add_assoc _ _ _))⟩)))
      repeat (go_quiet (first|(go_at_call 61;(with_reducible refine (impl_bit.calls (rdOf false l0_0 x16_1) t277 _ A9.out).mono ?_);rintro e w' ⟨rfl,⟨nd,rfl⟩⟩;(try first|exact ⟨rfl,_,World.drewN_drewN _ _ _⟩|exact ⟨rfl,_,Eq.trans (World.drewN_drewN _ _ _) (congrArg (World.drewN _) (Nat.add_assoc _ _ _))⟩)));try go_wp2_with (first|(go_at_call 61;(with_reducible refine (impl_bit.calls (rdOf false l0_0 x16_1) t277 _ A9.out).mono ?_);rintro e w' ⟨rfl,⟨nd,rfl⟩⟩;(try first|exact ⟨rfl,_,World.drewN_drewN _ _ _⟩|exact ⟨rfl,_,Eq.trans (World.drewN_drewN _ _ _) (congrArg (World.drewN _) (Nat.add_assoc _ _ _))⟩))))
      go_roundg k1
      case measure=>have:=HK1.out;omega
      case rel=>exact ⟨(Go.bits .or .i64 x3_1 (ji11)),(wrap64 (x16_1+1)),(by first|rfl|(simp;done)|(simp only[← hji11] <;> (first|rfl|simp))|(simp[*];done)),(by first|rfl|(simp;done)|(simp[*];done)),H',⟨by have:=HK1.out;omega⟩,⟨by (with_reducible repeat (first|refine kn' ?_ _|refine kd' ?_|refine ka' ?_ _));exact BK274.out⟩,⟨by repeat (first|(with_reducible first|exact HB.out|apply ba'|apply bd'|apply be'|refine bs' ?_ GE274.out)|exact HB.out)⟩⟩
     ·
      rw[if_neg c8] at H;exact absurd H (by simp)
    ·
     rw[if_neg c7] at H;exact absurd H (by simp)
   ·
    rw[if_neg c6] at H;have c6b0:decide (x16_1 < (l0_0.length:Int))=false:=decide_eq_false c6;clear c6;obtain rfl:=Option.some.inj H;go_wp2
    repeat (go_quiet (fail);try go_wp2)
    go_ret
    exact ⟨by first|rfl|(simp[errW_none,errW_some] <;> rfl)|(simp only[← hji3];first|rfl|(simp[errW_none,errW_some] <;> rfl))|(simp[*,errW_none,errW_some] <;> rfl),by repeat (first|(with_reducible first|exact HB.out|apply ba'|apply bd'|apply be'|refine bs' ?_ GE274.out)|exact HB.out)⟩
def impl_slowest.l0:Nat→List Int→Int→List Int→Int→Int→Option (Int)
 | 0,_,_,_,_,_=>none
 | k+1,x0,x5,x8,x9,x10=>if x10 < x9 then (if 0≤x10 then (if x10 < (x8.length:Int) then (if 0≤(rd x8 x10) then (if (rd x8 x10) < (x0.length:Int) then (impl_slowest.l0 k x0 (mx x5 (rd x0 (rd x8 x10))) x8 x9 (wrap64 (x10+1))) else (none)) else (none)) else (none)) else (none)) else (some x5)
def impl_slowest.f (k:Nat) (l0:List Int) (l1:List Int):Option (Int):=impl_slowest.l0 k l0 0 l1 (l1.length:Int) 0
set_option maxHeartbeats 8000000 in
set_option maxRecDepth 100000 in
theorem impl_slowest.calls (k:Nat) (A0:Option Addr) (c0:Nat) (l0:List Int) (A1:Option Addr) (c1:Nat) (l1:List Int) (r:Int) (w:World) (hr0:Kd.C (Kd.int .i64) w A0 l0.length l0) (hc0:l0.length≤c0) (hr1:Kd.C (Kd.int .i64) w A1 l1.length l1) (hc1:l1.length≤c1) (h:impl_slowest.f k l0 l1=some r) :
  Calls Try.prog 57 #[.slice A0 l0.length c0, .slice A1 l1.length c1] w fun e w'=>e = .returned (.int .i64 r)∧Below w.heap.size w w':=by
 have HR0:=am' hr0
 have HC0:=am' hc0
 clear hr0 hc0;have HR1:=am' hr1
 have HC1:=am' hc1
 clear hr1 hc1;have HB:=am' (Below.refl w.heap.size w)
 have H:(impl_slowest.l0 k l0 0 l1 (l1.length:Int) 0)=some r:=h
 clear h;have H':=am' H
 clear H;go_enter Try.func57,Try.ntmps57
 go_wp2
 go_loopg [5,10] k (fun kq v5 v10 w'=>∃ (x5_1:Int) (x10_1:Int),v5 = .int .i64 x5_1∧v10 = .int .i64 x10_1∧Aside0 (impl_slowest.l0 kq l0 x5_1 l1 (l1.length:Int) x10_1=some r)∧Aside0 (kq≤k)∧Aside0 (Below w.heap.size w w'))
 case atStart=>exact ⟨(0),(0),(by first|rfl|(simp;done)|(simp[*];done)),(by first|rfl|(simp;done)|(simp[*];done)),H',⟨Nat.le_refl _⟩,⟨by repeat (first|(with_reducible first|exact HB.out|apply ba'|apply bd'|apply be')|exact HB.out)⟩⟩
 case round =>
  clear H';try clear c1
  try clear p2
  obtain ⟨x5_1,x10_1,rfl,rfl,HA,HK1,HB⟩:=hrel;cases gk with
  | zero=>exact absurd HA.out (by simp[impl_slowest.l0])
  | succ k1 =>
   have H:=HA.out;clear HA;simp only[impl_slowest.l0] at H;by_cases c3:x10_1 < (l1.length:Int)
   ·
    rw[if_pos c3] at H;have c3b0:decide (x10_1 < (l1.length:Int))=true:=decide_eq_true c3;clear c3;by_cases c4:0≤x10_1
    ·
     rw[if_pos c4] at H;have c4b0:decide (0≤x10_1)=true:=decide_eq_true c4;clear c4;by_cases c5:x10_1 < (l1.length:Int)
     ·
      rw[if_pos c5] at H;have c5b0:decide (x10_1 < (l1.length:Int))=true:=decide_eq_true c5;clear c5;by_cases c6:0≤(rd l1 x10_1)
      ·
       rw[if_pos c6] at H;have c6b0:decide (0≤(rd l1 x10_1))=true:=decide_eq_true c6;clear c6;by_cases c7:(rd l1 x10_1) < (l0.length:Int)
       ·
        rw[if_pos c7] at H;have c7b0:decide ((rd l1 x10_1) < (l0.length:Int))=true:=decide_eq_true c7;clear c7;obtain ⟨ji8,hji8⟩:∃ j_:Int,(mx x5_1 (rd l0 (rd l1 x10_1)))=j_:=⟨_,rfl⟩
        replace H:(impl_slowest.l0 k1 l0 ji8 l1 (l1.length:Int) (wrap64 (x10_1+1)))=some r:=by first|(rw[hji8] at H;exact H)|(simp only[hji8] at H ⊢;exact H)
        have hji8_:(if x5_1 < (rd l0 (rd l1 x10_1)) then (rd l0 (rd l1 x10_1)) else x5_1)=ji8:=hji8;have H':=am' H;clear H;have p278:0≤(x10_1:Int):=of_decide_eq_true (by first|(with_reducible assumption)|assumption);have q278:x10_1 < (l1.length:Int):=of_decide_eq_true (by first|(with_reducible assumption)|assumption);obtain ⟨ad278,e278,hx278_0⟩:=Kd.at_int HR1.out x10_1 p278 q278;cases e278;replace hx278_0:=(HB.out.cell (bl' w _ hx278_0)).trans hx278_0;replace p278:=eq_true p278;replace q278:=eq_true q278;have p279:0≤((rd l1 x10_1):Int):=of_decide_eq_true (by first|(with_reducible assumption)|assumption);have q279:(rd l1 x10_1) < (l0.length:Int):=of_decide_eq_true (by first|(with_reducible assumption)|assumption);obtain ⟨ad279,e279,hx279_0⟩:=Kd.at_int HR0.out (rd l1 x10_1) p279 q279;cases e279;replace hx279_0:=(HB.out.cell (bl' w _ hx279_0)).trans hx279_0;replace p279:=eq_true p279;replace q279:=eq_true q279;go_wp2;go_roundg k1
        case measure=>have:=HK1.out;omega
        case rel=>exact ⟨(ji8),(wrap64 (x10_1+1)),(by first|rfl|(simp;done)|(simp only[← hji8] <;> (first|rfl|simp))|(simp[*];done)),(by first|rfl|(simp;done)|(simp[*];done)),H',⟨by have:=HK1.out;omega⟩,⟨by repeat (first|(with_reducible first|exact HB.out|apply ba'|apply bd'|apply be')|exact HB.out)⟩⟩
       ·
        rw[if_neg c7] at H;exact absurd H (by simp)
      ·
       rw[if_neg c6] at H;exact absurd H (by simp)
     ·
      rw[if_neg c5] at H;exact absurd H (by simp)
    ·
     rw[if_neg c4] at H;exact absurd H (by simp)
   ·
    rw[if_neg c3] at H;have c3b0:decide (x10_1 < (l1.length:Int))=false:=decide_eq_false c3;clear c3;obtain rfl:=Option.some.inj H;go_wp2;go_ret
    exact ⟨by first|rfl|(simp[errW_none,errW_some] <;> rfl)|(simp[*,errW_none,errW_some] <;> rfl),by repeat (first|(with_reducible first|exact HB.out|apply ba'|apply bd'|apply be')|exact HB.out)⟩
def slices_Clone_bool_bool.f (l0:List Bool):Option (List Bool):=if l0.length < 140737488355328 then some l0 else none
set_option maxHeartbeats 2000000 in
set_option maxRecDepth 100000 in
theorem slices_Clone_bool_bool.calls (A0:Option Addr) (c0:Nat) (l0:List Bool) (r:List Bool) (w:World) (hr0:Kd.C Kd.bool w A0 l0.length l0) (hc0:l0.length≤c0) (h:slices_Clone_bool_bool.f l0=some r) :
  Calls Try.prog 70 #[.slice A0 l0.length c0] w fun e w'=>∃ v0_:Value,e = .returned (v0_)∧Kd.R Kd.bool 4 w' w.heap.size (fun _=>True) v0_ r∧Below w.heap.size w w':=by
 have hinfo:(Try.prog.info? 4).map (fun i=>(i.zero,i.size,i.bytes))=some (some (.bool false),1,1):=by kernel_rfl
 obtain ⟨hlim,rfl⟩:l0.length < 140737488355328∧l0=r:=by
  unfold slices_Clone_bool_bool.f at h
  by_cases hl:l0.length < 140737488355328
  ·
   rw[if_pos hl] at h;exact ⟨hl,Option.some.inj h⟩
  ·
   rw[if_neg hl] at h;cases h
 clear h;cases A0 with
 | none =>
  obtain rfl:l0=[]:=by
   cases l0 with
   | nil=>rfl
   | cons x l=>obtain ⟨_,e,_⟩:=hr0.2.2 (by simp);cases e
  clear hr0 hc0 hlim hinfo;have heq:=fun (w:World) (n c:Nat)=>Lib.run_eql_slice_nil (P:=Try.prog) w 52 4 none n c 0 0 Try.underlying52
  go_enter Try.func70,Try.ntmps70;go_wp2;go_ret
  exact ⟨_,rfl,Kd.R_nil _ _ _ _ _,Below.refl _ _⟩
 | some a =>
  have HR0:=am' hr0;have HL:=am' hlim;have hie:=am' hinfo;clear hr0 hc0 hlim hinfo;have HB:=am' (Below.refl w.heap.size w);have heq:=fun (w:World) (n c:Nat)=>Lib.run_eql_slice_nil (P:=Try.prog) w 52 4 (some a) n c 0 0 Try.underlying52
  go_enter Try.func70,Try.ntmps70;go_wp2_with (first|((with_reducible refine gate_dst (N:=5) rfl ?_);refine Kd.R_lit Kd.bool _ 4 ?hg (N:=5) ?hd (xs:=([]:List Bool)) (inner:=[]) (ok:=fun _=>True) (okp:=fun _=>True) ?hr ?hp (fun _ hk=>hk) trivial (Below.refl _ _) (Nat.le_refl _) (by simp) ?_;(case hd=>rfl);(case hg=>rfl);(case hr=>first|(go_simp;done)|(go_simp;rfl));(case hp=>exact (Reps.none _ _));intro v210 w3 ho4 hb hg_ hnew_;clear hg_ hnew_;have n0_:=am' (Kd.R_lower ho4 (below_size HB.out));have n1_:=am' (below_step HB.out hb);clear HB;have HO211:=n0_;have HB:=n1_;clear n0_ n1_;clear hb ho4)|((with_reducible refine gate_builtin (b := .append) (xs:=#[.tmp 5, .tmp 6]) rfl ?_);at_builtin;refine Kd.R_append_rows Kd.bool (w0:=w) w.heap.size rfl (.tmp 5) (.tmp 6) 52 4 (.bool false) 1 rfl Try.underlying52 hie.out rfl (by decide) (by omega) v210 [] l0 _ _ _ (fun _=>True) (fun _=>False) rfl rfl ?aO ?aR (fun _ _ h=>h) (fun _ h=>h.elim) ?aF ?aB ?aS ?aL ?_;(case aR=>exact (Kd.C_below HR0.out HB.out));(case aB=>exact HB.out);(case aF=>exact (fun _ _=>trivial));(case aO=>exact HO211.out);(case aS=>exact (below_size HB.out));(case aL=>have:=HL.out;simp;omega);intro v213 w5 ho hb hg hat;have n0_:=am' (hb);have n1_:=am' (ho);clear HB;clear HO211;have HB:=n0_;have HO214:=n1_;clear n0_ n1_;clear ho hb hg hat));go_ret
  exact ⟨_,rfl,by simpa using HO214.out,HB.out⟩
end Go.Proofs.Ytihieplobgehaaa.C1
