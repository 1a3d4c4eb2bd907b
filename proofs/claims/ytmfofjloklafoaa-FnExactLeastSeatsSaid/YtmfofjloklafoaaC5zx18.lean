import Derived.Test.YtmfofjloklafoaaC5zx0
import Derived.Test.YtmfofjloklafoaaC5zx1
import Derived.Test.YtmfofjloklafoaaC5zx2
import Derived.Test.YtmfofjloklafoaaC5zx11
import Derived.Test.YtmfofjloklafoaaC5zx17
import Derived.Test.YtmfofjloklafoaaC5zAl
namespace Go.Proofs.Ytmfofjloklafoaa.C5
open Go.RowKit Go.Proofs.YtmfofjloklafoaaW.PrintWords Go.Proofs.YtmfofjloklafoaaW.PrintLast Go.Proofs.YtmfofjloklafoaaW.PrintMore Go.Proofs.Ytmfofjloklafoaa.H
attribute [local go_sem] max2_int min2_int max_two min_two max_three min_three max_four min_four
set_option linter.unusedVariables false
set_option linter.unusedSimpArgs false
mutual
def laws_FnExactLeastSeats.j0:Nat→Int→List (List Int)→Int→Option (Bool)
 | 0,_,_,_=>none
 | k+1,x407000,x407001,x407002=>(laws_toKeep.f k x407000 x407001 x407002).bind fun bt408=>((spec_LeastSeats.f k bt408.1 bt408.2.1 bt408.2.2).bind fun bt413=>((laws_toKeep.f k x407000 x407001 x407002).bind fun bt415=>((impl_LeastSeats.f k bt415.1 bt415.2.1 bt415.2.2).bind fun bt421=>(if bt421.1=bt413.1 then (laws_FnExactLeastSeats.j1 k (bt421.2 != bt413.2) x407000 x407001 x407002 bt415.1 bt415.2.1 bt415.2.2) else (laws_FnExactLeastSeats.j1 k true x407000 x407001 x407002 bt415.1 bt415.2.1 bt415.2.2)))))
def laws_FnExactLeastSeats.j1:Nat→Bool→Int→List (List Int)→Int→Int→List (List Int)→Int→Option (Bool)
 | 0,_,_,_,_,_,_,_=>none
 | k+1,x34,x407000,x407001,x407002,x421000,x421001,x421002=>if x34=true then (some false) else (laws_FnExactLeastSeats.j2 k x407000 x407001 x407002 x421000 x421001 x421002)
def laws_FnExactLeastSeats.j2:Nat→Int→List (List Int)→Int→Int→List (List Int)→Int→Option (Bool)
 | 0,_,_,_,_,_,_=>none
 | k+1,x407000,x407001,x407002,x421000,x421001,x421002=>(laws_toKeep.f k x407000 x407001 x407002).bind fun bt423=>((laws_eqKeep.f k x421000 x421001 x421002 bt423.1 bt423.2.1 bt423.2.2).bind fun t428=>(if t428=true then (some true) else (some false)))
end
def laws_FnExactLeastSeats.f (k:Nat) (a0_0:Int) (l0_1:List (List Int)) (a0_2:Int):Option (Bool):=(laws_szKeep.f k a0_0 l0_1 a0_2 1048576).bind fun t407=>(if t407 < 0 then (some true) else (laws_FnExactLeastSeats.j0 k a0_0 l0_1 a0_2))
set_option maxHeartbeats 8000000 in
set_option maxRecDepth 100000 in
theorem laws_FnExactLeastSeats.calls (k:Nat) (a0_0:Int) (A0_1:Option Addr) (c0_1:Nat) (l0_1:List (List Int)) (a0_2:Int) (r:Bool) (w:World) (hr0_1:Kd.C (Kd.slice 3 (Kd.int .i64)) w A0_1 l0_1.length l0_1) (hc0_1:l0_1.length≤c0_1) (h:laws_FnExactLeastSeats.f k a0_0 l0_1 a0_2=some r) :
  Calls Try.prog 5 #[.agg #[.int .i64 a0_0, .slice A0_1 l0_1.length c0_1, .int .i64 a0_2]] w fun e w'=>e = .returned (.bool r)∧Below w.heap.size w w':=by
 have hu24:=Try.underlying24
 have hu32:=Try.underlying32
 have HR0_1:=am' hr0_1
 have HC0_1:=am' hc0_1
 clear hr0_1 hc0_1;have HB:=am' (Below.refl w.heap.size w)
 have H:((laws_szKeep.f k a0_0 l0_1 a0_2 1048576).bind fun t407=>(if t407 < 0 then (some true) else (laws_FnExactLeastSeats.j0 k a0_0 l0_1 a0_2)))=some r:=h
 clear h;replace H:=Option.bind_eq_some_iff.mp H
 obtain ⟨t407,A20,H⟩:=H
 replace H:(if t407 < 0 then (some true) else (laws_FnExactLeastSeats.j0 k a0_0 l0_1 a0_2))=some r:=H
 have A2:=am' A20
 clear A20;have HC3:=am' H
 clear H;go_enter Try.func5,Try.ntmps5
 go_upto_if 13 with (first|((with_reducible refine gate_dst (N:=1) rfl ?_);refine box_event ?hg (N:=1) ?hd (cs:=#[.int .i64 a0_0, .slice A0_1 l0_1.length c0_1, .int .i64 a0_2]) (t:=24) ?hr ?_;(case hd=>rfl);(case hg=>rfl);(case hr=>first|(go_simp;done)|(go_simp;rfl));intro gb406 hg w4 hbox hb;have n0_:=am' (bt' xb' hb);have n1_:=am' (hbox);have n2_:=am' ((by rw[hg];exact (bz' xb'):w.heap.size≤gb406));have n3_:=am' ((by rw[hg];exact (bz' xb'):w.heap.size≤gb406));clear HB;have HB:=n0_;have BK406:=n1_;have GW406:=n2_;have GE406:=n3_;clear n0_ n1_ n2_ n3_;clear hb hbox hg;have hcz5_0:w4.cell? ⟨gb406,0,none⟩=some (.int .i64 a0_0):=(bc' BK406.out 0).trans rfl;have hcz5_1:w4.cell? ⟨gb406,1,none⟩=some (.slice A0_1 l0_1.length c0_1):=(bc' BK406.out 1).trans rfl;have hcz5_2:w4.cell? ⟨gb406,2,none⟩=some (.int .i64 a0_2):=(bc' BK406.out 2).trans rfl;have hfz5_0:=bf' BK406.out 0;have hfz5_1:=bf' BK406.out 1;have hfz5_2:=bf' BK406.out 2)|((with_reducible refine gate_callee (f:=9) rfl ?_);refine goesL_ (some 11) rfl rfl Try.func9 xk' rfl #[.agg #[.int .i64 a0_0, .slice A0_1 l0_1.length c0_1, .int .i64 a0_2], .int .i64 1048576] rfl xl' ?_;(with_reducible refine (laws_szKeep.calls k a0_0 _ _ l0_1 a0_2 1048576 t407 _ ?side1 ?side2 A2.out).mono ?_);(case side1=>exact kc' (cb' HR0_1.out HB.out));(case side2=>exact HC0_1.out);rintro e w6 ⟨rfl,hb⟩;refine ⟨_,rfl,?_⟩;have n0_:=am' (bb' (g:=gb406) (o := .cells #[.int .i64 a0_0, .slice A0_1 l0_1.length c0_1, .int .i64 a0_2] 24 (0,0)) (kk' BK406.out) hb);have n1_:=am' (bt' (yb' GE406.out) hb);clear BK406;clear HB;have BK406:=n0_;have HB:=n1_;clear n0_ n1_;(try clear hb);(try clear hb2);(try clear hk);(try clear hi)))
 (try simp only[Act.put,sa',sb',sc'])
 go_cut [] (fun wc=>∃ (kq:Nat),Aside0 (laws_FnExactLeastSeats.j0 kq a0_0 l0_1 a0_2=some r)∧Aside0 (kq≤k)∧Aside0 (wc.heap[gb406]? = some (.cells #[.int .i64 a0_0,(.slice A0_1 l0_1.length c0_1), .int .i64 a0_2] 24 (0,0)))∧Aside0 (Below w.heap.size w wc))
 case first =>
  have H:=HC3.out;clear HC3;by_cases c7:t407 < 0
  ·
   rw[if_pos c7] at H;have c7b0:decide (t407 < 0)=true:=dt' c7;clear c7;(first|rw[c7b0]|(simp only[i64_w,i32_w];rw[c7b0])|skip)
   obtain rfl:=os' H;go_wp2;go_ret
   exact ⟨by first|rfl|(simp[errW_none,errW_some] <;> rfl)|(simp[*,errW_none,errW_some] <;> rfl),yb' GE406.out⟩
  ·
   rw[if_neg c7] at H;have c7b0:decide (t407 < 0)=false:=df' c7;clear c7;(first|rw[c7b0]|(simp only[i64_w,i32_w];rw[c7b0])|skip)
   have H':=am' H;clear H;go_wp2;go_meet
   case rel=>exact ⟨_,H',⟨by first|omega|exact Nat.le_refl _⟩,⟨kk' BK406.out⟩,⟨yb' GE406.out⟩⟩
 case rest =>
  clear HC3;try clear p2
  try clear c5
  try clear c7
  try clear c7b0
  try clear hcz5_0
  try clear hcz5_1
  try clear hcz5_2
  try clear hfz5_0
  try clear hfz5_1
  try clear hfz5_2
  obtain ⟨kq,HA,HJ2,BK406,HB⟩:=hcut;cases kq with
  | zero=>exact absurd HA.out (by simp[laws_FnExactLeastSeats.j0])
  | succ kj2 =>
   have H:=HA.out;clear HA;simp only[laws_FnExactLeastSeats.j0] at H;replace H:=Option.bind_eq_some_iff.mp H;obtain ⟨⟨t408,t409,t412⟩,A80,H⟩:=H;replace H:((spec_LeastSeats.f kj2 t408 t409 t412).bind fun bt413=>((laws_toKeep.f kj2 a0_0 l0_1 a0_2).bind fun bt415=>((impl_LeastSeats.f kj2 bt415.1 bt415.2.1 bt415.2.2).bind fun bt421=>(if bt421.1=bt413.1 then (laws_FnExactLeastSeats.j1 kj2 (bt421.2 != bt413.2) a0_0 l0_1 a0_2 bt415.1 bt415.2.1 bt415.2.2) else (laws_FnExactLeastSeats.j1 kj2 true a0_0 l0_1 a0_2 bt415.1 bt415.2.1 bt415.2.2)))))=some r:=H;have A8:=am' A80;clear A80;replace H:=Option.bind_eq_some_iff.mp H;obtain ⟨⟨t413,t414⟩,A90,H⟩:=H;replace H:((laws_toKeep.f kj2 a0_0 l0_1 a0_2).bind fun bt415=>((impl_LeastSeats.f kj2 bt415.1 bt415.2.1 bt415.2.2).bind fun bt421=>(if bt421.1=t413 then (laws_FnExactLeastSeats.j1 kj2 (bt421.2 != t414) a0_0 l0_1 a0_2 bt415.1 bt415.2.1 bt415.2.2) else (laws_FnExactLeastSeats.j1 kj2 true a0_0 l0_1 a0_2 bt415.1 bt415.2.1 bt415.2.2))))=some r:=H;have A9:=am' A90;clear A90;replace H:=Option.bind_eq_some_iff.mp H;obtain ⟨⟨t415,t416,t419⟩,A100,H⟩:=H;replace H:((impl_LeastSeats.f kj2 t415 t416 t419).bind fun bt421=>(if bt421.1=t413 then (laws_FnExactLeastSeats.j1 kj2 (bt421.2 != t414) a0_0 l0_1 a0_2 t415 t416 t419) else (laws_FnExactLeastSeats.j1 kj2 true a0_0 l0_1 a0_2 t415 t416 t419)))=some r:=H;have A10:=am' A100;clear A100;replace H:=Option.bind_eq_some_iff.mp H;obtain ⟨⟨t421,t422⟩,A110,H⟩:=H;replace H:(if t421=t413 then (laws_FnExactLeastSeats.j1 kj2 (t422 != t414) a0_0 l0_1 a0_2 t415 t416 t419) else (laws_FnExactLeastSeats.j1 kj2 true a0_0 l0_1 a0_2 t415 t416 t419))=some r:=H;have A11:=am' A110;clear A110;have HC12:=am' H;clear H;have hcz13_0:wc.cell? ⟨gb406,0,none⟩=some (.int .i64 a0_0):=(bc' BK406.out 0).trans rfl;have hcz13_1:wc.cell? ⟨gb406,1,none⟩=some (.slice A0_1 l0_1.length c0_1):=(bc' BK406.out 1).trans rfl;have hcz13_2:wc.cell? ⟨gb406,2,none⟩=some (.int .i64 a0_2):=(bc' BK406.out 2).trans rfl;have hfz13_0:=bf' BK406.out 0;have hfz13_1:=bf' BK406.out 1;have hfz13_2:=bf' BK406.out 2;go_upto_region 8 with (first|((with_reducible refine gate_callee (f:=12) rfl ?_);refine goesL_ (some 16) rfl rfl Try.func12 xk' rfl #[.agg #[.int .i64 a0_0, .slice A0_1 l0_1.length c0_1, .int .i64 a0_2]] rfl xl' ?_;(with_reducible refine (laws_toKeep.calls kj2 a0_0 _ _ l0_1 a0_2 t408 t409 t412 _ ?side1 ?side2 A8.out).mono ?_);(case side1=>exact kc' (cb' HR0_1.out HB.out));(case side2=>exact HC0_1.out);rintro e w14 ⟨v410,rfl,ho0,hb⟩;refine ⟨_,rfl,?_⟩;obtain ⟨D429_,hdl_,hdg_⟩:=dlt_of hb;have D429_lt:=am' hdl_;have D429_ge:=am' hdg_;clear hdl_ hdg_;have n0_:=am' (Kd.S_lower (Kd.S_dge ho0 D429_ge.out) (bz' (yb' GE406.out)));have n1_:=am' (bb' (g:=gb406) (o := .cells #[.int .i64 a0_0, .slice A0_1 l0_1.length c0_1, .int .i64 a0_2] 24 (0,0)) (kk' BK406.out) hb);have n2_:=am' (bt' (yb' GE406.out) hb);clear BK406;clear HB;have HO411:=n0_;have BK406:=n1_;have HB:=n2_;clear n0_ n1_ n2_;(try clear hb);(try clear hb2);(try clear hk);(try clear hi);(try clear ho0);obtain ⟨Ao15,co15,eo15⟩:=Kd.S_slice HO411.out;subst eo15)|((with_reducible refine gate_callee (f:=27) rfl ?_);refine goesL_ (some 17) rfl rfl Try.func27 xk' rfl #[.agg #[.int .i64 t408, .slice Ao15 t409.length co15, .int .i64 t412]] rfl xl' ?_;(with_reducible refine (spec_LeastSeats.calls kj2 t408 _ _ t409 t412 t413 t414 _ ?side1 ?side2 A9.out).mono ?_);(case side1=>exact kc' ((Kd.S_reads' HO411.out).2.2));(case side2=>exact (Kd.S_reads' HO411.out).2.1);rintro e w16 ⟨rfl,hb⟩;refine ⟨_,rfl,?_⟩;have n0_:=am' (Kd.S_below (kS' HO411.out) hb);have n1_:=am' (bb' (g:=gb406) (o := .cells #[.int .i64 a0_0, .slice A0_1 l0_1.length c0_1, .int .i64 a0_2] 24 (0,0)) (kk' BK406.out) hb);have n2_:=am' (bt' (yb' GE406.out) hb);clear HO411;clear BK406;clear HB;have HO411:=n0_;have BK406:=n1_;have HB:=n2_;clear n0_ n1_ n2_;(try clear hb);(try clear hb2);(try clear hk);(try clear hi);have hcz17_0:w16.cell? ⟨gb406,0,none⟩=some (.int .i64 a0_0):=(bc' BK406.out 0).trans rfl;have hcz17_1:w16.cell? ⟨gb406,1,none⟩=some (.slice A0_1 l0_1.length c0_1):=(bc' BK406.out 1).trans rfl;have hcz17_2:w16.cell? ⟨gb406,2,none⟩=some (.int .i64 a0_2):=(bc' BK406.out 2).trans rfl;have hfz17_0:=bf' BK406.out 0;have hfz17_1:=bf' BK406.out 1;have hfz17_2:=bf' BK406.out 2)|((with_reducible refine gate_callee (f:=12) rfl ?_);refine goesL_ (some 21) rfl rfl Try.func12 xk' rfl #[.agg #[.int .i64 a0_0, .slice A0_1 l0_1.length c0_1, .int .i64 a0_2]] rfl xl' ?_;(with_reducible refine (laws_toKeep.calls kj2 a0_0 _ _ l0_1 a0_2 t415 t416 t419 _ ?side1 ?side2 A10.out).mono ?_);(case side1=>exact kc' (cb' HR0_1.out HB.out));(case side2=>exact HC0_1.out);rintro e w18 ⟨v417,rfl,ho0,hb⟩;refine ⟨_,rfl,?_⟩;obtain ⟨D430_,hdl_,hdg_⟩:=dlt_of hb;have D430_lt:=am' hdl_;have D430_ge:=am' hdg_;clear hdl_ hdg_;have n0_:=am' (Kd.S_elder' (Kd.S_dlt (kS' HO411.out) D430_lt.out) (Kd.S_base ho0) hb);have n1_:=am' (Kd.S_lower (Kd.S_new' (Kd.S_dge ho0 D430_ge.out) (Kd.S_lt (kS' HO411.out))) (bz' (yb' GE406.out)));have n2_:=am' (bb' (g:=gb406) (o := .cells #[.int .i64 a0_0, .slice A0_1 l0_1.length c0_1, .int .i64 a0_2] 24 (0,0)) (kk' BK406.out) hb);have n3_:=am' (bt' (yb' GE406.out) hb);clear HO411;clear BK406;clear HB;have HO411:=n0_;have HO418:=n1_;have BK406:=n2_;have HB:=n3_;clear n0_ n1_ n2_ n3_;(try clear hb);(try clear hb2);(try clear hk);(try clear hi);(try clear ho0))|((with_reducible refine gate_dst (N:=6) rfl ?_);refine box_event ?hg (N:=6) ?hd (cs:=#[.int .i64 0, .slice none 0 0, .int .i64 0]) (t:=32) ?hr ?_;(case hd=>rfl);(case hg=>rfl);(case hr=>first|(go_simp;done)|(go_simp;rfl));intro gb420 hg w19 hbox hb;have n0_:=am' (Kd.S_below (kS' HO411.out) hb);have n1_:=am' (Kd.S_below (kS' HO418.out) hb);have n2_:=am' (bb' (g:=gb406) (o := .cells #[.int .i64 a0_0, .slice A0_1 l0_1.length c0_1, .int .i64 a0_2] 24 (0,0)) (kk' BK406.out) hb);have n3_:=am' (bt' (yb' GE406.out) hb);have n4_:=am' (hbox);have n5_:=am' ((by rw[hg];exact (bz' (yb' GE406.out)):w.heap.size≤gb420));have n6_:=am' ((by rw[hg];exact (bz' (yb' GE406.out)):w.heap.size≤gb420));have n7_:=am' ((by rw[hg];exact Nat.ne_of_lt (blk_lt (g:=gb406) (o := .cells #[.int .i64 a0_0, .slice A0_1 l0_1.length c0_1, .int .i64 a0_2] 24 (0,0)) (kk' BK406.out)):gb406≠gb420));have n8_:=am' ((by rw[hg];exact Nat.ne_of_gt (blk_lt (g:=gb406) (o := .cells #[.int .i64 a0_0, .slice A0_1 l0_1.length c0_1, .int .i64 a0_2] 24 (0,0)) (kk' BK406.out)):gb420≠gb406));clear HO411;clear HO418;clear BK406;clear HB;have HO411:=n0_;have HO418:=n1_;have BK406:=n2_;have HB:=n3_;have BK420:=n4_;have GW420:=n5_;have GE420:=n6_;have NB406_420:=n7_;have NB420_406:=n8_;clear n0_ n1_ n2_ n3_ n4_ n5_ n6_ n7_ n8_;clear hb hbox hg;have hnb20:=NB420_406.out;have hnc20:=NB406_420.out;have hcz21_0:w19.cell? ⟨gb420,0,none⟩=some (.int .i64 0):=(bc' BK420.out 0).trans rfl;have hcz21_1:w19.cell? ⟨gb420,1,none⟩=some (.slice none 0 0):=(bc' BK420.out 1).trans rfl;have hcz21_2:w19.cell? ⟨gb420,2,none⟩=some (.int .i64 0):=(bc' BK420.out 2).trans rfl;have hfz21_0:=bf' BK420.out 0;have hfz21_1:=bf' BK420.out 1;have hfz21_2:=bf' BK420.out 2;obtain ⟨Ao22,co22,eo22⟩:=Kd.S_slice HO418.out;subst eo22)|((with_reducible refine gate_callee (f:=28) rfl ?_);refine goesL_ (some 24) rfl rfl Try.func28 xk' rfl #[.agg #[.int .i64 t415, .slice Ao22 t416.length co22, .int .i64 t419]] rfl xl' ?_;(with_reducible refine (impl_LeastSeats.calls kj2 t415 _ _ t416 t419 t421 t422 _ ?side1 ?side2 A11.out).mono ?_);(case side1=>refine (Kd.S_reads' (e:=43) (base:=w.heap.size) (ok:=fun k_=>((True∧¬ D430_ k_)∧some k_≠(.slice Ao15 t409.length co15:Value).ownBlock)) (n:=t416.length) (c:=co22) ?_).2.2;exact (by (with_reducible repeat (first|apply Kd.S_alloc|apply Kd.S_drewN|apply Kd.S_drew));exact (Kd.S_mono (Kd.S_far (p:=⟨gb420,2,none⟩) (Kd.S_far (p:=⟨gb420,1,none⟩) (Kd.S_far (p:=⟨gb420,0,none⟩) (Kd.S_types HO418.out BK420.out (by decide)) (fun _ hk=>hk.2) (.int .i64 t415)) (fun _ hk=>hk.2) (.slice Ao22 t416.length co22)) (fun _ hk=>hk.2) (.int .i64 t419)) (fun _ h_=>h_.1))));(case side2=>exact (Kd.S_reads' HO418.out).2.1);rintro e w23 ⟨rfl,hb⟩;refine ⟨_,rfl,?_⟩;have n0_:=am' (Kd.S_below (by (with_reducible repeat (first|apply Kd.S_alloc|apply Kd.S_drewN|apply Kd.S_drew));exact (Kd.S_mono (Kd.S_far (p:=⟨gb420,2,none⟩) (Kd.S_far (p:=⟨gb420,1,none⟩) (Kd.S_far (p:=⟨gb420,0,none⟩) (Kd.S_types HO411.out BK420.out (by decide)) (fun _ hk=>hk.2) (.int .i64 t415)) (fun _ hk=>hk.2) (.slice Ao22 t416.length co22)) (fun _ hk=>hk.2) (.int .i64 t419)) (fun _ h_=>h_.1))) hb);have n1_:=am' (Kd.S_below (by (with_reducible repeat (first|apply Kd.S_alloc|apply Kd.S_drewN|apply Kd.S_drew));exact (Kd.S_mono (Kd.S_far (p:=⟨gb420,2,none⟩) (Kd.S_far (p:=⟨gb420,1,none⟩) (Kd.S_far (p:=⟨gb420,0,none⟩) (Kd.S_types HO418.out BK420.out (by decide)) (fun _ hk=>hk.2) (.int .i64 t415)) (fun _ hk=>hk.2) (.slice Ao22 t416.length co22)) (fun _ hk=>hk.2) (.int .i64 t419)) (fun _ h_=>h_.1))) hb);have n2_:=am' (bb' (g:=gb406) (o := .cells #[.int .i64 a0_0, .slice A0_1 l0_1.length c0_1, .int .i64 a0_2] 24 (0,0)) (by (with_reducible repeat (first|refine kn' ?_ _|refine kd' ?_|refine ka' ?_ _));refine blk_far ?_ NB406_420.out _;(with_reducible repeat (first|refine kn' ?_ _|refine kd' ?_|refine ka' ?_ _));refine blk_far ?_ NB406_420.out _;(with_reducible repeat (first|refine kn' ?_ _|refine kd' ?_|refine ka' ?_ _));refine blk_far ?_ NB406_420.out _;(with_reducible repeat (first|refine kn' ?_ _|refine kd' ?_|refine ka' ?_ _));exact BK406.out) hb);have n3_:=am' (bb' (g:=gb420) (o := .cells #[.int .i64 t415, .slice Ao22 t416.length co22, .int .i64 t419] 32 (0,0)) (by (with_reducible repeat (first|refine kn' ?_ _|refine kd' ?_|refine ka' ?_ _));refine blk_put (cs:=#[.int .i64 t415, .slice Ao22 t416.length co22, .int .i64 0]) ?_ 2 _ rfl;(with_reducible repeat (first|refine kn' ?_ _|refine kd' ?_|refine ka' ?_ _));refine blk_put (cs:=#[.int .i64 t415, .slice none 0 0, .int .i64 0]) ?_ 1 _ rfl;(with_reducible repeat (first|refine kn' ?_ _|refine kd' ?_|refine ka' ?_ _));refine blk_put (cs:=#[.int .i64 0, .slice none 0 0, .int .i64 0]) ?_ 0 _ rfl;(with_reducible repeat (first|refine kn' ?_ _|refine kd' ?_|refine ka' ?_ _));exact BK420.out) hb);have n4_:=am' (bt' (y2' GE406.out GE420.out) hb);clear HO411;clear HO418;clear BK406;clear BK420;clear HB;have HO411:=n0_;have HO418:=n1_;have BK406:=n2_;have BK420:=n3_;have HB:=n4_;clear n0_ n1_ n2_ n3_ n4_;(try clear hb);(try clear hb2);(try clear hk);(try clear hi)))
   (try simp only[Act.put,sa',sb',sc'])
   go_cut [34] (fun v34 wc=>∃ (kq:Nat) (x34_11:Bool),v34 = .bool x34_11∧Aside0 (laws_FnExactLeastSeats.j1 kq x34_11 a0_0 l0_1 a0_2 t415 t416 t419=some r)∧Aside0 (kq≤kj2)∧Aside0 (Kd.S (Kd.slice 3 (Kd.int .i64)) 43 wc w.heap.size (fun k_=>¬ D430_ k_) (.slice Ao22 t416.length co22) t416)∧Aside0 (wc.heap[gb406]? = some (.cells #[.int .i64 a0_0,(.slice A0_1 l0_1.length c0_1), .int .i64 a0_2] 24 (0,0)))∧Aside0 (wc.heap[gb420]? = some (.cells #[.int .i64 t415,(.slice Ao22 t416.length co22), .int .i64 t419] 32 (0,0)))∧Aside0 (Below w.heap.size w wc))
   case first =>
    have H:=HC12.out;clear HC12;by_cases c24:t421=t413
    ·
     rw[if_pos c24] at H;have c24b0:(t421 == t413)=true:=beq_iff_eq.mpr c24;have c24b1:(t421 != t413)=false:=bne_eq_false_iff_eq.mpr c24;clear c24;(first|rw[c24b0]|(simp only[i64_w,i32_w];rw[c24b0])|skip)
     have H':=am' H;clear H;go_wp2;go_meet
     case rel=>exact ⟨_,((t422 != t414)),xs',H',⟨by have:=HJ2.out;first|omega|exact Nat.le_refl _⟩,⟨by (with_reducible repeat (first|apply Kd.S_alloc|apply Kd.S_drewN|apply Kd.S_drew));exact Kd.S_mono HO418.out (fun _ hk=>hk.1.2)⟩,⟨kk' BK406.out⟩,⟨kk' BK420.out⟩,⟨y2' GE406.out GE420.out⟩⟩
    ·
     rw[if_neg c24] at H;have c24b0:(t421 == t413)=false:=beq_eq_false_iff_ne.mpr c24;have c24b1:(t421 != t413)=true:=bne_iff_ne.mpr c24
     (first|rw[c24b0]|(simp only[i64_w,i32_w];rw[c24b0])|skip)
     have H':=am' H;clear H;go_wp2;go_meet
     case rel=>exact ⟨_,(true),xs',H',⟨by have:=HJ2.out;first|omega|exact Nat.le_refl _⟩,⟨by (with_reducible repeat (first|apply Kd.S_alloc|apply Kd.S_drewN|apply Kd.S_drew));exact Kd.S_mono HO418.out (fun _ hk=>hk.1.2)⟩,⟨kk' BK406.out⟩,⟨kk' BK420.out⟩,⟨y2' GE406.out GE420.out⟩⟩
   case rest =>
    clear HC12;try clear c1
    try clear c2
    try clear p2
    try clear c5
    try clear c7
    try clear c7b0
    try clear c9
    try clear c12
    try clear c20
    try clear c24
    try clear c24b0
    try clear c24b1
    try clear hcz13_0
    try clear hcz13_1
    try clear hcz13_2
    try clear hcz17_0
    try clear hcz17_1
    try clear hcz17_2
    try clear hcz21_0
    try clear hcz21_1
    try clear hcz21_2
    try clear hcz5_0
    try clear hcz5_1
    try clear hcz5_2
    try clear hfz13_0
    try clear hfz13_1
    try clear hfz13_2
    try clear hfz17_0
    try clear hfz17_1
    try clear hfz17_2
    try clear hfz21_0
    try clear hfz21_1
    try clear hfz21_2
    try clear hfz5_0
    try clear hfz5_1
    try clear hfz5_2
    try clear p2
    obtain ⟨kq,x34_11,rfl,HA,HJ11,HO_421001,BK406,BK420,HB⟩:=hcut;cases kq with
    | zero=>exact absurd HA.out (by simp[laws_FnExactLeastSeats.j1])
    | succ kj11 =>
     have H:=HA.out;clear HA;simp only[laws_FnExactLeastSeats.j1] at H;have HC25:=am' H;clear H;go_upto_if 34 with (fail)
     go_cut [] (fun wc=>∃ (kq:Nat),Aside0 (laws_FnExactLeastSeats.j2 kq a0_0 l0_1 a0_2 t415 t416 t419=some r)∧Aside0 (kq≤kj11)∧Aside0 (Kd.S (Kd.slice 3 (Kd.int .i64)) 43 wc w.heap.size (fun k_=>¬ D430_ k_) (.slice Ao22 t416.length co22) t416)∧Aside0 (wc.heap[gb406]? = some (.cells #[.int .i64 a0_0,(.slice A0_1 l0_1.length c0_1), .int .i64 a0_2] 24 (0,0)))∧Aside0 (wc.heap[gb420]? = some (.cells #[.int .i64 t415,(.slice Ao22 t416.length co22), .int .i64 t419] 32 (0,0)))∧Aside0 (Below w.heap.size w wc))
     case first =>
      have H:=HC25.out;clear HC25;by_cases c26:x34_11=true
      ·
       subst c26;have H1:(some false)=some r:=by rw[if_pos rfl] at H;exact H
       clear H;have H:=H1;clear H1;obtain rfl:=os' H;go_wp2;go_ret
       exact ⟨by first|rfl|(simp[errW_none,errW_some] <;> rfl)|(simp[*,errW_none,errW_some] <;> rfl),y2' GE406.out GE420.out⟩
      ·
       replace c26:=Bool.eq_false_iff.mpr c26;subst c26;have H1:(laws_FnExactLeastSeats.j2 kj11 a0_0 l0_1 a0_2 t415 t416 t419)=some r:=by rw[if_neg (show ¬ (false=true) by decide)] at H;exact H
       clear H;have H:=H1;clear H1;have H':=am' H;clear H;go_wp2;go_meet
       case rel=>exact ⟨_,H',⟨by have:=HJ2.out;have:=HJ11.out;first|omega|exact Nat.le_refl _⟩,⟨kS' HO_421001.out⟩,⟨kk' BK406.out⟩,⟨kk' BK420.out⟩,⟨y2' GE406.out GE420.out⟩⟩
     case rest =>
      clear HC25;try clear c1
      try clear c2
      try clear p2
      try clear c5
      try clear c7
      try clear c7b0
      try clear c9
      try clear c12
      try clear c20
      try clear c24
      try clear c24b0
      try clear c24b1
      try clear c26
      try clear hcz13_0
      try clear hcz13_1
      try clear hcz13_2
      try clear hcz17_0
      try clear hcz17_1
      try clear hcz17_2
      try clear hcz21_0
      try clear hcz21_1
      try clear hcz21_2
      try clear hcz5_0
      try clear hcz5_1
      try clear hcz5_2
      try clear hfz13_0
      try clear hfz13_1
      try clear hfz13_2
      try clear hfz17_0
      try clear hfz17_1
      try clear hfz17_2
      try clear hfz21_0
      try clear hfz21_1
      try clear hfz21_2
      try clear hfz5_0
      try clear hfz5_1
      try clear hfz5_2
      try clear p2
      obtain ⟨kq,HA,HJ24,HO_421001,BK406,BK420,HB⟩:=hcut;cases kq with
      | zero=>exact absurd HA.out (by simp[laws_FnExactLeastSeats.j2])
      | succ kj24 =>
       have H:=HA.out;clear HA;simp only[laws_FnExactLeastSeats.j2] at H;replace H:=Option.bind_eq_some_iff.mp H;obtain ⟨⟨t423,t424,t427⟩,A270,H⟩:=H;replace H:((laws_eqKeep.f kj24 t415 t416 t419 t423 t424 t427).bind fun t428=>(if t428=true then (some true) else (some false)))=some r:=H;have A27:=am' A270;clear A270;replace H:=Option.bind_eq_some_iff.mp H;obtain ⟨t428,A280,H⟩:=H;replace H:(if t428=true then (some true) else (some false))=some r:=H;have A28:=am' A280;clear A280;by_cases c29:t428=true
       ·
        subst c29;have H1:(some true)=some r:=by rw[if_pos rfl] at H;exact H
        clear H;have H:=H1;clear H1;obtain rfl:=os' H
        try go_wp2
        have n0_:=am' (Kd.S_drew HO_421001.out);have n1_:=am' (kd' BK406.out);have n2_:=am' (kd' BK420.out);have n3_:=am' (be' HB.out);clear HO_421001;clear BK406;clear BK420;clear HB;have HO_421001:=n0_;have BK406:=n1_;have BK420:=n2_;have HB:=n3_;clear n0_ n1_ n2_ n3_;refine start_ (n:=5) (S:=fun w'=>w'.cell? ⟨gb420,0,none⟩=some (.int .i64 t415)∧w'.cell? ⟨gb420,1,none⟩=some (.slice Ao22 t416.length co22)∧w'.cell? ⟨gb420,2,none⟩=some (.int .i64 t419)∧w'.cell? ⟨gb406,0,none⟩=some (.int .i64 a0_0)∧w'.cell? ⟨gb406,1,none⟩=some (.slice A0_1 l0_1.length c0_1)∧w'.cell? ⟨gb406,2,none⟩=some (.int .i64 a0_2)) (ds:=[]) #[false,false,false,false,false] xk' rfl rfl ⟨(bc' BK420.out 0).trans rfl,(bc' BK420.out 1).trans rfl,(bc' BK420.out 2).trans rfl,(bc' BK406.out 0).trans rfl,(bc' BK406.out 1).trans rfl,(bc' BK406.out 2).trans rfl⟩ (fun hHeld=>?_);generalize wc.drew=w30 at HO_421001 BK406 BK420 HB hHeld ⊢
        refine take_ (i:=0) (N:=some 35) (v:=?_) (a':=?_) #[true,false,false,false,false] rfl rfl xk' (fun _ _ _ h=>h) (Or.inl ⟨by rfl,?_⟩) hHeld ?_ ?_
        rotate_left
        ·
         rintro w' ⟨s0,s1,s2,s3,s4,s5⟩
         go_simp;with_reducible rfl
        rotate_left
        ·
         simp only[Act.put,sa',sb',sc',i64_w,i32_w];rfl
        refine take_ (i:=1) (N:=some 36) (v:=?_) (a':=?_) #[true,true,false,false,false] rfl rfl xk' (fun _ _ _ h=>h) (Or.inl ⟨by rfl,?_⟩) hHeld ?_ ?_
        rotate_left
        ·
         rintro w' ⟨s0,s1,s2,s3,s4,s5⟩
         go_simp;with_reducible rfl
        rotate_left
        ·
         simp only[Act.put,sa',sb',sc',i64_w,i32_w];rfl
        refine one_ (i:=2) (N:=some 37) #[true,true,true,false,false] rfl rfl xk' (by decide) (fun K hK=>?_);refine goes_ Try.func12 xk' rfl #[.agg #[.int .i64 a0_0, .slice A0_1 l0_1.length c0_1, .int .i64 a0_2]] (by rfl) rfl rfl xl' ?_
        with_reducible refine (laws_toKeep.calls kj24 a0_0 _ _ l0_1 a0_2 t423 t424 t427 _ ?side1 ?side2 A27.out).mono ?_
        (case side1=>exact kc' (cb' HR0_1.out HB.out))
        (case side2=>exact HC0_1.out)
        rintro e w31 ⟨v425,rfl,ho0,hb⟩
        refine ⟨_,rfl,?_⟩;have n0_:=am' (Kd.S_elder' (kS' HO_421001.out) (Kd.S_base ho0) hb);have n1_:=am' (Kd.S_lower (Kd.S_new' ho0 (Kd.S_lt (kS' HO_421001.out))) (bz' (y2' GE406.out GE420.out)));have n2_:=am' (bb' (g:=gb406) (o := .cells #[.int .i64 a0_0, .slice A0_1 l0_1.length c0_1, .int .i64 a0_2] 24 (0,0)) (kk' BK406.out) hb);have n3_:=am' (bb' (g:=gb420) (o := .cells #[.int .i64 t415, .slice Ao22 t416.length co22, .int .i64 t419] 32 (0,0)) (kk' BK420.out) hb);have n4_:=am' (bt' (y2' GE406.out GE420.out) hb);clear HO_421001;clear BK406;clear BK420;clear HB;have HO_421001:=n0_;have HO426:=n1_;have BK406:=n2_;have BK420:=n3_;have HB:=n4_;clear n0_ n1_ n2_ n3_ n4_;(try clear hb)
        (try clear hb2)
        (try clear hk)
        (try clear hi)
        (try clear ho0)
        obtain ⟨Ao32,co32,eo32⟩:=Kd.S_slice HO426.out
        (first|subst eo32|(injection eo32 with f1_ f2_ f3_;have f4_:=f1_.symm;have f5_:=f3_.symm;clear f1_ f2_ f3_;subst f4_;subst f5_))
        refine hK.out _ _ ⟨(bc' BK420.out 0).trans rfl,(bc' BK420.out 1).trans rfl,(bc' BK420.out 2).trans rfl,(bc' BK406.out 0).trans rfl,(bc' BK406.out 1).trans rfl,(bc' BK406.out 2).trans rfl⟩ (fun hHeld=>?_);clear hK K;refine norm_ (a':=?_) ?_ ?_
        rotate_left
        ·
         show Act.put _ (some 37) _=_
         simp only[Act.put,sa',sb',sc',i64_w,i32_w];rfl
        refine one_ (i:=3) (N:=some 38) #[true,true,true,true,false] rfl rfl xk' (by decide) (fun K hK=>?_);refine goes_ Try.func16 xk' rfl #[.agg #[.int .i64 t415, .slice Ao22 t416.length co22, .int .i64 t419], .agg #[.int .i64 t423, .slice Ao32 t424.length co32, .int .i64 t427]] (by rfl) rfl rfl xl' ?_
        with_reducible refine (laws_eqKeep.calls kj24 t415 _ _ t416 t419 t423 _ _ t424 t427 true _ ?side1 ?side2 ?side3 ?side4 A28.out).mono ?_
        (case side1=>exact kc' ((Kd.S_reads' HO_421001.out).2.2))
        (case side2=>exact (Kd.S_reads' HO_421001.out).2.1)
        (case side3=>exact kc' ((Kd.S_reads' HO426.out).2.2))
        (case side4=>exact (Kd.S_reads' HO426.out).2.1)
        rintro e w33 ⟨rfl,hb⟩
        refine ⟨_,rfl,?_⟩;have n0_:=am' (Kd.S_below (kS' HO_421001.out) hb);have n1_:=am' (Kd.S_below (kS' HO426.out) hb);have n2_:=am' (bb' (g:=gb406) (o := .cells #[.int .i64 a0_0, .slice A0_1 l0_1.length c0_1, .int .i64 a0_2] 24 (0,0)) (kk' BK406.out) hb);have n3_:=am' (bb' (g:=gb420) (o := .cells #[.int .i64 t415, .slice Ao22 t416.length co22, .int .i64 t419] 32 (0,0)) (kk' BK420.out) hb);have n4_:=am' (bt' (y2' GE406.out GE420.out) hb);clear HO_421001;clear HO426;clear BK406;clear BK420;clear HB;have HO_421001:=n0_;have HO426:=n1_;have BK406:=n2_;have BK420:=n3_;have HB:=n4_;clear n0_ n1_ n2_ n3_ n4_;(try clear hb)
        (try clear hb2)
        (try clear hk)
        (try clear hi)
        refine hK.out _ _ ⟨(bc' BK420.out 0).trans rfl,(bc' BK420.out 1).trans rfl,(bc' BK420.out 2).trans rfl,(bc' BK406.out 0).trans rfl,(bc' BK406.out 1).trans rfl,(bc' BK406.out 2).trans rfl⟩ (fun hHeld=>?_);clear hK K;refine norm_ (a':=?_) ?_ ?_
        rotate_left
        ·
         show Act.put _ (some 38) _=_
         simp only[Act.put,sa',sb',sc',i64_w,i32_w];rfl
        refine pure_ (i:=4) (N:=some 39) (v:=?_) (a':=?_) #[true,true,true,true,true] rfl rfl xk' (fun _ _ _ h=>h) (Or.inl ⟨by rfl,?_⟩) ?_ ?_
        rotate_left
        ·
         intro w';go_simp;with_reducible rfl
        rotate_left
        ·
         simp only[Act.put,sa',sb',sc',i64_w,i32_w];rfl
        refine done_ xk' ?_
        try go_wp2
        go_ret
        exact ⟨by first|rfl|(simp[errW_none,errW_some] <;> rfl)|(simp[*,errW_none,errW_some] <;> rfl),y2' GE406.out GE420.out⟩
       ·
        replace c29:=Bool.eq_false_iff.mpr c29;subst c29;have H1:(some false)=some r:=by rw[if_neg (show ¬ (false=true) by decide)] at H;exact H
        clear H;have H:=H1;clear H1;obtain rfl:=os' H
        try go_wp2
        have n0_:=am' (Kd.S_drew HO_421001.out);have n1_:=am' (kd' BK406.out);have n2_:=am' (kd' BK420.out);have n3_:=am' (be' HB.out);clear HO_421001;clear BK406;clear BK420;clear HB;have HO_421001:=n0_;have BK406:=n1_;have BK420:=n2_;have HB:=n3_;clear n0_ n1_ n2_ n3_;refine start_ (n:=5) (S:=fun w'=>w'.cell? ⟨gb420,0,none⟩=some (.int .i64 t415)∧w'.cell? ⟨gb420,1,none⟩=some (.slice Ao22 t416.length co22)∧w'.cell? ⟨gb420,2,none⟩=some (.int .i64 t419)∧w'.cell? ⟨gb406,0,none⟩=some (.int .i64 a0_0)∧w'.cell? ⟨gb406,1,none⟩=some (.slice A0_1 l0_1.length c0_1)∧w'.cell? ⟨gb406,2,none⟩=some (.int .i64 a0_2)) (ds:=[]) #[false,false,false,false,false] xk' rfl rfl ⟨(bc' BK420.out 0).trans rfl,(bc' BK420.out 1).trans rfl,(bc' BK420.out 2).trans rfl,(bc' BK406.out 0).trans rfl,(bc' BK406.out 1).trans rfl,(bc' BK406.out 2).trans rfl⟩ (fun hHeld=>?_);generalize wc.drew=w34 at HO_421001 BK406 BK420 HB hHeld ⊢
        refine take_ (i:=0) (N:=some 35) (v:=?_) (a':=?_) #[true,false,false,false,false] rfl rfl xk' (fun _ _ _ h=>h) (Or.inl ⟨by rfl,?_⟩) hHeld ?_ ?_
        rotate_left
        ·
         rintro w' ⟨s0,s1,s2,s3,s4,s5⟩
         go_simp;with_reducible rfl
        rotate_left
        ·
         simp only[Act.put,sa',sb',sc',i64_w,i32_w];rfl
        refine take_ (i:=1) (N:=some 36) (v:=?_) (a':=?_) #[true,true,false,false,false] rfl rfl xk' (fun _ _ _ h=>h) (Or.inl ⟨by rfl,?_⟩) hHeld ?_ ?_
        rotate_left
        ·
         rintro w' ⟨s0,s1,s2,s3,s4,s5⟩
         go_simp;with_reducible rfl
        rotate_left
        ·
         simp only[Act.put,sa',sb',sc',i64_w,i32_w];rfl
        refine one_ (i:=2) (N:=some 37) #[true,true,true,false,false] rfl rfl xk' (by decide) (fun K hK=>?_);refine goes_ Try.func12 xk' rfl #[.agg #[.int .i64 a0_0, .slice A0_1 l0_1.length c0_1, .int .i64 a0_2]] (by rfl) rfl rfl xl' ?_
        with_reducible refine (laws_toKeep.calls kj24 a0_0 _ _ l0_1 a0_2 t423 t424 t427 _ ?side1 ?side2 A27.out).mono ?_
        (case side1=>exact kc' (cb' HR0_1.out HB.out))
        (case side2=>exact HC0_1.out)
        rintro e w35 ⟨v425,rfl,ho0,hb⟩
        refine ⟨_,rfl,?_⟩;have n0_:=am' (Kd.S_elder' (kS' HO_421001.out) (Kd.S_base ho0) hb);have n1_:=am' (Kd.S_lower (Kd.S_new' ho0 (Kd.S_lt (kS' HO_421001.out))) (bz' (y2' GE406.out GE420.out)));have n2_:=am' (bb' (g:=gb406) (o := .cells #[.int .i64 a0_0, .slice A0_1 l0_1.length c0_1, .int .i64 a0_2] 24 (0,0)) (kk' BK406.out) hb);have n3_:=am' (bb' (g:=gb420) (o := .cells #[.int .i64 t415, .slice Ao22 t416.length co22, .int .i64 t419] 32 (0,0)) (kk' BK420.out) hb);have n4_:=am' (bt' (y2' GE406.out GE420.out) hb);clear HO_421001;clear BK406;clear BK420;clear HB;have HO_421001:=n0_;have HO426:=n1_;have BK406:=n2_;have BK420:=n3_;have HB:=n4_;clear n0_ n1_ n2_ n3_ n4_;(try clear hb)
        (try clear hb2)
        (try clear hk)
        (try clear hi)
        (try clear ho0)
        obtain ⟨Ao36,co36,eo36⟩:=Kd.S_slice HO426.out
        (first|subst eo36|(injection eo36 with f1_ f2_ f3_;have f4_:=f1_.symm;have f5_:=f3_.symm;clear f1_ f2_ f3_;subst f4_;subst f5_))
        refine hK.out _ _ ⟨(bc' BK420.out 0).trans rfl,(bc' BK420.out 1).trans rfl,(bc' BK420.out 2).trans rfl,(bc' BK406.out 0).trans rfl,(bc' BK406.out 1).trans rfl,(bc' BK406.out 2).trans rfl⟩ (fun hHeld=>?_);clear hK K;refine norm_ (a':=?_) ?_ ?_
        rotate_left
        ·
         show Act.put _ (some 37) _=_
         simp only[Act.put,sa',sb',sc',i64_w,i32_w];rfl
        refine one_ (i:=3) (N:=some 38) #[true,true,true,true,false] rfl rfl xk' (by decide) (fun K hK=>?_);refine goes_ Try.func16 xk' rfl #[.agg #[.int .i64 t415, .slice Ao22 t416.length co22, .int .i64 t419], .agg #[.int .i64 t423, .slice Ao36 t424.length co36, .int .i64 t427]] (by rfl) rfl rfl xl' ?_
        with_reducible refine (laws_eqKeep.calls kj24 t415 _ _ t416 t419 t423 _ _ t424 t427 false _ ?side1 ?side2 ?side3 ?side4 A28.out).mono ?_
        (case side1=>exact kc' ((Kd.S_reads' HO_421001.out).2.2))
        (case side2=>exact (Kd.S_reads' HO_421001.out).2.1)
        (case side3=>exact kc' ((Kd.S_reads' HO426.out).2.2))
        (case side4=>exact (Kd.S_reads' HO426.out).2.1)
        rintro e w37 ⟨rfl,hb⟩
        refine ⟨_,rfl,?_⟩;have n0_:=am' (Kd.S_below (kS' HO_421001.out) hb);have n1_:=am' (Kd.S_below (kS' HO426.out) hb);have n2_:=am' (bb' (g:=gb406) (o := .cells #[.int .i64 a0_0, .slice A0_1 l0_1.length c0_1, .int .i64 a0_2] 24 (0,0)) (kk' BK406.out) hb);have n3_:=am' (bb' (g:=gb420) (o := .cells #[.int .i64 t415, .slice Ao22 t416.length co22, .int .i64 t419] 32 (0,0)) (kk' BK420.out) hb);have n4_:=am' (bt' (y2' GE406.out GE420.out) hb);clear HO_421001;clear HO426;clear BK406;clear BK420;clear HB;have HO_421001:=n0_;have HO426:=n1_;have BK406:=n2_;have BK420:=n3_;have HB:=n4_;clear n0_ n1_ n2_ n3_ n4_;(try clear hb)
        (try clear hb2)
        (try clear hk)
        (try clear hi)
        refine hK.out _ _ ⟨(bc' BK420.out 0).trans rfl,(bc' BK420.out 1).trans rfl,(bc' BK420.out 2).trans rfl,(bc' BK406.out 0).trans rfl,(bc' BK406.out 1).trans rfl,(bc' BK406.out 2).trans rfl⟩ (fun hHeld=>?_);clear hK K;refine norm_ (a':=?_) ?_ ?_
        rotate_left
        ·
         show Act.put _ (some 38) _=_
         simp only[Act.put,sa',sb',sc',i64_w,i32_w];rfl
        refine pure_ (i:=4) (N:=some 39) (v:=?_) (a':=?_) #[true,true,true,true,true] rfl rfl xk' (fun _ _ _ h=>h) (Or.inl ⟨by rfl,?_⟩) ?_ ?_
        rotate_left
        ·
         intro w';go_simp;with_reducible rfl
        rotate_left
        ·
         simp only[Act.put,sa',sb',sc',i64_w,i32_w];rfl
        refine done_ xk' ?_
        try go_wp2
        go_ret
        exact ⟨by first|rfl|(simp[errW_none,errW_some] <;> rfl)|(simp[*,errW_none,errW_some] <;> rfl),y2' GE406.out GE420.out⟩
end Go.Proofs.Ytmfofjloklafoaa.C5
