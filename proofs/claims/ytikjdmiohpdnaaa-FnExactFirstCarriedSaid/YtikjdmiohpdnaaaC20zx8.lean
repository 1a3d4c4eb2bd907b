import Derived.Test.YtikjdmiohpdnaaaC20zx0
import Derived.Test.YtikjdmiohpdnaaaC20zx6
import Derived.Test.YtikjdmiohpdnaaaC20zx7
import Derived.Test.YtikjdmiohpdnaaaC20zAl
namespace Go.Proofs.Ytikjdmiohpdnaaa.C20
open Go.RowKit Go.Proofs.YtikjdmiohpdnaaaW.PrintWords Go.Proofs.YtikjdmiohpdnaaaW.PrintLast Go.Proofs.YtikjdmiohpdnaaaW.PrintMore Go.Proofs.Ytikjdmiohpdnaaa.H
attribute [local go_sem] max2_int min2_int max_two min_two max_three min_three max_four min_four
set_option linter.unusedVariables false
set_option linter.unusedSimpArgs false
mutual
def spec_loRides.l0:Nat→List Int→List Bool→Int→Int→List Int→List Bool→Int→List Bool→Bool→Option ((List (List Int)))
 | 0,_,_,_,_,_,_,_,_,_=>none
 | k+1,x5,x12,x13,x14,x232000,x232001,x232002,x233000,x233001=>if x14 < x13 then (if 0≤x14 then (if x14 < (x12.length:Int) then (if ((rdOf false x12 x14) == x233001)=true then (if x5.length < 17592186044416 then (spec_loRides.l0 k (x5 ++ [x14]) x12 x13 (wrap64 (x14+1)) x232000 x232001 x232002 x233000 x233001) else (none)) else (spec_loRides.l0 k x5 x12 x13 (wrap64 (x14+1)) x232000 x232001 x232002 x233000 x233001)) else (none)) else (none)) else ((spec_paGroups.f k x5 ([]:List Int) 0 (x5.length:Int)).bind fun t237=>(spec_loRides.l1 k ([]:List (List Int)) t237 (t237.length:Int) 0 x232000 x232001 x232002 x233000 x233001))
def spec_loRides.l1:Nat→List (List Int)→List (List Int)→Int→Int→List Int→List Bool→Int→List Bool→Bool→Option ((List (List Int)))
 | 0,_,_,_,_,_,_,_,_,_=>none
 | k+1,x8,x31,x32,x33,x232000,x232001,x232002,x233000,x233001=>if x33 < x32 then (if 0≤x33 then (if x33 < (x31.length:Int) then ((spec_loCan.f k x232000 x232001 x232002 x233000 x233001 (rd_L2 x31 x33)).bind fun t241=>(if t241=true then (if x8.length < 5864062014805 then (spec_loRides.l1 k (x8 ++ [rd_L2 x31 x33]) x31 x32 (wrap64 (x33+1)) x232000 x232001 x232002 x233000 x233001) else (none)) else (spec_loRides.l1 k x8 x31 x32 (wrap64 (x33+1)) x232000 x232001 x232002 x233000 x233001))) else (none)) else (none)) else (some x8)
end
def spec_loRides.f (k:Nat) (l0_0:List Int) (l0_1:List Bool) (a0_2:Int) (l1_0:List Bool) (a1_1:Bool):Option ((List (List Int))):=spec_loRides.l0 k ([]:List Int) l1_0 (l1_0.length:Int) 0 l0_0 l0_1 a0_2 l1_0 a1_1
set_option maxHeartbeats 8000000 in
set_option maxRecDepth 100000 in
theorem spec_loRides.calls (k:Nat) (A0_0:Option Addr) (c0_0:Nat) (l0_0:List Int) (A0_1:Option Addr) (c0_1:Nat) (l0_1:List Bool) (a0_2:Int) (A1_0:Option Addr) (c1_0:Nat) (l1_0:List Bool) (a1_1:Bool) (r:List (List Int)) (w:World) (hr0_0:Kd.C (Kd.int .i64) w A0_0 l0_0.length l0_0) (hc0_0:l0_0.length≤c0_0) (hr0_1:Kd.C Kd.bool w A0_1 l0_1.length l0_1) (hc0_1:l0_1.length≤c0_1) (hr1_0:Kd.C Kd.bool w A1_0 l1_0.length l1_0) (hc1_0:l1_0.length≤c1_0) (h:spec_loRides.f k l0_0 l0_1 a0_2 l1_0 a1_1=some r) :
  Calls Try.prog 73 #[.agg #[.slice A0_0 l0_0.length c0_0, .slice A0_1 l0_1.length c0_1, .int .i64 a0_2], .agg #[.slice A1_0 l1_0.length c1_0, .bool a1_1]] w fun e w'=>∃ v0_:Value,e = .returned (v0_)∧Kd.N (Kd.slice 3 (Kd.int .i64)) 22 w' w.heap.size (fun k_=>(w.heap.size≤k_)) v0_ r∧Below w.heap.size w w':=by
 have hu29:=Try.underlying29
 have hu38:=Try.underlying38
 have HR0_0:=am' hr0_0
 have HC0_0:=am' hc0_0
 clear hr0_0 hc0_0;have HR0_1:=am' hr0_1
 have HC0_1:=am' hc0_1
 clear hr0_1 hc0_1;have HR1_0:=am' hr1_0
 have HC1_0:=am' hc1_0
 clear hr1_0 hc1_0;have HB:=am' (Below.refl w.heap.size w)
 have H:(spec_loRides.l0 k ([]:List Int) l1_0 (l1_0.length:Int) 0 l0_0 l0_1 a0_2 l1_0 a1_1)=some r:=h
 clear h;have H':=am' H
 clear H;go_enter Try.func73,Try.ntmps73
 go_wp2_with (first|((with_reducible refine gate_dst (N:=2) rfl ?_);refine box_event ?hg (N:=2) ?hd (cs:=#[.slice A0_0 l0_0.length c0_0, .slice A0_1 l0_1.length c0_1, .int .i64 a0_2]) (t:=29) ?hr ?_;(case hd=>rfl);(case hg=>rfl);(case hr=>first|(go_simp;done)|(go_simp;rfl));intro gb231 hg w3 hbox hb;have n0_:=am' (bt' xb' hb);have n1_:=am' (hbox);have n2_:=am' ((by rw[hg];exact (bz' xb'):w.heap.size≤gb231));have n3_:=am' ((by rw[hg];exact (bz' xb'):w.heap.size≤gb231));clear HB;have HB:=n0_;have BK231:=n1_;have GW231:=n2_;have GE231:=n3_;clear n0_ n1_ n2_ n3_;clear hb hbox hg)|((with_reducible refine gate_dst (N:=3) rfl ?_);refine box_event ?hg (N:=3) ?hd (cs:=#[.slice A1_0 l1_0.length c1_0, .bool a1_1]) (t:=38) ?hr ?_;(case hd=>rfl);(case hg=>rfl);(case hr=>first|(go_simp;done)|(go_simp;rfl));intro gb232 hg w4 hbox hb;have n0_:=am' (bb' (g:=gb231) (o := .cells #[.slice A0_0 l0_0.length c0_0, .slice A0_1 l0_1.length c0_1, .int .i64 a0_2] 29 (0,0)) (kk' BK231.out) hb);have n1_:=am' (bt' (yb' GE231.out) hb);have n2_:=am' (hbox);have n3_:=am' ((by rw[hg];exact (bz' (yb' GE231.out)):w.heap.size≤gb232));have n4_:=am' ((by rw[hg];exact (bz' (yb' GE231.out)):w.heap.size≤gb232));have n5_:=am' ((by rw[hg];exact Nat.ne_of_lt (blk_lt (g:=gb231) (o := .cells #[.slice A0_0 l0_0.length c0_0, .slice A0_1 l0_1.length c0_1, .int .i64 a0_2] 29 (0,0)) (kk' BK231.out)):gb231≠gb232));have n6_:=am' ((by rw[hg];exact Nat.ne_of_gt (blk_lt (g:=gb231) (o := .cells #[.slice A0_0 l0_0.length c0_0, .slice A0_1 l0_1.length c0_1, .int .i64 a0_2] 29 (0,0)) (kk' BK231.out)):gb232≠gb231));clear BK231;clear HB;have BK231:=n0_;have HB:=n1_;have BK232:=n2_;have GW232:=n3_;have GE232:=n4_;have NB231_232:=n5_;have NB232_231:=n6_;clear n0_ n1_ n2_ n3_ n4_ n5_ n6_;clear hb hbox hg;have hnb5:=NB232_231.out;have hnc5:=NB231_232.out;have hcz6_0:w4.cell? ⟨gb232,0,none⟩=some (.slice A1_0 l1_0.length c1_0):=(bc' BK232.out 0).trans rfl;have hcz6_1:w4.cell? ⟨gb232,1,none⟩=some (.bool a1_1):=(bc' BK232.out 1).trans rfl;have hfz6_0:=bf' BK232.out 0;have hfz6_1:=bf' BK232.out 1))
 go_loopg [5,14] k (fun kq v5 v14 w'=>∃ (x5_1:List Int) (x14_1:Int),v14 = .int .i64 x14_1∧Aside0 (spec_loRides.l0 kq x5_1 l1_0 (l1_0.length:Int) x14_1 l0_0 l0_1 a0_2 l1_0 a1_1=some r)∧Aside0 (kq≤k)∧Aside0 (Kd.R (Kd.int .i64) 3 w' w.heap.size (fun k_=>(w.heap.size≤k_)) v5 x5_1)∧Aside0 (w'.heap[gb231]? = some (.cells #[(.slice A0_0 l0_0.length c0_0),(.slice A0_1 l0_1.length c0_1), .int .i64 a0_2] 29 (0,0)))∧Aside0 (w'.heap[gb232]? = some (.cells #[(.slice A1_0 l1_0.length c1_0), .bool a1_1] 38 (0,0)))∧Aside0 (Below w.heap.size w w'))
 case atStart=>exact ⟨(([]:List Int)),(0),xs',H',⟨Nat.le_refl _⟩,⟨by first|exact Kd.R_nil _ _ _ _ _|exact Kd.N_nil _ _ _ _ _|exact Kd.V_nil _ _ _ _ _|exact Kd.Q_nil _ _ _ _ _|exact Kd.S_nil _ _ _ _ _⟩,⟨kk' BK231.out⟩,⟨kk' BK232.out⟩,⟨y2' GE231.out GE232.out⟩⟩
 case round =>
  clear H';try clear c1
  try clear p2
  try clear c5
  try clear hcz6_0
  try clear hcz6_1
  try clear hfz6_0
  try clear hfz6_1
  obtain ⟨x5_1,x14_1,rfl,HA,HK1,HO_5,BK231,BK232,HB⟩:=hrel;cases gk with
  | zero=>exact absurd HA.out (by simp[spec_loRides.l0])
  | succ k1 =>
   have H:=HA.out;clear HA;simp only[spec_loRides.l0] at H;by_cases c7:x14_1 < (l1_0.length:Int)
   ·
    rw[if_pos c7] at H;have c7b0:decide (x14_1 < (l1_0.length:Int))=true:=dt' c7;clear c7;by_cases c8:0≤x14_1
    ·
     rw[if_pos c8] at H;have c8b0:decide (0≤x14_1)=true:=dt' c8;clear c8;by_cases c9:x14_1 < (l1_0.length:Int)
     ·
      rw[if_pos c9] at H;have c9b0:decide (x14_1 < (l1_0.length:Int))=true:=dt' c9;clear c9;by_cases c10:((rdOf false l1_0 x14_1) == a1_1)=true
      ·
       rw[if_pos c10] at H;have c10b0:((rdOf false l1_0 x14_1) == a1_1)=true:=c10
       (try (have c10b1:decide ((rdOf false l1_0 x14_1)=a1_1)=true:=by simpa using c10))
       (try (have c10b2:((rdOf false l1_0 x14_1) == a1_1)=true:=by simpa using c10))
       clear c10;by_cases c11:x5_1.length < 17592186044416
       ·
        rw[if_pos c11] at H;have LMc11:=am' c11;clear c11;obtain ⟨y234,hy234⟩:∃ y_:List Int,y_=(x5_1 ++ [x14_1]):=⟨_,rfl⟩
        replace H:(spec_loRides.l0 k1 y234 l1_0 (l1_0.length:Int) (wrap64 (x14_1+1)) l0_0 l0_1 a0_2 l1_0 a1_1)=some r:=by first|(rw[hy234];with_reducible exact H)|(have H2_:=(Option.bind_some _ _).symm.trans H;rw[hy234];with_reducible exact H2_)|(have H2_:=(Option.bind_some _ _).symm.trans H;with_reducible exact H2_)|with_reducible exact H|(rw[hy234];exact H)|exact H
        have Ny234:=am' hy234;clear hy234;have H':=am' H;clear H;have p233:0≤(x14_1:Int):=od' xa';have q233:x14_1 < (l1_0.length:Int):=od' xa';obtain ⟨ad233,e233,hx233_0⟩:=Kd.at_bool HR1_0.out x14_1 p233 q233;cases e233;replace hx233_0:=(HB.out.cell (bl' w _ hx233_0)).trans hx233_0;replace p233:=eq_true p233;replace q233:=eq_true q233;have hnb12:=NB232_231.out;have hnc12:=NB231_232.out;have hcz13_0:wr.cell? ⟨gb232,0,none⟩=some (.slice (some ad233) l1_0.length c1_0):=(bc' BK232.out 0).trans rfl;have hcz13_1:wr.cell? ⟨gb232,1,none⟩=some (.bool a1_1):=(bc' BK232.out 1).trans rfl;have hfz13_0:=bf' BK232.out 0;have hfz13_1:=bf' BK232.out 1;go_wp2_with (first|((with_reducible refine gate_builtin (b := .append) (xs:=#[.tmp 23, .tmp 25]) rfl ?_);at_builtin;refine Kd.R_append (Kd.int .i64) (w0:=w) w.heap.size rfl (.tmp 23) (.tmp 25) 22 3 (.int .i64 0) 8 rfl Try.underlying22 info3 rfl (by decide) (by omega) u5 x5_1 x14_1 [.int .i64 x14_1] (fun k_=>(w.heap.size≤k_)) (fun _=>False) rfl rfl ?aP (fun _ hk=>hk.elim) ?aF ?aO ?aB ?aS ?aL ?_;(case aP=>exact rfl);(case aB=>exact (y2' GE231.out GE232.out));(case aF=>exact (fun k_ hk=>(Nat.le_trans (bz' (y2' GE231.out GE232.out)) hk)));(case aO=>exact (kr' HO_5.out));(case aS=>exact (bz' (y2' GE231.out GE232.out)));(case aL=>have:=LMc11.out;omega);intro v235 w14 ho hb hg hat;rw[← Ny234.out] at ho;have n0_:=am' (blk_grown (g:=gb231) (o := .cells #[.slice A0_0 l0_0.length c0_0, .slice A0_1 l0_1.length c0_1, .int .i64 a0_2] 29 (0,0)) (kk' BK231.out) hg (Kd.R_ne HO_5.out BK231.out (by decide)));have n1_:=am' (blk_grown (g:=gb232) (o := .cells #[.slice (some ad233) l1_0.length c1_0, .bool a1_1] 38 (0,0)) (kk' BK232.out) hg (Kd.R_ne HO_5.out BK232.out (by decide)));have n2_:=am' (hb);have n3_:=am' (ho);clear BK231;clear BK232;clear HB;clear HO_5;have BK231:=n0_;have BK232:=n1_;have HB:=n2_;have HO236:=n3_;clear n0_ n1_ n2_ n3_;clear ho hb hg hat));go_roundg k1
        case measure=>have:=HK1.out;omega
        case rel=>exact ⟨(y234),(wrap64 (x14_1+1)),xs',H',⟨by have:=HK1.out;omega⟩,⟨kr' HO236.out⟩,⟨kk' BK231.out⟩,⟨kk' BK232.out⟩,⟨y2' GE231.out GE232.out⟩⟩
       ·
        rw[if_neg c11] at H;exact absurd H (by simp)
      ·
       rw[if_neg c10] at H;have c10b0:((rdOf false l1_0 x14_1) == a1_1)=false:=by simpa using c10
       (try (have c10b1:decide ((rdOf false l1_0 x14_1)=a1_1)=false:=by simpa using c10))
       (try (have c10b2:((rdOf false l1_0 x14_1) == a1_1)=false:=by simpa using c10))
       (try (have c10b3:¬ ((rdOf false l1_0 x14_1)=a1_1):=by simpa using c10))
       clear c10;have H':=am' H;clear H;have p233:0≤(x14_1:Int):=od' xa';have q233:x14_1 < (l1_0.length:Int):=od' xa';obtain ⟨ad233,e233,hx233_0⟩:=Kd.at_bool HR1_0.out x14_1 p233 q233;cases e233;replace hx233_0:=(HB.out.cell (bl' w _ hx233_0)).trans hx233_0;replace p233:=eq_true p233;replace q233:=eq_true q233;have hnb15:=NB232_231.out;have hnc15:=NB231_232.out;have hcz16_0:wr.cell? ⟨gb232,0,none⟩=some (.slice (some ad233) l1_0.length c1_0):=(bc' BK232.out 0).trans rfl;have hcz16_1:wr.cell? ⟨gb232,1,none⟩=some (.bool a1_1):=(bc' BK232.out 1).trans rfl;have hfz16_0:=bf' BK232.out 0;have hfz16_1:=bf' BK232.out 1;go_wp2;go_roundg k1
       case measure=>have:=HK1.out;omega
       case rel=>exact ⟨(x5_1),(wrap64 (x14_1+1)),xs',H',⟨by have:=HK1.out;omega⟩,⟨kr' HO_5.out⟩,⟨kk' BK231.out⟩,⟨kk' BK232.out⟩,⟨y2' GE231.out GE232.out⟩⟩
     ·
      rw[if_neg c9] at H;exact absurd H (by simp)
    ·
     rw[if_neg c8] at H;exact absurd H (by simp)
   ·
    rw[if_neg c7] at H;have c7b0:decide (x14_1 < (l1_0.length:Int))=false:=df' c7;clear c7;replace H:=Option.bind_eq_some_iff.mp H;obtain ⟨t237,A170,H⟩:=H;replace H:(spec_loRides.l1 k1 ([]:List (List Int)) t237 (t237.length:Int) 0 l0_0 l0_1 a0_2 l1_0 a1_1)=some r:=H;have A17:=am' A170;clear A170;have H':=am' H;clear H;obtain ⟨Ao18,co18,eo18⟩:=Kd.R_slice HO_5.out;subst eo18;go_wp2_with (first|((with_reducible refine gate_callee (f:=99) rfl ?_);refine goesL_ (some 31) rfl rfl Try.func99 xk' rfl #[.slice Ao18 x5_1.length co18, .slice none 0 0, .int .i64 0, .int .i64 (x5_1.length:Int)] rfl xl' ?_;(refine (spec_paGroups.calls k1 _ _ x5_1 _ _ ([]:List Int) 0 (x5_1.length:Int) t237 _ ?side1 ?side2 ?side3 ?side4 A17.out).mono ?_);(case side1=>exact kc' ((Kd.R_reads' HO_5.out).2.2));(case side2=>exact (Kd.R_reads' HO_5.out).2.1);(case side3=>exact Kd.C_nil _ _);(case side4=>exact Nat.le_refl _);rintro e w19 ⟨v238,rfl,ho0,hb⟩;refine ⟨_,rfl,?_⟩;have n0_:=am' (rb' (kr' HO_5.out) hb);have n1_:=am' (Kd.N_lower (Kd.N_mono (ok':=fun k_=>(w.heap.size≤k_)∧some k_≠(.slice Ao18 x5_1.length co18:Value).ownBlock∧k_≠gb231∧k_≠gb232) ho0 (fun k_ hk_=>⟨(Nat.le_trans (bz' (y2' GE231.out GE232.out)) hk_),(Kd.fresh' (Kd.R_lt (kr' HO_5.out)) k_ hk_),(Kd.freshB (g:=gb231) (o := .cells #[.slice A0_0 l0_0.length c0_0, .slice A0_1 l0_1.length c0_1, .int .i64 a0_2] 29 (0,0)) (kk' BK231.out) k_ hk_),(Kd.freshB (g:=gb232) (o := .cells #[.slice A1_0 l1_0.length c1_0, .bool a1_1] 38 (0,0)) (kk' BK232.out) k_ hk_)⟩)) (bz' (y2' GE231.out GE232.out)));have n2_:=am' (bb' (g:=gb231) (o := .cells #[.slice A0_0 l0_0.length c0_0, .slice A0_1 l0_1.length c0_1, .int .i64 a0_2] 29 (0,0)) (kk' BK231.out) hb);have n3_:=am' (bb' (g:=gb232) (o := .cells #[.slice A1_0 l1_0.length c1_0, .bool a1_1] 38 (0,0)) (kk' BK232.out) hb);have n4_:=am' (bt' (y2' GE231.out GE232.out) hb);clear HO_5;clear BK231;clear BK232;clear HB;have HO_5:=n0_;have HO239:=n1_;have BK231:=n2_;have BK232:=n3_;have HB:=n4_;clear n0_ n1_ n2_ n3_ n4_;(try clear hb);(try clear hb2);(try clear hk);(try clear hi);(try clear ho0);obtain ⟨Ao20,co20,eo20⟩:=Kd.N_slice HO239.out;subst eo20))
    go_loopg [8,33] k1 (fun kq v8 v33 w'=>∃ (x8_2:List (List Int)) (x33_2:Int),v33 = .int .i64 x33_2∧Aside0 (spec_loRides.l1 kq x8_2 t237 (t237.length:Int) x33_2 l0_0 l0_1 a0_2 l1_0 a1_1=some r)∧Aside0 (kq≤k1)∧Aside0 (Kd.N (Kd.slice 3 (Kd.int .i64)) 22 w' w.heap.size (fun k_=>(w.heap.size≤k_)∧some k_≠((.slice Ao20 t237.length co20):Value).ownBlock∧k_≠gb231∧k_≠gb232) v8 x8_2)∧Aside0 (Kd.N (Kd.slice 3 (Kd.int .i64)) 22 w' w.heap.size (fun k_=>(w.heap.size≤k_)∧some k_≠(v8:Value).ownBlock∧k_≠gb231∧k_≠gb232) (.slice Ao20 t237.length co20) t237)∧Aside0 (w'.heap[gb231]? = some (.cells #[(.slice A0_0 l0_0.length c0_0),(.slice A0_1 l0_1.length c0_1), .int .i64 a0_2] 29 (0,0)))∧Aside0 (w'.heap[gb232]? = some (.cells #[(.slice A1_0 l1_0.length c1_0), .bool a1_1] 38 (0,0)))∧Aside0 (Below w.heap.size w w'))
    case atStart=>exact ⟨(([]:List (List Int))),(0),xs',H',⟨Nat.le_refl _⟩,⟨by first|exact Kd.S_nil _ _ _ _ _|exact Kd.N_nil _ _ _ _ _|exact Kd.V_nil _ _ _ _ _|exact Kd.Q_nil _ _ _ _ _|exact Kd.R_nil _ _ _ _ _⟩,⟨by (with_reducible repeat (first|apply Kd.N_alloc|apply Kd.N_drewN|apply Kd.N_drew));exact Kd.N_mono HO239.out (fun _ hk=>⟨hk.1,⟨(by simp[Value.ownBlock]),⟨hk.2.2.1,hk.2.2.2⟩⟩⟩)⟩,⟨kk' BK231.out⟩,⟨kk' BK232.out⟩,⟨y2' GE231.out GE232.out⟩⟩
    case round =>
     clear H';try clear c1
     try clear p2
     try clear q2
     try clear hx2
     try clear c5
     try clear p6
     try clear c7
     try clear c7b0
     try clear c8
     try clear c8b0
     try clear c9
     try clear c9b0
     try clear c10
     try clear c10b0
     try clear c10b1
     try clear c10b2
     try clear c11
     try clear c12
     try clear c15
     try clear hcz13_0
     try clear hcz13_1
     try clear hcz16_0
     try clear hcz16_1
     try clear hcz6_0
     try clear hcz6_1
     try clear hfz13_0
     try clear hfz13_1
     try clear hfz16_0
     try clear hfz16_1
     try clear hfz6_0
     try clear hfz6_1
     try clear hx233_0
     try clear p2
     try clear p233
     try clear q233
     obtain ⟨x8_2,x33_2,rfl,HA,HK2,HO_8,HO_31,BK231,BK232,HB⟩:=hrel;cases gk with
     | zero=>exact absurd HA.out (by simp[spec_loRides.l1])
     | succ k2 =>
      have H:=HA.out;clear HA;simp only[spec_loRides.l1] at H;by_cases c21:x33_2 < (t237.length:Int)
      ·
       rw[if_pos c21] at H;have c21b0:decide (x33_2 < (t237.length:Int))=true:=dt' c21;clear c21;by_cases c22:0≤x33_2
       ·
        rw[if_pos c22] at H;have c22b0:decide (0≤x33_2)=true:=dt' c22;clear c22;by_cases c23:x33_2 < (t237.length:Int)
        ·
         rw[if_pos c23] at H;have c23b0:decide (x33_2 < (t237.length:Int))=true:=dt' c23;clear c23;replace H:=Option.bind_eq_some_iff.mp H;obtain ⟨t241,A240,H⟩:=H;replace H:(if t241=true then (if x8_2.length < 5864062014805 then (spec_loRides.l1 k2 (x8_2 ++ [rd_L2 t237 x33_2]) t237 (t237.length:Int) (wrap64 (x33_2+1)) l0_0 l0_1 a0_2 l1_0 a1_1) else (none)) else (spec_loRides.l1 k2 x8_2 t237 (t237.length:Int) (wrap64 (x33_2+1)) l0_0 l0_1 a0_2 l1_0 a1_1))=some r:=H;have A24:=am' A240;clear A240;by_cases c25:t241=true
         ·
          subst c25;have H1:(if x8_2.length < 5864062014805 then (spec_loRides.l1 k2 (x8_2 ++ [rd_L2 t237 x33_2]) t237 (t237.length:Int) (wrap64 (x33_2+1)) l0_0 l0_1 a0_2 l1_0 a1_1) else (none))=some r:=by rw[if_pos rfl] at H;exact H
          clear H;have H:=H1;clear H1;by_cases c26:x8_2.length < 5864062014805
          ·
           rw[if_pos c26] at H;have LMc26:=am' c26;clear c26;obtain ⟨y242,hy242⟩:∃ y_:List (List Int),y_=(x8_2 ++ [rd_L2 t237 x33_2]):=⟨_,rfl⟩
           replace H:(spec_loRides.l1 k2 y242 t237 (t237.length:Int) (wrap64 (x33_2+1)) l0_0 l0_1 a0_2 l1_0 a1_1)=some r:=by first|(rw[hy242];with_reducible exact H)|(have H2_:=(Option.bind_some _ _).symm.trans H;rw[hy242];with_reducible exact H2_)|(have H2_:=(Option.bind_some _ _).symm.trans H;with_reducible exact H2_)|with_reducible exact H|(rw[hy242];exact H)|exact H
           have Ny242:=am' hy242;clear hy242;have H':=am' H;clear H;have p240:0≤(x33_2:Int):=od' xa';have q240:x33_2 < (t237.length:Int):=od' xa';obtain ⟨ad240,A240_0,c240_0,e240,hx240_0,hl240_0,hi240_0⟩:=at_L2 (Kd.N_reads' HO_31.out).2.2 x33_2 p240 q240;cases e240;obtain ⟨ce240,hce240,hMe240,hcc240⟩:=Kd.N_get HO_31.out [] x33_2 p240 (by first|exact q240|exact od' xa'|(have e_:=(Kd.N_reads' HO_31.out).1;omega));obtain ⟨ua240_0,uc240_0,rfl,ul240_0,ge240_0⟩:=Kd.FK_slice_open hMe240;have hv240_0:=hcc240 0 _ rfl;rw[Nat.add_zero,show ((Kd.slice 3 (Kd.int .i64))).sz=1 from rfl,Nat.mul_one] at hv240_0;replace hv240_0:=os' (hv240_0.symm.trans hx240_0);injection hv240_0 with hva_ hvn_ hvc_
           rw[hva_] at ge240_0;rw[hvc_] at ul240_0;have HL240_0:=am' (show Kd.V (Kd.int .i64) 3 _ w.heap.size _ _ (rd_L2 t237 x33_2) from Kd.V_mk ul240_0 ge240_0);clear hva_ hvn_ hvc_ ge240_0 ul240_0;clear hcc240 hce240;have HR240_0:=am' hi240_0;have HC240_0:=am' hl240_0;clear hi240_0 hl240_0;replace p240:=eq_true p240;replace q240:=eq_true q240;have hnb27:=NB231_232.out;have hnc27:=NB232_231.out;have hcz28_0:wr.cell? ⟨gb231,0,none⟩=some (.slice A0_0 l0_0.length c0_0):=(bc' BK231.out 0).trans rfl;have hcz28_1:wr.cell? ⟨gb231,1,none⟩=some (.slice A0_1 l0_1.length c0_1):=(bc' BK231.out 1).trans rfl;have hcz28_2:wr.cell? ⟨gb231,2,none⟩=some (.int .i64 a0_2):=(bc' BK231.out 2).trans rfl;have hfz28_0:=bf' BK231.out 0;have hfz28_1:=bf' BK231.out 1;have hfz28_2:=bf' BK231.out 2;have hcz29_0:wr.cell? ⟨gb232,0,none⟩=some (.slice A1_0 l1_0.length c1_0):=(bc' BK232.out 0).trans rfl;have hcz29_1:wr.cell? ⟨gb232,1,none⟩=some (.bool a1_1):=(bc' BK232.out 1).trans rfl;have hfz29_0:=bf' BK232.out 0;have hfz29_1:=bf' BK232.out 1;go_wp2_with (first|((with_reducible refine gate_callee (f:=59) rfl ?_);refine goesL_ (some 40) rfl rfl Try.func59 xk' rfl #[.agg #[.slice A0_0 l0_0.length c0_0, .slice A0_1 l0_1.length c0_1, .int .i64 a0_2], .agg #[.slice A1_0 l1_0.length c1_0, .bool a1_1], .slice A240_0 (rd_L2 t237 x33_2).length c240_0] rfl xl' ?_;(with_reducible refine (spec_loCan.calls k2 _ _ l0_0 _ _ l0_1 a0_2 _ _ l1_0 a1_1 _ _ (rd_L2 t237 x33_2) true _ ?side1 ?side2 ?side3 ?side4 ?side5 ?side6 ?side7 ?side8 A24.out).mono ?_);(case side1=>exact kc' (cb' HR0_0.out HB.out));(case side2=>exact HC0_0.out);(case side3=>exact kc' (cb' HR0_1.out HB.out));(case side4=>exact HC0_1.out);(case side5=>exact kc' (cb' HR1_0.out HB.out));(case side6=>exact HC1_0.out);(case side7=>exact kc' (kx' HR240_0.out));(case side8=>exact HC240_0.out);rintro e w30 ⟨rfl,hb⟩;refine ⟨_,rfl,?_⟩;have n0_:=am' (Kd.N_below (kN' HO_8.out) hb);have n1_:=am' (Kd.N_below (kN' HO_31.out) hb);have n2_:=am' (Kd.V_below (kV' HL240_0.out) hb);have n3_:=am' (bb' (g:=gb231) (o := .cells #[.slice A0_0 l0_0.length c0_0, .slice A0_1 l0_1.length c0_1, .int .i64 a0_2] 29 (0,0)) (kk' BK231.out) hb);have n4_:=am' (bb' (g:=gb232) (o := .cells #[.slice A1_0 l1_0.length c1_0, .bool a1_1] 38 (0,0)) (kk' BK232.out) hb);have n5_:=am' (cb' (kx' HR240_0.out) hb);have n6_:=am' (bt' (y2' GE231.out GE232.out) hb);clear HO_8;clear HO_31;clear HL240_0;clear BK231;clear BK232;clear HR240_0;clear HB;have HO_8:=n0_;have HO_31:=n1_;have HL240_0:=n2_;have BK231:=n3_;have BK232:=n4_;have HR240_0:=n5_;have HB:=n6_;clear n0_ n1_ n2_ n3_ n4_ n5_ n6_;(try clear hb);(try clear hb2);(try clear hk);(try clear hi))|((with_reducible refine gate_builtin (b := .append) (xs:=#[.tmp 41, .tmp 43]) rfl ?_);at_builtin;refine Kd.N_append (Kd.slice 3 (Kd.int .i64)) (w0:=w) w.heap.size rfl (.tmp 41) (.tmp 43) 47 22 (.slice none 0 0) 24 rfl Try.underlying47 info22 rfl (by decide) (by omega) u8 x8_2 (rd_L2 t237 x33_2) [.slice A240_0 (rd_L2 t237 x33_2).length c240_0] (fun k_=>(w.heap.size≤k_)∧some k_≠(.slice (some ad240) t237.length co20:Value).ownBlock∧k_≠gb231∧k_≠gb232) (fun k_=>((fun k_=>(w.heap.size≤k_)∧some k_≠(.slice (some ad240) t237.length co20:Value).ownBlock∧k_≠gb231∧k_≠gb232)) k_∧some k_≠(u8:Value).ownBlock) rfl rfl ?aP (fun _ hk=>hk) ?aF ?aO ?aB ?aS ?aL ?_;(case aP=>exact (Kd.FK_slice_mk (Kd.V_reads' (Kd.V_mono (ok':=(fun k_=>((fun k_=>(w.heap.size≤k_)∧some k_≠(.slice (some ad240) t237.length co20:Value).ownBlock∧k_≠gb231∧k_≠gb232)) k_∧some k_≠(u8:Value).ownBlock)) (HL240_0.out) (fun k_ hk=>⟨⟨hk.1.1,⟨hk.2,⟨hk.1.2.2.1,hk.1.2.2.2⟩⟩⟩,hk.1.2.1⟩))).2.1 (Kd.V_F (Kd.V_mono (ok':=(fun k_=>((fun k_=>(w.heap.size≤k_)∧some k_≠(.slice (some ad240) t237.length co20:Value).ownBlock∧k_≠gb231∧k_≠gb232)) k_∧some k_≠(u8:Value).ownBlock)) (HL240_0.out) (fun k_ hk=>⟨⟨hk.1.1,⟨hk.2,⟨hk.1.2.2.1,hk.1.2.2.2⟩⟩⟩,hk.1.2.1⟩)))));(case aB=>exact (y2' GE231.out GE232.out));(case aF=>exact (fun k_ hk=>⟨(Nat.le_trans (bz' (y2' GE231.out GE232.out)) hk),Kd.fresh' (Kd.N_lt (kN' HO_31.out)) k_ hk,Kd.freshB (g:=gb231) (o := .cells #[.slice A0_0 l0_0.length c0_0, .slice A0_1 l0_1.length c0_1, .int .i64 a0_2] 29 (0,0)) (kk' BK231.out) k_ hk,Kd.freshB (g:=gb232) (o := .cells #[.slice A1_0 l1_0.length c1_0, .bool a1_1] 38 (0,0)) (kk' BK232.out) k_ hk⟩));(case aO=>exact (kN' HO_8.out));(case aS=>exact (bz' (y2' GE231.out GE232.out)));(case aL=>have:=LMc26.out;omega);intro v243 w31 ho hb hg hat;rw[← Ny242.out] at ho;have n0_:=am' (Kd.N_afterv (ok:=(fun k_=>(w.heap.size≤k_)∧k_≠gb231∧k_≠gb232)) (by (with_reducible repeat (first|apply Kd.N_alloc|apply Kd.N_drewN|apply Kd.N_drew));exact Kd.N_mono HO_31.out (fun _ hk=>⟨⟨hk.1,⟨hk.2.2.1,hk.2.2.2⟩⟩,hk.2.1⟩)) hg hat);have n1_:=am' (blk_grown (g:=gb231) (o := .cells #[.slice A0_0 l0_0.length c0_0, .slice A0_1 l0_1.length c0_1, .int .i64 a0_2] 29 (0,0)) (kk' BK231.out) hg (Kd.N_ne HO_8.out BK231.out (by decide)));have n2_:=am' (blk_grown (g:=gb232) (o := .cells #[.slice A1_0 l1_0.length c1_0, .bool a1_1] 38 (0,0)) (kk' BK232.out) hg (Kd.N_ne HO_8.out BK232.out (by decide)));have n3_:=am' (Kd.V_afterv (ok:=(fun k_=>(w.heap.size≤k_)∧some k_≠(.slice (some ad240) t237.length co20:Value).ownBlock∧k_≠gb231∧k_≠gb232)) (by (with_reducible repeat (first|apply Kd.V_alloc|apply Kd.V_drewN|apply Kd.V_drew));exact Kd.V_mono HL240_0.out (fun _ hk=>⟨⟨hk.1.1,⟨hk.2,⟨hk.1.2.2.1,hk.1.2.2.2⟩⟩⟩,hk.1.2.1⟩)) hg hat);have n4_:=am' (hb);have n5_:=am' (ho);clear HO_31;clear BK231;clear BK232;clear HL240_0;clear HB;clear HO_8;have HO_31:=n0_;have BK231:=n1_;have BK232:=n2_;have HL240_0:=n3_;have HB:=n4_;have HO244:=n5_;clear n0_ n1_ n2_ n3_ n4_ n5_;clear ho hb hg hat))
           go_roundg k2
           case measure=>have:=HK1.out;have:=HK2.out;omega
           case rel=>exact ⟨(y242),(wrap64 (x33_2+1)),xs',H',⟨by have:=HK1.out;have:=HK2.out;omega⟩,⟨kN' HO244.out⟩,⟨by (with_reducible repeat (first|apply Kd.N_alloc|apply Kd.N_drewN|apply Kd.N_drew));exact Kd.N_mono HO_31.out (fun _ hk=>⟨hk.1.1,⟨hk.2,⟨hk.1.2.1,hk.1.2.2⟩⟩⟩)⟩,⟨kk' BK231.out⟩,⟨kk' BK232.out⟩,⟨y2' GE231.out GE232.out⟩⟩
          ·
           rw[if_neg c26] at H;exact absurd H (by simp)
         ·
          replace c25:=Bool.eq_false_iff.mpr c25;subst c25;have H1:(spec_loRides.l1 k2 x8_2 t237 (t237.length:Int) (wrap64 (x33_2+1)) l0_0 l0_1 a0_2 l1_0 a1_1)=some r:=by rw[if_neg (show ¬ (false=true) by decide)] at H;exact H
          clear H;have H:=H1;clear H1;have H':=am' H;clear H;have p240:0≤(x33_2:Int):=od' xa';have q240:x33_2 < (t237.length:Int):=od' xa';obtain ⟨ad240,A240_0,c240_0,e240,hx240_0,hl240_0,hi240_0⟩:=at_L2 (Kd.N_reads' HO_31.out).2.2 x33_2 p240 q240;cases e240;obtain ⟨ce240,hce240,hMe240,hcc240⟩:=Kd.N_get HO_31.out [] x33_2 p240 (by first|exact q240|exact od' xa'|(have e_:=(Kd.N_reads' HO_31.out).1;omega));obtain ⟨ua240_0,uc240_0,rfl,ul240_0,ge240_0⟩:=Kd.FK_slice_open hMe240;have hv240_0:=hcc240 0 _ rfl;rw[Nat.add_zero,show ((Kd.slice 3 (Kd.int .i64))).sz=1 from rfl,Nat.mul_one] at hv240_0;replace hv240_0:=os' (hv240_0.symm.trans hx240_0);injection hv240_0 with hva_ hvn_ hvc_
          rw[hva_] at ge240_0;rw[hvc_] at ul240_0;have HL240_0:=am' (show Kd.V (Kd.int .i64) 3 _ w.heap.size _ _ (rd_L2 t237 x33_2) from Kd.V_mk ul240_0 ge240_0);clear hva_ hvn_ hvc_ ge240_0 ul240_0;clear hcc240 hce240;have HR240_0:=am' hi240_0;have HC240_0:=am' hl240_0;clear hi240_0 hl240_0;replace p240:=eq_true p240;replace q240:=eq_true q240;have hnb32:=NB231_232.out;have hnc32:=NB232_231.out;have hcz33_0:wr.cell? ⟨gb231,0,none⟩=some (.slice A0_0 l0_0.length c0_0):=(bc' BK231.out 0).trans rfl;have hcz33_1:wr.cell? ⟨gb231,1,none⟩=some (.slice A0_1 l0_1.length c0_1):=(bc' BK231.out 1).trans rfl;have hcz33_2:wr.cell? ⟨gb231,2,none⟩=some (.int .i64 a0_2):=(bc' BK231.out 2).trans rfl;have hfz33_0:=bf' BK231.out 0;have hfz33_1:=bf' BK231.out 1;have hfz33_2:=bf' BK231.out 2;have hcz34_0:wr.cell? ⟨gb232,0,none⟩=some (.slice A1_0 l1_0.length c1_0):=(bc' BK232.out 0).trans rfl;have hcz34_1:wr.cell? ⟨gb232,1,none⟩=some (.bool a1_1):=(bc' BK232.out 1).trans rfl;have hfz34_0:=bf' BK232.out 0;have hfz34_1:=bf' BK232.out 1;go_wp2_with (first|((with_reducible refine gate_callee (f:=59) rfl ?_);refine goesL_ (some 40) rfl rfl Try.func59 xk' rfl #[.agg #[.slice A0_0 l0_0.length c0_0, .slice A0_1 l0_1.length c0_1, .int .i64 a0_2], .agg #[.slice A1_0 l1_0.length c1_0, .bool a1_1], .slice A240_0 (rd_L2 t237 x33_2).length c240_0] rfl xl' ?_;(with_reducible refine (spec_loCan.calls k2 _ _ l0_0 _ _ l0_1 a0_2 _ _ l1_0 a1_1 _ _ (rd_L2 t237 x33_2) false _ ?side1 ?side2 ?side3 ?side4 ?side5 ?side6 ?side7 ?side8 A24.out).mono ?_);(case side1=>exact kc' (cb' HR0_0.out HB.out));(case side2=>exact HC0_0.out);(case side3=>exact kc' (cb' HR0_1.out HB.out));(case side4=>exact HC0_1.out);(case side5=>exact kc' (cb' HR1_0.out HB.out));(case side6=>exact HC1_0.out);(case side7=>exact kc' (kx' HR240_0.out));(case side8=>exact HC240_0.out);rintro e w35 ⟨rfl,hb⟩;refine ⟨_,rfl,?_⟩;have n0_:=am' (Kd.N_below (kN' HO_8.out) hb);have n1_:=am' (Kd.N_below (kN' HO_31.out) hb);have n2_:=am' (Kd.V_below (kV' HL240_0.out) hb);have n3_:=am' (bb' (g:=gb231) (o := .cells #[.slice A0_0 l0_0.length c0_0, .slice A0_1 l0_1.length c0_1, .int .i64 a0_2] 29 (0,0)) (kk' BK231.out) hb);have n4_:=am' (bb' (g:=gb232) (o := .cells #[.slice A1_0 l1_0.length c1_0, .bool a1_1] 38 (0,0)) (kk' BK232.out) hb);have n5_:=am' (cb' (kx' HR240_0.out) hb);have n6_:=am' (bt' (y2' GE231.out GE232.out) hb);clear HO_8;clear HO_31;clear HL240_0;clear BK231;clear BK232;clear HR240_0;clear HB;have HO_8:=n0_;have HO_31:=n1_;have HL240_0:=n2_;have BK231:=n3_;have BK232:=n4_;have HR240_0:=n5_;have HB:=n6_;clear n0_ n1_ n2_ n3_ n4_ n5_ n6_;(try clear hb);(try clear hb2);(try clear hk);(try clear hi)))
          go_roundg k2
          case measure=>have:=HK1.out;have:=HK2.out;omega
          case rel=>exact ⟨(x8_2),(wrap64 (x33_2+1)),xs',H',⟨by have:=HK1.out;have:=HK2.out;omega⟩,⟨kN' HO_8.out⟩,⟨kN' HO_31.out⟩,⟨kk' BK231.out⟩,⟨kk' BK232.out⟩,⟨y2' GE231.out GE232.out⟩⟩
        ·
         rw[if_neg c23] at H;exact absurd H (by simp)
       ·
        rw[if_neg c22] at H;exact absurd H (by simp)
      ·
       rw[if_neg c21] at H;have c21b0:decide (x33_2 < (t237.length:Int))=false:=df' c21;clear c21;obtain rfl:=os' H;go_wp2;go_ret
       exact ⟨_,by first|rfl|(simp[errW_none,errW_some] <;> rfl)|(simp[*,errW_none,errW_some] <;> rfl),by (with_reducible repeat (first|apply Kd.N_alloc|apply Kd.N_drewN|apply Kd.N_drew));exact Kd.N_mono HO_8.out (fun _ hk=>hk.1),y2' GE231.out GE232.out⟩
end Go.Proofs.Ytikjdmiohpdnaaa.C20
