import Derived.Test.YtmfofjloklafoaaC5zx0
import Derived.Test.YtmfofjloklafoaaC5zx4
import Derived.Test.YtmfofjloklafoaaC5zx7
import Derived.Test.YtmfofjloklafoaaC5zAl
namespace Go.Proofs.Ytmfofjloklafoaa.C5
open Go.RowKit Go.Proofs.YtmfofjloklafoaaW.PrintWords Go.Proofs.YtmfofjloklafoaaW.PrintLast Go.Proofs.YtmfofjloklafoaaW.PrintMore Go.Proofs.Ytmfofjloklafoaa.H
attribute [local go_sem] max2_int min2_int max_two min_two max_three min_three max_four min_four
set_option linter.unusedVariables false
set_option linter.unusedSimpArgs false
mutual
def spec_keRides.l0:Nat→List Int→List Bool→Int→Int→Int→List (List Int)→Int→List Bool→Bool→Option ((List (List Int)))
 | 0,_,_,_,_,_,_,_,_,_=>none
 | k+1,x5,x13,x14,x15,x217000,x217001,x217002,x218000,x218001=>if x15 < x14 then (if 0≤x15 then (if x15 < (x13.length:Int) then (if ((rdOf false x13 x15) == x218001)=true then (if x5.length < 17592186044416 then (spec_keRides.l0 k (x5 ++ [x15]) x13 x14 (wrap64 (x15+1)) x217000 x217001 x217002 x218000 x218001) else (none)) else (spec_keRides.l0 k x5 x13 x14 (wrap64 (x15+1)) x217000 x217001 x217002 x218000 x218001)) else (none)) else (none)) else ((some (([(([]:List Int))]:List (List Int)):List (List Int))).bind fun y225=>(if x217002 > 0 then ((spec_paGroups.f k x5 ([]:List Int) 0 x217002).bind fun t228=>(if y225.length+t228.length < 5864062014805 then (spec_keRides.j1 k (y225 ++ t228) x217000 x217001 x217002 x218000 x218001) else (none))) else (spec_keRides.j1 k y225 x217000 x217001 x217002 x218000 x218001)))
def spec_keRides.j1:Nat→List (List Int)→Int→List (List Int)→Int→List Bool→Bool→Option ((List (List Int)))
 | 0,_,_,_,_,_,_=>none
 | k+1,x8,x217000,x217001,x217002,x218000,x218001=>spec_keRides.l1 k ([]:List (List Int)) x8 (x8.length:Int) 0 x217000 x217001 x217002 x218000 x218001
def spec_keRides.l1:Nat→List (List Int)→List (List Int)→Int→Int→Int→List (List Int)→Int→List Bool→Bool→Option ((List (List Int)))
 | 0,_,_,_,_,_,_,_,_,_=>none
 | k+1,x9,x40,x41,x42,x217000,x217001,x217002,x218000,x218001=>if x42 < x41 then (if 0≤x42 then (if x42 < (x40.length:Int) then ((spec_keCan.f k x217000 x217001 x217002 x218000 x218001 (rd_L1 x40 x42)).bind fun t235=>(if t235=true then (if x9.length < 5864062014805 then (spec_keRides.l1 k (x9 ++ [rd_L1 x40 x42]) x40 x41 (wrap64 (x42+1)) x217000 x217001 x217002 x218000 x218001) else (none)) else (spec_keRides.l1 k x9 x40 x41 (wrap64 (x42+1)) x217000 x217001 x217002 x218000 x218001))) else (none)) else (none)) else (some x9)
end
def spec_keRides.f (k:Nat) (a0_0:Int) (l0_1:List (List Int)) (a0_2:Int) (l1_0:List Bool) (a1_1:Bool):Option ((List (List Int))):=spec_keRides.l0 k ([]:List Int) l1_0 (l1_0.length:Int) 0 a0_0 l0_1 a0_2 l1_0 a1_1
set_option maxHeartbeats 8000000 in
set_option maxRecDepth 100000 in
theorem spec_keRides.calls (k:Nat) (a0_0:Int) (A0_1:Option Addr) (c0_1:Nat) (l0_1:List (List Int)) (a0_2:Int) (A1_0:Option Addr) (c1_0:Nat) (l1_0:List Bool) (a1_1:Bool) (r:List (List Int)) (w:World) (hr0_1:Kd.C (Kd.slice 3 (Kd.int .i64)) w A0_1 l0_1.length l0_1) (hc0_1:l0_1.length≤c0_1) (hr1_0:Kd.C Kd.bool w A1_0 l1_0.length l1_0) (hc1_0:l1_0.length≤c1_0) (h:spec_keRides.f k a0_0 l0_1 a0_2 l1_0 a1_1=some r) :
  Calls Try.prog 54 #[.agg #[.int .i64 a0_0, .slice A0_1 l0_1.length c0_1, .int .i64 a0_2], .agg #[.slice A1_0 l1_0.length c1_0, .bool a1_1]] w fun e w'=>∃ v0_:Value,e = .returned (v0_)∧Kd.N (Kd.slice 3 (Kd.int .i64)) 43 w' w.heap.size (fun k_=>(w.heap.size≤k_)) v0_ r∧Below w.heap.size w w':=by
 have hu32:=Try.underlying32
 have hu34:=Try.underlying34
 have HR0_1:=am' hr0_1
 have HC0_1:=am' hc0_1
 clear hr0_1 hc0_1;have HR1_0:=am' hr1_0
 have HC1_0:=am' hc1_0
 clear hr1_0 hc1_0;have HB:=am' (Below.refl w.heap.size w)
 have H:(spec_keRides.l0 k ([]:List Int) l1_0 (l1_0.length:Int) 0 a0_0 l0_1 a0_2 l1_0 a1_1)=some r:=h
 clear h;have H':=am' H
 clear H;go_enter Try.func54,Try.ntmps54
 go_wp2_with (first|((with_reducible refine gate_dst (N:=2) rfl ?_);refine box_event ?hg (N:=2) ?hd (cs:=#[.int .i64 a0_0, .slice A0_1 l0_1.length c0_1, .int .i64 a0_2]) (t:=32) ?hr ?_;(case hd=>rfl);(case hg=>rfl);(case hr=>first|(go_simp;done)|(go_simp;rfl));intro gb216 hg w3 hbox hb;have n0_:=am' (bt' xb' hb);have n1_:=am' (hbox);have n2_:=am' ((by rw[hg];exact (bz' xb'):w.heap.size≤gb216));have n3_:=am' ((by rw[hg];exact (bz' xb'):w.heap.size≤gb216));clear HB;have HB:=n0_;have BK216:=n1_;have GW216:=n2_;have GE216:=n3_;clear n0_ n1_ n2_ n3_;clear hb hbox hg)|((with_reducible refine gate_dst (N:=3) rfl ?_);refine box_event ?hg (N:=3) ?hd (cs:=#[.slice A1_0 l1_0.length c1_0, .bool a1_1]) (t:=34) ?hr ?_;(case hd=>rfl);(case hg=>rfl);(case hr=>first|(go_simp;done)|(go_simp;rfl));intro gb217 hg w4 hbox hb;have n0_:=am' (bb' (g:=gb216) (o := .cells #[.int .i64 a0_0, .slice A0_1 l0_1.length c0_1, .int .i64 a0_2] 32 (0,0)) (kk' BK216.out) hb);have n1_:=am' (bt' (yb' GE216.out) hb);have n2_:=am' (hbox);have n3_:=am' ((by rw[hg];exact (bz' (yb' GE216.out)):w.heap.size≤gb217));have n4_:=am' ((by rw[hg];exact (bz' (yb' GE216.out)):w.heap.size≤gb217));have n5_:=am' ((by rw[hg];exact Nat.ne_of_lt (blk_lt (g:=gb216) (o := .cells #[.int .i64 a0_0, .slice A0_1 l0_1.length c0_1, .int .i64 a0_2] 32 (0,0)) (kk' BK216.out)):gb216≠gb217));have n6_:=am' ((by rw[hg];exact Nat.ne_of_gt (blk_lt (g:=gb216) (o := .cells #[.int .i64 a0_0, .slice A0_1 l0_1.length c0_1, .int .i64 a0_2] 32 (0,0)) (kk' BK216.out)):gb217≠gb216));clear BK216;clear HB;have BK216:=n0_;have HB:=n1_;have BK217:=n2_;have GW217:=n3_;have GE217:=n4_;have NB216_217:=n5_;have NB217_216:=n6_;clear n0_ n1_ n2_ n3_ n4_ n5_ n6_;clear hb hbox hg;have hnb5:=NB217_216.out;have hnc5:=NB216_217.out;have hcz6_0:w4.cell? ⟨gb217,0,none⟩=some (.slice A1_0 l1_0.length c1_0):=(bc' BK217.out 0).trans rfl;have hcz6_1:w4.cell? ⟨gb217,1,none⟩=some (.bool a1_1):=(bc' BK217.out 1).trans rfl;have hfz6_0:=bf' BK217.out 0;have hfz6_1:=bf' BK217.out 1))
 go_loopg [5,15] k (fun kq v5 v15 w'=>∃ (x5_1:List Int) (x15_1:Int),v15 = .int .i64 x15_1∧Aside0 (spec_keRides.l0 kq x5_1 l1_0 (l1_0.length:Int) x15_1 a0_0 l0_1 a0_2 l1_0 a1_1=some r)∧Aside0 (kq≤k)∧Aside0 (Kd.R (Kd.int .i64) 3 w' w.heap.size (fun k_=>(w.heap.size≤k_)) v5 x5_1)∧Aside0 (w'.heap[gb216]? = some (.cells #[.int .i64 a0_0,(.slice A0_1 l0_1.length c0_1), .int .i64 a0_2] 32 (0,0)))∧Aside0 (w'.heap[gb217]? = some (.cells #[(.slice A1_0 l1_0.length c1_0), .bool a1_1] 34 (0,0)))∧Aside0 (Below w.heap.size w w'))
 case atStart=>exact ⟨(([]:List Int)),(0),xs',H',⟨Nat.le_refl _⟩,⟨by first|exact Kd.R_nil _ _ _ _ _|exact Kd.N_nil _ _ _ _ _|exact Kd.V_nil _ _ _ _ _|exact Kd.Q_nil _ _ _ _ _|exact Kd.S_nil _ _ _ _ _⟩,⟨kk' BK216.out⟩,⟨kk' BK217.out⟩,⟨y2' GE216.out GE217.out⟩⟩
 case round =>
  clear H';try clear c1
  try clear p2
  try clear c5
  try clear hcz6_0
  try clear hcz6_1
  try clear hfz6_0
  try clear hfz6_1
  obtain ⟨x5_1,x15_1,rfl,HA,HK1,HO_5,BK216,BK217,HB⟩:=hrel;cases gk with
  | zero=>exact absurd HA.out (by simp[spec_keRides.l0])
  | succ k1 =>
   have H:=HA.out;clear HA;simp only[spec_keRides.l0] at H;by_cases c7:x15_1 < (l1_0.length:Int)
   ·
    rw[if_pos c7] at H;have c7b0:decide (x15_1 < (l1_0.length:Int))=true:=dt' c7;clear c7;by_cases c8:0≤x15_1
    ·
     rw[if_pos c8] at H;have c8b0:decide (0≤x15_1)=true:=dt' c8;clear c8;by_cases c9:x15_1 < (l1_0.length:Int)
     ·
      rw[if_pos c9] at H;have c9b0:decide (x15_1 < (l1_0.length:Int))=true:=dt' c9;clear c9;by_cases c10:((rdOf false l1_0 x15_1) == a1_1)=true
      ·
       rw[if_pos c10] at H;have c10b0:((rdOf false l1_0 x15_1) == a1_1)=true:=c10
       (try (have c10b1:decide ((rdOf false l1_0 x15_1)=a1_1)=true:=by simpa using c10))
       (try (have c10b2:((rdOf false l1_0 x15_1) == a1_1)=true:=by simpa using c10))
       clear c10;by_cases c11:x5_1.length < 17592186044416
       ·
        rw[if_pos c11] at H;have LMc11:=am' c11;clear c11;obtain ⟨y219,hy219⟩:∃ y_:List Int,y_=(x5_1 ++ [x15_1]):=⟨_,rfl⟩
        replace H:(spec_keRides.l0 k1 y219 l1_0 (l1_0.length:Int) (wrap64 (x15_1+1)) a0_0 l0_1 a0_2 l1_0 a1_1)=some r:=by first|(rw[hy219];with_reducible exact H)|(have H2_:=(Option.bind_some _ _).symm.trans H;rw[hy219];with_reducible exact H2_)|(have H2_:=(Option.bind_some _ _).symm.trans H;with_reducible exact H2_)|with_reducible exact H|(rw[hy219];exact H)|exact H
        have Ny219:=am' hy219;clear hy219;have H':=am' H;clear H;have p218:0≤(x15_1:Int):=od' xa';have q218:x15_1 < (l1_0.length:Int):=od' xa';obtain ⟨ad218,e218,hx218_0⟩:=Kd.at_bool HR1_0.out x15_1 p218 q218;cases e218;replace hx218_0:=(HB.out.cell (bl' w _ hx218_0)).trans hx218_0;replace p218:=eq_true p218;replace q218:=eq_true q218;have hnb12:=NB217_216.out;have hnc12:=NB216_217.out;have hcz13_0:wr.cell? ⟨gb217,0,none⟩=some (.slice (some ad218) l1_0.length c1_0):=(bc' BK217.out 0).trans rfl;have hcz13_1:wr.cell? ⟨gb217,1,none⟩=some (.bool a1_1):=(bc' BK217.out 1).trans rfl;have hfz13_0:=bf' BK217.out 0;have hfz13_1:=bf' BK217.out 1;go_wp2_with (first|((with_reducible refine gate_builtin (b := .append) (xs:=#[.tmp 24, .tmp 26]) rfl ?_);at_builtin;refine Kd.R_append (Kd.int .i64) (w0:=w) w.heap.size rfl (.tmp 24) (.tmp 26) 43 3 (.int .i64 0) 8 rfl Try.underlying43 info3 rfl (by decide) (by omega) u5 x5_1 x15_1 [.int .i64 x15_1] (fun k_=>(w.heap.size≤k_)) (fun _=>False) rfl rfl ?aP (fun _ hk=>hk.elim) ?aF ?aO ?aB ?aS ?aL ?_;(case aP=>exact rfl);(case aB=>exact (y2' GE216.out GE217.out));(case aF=>exact (fun k_ hk=>(Nat.le_trans (bz' (y2' GE216.out GE217.out)) hk)));(case aO=>exact (kr' HO_5.out));(case aS=>exact (bz' (y2' GE216.out GE217.out)));(case aL=>have:=LMc11.out;omega);intro v220 w14 ho hb hg hat;rw[← Ny219.out] at ho;have n0_:=am' (blk_grown (g:=gb216) (o := .cells #[.int .i64 a0_0, .slice A0_1 l0_1.length c0_1, .int .i64 a0_2] 32 (0,0)) (kk' BK216.out) hg (Kd.R_ne HO_5.out BK216.out (by decide)));have n1_:=am' (blk_grown (g:=gb217) (o := .cells #[.slice (some ad218) l1_0.length c1_0, .bool a1_1] 34 (0,0)) (kk' BK217.out) hg (Kd.R_ne HO_5.out BK217.out (by decide)));have n2_:=am' (hb);have n3_:=am' (ho);clear BK216;clear BK217;clear HB;clear HO_5;have BK216:=n0_;have BK217:=n1_;have HB:=n2_;have HO221:=n3_;clear n0_ n1_ n2_ n3_;clear ho hb hg hat));go_roundg k1
        case measure=>have:=HK1.out;omega
        case rel=>exact ⟨(y219),(wrap64 (x15_1+1)),xs',H',⟨by have:=HK1.out;omega⟩,⟨kr' HO221.out⟩,⟨kk' BK216.out⟩,⟨kk' BK217.out⟩,⟨y2' GE216.out GE217.out⟩⟩
       ·
        rw[if_neg c11] at H;exact absurd H (by simp)
      ·
       rw[if_neg c10] at H;have c10b0:((rdOf false l1_0 x15_1) == a1_1)=false:=by simpa using c10
       (try (have c10b1:decide ((rdOf false l1_0 x15_1)=a1_1)=false:=by simpa using c10))
       (try (have c10b2:((rdOf false l1_0 x15_1) == a1_1)=false:=by simpa using c10))
       (try (have c10b3:¬ ((rdOf false l1_0 x15_1)=a1_1):=by simpa using c10))
       clear c10;have H':=am' H;clear H;have p218:0≤(x15_1:Int):=od' xa';have q218:x15_1 < (l1_0.length:Int):=od' xa';obtain ⟨ad218,e218,hx218_0⟩:=Kd.at_bool HR1_0.out x15_1 p218 q218;cases e218;replace hx218_0:=(HB.out.cell (bl' w _ hx218_0)).trans hx218_0;replace p218:=eq_true p218;replace q218:=eq_true q218;have hnb15:=NB217_216.out;have hnc15:=NB216_217.out;have hcz16_0:wr.cell? ⟨gb217,0,none⟩=some (.slice (some ad218) l1_0.length c1_0):=(bc' BK217.out 0).trans rfl;have hcz16_1:wr.cell? ⟨gb217,1,none⟩=some (.bool a1_1):=(bc' BK217.out 1).trans rfl;have hfz16_0:=bf' BK217.out 0;have hfz16_1:=bf' BK217.out 1;go_wp2;go_roundg k1
       case measure=>have:=HK1.out;omega
       case rel=>exact ⟨(x5_1),(wrap64 (x15_1+1)),xs',H',⟨by have:=HK1.out;omega⟩,⟨kr' HO_5.out⟩,⟨kk' BK216.out⟩,⟨kk' BK217.out⟩,⟨y2' GE216.out GE217.out⟩⟩
     ·
      rw[if_neg c9] at H;exact absurd H (by simp)
    ·
     rw[if_neg c8] at H;exact absurd H (by simp)
   ·
    rw[if_neg c7] at H;have c7b0:decide (x15_1 < (l1_0.length:Int))=false:=df' c7;clear c7;obtain ⟨y222,hy222⟩:∃ y_:List Int,y_=(([]:List Int)):=⟨_,rfl⟩
    replace H:((some (([y222]:List (List Int)):List (List Int))).bind fun y225=>(if a0_2 > 0 then ((spec_paGroups.f k1 x5_1 ([]:List Int) 0 a0_2).bind fun t228=>(if y225.length+t228.length < 5864062014805 then (spec_keRides.j1 k1 (y225 ++ t228) a0_0 l0_1 a0_2 l1_0 a1_1) else (none))) else (spec_keRides.j1 k1 y225 a0_0 l0_1 a0_2 l1_0 a1_1)))=some r:=by first|(rw[hy222];with_reducible exact H)|(have H2_:=(Option.bind_some _ _).symm.trans H;rw[hy222];with_reducible exact H2_)|(have H2_:=(Option.bind_some _ _).symm.trans H;with_reducible exact H2_)|with_reducible exact H|(rw[hy222];exact H)|exact H
    have Ny222:=am' hy222;clear hy222;obtain ⟨y225,hy225⟩:∃ y_:List (List Int),y_=(([y222]:List (List Int))):=⟨_,rfl⟩
    replace H:(if a0_2 > 0 then ((spec_paGroups.f k1 x5_1 ([]:List Int) 0 a0_2).bind fun t228=>(if y225.length+t228.length < 5864062014805 then (spec_keRides.j1 k1 (y225 ++ t228) a0_0 l0_1 a0_2 l1_0 a1_1) else (none))) else (spec_keRides.j1 k1 y225 a0_0 l0_1 a0_2 l1_0 a1_1))=some r:=by first|(rw[hy225];with_reducible exact H)|(have H2_:=(Option.bind_some _ _).symm.trans H;rw[hy225];with_reducible exact H2_)|(have H2_:=(Option.bind_some _ _).symm.trans H;with_reducible exact H2_)|with_reducible exact H|(rw[hy225];exact H)|exact H
    have Ny225:=am' hy225;clear hy225;have HC17:=am' H;clear H;go_upto_if 33 with (first|((with_reducible refine gate_dst (N:=29) rfl ?_);refine Kd.R_lit (Kd.int .i64) _ 3 ?hg (N:=29) ?hd (xs:=([]:List Int)) (inner:=[]) (ok:=fun _=>True) (okp:=fun _=>True) ?hr ?hp (fun _ hk=>hk) trivial (Below.refl _ _) (Nat.le_refl _) (by simp) ?_;(case hd=>rfl);(case hg=>rfl);(case hr=>first|(go_simp;done)|(go_simp;rfl));(case hp=>exact (Reps.none _ _));intro v223 w18 ho19 hb hg_ hnew_;clear hg_ hnew_;(first|rw[← Ny222.out] at ho19|(simp only[Int.reduceToNat] at ho19;rw[← Ny222.out] at ho19));have n0_:=am' (Kd.R_elder' (kr' HO_5.out) (Kd.R_base ho19) hb);have n1_:=am' (Kd.R_lower (Kd.R_new' (Kd.R_newM (M:=fun k_=>(w.heap.size≤k_)) ho19 (bz' (y2' GE216.out GE217.out)) (fun k_ h_=>h_)) (Kd.R_lt (kr' HO_5.out))) (bz' (y2' GE216.out GE217.out)));have n2_:=am' (bb' (g:=gb216) (o := .cells #[.int .i64 a0_0, .slice A0_1 l0_1.length c0_1, .int .i64 a0_2] 32 (0,0)) (kk' BK216.out) hb);have n3_:=am' (bb' (g:=gb217) (o := .cells #[.slice A1_0 l1_0.length c1_0, .bool a1_1] 34 (0,0)) (kk' BK217.out) hb);have n4_:=am' (bt' (y2' GE216.out GE217.out) hb);clear HO_5;clear BK216;clear BK217;clear HB;have HO_5:=n0_;have HO224:=n1_;have BK216:=n2_;have BK217:=n3_;have HB:=n4_;clear n0_ n1_ n2_ n3_ n4_;clear hb ho19;obtain ⟨Ao20,co20,eo20⟩:=Kd.R_slice HO224.out;subst eo20)|((with_reducible refine gate_dst (N:=30) rfl ?_);refine Kd.N_lit (Kd.slice 3 (Kd.int .i64)) _ 43 ?hg (N':=30) ?hd (xs:=([y222]:List (List Int))) (inner:=[.slice Ao20 y222.length co20]) (ok:=(fun k_=>(w.heap.size≤k_)∧some k_≠(u5:Value).ownBlock∧k_≠gb216∧k_≠gb217)) (okp:=(fun k_=>(w.heap.size≤k_)∧some k_≠(u5:Value).ownBlock∧k_≠gb216∧k_≠gb217)) ?hr ?hp (fun _ hk=>hk) ((show ∀ k_,w18.heap.size≤k_→(fun k_=>(w.heap.size≤k_)∧some k_≠(u5:Value).ownBlock∧k_≠gb216∧k_≠gb217) k_ from fun k_ hk=>⟨(Nat.le_trans (bz' (y2' GE216.out GE217.out)) hk),Kd.fresh' (Kd.R_lt (kr' HO_5.out)) k_ hk,Kd.freshB (g:=gb216) (o := .cells #[.int .i64 a0_0, .slice A0_1 l0_1.length c0_1, .int .i64 a0_2] 32 (0,0)) (kk' BK216.out) k_ hk,Kd.freshB (g:=gb217) (o := .cells #[.slice A1_0 l1_0.length c1_0, .bool a1_1] 34 (0,0)) (kk' BK217.out) k_ hk⟩) _ (Nat.le_refl _)) (Below.refl _ _) (Nat.le_refl _) (by simp) ?_;(case hd=>rfl);(case hg=>rfl);(case hr=>first|(go_simp;done)|(go_simp;rfl));(case hp=>exact (Reps.one (show Kd.FK (Kd.slice 3 (Kd.int .i64)) _ _ y222 [.slice Ao20 y222.length co20] from (Kd.FK_slice_mk (Kd.R_reads' (Kd.R_mono (ok':=(fun k_=>(w.heap.size≤k_)∧some k_≠(u5:Value).ownBlock∧k_≠gb216∧k_≠gb217)) (Kd.R_types (Kd.R_types (HO224.out) BK216.out (by decide)) BK217.out (by decide)) (fun k_ hk=>⟨hk.1.1.1.1,⟨hk.1.1.2,⟨hk.1.2,hk.2⟩⟩⟩))).2.1 (Kd.R_F (Kd.R_mono (ok':=(fun k_=>(w.heap.size≤k_)∧some k_≠(u5:Value).ownBlock∧k_≠gb216∧k_≠gb217)) (Kd.R_types (Kd.R_types (HO224.out) BK216.out (by decide)) BK217.out (by decide)) (fun k_ hk=>⟨hk.1.1.1.1,⟨hk.1.1.2,⟨hk.1.2,hk.2⟩⟩⟩))))) (Reps.none _ _)));intro v226 w21 ho22 hb hg_ hnew_;clear hg_ hnew_;(first|rw[← Ny225.out] at ho22|(simp only[Int.reduceToNat] at ho22;rw[← Ny225.out] at ho22));have n0_:=am' (rb' (kr' HO_5.out) hb);have n1_:=am' (Kd.N_lower ho22 (bz' (y2' GE216.out GE217.out)));have n2_:=am' (bb' (g:=gb216) (o := .cells #[.int .i64 a0_0, .slice A0_1 l0_1.length c0_1, .int .i64 a0_2] 32 (0,0)) (kk' BK216.out) hb);have n3_:=am' (bb' (g:=gb217) (o := .cells #[.slice A1_0 l1_0.length c1_0, .bool a1_1] 34 (0,0)) (kk' BK217.out) hb);have n4_:=am' (bt' (y2' GE216.out GE217.out) hb);clear HO_5;clear BK216;clear BK217;clear HB;clear HO224;have HO_5:=n0_;have HO227:=n1_;have BK216:=n2_;have BK217:=n3_;have HB:=n4_;clear n0_ n1_ n2_ n3_ n4_;clear hb ho22;have hnb23:=NB216_217.out;have hnc23:=NB217_216.out;have hcz24_0:w21.cell? ⟨gb216,0,none⟩=some (.int .i64 a0_0):=(bc' BK216.out 0).trans rfl;have hcz24_1:w21.cell? ⟨gb216,1,none⟩=some (.slice A0_1 l0_1.length c0_1):=(bc' BK216.out 1).trans rfl;have hcz24_2:w21.cell? ⟨gb216,2,none⟩=some (.int .i64 a0_2):=(bc' BK216.out 2).trans rfl;have hfz24_0:=bf' BK216.out 0;have hfz24_1:=bf' BK216.out 1;have hfz24_2:=bf' BK216.out 2))
    (try simp only[Act.put,sa',sb',sc'])
    go_cut [8] (fun v8 wc=>∃ (kq:Nat) (x8_16:List (List Int)),Aside0 (spec_keRides.j1 kq x8_16 a0_0 l0_1 a0_2 l1_0 a1_1=some r)∧Aside0 (kq≤k1)∧Aside0 (Kd.N (Kd.slice 3 (Kd.int .i64)) 43 wc w.heap.size (fun k_=>(w.heap.size≤k_)∧k_≠gb216∧k_≠gb217) v8 x8_16)∧Aside0 (wc.heap[gb216]? = some (.cells #[.int .i64 a0_0,(.slice A0_1 l0_1.length c0_1), .int .i64 a0_2] 32 (0,0)))∧Aside0 (wc.heap[gb217]? = some (.cells #[(.slice A1_0 l1_0.length c1_0), .bool a1_1] 34 (0,0)))∧Aside0 (Below w.heap.size w wc))
    case first =>
     have H:=HC17.out;clear HC17;by_cases c25:a0_2 > 0
     ·
      rw[if_pos c25] at H;have c25b0:decide (0 < a0_2)=true:=dt' c25;clear c25;(first|rw[c25b0]|(simp only[i64_w,i32_w];rw[c25b0])|skip)
      replace H:=Option.bind_eq_some_iff.mp H;obtain ⟨t228,A260,H⟩:=H;replace H:(if y225.length+t228.length < 5864062014805 then (spec_keRides.j1 k1 (y225 ++ t228) a0_0 l0_1 a0_2 l1_0 a1_1) else (none))=some r:=H;have A26:=am' A260;clear A260;by_cases c27:y225.length+t228.length < 5864062014805
      ·
       rw[if_pos c27] at H;have LMc27:=am' c27;clear c27;obtain ⟨y231,hy231⟩:∃ y_:List (List Int),y_=(y225 ++ t228):=⟨_,rfl⟩
       replace H:(spec_keRides.j1 k1 y231 a0_0 l0_1 a0_2 l1_0 a1_1)=some r:=by first|(rw[hy231];with_reducible exact H)|(have H2_:=(Option.bind_some _ _).symm.trans H;rw[hy231];with_reducible exact H2_)|(have H2_:=(Option.bind_some _ _).symm.trans H;with_reducible exact H2_)|with_reducible exact H|(rw[hy231];exact H)|exact H
       have Ny231:=am' hy231;clear hy231;have H':=am' H;clear H;have hnb28:=NB216_217.out;have hnc28:=NB217_216.out;have hcz29_0:w21.cell? ⟨gb216,0,none⟩=some (.int .i64 a0_0):=(bc' BK216.out 0).trans rfl;have hcz29_1:w21.cell? ⟨gb216,1,none⟩=some (.slice A0_1 l0_1.length c0_1):=(bc' BK216.out 1).trans rfl;have hcz29_2:w21.cell? ⟨gb216,2,none⟩=some (.int .i64 a0_2):=(bc' BK216.out 2).trans rfl;have hfz29_0:=bf' BK216.out 0;have hfz29_1:=bf' BK216.out 1;have hfz29_2:=bf' BK216.out 2;obtain ⟨Ao30,co30,eo30⟩:=Kd.R_slice HO_5.out;subst eo30;go_wp2_with (first|((with_reducible refine gate_callee (f:=62) rfl ?_);refine goesL_ (some 38) rfl rfl Try.func62 xk' rfl #[.slice Ao30 x5_1.length co30, .slice none 0 0, .int .i64 0, .int .i64 a0_2] rfl xl' ?_;(refine (spec_paGroups.calls k1 _ _ x5_1 _ _ ([]:List Int) 0 a0_2 t228 _ ?side1 ?side2 ?side3 ?side4 A26.out).mono ?_);(case side1=>exact kc' ((Kd.R_reads' HO_5.out).2.2));(case side2=>exact (Kd.R_reads' HO_5.out).2.1);(case side3=>exact Kd.C_nil _ _);(case side4=>exact Nat.le_refl _);rintro e w31 ⟨v229,rfl,ho0,hb⟩;refine ⟨_,rfl,?_⟩;have n0_:=am' (rb' (kr' HO_5.out) hb);have n1_:=am' (Kd.N_elder' (kN' HO227.out) (Kd.N_base ho0) hb);have n2_:=am' (Kd.N_lower (Kd.N_mono (ok':=fun k_=>(w.heap.size≤k_)∧some k_≠(.slice Ao30 x5_1.length co30:Value).ownBlock∧some k_≠(v226:Value).ownBlock∧k_≠gb216∧k_≠gb217) ho0 (fun k_ hk_=>⟨(Nat.le_trans (bz' (y2' GE216.out GE217.out)) hk_),(Kd.fresh' (Kd.R_lt (kr' HO_5.out)) k_ hk_),(Kd.fresh' (Kd.N_lt (kN' HO227.out)) k_ hk_),(Kd.freshB (g:=gb216) (o := .cells #[.int .i64 a0_0, .slice A0_1 l0_1.length c0_1, .int .i64 a0_2] 32 (0,0)) (kk' BK216.out) k_ hk_),(Kd.freshB (g:=gb217) (o := .cells #[.slice A1_0 l1_0.length c1_0, .bool a1_1] 34 (0,0)) (kk' BK217.out) k_ hk_)⟩)) (bz' (y2' GE216.out GE217.out)));have n3_:=am' (bb' (g:=gb216) (o := .cells #[.int .i64 a0_0, .slice A0_1 l0_1.length c0_1, .int .i64 a0_2] 32 (0,0)) (kk' BK216.out) hb);have n4_:=am' (bb' (g:=gb217) (o := .cells #[.slice A1_0 l1_0.length c1_0, .bool a1_1] 34 (0,0)) (kk' BK217.out) hb);have n5_:=am' (bt' (y2' GE216.out GE217.out) hb);clear HO_5;clear HO227;clear BK216;clear BK217;clear HB;have HO_5:=n0_;have HO227:=n1_;have HO230:=n2_;have BK216:=n3_;have BK217:=n4_;have HB:=n5_;clear n0_ n1_ n2_ n3_ n4_ n5_;(try clear hb);(try clear hb2);(try clear hk);(try clear hi);(try clear ho0);obtain ⟨Ao33,co33,eo33⟩:=Kd.N_slice HO230.out;subst eo33)|((with_reducible refine gate_builtin (b := .append) (xs:=#[.tmp 34, .tmp 38]) rfl ?_);at_builtin;refine Kd.N_append_rows (Kd.slice 3 (Kd.int .i64)) (w0:=w) w.heap.size rfl (.tmp 34) (.tmp 38) 22 43 (.slice none 0 0) 24 rfl Try.underlying22 info43 rfl (by decide) (by omega) v226 y225 t228 _ _ _ (fun k_=>(w.heap.size≤k_)∧some k_≠(.slice Ao30 x5_1.length co30:Value).ownBlock∧k_≠gb216∧k_≠gb217) (fun k_=>((fun k_=>(w.heap.size≤k_)∧some k_≠(.slice Ao30 x5_1.length co30:Value).ownBlock∧k_≠gb216∧k_≠gb217)) k_∧some k_≠(v226:Value).ownBlock) rfl rfl ?aO ?aR (fun _ hk=>hk) ?aF ?aB ?aS ?aL ?_;(case aR=>exact (by skip;exact Kd.N_F (Kd.N_mono (ok':=(fun k_=>((fun k_=>(w.heap.size≤k_)∧some k_≠(.slice Ao30 x5_1.length co30:Value).ownBlock∧k_≠gb216∧k_≠gb217)) k_∧some k_≠(v226:Value).ownBlock)) (HO230.out) (fun k_ hk=>⟨⟨hk.1,⟨hk.2.1,⟨hk.2.2.2.1,hk.2.2.2.2⟩⟩⟩,hk.2.2.1⟩))));(case aB=>exact (y2' GE216.out GE217.out));(case aF=>exact (fun k_ hk=>⟨(Nat.le_trans (bz' (y2' GE216.out GE217.out)) hk),Kd.fresh' (Kd.R_lt (kr' HO_5.out)) k_ hk,Kd.freshB (g:=gb216) (o := .cells #[.int .i64 a0_0, .slice A0_1 l0_1.length c0_1, .int .i64 a0_2] 32 (0,0)) (kk' BK216.out) k_ hk,Kd.freshB (g:=gb217) (o := .cells #[.slice A1_0 l1_0.length c1_0, .bool a1_1] 34 (0,0)) (kk' BK217.out) k_ hk⟩));(case aO=>exact (by (with_reducible repeat (first|apply Kd.N_alloc|apply Kd.N_drewN|apply Kd.N_drew));exact Kd.N_mono HO227.out (fun _ hk=>⟨hk.1.1,⟨hk.1.2.1,⟨hk.1.2.2.1,hk.1.2.2.2⟩⟩⟩)));(case aS=>exact (bz' (y2' GE216.out GE217.out)));(case aL=>have:=LMc27.out;omega);intro v232 w32 ho hb hg hat;rw[← Ny231.out] at ho;have n0_:=am' (Kd.R_over' (kr' HO_5.out) (Kd.N_typed (kN' HO227.out)) (by decide) hg);have n1_:=am' (blk_grown (g:=gb216) (o := .cells #[.int .i64 a0_0, .slice A0_1 l0_1.length c0_1, .int .i64 a0_2] 32 (0,0)) (kk' BK216.out) hg (Kd.N_ne HO227.out BK216.out (by decide)));have n2_:=am' (blk_grown (g:=gb217) (o := .cells #[.slice A1_0 l1_0.length c1_0, .bool a1_1] 34 (0,0)) (kk' BK217.out) hg (Kd.N_ne HO227.out BK217.out (by decide)));have n3_:=am' (Kd.N_afterv (ok:=(fun k_=>(w.heap.size≤k_)∧some k_≠(.slice Ao30 x5_1.length co30:Value).ownBlock∧k_≠gb216∧k_≠gb217)) (by (with_reducible repeat (first|apply Kd.N_alloc|apply Kd.N_drewN|apply Kd.N_drew));exact Kd.N_mono HO230.out (fun _ hk=>⟨⟨hk.1,⟨hk.2.1,⟨hk.2.2.2.1,hk.2.2.2.2⟩⟩⟩,hk.2.2.1⟩)) hg hat);have n4_:=am' (hb);have n5_:=am' (ho);clear HO_5;clear BK216;clear BK217;clear HO230;clear HB;clear HO227;have HO_5:=n0_;have BK216:=n1_;have BK217:=n2_;have HO230:=n3_;have HB:=n4_;have HO233:=n5_;clear n0_ n1_ n2_ n3_ n4_ n5_;clear ho hb hg hat))
       go_meet
       case rel=>exact ⟨_,(y231),H',⟨by have:=HK1.out;first|omega|exact Nat.le_refl _⟩,⟨by (with_reducible repeat (first|apply Kd.N_alloc|apply Kd.N_drewN|apply Kd.N_drew));exact Kd.N_mono HO233.out (fun _ hk=>⟨hk.1,⟨hk.2.2.1,hk.2.2.2⟩⟩)⟩,⟨kk' BK216.out⟩,⟨kk' BK217.out⟩,⟨y2' GE216.out GE217.out⟩⟩
      ·
       rw[if_neg c27] at H;exact absurd H (by simp)
     ·
      rw[if_neg c25] at H;have c25b0:decide (0 < a0_2)=false:=df' c25;clear c25;(first|rw[c25b0]|(simp only[i64_w,i32_w];rw[c25b0])|skip)
      have H':=am' H;clear H;go_wp2;go_meet
      case rel=>exact ⟨_,(y225),H',⟨by have:=HK1.out;first|omega|exact Nat.le_refl _⟩,⟨by (with_reducible repeat (first|apply Kd.N_alloc|apply Kd.N_drewN|apply Kd.N_drew));exact Kd.N_mono HO227.out (fun _ hk=>⟨hk.1,⟨hk.2.2.1,hk.2.2.2⟩⟩)⟩,⟨kk' BK216.out⟩,⟨kk' BK217.out⟩,⟨y2' GE216.out GE217.out⟩⟩
    case rest =>
     clear HC17;try clear c1
     try clear c2
     try clear p2
     try clear q2
     try clear hx2
     try clear c5
     try clear c6
     try clear p6
     try clear c7
     try clear c7b0
     try clear c8
     try clear c8b0
     try clear c9
     try clear c9b0
     try clear c10
     try clear c10b0
     try clear c10b1
     try clear c10b2
     try clear c11
     try clear c12
     try clear c15
     try clear p21
     try clear q21
     try clear hx21
     try clear c23
     try clear c25
     try clear c25b0
     try clear c27
     try clear c28
     try clear hcz13_0
     try clear hcz13_1
     try clear hcz16_0
     try clear hcz16_1
     try clear hcz24_0
     try clear hcz24_1
     try clear hcz24_2
     try clear hcz29_0
     try clear hcz29_1
     try clear hcz29_2
     try clear hcz6_0
     try clear hcz6_1
     try clear hfz13_0
     try clear hfz13_1
     try clear hfz16_0
     try clear hfz16_1
     try clear hfz24_0
     try clear hfz24_1
     try clear hfz24_2
     try clear hfz29_0
     try clear hfz29_1
     try clear hfz29_2
     try clear hfz6_0
     try clear hfz6_1
     try clear hx218_0
     try clear p2
     try clear p218
     try clear q218
     obtain ⟨kq,x8_16,HA,HJ16,HO_8,BK216,BK217,HB⟩:=hcut;cases kq with
     | zero=>exact absurd HA.out (by simp[spec_keRides.j1])
     | succ kj16 =>
      have H:=HA.out;clear HA;simp only[spec_keRides.j1] at H;have H':=am' H;clear H;obtain ⟨Ao34,co34,eo34⟩:=Kd.N_slice HO_8.out;subst eo34;go_wp2;go_loopg [9,42] kj16 (fun kq v9 v42 w'=>∃ (x9_3:List (List Int)) (x42_3:Int),v42 = .int .i64 x42_3∧Aside0 (spec_keRides.l1 kq x9_3 x8_16 (x8_16.length:Int) x42_3 a0_0 l0_1 a0_2 l1_0 a1_1=some r)∧Aside0 (kq≤kj16)∧Aside0 (Kd.N (Kd.slice 3 (Kd.int .i64)) 43 w' w.heap.size (fun k_=>(w.heap.size≤k_)∧some k_≠((.slice Ao34 x8_16.length co34):Value).ownBlock∧k_≠gb216∧k_≠gb217) v9 x9_3)∧Aside0 (Kd.N (Kd.slice 3 (Kd.int .i64)) 43 w' w.heap.size (fun k_=>(w.heap.size≤k_)∧some k_≠(v9:Value).ownBlock∧k_≠gb216∧k_≠gb217) (.slice Ao34 x8_16.length co34) x8_16)∧Aside0 (w'.heap[gb216]? = some (.cells #[.int .i64 a0_0,(.slice A0_1 l0_1.length c0_1), .int .i64 a0_2] 32 (0,0)))∧Aside0 (w'.heap[gb217]? = some (.cells #[(.slice A1_0 l1_0.length c1_0), .bool a1_1] 34 (0,0)))∧Aside0 (Below w.heap.size w w'))
      case atStart=>exact ⟨(([]:List (List Int))),(0),xs',H',⟨Nat.le_refl _⟩,⟨by first|exact Kd.S_nil _ _ _ _ _|exact Kd.N_nil _ _ _ _ _|exact Kd.V_nil _ _ _ _ _|exact Kd.Q_nil _ _ _ _ _|exact Kd.R_nil _ _ _ _ _⟩,⟨by (with_reducible repeat (first|apply Kd.N_alloc|apply Kd.N_drewN|apply Kd.N_drew));exact Kd.N_mono HO_8.out (fun _ hk=>⟨hk.1,⟨(by simp[Value.ownBlock]),⟨hk.2.1,hk.2.2⟩⟩⟩)⟩,⟨kk' BK216.out⟩,⟨kk' BK217.out⟩,⟨y2' GE216.out GE217.out⟩⟩
      case round =>
       clear H';try clear c1
       try clear c2
       try clear p2
       try clear q2
       try clear hx2
       try clear c5
       try clear c6
       try clear p6
       try clear c7
       try clear c7b0
       try clear c8
       try clear c8b0
       try clear c9
       try clear c9b0
       try clear c10
       try clear c10b0
       try clear c10b1
       try clear c10b2
       try clear c11
       try clear c12
       try clear c15
       try clear p21
       try clear q21
       try clear hx21
       try clear c23
       try clear c25
       try clear c25b0
       try clear c27
       try clear c28
       try clear hcz13_0
       try clear hcz13_1
       try clear hcz16_0
       try clear hcz16_1
       try clear hcz24_0
       try clear hcz24_1
       try clear hcz24_2
       try clear hcz29_0
       try clear hcz29_1
       try clear hcz29_2
       try clear hcz6_0
       try clear hcz6_1
       try clear hfz13_0
       try clear hfz13_1
       try clear hfz16_0
       try clear hfz16_1
       try clear hfz24_0
       try clear hfz24_1
       try clear hfz24_2
       try clear hfz29_0
       try clear hfz29_1
       try clear hfz29_2
       try clear hfz6_0
       try clear hfz6_1
       try clear hx218_0
       try clear p2
       try clear p21
       try clear p218
       try clear p6
       try clear q2
       try clear q21
       try clear q218
       obtain ⟨x9_3,x42_3,rfl,HA,HK3,HO_9,HO_40,BK216,BK217,HB⟩:=hrel;cases gk with
       | zero=>exact absurd HA.out (by simp[spec_keRides.l1])
       | succ k3 =>
        have H:=HA.out;clear HA;simp only[spec_keRides.l1] at H;by_cases c35:x42_3 < (x8_16.length:Int)
        ·
         rw[if_pos c35] at H;have c35b0:decide (x42_3 < (x8_16.length:Int))=true:=dt' c35;clear c35;by_cases c36:0≤x42_3
         ·
          rw[if_pos c36] at H;have c36b0:decide (0≤x42_3)=true:=dt' c36;clear c36;by_cases c37:x42_3 < (x8_16.length:Int)
          ·
           rw[if_pos c37] at H;have c37b0:decide (x42_3 < (x8_16.length:Int))=true:=dt' c37;clear c37;replace H:=Option.bind_eq_some_iff.mp H;obtain ⟨t235,A380,H⟩:=H;replace H:(if t235=true then (if x9_3.length < 5864062014805 then (spec_keRides.l1 k3 (x9_3 ++ [rd_L1 x8_16 x42_3]) x8_16 (x8_16.length:Int) (wrap64 (x42_3+1)) a0_0 l0_1 a0_2 l1_0 a1_1) else (none)) else (spec_keRides.l1 k3 x9_3 x8_16 (x8_16.length:Int) (wrap64 (x42_3+1)) a0_0 l0_1 a0_2 l1_0 a1_1))=some r:=H;have A38:=am' A380;clear A380;by_cases c39:t235=true
           ·
            subst c39;have H1:(if x9_3.length < 5864062014805 then (spec_keRides.l1 k3 (x9_3 ++ [rd_L1 x8_16 x42_3]) x8_16 (x8_16.length:Int) (wrap64 (x42_3+1)) a0_0 l0_1 a0_2 l1_0 a1_1) else (none))=some r:=by rw[if_pos rfl] at H;exact H
            clear H;have H:=H1;clear H1;by_cases c40:x9_3.length < 5864062014805
            ·
             rw[if_pos c40] at H;have LMc40:=am' c40;clear c40;obtain ⟨y236,hy236⟩:∃ y_:List (List Int),y_=(x9_3 ++ [rd_L1 x8_16 x42_3]):=⟨_,rfl⟩
             replace H:(spec_keRides.l1 k3 y236 x8_16 (x8_16.length:Int) (wrap64 (x42_3+1)) a0_0 l0_1 a0_2 l1_0 a1_1)=some r:=by first|(rw[hy236];with_reducible exact H)|(have H2_:=(Option.bind_some _ _).symm.trans H;rw[hy236];with_reducible exact H2_)|(have H2_:=(Option.bind_some _ _).symm.trans H;with_reducible exact H2_)|with_reducible exact H|(rw[hy236];exact H)|exact H
             have Ny236:=am' hy236;clear hy236;have H':=am' H;clear H;have p234:0≤(x42_3:Int):=od' xa';have q234:x42_3 < (x8_16.length:Int):=od' xa';obtain ⟨ad234,A234_0,c234_0,e234,hx234_0,hl234_0,hi234_0⟩:=at_L1 (Kd.N_reads' HO_40.out).2.2 x42_3 p234 q234;cases e234;obtain ⟨ce234,hce234,hMe234,hcc234⟩:=Kd.N_get HO_40.out [] x42_3 p234 (by first|exact q234|exact od' xa'|(have e_:=(Kd.N_reads' HO_40.out).1;omega));obtain ⟨ua234_0,uc234_0,rfl,ul234_0,ge234_0⟩:=Kd.FK_slice_open hMe234;have hv234_0:=hcc234 0 _ rfl;rw[Nat.add_zero,show ((Kd.slice 3 (Kd.int .i64))).sz=1 from rfl,Nat.mul_one] at hv234_0;replace hv234_0:=os' (hv234_0.symm.trans hx234_0);injection hv234_0 with hva_ hvn_ hvc_
             rw[hva_] at ge234_0;rw[hvc_] at ul234_0;have HL234_0:=am' (show Kd.V (Kd.int .i64) 3 _ w.heap.size _ _ (rd_L1 x8_16 x42_3) from Kd.V_mk ul234_0 ge234_0);clear hva_ hvn_ hvc_ ge234_0 ul234_0;clear hcc234 hce234;have HR234_0:=am' hi234_0;have HC234_0:=am' hl234_0;clear hi234_0 hl234_0;replace p234:=eq_true p234;replace q234:=eq_true q234;have hnb41:=NB216_217.out;have hnc41:=NB217_216.out;have hcz42_0:wr.cell? ⟨gb216,0,none⟩=some (.int .i64 a0_0):=(bc' BK216.out 0).trans rfl;have hcz42_1:wr.cell? ⟨gb216,1,none⟩=some (.slice A0_1 l0_1.length c0_1):=(bc' BK216.out 1).trans rfl;have hcz42_2:wr.cell? ⟨gb216,2,none⟩=some (.int .i64 a0_2):=(bc' BK216.out 2).trans rfl;have hfz42_0:=bf' BK216.out 0;have hfz42_1:=bf' BK216.out 1;have hfz42_2:=bf' BK216.out 2;have hcz43_0:wr.cell? ⟨gb217,0,none⟩=some (.slice A1_0 l1_0.length c1_0):=(bc' BK217.out 0).trans rfl;have hcz43_1:wr.cell? ⟨gb217,1,none⟩=some (.bool a1_1):=(bc' BK217.out 1).trans rfl;have hfz43_0:=bf' BK217.out 0;have hfz43_1:=bf' BK217.out 1;go_wp2_with (first|((with_reducible refine gate_callee (f:=75) rfl ?_);refine goesL_ (some 49) rfl rfl Try.func75 xk' rfl #[.agg #[.int .i64 a0_0, .slice A0_1 l0_1.length c0_1, .int .i64 a0_2], .agg #[.slice A1_0 l1_0.length c1_0, .bool a1_1], .slice A234_0 (rd_L1 x8_16 x42_3).length c234_0] rfl xl' ?_;(with_reducible refine (spec_keCan.calls k3 a0_0 _ _ l0_1 a0_2 _ _ l1_0 a1_1 _ _ (rd_L1 x8_16 x42_3) true _ ?side1 ?side2 ?side3 ?side4 ?side5 ?side6 A38.out).mono ?_);(case side1=>exact kc' (cb' HR0_1.out HB.out));(case side2=>exact HC0_1.out);(case side3=>exact kc' (cb' HR1_0.out HB.out));(case side4=>exact HC1_0.out);(case side5=>exact kc' (kx' HR234_0.out));(case side6=>exact HC234_0.out);rintro e w44 ⟨rfl,hb⟩;refine ⟨_,rfl,?_⟩;have n0_:=am' (Kd.N_below (kN' HO_9.out) hb);have n1_:=am' (Kd.N_below (kN' HO_40.out) hb);have n2_:=am' (Kd.V_below (kV' HL234_0.out) hb);have n3_:=am' (bb' (g:=gb216) (o := .cells #[.int .i64 a0_0, .slice A0_1 l0_1.length c0_1, .int .i64 a0_2] 32 (0,0)) (kk' BK216.out) hb);have n4_:=am' (bb' (g:=gb217) (o := .cells #[.slice A1_0 l1_0.length c1_0, .bool a1_1] 34 (0,0)) (kk' BK217.out) hb);have n5_:=am' (cb' (kx' HR234_0.out) hb);have n6_:=am' (bt' (y2' GE216.out GE217.out) hb);clear HO_9;clear HO_40;clear HL234_0;clear BK216;clear BK217;clear HR234_0;clear HB;have HO_9:=n0_;have HO_40:=n1_;have HL234_0:=n2_;have BK216:=n3_;have BK217:=n4_;have HR234_0:=n5_;have HB:=n6_;clear n0_ n1_ n2_ n3_ n4_ n5_ n6_;(try clear hb);(try clear hb2);(try clear hk);(try clear hi))|((with_reducible refine gate_builtin (b := .append) (xs:=#[.tmp 50, .tmp 52]) rfl ?_);at_builtin;refine Kd.N_append (Kd.slice 3 (Kd.int .i64)) (w0:=w) w.heap.size rfl (.tmp 50) (.tmp 52) 22 43 (.slice none 0 0) 24 rfl Try.underlying22 info43 rfl (by decide) (by omega) u9 x9_3 (rd_L1 x8_16 x42_3) [.slice A234_0 (rd_L1 x8_16 x42_3).length c234_0] (fun k_=>(w.heap.size≤k_)∧some k_≠(.slice (some ad234) x8_16.length co34:Value).ownBlock∧k_≠gb216∧k_≠gb217) (fun k_=>((fun k_=>(w.heap.size≤k_)∧some k_≠(.slice (some ad234) x8_16.length co34:Value).ownBlock∧k_≠gb216∧k_≠gb217)) k_∧some k_≠(u9:Value).ownBlock) rfl rfl ?aP (fun _ hk=>hk) ?aF ?aO ?aB ?aS ?aL ?_;(case aP=>exact (Kd.FK_slice_mk (Kd.V_reads' (Kd.V_mono (ok':=(fun k_=>((fun k_=>(w.heap.size≤k_)∧some k_≠(.slice (some ad234) x8_16.length co34:Value).ownBlock∧k_≠gb216∧k_≠gb217)) k_∧some k_≠(u9:Value).ownBlock)) (HL234_0.out) (fun k_ hk=>⟨⟨hk.1.1,⟨hk.2,⟨hk.1.2.2.1,hk.1.2.2.2⟩⟩⟩,hk.1.2.1⟩))).2.1 (Kd.V_F (Kd.V_mono (ok':=(fun k_=>((fun k_=>(w.heap.size≤k_)∧some k_≠(.slice (some ad234) x8_16.length co34:Value).ownBlock∧k_≠gb216∧k_≠gb217)) k_∧some k_≠(u9:Value).ownBlock)) (HL234_0.out) (fun k_ hk=>⟨⟨hk.1.1,⟨hk.2,⟨hk.1.2.2.1,hk.1.2.2.2⟩⟩⟩,hk.1.2.1⟩)))));(case aB=>exact (y2' GE216.out GE217.out));(case aF=>exact (fun k_ hk=>⟨(Nat.le_trans (bz' (y2' GE216.out GE217.out)) hk),Kd.fresh' (Kd.N_lt (kN' HO_40.out)) k_ hk,Kd.freshB (g:=gb216) (o := .cells #[.int .i64 a0_0, .slice A0_1 l0_1.length c0_1, .int .i64 a0_2] 32 (0,0)) (kk' BK216.out) k_ hk,Kd.freshB (g:=gb217) (o := .cells #[.slice A1_0 l1_0.length c1_0, .bool a1_1] 34 (0,0)) (kk' BK217.out) k_ hk⟩));(case aO=>exact (kN' HO_9.out));(case aS=>exact (bz' (y2' GE216.out GE217.out)));(case aL=>have:=LMc40.out;omega);intro v237 w45 ho hb hg hat;rw[← Ny236.out] at ho;have n0_:=am' (Kd.N_afterv (ok:=(fun k_=>(w.heap.size≤k_)∧k_≠gb216∧k_≠gb217)) (by (with_reducible repeat (first|apply Kd.N_alloc|apply Kd.N_drewN|apply Kd.N_drew));exact Kd.N_mono HO_40.out (fun _ hk=>⟨⟨hk.1,⟨hk.2.2.1,hk.2.2.2⟩⟩,hk.2.1⟩)) hg hat);have n1_:=am' (blk_grown (g:=gb216) (o := .cells #[.int .i64 a0_0, .slice A0_1 l0_1.length c0_1, .int .i64 a0_2] 32 (0,0)) (kk' BK216.out) hg (Kd.N_ne HO_9.out BK216.out (by decide)));have n2_:=am' (blk_grown (g:=gb217) (o := .cells #[.slice A1_0 l1_0.length c1_0, .bool a1_1] 34 (0,0)) (kk' BK217.out) hg (Kd.N_ne HO_9.out BK217.out (by decide)));have n3_:=am' (Kd.V_afterv (ok:=(fun k_=>(w.heap.size≤k_)∧some k_≠(.slice (some ad234) x8_16.length co34:Value).ownBlock∧k_≠gb216∧k_≠gb217)) (by (with_reducible repeat (first|apply Kd.V_alloc|apply Kd.V_drewN|apply Kd.V_drew));exact Kd.V_mono HL234_0.out (fun _ hk=>⟨⟨hk.1.1,⟨hk.2,⟨hk.1.2.2.1,hk.1.2.2.2⟩⟩⟩,hk.1.2.1⟩)) hg hat);have n4_:=am' (hb);have n5_:=am' (ho);clear HO_40;clear BK216;clear BK217;clear HL234_0;clear HB;clear HO_9;have HO_40:=n0_;have BK216:=n1_;have BK217:=n2_;have HL234_0:=n3_;have HB:=n4_;have HO238:=n5_;clear n0_ n1_ n2_ n3_ n4_ n5_;clear ho hb hg hat))
             go_roundg k3
             case measure=>have:=HK1.out;have:=HJ16.out;have:=HK3.out;omega
             case rel=>exact ⟨(y236),(wrap64 (x42_3+1)),xs',H',⟨by have:=HK1.out;have:=HJ16.out;have:=HK3.out;omega⟩,⟨kN' HO238.out⟩,⟨by (with_reducible repeat (first|apply Kd.N_alloc|apply Kd.N_drewN|apply Kd.N_drew));exact Kd.N_mono HO_40.out (fun _ hk=>⟨hk.1.1,⟨hk.2,⟨hk.1.2.1,hk.1.2.2⟩⟩⟩)⟩,⟨kk' BK216.out⟩,⟨kk' BK217.out⟩,⟨y2' GE216.out GE217.out⟩⟩
            ·
             rw[if_neg c40] at H;exact absurd H (by simp)
           ·
            replace c39:=Bool.eq_false_iff.mpr c39;subst c39;have H1:(spec_keRides.l1 k3 x9_3 x8_16 (x8_16.length:Int) (wrap64 (x42_3+1)) a0_0 l0_1 a0_2 l1_0 a1_1)=some r:=by rw[if_neg (show ¬ (false=true) by decide)] at H;exact H
            clear H;have H:=H1;clear H1;have H':=am' H;clear H;have p234:0≤(x42_3:Int):=od' xa';have q234:x42_3 < (x8_16.length:Int):=od' xa';obtain ⟨ad234,A234_0,c234_0,e234,hx234_0,hl234_0,hi234_0⟩:=at_L1 (Kd.N_reads' HO_40.out).2.2 x42_3 p234 q234;cases e234;obtain ⟨ce234,hce234,hMe234,hcc234⟩:=Kd.N_get HO_40.out [] x42_3 p234 (by first|exact q234|exact od' xa'|(have e_:=(Kd.N_reads' HO_40.out).1;omega));obtain ⟨ua234_0,uc234_0,rfl,ul234_0,ge234_0⟩:=Kd.FK_slice_open hMe234;have hv234_0:=hcc234 0 _ rfl;rw[Nat.add_zero,show ((Kd.slice 3 (Kd.int .i64))).sz=1 from rfl,Nat.mul_one] at hv234_0;replace hv234_0:=os' (hv234_0.symm.trans hx234_0);injection hv234_0 with hva_ hvn_ hvc_
            rw[hva_] at ge234_0;rw[hvc_] at ul234_0;have HL234_0:=am' (show Kd.V (Kd.int .i64) 3 _ w.heap.size _ _ (rd_L1 x8_16 x42_3) from Kd.V_mk ul234_0 ge234_0);clear hva_ hvn_ hvc_ ge234_0 ul234_0;clear hcc234 hce234;have HR234_0:=am' hi234_0;have HC234_0:=am' hl234_0;clear hi234_0 hl234_0;replace p234:=eq_true p234;replace q234:=eq_true q234;have hnb46:=NB216_217.out;have hnc46:=NB217_216.out;have hcz47_0:wr.cell? ⟨gb216,0,none⟩=some (.int .i64 a0_0):=(bc' BK216.out 0).trans rfl;have hcz47_1:wr.cell? ⟨gb216,1,none⟩=some (.slice A0_1 l0_1.length c0_1):=(bc' BK216.out 1).trans rfl;have hcz47_2:wr.cell? ⟨gb216,2,none⟩=some (.int .i64 a0_2):=(bc' BK216.out 2).trans rfl;have hfz47_0:=bf' BK216.out 0;have hfz47_1:=bf' BK216.out 1;have hfz47_2:=bf' BK216.out 2;have hcz48_0:wr.cell? ⟨gb217,0,none⟩=some (.slice A1_0 l1_0.length c1_0):=(bc' BK217.out 0).trans rfl;have hcz48_1:wr.cell? ⟨gb217,1,none⟩=some (.bool a1_1):=(bc' BK217.out 1).trans rfl;have hfz48_0:=bf' BK217.out 0;have hfz48_1:=bf' BK217.out 1;go_wp2_with (first|((with_reducible refine gate_callee (f:=75) rfl ?_);refine goesL_ (some 49) rfl rfl Try.func75 xk' rfl #[.agg #[.int .i64 a0_0, .slice A0_1 l0_1.length c0_1, .int .i64 a0_2], .agg #[.slice A1_0 l1_0.length c1_0, .bool a1_1], .slice A234_0 (rd_L1 x8_16 x42_3).length c234_0] rfl xl' ?_;(with_reducible refine (spec_keCan.calls k3 a0_0 _ _ l0_1 a0_2 _ _ l1_0 a1_1 _ _ (rd_L1 x8_16 x42_3) false _ ?side1 ?side2 ?side3 ?side4 ?side5 ?side6 A38.out).mono ?_);(case side1=>exact kc' (cb' HR0_1.out HB.out));(case side2=>exact HC0_1.out);(case side3=>exact kc' (cb' HR1_0.out HB.out));(case side4=>exact HC1_0.out);(case side5=>exact kc' (kx' HR234_0.out));(case side6=>exact HC234_0.out);rintro e w49 ⟨rfl,hb⟩;refine ⟨_,rfl,?_⟩;have n0_:=am' (Kd.N_below (kN' HO_9.out) hb);have n1_:=am' (Kd.N_below (kN' HO_40.out) hb);have n2_:=am' (Kd.V_below (kV' HL234_0.out) hb);have n3_:=am' (bb' (g:=gb216) (o := .cells #[.int .i64 a0_0, .slice A0_1 l0_1.length c0_1, .int .i64 a0_2] 32 (0,0)) (kk' BK216.out) hb);have n4_:=am' (bb' (g:=gb217) (o := .cells #[.slice A1_0 l1_0.length c1_0, .bool a1_1] 34 (0,0)) (kk' BK217.out) hb);have n5_:=am' (cb' (kx' HR234_0.out) hb);have n6_:=am' (bt' (y2' GE216.out GE217.out) hb);clear HO_9;clear HO_40;clear HL234_0;clear BK216;clear BK217;clear HR234_0;clear HB;have HO_9:=n0_;have HO_40:=n1_;have HL234_0:=n2_;have BK216:=n3_;have BK217:=n4_;have HR234_0:=n5_;have HB:=n6_;clear n0_ n1_ n2_ n3_ n4_ n5_ n6_;(try clear hb);(try clear hb2);(try clear hk);(try clear hi)))
            go_roundg k3
            case measure=>have:=HK1.out;have:=HJ16.out;have:=HK3.out;omega
            case rel=>exact ⟨(x9_3),(wrap64 (x42_3+1)),xs',H',⟨by have:=HK1.out;have:=HJ16.out;have:=HK3.out;omega⟩,⟨kN' HO_9.out⟩,⟨kN' HO_40.out⟩,⟨kk' BK216.out⟩,⟨kk' BK217.out⟩,⟨y2' GE216.out GE217.out⟩⟩
          ·
           rw[if_neg c37] at H;exact absurd H (by simp)
         ·
          rw[if_neg c36] at H;exact absurd H (by simp)
        ·
         rw[if_neg c35] at H;have c35b0:decide (x42_3 < (x8_16.length:Int))=false:=df' c35;clear c35;obtain rfl:=os' H;go_wp2;go_ret
         exact ⟨_,by first|rfl|(simp[errW_none,errW_some] <;> rfl)|(simp[*,errW_none,errW_some] <;> rfl),by (with_reducible repeat (first|apply Kd.N_alloc|apply Kd.N_drewN|apply Kd.N_drew));exact Kd.N_mono HO_9.out (fun _ hk=>hk.1),y2' GE216.out GE217.out⟩
mutual
def spec_seIndex.j0:Nat→Int→List Bool→Bool→Option (Int)
 | 0,_,_,_=>none
 | k+1,x3,x240000,x240001=>spec_seIndex.l0 k x3 x240000 (x240000.length:Int) 0
def spec_seIndex.l0:Nat→Int→List Bool→Int→Int→Option (Int)
 | 0,_,_,_,_=>none
 | k+1,x3,x9,x10,x11=>if x11 < x10 then (if 0≤x11 then (if x11 < (x9.length:Int) then (if rdOf false x9 x11=true then (spec_seIndex.l0 k (wrap64 ((wrap64 (x3 * 2))+1)) x9 x10 (wrap64 (x11+1))) else (spec_seIndex.l0 k (wrap64 (x3 * 2)) x9 x10 (wrap64 (x11+1)))) else (none)) else (none)) else (some x3)
end
def spec_seIndex.f (k:Nat) (l0_0:List Bool) (a0_1:Bool):Option (Int):=if a0_1=true then (spec_seIndex.j0 k 1 l0_0 a0_1) else (spec_seIndex.j0 k 0 l0_0 a0_1)
theorem spec_seIndex.mono_l:∀ k,(∀ y0 y1 y2,LeO (spec_seIndex.j0 k y0 y1 y2) (spec_seIndex.j0 (k+1) y0 y1 y2))∧(∀ y0 y1 y2 y3,LeO (spec_seIndex.l0 k y0 y1 y2 y3) (spec_seIndex.l0 (k+1) y0 y1 y2 y3))
 | 0=>⟨fun _ _ _ r h=>by simp[spec_seIndex.j0] at h,fun _ _ _ _ r h=>by simp[spec_seIndex.l0] at h⟩
 | k+1=>by
  obtain ⟨ih0,ih1⟩:=spec_seIndex.mono_l k;refine ⟨?_,?_⟩
  ·
   intro y0 y1 y2;unfold spec_seIndex.j0
   repeat' first
   | (with_reducible exact ih0 _ _ _)
   | (with_reducible exact ih1 _ _ _ _)
   | (with_reducible exact LeO.refl _)
   | (with_reducible exact LeO.none _)
   | (with_reducible refine LeO.ite ?_ ?_)
   | (with_reducible refine LeO.bind ?_ (fun _=>?_))
   | exact ih0 _ _ _
   | exact ih1 _ _ _ _
   | exact LeO.none _
   | refine LeO.ite ?_ ?_
   | refine LeO.bind ?_ (fun _=>?_)
  ·
   intro y0 y1 y2 y3;unfold spec_seIndex.l0
   repeat' first
   | (with_reducible exact ih0 _ _ _)
   | (with_reducible exact ih1 _ _ _ _)
   | (with_reducible exact LeO.refl _)
   | (with_reducible exact LeO.none _)
   | (with_reducible refine LeO.ite ?_ ?_)
   | (with_reducible refine LeO.bind ?_ (fun _=>?_))
   | exact ih0 _ _ _
   | exact ih1 _ _ _ _
   | exact LeO.none _
   | refine LeO.ite ?_ ?_
   | refine LeO.bind ?_ (fun _=>?_)
theorem spec_seIndex.mono:∀ a0 a1 k,LeO (spec_seIndex.f k a0 a1) (spec_seIndex.f (k+1) a0 a1):=by
 intro a0 a1 k;obtain ⟨ih0,ih1⟩:=spec_seIndex.mono_l k
 unfold spec_seIndex.f
 repeat' first
   | (with_reducible exact ih0 _ _ _)
   | (with_reducible exact ih1 _ _ _ _)
   | (with_reducible exact LeO.refl _)
   | (with_reducible exact LeO.none _)
   | (with_reducible refine LeO.ite ?_ ?_)
   | (with_reducible refine LeO.bind ?_ (fun _=>?_))
   | exact ih0 _ _ _
   | exact ih1 _ _ _ _
   | exact LeO.none _
   | refine LeO.ite ?_ ?_
   | refine LeO.bind ?_ (fun _=>?_)
set_option maxHeartbeats 8000000 in
set_option maxRecDepth 100000 in
theorem spec_seIndex.calls (k:Nat) (A0_0:Option Addr) (c0_0:Nat) (l0_0:List Bool) (a0_1:Bool) (r:Int) (w:World) (hr0_0:Kd.C Kd.bool w A0_0 l0_0.length l0_0) (hc0_0:l0_0.length≤c0_0) (h:spec_seIndex.f k l0_0 a0_1=some r) :
  Calls Try.prog 104 #[.agg #[.slice A0_0 l0_0.length c0_0, .bool a0_1]] w fun e w'=>e = .returned (.int .i64 r)∧Below w.heap.size w w':=by
 have hu73:=Try.underlying73
 have HR0_0:=am' hr0_0
 have HC0_0:=am' hc0_0
 clear hr0_0 hc0_0;have HB:=am' (Below.refl w.heap.size w)
 have H:(if a0_1=true then (spec_seIndex.j0 k 1 l0_0 a0_1) else (spec_seIndex.j0 k 0 l0_0 a0_1))=some r:=h
 clear h;have HC2:=am' H
 clear H;go_enter Try.func104,Try.ntmps104
 go_upto_if 7 with (first|((with_reducible refine gate_dst (N:=1) rfl ?_);refine box_event ?hg (N:=1) ?hd (cs:=#[.slice A0_0 l0_0.length c0_0, .bool a0_1]) (t:=73) ?hr ?_;(case hd=>rfl);(case hg=>rfl);(case hr=>first|(go_simp;done)|(go_simp;rfl));intro gb239 hg w3 hbox hb;have n0_:=am' (bt' xb' hb);have n1_:=am' (hbox);have n2_:=am' ((by rw[hg];exact (bz' xb'):w.heap.size≤gb239));have n3_:=am' ((by rw[hg];exact (bz' xb'):w.heap.size≤gb239));clear HB;have HB:=n0_;have BK239:=n1_;have GW239:=n2_;have GE239:=n3_;clear n0_ n1_ n2_ n3_;clear hb hbox hg;have hcz4_0:w3.cell? ⟨gb239,0,none⟩=some (.slice A0_0 l0_0.length c0_0):=(bc' BK239.out 0).trans rfl;have hcz4_1:w3.cell? ⟨gb239,1,none⟩=some (.bool a0_1):=(bc' BK239.out 1).trans rfl;have hfz4_0:=bf' BK239.out 0;have hfz4_1:=bf' BK239.out 1))
 (try simp only[Act.put,sa',sb',sc'])
 go_cut [3] (fun v3 wc=>∃ (kq:Nat) (x3_1:Int),v3 = .int .i64 x3_1∧Aside0 (spec_seIndex.j0 kq x3_1 l0_0 a0_1=some r)∧Aside0 (kq≤k)∧Aside0 (wc.heap[gb239]? = some (.cells #[(.slice A0_0 l0_0.length c0_0), .bool a0_1] 73 (0,0)))∧Aside0 (Below w.heap.size w wc))
 case first =>
  have H:=HC2.out;clear HC2;by_cases c5:a0_1=true
  ·
   subst c5;have H1:(spec_seIndex.j0 k 1 l0_0 true)=some r:=by rw[if_pos rfl] at H;exact H
   clear H;have H:=H1;clear H1;have H':=am' H;clear H;go_wp2;go_meet
   case rel=>exact ⟨_,(1),xs',H',⟨by first|omega|exact Nat.le_refl _⟩,⟨kk' BK239.out⟩,⟨yb' GE239.out⟩⟩
  ·
   replace c5:=Bool.eq_false_iff.mpr c5;subst c5;have H1:(spec_seIndex.j0 k 0 l0_0 false)=some r:=by rw[if_neg (show ¬ (false=true) by decide)] at H;exact H
   clear H;have H:=H1;clear H1;have H':=am' H;clear H;go_wp2;go_meet
   case rel=>exact ⟨_,(0),xs',H',⟨by first|omega|exact Nat.le_refl _⟩,⟨kk' BK239.out⟩,⟨yb' GE239.out⟩⟩
 case rest =>
  clear HC2;try clear c1
  try clear p2
  try clear c5
  try clear hcz4_0
  try clear hcz4_1
  try clear hfz4_0
  try clear hfz4_1
  obtain ⟨kq,x3_1,rfl,HA,HJ1,BK239,HB⟩:=hcut;cases kq with
  | zero=>exact absurd HA.out (by simp[spec_seIndex.j0])
  | succ kj1 =>
   have H:=HA.out;clear HA;simp only[spec_seIndex.j0] at H;have H':=am' H;clear H;have hcz6_0:wc.cell? ⟨gb239,0,none⟩=some (.slice A0_0 l0_0.length c0_0):=(bc' BK239.out 0).trans rfl;have hcz6_1:wc.cell? ⟨gb239,1,none⟩=some (.bool a0_1):=(bc' BK239.out 1).trans rfl;have hfz6_0:=bf' BK239.out 0;have hfz6_1:=bf' BK239.out 1;go_wp2;go_loopg [3,11] kj1 (fun kq v3 v11 w'=>∃ (x3_2:Int) (x11_2:Int),v3 = .int .i64 x3_2∧v11 = .int .i64 x11_2∧Aside0 (spec_seIndex.l0 kq x3_2 l0_0 (l0_0.length:Int) x11_2=some r)∧Aside0 (kq≤kj1)∧Aside0 (w'.heap[gb239]? = some (.cells #[(.slice A0_0 l0_0.length c0_0), .bool a0_1] 73 (0,0)))∧Aside0 (Below w.heap.size w w'))
   case atStart=>exact ⟨(x3_1),(0),xs',xs',H',⟨Nat.le_refl _⟩,⟨kk' BK239.out⟩,⟨yb' GE239.out⟩⟩
   case round =>
    clear H';try clear c1
    try clear p2
    try clear c5
    try clear hcz4_0
    try clear hcz4_1
    try clear hcz6_0
    try clear hcz6_1
    try clear hfz4_0
    try clear hfz4_1
    try clear hfz6_0
    try clear hfz6_1
    try clear p2
    obtain ⟨x3_2,x11_2,rfl,rfl,HA,HK2,BK239,HB⟩:=hrel;cases gk with
    | zero=>exact absurd HA.out (by simp[spec_seIndex.l0])
    | succ k2 =>
     have H:=HA.out;clear HA;simp only[spec_seIndex.l0] at H;by_cases c7:x11_2 < (l0_0.length:Int)
     ·
      rw[if_pos c7] at H;have c7b0:decide (x11_2 < (l0_0.length:Int))=true:=dt' c7;clear c7;by_cases c8:0≤x11_2
      ·
       rw[if_pos c8] at H;have c8b0:decide (0≤x11_2)=true:=dt' c8;clear c8;by_cases c9:x11_2 < (l0_0.length:Int)
       ·
        rw[if_pos c9] at H;have c9b0:decide (x11_2 < (l0_0.length:Int))=true:=dt' c9;clear c9;obtain ⟨bq10,hbq10⟩:∃ b_:Bool,b_=(rdOf false l0_0 x11_2):=⟨_,rfl⟩
        replace H:(if bq10=true then (spec_seIndex.l0 k2 (wrap64 ((wrap64 (x3_2 * 2))+1)) l0_0 (l0_0.length:Int) (wrap64 (x11_2+1))) else (spec_seIndex.l0 k2 (wrap64 (x3_2 * 2)) l0_0 (l0_0.length:Int) (wrap64 (x11_2+1))))=some r:=by rw[← hbq10] at H;exact H
        have Nbq10:=am' hbq10;clear hbq10;by_cases c11:bq10=true
        ·
         subst c11;have H1:(spec_seIndex.l0 k2 (wrap64 ((wrap64 (x3_2 * 2))+1)) l0_0 (l0_0.length:Int) (wrap64 (x11_2+1)))=some r:=by rw[if_pos rfl] at H;exact H
         clear H;have H:=H1;clear H1;have H':=am' H;clear H;have p240:0≤(x11_2:Int):=od' xa';have q240:x11_2 < (l0_0.length:Int):=od' xa';obtain ⟨ad240,e240,hx240_0⟩:=Kd.at_bool HR0_0.out x11_2 p240 q240
         (try rw [← Nbq10.out] at hx240_0)
         cases e240
         replace hx240_0:=(HB.out.cell (bl' w _ hx240_0)).trans hx240_0;replace p240:=eq_true p240;replace q240:=eq_true q240;go_wp2;go_roundg k2
         case measure=>have:=HJ1.out;have:=HK2.out;omega
         case rel=>exact ⟨(wrap64 ((wrap64 (x3_2 * 2))+1)),(wrap64 (x11_2+1)),xs',xs',H',⟨by have:=HJ1.out;have:=HK2.out;omega⟩,⟨kk' BK239.out⟩,⟨yb' GE239.out⟩⟩
        ·
         replace c11:=Bool.eq_false_iff.mpr c11;subst c11;have H1:(spec_seIndex.l0 k2 (wrap64 (x3_2 * 2)) l0_0 (l0_0.length:Int) (wrap64 (x11_2+1)))=some r:=by rw[if_neg (show ¬ (false=true) by decide)] at H;exact H
         clear H;have H:=H1;clear H1;have H':=am' H;clear H;have p240:0≤(x11_2:Int):=od' xa';have q240:x11_2 < (l0_0.length:Int):=od' xa';obtain ⟨ad240,e240,hx240_0⟩:=Kd.at_bool HR0_0.out x11_2 p240 q240
         (try rw [← Nbq10.out] at hx240_0)
         cases e240
         replace hx240_0:=(HB.out.cell (bl' w _ hx240_0)).trans hx240_0;replace p240:=eq_true p240;replace q240:=eq_true q240;go_wp2;go_roundg k2
         case measure=>have:=HJ1.out;have:=HK2.out;omega
         case rel=>exact ⟨(wrap64 (x3_2 * 2)),(wrap64 (x11_2+1)),xs',xs',H',⟨by have:=HJ1.out;have:=HK2.out;omega⟩,⟨kk' BK239.out⟩,⟨yb' GE239.out⟩⟩
       ·
        rw[if_neg c9] at H;exact absurd H (by simp)
      ·
       rw[if_neg c8] at H;exact absurd H (by simp)
     ·
      rw[if_neg c7] at H;have c7b0:decide (x11_2 < (l0_0.length:Int))=false:=df' c7;clear c7;obtain rfl:=os' H;go_wp2;go_ret
      exact ⟨by first|rfl|(simp[errW_none,errW_some] <;> rfl)|(simp[*,errW_none,errW_some] <;> rfl),yb' GE239.out⟩
def spec_keIndex.f (k:Nat) (l0_0:List Bool) (a0_1:Bool):Option (Int):=(spec_seIndex.f k l0_0 a0_1).bind fun t242=>(some t242)
set_option maxHeartbeats 8000000 in
set_option maxRecDepth 100000 in
theorem spec_keIndex.calls (k:Nat) (A0_0:Option Addr) (c0_0:Nat) (l0_0:List Bool) (a0_1:Bool) (r:Int) (w:World) (hr0_0:Kd.C Kd.bool w A0_0 l0_0.length l0_0) (hc0_0:l0_0.length≤c0_0) (h:spec_keIndex.f k l0_0 a0_1=some r) :
  Calls Try.prog 70 #[.agg #[.slice A0_0 l0_0.length c0_0, .bool a0_1]] w fun e w'=>e = .returned (.int .i64 r)∧Below w.heap.size w w':=by
 have hu34:=Try.underlying34
 have hu73:=Try.underlying73
 have HR0_0:=am' hr0_0
 have HC0_0:=am' hc0_0
 clear hr0_0 hc0_0;have HB:=am' (Below.refl w.heap.size w)
 have H:((spec_seIndex.f k l0_0 a0_1).bind fun t242=>(some t242))=some r:=h
 clear h;replace H:=Option.bind_eq_some_iff.mp H
 obtain ⟨t242,A20,H⟩:=H
 replace H:(some t242)=some r:=H
 have A2:=am' A20
 clear A20;obtain rfl:=os' H
 go_enter Try.func70,Try.ntmps70
 go_wp2_with (first|((with_reducible refine gate_dst (N:=1) rfl ?_);refine box_event ?hg (N:=1) ?hd (cs:=#[.slice A0_0 l0_0.length c0_0, .bool a0_1]) (t:=34) ?hr ?_;(case hd=>rfl);(case hg=>rfl);(case hr=>first|(go_simp;done)|(go_simp;rfl));intro gb241 hg w3 hbox hb;have n0_:=am' (bt' xb' hb);have n1_:=am' (hbox);have n2_:=am' ((by rw[hg];exact (bz' xb'):w.heap.size≤gb241));have n3_:=am' ((by rw[hg];exact (bz' xb'):w.heap.size≤gb241));clear HB;have HB:=n0_;have BK241:=n1_;have GW241:=n2_;have GE241:=n3_;clear n0_ n1_ n2_ n3_;clear hb hbox hg;have hcz4_0:w3.cell? ⟨gb241,0,none⟩=some (.slice A0_0 l0_0.length c0_0):=(bc' BK241.out 0).trans rfl;have hcz4_1:w3.cell? ⟨gb241,1,none⟩=some (.bool a0_1):=(bc' BK241.out 1).trans rfl;have hfz4_0:=bf' BK241.out 0;have hfz4_1:=bf' BK241.out 1)|((with_reducible refine gate_callee (f:=104) rfl ?_);refine goesL_ (some 8) rfl rfl Try.func104 xk' rfl #[.agg #[.slice A0_0 l0_0.length c0_0, .bool a0_1]] rfl xl' ?_;(with_reducible refine (spec_seIndex.calls k _ _ l0_0 a0_1 t242 _ ?side1 ?side2 A2.out).mono ?_);(case side1=>exact kc' (cb' HR0_0.out HB.out));(case side2=>exact HC0_0.out);rintro e w5 ⟨rfl,hb⟩;refine ⟨_,rfl,?_⟩;have n0_:=am' (bb' (g:=gb241) (o := .cells #[.slice A0_0 l0_0.length c0_0, .bool a0_1] 34 (0,0)) (kk' BK241.out) hb);have n1_:=am' (bt' (yb' GE241.out) hb);clear BK241;clear HB;have BK241:=n0_;have HB:=n1_;clear n0_ n1_;(try clear hb);(try clear hb2);(try clear hk);(try clear hi)))
 go_ret
 exact ⟨by first|rfl|(simp[errW_none,errW_some] <;> rfl)|(simp[*,errW_none,errW_some] <;> rfl),yb' GE241.out⟩
end Go.Proofs.Ytmfofjloklafoaa.C5
