import Derived.Test.YtmfofjloklafoaaC3zx0
import Derived.Test.YtmfofjloklafoaaC3zx2
import Derived.Test.YtmfofjloklafoaaC3zx5
import Derived.Test.YtmfofjloklafoaaC3zAl
namespace Go.Proofs.Ytmfofjloklafoaa.C3
open Go.RowKit Go.Proofs.YtmfofjloklafoaaW.PrintWords Go.Proofs.YtmfofjloklafoaaW.PrintLast Go.Proofs.YtmfofjloklafoaaW.PrintMore Go.Proofs.Ytmfofjloklafoaa.H
attribute [local go_sem] max2_int min2_int max_two min_two max_three min_three max_four min_four
set_option linter.unusedVariables false
set_option linter.unusedSimpArgs false
mutual
def spec_keRides.l0:Nat→List Int→List Bool→Int→Int→Int→List (List Int)→Int→List Bool→Bool→Option ((List (List Int)))
 | 0,_,_,_,_,_,_,_,_,_=>none
 | k+1,x5,x13,x14,x15,x204000,x204001,x204002,x205000,x205001=>if x15 < x14 then (if 0≤x15 then (if x15 < (x13.length:Int) then (if ((rdOf false x13 x15) == x205001)=true then (if x5.length < 17592186044416 then (spec_keRides.l0 k (x5 ++ [x15]) x13 x14 (wrap64 (x15+1)) x204000 x204001 x204002 x205000 x205001) else (none)) else (spec_keRides.l0 k x5 x13 x14 (wrap64 (x15+1)) x204000 x204001 x204002 x205000 x205001)) else (none)) else (none)) else ((some (([(([]:List Int))]:List (List Int)):List (List Int))).bind fun y212=>(if x204002 > 0 then ((spec_paGroups.f k x5 ([]:List Int) 0 x204002).bind fun t215=>(if y212.length+t215.length < 5864062014805 then (spec_keRides.j1 k (y212 ++ t215) x204000 x204001 x204002 x205000 x205001) else (none))) else (spec_keRides.j1 k y212 x204000 x204001 x204002 x205000 x205001)))
def spec_keRides.j1:Nat→List (List Int)→Int→List (List Int)→Int→List Bool→Bool→Option ((List (List Int)))
 | 0,_,_,_,_,_,_=>none
 | k+1,x8,x204000,x204001,x204002,x205000,x205001=>spec_keRides.l1 k ([]:List (List Int)) x8 (x8.length:Int) 0 x204000 x204001 x204002 x205000 x205001
def spec_keRides.l1:Nat→List (List Int)→List (List Int)→Int→Int→Int→List (List Int)→Int→List Bool→Bool→Option ((List (List Int)))
 | 0,_,_,_,_,_,_,_,_,_=>none
 | k+1,x9,x40,x41,x42,x204000,x204001,x204002,x205000,x205001=>if x42 < x41 then (if 0≤x42 then (if x42 < (x40.length:Int) then ((spec_keCan.f k x204000 x204001 x204002 x205000 x205001 (rd_L1 x40 x42)).bind fun t222=>(if t222=true then (if x9.length < 5864062014805 then (spec_keRides.l1 k (x9 ++ [rd_L1 x40 x42]) x40 x41 (wrap64 (x42+1)) x204000 x204001 x204002 x205000 x205001) else (none)) else (spec_keRides.l1 k x9 x40 x41 (wrap64 (x42+1)) x204000 x204001 x204002 x205000 x205001))) else (none)) else (none)) else (some x9)
end
def spec_keRides.f (k:Nat) (a0_0:Int) (l0_1:List (List Int)) (a0_2:Int) (l1_0:List Bool) (a1_1:Bool):Option ((List (List Int))):=spec_keRides.l0 k ([]:List Int) l1_0 (l1_0.length:Int) 0 a0_0 l0_1 a0_2 l1_0 a1_1
set_option maxHeartbeats 8000000 in
set_option maxRecDepth 100000 in
theorem spec_keRides.calls (k:Nat) (a0_0:Int) (A0_1:Option Addr) (c0_1:Nat) (l0_1:List (List Int)) (a0_2:Int) (A1_0:Option Addr) (c1_0:Nat) (l1_0:List Bool) (a1_1:Bool) (r:List (List Int)) (w:World) (hr0_1:Kd.C (Kd.slice 3 (Kd.int .i64)) w A0_1 l0_1.length l0_1) (hc0_1:l0_1.length≤c0_1) (hr1_0:Kd.C Kd.bool w A1_0 l1_0.length l1_0) (hc1_0:l1_0.length≤c1_0) (h:spec_keRides.f k a0_0 l0_1 a0_2 l1_0 a1_1=some r) :
  Calls Try.prog 54 #[.agg #[.int .i64 a0_0, .slice A0_1 l0_1.length c0_1, .int .i64 a0_2], .agg #[.slice A1_0 l1_0.length c1_0, .bool a1_1]] w fun e w'=>∃ v0_:Value,e = .returned (v0_)∧Kd.N (Kd.slice 3 (Kd.int .i64)) 43 w' w.heap.size (fun k_=>(w.heap.size≤k_)) v0_ r∧Below w.heap.size w w':=by
 have hu32:=Try.underlying32
 have hu34:=Try.underlying34
 have HR0_1:=am' hr0_1
 have HC0_1:=am' hc0_1
 clear hr0_1 hc0_1;have HR1_0:=am' hr1_0
 have HC1_0:=am' hc1_0
 clear hr1_0 hc1_0;have HB:=am' (Below.refl w.heap.size w)
 have H:(spec_keRides.l0 k ([]:List Int) l1_0 (l1_0.length:Int) 0 a0_0 l0_1 a0_2 l1_0 a1_1)=some r:=h
 clear h;have H':=am' H
 clear H;go_enter Try.func54,Try.ntmps54
 go_wp2_with (first|((with_reducible refine gate_dst (N:=2) rfl ?_);refine box_event ?hg (N:=2) ?hd (cs:=#[.int .i64 a0_0, .slice A0_1 l0_1.length c0_1, .int .i64 a0_2]) (t:=32) ?hr ?_;(case hd=>rfl);(case hg=>rfl);(case hr=>first|(go_simp;done)|(go_simp;rfl));intro gb203 hg w3 hbox hb;have n0_:=am' (below_step (by repeat (first|(with_reducible first|exact HB.out|apply ba'|apply bd'|apply be')|exact HB.out)) hb);have n1_:=am' (hbox);have n2_:=am' ((by rw[hg];exact (below_size (by repeat (first|(with_reducible first|exact HB.out|apply ba'|apply bd'|apply be')|exact HB.out))):w.heap.size≤gb203));have n3_:=am' ((by rw[hg];exact (below_size (by repeat (first|(with_reducible first|exact HB.out|apply ba'|apply bd'|apply be')|exact HB.out))):w.heap.size≤gb203));clear HB;have HB:=n0_;have BK203:=n1_;have GW203:=n2_;have GE203:=n3_;clear n0_ n1_ n2_ n3_;clear hb hbox hg)|((with_reducible refine gate_dst (N:=3) rfl ?_);refine box_event ?hg (N:=3) ?hd (cs:=#[.slice A1_0 l1_0.length c1_0, .bool a1_1]) (t:=34) ?hr ?_;(case hd=>rfl);(case hg=>rfl);(case hr=>first|(go_simp;done)|(go_simp;rfl));intro gb204 hg w4 hbox hb;have n0_:=am' (blk_below (g:=gb203) (o := .cells #[.int .i64 a0_0, .slice A0_1 l0_1.length c0_1, .int .i64 a0_2] 32 (0,0)) (by (with_reducible repeat (first|refine kn' ?_ _|refine kd' ?_|refine ka' ?_ _));exact BK203.out) hb);have n1_:=am' (below_step (by repeat (first|(with_reducible first|exact HB.out|apply ba'|apply bd'|apply be'|refine bs' ?_ GE203.out)|exact HB.out)) hb);have n2_:=am' (hbox);have n3_:=am' ((by rw[hg];exact (below_size (by repeat (first|(with_reducible first|exact HB.out|apply ba'|apply bd'|apply be'|refine bs' ?_ GE203.out)|exact HB.out))):w.heap.size≤gb204));have n4_:=am' ((by rw[hg];exact (below_size (by repeat (first|(with_reducible first|exact HB.out|apply ba'|apply bd'|apply be'|refine bs' ?_ GE203.out)|exact HB.out))):w.heap.size≤gb204));have n5_:=am' ((by rw[hg];exact Nat.ne_of_lt (blk_lt (g:=gb203) (o := .cells #[.int .i64 a0_0, .slice A0_1 l0_1.length c0_1, .int .i64 a0_2] 32 (0,0)) (by (with_reducible repeat (first|refine kn' ?_ _|refine kd' ?_|refine ka' ?_ _));exact BK203.out)):gb203≠gb204));have n6_:=am' ((by rw[hg];exact Nat.ne_of_gt (blk_lt (g:=gb203) (o := .cells #[.int .i64 a0_0, .slice A0_1 l0_1.length c0_1, .int .i64 a0_2] 32 (0,0)) (by (with_reducible repeat (first|refine kn' ?_ _|refine kd' ?_|refine ka' ?_ _));exact BK203.out)):gb204≠gb203));clear BK203;clear HB;have BK203:=n0_;have HB:=n1_;have BK204:=n2_;have GW204:=n3_;have GE204:=n4_;have NB203_204:=n5_;have NB204_203:=n6_;clear n0_ n1_ n2_ n3_ n4_ n5_ n6_;clear hb hbox hg;have hnb5:=NB204_203.out;have hnc5:=NB203_204.out;have hcz6_0:w4.cell? ⟨gb204,0,none⟩=some (.slice A1_0 l1_0.length c1_0):=(blk_cell BK204.out 0).trans rfl;have hcz6_1:w4.cell? ⟨gb204,1,none⟩=some (.bool a1_1):=(blk_cell BK204.out 1).trans rfl;have hfz6_0:=blk_frozen BK204.out 0;have hfz6_1:=blk_frozen BK204.out 1))
 go_loopg [5,15] k (fun kq v5 v15 w'=>∃ (x5_1:List Int) (x15_1:Int),v15 = .int .i64 x15_1∧Aside0 (spec_keRides.l0 kq x5_1 l1_0 (l1_0.length:Int) x15_1 a0_0 l0_1 a0_2 l1_0 a1_1=some r)∧Aside0 (kq≤k)∧Aside0 (Kd.R (Kd.int .i64) 3 w' w.heap.size (fun k_=>(w.heap.size≤k_)) v5 x5_1)∧Aside0 (w'.heap[gb203]? = some (.cells #[.int .i64 a0_0,(.slice A0_1 l0_1.length c0_1), .int .i64 a0_2] 32 (0,0)))∧Aside0 (w'.heap[gb204]? = some (.cells #[(.slice A1_0 l1_0.length c1_0), .bool a1_1] 34 (0,0)))∧Aside0 (Below w.heap.size w w'))
 case atStart=>exact ⟨(([]:List Int)),(0),(by first|rfl|(simp;done)|(simp[*];done)),H',⟨Nat.le_refl _⟩,⟨by first|exact Kd.R_nil _ _ _ _ _|exact Kd.N_nil _ _ _ _ _|exact Kd.V_nil _ _ _ _ _|exact Kd.Q_nil _ _ _ _ _|exact Kd.S_nil _ _ _ _ _⟩,⟨by (with_reducible repeat (first|refine kn' ?_ _|refine kd' ?_|refine ka' ?_ _));exact BK203.out⟩,⟨by (with_reducible repeat (first|refine kn' ?_ _|refine kd' ?_|refine ka' ?_ _));exact BK204.out⟩,⟨by repeat (first|(with_reducible first|exact HB.out|apply ba'|apply bd'|apply be'|refine bs' ?_ GE203.out|refine bs' ?_ GE204.out)|exact HB.out)⟩⟩
 case round =>
  clear H';try clear c1
  try clear p2
  try clear c5
  try clear hcz6_0
  try clear hcz6_1
  try clear hfz6_0
  try clear hfz6_1
  obtain ⟨x5_1,x15_1,rfl,HA,HK1,HO_5,BK203,BK204,HB⟩:=hrel;cases gk with
  | zero=>exact absurd HA.out (by simp[spec_keRides.l0])
  | succ k1 =>
   have H:=HA.out;clear HA;simp only[spec_keRides.l0] at H;by_cases c7:x15_1 < (l1_0.length:Int)
   ·
    rw[if_pos c7] at H;have c7b0:decide (x15_1 < (l1_0.length:Int))=true:=decide_eq_true c7;clear c7;by_cases c8:0≤x15_1
    ·
     rw[if_pos c8] at H;have c8b0:decide (0≤x15_1)=true:=decide_eq_true c8;clear c8;by_cases c9:x15_1 < (l1_0.length:Int)
     ·
      rw[if_pos c9] at H;have c9b0:decide (x15_1 < (l1_0.length:Int))=true:=decide_eq_true c9;clear c9;by_cases c10:((rdOf false l1_0 x15_1) == a1_1)=true
      ·
       rw[if_pos c10] at H;have c10b0:((rdOf false l1_0 x15_1) == a1_1)=true:=c10
       (try (have c10b1:decide ((rdOf false l1_0 x15_1)=a1_1)=true:=by simpa using c10))
       (try (have c10b2:((rdOf false l1_0 x15_1) == a1_1)=true:=by simpa using c10))
       clear c10;by_cases c11:x5_1.length < 17592186044416
       ·
        rw[if_pos c11] at H;have LMc11:=am' c11;clear c11;obtain ⟨y206,hy206⟩:∃ y_:List Int,y_=(x5_1 ++ [x15_1]):=⟨_,rfl⟩
        replace H:(spec_keRides.l0 k1 y206 l1_0 (l1_0.length:Int) (wrap64 (x15_1+1)) a0_0 l0_1 a0_2 l1_0 a1_1)=some r:=by first|(rw[hy206];with_reducible exact H)|(have H2_:=(Option.bind_some _ _).symm.trans H;rw[hy206];with_reducible exact H2_)|(have H2_:=(Option.bind_some _ _).symm.trans H;with_reducible exact H2_)|with_reducible exact H|(rw[hy206];exact H)|exact H
        have Ny206:=am' hy206;clear hy206;have H':=am' H;clear H;have p205:0≤(x15_1:Int):=of_decide_eq_true (by first|(with_reducible assumption)|assumption);have q205:x15_1 < (l1_0.length:Int):=of_decide_eq_true (by first|(with_reducible assumption)|assumption);obtain ⟨ad205,e205,hx205_0⟩:=Kd.at_bool HR1_0.out x15_1 p205 q205;cases e205;replace hx205_0:=(HB.out.cell (bl' w _ hx205_0)).trans hx205_0;replace p205:=eq_true p205;replace q205:=eq_true q205;have hnb12:=NB204_203.out;have hnc12:=NB203_204.out;have hcz13_0:wr.cell? ⟨gb204,0,none⟩=some (.slice (some ad205) l1_0.length c1_0):=(blk_cell BK204.out 0).trans rfl;have hcz13_1:wr.cell? ⟨gb204,1,none⟩=some (.bool a1_1):=(blk_cell BK204.out 1).trans rfl;have hfz13_0:=blk_frozen BK204.out 0;have hfz13_1:=blk_frozen BK204.out 1;go_wp2_with (first|((with_reducible refine gate_builtin (b := .append) (xs:=#[.tmp 24, .tmp 26]) rfl ?_);at_builtin;refine Kd.R_append (Kd.int .i64) (w0:=w) w.heap.size rfl (.tmp 24) (.tmp 26) 43 3 (.int .i64 0) 8 rfl Try.underlying43 info3 rfl (by decide) (by omega) u5 x5_1 x15_1 [.int .i64 x15_1] (fun k_=>(w.heap.size≤k_)) (fun _=>False) rfl rfl ?aP (fun _ hk=>hk.elim) ?aF ?aO ?aB ?aS ?aL ?_;(case aP=>exact rfl);(case aB=>exact (by repeat (first|(with_reducible first|exact HB.out|apply ba'|apply bd'|apply be'|refine bs' ?_ GE203.out|refine bs' ?_ GE204.out)|exact HB.out)));(case aF=>exact (fun k_ hk=>(Nat.le_trans (below_size (by repeat (first|(with_reducible first|exact HB.out|apply ba'|apply bd'|apply be'|refine bs' ?_ GE203.out|refine bs' ?_ GE204.out)|exact HB.out))) hk)));(case aO=>exact (by (with_reducible repeat (first|apply ra'|apply rn'|apply rw'));exact HO_5.out));(case aS=>exact (below_size (by repeat (first|(with_reducible first|exact HB.out|apply ba'|apply bd'|apply be'|refine bs' ?_ GE203.out|refine bs' ?_ GE204.out)|exact HB.out))));(case aL=>have:=LMc11.out;omega);intro v207 w14 ho hb hg hat;rw[← Ny206.out] at ho;have n0_:=am' (blk_grown (g:=gb203) (o := .cells #[.int .i64 a0_0, .slice A0_1 l0_1.length c0_1, .int .i64 a0_2] 32 (0,0)) (by (with_reducible repeat (first|refine kn' ?_ _|refine kd' ?_|refine ka' ?_ _));exact BK203.out) hg (Kd.R_ne HO_5.out BK203.out (by decide)));have n1_:=am' (blk_grown (g:=gb204) (o := .cells #[.slice (some ad205) l1_0.length c1_0, .bool a1_1] 34 (0,0)) (by (with_reducible repeat (first|refine kn' ?_ _|refine kd' ?_|refine ka' ?_ _));exact BK204.out) hg (Kd.R_ne HO_5.out BK204.out (by decide)));have n2_:=am' (hb);have n3_:=am' (ho);clear BK203;clear BK204;clear HB;clear HO_5;have BK203:=n0_;have BK204:=n1_;have HB:=n2_;have HO208:=n3_;clear n0_ n1_ n2_ n3_;clear ho hb hg hat));go_roundg k1
        case measure=>have:=HK1.out;omega
        case rel=>exact ⟨(y206),(wrap64 (x15_1+1)),(by first|rfl|(simp;done)|(simp[*];done)),H',⟨by have:=HK1.out;omega⟩,⟨by (with_reducible repeat (first|apply ra'|apply rn'|apply rw'));exact HO208.out⟩,⟨by (with_reducible repeat (first|refine kn' ?_ _|refine kd' ?_|refine ka' ?_ _));exact BK203.out⟩,⟨by (with_reducible repeat (first|refine kn' ?_ _|refine kd' ?_|refine ka' ?_ _));exact BK204.out⟩,⟨by repeat (first|(with_reducible first|exact HB.out|apply ba'|apply bd'|apply be'|refine bs' ?_ GE203.out|refine bs' ?_ GE204.out)|exact HB.out)⟩⟩
       ·
        rw[if_neg c11] at H;exact absurd H (by simp)
      ·
       rw[if_neg c10] at H;have c10b0:((rdOf false l1_0 x15_1) == a1_1)=false:=by simpa using c10
       (try (have c10b1:decide ((rdOf false l1_0 x15_1)=a1_1)=false:=by simpa using c10))
       (try (have c10b2:((rdOf false l1_0 x15_1) == a1_1)=false:=by simpa using c10))
       (try (have c10b3:¬ ((rdOf false l1_0 x15_1)=a1_1):=by simpa using c10))
       clear c10;have H':=am' H;clear H;have p205:0≤(x15_1:Int):=of_decide_eq_true (by first|(with_reducible assumption)|assumption);have q205:x15_1 < (l1_0.length:Int):=of_decide_eq_true (by first|(with_reducible assumption)|assumption);obtain ⟨ad205,e205,hx205_0⟩:=Kd.at_bool HR1_0.out x15_1 p205 q205;cases e205;replace hx205_0:=(HB.out.cell (bl' w _ hx205_0)).trans hx205_0;replace p205:=eq_true p205;replace q205:=eq_true q205;have hnb15:=NB204_203.out;have hnc15:=NB203_204.out;have hcz16_0:wr.cell? ⟨gb204,0,none⟩=some (.slice (some ad205) l1_0.length c1_0):=(blk_cell BK204.out 0).trans rfl;have hcz16_1:wr.cell? ⟨gb204,1,none⟩=some (.bool a1_1):=(blk_cell BK204.out 1).trans rfl;have hfz16_0:=blk_frozen BK204.out 0;have hfz16_1:=blk_frozen BK204.out 1;go_wp2;go_roundg k1
       case measure=>have:=HK1.out;omega
       case rel=>exact ⟨(x5_1),(wrap64 (x15_1+1)),(by first|rfl|(simp;done)|(simp[*];done)),H',⟨by have:=HK1.out;omega⟩,⟨by (with_reducible repeat (first|apply ra'|apply rn'|apply rw'));exact HO_5.out⟩,⟨by (with_reducible repeat (first|refine kn' ?_ _|refine kd' ?_|refine ka' ?_ _));exact BK203.out⟩,⟨by (with_reducible repeat (first|refine kn' ?_ _|refine kd' ?_|refine ka' ?_ _));exact BK204.out⟩,⟨by repeat (first|(with_reducible first|exact HB.out|apply ba'|apply bd'|apply be'|refine bs' ?_ GE203.out|refine bs' ?_ GE204.out)|exact HB.out)⟩⟩
     ·
      rw[if_neg c9] at H;exact absurd H (by simp)
    ·
     rw[if_neg c8] at H;exact absurd H (by simp)
   ·
    rw[if_neg c7] at H;have c7b0:decide (x15_1 < (l1_0.length:Int))=false:=decide_eq_false c7;clear c7;obtain ⟨y209,hy209⟩:∃ y_:List Int,y_=(([]:List Int)):=⟨_,rfl⟩
    replace H:((some (([y209]:List (List Int)):List (List Int))).bind fun y212=>(if a0_2 > 0 then ((spec_paGroups.f k1 x5_1 ([]:List Int) 0 a0_2).bind fun t215=>(if y212.length+t215.length < 5864062014805 then (spec_keRides.j1 k1 (y212 ++ t215) a0_0 l0_1 a0_2 l1_0 a1_1) else (none))) else (spec_keRides.j1 k1 y212 a0_0 l0_1 a0_2 l1_0 a1_1)))=some r:=by first|(rw[hy209];with_reducible exact H)|(have H2_:=(Option.bind_some _ _).symm.trans H;rw[hy209];with_reducible exact H2_)|(have H2_:=(Option.bind_some _ _).symm.trans H;with_reducible exact H2_)|with_reducible exact H|(rw[hy209];exact H)|exact H
    have Ny209:=am' hy209;clear hy209;obtain ⟨y212,hy212⟩:∃ y_:List (List Int),y_=(([y209]:List (List Int))):=⟨_,rfl⟩
    replace H:(if a0_2 > 0 then ((spec_paGroups.f k1 x5_1 ([]:List Int) 0 a0_2).bind fun t215=>(if y212.length+t215.length < 5864062014805 then (spec_keRides.j1 k1 (y212 ++ t215) a0_0 l0_1 a0_2 l1_0 a1_1) else (none))) else (spec_keRides.j1 k1 y212 a0_0 l0_1 a0_2 l1_0 a1_1))=some r:=by first|(rw[hy212];with_reducible exact H)|(have H2_:=(Option.bind_some _ _).symm.trans H;rw[hy212];with_reducible exact H2_)|(have H2_:=(Option.bind_some _ _).symm.trans H;with_reducible exact H2_)|with_reducible exact H|(rw[hy212];exact H)|exact H
    have Ny212:=am' hy212;clear hy212;have HC17:=am' H;clear H;go_upto_if 33 with (first|((with_reducible refine gate_dst (N:=29) rfl ?_);refine Kd.R_lit (Kd.int .i64) _ 3 ?hg (N:=29) ?hd (xs:=([]:List Int)) (inner:=[]) (ok:=fun _=>True) (okp:=fun _=>True) ?hr ?hp (fun _ hk=>hk) trivial (Below.refl _ _) (Nat.le_refl _) (by simp) ?_;(case hd=>rfl);(case hg=>rfl);(case hr=>first|(go_simp;done)|(go_simp;rfl));(case hp=>exact (Reps.none _ _));intro v210 w18 ho19 hb hg_ hnew_;clear hg_ hnew_;(first|rw[← Ny209.out] at ho19|(simp only[Int.reduceToNat] at ho19;rw[← Ny209.out] at ho19));have n0_:=am' (Kd.R_elder' (by (with_reducible repeat (first|apply ra'|apply rn'|apply rw'));exact HO_5.out) (Kd.R_base ho19) hb);have n1_:=am' (Kd.R_lower (Kd.R_new' (Kd.R_newM (M:=fun k_=>(w.heap.size≤k_)) ho19 (below_size (by repeat (first|(with_reducible first|exact HB.out|apply ba'|apply bd'|apply be'|refine bs' ?_ GE203.out|refine bs' ?_ GE204.out)|exact HB.out))) (fun k_ h_=>h_)) (Kd.R_lt (by (with_reducible repeat (first|apply ra'|apply rn'|apply rw'));exact HO_5.out))) (below_size (by repeat (first|(with_reducible first|exact HB.out|apply ba'|apply bd'|apply be'|refine bs' ?_ GE203.out|refine bs' ?_ GE204.out)|exact HB.out))));have n2_:=am' (blk_below (g:=gb203) (o := .cells #[.int .i64 a0_0, .slice A0_1 l0_1.length c0_1, .int .i64 a0_2] 32 (0,0)) (by (with_reducible repeat (first|refine kn' ?_ _|refine kd' ?_|refine ka' ?_ _));exact BK203.out) hb);have n3_:=am' (blk_below (g:=gb204) (o := .cells #[.slice A1_0 l1_0.length c1_0, .bool a1_1] 34 (0,0)) (by (with_reducible repeat (first|refine kn' ?_ _|refine kd' ?_|refine ka' ?_ _));exact BK204.out) hb);have n4_:=am' (below_step (by repeat (first|(with_reducible first|exact HB.out|apply ba'|apply bd'|apply be'|refine bs' ?_ GE203.out|refine bs' ?_ GE204.out)|exact HB.out)) hb);clear HO_5;clear BK203;clear BK204;clear HB;have HO_5:=n0_;have HO211:=n1_;have BK203:=n2_;have BK204:=n3_;have HB:=n4_;clear n0_ n1_ n2_ n3_ n4_;clear hb ho19;obtain ⟨Ao20,co20,eo20⟩:=Kd.R_slice HO211.out;subst eo20)|((with_reducible refine gate_dst (N:=30) rfl ?_);refine Kd.N_lit (Kd.slice 3 (Kd.int .i64)) _ 43 ?hg (N':=30) ?hd (xs:=([y209]:List (List Int))) (inner:=[.slice Ao20 y209.length co20]) (ok:=(fun k_=>(w.heap.size≤k_)∧some k_≠(u5:Value).ownBlock∧k_≠gb203∧k_≠gb204)) (okp:=(fun k_=>(w.heap.size≤k_)∧some k_≠(u5:Value).ownBlock∧k_≠gb203∧k_≠gb204)) ?hr ?hp (fun _ hk=>hk) ((show ∀ k_,w18.heap.size≤k_→(fun k_=>(w.heap.size≤k_)∧some k_≠(u5:Value).ownBlock∧k_≠gb203∧k_≠gb204) k_ from fun k_ hk=>⟨(Nat.le_trans (below_size (by repeat (first|(with_reducible first|exact HB.out|apply ba'|apply bd'|apply be'|refine bs' ?_ GE203.out|refine bs' ?_ GE204.out)|exact HB.out))) hk),Kd.fresh' (Kd.R_lt (by (with_reducible repeat (first|apply ra'|apply rn'|apply rw'));exact HO_5.out)) k_ hk,Kd.freshB (g:=gb203) (o := .cells #[.int .i64 a0_0, .slice A0_1 l0_1.length c0_1, .int .i64 a0_2] 32 (0,0)) (by (with_reducible repeat (first|refine kn' ?_ _|refine kd' ?_|refine ka' ?_ _));exact BK203.out) k_ hk,Kd.freshB (g:=gb204) (o := .cells #[.slice A1_0 l1_0.length c1_0, .bool a1_1] 34 (0,0)) (by (with_reducible repeat (first|refine kn' ?_ _|refine kd' ?_|refine ka' ?_ _));exact BK204.out) k_ hk⟩) _ (Nat.le_refl _)) (Below.refl _ _) (Nat.le_refl _) (by simp) ?_;(case hd=>rfl);(case hg=>rfl);(case hr=>first|(go_simp;done)|(go_simp;rfl));(case hp=>exact (Reps.one (show Kd.FK (Kd.slice 3 (Kd.int .i64)) _ _ y209 [.slice Ao20 y209.length co20] from (Kd.FK_slice_mk (Kd.R_reads' (Kd.R_mono (ok':=(fun k_=>(w.heap.size≤k_)∧some k_≠(u5:Value).ownBlock∧k_≠gb203∧k_≠gb204)) (Kd.R_types (Kd.R_types (HO211.out) BK203.out (by decide)) BK204.out (by decide)) (fun k_ hk=>⟨hk.1.1.1.1,⟨hk.1.1.2,⟨hk.1.2,hk.2⟩⟩⟩))).2.1 (Kd.R_F (Kd.R_mono (ok':=(fun k_=>(w.heap.size≤k_)∧some k_≠(u5:Value).ownBlock∧k_≠gb203∧k_≠gb204)) (Kd.R_types (Kd.R_types (HO211.out) BK203.out (by decide)) BK204.out (by decide)) (fun k_ hk=>⟨hk.1.1.1.1,⟨hk.1.1.2,⟨hk.1.2,hk.2⟩⟩⟩))))) (Reps.none _ _)));intro v213 w21 ho22 hb hg_ hnew_;clear hg_ hnew_;(first|rw[← Ny212.out] at ho22|(simp only[Int.reduceToNat] at ho22;rw[← Ny212.out] at ho22));have n0_:=am' (Kd.R_below (by (with_reducible repeat (first|apply ra'|apply rn'|apply rw'));exact HO_5.out) hb);have n1_:=am' (Kd.N_lower ho22 (below_size (by repeat (first|(with_reducible first|exact HB.out|apply ba'|apply bd'|apply be'|refine bs' ?_ GE203.out|refine bs' ?_ GE204.out)|exact HB.out))));have n2_:=am' (blk_below (g:=gb203) (o := .cells #[.int .i64 a0_0, .slice A0_1 l0_1.length c0_1, .int .i64 a0_2] 32 (0,0)) (by (with_reducible repeat (first|refine kn' ?_ _|refine kd' ?_|refine ka' ?_ _));exact BK203.out) hb);have n3_:=am' (blk_below (g:=gb204) (o := .cells #[.slice A1_0 l1_0.length c1_0, .bool a1_1] 34 (0,0)) (by (with_reducible repeat (first|refine kn' ?_ _|refine kd' ?_|refine ka' ?_ _));exact BK204.out) hb);have n4_:=am' (below_step (by repeat (first|(with_reducible first|exact HB.out|apply ba'|apply bd'|apply be'|refine bs' ?_ GE203.out|refine bs' ?_ GE204.out)|exact HB.out)) hb);clear HO_5;clear BK203;clear BK204;clear HB;clear HO211;have HO_5:=n0_;have HO214:=n1_;have BK203:=n2_;have BK204:=n3_;have HB:=n4_;clear n0_ n1_ n2_ n3_ n4_;clear hb ho22;have hnb23:=NB203_204.out;have hnc23:=NB204_203.out;have hcz24_0:w21.cell? ⟨gb203,0,none⟩=some (.int .i64 a0_0):=(blk_cell BK203.out 0).trans rfl;have hcz24_1:w21.cell? ⟨gb203,1,none⟩=some (.slice A0_1 l0_1.length c0_1):=(blk_cell BK203.out 1).trans rfl;have hcz24_2:w21.cell? ⟨gb203,2,none⟩=some (.int .i64 a0_2):=(blk_cell BK203.out 2).trans rfl;have hfz24_0:=blk_frozen BK203.out 0;have hfz24_1:=blk_frozen BK203.out 1;have hfz24_2:=blk_frozen BK203.out 2))
    (try simp only[Act.put,sa',sb',sc'])
    go_cut [8] (fun v8 wc=>∃ (kq:Nat) (x8_16:List (List Int)),Aside0 (spec_keRides.j1 kq x8_16 a0_0 l0_1 a0_2 l1_0 a1_1=some r)∧Aside0 (kq≤k1)∧Aside0 (Kd.N (Kd.slice 3 (Kd.int .i64)) 43 wc w.heap.size (fun k_=>(w.heap.size≤k_)∧k_≠gb203∧k_≠gb204) v8 x8_16)∧Aside0 (wc.heap[gb203]? = some (.cells #[.int .i64 a0_0,(.slice A0_1 l0_1.length c0_1), .int .i64 a0_2] 32 (0,0)))∧Aside0 (wc.heap[gb204]? = some (.cells #[(.slice A1_0 l1_0.length c1_0), .bool a1_1] 34 (0,0)))∧Aside0 (Below w.heap.size w wc))
    case first =>
     have H:=HC17.out;clear HC17;by_cases c25:a0_2 > 0
     ·
      rw[if_pos c25] at H;have c25b0:decide (0 < a0_2)=true:=decide_eq_true c25;clear c25;(first|rw[c25b0]|(simp only[i64_w,i32_w];rw[c25b0])|skip)
      replace H:=Option.bind_eq_some_iff.mp H;obtain ⟨t215,A260,H⟩:=H;replace H:(if y212.length+t215.length < 5864062014805 then (spec_keRides.j1 k1 (y212 ++ t215) a0_0 l0_1 a0_2 l1_0 a1_1) else (none))=some r:=H;have A26:=am' A260;clear A260;by_cases c27:y212.length+t215.length < 5864062014805
      ·
       rw[if_pos c27] at H;have LMc27:=am' c27;clear c27;obtain ⟨y218,hy218⟩:∃ y_:List (List Int),y_=(y212 ++ t215):=⟨_,rfl⟩
       replace H:(spec_keRides.j1 k1 y218 a0_0 l0_1 a0_2 l1_0 a1_1)=some r:=by first|(rw[hy218];with_reducible exact H)|(have H2_:=(Option.bind_some _ _).symm.trans H;rw[hy218];with_reducible exact H2_)|(have H2_:=(Option.bind_some _ _).symm.trans H;with_reducible exact H2_)|with_reducible exact H|(rw[hy218];exact H)|exact H
       have Ny218:=am' hy218;clear hy218;have H':=am' H;clear H;have hnb28:=NB203_204.out;have hnc28:=NB204_203.out;have hcz29_0:w21.cell? ⟨gb203,0,none⟩=some (.int .i64 a0_0):=(blk_cell BK203.out 0).trans rfl;have hcz29_1:w21.cell? ⟨gb203,1,none⟩=some (.slice A0_1 l0_1.length c0_1):=(blk_cell BK203.out 1).trans rfl;have hcz29_2:w21.cell? ⟨gb203,2,none⟩=some (.int .i64 a0_2):=(blk_cell BK203.out 2).trans rfl;have hfz29_0:=blk_frozen BK203.out 0;have hfz29_1:=blk_frozen BK203.out 1;have hfz29_2:=blk_frozen BK203.out 2;obtain ⟨Ao30,co30,eo30⟩:=Kd.R_slice HO_5.out;subst eo30;go_wp2_with (first|((with_reducible refine gate_callee (f:=62) rfl ?_);refine goesL_ (some 38) rfl rfl Try.func62 (by kernel_rfl) rfl #[.slice Ao30 x5_1.length co30, .slice none 0 0, .int .i64 0, .int .i64 a0_2] rfl (by (try simp only[List.map_toArray,List.map_cons,List.map_nil]);first|done|rfl|(simp only[List.length_drop,List.length_take];rfl)) ?_;(refine (spec_paGroups.calls k1 _ _ x5_1 _ _ ([]:List Int) 0 a0_2 t215 _ ?side1 ?side2 ?side3 ?side4 A26.out).mono ?_);(case side1=>repeat (first|exact (Kd.R_reads' HO_5.out).2.2|(with_reducible refine ca' ?_ _)|(with_reducible refine cn' ?_ _)|(with_reducible refine cd' ?_)));(case side2=>exact (Kd.R_reads' HO_5.out).2.1);(case side3=>exact Kd.C_nil _ _);(case side4=>exact Nat.le_refl _);rintro e w31 ⟨v216,rfl,ho0,hb⟩;refine ⟨_,rfl,?_⟩;have n0_:=am' (Kd.R_below (by (with_reducible repeat (first|apply ra'|apply rn'|apply rw'));exact HO_5.out) hb);have n1_:=am' (Kd.N_elder' (by (with_reducible repeat (first|apply Kd.N_alloc|apply Kd.N_drewN|apply Kd.N_drew));exact HO214.out) (Kd.N_base ho0) hb);have n2_:=am' (Kd.N_lower (Kd.N_mono (ok':=fun k_=>(w.heap.size≤k_)∧some k_≠(.slice Ao30 x5_1.length co30:Value).ownBlock∧some k_≠(v213:Value).ownBlock∧k_≠gb203∧k_≠gb204) ho0 (fun k_ hk_=>⟨(Nat.le_trans (below_size (by repeat (first|(with_reducible first|exact HB.out|apply ba'|apply bd'|apply be'|refine bs' ?_ GE203.out|refine bs' ?_ GE204.out)|exact HB.out))) hk_),(Kd.fresh' (Kd.R_lt (by (with_reducible repeat (first|apply ra'|apply rn'|apply rw'));exact HO_5.out)) k_ hk_),(Kd.fresh' (Kd.N_lt (by (with_reducible repeat (first|apply Kd.N_alloc|apply Kd.N_drewN|apply Kd.N_drew));exact HO214.out)) k_ hk_),(Kd.freshB (g:=gb203) (o := .cells #[.int .i64 a0_0, .slice A0_1 l0_1.length c0_1, .int .i64 a0_2] 32 (0,0)) (by (with_reducible repeat (first|refine kn' ?_ _|refine kd' ?_|refine ka' ?_ _));exact BK203.out) k_ hk_),(Kd.freshB (g:=gb204) (o := .cells #[.slice A1_0 l1_0.length c1_0, .bool a1_1] 34 (0,0)) (by (with_reducible repeat (first|refine kn' ?_ _|refine kd' ?_|refine ka' ?_ _));exact BK204.out) k_ hk_)⟩)) (below_size (by repeat (first|(with_reducible first|exact HB.out|apply ba'|apply bd'|apply be'|refine bs' ?_ GE203.out|refine bs' ?_ GE204.out)|exact HB.out))));have n3_:=am' (blk_below (g:=gb203) (o := .cells #[.int .i64 a0_0, .slice A0_1 l0_1.length c0_1, .int .i64 a0_2] 32 (0,0)) (by (with_reducible repeat (first|refine kn' ?_ _|refine kd' ?_|refine ka' ?_ _));exact BK203.out) hb);have n4_:=am' (blk_below (g:=gb204) (o := .cells #[.slice A1_0 l1_0.length c1_0, .bool a1_1] 34 (0,0)) (by (with_reducible repeat (first|refine kn' ?_ _|refine kd' ?_|refine ka' ?_ _));exact BK204.out) hb);have n5_:=am' (below_step (by repeat (first|(with_reducible first|exact HB.out|apply ba'|apply bd'|apply be'|refine bs' ?_ GE203.out|refine bs' ?_ GE204.out)|exact HB.out)) hb);clear HO_5;clear HO214;clear BK203;clear BK204;clear HB;have HO_5:=n0_;have HO214:=n1_;have HO217:=n2_;have BK203:=n3_;have BK204:=n4_;have HB:=n5_;clear n0_ n1_ n2_ n3_ n4_ n5_;(try clear hb);(try clear hb2);(try clear hk);(try clear hi);(try clear ho0);obtain ⟨Ao33,co33,eo33⟩:=Kd.N_slice HO217.out;subst eo33)|((with_reducible refine gate_builtin (b := .append) (xs:=#[.tmp 34, .tmp 38]) rfl ?_);at_builtin;refine Kd.N_append_rows (Kd.slice 3 (Kd.int .i64)) (w0:=w) w.heap.size rfl (.tmp 34) (.tmp 38) 22 43 (.slice none 0 0) 24 rfl Try.underlying22 info43 rfl (by decide) (by omega) v213 y212 t215 _ _ _ (fun k_=>(w.heap.size≤k_)∧some k_≠(.slice Ao30 x5_1.length co30:Value).ownBlock∧k_≠gb203∧k_≠gb204) (fun k_=>((fun k_=>(w.heap.size≤k_)∧some k_≠(.slice Ao30 x5_1.length co30:Value).ownBlock∧k_≠gb203∧k_≠gb204)) k_∧some k_≠(v213:Value).ownBlock) rfl rfl ?aO ?aR (fun _ hk=>hk) ?aF ?aB ?aS ?aL ?_;(case aR=>exact (by skip;exact Kd.N_F (Kd.N_mono (ok':=(fun k_=>((fun k_=>(w.heap.size≤k_)∧some k_≠(.slice Ao30 x5_1.length co30:Value).ownBlock∧k_≠gb203∧k_≠gb204)) k_∧some k_≠(v213:Value).ownBlock)) (HO217.out) (fun k_ hk=>⟨⟨hk.1,⟨hk.2.1,⟨hk.2.2.2.1,hk.2.2.2.2⟩⟩⟩,hk.2.2.1⟩))));(case aB=>exact (by repeat (first|(with_reducible first|exact HB.out|apply ba'|apply bd'|apply be'|refine bs' ?_ GE203.out|refine bs' ?_ GE204.out)|exact HB.out)));(case aF=>exact (fun k_ hk=>⟨(Nat.le_trans (below_size (by repeat (first|(with_reducible first|exact HB.out|apply ba'|apply bd'|apply be'|refine bs' ?_ GE203.out|refine bs' ?_ GE204.out)|exact HB.out))) hk),Kd.fresh' (Kd.R_lt (by (with_reducible repeat (first|apply ra'|apply rn'|apply rw'));exact HO_5.out)) k_ hk,Kd.freshB (g:=gb203) (o := .cells #[.int .i64 a0_0, .slice A0_1 l0_1.length c0_1, .int .i64 a0_2] 32 (0,0)) (by (with_reducible repeat (first|refine kn' ?_ _|refine kd' ?_|refine ka' ?_ _));exact BK203.out) k_ hk,Kd.freshB (g:=gb204) (o := .cells #[.slice A1_0 l1_0.length c1_0, .bool a1_1] 34 (0,0)) (by (with_reducible repeat (first|refine kn' ?_ _|refine kd' ?_|refine ka' ?_ _));exact BK204.out) k_ hk⟩));(case aO=>exact (by (with_reducible repeat (first|apply Kd.N_alloc|apply Kd.N_drewN|apply Kd.N_drew));exact Kd.N_mono HO214.out (fun _ hk=>⟨hk.1.1,⟨hk.1.2.1,⟨hk.1.2.2.1,hk.1.2.2.2⟩⟩⟩)));(case aS=>exact (below_size (by repeat (first|(with_reducible first|exact HB.out|apply ba'|apply bd'|apply be'|refine bs' ?_ GE203.out|refine bs' ?_ GE204.out)|exact HB.out))));(case aL=>have:=LMc27.out;omega);intro v219 w32 ho hb hg hat;rw[← Ny218.out] at ho;have n0_:=am' (Kd.R_over' (by (with_reducible repeat (first|apply ra'|apply rn'|apply rw'));exact HO_5.out) (Kd.N_typed (by (with_reducible repeat (first|apply Kd.N_alloc|apply Kd.N_drewN|apply Kd.N_drew));exact HO214.out)) (by decide) hg);have n1_:=am' (blk_grown (g:=gb203) (o := .cells #[.int .i64 a0_0, .slice A0_1 l0_1.length c0_1, .int .i64 a0_2] 32 (0,0)) (by (with_reducible repeat (first|refine kn' ?_ _|refine kd' ?_|refine ka' ?_ _));exact BK203.out) hg (Kd.N_ne HO214.out BK203.out (by decide)));have n2_:=am' (blk_grown (g:=gb204) (o := .cells #[.slice A1_0 l1_0.length c1_0, .bool a1_1] 34 (0,0)) (by (with_reducible repeat (first|refine kn' ?_ _|refine kd' ?_|refine ka' ?_ _));exact BK204.out) hg (Kd.N_ne HO214.out BK204.out (by decide)));have n3_:=am' (Kd.N_afterv (ok:=(fun k_=>(w.heap.size≤k_)∧some k_≠(.slice Ao30 x5_1.length co30:Value).ownBlock∧k_≠gb203∧k_≠gb204)) (by (with_reducible repeat (first|apply Kd.N_alloc|apply Kd.N_drewN|apply Kd.N_drew));exact Kd.N_mono HO217.out (fun _ hk=>⟨⟨hk.1,⟨hk.2.1,⟨hk.2.2.2.1,hk.2.2.2.2⟩⟩⟩,hk.2.2.1⟩)) hg hat);have n4_:=am' (hb);have n5_:=am' (ho);clear HO_5;clear BK203;clear BK204;clear HO217;clear HB;clear HO214;have HO_5:=n0_;have BK203:=n1_;have BK204:=n2_;have HO217:=n3_;have HB:=n4_;have HO220:=n5_;clear n0_ n1_ n2_ n3_ n4_ n5_;clear ho hb hg hat))
       go_meet
       case rel=>exact ⟨_,(y218),H',⟨by have:=HK1.out;first|omega|exact Nat.le_refl _⟩,⟨by (with_reducible repeat (first|apply Kd.N_alloc|apply Kd.N_drewN|apply Kd.N_drew));exact Kd.N_mono HO220.out (fun _ hk=>⟨hk.1,⟨hk.2.2.1,hk.2.2.2⟩⟩)⟩,⟨by (with_reducible repeat (first|refine kn' ?_ _|refine kd' ?_|refine ka' ?_ _));exact BK203.out⟩,⟨by (with_reducible repeat (first|refine kn' ?_ _|refine kd' ?_|refine ka' ?_ _));exact BK204.out⟩,⟨by repeat (first|(with_reducible first|exact HB.out|apply ba'|apply bd'|apply be'|refine bs' ?_ GE203.out|refine bs' ?_ GE204.out)|exact HB.out)⟩⟩
      ·
       rw[if_neg c27] at H;exact absurd H (by simp)
     ·
      rw[if_neg c25] at H;have c25b0:decide (0 < a0_2)=false:=decide_eq_false c25;clear c25;(first|rw[c25b0]|(simp only[i64_w,i32_w];rw[c25b0])|skip)
      have H':=am' H;clear H;go_wp2;go_meet
      case rel=>exact ⟨_,(y212),H',⟨by have:=HK1.out;first|omega|exact Nat.le_refl _⟩,⟨by (with_reducible repeat (first|apply Kd.N_alloc|apply Kd.N_drewN|apply Kd.N_drew));exact Kd.N_mono HO214.out (fun _ hk=>⟨hk.1,⟨hk.2.2.1,hk.2.2.2⟩⟩)⟩,⟨by (with_reducible repeat (first|refine kn' ?_ _|refine kd' ?_|refine ka' ?_ _));exact BK203.out⟩,⟨by (with_reducible repeat (first|refine kn' ?_ _|refine kd' ?_|refine ka' ?_ _));exact BK204.out⟩,⟨by repeat (first|(with_reducible first|exact HB.out|apply ba'|apply bd'|apply be'|refine bs' ?_ GE203.out|refine bs' ?_ GE204.out)|exact HB.out)⟩⟩
    case rest =>
     clear HC17;try clear c1
     try clear c2
     try clear p2
     try clear q2
     try clear hx2
     try clear c5
     try clear c6
     try clear p6
     try clear c7
     try clear c7b0
     try clear c8
     try clear c8b0
     try clear c9
     try clear c9b0
     try clear c10
     try clear c10b0
     try clear c10b1
     try clear c10b2
     try clear c11
     try clear c12
     try clear c15
     try clear p20
     try clear q20
     try clear hx20
     try clear c23
     try clear c25
     try clear c25b0
     try clear c27
     try clear c28
     try clear hcz13_0
     try clear hcz13_1
     try clear hcz16_0
     try clear hcz16_1
     try clear hcz24_0
     try clear hcz24_1
     try clear hcz24_2
     try clear hcz29_0
     try clear hcz29_1
     try clear hcz29_2
     try clear hcz6_0
     try clear hcz6_1
     try clear hfz13_0
     try clear hfz13_1
     try clear hfz16_0
     try clear hfz16_1
     try clear hfz24_0
     try clear hfz24_1
     try clear hfz24_2
     try clear hfz29_0
     try clear hfz29_1
     try clear hfz29_2
     try clear hfz6_0
     try clear hfz6_1
     try clear hx205_0
     try clear p2
     try clear p205
     try clear q205
     obtain ⟨kq,x8_16,HA,HJ16,HO_8,BK203,BK204,HB⟩:=hcut;cases kq with
     | zero=>exact absurd HA.out (by simp[spec_keRides.j1])
     | succ kj16 =>
      have H:=HA.out;clear HA;simp only[spec_keRides.j1] at H;have H':=am' H;clear H;obtain ⟨Ao34,co34,eo34⟩:=Kd.N_slice HO_8.out;subst eo34;go_wp2;go_loopg [9,42] kj16 (fun kq v9 v42 w'=>∃ (x9_3:List (List Int)) (x42_3:Int),v42 = .int .i64 x42_3∧Aside0 (spec_keRides.l1 kq x9_3 x8_16 (x8_16.length:Int) x42_3 a0_0 l0_1 a0_2 l1_0 a1_1=some r)∧Aside0 (kq≤kj16)∧Aside0 (Kd.N (Kd.slice 3 (Kd.int .i64)) 43 w' w.heap.size (fun k_=>(w.heap.size≤k_)∧some k_≠((.slice Ao34 x8_16.length co34):Value).ownBlock∧k_≠gb203∧k_≠gb204) v9 x9_3)∧Aside0 (Kd.N (Kd.slice 3 (Kd.int .i64)) 43 w' w.heap.size (fun k_=>(w.heap.size≤k_)∧some k_≠(v9:Value).ownBlock∧k_≠gb203∧k_≠gb204) (.slice Ao34 x8_16.length co34) x8_16)∧Aside0 (w'.heap[gb203]? = some (.cells #[.int .i64 a0_0,(.slice A0_1 l0_1.length c0_1), .int .i64 a0_2] 32 (0,0)))∧Aside0 (w'.heap[gb204]? = some (.cells #[(.slice A1_0 l1_0.length c1_0), .bool a1_1] 34 (0,0)))∧Aside0 (Below w.heap.size w w'))
      case atStart=>exact ⟨(([]:List (List Int))),(0),(by first|rfl|(simp;done)|(simp[*];done)),H',⟨Nat.le_refl _⟩,⟨by first|exact Kd.S_nil _ _ _ _ _|exact Kd.N_nil _ _ _ _ _|exact Kd.V_nil _ _ _ _ _|exact Kd.Q_nil _ _ _ _ _|exact Kd.R_nil _ _ _ _ _⟩,⟨by (with_reducible repeat (first|apply Kd.N_alloc|apply Kd.N_drewN|apply Kd.N_drew));exact Kd.N_mono HO_8.out (fun _ hk=>⟨hk.1,⟨(by simp[Value.ownBlock]),⟨hk.2.1,hk.2.2⟩⟩⟩)⟩,⟨by (with_reducible repeat (first|refine kn' ?_ _|refine kd' ?_|refine ka' ?_ _));exact BK203.out⟩,⟨by (with_reducible repeat (first|refine kn' ?_ _|refine kd' ?_|refine ka' ?_ _));exact BK204.out⟩,⟨by repeat (first|(with_reducible first|exact HB.out|apply ba'|apply bd'|apply be'|refine bs' ?_ GE203.out|refine bs' ?_ GE204.out)|exact HB.out)⟩⟩
      case round =>
       clear H';try clear c1
       try clear c2
       try clear p2
       try clear q2
       try clear hx2
       try clear c5
       try clear c6
       try clear p6
       try clear c7
       try clear c7b0
       try clear c8
       try clear c8b0
       try clear c9
       try clear c9b0
       try clear c10
       try clear c10b0
       try clear c10b1
       try clear c10b2
       try clear c11
       try clear c12
       try clear c15
       try clear p20
       try clear q20
       try clear hx20
       try clear c23
       try clear c25
       try clear c25b0
       try clear c27
       try clear c28
       try clear hcz13_0
       try clear hcz13_1
       try clear hcz16_0
       try clear hcz16_1
       try clear hcz24_0
       try clear hcz24_1
       try clear hcz24_2
       try clear hcz29_0
       try clear hcz29_1
       try clear hcz29_2
       try clear hcz6_0
       try clear hcz6_1
       try clear hfz13_0
       try clear hfz13_1
       try clear hfz16_0
       try clear hfz16_1
       try clear hfz24_0
       try clear hfz24_1
       try clear hfz24_2
       try clear hfz29_0
       try clear hfz29_1
       try clear hfz29_2
       try clear hfz6_0
       try clear hfz6_1
       try clear hx205_0
       try clear p2
       try clear p20
       try clear p205
       try clear p6
       try clear q2
       try clear q20
       try clear q205
       obtain ⟨x9_3,x42_3,rfl,HA,HK3,HO_9,HO_40,BK203,BK204,HB⟩:=hrel;cases gk with
       | zero=>exact absurd HA.out (by simp[spec_keRides.l1])
       | succ k3 =>
        have H:=HA.out;clear HA;simp only[spec_keRides.l1] at H;by_cases c35:x42_3 < (x8_16.length:Int)
        ·
         rw[if_pos c35] at H;have c35b0:decide (x42_3 < (x8_16.length:Int))=true:=decide_eq_true c35;clear c35;by_cases c36:0≤x42_3
         ·
          rw[if_pos c36] at H;have c36b0:decide (0≤x42_3)=true:=decide_eq_true c36;clear c36;by_cases c37:x42_3 < (x8_16.length:Int)
          ·
           rw[if_pos c37] at H;have c37b0:decide (x42_3 < (x8_16.length:Int))=true:=decide_eq_true c37;clear c37;replace H:=Option.bind_eq_some_iff.mp H;obtain ⟨t222,A380,H⟩:=H;replace H:(if t222=true then (if x9_3.length < 5864062014805 then (spec_keRides.l1 k3 (x9_3 ++ [rd_L1 x8_16 x42_3]) x8_16 (x8_16.length:Int) (wrap64 (x42_3+1)) a0_0 l0_1 a0_2 l1_0 a1_1) else (none)) else (spec_keRides.l1 k3 x9_3 x8_16 (x8_16.length:Int) (wrap64 (x42_3+1)) a0_0 l0_1 a0_2 l1_0 a1_1))=some r:=H;have A38:=am' A380;clear A380;by_cases c39:t222=true
           ·
            subst c39;have H1:(if x9_3.length < 5864062014805 then (spec_keRides.l1 k3 (x9_3 ++ [rd_L1 x8_16 x42_3]) x8_16 (x8_16.length:Int) (wrap64 (x42_3+1)) a0_0 l0_1 a0_2 l1_0 a1_1) else (none))=some r:=by rw[if_pos rfl] at H;exact H
            clear H;have H:=H1;clear H1;by_cases c40:x9_3.length < 5864062014805
            ·
             rw[if_pos c40] at H;have LMc40:=am' c40;clear c40;obtain ⟨y223,hy223⟩:∃ y_:List (List Int),y_=(x9_3 ++ [rd_L1 x8_16 x42_3]):=⟨_,rfl⟩
             replace H:(spec_keRides.l1 k3 y223 x8_16 (x8_16.length:Int) (wrap64 (x42_3+1)) a0_0 l0_1 a0_2 l1_0 a1_1)=some r:=by first|(rw[hy223];with_reducible exact H)|(have H2_:=(Option.bind_some _ _).symm.trans H;rw[hy223];with_reducible exact H2_)|(have H2_:=(Option.bind_some _ _).symm.trans H;with_reducible exact H2_)|with_reducible exact H|(rw[hy223];exact H)|exact H
             have Ny223:=am' hy223;clear hy223;have H':=am' H;clear H;have p221:0≤(x42_3:Int):=of_decide_eq_true (by first|(with_reducible assumption)|assumption);have q221:x42_3 < (x8_16.length:Int):=of_decide_eq_true (by first|(with_reducible assumption)|assumption);obtain ⟨ad221,A221_0,c221_0,e221,hx221_0,hl221_0,hi221_0⟩:=at_L1 (Kd.N_reads' HO_40.out).2.2 x42_3 p221 q221;cases e221;obtain ⟨ce221,hce221,hMe221,hcc221⟩:=Kd.N_get HO_40.out [] x42_3 p221 (by first|exact q221|exact of_decide_eq_true (by first|(with_reducible assumption)|assumption)|(have e_:=(Kd.N_reads' HO_40.out).1;omega));obtain ⟨ua221_0,uc221_0,rfl,ul221_0,ge221_0⟩:=Kd.FK_slice_open hMe221;have hv221_0:=hcc221 0 _ rfl;rw[Nat.add_zero,show ((Kd.slice 3 (Kd.int .i64))).sz=1 from rfl,Nat.mul_one] at hv221_0;replace hv221_0:=Option.some.inj (hv221_0.symm.trans hx221_0);injection hv221_0 with hva_ hvn_ hvc_
             rw[hva_] at ge221_0;rw[hvc_] at ul221_0;have HL221_0:=am' (show Kd.V (Kd.int .i64) 3 _ w.heap.size _ _ (rd_L1 x8_16 x42_3) from Kd.V_mk ul221_0 ge221_0);clear hva_ hvn_ hvc_ ge221_0 ul221_0;clear hcc221 hce221;have HR221_0:=am' hi221_0;have HC221_0:=am' hl221_0;clear hi221_0 hl221_0;replace p221:=eq_true p221;replace q221:=eq_true q221;have hnb41:=NB203_204.out;have hnc41:=NB204_203.out;have hcz42_0:wr.cell? ⟨gb203,0,none⟩=some (.int .i64 a0_0):=(blk_cell BK203.out 0).trans rfl;have hcz42_1:wr.cell? ⟨gb203,1,none⟩=some (.slice A0_1 l0_1.length c0_1):=(blk_cell BK203.out 1).trans rfl;have hcz42_2:wr.cell? ⟨gb203,2,none⟩=some (.int .i64 a0_2):=(blk_cell BK203.out 2).trans rfl;have hfz42_0:=blk_frozen BK203.out 0;have hfz42_1:=blk_frozen BK203.out 1;have hfz42_2:=blk_frozen BK203.out 2;have hcz43_0:wr.cell? ⟨gb204,0,none⟩=some (.slice A1_0 l1_0.length c1_0):=(blk_cell BK204.out 0).trans rfl;have hcz43_1:wr.cell? ⟨gb204,1,none⟩=some (.bool a1_1):=(blk_cell BK204.out 1).trans rfl;have hfz43_0:=blk_frozen BK204.out 0;have hfz43_1:=blk_frozen BK204.out 1;go_wp2_with (first|((with_reducible refine gate_callee (f:=75) rfl ?_);refine goesL_ (some 49) rfl rfl Try.func75 (by kernel_rfl) rfl #[.agg #[.int .i64 a0_0, .slice A0_1 l0_1.length c0_1, .int .i64 a0_2], .agg #[.slice A1_0 l1_0.length c1_0, .bool a1_1], .slice A221_0 (rd_L1 x8_16 x42_3).length c221_0] rfl (by (try simp only[List.map_toArray,List.map_cons,List.map_nil]);first|done|rfl|(simp only[List.length_drop,List.length_take];rfl)) ?_;(with_reducible refine (spec_keCan.calls k3 a0_0 _ _ l0_1 a0_2 _ _ l1_0 a1_1 _ _ (rd_L1 x8_16 x42_3) true _ ?side1 ?side2 ?side3 ?side4 ?side5 ?side6 A38.out).mono ?_);(case side1=>repeat (first|exact (Kd.C_below HR0_1.out HB.out)|(with_reducible refine ca' ?_ _)|(with_reducible refine cn' ?_ _)|(with_reducible refine cd' ?_)));(case side2=>exact HC0_1.out);(case side3=>repeat (first|exact (Kd.C_below HR1_0.out HB.out)|(with_reducible refine ca' ?_ _)|(with_reducible refine cn' ?_ _)|(with_reducible refine cd' ?_)));(case side4=>exact HC1_0.out);(case side5=>repeat (first|exact (by repeat (first|(with_reducible exact HR221_0.out)|(with_reducible refine ca' ?_ _)|(with_reducible refine cn' ?_ _)|(with_reducible refine cd' ?_)|exact HR221_0.out))|(with_reducible refine ca' ?_ _)|(with_reducible refine cn' ?_ _)|(with_reducible refine cd' ?_)));(case side6=>exact HC221_0.out);rintro e w44 ⟨rfl,hb⟩;refine ⟨_,rfl,?_⟩;have n0_:=am' (Kd.N_below (by (with_reducible repeat (first|apply Kd.N_alloc|apply Kd.N_drewN|apply Kd.N_drew));exact HO_9.out) hb);have n1_:=am' (Kd.N_below (by (with_reducible repeat (first|apply Kd.N_alloc|apply Kd.N_drewN|apply Kd.N_drew));exact HO_40.out) hb);have n2_:=am' (Kd.V_below (by (with_reducible repeat (first|apply Kd.V_alloc|apply Kd.V_drewN|apply Kd.V_drew));exact HL221_0.out) hb);have n3_:=am' (blk_below (g:=gb203) (o := .cells #[.int .i64 a0_0, .slice A0_1 l0_1.length c0_1, .int .i64 a0_2] 32 (0,0)) (by (with_reducible repeat (first|refine kn' ?_ _|refine kd' ?_|refine ka' ?_ _));exact BK203.out) hb);have n4_:=am' (blk_below (g:=gb204) (o := .cells #[.slice A1_0 l1_0.length c1_0, .bool a1_1] 34 (0,0)) (by (with_reducible repeat (first|refine kn' ?_ _|refine kd' ?_|refine ka' ?_ _));exact BK204.out) hb);have n5_:=am' (Kd.C_below (by repeat (first|(with_reducible exact HR221_0.out)|(with_reducible refine ca' ?_ _)|(with_reducible refine cn' ?_ _)|(with_reducible refine cd' ?_)|exact HR221_0.out)) hb);have n6_:=am' (below_step (by repeat (first|(with_reducible first|exact HB.out|apply ba'|apply bd'|apply be'|refine bs' ?_ GE203.out|refine bs' ?_ GE204.out)|exact HB.out)) hb);clear HO_9;clear HO_40;clear HL221_0;clear BK203;clear BK204;clear HR221_0;clear HB;have HO_9:=n0_;have HO_40:=n1_;have HL221_0:=n2_;have BK203:=n3_;have BK204:=n4_;have HR221_0:=n5_;have HB:=n6_;clear n0_ n1_ n2_ n3_ n4_ n5_ n6_;(try clear hb);(try clear hb2);(try clear hk);(try clear hi))|((with_reducible refine gate_builtin (b := .append) (xs:=#[.tmp 50, .tmp 52]) rfl ?_);at_builtin;refine Kd.N_append (Kd.slice 3 (Kd.int .i64)) (w0:=w) w.heap.size rfl (.tmp 50) (.tmp 52) 22 43 (.slice none 0 0) 24 rfl Try.underlying22 info43 rfl (by decide) (by omega) u9 x9_3 (rd_L1 x8_16 x42_3) [.slice A221_0 (rd_L1 x8_16 x42_3).length c221_0] (fun k_=>(w.heap.size≤k_)∧some k_≠(.slice (some ad221) x8_16.length co34:Value).ownBlock∧k_≠gb203∧k_≠gb204) (fun k_=>((fun k_=>(w.heap.size≤k_)∧some k_≠(.slice (some ad221) x8_16.length co34:Value).ownBlock∧k_≠gb203∧k_≠gb204)) k_∧some k_≠(u9:Value).ownBlock) rfl rfl ?aP (fun _ hk=>hk) ?aF ?aO ?aB ?aS ?aL ?_;(case aP=>exact (Kd.FK_slice_mk (Kd.V_reads' (Kd.V_mono (ok':=(fun k_=>((fun k_=>(w.heap.size≤k_)∧some k_≠(.slice (some ad221) x8_16.length co34:Value).ownBlock∧k_≠gb203∧k_≠gb204)) k_∧some k_≠(u9:Value).ownBlock)) (HL221_0.out) (fun k_ hk=>⟨⟨hk.1.1,⟨hk.2,⟨hk.1.2.2.1,hk.1.2.2.2⟩⟩⟩,hk.1.2.1⟩))).2.1 (Kd.V_F (Kd.V_mono (ok':=(fun k_=>((fun k_=>(w.heap.size≤k_)∧some k_≠(.slice (some ad221) x8_16.length co34:Value).ownBlock∧k_≠gb203∧k_≠gb204)) k_∧some k_≠(u9:Value).ownBlock)) (HL221_0.out) (fun k_ hk=>⟨⟨hk.1.1,⟨hk.2,⟨hk.1.2.2.1,hk.1.2.2.2⟩⟩⟩,hk.1.2.1⟩)))));(case aB=>exact (by repeat (first|(with_reducible first|exact HB.out|apply ba'|apply bd'|apply be'|refine bs' ?_ GE203.out|refine bs' ?_ GE204.out)|exact HB.out)));(case aF=>exact (fun k_ hk=>⟨(Nat.le_trans (below_size (by repeat (first|(with_reducible first|exact HB.out|apply ba'|apply bd'|apply be'|refine bs' ?_ GE203.out|refine bs' ?_ GE204.out)|exact HB.out))) hk),Kd.fresh' (Kd.N_lt (by (with_reducible repeat (first|apply Kd.N_alloc|apply Kd.N_drewN|apply Kd.N_drew));exact HO_40.out)) k_ hk,Kd.freshB (g:=gb203) (o := .cells #[.int .i64 a0_0, .slice A0_1 l0_1.length c0_1, .int .i64 a0_2] 32 (0,0)) (by (with_reducible repeat (first|refine kn' ?_ _|refine kd' ?_|refine ka' ?_ _));exact BK203.out) k_ hk,Kd.freshB (g:=gb204) (o := .cells #[.slice A1_0 l1_0.length c1_0, .bool a1_1] 34 (0,0)) (by (with_reducible repeat (first|refine kn' ?_ _|refine kd' ?_|refine ka' ?_ _));exact BK204.out) k_ hk⟩));(case aO=>exact (by (with_reducible repeat (first|apply Kd.N_alloc|apply Kd.N_drewN|apply Kd.N_drew));exact HO_9.out));(case aS=>exact (below_size (by repeat (first|(with_reducible first|exact HB.out|apply ba'|apply bd'|apply be'|refine bs' ?_ GE203.out|refine bs' ?_ GE204.out)|exact HB.out))));(case aL=>have:=LMc40.out;omega);intro v224 w45 ho hb hg hat;rw[← Ny223.out] at ho;have n0_:=am' (Kd.N_afterv (ok:=(fun k_=>(w.heap.size≤k_)∧k_≠gb203∧k_≠gb204)) (by (with_reducible repeat (first|apply Kd.N_alloc|apply Kd.N_drewN|apply Kd.N_drew));exact Kd.N_mono HO_40.out (fun _ hk=>⟨⟨hk.1,⟨hk.2.2.1,hk.2.2.2⟩⟩,hk.2.1⟩)) hg hat);have n1_:=am' (blk_grown (g:=gb203) (o := .cells #[.int .i64 a0_0, .slice A0_1 l0_1.length c0_1, .int .i64 a0_2] 32 (0,0)) (by (with_reducible repeat (first|refine kn' ?_ _|refine kd' ?_|refine ka' ?_ _));exact BK203.out) hg (Kd.N_ne HO_9.out BK203.out (by decide)));have n2_:=am' (blk_grown (g:=gb204) (o := .cells #[.slice A1_0 l1_0.length c1_0, .bool a1_1] 34 (0,0)) (by (with_reducible repeat (first|refine kn' ?_ _|refine kd' ?_|refine ka' ?_ _));exact BK204.out) hg (Kd.N_ne HO_9.out BK204.out (by decide)));have n3_:=am' (Kd.V_afterv (ok:=(fun k_=>(w.heap.size≤k_)∧some k_≠(.slice (some ad221) x8_16.length co34:Value).ownBlock∧k_≠gb203∧k_≠gb204)) (by (with_reducible repeat (first|apply Kd.V_alloc|apply Kd.V_drewN|apply Kd.V_drew));exact Kd.V_mono HL221_0.out (fun _ hk=>⟨⟨hk.1.1,⟨hk.2,⟨hk.1.2.2.1,hk.1.2.2.2⟩⟩⟩,hk.1.2.1⟩)) hg hat);have n4_:=am' (hb);have n5_:=am' (ho);clear HO_40;clear BK203;clear BK204;clear HL221_0;clear HB;clear HO_9;have HO_40:=n0_;have BK203:=n1_;have BK204:=n2_;have HL221_0:=n3_;have HB:=n4_;have HO225:=n5_;clear n0_ n1_ n2_ n3_ n4_ n5_;clear ho hb hg hat))
             go_roundg k3
             case measure=>have:=HK1.out;have:=HJ16.out;have:=HK3.out;omega
             case rel=>exact ⟨(y223),(wrap64 (x42_3+1)),(by first|rfl|(simp;done)|(simp[*];done)),H',⟨by have:=HK1.out;have:=HJ16.out;have:=HK3.out;omega⟩,⟨by (with_reducible repeat (first|apply Kd.N_alloc|apply Kd.N_drewN|apply Kd.N_drew));exact HO225.out⟩,⟨by (with_reducible repeat (first|apply Kd.N_alloc|apply Kd.N_drewN|apply Kd.N_drew));exact Kd.N_mono HO_40.out (fun _ hk=>⟨hk.1.1,⟨hk.2,⟨hk.1.2.1,hk.1.2.2⟩⟩⟩)⟩,⟨by (with_reducible repeat (first|refine kn' ?_ _|refine kd' ?_|refine ka' ?_ _));exact BK203.out⟩,⟨by (with_reducible repeat (first|refine kn' ?_ _|refine kd' ?_|refine ka' ?_ _));exact BK204.out⟩,⟨by repeat (first|(with_reducible first|exact HB.out|apply ba'|apply bd'|apply be'|refine bs' ?_ GE203.out|refine bs' ?_ GE204.out)|exact HB.out)⟩⟩
            ·
             rw[if_neg c40] at H;exact absurd H (by simp)
           ·
            replace c39:=Bool.eq_false_iff.mpr c39;subst c39;have H1:(spec_keRides.l1 k3 x9_3 x8_16 (x8_16.length:Int) (wrap64 (x42_3+1)) a0_0 l0_1 a0_2 l1_0 a1_1)=some r:=by rw[if_neg (show ¬ (false=true) by decide)] at H;exact H
            clear H;have H:=H1;clear H1;have H':=am' H;clear H;have p221:0≤(x42_3:Int):=of_decide_eq_true (by first|(with_reducible assumption)|assumption);have q221:x42_3 < (x8_16.length:Int):=of_decide_eq_true (by first|(with_reducible assumption)|assumption);obtain ⟨ad221,A221_0,c221_0,e221,hx221_0,hl221_0,hi221_0⟩:=at_L1 (Kd.N_reads' HO_40.out).2.2 x42_3 p221 q221;cases e221;obtain ⟨ce221,hce221,hMe221,hcc221⟩:=Kd.N_get HO_40.out [] x42_3 p221 (by first|exact q221|exact of_decide_eq_true (by first|(with_reducible assumption)|assumption)|(have e_:=(Kd.N_reads' HO_40.out).1;omega));obtain ⟨ua221_0,uc221_0,rfl,ul221_0,ge221_0⟩:=Kd.FK_slice_open hMe221;have hv221_0:=hcc221 0 _ rfl;rw[Nat.add_zero,show ((Kd.slice 3 (Kd.int .i64))).sz=1 from rfl,Nat.mul_one] at hv221_0;replace hv221_0:=Option.some.inj (hv221_0.symm.trans hx221_0);injection hv221_0 with hva_ hvn_ hvc_
            rw[hva_] at ge221_0;rw[hvc_] at ul221_0;have HL221_0:=am' (show Kd.V (Kd.int .i64) 3 _ w.heap.size _ _ (rd_L1 x8_16 x42_3) from Kd.V_mk ul221_0 ge221_0);clear hva_ hvn_ hvc_ ge221_0 ul221_0;clear hcc221 hce221;have HR221_0:=am' hi221_0;have HC221_0:=am' hl221_0;clear hi221_0 hl221_0;replace p221:=eq_true p221;replace q221:=eq_true q221;have hnb46:=NB203_204.out;have hnc46:=NB204_203.out;have hcz47_0:wr.cell? ⟨gb203,0,none⟩=some (.int .i64 a0_0):=(blk_cell BK203.out 0).trans rfl;have hcz47_1:wr.cell? ⟨gb203,1,none⟩=some (.slice A0_1 l0_1.length c0_1):=(blk_cell BK203.out 1).trans rfl;have hcz47_2:wr.cell? ⟨gb203,2,none⟩=some (.int .i64 a0_2):=(blk_cell BK203.out 2).trans rfl;have hfz47_0:=blk_frozen BK203.out 0;have hfz47_1:=blk_frozen BK203.out 1;have hfz47_2:=blk_frozen BK203.out 2;have hcz48_0:wr.cell? ⟨gb204,0,none⟩=some (.slice A1_0 l1_0.length c1_0):=(blk_cell BK204.out 0).trans rfl;have hcz48_1:wr.cell? ⟨gb204,1,none⟩=some (.bool a1_1):=(blk_cell BK204.out 1).trans rfl;have hfz48_0:=blk_frozen BK204.out 0;have hfz48_1:=blk_frozen BK204.out 1;go_wp2_with (first|((with_reducible refine gate_callee (f:=75) rfl ?_);refine goesL_ (some 49) rfl rfl Try.func75 (by kernel_rfl) rfl #[.agg #[.int .i64 a0_0, .slice A0_1 l0_1.length c0_1, .int .i64 a0_2], .agg #[.slice A1_0 l1_0.length c1_0, .bool a1_1], .slice A221_0 (rd_L1 x8_16 x42_3).length c221_0] rfl (by (try simp only[List.map_toArray,List.map_cons,List.map_nil]);first|done|rfl|(simp only[List.length_drop,List.length_take];rfl)) ?_;(with_reducible refine (spec_keCan.calls k3 a0_0 _ _ l0_1 a0_2 _ _ l1_0 a1_1 _ _ (rd_L1 x8_16 x42_3) false _ ?side1 ?side2 ?side3 ?side4 ?side5 ?side6 A38.out).mono ?_);(case side1=>repeat (first|exact (Kd.C_below HR0_1.out HB.out)|(with_reducible refine ca' ?_ _)|(with_reducible refine cn' ?_ _)|(with_reducible refine cd' ?_)));(case side2=>exact HC0_1.out);(case side3=>repeat (first|exact (Kd.C_below HR1_0.out HB.out)|(with_reducible refine ca' ?_ _)|(with_reducible refine cn' ?_ _)|(with_reducible refine cd' ?_)));(case side4=>exact HC1_0.out);(case side5=>repeat (first|exact (by repeat (first|(with_reducible exact HR221_0.out)|(with_reducible refine ca' ?_ _)|(with_reducible refine cn' ?_ _)|(with_reducible refine cd' ?_)|exact HR221_0.out))|(with_reducible refine ca' ?_ _)|(with_reducible refine cn' ?_ _)|(with_reducible refine cd' ?_)));(case side6=>exact HC221_0.out);rintro e w49 ⟨rfl,hb⟩;refine ⟨_,rfl,?_⟩;have n0_:=am' (Kd.N_below (by (with_reducible repeat (first|apply Kd.N_alloc|apply Kd.N_drewN|apply Kd.N_drew));exact HO_9.out) hb);have n1_:=am' (Kd.N_below (by (with_reducible repeat (first|apply Kd.N_alloc|apply Kd.N_drewN|apply Kd.N_drew));exact HO_40.out) hb);have n2_:=am' (Kd.V_below (by (with_reducible repeat (first|apply Kd.V_alloc|apply Kd.V_drewN|apply Kd.V_drew));exact HL221_0.out) hb);have n3_:=am' (blk_below (g:=gb203) (o := .cells #[.int .i64 a0_0, .slice A0_1 l0_1.length c0_1, .int .i64 a0_2] 32 (0,0)) (by (with_reducible repeat (first|refine kn' ?_ _|refine kd' ?_|refine ka' ?_ _));exact BK203.out) hb);have n4_:=am' (blk_below (g:=gb204) (o := .cells #[.slice A1_0 l1_0.length c1_0, .bool a1_1] 34 (0,0)) (by (with_reducible repeat (first|refine kn' ?_ _|refine kd' ?_|refine ka' ?_ _));exact BK204.out) hb);have n5_:=am' (Kd.C_below (by repeat (first|(with_reducible exact HR221_0.out)|(with_reducible refine ca' ?_ _)|(with_reducible refine cn' ?_ _)|(with_reducible refine cd' ?_)|exact HR221_0.out)) hb);have n6_:=am' (below_step (by repeat (first|(with_reducible first|exact HB.out|apply ba'|apply bd'|apply be'|refine bs' ?_ GE203.out|refine bs' ?_ GE204.out)|exact HB.out)) hb);clear HO_9;clear HO_40;clear HL221_0;clear BK203;clear BK204;clear HR221_0;clear HB;have HO_9:=n0_;have HO_40:=n1_;have HL221_0:=n2_;have BK203:=n3_;have BK204:=n4_;have HR221_0:=n5_;have HB:=n6_;clear n0_ n1_ n2_ n3_ n4_ n5_ n6_;(try clear hb);(try clear hb2);(try clear hk);(try clear hi)))
            go_roundg k3
            case measure=>have:=HK1.out;have:=HJ16.out;have:=HK3.out;omega
            case rel=>exact ⟨(x9_3),(wrap64 (x42_3+1)),(by first|rfl|(simp;done)|(simp[*];done)),H',⟨by have:=HK1.out;have:=HJ16.out;have:=HK3.out;omega⟩,⟨by (with_reducible repeat (first|apply Kd.N_alloc|apply Kd.N_drewN|apply Kd.N_drew));exact HO_9.out⟩,⟨by (with_reducible repeat (first|apply Kd.N_alloc|apply Kd.N_drewN|apply Kd.N_drew));exact HO_40.out⟩,⟨by (with_reducible repeat (first|refine kn' ?_ _|refine kd' ?_|refine ka' ?_ _));exact BK203.out⟩,⟨by (with_reducible repeat (first|refine kn' ?_ _|refine kd' ?_|refine ka' ?_ _));exact BK204.out⟩,⟨by repeat (first|(with_reducible first|exact HB.out|apply ba'|apply bd'|apply be'|refine bs' ?_ GE203.out|refine bs' ?_ GE204.out)|exact HB.out)⟩⟩
          ·
           rw[if_neg c37] at H;exact absurd H (by simp)
         ·
          rw[if_neg c36] at H;exact absurd H (by simp)
        ·
         rw[if_neg c35] at H;have c35b0:decide (x42_3 < (x8_16.length:Int))=false:=decide_eq_false c35;clear c35;obtain rfl:=Option.some.inj H;go_wp2;go_ret
         exact ⟨_,by first|rfl|(simp[errW_none,errW_some] <;> rfl)|(simp[*,errW_none,errW_some] <;> rfl),by (with_reducible repeat (first|apply Kd.N_alloc|apply Kd.N_drewN|apply Kd.N_drew));exact Kd.N_mono HO_9.out (fun _ hk=>hk.1),by repeat (first|(with_reducible first|exact HB.out|apply ba'|apply bd'|apply be'|refine bs' ?_ GE203.out|refine bs' ?_ GE204.out)|exact HB.out)⟩
def spec_keBefore.f (l0:List Int) (l1:List Int):Option (Bool):=if 0 < (l0.length:Int) then (if 0 < (l1.length:Int) then (if (rd l0 0) < (rd l1 0) then (some true) else (if (rd l0 0)=(rd l1 0) then (if 1 < (l0.length:Int) then (if 1 < (l1.length:Int) then (some (decide ((rd l0 1) < (rd l1 1)))) else (none)) else (none)) else (some false))) else (none)) else (none)
set_option maxHeartbeats 8000000 in
set_option maxRecDepth 100000 in
theorem spec_keBefore.calls (A0:Option Addr) (c0:Nat) (l0:List Int) (A1:Option Addr) (c1:Nat) (l1:List Int) (r:Bool) (w:World) (hr0:Kd.C (Kd.int .i64) w A0 l0.length l0) (hc0:l0.length≤c0) (hr1:Kd.C (Kd.int .i64) w A1 l1.length l1) (hc1:l1.length≤c1) (h:spec_keBefore.f l0 l1=some r) :
  Calls Try.prog 96 #[.slice A0 l0.length c0, .slice A1 l1.length c1] w fun e w'=>e = .returned (.bool r)∧Drawn0 w w':=by
 have HR0:=am' hr0
 have HC0:=am' hc0
 clear hr0 hc0;have HR1:=am' hr1
 have HC1:=am' hc1
 clear hr1 hc1;have H:(if 0 < (l0.length:Int) then (if 0 < (l1.length:Int) then (if (rd l0 0) < (rd l1 0) then (some true) else (if (rd l0 0)=(rd l1 0) then (if 1 < (l0.length:Int) then (if 1 < (l1.length:Int) then (some (decide ((rd l0 1) < (rd l1 1)))) else (none)) else (none)) else (some false))) else (none)) else (none))=some r:=h
 clear h;by_cases c3:0 < (l0.length:Int)
 ·
  rw[if_pos c3] at H;have c3b0:decide (0 < (l0.length:Int))=true:=decide_eq_true c3;have c3b1:decide (0 < l0.length)=true:=decide_eq_true (by omega);clear c3;by_cases c4:0 < (l1.length:Int)
  ·
   rw[if_pos c4] at H;have c4b0:decide (0 < (l1.length:Int))=true:=decide_eq_true c4;have c4b1:decide (0 < l1.length)=true:=decide_eq_true (by omega);clear c4;by_cases c5:(rd l0 0) < (rd l1 0)
   ·
    rw[if_pos c5] at H;have c5b0:decide ((rd l0 0) < (rd l1 0))=true:=decide_eq_true c5;clear c5;obtain rfl:=Option.some.inj H;have p226:0≤(0:Int):=(by omega)
    have q226:0 < (l0.length:Int):=of_decide_eq_true (by first|(with_reducible assumption)|assumption);obtain ⟨ad226,e226,hx226_0⟩:=Kd.at_int HR0.out 0 p226 q226;cases e226;have qi226:(0 < l0.length)=True:=eq_true (by omega)
    (try rw [show ((0:Int)).toNat=0 from rfl] at hx226_0)
    (try rw [Addr.add_zero'] at hx226_0)
    replace p226:=eq_true p226;replace q226:=eq_true q226;have p227:0≤(0:Int):=(by omega)
    have q227:0 < (l1.length:Int):=of_decide_eq_true (by first|(with_reducible assumption)|assumption);obtain ⟨ad227,e227,hx227_0⟩:=Kd.at_int HR1.out 0 p227 q227;cases e227;have qi227:(0 < l1.length)=True:=eq_true (by omega)
    (try rw [show ((0:Int)).toNat=0 from rfl] at hx227_0)
    (try rw [Addr.add_zero'] at hx227_0)
    replace p227:=eq_true p227;replace q227:=eq_true q227;go_enter Try.func96,Try.ntmps96;go_wp2
    repeat (go_quiet (fail);try go_wp2)
    go_ret
    exact ⟨by first|rfl|(simp;done)|(simp[*];done),by repeat (first|exact Drawn0.refl _|apply Drawn0.step)⟩
   ·
    rw[if_neg c5] at H;have c5b0:decide ((rd l0 0) < (rd l1 0))=false:=decide_eq_false c5;clear c5;by_cases c6:(rd l0 0)=(rd l1 0)
    ·
     rw[if_pos c6] at H;have c6b0:((rd l0 0) == (rd l1 0))=true:=beq_iff_eq.mpr c6;have c6b1:((rd l0 0) != (rd l1 0))=false:=bne_eq_false_iff_eq.mpr c6;clear c6;by_cases c7:1 < (l0.length:Int)
     ·
      rw[if_pos c7] at H;have c7b0:decide (1 < (l0.length:Int))=true:=decide_eq_true c7;have c7b1:decide (1 < l0.length)=true:=decide_eq_true (by omega);clear c7;by_cases c8:1 < (l1.length:Int)
      ·
       rw[if_pos c8] at H;have c8b0:decide (1 < (l1.length:Int))=true:=decide_eq_true c8;have c8b1:decide (1 < l1.length)=true:=decide_eq_true (by omega);clear c8;obtain rfl:=Option.some.inj H;have p226:0≤(0:Int):=(by omega)
       have q226:0 < (l0.length:Int):=of_decide_eq_true (by first|(with_reducible assumption)|assumption);obtain ⟨ad226,e226,hx226_0⟩:=Kd.at_int HR0.out 0 p226 q226;cases e226;have qi226:(0 < l0.length)=True:=eq_true (by omega)
       (try rw [show ((0:Int)).toNat=0 from rfl] at hx226_0)
       (try rw [Addr.add_zero'] at hx226_0)
       replace p226:=eq_true p226;replace q226:=eq_true q226;have p227:0≤(0:Int):=(by omega)
       have q227:0 < (l1.length:Int):=of_decide_eq_true (by first|(with_reducible assumption)|assumption);obtain ⟨ad227,e227,hx227_0⟩:=Kd.at_int HR1.out 0 p227 q227;cases e227;have qi227:(0 < l1.length)=True:=eq_true (by omega)
       (try rw [show ((0:Int)).toNat=0 from rfl] at hx227_0)
       (try rw [Addr.add_zero'] at hx227_0)
       replace p227:=eq_true p227;replace q227:=eq_true q227;have p228:0≤(0:Int):=(by omega)
       have q228:0 < (l0.length:Int):=of_decide_eq_true (by first|(with_reducible assumption)|assumption);obtain ⟨ad228,e228,hx228_0⟩:=Kd.at_int HR0.out 0 p228 q228;obtain rfl:ad226=ad228:=(by injection e228)
       have qi228:(0 < l0.length)=True:=eq_true (by omega)
       (try rw [show ((0:Int)).toNat=0 from rfl] at hx228_0)
       (try rw [Addr.add_zero'] at hx228_0)
       replace p228:=eq_true p228;replace q228:=eq_true q228;have p229:0≤(0:Int):=(by omega)
       have q229:0 < (l1.length:Int):=of_decide_eq_true (by first|(with_reducible assumption)|assumption);obtain ⟨ad229,e229,hx229_0⟩:=Kd.at_int HR1.out 0 p229 q229;obtain rfl:ad227=ad229:=(by injection e229)
       have qi229:(0 < l1.length)=True:=eq_true (by omega)
       (try rw [show ((0:Int)).toNat=0 from rfl] at hx229_0)
       (try rw [Addr.add_zero'] at hx229_0)
       replace p229:=eq_true p229;replace q229:=eq_true q229;have p230:0≤(1:Int):=(by omega)
       have q230:1 < (l0.length:Int):=of_decide_eq_true (by first|(with_reducible assumption)|assumption);obtain ⟨ad230,e230,hx230_0⟩:=Kd.at_int HR0.out 1 p230 q230;obtain rfl:ad226=ad230:=(by injection e230)
       (try simp only[show (1:Int).toNat=1 from rfl,Nat.reduceMul,Nat.reduceEqDiff,Go.Addr.add,↓reduceIte] at hx230_0)
       have qi230:(1 < l0.length)=True:=eq_true (by omega)
       (try rw [show ((1:Int)).toNat=1 from rfl] at hx230_0)
       replace p230:=eq_true p230;replace q230:=eq_true q230;have p231:0≤(1:Int):=(by omega)
       have q231:1 < (l1.length:Int):=of_decide_eq_true (by first|(with_reducible assumption)|assumption);obtain ⟨ad231,e231,hx231_0⟩:=Kd.at_int HR1.out 1 p231 q231;obtain rfl:ad227=ad231:=(by injection e231)
       (try simp only[show (1:Int).toNat=1 from rfl,Nat.reduceMul,Nat.reduceEqDiff,Go.Addr.add,↓reduceIte] at hx231_0)
       have qi231:(1 < l1.length)=True:=eq_true (by omega)
       (try rw [show ((1:Int)).toNat=1 from rfl] at hx231_0)
       replace p231:=eq_true p231;replace q231:=eq_true q231;go_enter Try.func96,Try.ntmps96;go_wp2
       repeat (go_quiet (fail);try go_wp2)
       go_ret
       exact ⟨by first|rfl|(simp;done)|(simp[*];done),by repeat (first|exact Drawn0.refl _|apply Drawn0.step)⟩
      ·
       rw[if_neg c8] at H;exact absurd H (by simp)
     ·
      rw[if_neg c7] at H;exact absurd H (by simp)
    ·
     rw[if_neg c6] at H;have c6b0:((rd l0 0) == (rd l1 0))=false:=beq_eq_false_iff_ne.mpr c6;have c6b1:((rd l0 0) != (rd l1 0))=true:=bne_iff_ne.mpr c6;obtain rfl:=Option.some.inj H;have p226:0≤(0:Int):=(by omega)
     have q226:0 < (l0.length:Int):=of_decide_eq_true (by first|(with_reducible assumption)|assumption);obtain ⟨ad226,e226,hx226_0⟩:=Kd.at_int HR0.out 0 p226 q226;cases e226;have qi226:(0 < l0.length)=True:=eq_true (by omega)
     (try rw [show ((0:Int)).toNat=0 from rfl] at hx226_0)
     (try rw [Addr.add_zero'] at hx226_0)
     replace p226:=eq_true p226;replace q226:=eq_true q226;have p227:0≤(0:Int):=(by omega)
     have q227:0 < (l1.length:Int):=of_decide_eq_true (by first|(with_reducible assumption)|assumption);obtain ⟨ad227,e227,hx227_0⟩:=Kd.at_int HR1.out 0 p227 q227;cases e227;have qi227:(0 < l1.length)=True:=eq_true (by omega)
     (try rw [show ((0:Int)).toNat=0 from rfl] at hx227_0)
     (try rw [Addr.add_zero'] at hx227_0)
     replace p227:=eq_true p227;replace q227:=eq_true q227;have p228:0≤(0:Int):=(by omega)
     have q228:0 < (l0.length:Int):=of_decide_eq_true (by first|(with_reducible assumption)|assumption);obtain ⟨ad228,e228,hx228_0⟩:=Kd.at_int HR0.out 0 p228 q228;obtain rfl:ad226=ad228:=(by injection e228)
     have qi228:(0 < l0.length)=True:=eq_true (by omega)
     (try rw [show ((0:Int)).toNat=0 from rfl] at hx228_0)
     (try rw [Addr.add_zero'] at hx228_0)
     replace p228:=eq_true p228;replace q228:=eq_true q228;have p229:0≤(0:Int):=(by omega)
     have q229:0 < (l1.length:Int):=of_decide_eq_true (by first|(with_reducible assumption)|assumption);obtain ⟨ad229,e229,hx229_0⟩:=Kd.at_int HR1.out 0 p229 q229;obtain rfl:ad227=ad229:=(by injection e229)
     have qi229:(0 < l1.length)=True:=eq_true (by omega)
     (try rw [show ((0:Int)).toNat=0 from rfl] at hx229_0)
     (try rw [Addr.add_zero'] at hx229_0)
     replace p229:=eq_true p229;replace q229:=eq_true q229;go_enter Try.func96,Try.ntmps96;go_wp2
     repeat (go_quiet (fail);try go_wp2)
     go_ret
     exact ⟨by first|rfl|(simp;done)|(simp[*];done),by repeat (first|exact Drawn0.refl _|apply Drawn0.step)⟩
  ·
   rw[if_neg c4] at H;exact absurd H (by simp)
 ·
  rw[if_neg c3] at H;exact absurd H (by simp)
end Go.Proofs.Ytmfofjloklafoaa.C3
