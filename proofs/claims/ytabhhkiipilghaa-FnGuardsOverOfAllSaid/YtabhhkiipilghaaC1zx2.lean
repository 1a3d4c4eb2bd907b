import Derived.Test.YtabhhkiipilghaaC1zx0
import Derived.Test.YtabhhkiipilghaaC1zx1
import Derived.Test.YtabhhkiipilghaaC1zAl
namespace Go.Proofs.Ytabhhkiipilghaa.C1
open Go.RowKit Go.Proofs.YtabhhkiipilghaaW.PrintWords Go.Proofs.YtabhhkiipilghaaW.PrintLast Go.Proofs.YtabhhkiipilghaaW.PrintMore Go.Proofs.Ytabhhkiipilghaa.H
attribute [local go_sem] max2_int min2_int max_two min_two max_three min_three max_four min_four
set_option linter.unusedVariables false
set_option linter.unusedSimpArgs false
theorem nx {k:Nat} (h:k < 9223372036854775807):Value.int .i64 (wrap64 ((k:Int)+1))=Value.int .i64 ((k+1:Nat):Int):=by rw[wr_id (by omega) (by omega)];rfl
theorem nx2 {k:Nat} (h:k < 9223372036854775807):Value.int .i64 (IntKind.i64.wrap ((k:Int)+1))=Value.int .i64 ((k+1:Nat):Int):=by rw[i64_w];exact nx h
theorem R_two {w:World} {b base:Nat} {x y:Int} {e:Nat} (h:w.heap[b]? = some (.cells #[.int .i64 x, .int .i64 y] e (0,0))) (hB:base≤b):(Kd.int .i64).R e w base (fun k=>k=b) (.slice (some ⟨b,0,none⟩) 2 2) [x,y]:=by
 refine Kd.R_of_own ?_ (fun k hk=>by have:=os' (show some _=some _ from hk);exact this.symm)
 exact ⟨by simp[encs], .inr ⟨b,2,_,rfl,hB,h,Nat.le_refl _,by decide,by simp,by simp[encs]⟩⟩
def fineB (x y:Int):Bool:=decide (x=0) || decide (x ≥ y)
def inI (x lo hi:Int):Bool:=decide (lo≤x) && decide (x≤hi)
def gC (boat a x:Int):Int:=if boat=1 then a - x else a+x
def gOk (G C c d x y:Int):Bool:=decide (0 < x+y) && (inI c 0 G && (inI d 0 C && (fineB x y && (fineB c d && fineB (G - c) (C - d)))))
def gEdge (G C a b boat x y:Int):List Edg :=
 if gOk G C (gC boat a x) (gC boat b y) x y=true then [(2 * (gC boat a x * 9+gC boat b y)+1 - boat,1,[x,y])] else []
def gYs (G C a b boat x:Int):Nat→Int→List Edg
 | 0,_=>[]
 | n+1,y=>gEdge G C a b boat x y ++ gYs G C a b boat x n (y+1)
def gXs (G C S a b boat:Int):Nat→Int→List Edg
 | 0,_=>[]
 | n+1,x=>gYs G C a b boat x (S+1 - x).toNat 0 ++ gXs G C S a b boat n (x+1)
def gOut (G C S s:Int):Option (List Edg):=if 0≤s∧s < 162 then some (gXs G C S (s / 2 / 9) (s / 2 % 9) (s % 2) (S+1).toNat 0) else none
theorem gC_val {bt a x:Int} (ha:0≤a∧a≤8) (hx:0≤x∧x≤4):(bt=0→wrap64 (a+x)=gC bt a x)∧(bt=1→wrap64 (a - x)=gC bt a x) ∧ -4≤gC bt a x∧gC bt a x≤12:=by
 unfold gC
 refine ⟨fun h=>?_,fun h=>?_,?_⟩
 ·
  rw[if_neg (by omega)];exact wr_id (by omega) (by omega)
 ·
  rw[if_pos h];exact wr_id (by omega) (by omega)
 ·
  split <;> omega
theorem gTo_val {bt c d:Int} (hbt:bt=0∨bt=1) (hc : -4≤c∧c≤12) (hd : -4≤d∧d≤12):∃ t1 t2 t3 t4 tv,wrap64 (c * 9)=t1∧wrap64 (t1+d)=t2∧wrap64 (2 * t2)=t3∧wrap64 (t3+1)=t4∧(bt=0→wrap64 t4=tv)∧(bt=1→wrap64 (t4 - 1)=tv)∧tv=2 * (c * 9+d)+1 - bt:=by
 refine ⟨c * 9,c * 9+d,2 * (c * 9+d),2 * (c * 9+d)+1,_,wr_id (by omega) (by omega),wr_id (by omega) (by omega),wr_id (by omega) (by omega),wr_id (by omega) (by omega),fun h=>?_,fun h=>?_,rfl⟩
 ·
  rw[wr_id (by omega) (by omega)];omega
 ·
  rw[wr_id (by omega) (by omega)];omega
theorem in_val (x lo hi:Int):impl_in.f x lo hi=some (inI x lo hi):=by
 unfold impl_in.f inI
 by_cases h:lo≤x
 ·
  rw[if_pos h,dt' h];rfl
 ·
  rw[if_neg h,df' h];rfl
theorem isFine_val (x y:Int):impl_isFine.f x y=some (fineB x y):=by
 unfold impl_isFine.f fineB
 by_cases h:x=0
 ·
  rw[if_pos h,dt' h];rfl
 ·
  rw[if_neg h,df' h];rfl
theorem bothFine_val (G C S c d:Int) (hc : -100≤G - c∧G - c≤100) (hd : -100≤C - d∧C - d≤100):impl_guarded_bothFine.f G C S c d=some (fineB c d && fineB (G - c) (C - d)):=by
 unfold impl_guarded_bothFine.f
 rw[isFine_val,Option.bind_some,wr_id (by omega) (by omega),wr_id (by omega) (by omega),isFine_val,Option.bind_some]
 cases fineB c d <;> simp
set_option maxHeartbeats 8000000 in
set_option maxRecDepth 100000 in
theorem guarded_out (G C:Int) (S:Nat) (hG:0≤G∧G≤8) (hC:0≤C∧C≤8) (hS:1≤S∧S≤4) (W0:World) (pg:Nat) (hb:W0.heap[pg]? = some (.cells #[.int .i64 G, .int .i64 C, .int .i64 (S:Int)] 52 (0,0))):OutOk 79 #[.pointer (some ⟨pg,0,none⟩)] (gOut G C (S:Int)) W0:=by
 intro W hW s es hs;have hu:=Try.underlying52
 have hue:=Try.underlying81
 have hinfoE:=am' (show (Try.prog.info? 81).map (fun i=>(i.zero,i.size,i.bytes))=some (some (.agg #[.int .i64 0, .int .i64 0, .slice none 0 0]),3,40) by kernel_rfl)
 unfold gOut at hs
 by_cases h:0≤s∧s < 162
 ·
  rw[if_pos h] at hs;have HSS:=am' (os' hs);have HBX:=am' (bb' hb hW);have HG:=am' hG;have HC:=am' hC;have HSN:=am' hS;clear hs hb hW hG hC hS;have hpl:=blk_lt HBX.out;have HPL:=am' hpl;clear hpl;go_enter Try.func79,Try.ntmps79;go_wp2_with fail;have ha:0≤s / 2 / 9∧s / 2 / 9≤8:=by omega
  have hb:0≤s / 2 % 9∧s / 2 % 9≤8:=by omega
  have hbt:s % 2=0∨s % 2=1:=by omega
  have HH:=am' h;clear h;generalize s / 2 / 9=a at ha HSS ⊢
  generalize s / 2 % 9=b at hb HSS ⊢
  generalize s % 2=bt at hbt HSS ⊢
  have HA:=am' ha;have HB:=am' hb;clear ha hb;have HW:=am' (ba' (Below.refl W.heap.size W) (.cells #[] 81));have HS0:=am' (show Kd.S EdgK 81 (W.alloc (.cells #[] 81)) W.heap.size (fun _=>True) (.slice (some ⟨W.heap.size,0,none⟩) 0 0) [] from S_empty EdgK (heap_alloc_new W _) (Nat.le_refl _) trivial);have HBX1:=am' (bb' HBX.out HW.out);generalize W.alloc (.cells #[] 81)=W1 at HW HS0 HBX1 ⊢
  have HSN1:(((S:Int)+1).toNat)=S+1:=by omega
  rw[HSN1] at HSS;clear HSN1;rcases hbt with rfl|rfl
  ·
   go_loopg [7,8] (S+1) (fun gg v7 v8 wr=>∃ (x:Nat) (acc:List Edg) (Ao:Option Addr) (co:Nat),v7 = .slice Ao acc.length co∧v8 = .int .i64 (x:Int)∧Aside0 (x≤S+1)∧Aside0 (S+1 - x≤gg)∧Aside0 (acc ++ gXs G C (S:Int) a b 0  (S+1 - x) (x:Int)=es)∧Aside0 (acc.length≤5 * x)∧Aside0 (Kd.S EdgK 81 wr W.heap.size (fun _=>True) (.slice Ao acc.length co) acc)∧Aside0 (Below W.heap.size W wr))
   case atStart=>exact ⟨0,[],_,_,rfl,rfl,⟨Nat.zero_le _⟩,⟨Nat.le_refl _⟩,HSS,⟨Nat.zero_le _⟩,HS0,HW⟩
   case round =>
    obtain ⟨x,acc,Ao,co,rfl,rfl,HX,HGG,HE,HLA,HSA,HWR⟩:=hrel;clear HS0 HSS HBX1;have HBX2:=am' (bb' HBX.out HWR.out);have xs:wr.cell? ⟨pg,2,none⟩=some (.int .i64 (S:Int)):=(bc' HBX2.out 2).trans rfl;by_cases hx:x≤S
    ·
     have hxz:(x:Int)≤(S:Int):=by omega
     have hxzd:=dt' hxz;have hE:=HE.out;rw[show S+1 - x=(S - x)+1 by omega,gXs,show (((S:Int)+1 - (x:Int)).toNat)=S+1 - x by omega] at hE;have HE2:=am' hE;have HXL:=am' hx;clear hE HE hx;go_wp2;go_loopg [7,9] (S+1 - x) (fun gg v7 v9 wr=>∃ (y:Nat) (acc:List Edg) (Ao:Option Addr) (co:Nat),v7 = .slice Ao acc.length co∧v9 = .int .i64 (y:Int)∧Aside0 (y≤S+1 - x)∧Aside0 (S+1 - x - y≤gg)∧Aside0 (acc ++ (gYs G C a b 0  (x:Int) (S+1 - x - y) (y:Int) ++ gXs G C (S:Int) a b 0  (S - x) ((x:Int)+1))=es)∧Aside0 (acc.length≤5 * x+y)∧Aside0 (Kd.S EdgK 81 wr W.heap.size (fun _=>True) (.slice Ao acc.length co) acc)∧Aside0 (Below W.heap.size W wr))
     case atStart=>exact ⟨0,acc,_,_,rfl,rfl,⟨Nat.zero_le _⟩,⟨by omega⟩,HE2,HLA,HSA,HWR⟩
     case round =>
      clear HE2 HLA HSA HWR xs HBX2;obtain ⟨y,acc,Ao,co,rfl,rfl,HY,HGY,HE,HLA,HSA,HWR⟩:=hrel;have HBX2:=am' (bb' HBX.out HWR.out);have xs:wr.cell? ⟨pg,2,none⟩=some (.int .i64 (S:Int)):=(bc' HBX2.out 2).trans rfl;have hxy:wrap64 ((x:Int)+(y:Int))=(x:Int)+(y:Int):=wr_id (by omega) (by have:=HXL.out;have:=HY.out;have:=HSN.out;omega);by_cases hy:x+y≤S
      ·
       have hyz:(x:Int)+(y:Int)≤(S:Int):=by omega
       have hyzd:=dt' hyz;have HYL:=am' hy;have hE:=HE.out;rw[show S+1 - x - y=(S+1 - x - (y+1))+1 by omega,gYs,gEdge] at hE;have hxb:0≤(x:Int)∧(x:Int)≤4:=by have:=HSN.out;omega
       have hyb:0≤(y:Int)∧(y:Int)≤4:=by have:=HSN.out;omega
       have HCV:=gC_val (bt:=0) HA.out hxb;have HDV:=gC_val (bt:=0) HB.out hyb;generalize hgc:gC 0  a (x:Int)=c at hE HCV
       generalize hgd:gC 0  b (y:Int)=d at hE HDV
       clear hgc hgd hy hyz HE;have hp1:=HCV.1 rfl;have hp2:=HDV.1 rfl;obtain ⟨t1,t2,t3,t4,tv,hw1,hw2,hw3,hw4,hw5,hw6,htv⟩:=gTo_val (bt:=0) (by omega) HCV.2.2 HDV.2.2;rw[← htv] at hE;have hwv:=hw5 rfl;have HCB:=am' HCV.2.2;have HDB:=am' HDV.2.2;have HI1:=am' (in_val c 0 G);have HI2:=am' (in_val d 0 C);have HI3:=am' (isFine_val (x:Int) (y:Int));have HI4:=am' (bothFine_val G C (S:Int) c d (by have:=HG.out;omega) (by have:=HC.out;omega));have hgo:gOk G C c d (x:Int) (y:Int)=(decide (0 < (x:Int)+(y:Int)) && (inI c 0 G && (inI d 0 C && (fineB (x:Int) (y:Int) && (fineB c d && fineB (G - c) (C - d)))))):=rfl;rw[hgo] at hE;have x0:wr.cell? ⟨pg,0,none⟩=some (.int .i64 G):=(bc' HBX2.out 0).trans rfl;have x1:wr.cell? ⟨pg,1,none⟩=some (.int .i64 C):=(bc' HBX2.out 1).trans rfl;clear HCV HDV hw5 hw6 htv hgo hxb hyb;generalize (fineB c d && fineB (G - c) (C - d))=r4 at HI4 hE
       generalize inI c 0 G=r1 at HI1 hE
       generalize inI d 0 C=r2 at HI2 hE
       generalize fineB (x:Int) (y:Int)=r3 at HI3 hE
       by_cases hp:0 < (x:Int)+(y:Int)
       ·
        have hpd:=dt' hp;rw[hpd,Bool.true_and] at hE;cases r1 with
        | false =>
         rw[Bool.false_and,if_neg (by decide),List.nil_append] at hE;have HE:=am' hE;clear hE;go_wp2_with (first|(go_at_call 47;(with_reducible refine (impl_in.calls c 0 G _ _ HI1.out).mono ?_);rintro e w' ⟨rfl,⟨nd,rfl⟩⟩)|(go_at_call 47;(with_reducible refine (impl_in.calls d 0 C _ _ HI2.out).mono ?_);rintro e w' ⟨rfl,⟨nd,rfl⟩⟩)|(go_at_call 63;(with_reducible refine (impl_isFine.calls (x:Int) (y:Int) _ _ HI3.out).mono ?_);rintro e w' ⟨rfl,⟨nd,rfl⟩⟩)|(go_at_call 37;(with_reducible refine (impl_guarded_bothFine.calls G C (S:Int) c d _ _ HI4.out).mono ?_);rintro e w2 ⟨rfl,hb2⟩;have HB2:=am' (show Below wr.heap.size wr w2 from bt' (bd' (Below.refl _ _) _) hb2);clear hb2));go_roundg (S+1 - x - (y+1))
         case measure=>have h1:=HGY.out;have h2:=HYL.out;omega
         case rel=>exact ⟨y+1,acc,Ao,co,rfl,by have h2:=HYL.out;have h3:=HSN.out;first|exact nx (by omega)|exact nx2 (by omega)|exact rfl,⟨by have h2:=HYL.out;omega⟩,⟨Nat.le_refl _⟩,HE,⟨by have h3:=HLA.out;omega⟩,⟨by first|exact Kd.S_below HSA.out HB2.out|exact Kd.S_below HSA.out (bd' (Below.refl _ _) _)|exact Kd.S_below HSA.out (bd' (bd' (Below.refl _ _) _) _)|exact HSA.out⟩,⟨by first|exact bt' HWR.out HB2.out|exact bd' HWR.out _|exact bd' (bd' HWR.out _) _|exact HWR.out⟩⟩
        | true =>
        rw[Bool.true_and] at hE;cases r2 with
        | false =>
         rw[Bool.false_and,if_neg (by decide),List.nil_append] at hE;have HE:=am' hE;clear hE;go_wp2_with (first|(go_at_call 47;(with_reducible refine (impl_in.calls c 0 G _ _ HI1.out).mono ?_);rintro e w' ⟨rfl,⟨nd,rfl⟩⟩)|(go_at_call 47;(with_reducible refine (impl_in.calls d 0 C _ _ HI2.out).mono ?_);rintro e w' ⟨rfl,⟨nd,rfl⟩⟩)|(go_at_call 63;(with_reducible refine (impl_isFine.calls (x:Int) (y:Int) _ _ HI3.out).mono ?_);rintro e w' ⟨rfl,⟨nd,rfl⟩⟩)|(go_at_call 37;(with_reducible refine (impl_guarded_bothFine.calls G C (S:Int) c d _ _ HI4.out).mono ?_);rintro e w2 ⟨rfl,hb2⟩;have HB2:=am' (show Below wr.heap.size wr w2 from bt' (bd' (Below.refl _ _) _) hb2);clear hb2));go_roundg (S+1 - x - (y+1))
         case measure=>have h1:=HGY.out;have h2:=HYL.out;omega
         case rel=>exact ⟨y+1,acc,Ao,co,rfl,by have h2:=HYL.out;have h3:=HSN.out;first|exact nx (by omega)|exact nx2 (by omega)|exact rfl,⟨by have h2:=HYL.out;omega⟩,⟨Nat.le_refl _⟩,HE,⟨by have h3:=HLA.out;omega⟩,⟨by first|exact Kd.S_below HSA.out HB2.out|exact Kd.S_below HSA.out (bd' (Below.refl _ _) _)|exact Kd.S_below HSA.out (bd' (bd' (Below.refl _ _) _) _)|exact HSA.out⟩,⟨by first|exact bt' HWR.out HB2.out|exact bd' HWR.out _|exact bd' (bd' HWR.out _) _|exact HWR.out⟩⟩
        | true =>
        rw[Bool.true_and] at hE;cases r3 with
        | false =>
         rw[Bool.false_and,if_neg (by decide),List.nil_append] at hE;have HE:=am' hE;clear hE;go_wp2_with (first|(go_at_call 47;(with_reducible refine (impl_in.calls c 0 G _ _ HI1.out).mono ?_);rintro e w' ⟨rfl,⟨nd,rfl⟩⟩)|(go_at_call 47;(with_reducible refine (impl_in.calls d 0 C _ _ HI2.out).mono ?_);rintro e w' ⟨rfl,⟨nd,rfl⟩⟩)|(go_at_call 63;(with_reducible refine (impl_isFine.calls (x:Int) (y:Int) _ _ HI3.out).mono ?_);rintro e w' ⟨rfl,⟨nd,rfl⟩⟩)|(go_at_call 37;(with_reducible refine (impl_guarded_bothFine.calls G C (S:Int) c d _ _ HI4.out).mono ?_);rintro e w2 ⟨rfl,hb2⟩;have HB2:=am' (show Below wr.heap.size wr w2 from bt' (bd' (Below.refl _ _) _) hb2);clear hb2));go_roundg (S+1 - x - (y+1))
         case measure=>have h1:=HGY.out;have h2:=HYL.out;omega
         case rel=>exact ⟨y+1,acc,Ao,co,rfl,by have h2:=HYL.out;have h3:=HSN.out;first|exact nx (by omega)|exact nx2 (by omega)|exact rfl,⟨by have h2:=HYL.out;omega⟩,⟨Nat.le_refl _⟩,HE,⟨by have h3:=HLA.out;omega⟩,⟨by first|exact Kd.S_below HSA.out HB2.out|exact Kd.S_below HSA.out (bd' (Below.refl _ _) _)|exact Kd.S_below HSA.out (bd' (bd' (Below.refl _ _) _) _)|exact HSA.out⟩,⟨by first|exact bt' HWR.out HB2.out|exact bd' HWR.out _|exact bd' (bd' HWR.out _) _|exact HWR.out⟩⟩
        | true =>
        rw[Bool.true_and] at hE;cases r4 with
        | false =>
         rw[if_neg (by decide),List.nil_append] at hE;have HE:=am' hE;clear hE;go_wp2_with (first|(go_at_call 47;(with_reducible refine (impl_in.calls c 0 G _ _ HI1.out).mono ?_);rintro e w' ⟨rfl,⟨nd,rfl⟩⟩)|(go_at_call 47;(with_reducible refine (impl_in.calls d 0 C _ _ HI2.out).mono ?_);rintro e w' ⟨rfl,⟨nd,rfl⟩⟩)|(go_at_call 63;(with_reducible refine (impl_isFine.calls (x:Int) (y:Int) _ _ HI3.out).mono ?_);rintro e w' ⟨rfl,⟨nd,rfl⟩⟩)|(go_at_call 37;(with_reducible refine (impl_guarded_bothFine.calls G C (S:Int) c d _ _ HI4.out).mono ?_);rintro e w2 ⟨rfl,hb2⟩;have HB2:=am' (show Below wr.heap.size wr w2 from bt' (bd' (Below.refl _ _) _) hb2);clear hb2));go_roundg (S+1 - x - (y+1))
         case measure=>have h1:=HGY.out;have h2:=HYL.out;omega
         case rel=>exact ⟨y+1,acc,Ao,co,rfl,by have h2:=HYL.out;have h3:=HSN.out;first|exact nx (by omega)|exact nx2 (by omega)|exact rfl,⟨by have h2:=HYL.out;omega⟩,⟨Nat.le_refl _⟩,HE,⟨by have h3:=HLA.out;omega⟩,⟨by first|exact Kd.S_below HSA.out HB2.out|exact Kd.S_below HSA.out (bd' (Below.refl _ _) _)|exact Kd.S_below HSA.out (bd' (bd' (Below.refl _ _) _) _)|exact HSA.out⟩,⟨by first|exact bt' HWR.out HB2.out|exact bd' HWR.out _|exact bd' (bd' HWR.out _) _|exact HWR.out⟩⟩
        | true =>
         rw[if_pos rfl] at hE;have HE:=am' hE;clear hE;go_wp2_with (first|(go_at_call 47;(with_reducible refine (impl_in.calls c 0 G _ _ HI1.out).mono ?_);rintro e w' ⟨rfl,⟨nd,rfl⟩⟩)|(go_at_call 47;(with_reducible refine (impl_in.calls d 0 C _ _ HI2.out).mono ?_);rintro e w' ⟨rfl,⟨nd,rfl⟩⟩)|(go_at_call 63;(with_reducible refine (impl_isFine.calls (x:Int) (y:Int) _ _ HI3.out).mono ?_);rintro e w' ⟨rfl,⟨nd,rfl⟩⟩)|(go_at_call 37;(with_reducible refine (impl_guarded_bothFine.calls G C (S:Int) c d _ _ HI4.out).mono ?_);rintro e w2 ⟨rfl,hb2⟩;have HB2:=am' (show Below wr.heap.size wr w2 from bt' (bd' (Below.refl _ _) _) hb2);clear hb2)|((with_reducible refine gate_builtin (b := .append) (xs:=#[.tmp 76, .tmp 89]) rfl ?_);at_builtin;refine Kd.S_append EdgK (w0:=W) W.heap.size rfl (.tmp 76) (.tmp 89) 82 81 (.agg #[.int .i64 0, .int .i64 0, .slice none 0 0]) 40 rfl Try.underlying82 hinfoE.out rfl (by decide) (by omega) (.slice Ao acc.length co) acc (tv,1,[(x:Int),(y:Int)]) [.int .i64 tv, .int .i64 1, .slice (some ⟨w2.heap.size,0,none⟩) 2 2] (fun _=>True) (fun k=>k=w2.heap.size) rfl (by rw[World.size_alloc];rfl) ?aP ?aK (fun _ _=>trivial) ?aO ?aB ?aS ?aL ?_;(case aP=>exact ⟨[.int .i64 tv],_,rfl,rfl,[.int .i64 1],_,rfl,rfl,_,rfl,R_two (heap_alloc_new w2 _) (Nat.le_trans HWR.out.size HB2.out.size)⟩);(case aK=>exact fun k hk=>⟨trivial,fun q=>by have h1:=Kd.S_lt HSA.out k q.symm;have h2:=HB2.out.size;omega⟩);(case aO=>exact Kd.S_mono (Kd.S_alloc (Kd.S_old HSA.out HB2.out) _) (fun k hk=>⟨trivial,fun q=>by have h2:=HB2.out.size;omega⟩));(case aB=>exact ba' (bt' HWR.out HB2.out) _);(case aS=>rw [World.size_alloc];have h1:=HWR.out.size;have h2:=HB2.out.size;omega);(case aL=>have h1:=HLA.out;have h2:=HSN.out;have h3:=HXL.out;have h4:=HYL.out;omega);intro v1 w1 ho hb hg hat;obtain ⟨A1,c1,e1⟩:=Kd.S_slice ho;rw[List.length_append,List.length_singleton] at e1;subst e1;have HO1:=am' (show Kd.S EdgK 81 w1 W.heap.size (fun _=>True) (.slice A1 (acc ++ [(tv,1,[(x:Int),(y:Int)])]).length c1) (acc ++ [(tv,1,[(x:Int),(y:Int)])]) by rw[List.length_append,List.length_singleton];exact ho);have HB1:=am' hb;clear ho hb hg hat));go_roundg (S+1 - x - (y+1))
         case measure=>have h1:=HGY.out;have h2:=HYL.out;omega
         case rel =>
          refine ⟨y+1,acc ++ [(tv,1,[(x:Int),(y:Int)])],A1,c1,by rw[List.length_append,List.length_singleton],by have h2:=HYL.out;have h3:=HSN.out;first|exact nx (by omega)|exact nx2 (by omega)|exact rfl,⟨by have h2:=HYL.out;omega⟩,⟨Nat.le_refl _⟩,⟨?_⟩,⟨?_⟩,HO1,HB1⟩
          ·
           have h3:=HE.out;rw[List.append_assoc] at h3;rw[List.append_assoc];exact h3
          ·
           have h3:=HLA.out;rw[List.length_append,List.length_singleton];omega
       ·
        have hpd:=df' hp;rw[hpd,Bool.false_and] at hE;rw[if_neg (by decide),List.nil_append] at hE;have HE:=am' hE;clear hE;go_wp2_with (first|(go_at_call 47;(with_reducible refine (impl_in.calls c 0 G _ _ HI1.out).mono ?_);rintro e w' ⟨rfl,⟨nd,rfl⟩⟩)|(go_at_call 47;(with_reducible refine (impl_in.calls d 0 C _ _ HI2.out).mono ?_);rintro e w' ⟨rfl,⟨nd,rfl⟩⟩)|(go_at_call 63;(with_reducible refine (impl_isFine.calls (x:Int) (y:Int) _ _ HI3.out).mono ?_);rintro e w' ⟨rfl,⟨nd,rfl⟩⟩)|(go_at_call 37;(with_reducible refine (impl_guarded_bothFine.calls G C (S:Int) c d _ _ HI4.out).mono ?_);rintro e w2 ⟨rfl,hb2⟩;have HB2:=am' (show Below wr.heap.size wr w2 from bt' (bd' (Below.refl _ _) _) hb2);clear hb2));go_roundg (S+1 - x - (y+1))
        case measure=>have h1:=HGY.out;have h2:=HYL.out;omega
        case rel=>exact ⟨y+1,acc,Ao,co,rfl,by have h2:=HYL.out;have h3:=HSN.out;first|exact nx (by omega)|exact nx2 (by omega)|exact rfl,⟨by have h2:=HYL.out;omega⟩,⟨Nat.le_refl _⟩,HE,⟨by have h3:=HLA.out;omega⟩,⟨by first|exact Kd.S_below HSA.out HB2.out|exact Kd.S_below HSA.out (bd' (Below.refl _ _) _)|exact Kd.S_below HSA.out (bd' (bd' (Below.refl _ _) _) _)|exact HSA.out⟩,⟨by first|exact bt' HWR.out HB2.out|exact bd' HWR.out _|exact bd' (bd' HWR.out _) _|exact HWR.out⟩⟩
      ·
       have hyz:¬ (x:Int)+(y:Int)≤(S:Int):=by omega
       have hyzd:=df' hyz;have hE:=HE.out;rw[show S+1 - x - y=0 by omega,gYs,List.nil_append] at hE;have HE:=am' hE;clear hE;go_wp2;go_roundg (S+1 - (x+1))
       case measure=>have h1:=HGG.out;have h2:=HXL.out;omega
       case rel =>
        refine ⟨x+1,acc,Ao,co,rfl,by have h2:=HXL.out;have h3:=HSN.out;first|exact nx (by omega)|exact nx2 (by omega)|exact rfl,⟨by have h2:=HXL.out;omega⟩,⟨Nat.le_refl _⟩,⟨?_⟩,⟨?_⟩,HSA,HWR⟩
        ·
         rw[show S+1 - (x+1)=S - x by omega];exact HE.out
        ·
         have h3:=HLA.out;have h4:=HY.out;have h5:=HSN.out;omega
    ·
     have hxz:¬ (x:Int)≤(S:Int):=by omega
     have hxzd:=df' hxz;have hE:=HE.out;rw[show S+1 - x=0 by omega,gXs,List.append_nil] at hE;subst hE;go_wp2;go_ret
     exact ⟨_,rfl,HSA.out,HWR.out⟩
  ·
   go_loopg [7,8] (S+1) (fun gg v7 v8 wr=>∃ (x:Nat) (acc:List Edg) (Ao:Option Addr) (co:Nat),v7 = .slice Ao acc.length co∧v8 = .int .i64 (x:Int)∧Aside0 (x≤S+1)∧Aside0 (S+1 - x≤gg)∧Aside0 (acc ++ gXs G C (S:Int) a b 1  (S+1 - x) (x:Int)=es)∧Aside0 (acc.length≤5 * x)∧Aside0 (Kd.S EdgK 81 wr W.heap.size (fun _=>True) (.slice Ao acc.length co) acc)∧Aside0 (Below W.heap.size W wr))
   case atStart=>exact ⟨0,[],_,_,rfl,rfl,⟨Nat.zero_le _⟩,⟨Nat.le_refl _⟩,HSS,⟨Nat.zero_le _⟩,HS0,HW⟩
   case round =>
    obtain ⟨x,acc,Ao,co,rfl,rfl,HX,HGG,HE,HLA,HSA,HWR⟩:=hrel;clear HS0 HSS HBX1;have HBX2:=am' (bb' HBX.out HWR.out);have xs:wr.cell? ⟨pg,2,none⟩=some (.int .i64 (S:Int)):=(bc' HBX2.out 2).trans rfl;by_cases hx:x≤S
    ·
     have hxz:(x:Int)≤(S:Int):=by omega
     have hxzd:=dt' hxz;have hE:=HE.out;rw[show S+1 - x=(S - x)+1 by omega,gXs,show (((S:Int)+1 - (x:Int)).toNat)=S+1 - x by omega] at hE;have HE2:=am' hE;have HXL:=am' hx;clear hE HE hx;go_wp2;go_loopg [7,9] (S+1 - x) (fun gg v7 v9 wr=>∃ (y:Nat) (acc:List Edg) (Ao:Option Addr) (co:Nat),v7 = .slice Ao acc.length co∧v9 = .int .i64 (y:Int)∧Aside0 (y≤S+1 - x)∧Aside0 (S+1 - x - y≤gg)∧Aside0 (acc ++ (gYs G C a b 1  (x:Int) (S+1 - x - y) (y:Int) ++ gXs G C (S:Int) a b 1  (S - x) ((x:Int)+1))=es)∧Aside0 (acc.length≤5 * x+y)∧Aside0 (Kd.S EdgK 81 wr W.heap.size (fun _=>True) (.slice Ao acc.length co) acc)∧Aside0 (Below W.heap.size W wr))
     case atStart=>exact ⟨0,acc,_,_,rfl,rfl,⟨Nat.zero_le _⟩,⟨by omega⟩,HE2,HLA,HSA,HWR⟩
     case round =>
      clear HE2 HLA HSA HWR xs HBX2;obtain ⟨y,acc,Ao,co,rfl,rfl,HY,HGY,HE,HLA,HSA,HWR⟩:=hrel;have HBX2:=am' (bb' HBX.out HWR.out);have xs:wr.cell? ⟨pg,2,none⟩=some (.int .i64 (S:Int)):=(bc' HBX2.out 2).trans rfl;have hxy:wrap64 ((x:Int)+(y:Int))=(x:Int)+(y:Int):=wr_id (by omega) (by have:=HXL.out;have:=HY.out;have:=HSN.out;omega);by_cases hy:x+y≤S
      ·
       have hyz:(x:Int)+(y:Int)≤(S:Int):=by omega
       have hyzd:=dt' hyz;have HYL:=am' hy;have hE:=HE.out;rw[show S+1 - x - y=(S+1 - x - (y+1))+1 by omega,gYs,gEdge] at hE;have hxb:0≤(x:Int)∧(x:Int)≤4:=by have:=HSN.out;omega
       have hyb:0≤(y:Int)∧(y:Int)≤4:=by have:=HSN.out;omega
       have HCV:=gC_val (bt:=1) HA.out hxb;have HDV:=gC_val (bt:=1) HB.out hyb;generalize hgc:gC 1  a (x:Int)=c at hE HCV
       generalize hgd:gC 1  b (y:Int)=d at hE HDV
       clear hgc hgd hy hyz HE;have hp1:=HCV.2.1 rfl;have hp2:=HDV.2.1 rfl;obtain ⟨t1,t2,t3,t4,tv,hw1,hw2,hw3,hw4,hw5,hw6,htv⟩:=gTo_val (bt:=1) (by omega) HCV.2.2 HDV.2.2;rw[← htv] at hE;have hwv:=hw6 rfl;have HCB:=am' HCV.2.2;have HDB:=am' HDV.2.2;have HI1:=am' (in_val c 0 G);have HI2:=am' (in_val d 0 C);have HI3:=am' (isFine_val (x:Int) (y:Int));have HI4:=am' (bothFine_val G C (S:Int) c d (by have:=HG.out;omega) (by have:=HC.out;omega));have hgo:gOk G C c d (x:Int) (y:Int)=(decide (0 < (x:Int)+(y:Int)) && (inI c 0 G && (inI d 0 C && (fineB (x:Int) (y:Int) && (fineB c d && fineB (G - c) (C - d)))))):=rfl;rw[hgo] at hE;have x0:wr.cell? ⟨pg,0,none⟩=some (.int .i64 G):=(bc' HBX2.out 0).trans rfl;have x1:wr.cell? ⟨pg,1,none⟩=some (.int .i64 C):=(bc' HBX2.out 1).trans rfl;clear HCV HDV hw5 hw6 htv hgo hxb hyb;generalize (fineB c d && fineB (G - c) (C - d))=r4 at HI4 hE
       generalize inI c 0 G=r1 at HI1 hE
       generalize inI d 0 C=r2 at HI2 hE
       generalize fineB (x:Int) (y:Int)=r3 at HI3 hE
       by_cases hp:0 < (x:Int)+(y:Int)
       ·
        have hpd:=dt' hp;rw[hpd,Bool.true_and] at hE;cases r1 with
        | false =>
         rw[Bool.false_and,if_neg (by decide),List.nil_append] at hE;have HE:=am' hE;clear hE;go_wp2_with (first|(go_at_call 47;(with_reducible refine (impl_in.calls c 0 G _ _ HI1.out).mono ?_);rintro e w' ⟨rfl,⟨nd,rfl⟩⟩)|(go_at_call 47;(with_reducible refine (impl_in.calls d 0 C _ _ HI2.out).mono ?_);rintro e w' ⟨rfl,⟨nd,rfl⟩⟩)|(go_at_call 63;(with_reducible refine (impl_isFine.calls (x:Int) (y:Int) _ _ HI3.out).mono ?_);rintro e w' ⟨rfl,⟨nd,rfl⟩⟩)|(go_at_call 37;(with_reducible refine (impl_guarded_bothFine.calls G C (S:Int) c d _ _ HI4.out).mono ?_);rintro e w2 ⟨rfl,hb2⟩;have HB2:=am' (show Below wr.heap.size wr w2 from bt' (bd' (Below.refl _ _) _) hb2);clear hb2));go_roundg (S+1 - x - (y+1))
         case measure=>have h1:=HGY.out;have h2:=HYL.out;omega
         case rel=>exact ⟨y+1,acc,Ao,co,rfl,by have h2:=HYL.out;have h3:=HSN.out;first|exact nx (by omega)|exact nx2 (by omega)|exact rfl,⟨by have h2:=HYL.out;omega⟩,⟨Nat.le_refl _⟩,HE,⟨by have h3:=HLA.out;omega⟩,⟨by first|exact Kd.S_below HSA.out HB2.out|exact Kd.S_below HSA.out (bd' (Below.refl _ _) _)|exact Kd.S_below HSA.out (bd' (bd' (Below.refl _ _) _) _)|exact HSA.out⟩,⟨by first|exact bt' HWR.out HB2.out|exact bd' HWR.out _|exact bd' (bd' HWR.out _) _|exact HWR.out⟩⟩
        | true =>
        rw[Bool.true_and] at hE;cases r2 with
        | false =>
         rw[Bool.false_and,if_neg (by decide),List.nil_append] at hE;have HE:=am' hE;clear hE;go_wp2_with (first|(go_at_call 47;(with_reducible refine (impl_in.calls c 0 G _ _ HI1.out).mono ?_);rintro e w' ⟨rfl,⟨nd,rfl⟩⟩)|(go_at_call 47;(with_reducible refine (impl_in.calls d 0 C _ _ HI2.out).mono ?_);rintro e w' ⟨rfl,⟨nd,rfl⟩⟩)|(go_at_call 63;(with_reducible refine (impl_isFine.calls (x:Int) (y:Int) _ _ HI3.out).mono ?_);rintro e w' ⟨rfl,⟨nd,rfl⟩⟩)|(go_at_call 37;(with_reducible refine (impl_guarded_bothFine.calls G C (S:Int) c d _ _ HI4.out).mono ?_);rintro e w2 ⟨rfl,hb2⟩;have HB2:=am' (show Below wr.heap.size wr w2 from bt' (bd' (Below.refl _ _) _) hb2);clear hb2));go_roundg (S+1 - x - (y+1))
         case measure=>have h1:=HGY.out;have h2:=HYL.out;omega
         case rel=>exact ⟨y+1,acc,Ao,co,rfl,by have h2:=HYL.out;have h3:=HSN.out;first|exact nx (by omega)|exact nx2 (by omega)|exact rfl,⟨by have h2:=HYL.out;omega⟩,⟨Nat.le_refl _⟩,HE,⟨by have h3:=HLA.out;omega⟩,⟨by first|exact Kd.S_below HSA.out HB2.out|exact Kd.S_below HSA.out (bd' (Below.refl _ _) _)|exact Kd.S_below HSA.out (bd' (bd' (Below.refl _ _) _) _)|exact HSA.out⟩,⟨by first|exact bt' HWR.out HB2.out|exact bd' HWR.out _|exact bd' (bd' HWR.out _) _|exact HWR.out⟩⟩
        | true =>
        rw[Bool.true_and] at hE;cases r3 with
        | false =>
         rw[Bool.false_and,if_neg (by decide),List.nil_append] at hE;have HE:=am' hE;clear hE;go_wp2_with (first|(go_at_call 47;(with_reducible refine (impl_in.calls c 0 G _ _ HI1.out).mono ?_);rintro e w' ⟨rfl,⟨nd,rfl⟩⟩)|(go_at_call 47;(with_reducible refine (impl_in.calls d 0 C _ _ HI2.out).mono ?_);rintro e w' ⟨rfl,⟨nd,rfl⟩⟩)|(go_at_call 63;(with_reducible refine (impl_isFine.calls (x:Int) (y:Int) _ _ HI3.out).mono ?_);rintro e w' ⟨rfl,⟨nd,rfl⟩⟩)|(go_at_call 37;(with_reducible refine (impl_guarded_bothFine.calls G C (S:Int) c d _ _ HI4.out).mono ?_);rintro e w2 ⟨rfl,hb2⟩;have HB2:=am' (show Below wr.heap.size wr w2 from bt' (bd' (Below.refl _ _) _) hb2);clear hb2));go_roundg (S+1 - x - (y+1))
         case measure=>have h1:=HGY.out;have h2:=HYL.out;omega
         case rel=>exact ⟨y+1,acc,Ao,co,rfl,by have h2:=HYL.out;have h3:=HSN.out;first|exact nx (by omega)|exact nx2 (by omega)|exact rfl,⟨by have h2:=HYL.out;omega⟩,⟨Nat.le_refl _⟩,HE,⟨by have h3:=HLA.out;omega⟩,⟨by first|exact Kd.S_below HSA.out HB2.out|exact Kd.S_below HSA.out (bd' (Below.refl _ _) _)|exact Kd.S_below HSA.out (bd' (bd' (Below.refl _ _) _) _)|exact HSA.out⟩,⟨by first|exact bt' HWR.out HB2.out|exact bd' HWR.out _|exact bd' (bd' HWR.out _) _|exact HWR.out⟩⟩
        | true =>
        rw[Bool.true_and] at hE;cases r4 with
        | false =>
         rw[if_neg (by decide),List.nil_append] at hE;have HE:=am' hE;clear hE;go_wp2_with (first|(go_at_call 47;(with_reducible refine (impl_in.calls c 0 G _ _ HI1.out).mono ?_);rintro e w' ⟨rfl,⟨nd,rfl⟩⟩)|(go_at_call 47;(with_reducible refine (impl_in.calls d 0 C _ _ HI2.out).mono ?_);rintro e w' ⟨rfl,⟨nd,rfl⟩⟩)|(go_at_call 63;(with_reducible refine (impl_isFine.calls (x:Int) (y:Int) _ _ HI3.out).mono ?_);rintro e w' ⟨rfl,⟨nd,rfl⟩⟩)|(go_at_call 37;(with_reducible refine (impl_guarded_bothFine.calls G C (S:Int) c d _ _ HI4.out).mono ?_);rintro e w2 ⟨rfl,hb2⟩;have HB2:=am' (show Below wr.heap.size wr w2 from bt' (bd' (Below.refl _ _) _) hb2);clear hb2));go_roundg (S+1 - x - (y+1))
         case measure=>have h1:=HGY.out;have h2:=HYL.out;omega
         case rel=>exact ⟨y+1,acc,Ao,co,rfl,by have h2:=HYL.out;have h3:=HSN.out;first|exact nx (by omega)|exact nx2 (by omega)|exact rfl,⟨by have h2:=HYL.out;omega⟩,⟨Nat.le_refl _⟩,HE,⟨by have h3:=HLA.out;omega⟩,⟨by first|exact Kd.S_below HSA.out HB2.out|exact Kd.S_below HSA.out (bd' (Below.refl _ _) _)|exact Kd.S_below HSA.out (bd' (bd' (Below.refl _ _) _) _)|exact HSA.out⟩,⟨by first|exact bt' HWR.out HB2.out|exact bd' HWR.out _|exact bd' (bd' HWR.out _) _|exact HWR.out⟩⟩
        | true =>
         rw[if_pos rfl] at hE;have HE:=am' hE;clear hE;go_wp2_with (first|(go_at_call 47;(with_reducible refine (impl_in.calls c 0 G _ _ HI1.out).mono ?_);rintro e w' ⟨rfl,⟨nd,rfl⟩⟩)|(go_at_call 47;(with_reducible refine (impl_in.calls d 0 C _ _ HI2.out).mono ?_);rintro e w' ⟨rfl,⟨nd,rfl⟩⟩)|(go_at_call 63;(with_reducible refine (impl_isFine.calls (x:Int) (y:Int) _ _ HI3.out).mono ?_);rintro e w' ⟨rfl,⟨nd,rfl⟩⟩)|(go_at_call 37;(with_reducible refine (impl_guarded_bothFine.calls G C (S:Int) c d _ _ HI4.out).mono ?_);rintro e w2 ⟨rfl,hb2⟩;have HB2:=am' (show Below wr.heap.size wr w2 from bt' (bd' (Below.refl _ _) _) hb2);clear hb2)|((with_reducible refine gate_builtin (b := .append) (xs:=#[.tmp 76, .tmp 89]) rfl ?_);at_builtin;refine Kd.S_append EdgK (w0:=W) W.heap.size rfl (.tmp 76) (.tmp 89) 82 81 (.agg #[.int .i64 0, .int .i64 0, .slice none 0 0]) 40 rfl Try.underlying82 hinfoE.out rfl (by decide) (by omega) (.slice Ao acc.length co) acc (tv,1,[(x:Int),(y:Int)]) [.int .i64 tv, .int .i64 1, .slice (some ⟨w2.heap.size,0,none⟩) 2 2] (fun _=>True) (fun k=>k=w2.heap.size) rfl (by rw[World.size_alloc];rfl) ?aP ?aK (fun _ _=>trivial) ?aO ?aB ?aS ?aL ?_;(case aP=>exact ⟨[.int .i64 tv],_,rfl,rfl,[.int .i64 1],_,rfl,rfl,_,rfl,R_two (heap_alloc_new w2 _) (Nat.le_trans HWR.out.size HB2.out.size)⟩);(case aK=>exact fun k hk=>⟨trivial,fun q=>by have h1:=Kd.S_lt HSA.out k q.symm;have h2:=HB2.out.size;omega⟩);(case aO=>exact Kd.S_mono (Kd.S_alloc (Kd.S_old HSA.out HB2.out) _) (fun k hk=>⟨trivial,fun q=>by have h2:=HB2.out.size;omega⟩));(case aB=>exact ba' (bt' HWR.out HB2.out) _);(case aS=>rw [World.size_alloc];have h1:=HWR.out.size;have h2:=HB2.out.size;omega);(case aL=>have h1:=HLA.out;have h2:=HSN.out;have h3:=HXL.out;have h4:=HYL.out;omega);intro v1 w1 ho hb hg hat;obtain ⟨A1,c1,e1⟩:=Kd.S_slice ho;rw[List.length_append,List.length_singleton] at e1;subst e1;have HO1:=am' (show Kd.S EdgK 81 w1 W.heap.size (fun _=>True) (.slice A1 (acc ++ [(tv,1,[(x:Int),(y:Int)])]).length c1) (acc ++ [(tv,1,[(x:Int),(y:Int)])]) by rw[List.length_append,List.length_singleton];exact ho);have HB1:=am' hb;clear ho hb hg hat));go_roundg (S+1 - x - (y+1))
         case measure=>have h1:=HGY.out;have h2:=HYL.out;omega
         case rel =>
          refine ⟨y+1,acc ++ [(tv,1,[(x:Int),(y:Int)])],A1,c1,by rw[List.length_append,List.length_singleton],by have h2:=HYL.out;have h3:=HSN.out;first|exact nx (by omega)|exact nx2 (by omega)|exact rfl,⟨by have h2:=HYL.out;omega⟩,⟨Nat.le_refl _⟩,⟨?_⟩,⟨?_⟩,HO1,HB1⟩
          ·
           have h3:=HE.out;rw[List.append_assoc] at h3;rw[List.append_assoc];exact h3
          ·
           have h3:=HLA.out;rw[List.length_append,List.length_singleton];omega
       ·
        have hpd:=df' hp;rw[hpd,Bool.false_and] at hE;rw[if_neg (by decide),List.nil_append] at hE;have HE:=am' hE;clear hE;go_wp2_with (first|(go_at_call 47;(with_reducible refine (impl_in.calls c 0 G _ _ HI1.out).mono ?_);rintro e w' ⟨rfl,⟨nd,rfl⟩⟩)|(go_at_call 47;(with_reducible refine (impl_in.calls d 0 C _ _ HI2.out).mono ?_);rintro e w' ⟨rfl,⟨nd,rfl⟩⟩)|(go_at_call 63;(with_reducible refine (impl_isFine.calls (x:Int) (y:Int) _ _ HI3.out).mono ?_);rintro e w' ⟨rfl,⟨nd,rfl⟩⟩)|(go_at_call 37;(with_reducible refine (impl_guarded_bothFine.calls G C (S:Int) c d _ _ HI4.out).mono ?_);rintro e w2 ⟨rfl,hb2⟩;have HB2:=am' (show Below wr.heap.size wr w2 from bt' (bd' (Below.refl _ _) _) hb2);clear hb2));go_roundg (S+1 - x - (y+1))
        case measure=>have h1:=HGY.out;have h2:=HYL.out;omega
        case rel=>exact ⟨y+1,acc,Ao,co,rfl,by have h2:=HYL.out;have h3:=HSN.out;first|exact nx (by omega)|exact nx2 (by omega)|exact rfl,⟨by have h2:=HYL.out;omega⟩,⟨Nat.le_refl _⟩,HE,⟨by have h3:=HLA.out;omega⟩,⟨by first|exact Kd.S_below HSA.out HB2.out|exact Kd.S_below HSA.out (bd' (Below.refl _ _) _)|exact Kd.S_below HSA.out (bd' (bd' (Below.refl _ _) _) _)|exact HSA.out⟩,⟨by first|exact bt' HWR.out HB2.out|exact bd' HWR.out _|exact bd' (bd' HWR.out _) _|exact HWR.out⟩⟩
      ·
       have hyz:¬ (x:Int)+(y:Int)≤(S:Int):=by omega
       have hyzd:=df' hyz;have hE:=HE.out;rw[show S+1 - x - y=0 by omega,gYs,List.nil_append] at hE;have HE:=am' hE;clear hE;go_wp2;go_roundg (S+1 - (x+1))
       case measure=>have h1:=HGG.out;have h2:=HXL.out;omega
       case rel =>
        refine ⟨x+1,acc,Ao,co,rfl,by have h2:=HXL.out;have h3:=HSN.out;first|exact nx (by omega)|exact nx2 (by omega)|exact rfl,⟨by have h2:=HXL.out;omega⟩,⟨Nat.le_refl _⟩,⟨?_⟩,⟨?_⟩,HSA,HWR⟩
        ·
         rw[show S+1 - (x+1)=S - x by omega];exact HE.out
        ·
         have h3:=HLA.out;have h4:=HY.out;have h5:=HSN.out;omega
    ·
     have hxz:¬ (x:Int)≤(S:Int):=by omega
     have hxzd:=df' hxz;have hE:=HE.out;rw[show S+1 - x=0 by omega,gXs,List.append_nil] at hE;subst hE;go_wp2;go_ret
     exact ⟨_,rfl,HSA.out,HWR.out⟩
 ·
  rw[if_neg h] at hs;cases hs
set_option maxHeartbeats 2000000 in
set_option maxRecDepth 100000 in
theorem guarded_graph (G C S:Int) (w:World):Calls Try.prog 60 #[.agg #[.int .i64 G, .int .i64 C, .int .i64 S]] w fun e w'=>∃ pg,e = .returned (.agg #[.int .i64 162, .func (.func 79) #[] #[.pointer (some ⟨pg,0,none⟩)]])∧w'.heap[pg]? = some (.cells #[.int .i64 G, .int .i64 C, .int .i64 S] 52 (0,0))∧Below w.heap.size w w':=by
 have hu:=Try.underlying52
 have hug:=Try.underlying49
 go_enter Try.func60,Try.ntmps60
 go_wp2_with fail
 have h2:=two_blocks w (.cells #[.int .i64 G, .int .i64 C, .int .i64 S] 52) (.cells #[.int .i64 162, .func (.func 79) #[] #[.pointer (some ⟨w.heap.size,0,none⟩)]] 49)
 refine bodyPost_ret (results_cell_row rfl _ _ (w.heap.size+1) 49 #[.int .i64 162, .func (.func 79) #[] #[.pointer (some ⟨w.heap.size,0,none⟩)]] (0,0) _ rfl h2.2.1 Try.underlying49 rfl xk') rfl ?_
 exact ⟨_,rfl,h2.1,h2.2.2⟩
theorem isOk_bounds {G C S:Int} (h:impl_guarded_isOk.f G C S=some true):(0≤G∧G≤8)∧(0≤C∧C≤8)∧(1≤S∧S≤4)∧0 < G+C:=by
 unfold impl_guarded_isOk.f at h
 rw[in_val,in_val,in_val] at h
 simp only[Option.bind_some] at h
 split at h
 ·
  split at h
  ·
   split at h
   ·
    rename_i h1 h2 h3
    simp only[inI,Bool.and_eq_true,decide_eq_true_eq,Option.some.injEq] at h1 h2 h;rw[wr_id (by omega) (by omega)] at h3;exact ⟨h1,h2,h,h3⟩
   ·
    cases h
  ·
   cases h
 ·
  cases h
theorem bkI_mono (out:Int→Option (List Edg)) (d:Nat):∀ k i dist wt,LeO (bkI out d k i dist wt) (bkI out d (k+1) i dist wt):=by
 intro k;induction k with
 | zero=>intro i dist wt r h;simp[bkI] at h
 | succ k ih =>
  intro i dist wt;rw[bkI,bkI];exact LeO.ite (LeO.ite (LeO.ite (ih _ _ _) (LeO.bind (LeO.refl _) (fun _=>LeO.bind (LeO.refl _) (fun _=>ih _ _ _)))) (LeO.refl _)) (LeO.refl _)
theorem bkD_mono (out:Int→Option (List Edg)):∀ k d dist wt,LeO (bkD out k d dist wt) (bkD out (k+1) d dist wt):=by
 intro k;induction k with
 | zero=>intro d dist wt r h;simp[bkD] at h
 | succ k ih =>
  intro d dist wt;rw[bkD,bkD];exact LeO.ite (LeO.ite (LeO.bind (bkI_mono out d _ _ _ _) (fun _=>ih _ _ _)) (LeO.refl _)) (LeO.refl _)
def impl_guarded_costs.f (k:Nat) (G C S:Int):Option (List Int × Bool) :=
 (impl_guarded_isOk.f G C S).bind fun t=>if t=true then (impl_guarded_bothFine.f G C S 0 0).bind fun u=>if u=true then (bkD (gOut G C S) k 0 (List.replicate 162 (-1)) [[2 * (G * 9+C)+1]]).bind fun r=>if r.length=162 then some (r,decide (0≤rd r 0)) else none else some ([],false) else some ([],false)
theorem impl_guarded_costs.mono (a0 a1 a2:Int) (k:Nat):LeO (impl_guarded_costs.f k a0 a1 a2) (impl_guarded_costs.f (k+1) a0 a1 a2):=by
 unfold impl_guarded_costs.f
 exact LeO.bind (LeO.refl _) (fun t=>LeO.ite (LeO.bind (LeO.refl _) (fun u=>LeO.ite (LeO.bind (bkD_mono _ _ _ _ _) (fun _=>LeO.refl _)) (LeO.refl _))) (LeO.refl _))
theorem blk_put2 {W:World} {g h:Nat} {o:Obj} {v0 v1:Value} (hb:W.heap[h]? = some o) (hne:h≠g):((W.setCell ⟨g,0,none⟩ v0).setCell ⟨g,1,none⟩ v1).heap[h]? = some o:=blk_kept hb (put2_kept W g v0 v1) hne
theorem R_one {w:World} {b base:Nat} {x:Int} {e:Nat} (h:w.heap[b]? = some (.cells #[.int .i64 x] e (0,0))) (hB:base≤b):(Kd.int .i64).R e w base (fun _=>True) (.slice (some ⟨b,0,none⟩) 1 1) [x]:=by
 refine Kd.R_of_own ?_ (fun k hk=>trivial)
 exact ⟨by simp[encs], .inr ⟨b,1,_,rfl,hB,h,Nat.le_refl _,by decide,by simp,by simp[encs]⟩⟩
set_option maxHeartbeats 4000000 in
set_option maxRecDepth 100000 in
theorem impl_guarded_costs.calls (k:Nat) (G C S:Int) (r:List Int) (ok:Bool) (w:World) (h:impl_guarded_costs.f k G C S=some (r,ok)):Calls Try.prog 28 #[.agg #[.int .i64 G, .int .i64 C, .int .i64 S]] w fun e w'=>∃ pg v,e = .returned (.tuple #[.agg #[.int .i64 162, .func (.func 79) #[] #[.pointer (some ⟨pg,0,none⟩)]],v, .bool ok])∧w'.heap[pg]? = some (.cells #[.int .i64 G, .int .i64 C, .int .i64 S] 52 (0,0))∧(Kd.int .i64).R 3 w' w.heap.size (fun _=>True) v r∧(ok=true→r.length=162)∧Below w.heap.size w w':=by
 have hu:=Try.underlying52
 have hug:=Try.underlying49
 unfold impl_guarded_costs.f at h
 obtain ⟨t,ht,h⟩:=Option.bind_eq_some_iff.mp h
 have HT:=am' ht
 have HL2:=am' (two_blocks w (.cells #[.int .i64 G, .int .i64 C, .int .i64 S] 52) (.cells #[.int .i64 0,Value.nilFunc] 49))
 cases t with
 | false =>
  simp only[Bool.false_eq_true,if_false,Option.some.injEq,Prod.mk.injEq] at h;obtain ⟨rfl,rfl⟩:=h;clear ht;go_enter Try.func28,Try.ntmps28;go_wp2_with (first|(go_at_call 60;refine (guarded_graph G C S _).mono ?_;rintro e w3 ⟨pg,rfl,hpg,hb3⟩;have HPGN:=am' (blk_lt hpg);have J5:=am' (heap_alloc_new w3 (.cells #[.int .i64 162, .func (.func 79) #[] #[.pointer (some ⟨pg,0,none⟩)]] 49));have J1:=am' (ka' (bb' HL2.out.1 hb3) (.cells #[.int .i64 162, .func (.func 79) #[] #[.pointer (some ⟨pg,0,none⟩)]] 49));have HP2L:=am' (blk_lt (bb' HL2.out.2.1 hb3));have J2:=am' (ka' (bb' HL2.out.2.1 hb3) (.cells #[.int .i64 162, .func (.func 79) #[] #[.pointer (some ⟨pg,0,none⟩)]] 49));have JG:=am' (ka' hpg (.cells #[.int .i64 162, .func (.func 79) #[] #[.pointer (some ⟨pg,0,none⟩)]] 49));have HBJ:=am' (ba' (bt' HL2.out.2.2 hb3) (.cells #[.int .i64 162, .func (.func 79) #[] #[.pointer (some ⟨pg,0,none⟩)]] 49));have x10:(w3.alloc (.cells #[.int .i64 162, .func (.func 79) #[] #[.pointer (some ⟨pg,0,none⟩)]] 49)).cell? ⟨w.heap.size,0,none⟩=some (.int .i64 G):=(bc' J1.out 0).trans rfl;have x11:(w3.alloc (.cells #[.int .i64 162, .func (.func 79) #[] #[.pointer (some ⟨pg,0,none⟩)]] 49)).cell? ⟨w.heap.size,1,none⟩=some (.int .i64 C):=(bc' J1.out 1).trans rfl;have x12:(w3.alloc (.cells #[.int .i64 162, .func (.func 79) #[] #[.pointer (some ⟨pg,0,none⟩)]] 49)).cell? ⟨w.heap.size,2,none⟩=some (.int .i64 S):=(bc' J1.out 2).trans rfl;clear hpg hb3)|(go_at_call 35;(with_reducible refine (impl_guarded_isOk.calls G C S _ _ HT.out).mono ?_);rintro e w4 ⟨rfl,hb4⟩;have K1:=am' (bb' J1.out hb4);have K2:=am' (bb' J2.out hb4);have K5:=am' (bb' J5.out hb4);have KG:=am' (bb' JG.out hb4);have HBL:=am' (bt' HBJ.out hb4);clear x10 x11 x12 hb4;have x10:w4.cell? ⟨w.heap.size,0,none⟩=some (.int .i64 G):=(bc' K1.out 0).trans rfl;have x11:w4.cell? ⟨w.heap.size,1,none⟩=some (.int .i64 C):=(bc' K1.out 1).trans rfl;have x12:w4.cell? ⟨w.heap.size,2,none⟩=some (.int .i64 S):=(bc' K1.out 2).trans rfl;have x50:w4.cell? ⟨w3.heap.size,0,none⟩=some (.int .i64 162):=(bc' K5.out 0).trans rfl;have x51:w4.cell? ⟨w3.heap.size,1,none⟩=some (.func (.func 79) #[] #[.pointer (some ⟨pg,0,none⟩)]):=(bc' K5.out 1).trans rfl;obtain ⟨c0_,f0_,c1_,f1_⟩:=put2 K2.out (.int .i64 162) (.func (.func 79) #[] #[.pointer (some ⟨pg,0,none⟩)])));refine bodyPost_ret (results_ctt rfl _ _ (w.heap.size+1) 49 #[.int .i64 162, .func (.func 79) #[] #[.pointer (some ⟨pg,0,none⟩)]] (0,0) _ rfl (put2_blk K2.out _ _) Try.underlying49 rfl xk') rfl ?_
  exact ⟨pg,_,rfl,blk_put2 KG.out (fun q=>by have h1:=KG.out;rw[q,K2.out] at h1;simp at h1),Kd.R_nil _ _ _ _ _,(fun q=>by cases q),bs' (bs' HBL.out (by omega)) (by omega)⟩
 | true =>
  simp only[if_true] at h;obtain ⟨hG,hC,hS,hGC⟩:=isOk_bounds ht;obtain ⟨t2,ht2,h⟩:=Option.bind_eq_some_iff.mp h;have HT2:=am' ht2;cases t2 with
  | false =>
   simp only[Bool.false_eq_true,if_false,Option.some.injEq,Prod.mk.injEq] at h;obtain ⟨rfl,rfl⟩:=h;clear ht ht2 hG hC hS hGC;go_enter Try.func28,Try.ntmps28;go_wp2_with (first|(go_at_call 60;refine (guarded_graph G C S _).mono ?_;rintro e w3 ⟨pg,rfl,hpg,hb3⟩;have HPGN:=am' (blk_lt hpg);have J5:=am' (heap_alloc_new w3 (.cells #[.int .i64 162, .func (.func 79) #[] #[.pointer (some ⟨pg,0,none⟩)]] 49));have J1:=am' (ka' (bb' HL2.out.1 hb3) (.cells #[.int .i64 162, .func (.func 79) #[] #[.pointer (some ⟨pg,0,none⟩)]] 49));have HP2L:=am' (blk_lt (bb' HL2.out.2.1 hb3));have J2:=am' (ka' (bb' HL2.out.2.1 hb3) (.cells #[.int .i64 162, .func (.func 79) #[] #[.pointer (some ⟨pg,0,none⟩)]] 49));have JG:=am' (ka' hpg (.cells #[.int .i64 162, .func (.func 79) #[] #[.pointer (some ⟨pg,0,none⟩)]] 49));have HBJ:=am' (ba' (bt' HL2.out.2.2 hb3) (.cells #[.int .i64 162, .func (.func 79) #[] #[.pointer (some ⟨pg,0,none⟩)]] 49));have x10:(w3.alloc (.cells #[.int .i64 162, .func (.func 79) #[] #[.pointer (some ⟨pg,0,none⟩)]] 49)).cell? ⟨w.heap.size,0,none⟩=some (.int .i64 G):=(bc' J1.out 0).trans rfl;have x11:(w3.alloc (.cells #[.int .i64 162, .func (.func 79) #[] #[.pointer (some ⟨pg,0,none⟩)]] 49)).cell? ⟨w.heap.size,1,none⟩=some (.int .i64 C):=(bc' J1.out 1).trans rfl;have x12:(w3.alloc (.cells #[.int .i64 162, .func (.func 79) #[] #[.pointer (some ⟨pg,0,none⟩)]] 49)).cell? ⟨w.heap.size,2,none⟩=some (.int .i64 S):=(bc' J1.out 2).trans rfl;clear hpg hb3)|(go_at_call 35;(with_reducible refine (impl_guarded_isOk.calls G C S _ _ HT.out).mono ?_);rintro e w4 ⟨rfl,hb4⟩;have K1:=am' (bb' J1.out hb4);have K2:=am' (bb' J2.out hb4);have K5:=am' (bb' J5.out hb4);have KG:=am' (bb' JG.out hb4);have HBL:=am' (bt' HBJ.out hb4);clear x10 x11 x12 hb4;have x10:w4.cell? ⟨w.heap.size,0,none⟩=some (.int .i64 G):=(bc' K1.out 0).trans rfl;have x11:w4.cell? ⟨w.heap.size,1,none⟩=some (.int .i64 C):=(bc' K1.out 1).trans rfl;have x12:w4.cell? ⟨w.heap.size,2,none⟩=some (.int .i64 S):=(bc' K1.out 2).trans rfl;have x50:w4.cell? ⟨w3.heap.size,0,none⟩=some (.int .i64 162):=(bc' K5.out 0).trans rfl;have x51:w4.cell? ⟨w3.heap.size,1,none⟩=some (.func (.func 79) #[] #[.pointer (some ⟨pg,0,none⟩)]):=(bc' K5.out 1).trans rfl;obtain ⟨c0_,f0_,c1_,f1_⟩:=put2 K2.out (.int .i64 162) (.func (.func 79) #[] #[.pointer (some ⟨pg,0,none⟩)]))|(go_at_call 37;(with_reducible refine (impl_guarded_bothFine.calls G C S 0 0 _ _ HT2.out).mono ?_);rintro e w5 ⟨rfl,hb5⟩;have L1:=am' (bb' K1.out hb5);have L2:=am' (bb' K2.out hb5);have L5:=am' (bb' K5.out hb5);have LG:=am' (bb' KG.out hb5);have HBM:=am' (bt' HBL.out hb5);clear x10 x11 x12 x50 x51 c0_ f0_ c1_ f1_ hb5 K1 K2 K5 KG HBL;have K1:=L1;have K2:=L2;have K5:=L5;have KG:=LG;have HBL:=HBM;clear L1 L2 L5 LG HBM;have x10:w5.cell? ⟨w.heap.size,0,none⟩=some (.int .i64 G):=(bc' K1.out 0).trans rfl;have x11:w5.cell? ⟨w.heap.size,1,none⟩=some (.int .i64 C):=(bc' K1.out 1).trans rfl;have x12:w5.cell? ⟨w.heap.size,2,none⟩=some (.int .i64 S):=(bc' K1.out 2).trans rfl;have x50:w5.cell? ⟨w3.heap.size,0,none⟩=some (.int .i64 162):=(bc' K5.out 0).trans rfl;have x51:w5.cell? ⟨w3.heap.size,1,none⟩=some (.func (.func 79) #[] #[.pointer (some ⟨pg,0,none⟩)]):=(bc' K5.out 1).trans rfl;obtain ⟨c0_,f0_,c1_,f1_⟩:=put2 K2.out (.int .i64 162) (.func (.func 79) #[] #[.pointer (some ⟨pg,0,none⟩)])))
   refine bodyPost_ret (results_ctt rfl _ _ (w.heap.size+1) 49 #[.int .i64 162, .func (.func 79) #[] #[.pointer (some ⟨pg,0,none⟩)]] (0,0) _ rfl (put2_blk K2.out _ _) Try.underlying49 rfl xk') rfl ?_
   exact ⟨pg,_,rfl,blk_put2 KG.out (fun q=>by have h1:=KG.out;rw[q,K2.out] at h1;simp at h1),Kd.R_nil _ _ _ _ _,(fun q=>by cases q),bs' (bs' HBL.out (by omega)) (by omega)⟩
  | true =>
   simp only[if_true] at h;obtain ⟨rr,hd,h⟩:=Option.bind_eq_some_iff.mp h;by_cases hlen:rr.length=162
   ·
    rw[if_pos hlen] at h;simp only[Option.some.injEq,Prod.mk.injEq] at h;obtain ⟨rfl,rfl⟩:=h;obtain ⟨Sn,rfl⟩:∃ Sn:Nat,S=(Sn:Int):=⟨S.toNat,by omega⟩
    have HD:=am' hd;have HLEN:=am' hlen;have HBG:=am' hG;have HBC:=am' hC;have HBS:=am' (show 1≤Sn∧Sn≤4 by omega);obtain ⟨e1,he1⟩:∃ x,x=G * 9:=⟨_,rfl⟩
    obtain ⟨e2,he2⟩:∃ x,x=e1+C:=⟨_,rfl⟩
    obtain ⟨e3,he3⟩:∃ x,x=2 * e2:=⟨_,rfl⟩
    obtain ⟨st,hst⟩:∃ x,x=e3+1:=⟨_,rfl⟩
    have hw1:wrap64 (G * 9)=e1:=by rw[wr_id (by omega) (by omega),he1]
    have hw2:wrap64 (e1+C)=e2:=by rw[wr_id (by omega) (by omega),he2]
    have hw3:wrap64 (2 * e2)=e3:=by rw[wr_id (by omega) (by omega),he3]
    have hw4:wrap64 (e3+1)=st:=by rw[wr_id (by omega) (by omega),hst]
    have HST:=am' (show st=2 * (G * 9+C)+1 by omega);clear ht ht2 hG hC hS hGC hd hlen he1 he2 he3 hst;go_enter Try.func28,Try.ntmps28;go_wp2_with (first|(go_at_call 60;refine (guarded_graph G C (Sn:Int) _).mono ?_;rintro e w3 ⟨pg,rfl,hpg,hb3⟩;have HPGN:=am' (blk_lt hpg);have J5:=am' (heap_alloc_new w3 (.cells #[.int .i64 162, .func (.func 79) #[] #[.pointer (some ⟨pg,0,none⟩)]] 49));have J1:=am' (ka' (bb' HL2.out.1 hb3) (.cells #[.int .i64 162, .func (.func 79) #[] #[.pointer (some ⟨pg,0,none⟩)]] 49));have HP2L:=am' (blk_lt (bb' HL2.out.2.1 hb3));have J2:=am' (ka' (bb' HL2.out.2.1 hb3) (.cells #[.int .i64 162, .func (.func 79) #[] #[.pointer (some ⟨pg,0,none⟩)]] 49));have JG:=am' (ka' hpg (.cells #[.int .i64 162, .func (.func 79) #[] #[.pointer (some ⟨pg,0,none⟩)]] 49));have HBJ:=am' (ba' (bt' HL2.out.2.2 hb3) (.cells #[.int .i64 162, .func (.func 79) #[] #[.pointer (some ⟨pg,0,none⟩)]] 49));have x10:(w3.alloc (.cells #[.int .i64 162, .func (.func 79) #[] #[.pointer (some ⟨pg,0,none⟩)]] 49)).cell? ⟨w.heap.size,0,none⟩=some (.int .i64 G):=(bc' J1.out 0).trans rfl;have x11:(w3.alloc (.cells #[.int .i64 162, .func (.func 79) #[] #[.pointer (some ⟨pg,0,none⟩)]] 49)).cell? ⟨w.heap.size,1,none⟩=some (.int .i64 C):=(bc' J1.out 1).trans rfl;have x12:(w3.alloc (.cells #[.int .i64 162, .func (.func 79) #[] #[.pointer (some ⟨pg,0,none⟩)]] 49)).cell? ⟨w.heap.size,2,none⟩=some (.int .i64 (Sn:Int)):=(bc' J1.out 2).trans rfl;clear hpg hb3)|(go_at_call 35;(with_reducible refine (impl_guarded_isOk.calls G C (Sn:Int) _ _ HT.out).mono ?_);rintro e w4 ⟨rfl,hb4⟩;have K1:=am' (bb' J1.out hb4);have K2:=am' (bb' J2.out hb4);have K5:=am' (bb' J5.out hb4);have KG:=am' (bb' JG.out hb4);have HBL:=am' (bt' HBJ.out hb4);clear x10 x11 x12 hb4;have x10:w4.cell? ⟨w.heap.size,0,none⟩=some (.int .i64 G):=(bc' K1.out 0).trans rfl;have x11:w4.cell? ⟨w.heap.size,1,none⟩=some (.int .i64 C):=(bc' K1.out 1).trans rfl;have x12:w4.cell? ⟨w.heap.size,2,none⟩=some (.int .i64 (Sn:Int)):=(bc' K1.out 2).trans rfl;have x50:w4.cell? ⟨w3.heap.size,0,none⟩=some (.int .i64 162):=(bc' K5.out 0).trans rfl;have x51:w4.cell? ⟨w3.heap.size,1,none⟩=some (.func (.func 79) #[] #[.pointer (some ⟨pg,0,none⟩)]):=(bc' K5.out 1).trans rfl;obtain ⟨c0_,f0_,c1_,f1_⟩:=put2 K2.out (.int .i64 162) (.func (.func 79) #[] #[.pointer (some ⟨pg,0,none⟩)]))|(go_at_call 37;(with_reducible refine (impl_guarded_bothFine.calls G C (Sn:Int) 0 0 _ _ HT2.out).mono ?_);rintro e w5 ⟨rfl,hb5⟩;have L1:=am' (bb' K1.out hb5);have L2:=am' (bb' K2.out hb5);have L5:=am' (bb' K5.out hb5);have LG:=am' (bb' KG.out hb5);have HBM:=am' (bt' HBL.out hb5);clear x10 x11 x12 x50 x51 c0_ f0_ c1_ f1_ hb5 K1 K2 K5 KG HBL;have K1:=L1;have K2:=L2;have K5:=L5;have KG:=LG;have HBL:=HBM;clear L1 L2 L5 LG HBM;have x10:w5.cell? ⟨w.heap.size,0,none⟩=some (.int .i64 G):=(bc' K1.out 0).trans rfl;have x11:w5.cell? ⟨w.heap.size,1,none⟩=some (.int .i64 C):=(bc' K1.out 1).trans rfl;have x12:w5.cell? ⟨w.heap.size,2,none⟩=some (.int .i64 (Sn:Int)):=(bc' K1.out 2).trans rfl;have x50:w5.cell? ⟨w3.heap.size,0,none⟩=some (.int .i64 162):=(bc' K5.out 0).trans rfl;have x51:w5.cell? ⟨w3.heap.size,1,none⟩=some (.func (.func 79) #[] #[.pointer (some ⟨pg,0,none⟩)]):=(bc' K5.out 1).trans rfl;obtain ⟨c0_,f0_,c1_,f1_⟩:=put2 K2.out (.int .i64 162) (.func (.func 79) #[] #[.pointer (some ⟨pg,0,none⟩)]))|(go_at_call 61;have K2':=K2;have HW5:=am' (Nat.le_refl w5.heap.size);have HSTB:=am' (ba' (Below.refl w5.heap.size w5) (.cells #[.int .i64 st] 3));refine (from_any 79 #[.pointer (some ⟨pg,0,none⟩)] (gOut G C (Sn:Int)) k 162 [st] rr w5 _ (enters_of Try.func79 xk' rfl) (guarded_out G C Sn HBG.out HBC.out HBS.out w5 pg KG.out) (some ⟨w5.heap.size,0,none⟩) 1 (R_one (heap_alloc_new w5 _) (Nat.le_refl _)) HSTB.out (by decide) (by decide) (by rw[HST.out];exact HD.out)).mono ?_;rintro e w6 ⟨v6,rfl,hr6,hb6⟩;obtain ⟨gd,cd,hv6,_⟩:=Kd.R_form hr6 (by have:=HLEN.out;omega);rw[HLEN.out] at hv6;subst hv6;have M1:=am' (bb' K1.out hb6);have M2:=am' (bb' K2.out hb6);have M5:=am' (bb' K5.out hb6);have MG:=am' (bb' KG.out hb6);have HBN:=am' (bt' HBL.out hb6);have HR6:=am' hr6;clear x10 x11 x12 x50 x51 c0_ f0_ c1_ f1_ hb6 K1 K2 K5 KG HBL hr6))
    obtain ⟨dv,hdv⟩:∃ x,x=rd rr 0:=⟨_,rfl⟩
    have hx0:w6.cell? ⟨gd,0,none⟩=some (.int .i64 dv):=by
     have:=(Kd.R_celln 0 HR6.out 0 (by omega) (by omega)).1;rw[hdv];simpa [rd,rdOf] using this
    have HDV:=am' hdv;clear hdv;have x50:w6.cell? ⟨w3.heap.size,0,none⟩=some (.int .i64 162):=(bc' M5.out 0).trans rfl;have x51:w6.cell? ⟨w3.heap.size,1,none⟩=some (.func (.func 79) #[] #[.pointer (some ⟨pg,0,none⟩)]):=(bc' M5.out 1).trans rfl;have HW3:=am' HBJ.out.size;have hg1:w.heap.size+1 < w3.heap.size:=HP2L.out;have HGD:=am' (show gd≠w.heap.size+1 from fun q=>by have h1:=Kd.R_base HR6.out gd (by simp[Value.ownBlock]);have h2:=HW5.out;have h3:=blk_lt K2'.out;omega);have HKP:=am' (put2_kept w6 (w.heap.size+1) (.int .i64 162) (.func (.func 79) #[] #[.pointer (some ⟨pg,0,none⟩)]));have q0:=cell_kept x50 HKP.out (fun q=>by dsimp only at q;omega);have q1:=cell_kept x51 HKP.out (fun q=>by dsimp only at q;omega);have q2:=cell_kept hx0 HKP.out (fun q=>HGD.out q);obtain ⟨c0_,f0_,c1_,f1_⟩:=put2 M2.out (.int .i64 162) (.func (.func 79) #[] #[.pointer (some ⟨pg,0,none⟩)])
    go_region_held3 (fun w'=>w'.cell? ⟨w3.heap.size,0,none⟩=some (.int .i64 162)∧w'.cell? ⟨w3.heap.size,1,none⟩=some (.func (.func 79) #[] #[.pointer (some ⟨pg,0,none⟩)])∧w'.cell? ⟨gd,0,none⟩=some (.int .i64 dv))
     (first|exact ⟨q0,q1,q2⟩|go_keep)
     (first|(fail)|(fail))
    all_goals
     have hsz5:=blk_lt K2'.out;have hszw:=HBN.out.size;have hRR:(Kd.int .i64).R 3 ((w6.setCell ⟨w.heap.size+1,0,none⟩ (.int .i64 162)).setCell ⟨w.heap.size+1,1,none⟩ (.func (.func 79) #[] #[.pointer (some ⟨pg,0,none⟩)])) w.heap.size (fun _=>True) (.slice (some ⟨gd,0,none⟩) 162 cd) rr:=Kd.R_lower (Kd.R_mono (Kd.R_kept (Kd.R_bound HR6.out) HKP.out (fun k hk q=>by have h1:=hk.2.1;omega)) (fun _ _=>trivial)) (by omega);have hBB:Below w.heap.size w ((w6.setCell ⟨w.heap.size+1,0,none⟩ (.int .i64 162)).setCell ⟨w.heap.size+1,1,none⟩ (.func (.func 79) #[] #[.pointer (some ⟨pg,0,none⟩)])):=bs' (bs' HBN.out (by omega)) (by omega);have HRR:=am' hRR;have HBB:=am' hBB;clear hRR hBB hsz5 hszw;go_wp2;refine bodyPost_ret (results_ctt rfl _ _ (w.heap.size+1) 49 #[.int .i64 162, .func (.func 79) #[] #[.pointer (some ⟨pg,0,none⟩)]] (0,0) _ rfl (put2_blk M2.out _ _) Try.underlying49 rfl xk') rfl ?_
     refine ⟨pg, .slice (some ⟨gd,0,none⟩) 162 cd,by rw[← HDV.out];rfl,?_,?_,(fun _=>HLEN.out),?_⟩
     ·
      exact blk_put2 MG.out (fun q=>by have h1:=MG.out;rw[q,M2.out] at h1;simp at h1)
     ·
      exact HRR.out
     ·
      first|exact HBB.out|exact below_drew HBB.out|exact bd' HBB.out _
   ·
    rw[if_neg hlen] at h;cases h
abbrev RowE:=Int × Int × Value
def TC (W:World) (g:Nat) (rows:List RowE):Prop:=∀ (j:Nat) (e:RowE),rows[j]? = some e→W.cell? ⟨g,j * 3,none⟩=some (.int .i64 e.1)∧W.cell? ⟨g,j * 3+1,none⟩=some (.int .i64 e.2.1)∧W.cell? ⟨g,j * 3+2,none⟩=some e.2.2
def aggE (e:RowE):Value := .agg #[.int .i64 e.1, .int .i64 e.2.1,e.2.2]
def PredE (g:Nat) (lb:Array Value) (p:RowE→Bool) (xs:List RowE) (w:World) (O:Nat→Prop):Prop :=
 ∀ x,x ∈ xs→∀ W:World,Kept w W O→Calls Try.prog g (#[aggE x] ++ lb) W fun e w'=>e = .returned (.bool (p x))∧Below W.heap.size W w'
def idxE (p:RowE→Bool) (xs:List RowE):Int:=if xs.findIdx p < xs.length then (xs.findIdx p:Nat) else -1
theorem TC.cell {w W:World} {g:Nat} {rows:List RowE} (h:TC w g rows) (hb:Below w.heap.size w W):TC W g rows:=fun j e hj=>by
 obtain ⟨h0,h1,h2⟩:=h j e hj
 exact ⟨(hb.cell (bl' w _ h0)).trans h0,(hb.cell (bl' w _ h1)).trans h1,(hb.cell (bl' w _ h2)).trans h2⟩
set_option maxHeartbeats 4000000 in
set_option maxRecDepth 100000 in
theorem IndexE_any (g:Nat) (lb:Array Value) (p:RowE→Bool) (eg:∀ args w,(callFunc g args).run Try.prog w = .ok (.enter g args) w) (gb:Nat) (A0:Option Addr) (c0:Nat) (xs:List RowE) (w:World) (O:Nat→Prop) (hA:0 < xs.length→A0=some ⟨gb,0,none⟩) (hr:TC w gb xs) (hl:xs.length≤c0) (hbig:xs.length≤1048576)
  (hp:PredE g lb p xs w O) :
  Calls Try.prog 90 #[.slice A0 xs.length c0, .func (.func g) #[] lb] w fun e w'=>e = .returned (.int .i64 (idxE p xs))∧Below w.heap.size w w':=by
 have hue:=Try.underlying81
 have HP:=am' hp
 have HR:=am' hr
 have HBG:=am' hbig
 clear hp hr;go_enter Try.func90,Try.ntmps90
 go_wp2
 go_loopg [5,8] xs.length (fun gg _ s8 wr=>∃ kk:Nat,kk≤xs.length∧xs.length - kk≤gg∧s8 = .int .i64 (kk:Int)∧Aside0 (Below w.heap.size w wr)∧Aside0 (∀ j (e:RowE),j < kk→xs[j]? = some e→p e=false))
 case atStart=>exact ⟨0,Nat.zero_le _,by omega,rfl,⟨Below.refl _ w⟩,⟨fun j e hj=>absurd hj (Nat.not_lt_zero _)⟩⟩
 case round =>
  obtain ⟨kk,hkk,hg,rfl,BW,AA⟩:=hrel;by_cases hlt:kk < xs.length
  ·
   have hltz:(kk:Int) < (xs.length:Int):=by omega
   obtain rfl:=hA (by omega);obtain ⟨x,hx⟩:∃ x,xs[kk]? = some x:=⟨_,List.getElem?_eq_getElem hlt⟩
   have HX:=am' hx;obtain ⟨hx0,hx1,hx2⟩:=TC.cell HR.out BW.out kk x hx;have hcall:=HP.out x (List.mem_of_getElem? hx) wr (Kept.of_below BW.out O);clear hx;cases hq:p x with
   | true =>
    have HQ:=am' hq;rw[hq] at hcall;clear hq;unfold aggE at hcall
    go_wp2_with fail;refine hcall.mono ?_
    rintro e w' ⟨rfl,hb'⟩
    have HB2:=am' (bt' BW.out hb');clear hcall hx0 hx1 hx2 hb';go_wp2;go_ret
    refine ⟨?_,HB2.out⟩
    have hfi:xs.findIdx p=kk:=by
     rw[List.findIdx_eq hlt];obtain ⟨h1,h2⟩:=List.getElem?_eq_some_iff.1 HX.out
     refine ⟨by rw[h2];exact HQ.out,fun j hj=>?_⟩;exact AA.out j _ hj (List.getElem?_eq_getElem (by omega))
    unfold idxE
    rw[hfi,if_pos hlt];rfl
   | false =>
    have HQ:=am' hq;rw[hq] at hcall;clear hq;unfold aggE at hcall
    go_wp2_with fail;refine hcall.mono ?_
    rintro e w' ⟨rfl,hb'⟩
    have HB2:=am' (bt' BW.out hb');clear hcall hx0 hx1 hx2 hb';go_wp2;go_roundg (xs.length - (kk+1))
    case measure=>omega
    case rel =>
     refine ⟨kk+1,by omega,by omega,by have hb_:=HBG.out;first|rfl|exact nxt (by omega)|exact nxt2 (by omega),HB2,⟨fun j e hj he=>?_⟩⟩;by_cases q:j=kk
     ·
      subst q;rw[HX.out] at he;obtain rfl:=os' he;exact HQ.out
     ·
      exact AA.out j e (by omega) he
  ·
   have hltz:¬ (kk:Int) < (xs.length:Int):=by omega
   have:kk=xs.length:=by omega
   subst this;go_wp2;go_ret
   refine ⟨?_,BW.out⟩
   have hfi:¬ xs.findIdx p < xs.length:=by
    intro q;have h1:=List.findIdx_getElem (p:=p) (w:=q);have h2:=AA.out _ _ q (List.getElem?_eq_getElem q);rw[h1] at h2;cases h2
   unfold idxE
   rw[if_neg hfi];rfl
def BlkE (W:World) (g n:Nat):Prop:=∃ cells,W.heap[g]? = some (.cells cells 81 (0,0))∧n * 3≤cells.size
theorem BlkE.cell {W:World} {g n:Nat} (h:BlkE W g n) (o:Nat) (ho:o < n * 3):(∃ v,W.cell? ⟨g,o,none⟩=some v)∧W.frozen? ⟨g,o,none⟩=false:=by
 obtain ⟨cells,hb,hs⟩:=h
 have hlt:o < cells.size:=by omega
 refine ⟨⟨cells[o],?_⟩,?_⟩
 ·
  simp[World.cell?,hb,Array.getElem?_eq_getElem hlt]
 ·
  simp[World.frozen?,hb]
theorem BlkE.put {W:World} {g n:Nat} (h:BlkE W g n) (o:Nat) (v:Value):BlkE (W.setCell ⟨g,o,none⟩ v) g n:=by
 obtain ⟨cells,hb,hs⟩:=h
 exact ⟨cells.setIfInBounds o v,blk_put hb o v rfl,by simpa using hs⟩
theorem BlkE.kept {W W1:World} {g n:Nat} {O:Nat→Prop} (h:BlkE W g n) (hk:Kept W W1 O) (hg:¬ O g):BlkE W1 g n:=by
 obtain ⟨cells,hb,hs⟩:=h
 exact ⟨cells,blk_kept hb hk hg,hs⟩
theorem BlkE.below {W W1:World} {g n:Nat} (h:BlkE W g n) (hb':Below W.heap.size W W1):BlkE W1 g n:=by
 obtain ⟨cells,hb,hs⟩:=h
 exact ⟨cells,bb' hb hb',hs⟩
theorem put_same {W:World} {g n:Nat} (h:BlkE W g n) (o:Nat) (ho:o < n * 3) (v:Value):(W.setCell ⟨g,o,none⟩ v).cell? ⟨g,o,none⟩=some v:=by
 obtain ⟨cells,hb,hs⟩:=h
 have h2:=blk_put hb o v rfl
 have hlt:o < cells.size:=by omega
 simp[World.cell?,h2,hlt]
theorem put_other (W:World) (g o o2:Nat) (h:o2≠o) (v:Value):(W.setCell ⟨g,o,none⟩ v).cell? ⟨g,o2,none⟩=W.cell? ⟨g,o2,none⟩:=World.cell?_setCell_other _ _ _ _ (fun e=>h (by injection e with _ q _;exact q.symm))
theorem TC.put {W:World} {g:Nat} {rows:List RowE} (h:TC W g rows) {n:Nat} (hb:BlkE W g n) (i:Nat) (hi:i < n) (e:RowE):TC (((W.setCell ⟨g,i * 3,none⟩ (.int .i64 e.1)).setCell ⟨g,i * 3+1,none⟩ (.int .i64 e.2.1)).setCell ⟨g,i * 3+2,none⟩ e.2.2) g (rows.set i e):=by
 intro j x hj;rw[List.getElem?_set] at hj
 by_cases q:i=j
 ·
  subst q;rw[if_pos rfl] at hj;split at hj
  ·
   obtain rfl:=os' hj;refine ⟨?_,?_,?_⟩
   ·
    rw[put_other _ _ _ _ (by omega),put_other _ _ _ _ (by omega)];exact put_same hb _ (by omega) _
   ·
    rw[put_other _ _ _ _ (by omega)];exact put_same (hb.put _ _) _ (by omega) _
   ·
    exact put_same ((hb.put _ _).put _ _) _ (by omega) _
  ·
   cases hj
 ·
  rw[if_neg q] at hj;obtain ⟨h0,h1,h2⟩:=h j x hj;refine ⟨?_,?_,?_⟩ <;> rw [put_other _ _ _ _ (by omega),put_other _ _ _ _ (by omega),put_other _ _ _ _ (by omega)] <;> assumption
theorem zeroC (z:Array Value) (n:Nat) (v:Value) (h:v ∈ (Builtin.zeroCells z n).toList) (h1:∀ x ∈ z,x.oneCell'=true) (hz:0 < z.size):v.oneCell'=true:=by
 unfold Builtin.zeroCells at h
 simp only[Array.toList_map,List.mem_map] at h
 obtain ⟨i,_,rfl⟩:=h
 have hlt:i % z.size < z.size:=Nat.mod_lt _ hz
 rw[getElem!_pos z _ hlt]
 exact h1 _ (Array.getElem_mem hlt)
theorem run_clear3 (w:World) (t e ty:TypeId) (z:Value) (ht:Try.prog.underlying t=some (.slice e)) (hv:∀ w,(zeroValue e).run Try.prog w = .ok z w) (hz3:z.cells.size=3) (h1:∀ x ∈ z.cells,x.oneCell'=true) (b o n c:Nat) (hn:0 < n)
  (hc:∀ j,j < n * 3→(w.cell? ⟨b,o+j,none⟩).isSome=true) (hf:∀ j,j < n * 3→w.frozen? ⟨b,o+j,none⟩=false) :
  (Builtin.clear_ #[t] ty #[.slice (some ⟨b,o,none⟩) n c]).run Try.prog w = .ok (.tuple #[]) (w.setCells b o (Builtin.zeroCells z.cells n).toList):=by
 have hlen:(Builtin.zeroCells z.cells n).toList.length=n * 3:=by simp[Builtin.zeroCells,hz3]
 have hst:=run_storeCells_cells (P:=Try.prog) b o (Builtin.zeroCells z.cells n).toList 0 w (by rw[hlen];simpa using hc) (by rw[hlen];simpa using hf) (fun v hv'=>zeroC _ _ v hv' h1 (by omega))
 simp only[Nat.add_zero] at hst
 obtain ⟨m,rfl⟩:∃ m,n=m+1:=⟨n - 1,by omega⟩
 simp[Builtin.clear_,run_underlying ht,hv,hst]
theorem put3E {W:World} {g n:Nat} (h:BlkE W g n) (o:Nat) (ho:o+2 < n * 3) (v0 v1 v2:Value):(∃ u0 u1 u2,W.cell? ⟨g,o,none⟩=some u0∧W.frozen? ⟨g,o,none⟩=false∧(W.setCell ⟨g,o,none⟩ v0).cell? ⟨g,o+1,none⟩=some u1∧(W.setCell ⟨g,o,none⟩ v0).frozen? ⟨g,o+1,none⟩=false∧((W.setCell ⟨g,o,none⟩ v0).setCell ⟨g,o+1,none⟩ v1).cell? ⟨g,o+2,none⟩=some u2∧((W.setCell ⟨g,o,none⟩ v0).setCell ⟨g,o+1,none⟩ v1).frozen? ⟨g,o+2,none⟩=false) ∧
  ((((W.setCell ⟨g,o,none⟩ v0).setCell ⟨g,o+1,none⟩ v1).setCell ⟨g,o+2,none⟩ v2).cell? ⟨g,o,none⟩=some v0∧(((W.setCell ⟨g,o,none⟩ v0).setCell ⟨g,o+1,none⟩ v1).setCell ⟨g,o+2,none⟩ v2).cell? ⟨g,o+1,none⟩=some v1∧(((W.setCell ⟨g,o,none⟩ v0).setCell ⟨g,o+1,none⟩ v1).setCell ⟨g,o+2,none⟩ v2).cell? ⟨g,o+2,none⟩=some v2):=by
 obtain ⟨⟨u0,h0⟩,f0⟩:=h.cell o (by omega)
 obtain ⟨⟨u1,h1⟩,f1⟩:=(h.put o v0).cell (o+1) (by omega)
 obtain ⟨⟨u2,h2⟩,f2⟩:=((h.put o v0).put (o+1) v1).cell (o+2) (by omega)
 refine ⟨⟨u0,u1,u2,h0,f0,h1,f1,h2,f2⟩,?_,?_,?_⟩
 ·
  rw[put_other _ _ _ _ (by omega),put_other _ _ _ _ (by omega)];exact put_same h _ (by omega) _
 ·
  rw[put_other _ _ _ _ (by omega)];exact put_same (h.put _ _) _ (by omega) _
 ·
  exact put_same ((h.put _ _).put _ _) _ (by omega) _
theorem kept_setCells {w:World} {S:Nat→Prop} (b:Nat) (hS:S b):∀ (vs:List Value) (o:Nat) (W:World),Kept w W S→Kept w (W.setCells b o vs) S:=by
 intro vs;induction vs with
 | nil=>intro o W h;exact h
 | cons v r ih=>intro o W h;exact ih (o+1) _ (h.setCell (.inl hS) v)
theorem below_setB {B:Nat} {w W:World} (h:Below B w W) {p:Addr} (hp:B≤p.block) (v:Value):Below B w (W.setCell p v) :=
 ⟨h.os,h.tape,h.output,by rw[World.size_setCell];exact h.size,fun k hk=>(Below.heap_setCell _ _ _ _ (by omega)).trans (h.block k hk)⟩
theorem below_setCells {w:World} {B:Nat} (b:Nat) (hb:B≤b):∀ (vs:List Value) (o:Nat) (W:World),Below B w W→Below B w (W.setCells b o vs):=by
 intro vs;induction vs with
 | nil=>intro o W h;exact h
 | cons v r ih=>intro o W h;exact ih (o+1) _ (below_setB h hb v)
structure DelInv (p:RowE→Bool) (xs cur:List RowE) (i j:Nat):Prop where
 len:cur.length=xs.length
 lt:i < j
 le:j≤xs.length
 tk:cur.take i=(xs.take j).filter (fun x => !(p x))
 dr:cur.drop j=xs.drop j
theorem DelInv.start {p:RowE→Bool} {xs:List RowE} {i0:Nat} (h:i0=xs.findIdx p) (hf:i0 < xs.length):DelInv p xs xs i0 (i0+1):=by
 have hq:=(List.findIdx_eq hf).1 h.symm
 have h1:(xs.take i0).filter (fun x => !(p x))=xs.take i0:=by
  rw[List.filter_eq_self];intro x hx;obtain ⟨n,hn,rfl⟩:=List.mem_iff_getElem.1 hx;rw[List.getElem_take];rw[List.length_take] at hn;rw[hq.2 n (by omega)];rfl
 refine ⟨rfl,Nat.lt_succ_self _,hf,?_,rfl⟩
 rw[List.take_add_one,List.filter_append,h1,List.getElem?_eq_getElem hf]
 simp[hq.1]
theorem DelInv.at {p:RowE→Bool} {xs cur:List RowE} {i j:Nat} (h:DelInv p xs cur i j) {x:RowE} (hx:xs[j]? = some x):cur[j]? = some x:=by
 have h1:(cur.drop j)[0]? = (xs.drop j)[0]? := by rw[h.dr]
 rw[List.getElem?_drop,List.getElem?_drop,Nat.add_zero] at h1
 rw[h1,hx]
theorem drop_succ_eq {α:Type} {a b:List α} {j:Nat} (h:a.drop j=b.drop j):a.drop (j+1)=b.drop (j+1):=by
 have:=congrArg (List.drop 1) h
 rwa [List.drop_drop,List.drop_drop] at this
theorem DelInv.skip {p:RowE→Bool} {xs cur:List RowE} {i j:Nat} (h:DelInv p xs cur i j) {x:RowE} (hx:xs[j]? = some x) (hp:p x=true):DelInv p xs cur i (j+1):=by
 have hj:=(List.getElem?_eq_some_iff.1 hx).1
 refine ⟨h.len,by have:=h.lt;omega,hj,?_,drop_succ_eq h.dr⟩
 rw[List.take_add_one,List.filter_append,hx,← h.tk]
 simp[hp]
theorem DelInv.keep {p:RowE→Bool} {xs cur:List RowE} {i j:Nat} (h:DelInv p xs cur i j) {x:RowE} (hx:xs[j]? = some x) (hp:p x=false):DelInv p xs (cur.set i x) (i+1) (j+1):=by
 have hj:=(List.getElem?_eq_some_iff.1 hx).1
 have hl:=h.len
 have hlt:=h.lt
 refine ⟨by simpa using h.len,by omega,hj,?_,?_⟩
 ·
  rw[List.take_add_one,List.take_set_of_le (Nat.le_refl i),List.getElem?_set_self (by omega),h.tk,List.take_add_one,List.filter_append,hx];simp[hp]
 ·
  rw[List.drop_set_of_lt (by omega)];exact drop_succ_eq h.dr
theorem DelInv.done {p:RowE→Bool} {xs cur:List RowE} {i:Nat} (h:DelInv p xs cur i xs.length):cur.take i=xs.filter (fun x => !(p x))∧i=(xs.filter (fun x => !(p x))).length:=by
 have h1:=h.tk
 rw[List.take_length] at h1
 refine ⟨h1,?_⟩
 rw[← h1,List.length_take]
 have:=h.len
 have:=h.lt
 omega
set_option maxHeartbeats 4000000 in
set_option maxRecDepth 100000 in
theorem DeleteE_any (B:Nat) (g:Nat) (lb:Array Value) (p:RowE→Bool) (eg:∀ args w,(callFunc g args).run Try.prog w = .ok (.enter g args) w) (gb:Nat) (A0:Option Addr) (c0:Nat) (xs:List RowE) (w:World) (hA:0 < xs.length→A0=some ⟨gb,0,none⟩) (hr:TC w gb xs) (hk:0 < xs.length→BlkE w gb xs.length) (hl:xs.length≤c0) (hbig:xs.length≤1048576)
  (hsl:∀ x ∈ xs,∃ A n c,x.2.2 = .slice A n c) (hp:PredE g lb p xs w (fun k=>k=gb)) (hBg:B≤gb) (hBw:B≤w.heap.size) :
  Calls Try.prog 81 #[.slice A0 xs.length c0, .func (.func g) #[] lb] w fun e w'=>e = .returned (.slice A0 (xs.filter (fun x => !(p x))).length c0)∧TC w' gb (xs.filter (fun x => !(p x)))∧Kept w w' (fun k=>k=gb)∧Below B w w':=by
 have HBG':=am' hBg
 have HBW':=am' hBw
 clear hBg hBw;have hue:=Try.underlying81
 have hus:=Try.underlying82
 have HI:=am' (IndexE_any g lb p eg gb A0 c0 xs w _ hA hr hl hbig hp)
 have HP:=am' hp
 have HSL:=am' hsl
 clear hsl;have HR:=am' hr
 have HK:=am' hk
 have HBG:=am' hbig
 have HLC:=am' hl
 clear hp hr hk hl hbig;go_enter Try.func81,Try.ntmps81
 go_wp2_with fail
 go_at_call 90
 refine HI.out.mono ?_
 rintro e w1 ⟨rfl,hb1⟩
 have HB1:=am' hb1
 clear HI hb1;unfold idxE
 by_cases hf:xs.findIdx p < xs.length
 ·
  rw[if_pos hf];obtain rfl:=hA (by omega);obtain ⟨i0,hi0⟩:∃ i0,i0=xs.findIdx p:=⟨_,rfl⟩
  have HI0:=am' hi0;rw[← hi0] at hf ⊢;clear hi0;have hne:((i0:Int) == -1)=false:=beq_eq_false_iff_ne.2 (by omega);go_wp2_with fail;go_loopg [5,6,7] xs.length (fun gg v5 v6 _ wr=>∃ (i j:Nat) (cur:List RowE),v5 = .int .i64 (i:Int)∧v6 = .int .i64 (j:Int)∧Aside0 (xs.length - j≤gg)∧Aside0 (DelInv p xs cur i j)∧Aside0 (TC wr gb cur)∧Aside0 (BlkE wr gb xs.length)∧Aside0 (Kept w wr (fun k=>k=gb))∧Aside0 (w.heap.size≤wr.heap.size)∧Aside0 (Below B w wr))
  case atStart=>exact ⟨i0,i0+1,xs,rfl,by have hb_:=HBG.out;first|rfl|exact nxt (by omega)|exact nxt2 (by omega),⟨by omega⟩,⟨DelInv.start HI0.out hf⟩,⟨TC.cell HR.out HB1.out⟩,⟨(HK.out (by omega)).below HB1.out⟩,⟨Kept.of_below HB1.out _⟩,⟨HB1.out.size⟩,⟨HB1.out.mono HBW'.out⟩⟩
  case round =>
   obtain ⟨i,j,cur,rfl,rfl,HG,HD,HT,HBK,HKP,HSZ,HBB⟩:=hrel;clear HB1 HI0 hf hne;by_cases hj:j < xs.length
   ·
    have hjz:(j:Int) < (xs.length:Int):=by omega
    obtain ⟨x,hx⟩:∃ x,xs[j]? = some x:=⟨_,List.getElem?_eq_getElem hj⟩
    have HX:=am' hx;obtain ⟨hx0,hx1,hx2⟩:=HT.out j x (HD.out.at hx);have HJ:=am' hj;clear hx hj;obtain ⟨Ab,nb,cb,hv⟩:=HSL.out x (List.mem_of_getElem? HX.out);obtain ⟨x0,x1,xv⟩:=x;dsimp only at hv hx0 hx1 hx2
    subst hv;have HBX:=am' (heap_alloc_new wr (.cells #[.int .i64 x0, .int .i64 x1, .slice Ab nb cb] 81));have HBA:=am' (ba' (Below.refl wr.heap.size wr) (.cells #[.int .i64 x0, .int .i64 x1, .slice Ab nb cb] 81));have hcall:=HP.out (x0,x1, .slice Ab nb cb) (List.mem_of_getElem? HX.out) (wr.alloc (.cells #[.int .i64 x0, .int .i64 x1, .slice Ab nb cb] 81)) (HKP.out.alloc _);unfold aggE at hcall
    have HBK1:=am' (HBK.out.below HBA.out);have HT1:=am' (HT.out.cell HBA.out);clear hx0 hx1 hx2;cases hq:p (x0,x1, .slice Ab nb cb) with
    | true =>
     have HQ:=am' hq;rw[hq] at hcall;clear hq;have hx0:=(HT.out.cell (Below.refl _ _) j _ (HD.out.at HX.out)).1;have hx1:=(HT.out.cell (Below.refl _ _) j _ (HD.out.at HX.out)).2.1;have hx2:=(HT.out.cell (Below.refl _ _) j _ (HD.out.at HX.out)).2.2;dsimp only at hx0 hx1 hx2
     go_wp2_with fail;refine hcall.mono ?_
     rintro e w2 ⟨rfl,hb2⟩
     have HB2:=am' hb2;clear hcall hx0 hx1 hx2 hb2;go_wp2;go_roundg (xs.length - (j+1))
     case measure=>have h1:=HG.out;have h2:=HJ.out;omega
     case rel=>exact ⟨i,j+1,cur,rfl,by have hb_:=HBG.out;have h2:=HJ.out;first|rfl|exact nxt (by omega)|exact nxt2 (by omega),⟨Nat.le_refl _⟩,⟨HD.out.skip HX.out HQ.out⟩,⟨HT1.out.cell HB2.out⟩,⟨HBK1.out.below HB2.out⟩,⟨(HKP.out.alloc _).below HB2.out⟩,⟨by have h1:=HSZ.out;have h2:=HBA.out.size;have h3:=HB2.out.size;omega⟩,⟨(HBB.out.trans (HBA.out.mono (by have h1:=HSZ.out;have h2:=HBW'.out;omega))).trans (HB2.out.mono (by have h1:=HSZ.out;have h2:=HBW'.out;have h3:=HBA.out.size;omega))⟩⟩
    | false =>
     have HQ:=am' hq;rw[hq] at hcall;clear hq;have hx0:=(HT.out.cell (Below.refl _ _) j _ (HD.out.at HX.out)).1;have hx1:=(HT.out.cell (Below.refl _ _) j _ (HD.out.at HX.out)).2.1;have hx2:=(HT.out.cell (Below.refl _ _) j _ (HD.out.at HX.out)).2.2;dsimp only at hx0 hx1 hx2
     go_wp2_with fail;refine hcall.mono ?_
     rintro e w2 ⟨rfl,hb2⟩
     have HB2:=am' hb2;have y0:w2.cell? ⟨wr.heap.size,0,none⟩=some (.int .i64 x0):=(bc' (bb' HBX.out hb2) 0).trans rfl;have y1:w2.cell? ⟨wr.heap.size,1,none⟩=some (.int .i64 x1):=(bc' (bb' HBX.out hb2) 1).trans rfl;have y2:w2.cell? ⟨wr.heap.size,2,none⟩=some (.slice Ab nb cb):=(bc' (bb' HBX.out hb2) 2).trans rfl;have HBK2:=am' (HBK1.out.below HB2.out);have hil:i < xs.length:=by have h1:=HD.out.lt;have h2:=HJ.out;omega
     have HIL:=am' hil;have hilz:(i:Int) < (xs.length:Int):=by omega
     obtain ⟨⟨u0,u1,u2,q0,f0,q1,f1,q2,f2⟩,_⟩:=put3E HBK2.out (i * 3) (by omega) (.int .i64 x0) (.int .i64 x1) (.slice Ab nb cb);clear hcall hx0 hx1 hx2 hb2 hil;go_wp2_with fail;go_roundg (xs.length - (j+1))
     case measure=>have h1:=HG.out;have h2:=HJ.out;omega
     case rel =>
      have HTP:=HT1.out.cell HB2.out;exact ⟨i+1,j+1,cur.set i (x0,x1, .slice Ab nb cb),by have hb_:=HBG.out;have h2:=HIL.out;first|rfl|exact nxt (by omega)|exact nxt2 (by omega),by have hb_:=HBG.out;have h2:=HJ.out;first|rfl|exact nxt (by omega)|exact nxt2 (by omega),⟨Nat.le_refl _⟩,⟨HD.out.keep HX.out HQ.out⟩,⟨HTP.put HBK2.out i HIL.out (x0,x1, .slice Ab nb cb)⟩,⟨((HBK2.out.put _ _).put _ _).put _ _⟩,⟨((((HKP.out.alloc _).below HB2.out).setCell (.inl rfl) _).setCell (.inl rfl) _).setCell (.inl rfl) _⟩,⟨by have h1:=HSZ.out;have h2:=HBA.out.size;have h3:=HB2.out.size;simp only[World.size_setCell];omega⟩,⟨below_setB (below_setB (below_setB ((HBB.out.trans (HBA.out.mono (by have h1:=HSZ.out;have h2:=HBW'.out;omega))).trans (HB2.out.mono (by have h1:=HSZ.out;have h2:=HBW'.out;have h3:=HBA.out.size;omega))) HBG'.out _) HBG'.out _) HBG'.out _⟩⟩
   ·
    have hjz:¬ (j:Int) < (xs.length:Int):=by omega
    have hje:j=xs.length:=by have:=HD.out.le;omega
    subst hje;obtain ⟨hd1,hd2⟩:=HD.out.done;have hil:=HD.out.lt;have HD1:=am' hd1;have HD2:=am' hd2;have hlc:=HLC.out;have hic:(i:Int)≤(xs.length:Int):=by omega
    have hic0:(i:Int)≤(c0:Int):=by omega
    have hcl:∀ ty,(Builtin.clear_ #[82] ty #[.slice (some ⟨gb,i * 3,none⟩) (xs.length - i) (c0 - i)]).run Try.prog wr = .ok (.tuple #[]) (wr.setCells gb (i * 3) (Builtin.zeroCells (Value.agg #[.int .i64 0, .int .i64 0, .slice none 0 0]).cells (xs.length - i)).toList) :=
     fun ty=>run_clear3 wr _ _ ty (.agg #[.int .i64 0, .int .i64 0, .slice none 0 0]) hus (fun W=>by kernel_rfl) (by decide) (by decide) gb (i * 3) _ _ (by omega) (fun k hk=>by obtain ⟨⟨v,hv⟩,_⟩:=HBK.out.cell (i * 3+k) (by omega);rw[hv];rfl) (fun k hk=>(HBK.out.cell (i * 3+k) (by omega)).2)
    clear hd1 hd2;go_wp2;go_ret
    refine ⟨?_,?_,kept_setCells (S:=fun k=>k=gb) gb rfl _ _ _ HKP.out,below_setCells gb HBG'.out _ _ _ HBB.out⟩
    ·
     have hq:=HD2.out;generalize (xs.filter (fun x => !(p x))).length=q at hq ⊢;subst hq;rfl
    ·
     intro k e he;rw[← HD1.out,List.getElem?_take] at he;split at he
     ·
      rename_i hk
      obtain ⟨h0,h1,h2⟩:=HT.out k e he;refine ⟨?_,?_,?_⟩
      ·
       rw[World.cell?_setCells_out _ _ _ _ _ (fun _ _ => .inl (by dsimp only;omega))];exact h0
      ·
       rw[World.cell?_setCells_out _ _ _ _ _ (fun _ _ => .inl (by dsimp only;omega))];exact h1
      ·
       rw[World.cell?_setCells_out _ _ _ _ _ (fun _ _ => .inl (by dsimp only;omega))];exact h2
     ·
      cases he
 ·
  rw[if_neg hf];go_wp2;go_ret
  have hall:xs.filter (fun x => !(p x))=xs:=by
   rw[List.filter_eq_self];intro x hx;have h1:¬ ∃ y ∈ xs,p y=true:=fun q=>hf (List.findIdx_lt_length.2 q)
   cases hq:p x with
   | true=>exact absurd ⟨x,hx,hq⟩ h1
   | false=>rfl
  rw[hall];exact ⟨rfl,TC.cell HR.out HB1.out,Kept.of_below HB1.out _,HB1.out.mono HBW'.out⟩
end Go.Proofs.Ytabhhkiipilghaa.C1
