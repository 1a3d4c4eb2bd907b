import Derived.Test.YtabhhkiipilghaaC1zx0
import Derived.Test.YtabhhkiipilghaaC1zx1
import Derived.Test.YtabhhkiipilghaaC1zx2
import Derived.Test.YtabhhkiipilghaaC1zAl
namespace Go.Proofs.Ytabhhkiipilghaa.C1
open Go.RowKit Go.Proofs.YtabhhkiipilghaaW.PrintWords Go.Proofs.YtabhhkiipilghaaW.PrintLast Go.Proofs.YtabhhkiipilghaaW.PrintMore Go.Proofs.Ytabhhkiipilghaa.H
attribute [local go_sem] max2_int min2_int max_two min_two max_three min_three max_four min_four
set_option linter.unusedVariables false
set_option linter.unusedSimpArgs false
set_option maxHeartbeats 4000000 in
set_option maxRecDepth 100000 in
theorem best1_calls (A:Option Addr) (c:Nat) (dist:List Int) (s e0 e1:Int) (v2:Value) (pd ps:Nat) (w:World) (hd:w.cell? ⟨pd,0,none⟩=some (.slice A dist.length c)) (hs:w.cell? ⟨ps,0,none⟩=some (.int .i64 s)) (hr:Kd.C (Kd.int .i64) w A dist.length dist) (hc:dist.length≤c)
  (h0:0≤e0) (h1:e0 < (dist.length:Int)) (h2:0≤s) (h3:s < (dist.length:Int)) (h4:wrap64 (rd dist e0+e1)=rd dist e0+e1) :
  Calls Try.prog 82 #[.agg #[.int .i64 e0, .int .i64 e1,v2], .pointer (some ⟨pd,0,none⟩), .pointer (some ⟨ps,0,none⟩)] w fun e w'=>e = .returned (.bool (!(decide (0≤rd dist e0) && decide (rd dist e0+e1=rd dist s))))∧Below w.heap.size w w':=by
 have hue:=Try.underlying81
 obtain ⟨ad,ea,hx⟩:=Kd.at_int hr e0 h0 h1
 subst ea;obtain ⟨ads,eb,hy⟩:=Kd.at_int hr s h2 h3
 cases eb
 generalize rd dist e0=x at hx h4 ⊢
 generalize rd dist s=y at hy ⊢
 have HH:=am' (heap_alloc_new w (.cells #[.int .i64 e0, .int .i64 e1,v2] 81))
 have HBA:=am' (ba' (Below.refl w.heap.size w) (.cells #[.int .i64 e0, .int .i64 e1,v2] 81))
 have hp0:=eq_true h0
 have hp1:=eq_true h1
 have hp2:=eq_true h2
 have hp3:=eq_true h3
 go_enter Try.func82,Try.ntmps82
 have z0:(w.alloc (.cells #[.int .i64 e0, .int .i64 e1,v2] 81)).cell? ⟨w.heap.size,0,none⟩=some (.int .i64 e0):=(bc' HH.out 0).trans rfl
 have z1:(w.alloc (.cells #[.int .i64 e0, .int .i64 e1,v2] 81)).cell? ⟨w.heap.size,1,none⟩=some (.int .i64 e1):=(bc' HH.out 1).trans rfl
 have z2:=(HBA.out.cell (bl' w _ hd)).trans hd
 have z3:=(HBA.out.cell (bl' w _ hs)).trans hs
 have z4:=(HBA.out.cell (bl' w _ hx)).trans hx
 have z5:=(HBA.out.cell (bl' w _ hy)).trans hy
 clear hd hs hx hy hr hc;by_cases hl:x < 0
 ·
  have hlz:=dt' hl;rw[show (!(decide (0≤x) && decide (x+e1=y)))=true by rw[df' (show ¬ 0≤x by omega)];rfl];go_wp2_with fail;refine start_ (n:=22) (S:=fun w'=>w'.cell? ⟨w.heap.size,0,none⟩=some (.int .i64 e0)∧w'.cell? ⟨w.heap.size,1,none⟩=some (.int .i64 e1)∧w'.cell? ⟨pd,0,none⟩=some (.slice (some ad) dist.length c)∧w'.cell? ⟨ps,0,none⟩=some (.int .i64 s)∧w'.cell? (ad.add e0.toNat)=some (.int .i64 x)∧w'.cell? (ad.add s.toNat)=some (.int .i64 y)) (ds:=[]) #[false,false,false,false,false,false,false,false,false,false,false,false,false,false,false,false,false,false,false,false,false,false] xk' rfl rfl ⟨z0,z1,z2,z3,z4,z5⟩ (fun hHeld=>?_);refine take_ (i:=0) (N:=some 5) (v:=?_) (a':=?_) #[true,false,false,false,false,false,false,false,false,false,false,false,false,false,false,false,false,false,false,false,false,false] rfl rfl xk' (fun _ _ _ h=>h) (Or.inl ⟨by rfl,?_⟩) hHeld ?_ ?_
  rotate_left
  ·
   rintro w' ⟨s0_,s1_,s2_,s3_,s4_,s5_⟩
   go_simp;with_reducible rfl
  rotate_left
  ·
   simp only[Act.put,sa',sb',sc',i64_w,i32_w];rfl
  refine pure_ (i:=1) (N:=some 6) (v:=?_) (a':=?_) #[true,true,false,false,false,false,false,false,false,false,false,false,false,false,false,false,false,false,false,false,false,false] rfl rfl xk' (fun _ _ _ h=>h) (Or.inl ⟨by rfl,?_⟩) ?_ ?_
  rotate_left
  ·
   intro w';go_simp;with_reducible rfl
  rotate_left
  ·
   simp only[Act.put,sa',sb',sc',i64_w,i32_w];rfl
  refine take_ (i:=2) (N:=some 7) (v:=?_) (a':=?_) #[true,true,true,false,false,false,false,false,false,false,false,false,false,false,false,false,false,false,false,false,false,false] rfl rfl xk' (fun _ _ _ h=>h) (Or.inl ⟨by rfl,?_⟩) hHeld ?_ ?_
  rotate_left
  ·
   rintro w' ⟨s0_,s1_,s2_,s3_,s4_,s5_⟩
   go_simp;with_reducible rfl
  rotate_left
  ·
   simp only[Act.put,sa',sb',sc',i64_w,i32_w];rfl
  refine pure_ (i:=3) (N:=some 8) (v:=?_) (a':=?_) #[true,true,true,true,false,false,false,false,false,false,false,false,false,false,false,false,false,false,false,false,false,false] rfl rfl xk' (fun _ _ _ h=>h) (Or.inl ⟨by rfl,?_⟩) ?_ ?_
  rotate_left
  ·
   intro w';go_simp;with_reducible rfl
  rotate_left
  ·
   simp only[Act.put,sa',sb',sc',i64_w,i32_w];rfl
  refine take_ (i:=4) (N:=some 9) (v:=?_) (a':=?_) #[true,true,true,true,true,false,false,false,false,false,false,false,false,false,false,false,false,false,false,false,false,false] rfl rfl xk' (fun _ _ _ h=>h) (Or.inl ⟨by rfl,?_⟩) hHeld ?_ ?_
  rotate_left
  ·
   rintro w' ⟨s0_,s1_,s2_,s3_,s4_,s5_⟩
   go_simp;with_reducible rfl
  rotate_left
  ·
   simp only[Act.put,sa',sb',sc',i64_w,i32_w];rfl
  refine pure_ (i:=5) (N:=some 10) (v:=?_) (a':=?_) #[true,true,true,true,true,true,false,false,false,false,false,false,false,false,false,false,false,false,false,false,false,false] rfl rfl xk' (fun _ _ _ h=>h) (Or.inl ⟨by rfl,?_⟩) ?_ ?_
  rotate_left
  ·
   intro w';go_simp;with_reducible rfl
  rotate_left
  ·
   simp only[Act.put,sa',sb',sc',i64_w,i32_w];rfl
  refine pure_ (i:=6) (N:=some 11) (v:=?_) (a':=?_) #[true,true,true,true,true,true,true,false,false,false,false,false,false,false,false,false,false,false,false,false,false,false] rfl rfl xk' (fun _ _ _ h=>h) (Or.inl ⟨by rfl,?_⟩) ?_ ?_
  rotate_left
  ·
   intro w';go_simp;with_reducible rfl
  rotate_left
  ·
   simp only[Act.put,sa',sb',sc',i64_w,i32_w];rfl
  refine pure_ (i:=7) (N:=some 12) (v:=undef) (a':=?_) #[true,true,true,true,true,true,true,true,false,false,false,false,false,false,false,false,false,false,false,false,false,false] rfl rfl xk' (fun _ _ _ h=>h) (Or.inr ⟨by rfl,rfl⟩) ?_ ?_
  rotate_left
  ·
   simp only[Act.put,sa',sb',sc',i64_w,i32_w];rfl
  refine pure_ (i:=8) (N:=some 13) (v:=undef) (a':=?_) #[true,true,true,true,true,true,true,true,true,false,false,false,false,false,false,false,false,false,false,false,false,false] rfl rfl xk' (fun _ _ _ h=>h) (Or.inr ⟨by rfl,rfl⟩) ?_ ?_
  rotate_left
  ·
   simp only[Act.put,sa',sb',sc',i64_w,i32_w];rfl
  refine pure_ (i:=9) (N:=some 14) (v:=undef) (a':=?_) #[true,true,true,true,true,true,true,true,true,true,false,false,false,false,false,false,false,false,false,false,false,false] rfl rfl xk' (fun _ _ _ h=>h) (Or.inr ⟨by rfl,rfl⟩) ?_ ?_
  rotate_left
  ·
   simp only[Act.put,sa',sb',sc',i64_w,i32_w];rfl
  refine pure_ (i:=10) (N:=some 15) (v:=undef) (a':=?_) #[true,true,true,true,true,true,true,true,true,true,true,false,false,false,false,false,false,false,false,false,false,false] rfl rfl xk' (fun _ _ _ h=>h) (Or.inr ⟨by rfl,rfl⟩) ?_ ?_
  rotate_left
  ·
   simp only[Act.put,sa',sb',sc',i64_w,i32_w];rfl
  refine pure_ (i:=11) (N:=some 16) (v:=undef) (a':=?_) #[true,true,true,true,true,true,true,true,true,true,true,true,false,false,false,false,false,false,false,false,false,false] rfl rfl xk' (fun _ _ _ h=>h) (Or.inr ⟨by rfl,rfl⟩) ?_ ?_
  rotate_left
  ·
   simp only[Act.put,sa',sb',sc',i64_w,i32_w];rfl
  refine pure_ (i:=12) (N:=some 17) (v:=undef) (a':=?_) #[true,true,true,true,true,true,true,true,true,true,true,true,true,false,false,false,false,false,false,false,false,false] rfl rfl xk' (fun _ _ _ h=>h) (Or.inr ⟨by rfl,rfl⟩) ?_ ?_
  rotate_left
  ·
   simp only[Act.put,sa',sb',sc',i64_w,i32_w];rfl
  refine pure_ (i:=13) (N:=some 18) (v:=undef) (a':=?_) #[true,true,true,true,true,true,true,true,true,true,true,true,true,true,false,false,false,false,false,false,false,false] rfl rfl xk' (fun _ _ _ h=>h) (Or.inr ⟨by rfl,rfl⟩) ?_ ?_
  rotate_left
  ·
   simp only[Act.put,sa',sb',sc',i64_w,i32_w];rfl
  refine pure_ (i:=14) (N:=some 19) (v:=undef) (a':=?_) #[true,true,true,true,true,true,true,true,true,true,true,true,true,true,true,false,false,false,false,false,false,false] rfl rfl xk' (fun _ _ _ h=>h) (Or.inr ⟨by rfl,rfl⟩) ?_ ?_
  rotate_left
  ·
   simp only[Act.put,sa',sb',sc',i64_w,i32_w];rfl
  refine pure_ (i:=15) (N:=some 20) (v:=undef) (a':=?_) #[true,true,true,true,true,true,true,true,true,true,true,true,true,true,true,true,false,false,false,false,false,false] rfl rfl xk' (fun _ _ _ h=>h) (Or.inr ⟨by rfl,rfl⟩) ?_ ?_
  rotate_left
  ·
   simp only[Act.put,sa',sb',sc',i64_w,i32_w];rfl
  refine pure_ (i:=16) (N:=some 21) (v:=undef) (a':=?_) #[true,true,true,true,true,true,true,true,true,true,true,true,true,true,true,true,true,false,false,false,false,false] rfl rfl xk' (fun _ _ _ h=>h) (Or.inr ⟨by rfl,rfl⟩) ?_ ?_
  rotate_left
  ·
   simp only[Act.put,sa',sb',sc',i64_w,i32_w];rfl
  refine pure_ (i:=17) (N:=some 22) (v:=undef) (a':=?_) #[true,true,true,true,true,true,true,true,true,true,true,true,true,true,true,true,true,true,false,false,false,false] rfl rfl xk' (fun _ _ _ h=>h) (Or.inr ⟨by rfl,rfl⟩) ?_ ?_
  rotate_left
  ·
   simp only[Act.put,sa',sb',sc',i64_w,i32_w];rfl
  refine pure_ (i:=18) (N:=some 23) (v:=undef) (a':=?_) #[true,true,true,true,true,true,true,true,true,true,true,true,true,true,true,true,true,true,true,false,false,false] rfl rfl xk' (fun _ _ _ h=>h) (Or.inr ⟨by rfl,rfl⟩) ?_ ?_
  rotate_left
  ·
   simp only[Act.put,sa',sb',sc',i64_w,i32_w];rfl
  refine pure_ (i:=19) (N:=some 24) (v:=undef) (a':=?_) #[true,true,true,true,true,true,true,true,true,true,true,true,true,true,true,true,true,true,true,true,false,false] rfl rfl xk' (fun _ _ _ h=>h) (Or.inr ⟨by rfl,rfl⟩) ?_ ?_
  rotate_left
  ·
   simp only[Act.put,sa',sb',sc',i64_w,i32_w];rfl
  refine pure_ (i:=20) (N:=some 25) (v:=?_) (a':=?_) #[true,true,true,true,true,true,true,true,true,true,true,true,true,true,true,true,true,true,true,true,true,false] rfl rfl xk' (fun _ _ _ h=>h) (Or.inl ⟨by rfl,?_⟩) ?_ ?_
  rotate_left
  ·
   intro w';go_simp;with_reducible rfl
  rotate_left
  ·
   simp only[Act.put,sa',sb',sc',i64_w,i32_w];rfl
  refine pure_ (i:=21) (N:=some 4) (v:=?_) (a':=?_) #[true,true,true,true,true,true,true,true,true,true,true,true,true,true,true,true,true,true,true,true,true,true] rfl rfl xk' (fun _ _ _ h=>h) (Or.inl ⟨by rfl,?_⟩) ?_ ?_
  rotate_left
  ·
   intro w';go_simp;with_reducible rfl
  rotate_left
  ·
   simp only[Act.put,sa',sb',sc',i64_w,i32_w];rfl
  refine done_ xk' ?_
  go_wp2;go_ret
  exact ⟨rfl,be' HBA.out⟩
 ·
  have hlz:=df' hl;rw[show (!(decide (0≤x) && decide (x+e1=y))) = !(x+e1 == y) by rw[dt' (show 0≤x by omega),Bool.true_and];by_cases q:x+e1=y <;> simp [q]];go_wp2_with fail;refine start_ (n:=22) (S:=fun w'=>w'.cell? ⟨w.heap.size,0,none⟩=some (.int .i64 e0)∧w'.cell? ⟨w.heap.size,1,none⟩=some (.int .i64 e1)∧w'.cell? ⟨pd,0,none⟩=some (.slice (some ad) dist.length c)∧w'.cell? ⟨ps,0,none⟩=some (.int .i64 s)∧w'.cell? (ad.add e0.toNat)=some (.int .i64 x)∧w'.cell? (ad.add s.toNat)=some (.int .i64 y)) (ds:=[]) #[false,false,false,false,false,false,false,false,false,false,false,false,false,false,false,false,false,false,false,false,false,false] xk' rfl rfl ⟨z0,z1,z2,z3,z4,z5⟩ (fun hHeld=>?_);refine take_ (i:=0) (N:=some 5) (v:=?_) (a':=?_) #[true,false,false,false,false,false,false,false,false,false,false,false,false,false,false,false,false,false,false,false,false,false] rfl rfl xk' (fun _ _ _ h=>h) (Or.inl ⟨by rfl,?_⟩) hHeld ?_ ?_
  rotate_left
  ·
   rintro w' ⟨s0_,s1_,s2_,s3_,s4_,s5_⟩
   go_simp;with_reducible rfl
  rotate_left
  ·
   simp only[Act.put,sa',sb',sc',i64_w,i32_w];rfl
  refine pure_ (i:=1) (N:=some 6) (v:=?_) (a':=?_) #[true,true,false,false,false,false,false,false,false,false,false,false,false,false,false,false,false,false,false,false,false,false] rfl rfl xk' (fun _ _ _ h=>h) (Or.inl ⟨by rfl,?_⟩) ?_ ?_
  rotate_left
  ·
   intro w';go_simp;with_reducible rfl
  rotate_left
  ·
   simp only[Act.put,sa',sb',sc',i64_w,i32_w];rfl
  refine take_ (i:=2) (N:=some 7) (v:=?_) (a':=?_) #[true,true,true,false,false,false,false,false,false,false,false,false,false,false,false,false,false,false,false,false,false,false] rfl rfl xk' (fun _ _ _ h=>h) (Or.inl ⟨by rfl,?_⟩) hHeld ?_ ?_
  rotate_left
  ·
   rintro w' ⟨s0_,s1_,s2_,s3_,s4_,s5_⟩
   go_simp;with_reducible rfl
  rotate_left
  ·
   simp only[Act.put,sa',sb',sc',i64_w,i32_w];rfl
  refine pure_ (i:=3) (N:=some 8) (v:=?_) (a':=?_) #[true,true,true,true,false,false,false,false,false,false,false,false,false,false,false,false,false,false,false,false,false,false] rfl rfl xk' (fun _ _ _ h=>h) (Or.inl ⟨by rfl,?_⟩) ?_ ?_
  rotate_left
  ·
   intro w';go_simp;with_reducible rfl
  rotate_left
  ·
   simp only[Act.put,sa',sb',sc',i64_w,i32_w];rfl
  refine take_ (i:=4) (N:=some 9) (v:=?_) (a':=?_) #[true,true,true,true,true,false,false,false,false,false,false,false,false,false,false,false,false,false,false,false,false,false] rfl rfl xk' (fun _ _ _ h=>h) (Or.inl ⟨by rfl,?_⟩) hHeld ?_ ?_
  rotate_left
  ·
   rintro w' ⟨s0_,s1_,s2_,s3_,s4_,s5_⟩
   go_simp;with_reducible rfl
  rotate_left
  ·
   simp only[Act.put,sa',sb',sc',i64_w,i32_w];rfl
  refine pure_ (i:=5) (N:=some 10) (v:=?_) (a':=?_) #[true,true,true,true,true,true,false,false,false,false,false,false,false,false,false,false,false,false,false,false,false,false] rfl rfl xk' (fun _ _ _ h=>h) (Or.inl ⟨by rfl,?_⟩) ?_ ?_
  rotate_left
  ·
   intro w';go_simp;with_reducible rfl
  rotate_left
  ·
   simp only[Act.put,sa',sb',sc',i64_w,i32_w];rfl
  refine pure_ (i:=6) (N:=some 11) (v:=?_) (a':=?_) #[true,true,true,true,true,true,true,false,false,false,false,false,false,false,false,false,false,false,false,false,false,false] rfl rfl xk' (fun _ _ _ h=>h) (Or.inl ⟨by rfl,?_⟩) ?_ ?_
  rotate_left
  ·
   intro w';go_simp;with_reducible rfl
  rotate_left
  ·
   simp only[Act.put,sa',sb',sc',i64_w,i32_w];rfl
  refine take_ (i:=7) (N:=some 12) (v:=?_) (a':=?_) #[true,true,true,true,true,true,true,true,false,false,false,false,false,false,false,false,false,false,false,false,false,false] rfl rfl xk' (fun _ _ _ h=>h) (Or.inl ⟨by rfl,?_⟩) hHeld ?_ ?_
  rotate_left
  ·
   rintro w' ⟨s0_,s1_,s2_,s3_,s4_,s5_⟩
   go_simp;with_reducible rfl
  rotate_left
  ·
   simp only[Act.put,sa',sb',sc',i64_w,i32_w];rfl
  refine pure_ (i:=8) (N:=some 13) (v:=?_) (a':=?_) #[true,true,true,true,true,true,true,true,true,false,false,false,false,false,false,false,false,false,false,false,false,false] rfl rfl xk' (fun _ _ _ h=>h) (Or.inl ⟨by rfl,?_⟩) ?_ ?_
  rotate_left
  ·
   intro w';go_simp;with_reducible rfl
  rotate_left
  ·
   simp only[Act.put,sa',sb',sc',i64_w,i32_w];rfl
  refine take_ (i:=9) (N:=some 14) (v:=?_) (a':=?_) #[true,true,true,true,true,true,true,true,true,true,false,false,false,false,false,false,false,false,false,false,false,false] rfl rfl xk' (fun _ _ _ h=>h) (Or.inl ⟨by rfl,?_⟩) hHeld ?_ ?_
  rotate_left
  ·
   rintro w' ⟨s0_,s1_,s2_,s3_,s4_,s5_⟩
   go_simp;with_reducible rfl
  rotate_left
  ·
   simp only[Act.put,sa',sb',sc',i64_w,i32_w];rfl
  refine pure_ (i:=10) (N:=some 15) (v:=?_) (a':=?_) #[true,true,true,true,true,true,true,true,true,true,true,false,false,false,false,false,false,false,false,false,false,false] rfl rfl xk' (fun _ _ _ h=>h) (Or.inl ⟨by rfl,?_⟩) ?_ ?_
  rotate_left
  ·
   intro w';go_simp;with_reducible rfl
  rotate_left
  ·
   simp only[Act.put,sa',sb',sc',i64_w,i32_w];rfl
  refine take_ (i:=11) (N:=some 16) (v:=?_) (a':=?_) #[true,true,true,true,true,true,true,true,true,true,true,true,false,false,false,false,false,false,false,false,false,false] rfl rfl xk' (fun _ _ _ h=>h) (Or.inl ⟨by rfl,?_⟩) hHeld ?_ ?_
  rotate_left
  ·
   rintro w' ⟨s0_,s1_,s2_,s3_,s4_,s5_⟩
   go_simp;with_reducible rfl
  rotate_left
  ·
   simp only[Act.put,sa',sb',sc',i64_w,i32_w];rfl
  refine pure_ (i:=12) (N:=some 17) (v:=?_) (a':=?_) #[true,true,true,true,true,true,true,true,true,true,true,true,true,false,false,false,false,false,false,false,false,false] rfl rfl xk' (fun _ _ _ h=>h) (Or.inl ⟨by rfl,?_⟩) ?_ ?_
  rotate_left
  ·
   intro w';go_simp;with_reducible rfl
  rotate_left
  ·
   simp only[Act.put,sa',sb',sc',i64_w,i32_w];rfl
  refine take_ (i:=13) (N:=some 18) (v:=?_) (a':=?_) #[true,true,true,true,true,true,true,true,true,true,true,true,true,true,false,false,false,false,false,false,false,false] rfl rfl xk' (fun _ _ _ h=>h) (Or.inl ⟨by rfl,?_⟩) hHeld ?_ ?_
  rotate_left
  ·
   rintro w' ⟨s0_,s1_,s2_,s3_,s4_,s5_⟩
   go_simp;with_reducible rfl
  rotate_left
  ·
   simp only[Act.put,sa',sb',sc',i64_w,i32_w];rfl
  refine pure_ (i:=14) (N:=some 19) (v:=?_) (a':=?_) #[true,true,true,true,true,true,true,true,true,true,true,true,true,true,true,false,false,false,false,false,false,false] rfl rfl xk' (fun _ _ _ h=>h) (Or.inl ⟨by rfl,?_⟩) ?_ ?_
  rotate_left
  ·
   intro w';go_simp;with_reducible rfl
  rotate_left
  ·
   simp only[Act.put,sa',sb',sc',i64_w,i32_w];rfl
  refine take_ (i:=15) (N:=some 20) (v:=?_) (a':=?_) #[true,true,true,true,true,true,true,true,true,true,true,true,true,true,true,true,false,false,false,false,false,false] rfl rfl xk' (fun _ _ _ h=>h) (Or.inl ⟨by rfl,?_⟩) hHeld ?_ ?_
  rotate_left
  ·
   rintro w' ⟨s0_,s1_,s2_,s3_,s4_,s5_⟩
   go_simp;with_reducible rfl
  rotate_left
  ·
   simp only[Act.put,sa',sb',sc',i64_w,i32_w];rfl
  refine take_ (i:=16) (N:=some 21) (v:=?_) (a':=?_) #[true,true,true,true,true,true,true,true,true,true,true,true,true,true,true,true,true,false,false,false,false,false] rfl rfl xk' (fun _ _ _ h=>h) (Or.inl ⟨by rfl,?_⟩) hHeld ?_ ?_
  rotate_left
  ·
   rintro w' ⟨s0_,s1_,s2_,s3_,s4_,s5_⟩
   go_simp;with_reducible rfl
  rotate_left
  ·
   simp only[Act.put,sa',sb',sc',i64_w,i32_w];rfl
  refine pure_ (i:=17) (N:=some 22) (v:=?_) (a':=?_) #[true,true,true,true,true,true,true,true,true,true,true,true,true,true,true,true,true,true,false,false,false,false] rfl rfl xk' (fun _ _ _ h=>h) (Or.inl ⟨by rfl,?_⟩) ?_ ?_
  rotate_left
  ·
   intro w';go_simp;with_reducible rfl
  rotate_left
  ·
   simp only[Act.put,sa',sb',sc',i64_w,i32_w];rfl
  refine take_ (i:=18) (N:=some 23) (v:=?_) (a':=?_) #[true,true,true,true,true,true,true,true,true,true,true,true,true,true,true,true,true,true,true,false,false,false] rfl rfl xk' (fun _ _ _ h=>h) (Or.inl ⟨by rfl,?_⟩) hHeld ?_ ?_
  rotate_left
  ·
   rintro w' ⟨s0_,s1_,s2_,s3_,s4_,s5_⟩
   go_simp;with_reducible rfl
  rotate_left
  ·
   simp only[Act.put,sa',sb',sc',i64_w,i32_w];rfl
  refine pure_ (i:=19) (N:=some 24) (v:=?_) (a':=?_) #[true,true,true,true,true,true,true,true,true,true,true,true,true,true,true,true,true,true,true,true,false,false] rfl rfl xk' (fun _ _ _ h=>h) (Or.inl ⟨by rfl,?_⟩) ?_ ?_
  rotate_left
  ·
   intro w';go_simp;with_reducible rfl
  rotate_left
  ·
   simp only[Act.put,sa',sb',sc',i64_w,i32_w];rfl
  refine pure_ (i:=20) (N:=some 25) (v:=?_) (a':=?_) #[true,true,true,true,true,true,true,true,true,true,true,true,true,true,true,true,true,true,true,true,true,false] rfl rfl xk' (fun _ _ _ h=>h) (Or.inl ⟨by rfl,?_⟩) ?_ ?_
  rotate_left
  ·
   intro w';go_simp;with_reducible rfl
  rotate_left
  ·
   simp only[Act.put,sa',sb',sc',i64_w,i32_w];rfl
  refine pure_ (i:=21) (N:=some 4) (v:=?_) (a':=?_) #[true,true,true,true,true,true,true,true,true,true,true,true,true,true,true,true,true,true,true,true,true,true] rfl rfl xk' (fun _ _ _ h=>h) (Or.inl ⟨by rfl,?_⟩) ?_ ?_
  rotate_left
  ·
   intro w';go_simp;with_reducible rfl
  rotate_left
  ·
   simp only[Act.put,sa',sb',sc',i64_w,i32_w];rfl
  refine done_ xk' ?_
  go_wp2;go_ret
  exact ⟨rfl,be' HBA.out⟩
theorem rows_choose {P:Nat→Edg→Value→Prop}:∀ (es:List Edg) (s:Nat),(∀ (j:Nat) (e:Edg),es[j]? = some e→∃ v,P (s+j) e v)→∃ rows:List RowE,rows.length=es.length∧∀ (j:Nat) (e:Edg),es[j]? = some e→∃ v,rows[j]? = some (e.1,e.2.1,v)∧P (s+j) e v:=by
 intro es;induction es with
 | nil=>intro s _;exact ⟨[],rfl,fun j e h=>by simp at h⟩
 | cons x es ih =>
  intro s h;obtain ⟨v,hv⟩:=h 0 x rfl
  obtain ⟨rows,h1,h2⟩:=ih (s+1) (fun j e he=>by
   obtain ⟨u,hu⟩:=h (j+1) e (by simpa using he);exact ⟨u,by rw[show s+1+j=s+(j+1) by omega];exact hu⟩)
  refine ⟨(x.1,x.2.1,v) :: rows,by simp[h1],fun j e he=>?_⟩;cases j with
  | zero =>
   obtain rfl:x=e:=by simpa using he
   exact ⟨v,rfl,hv⟩
  | succ j =>
   obtain ⟨u,hu1,hu2⟩:=h2 j e (by simpa using he);exact ⟨u,by simpa using hu1,by rw[show s+(j+1)=s+1+j by omega];exact hu2⟩
def EdgB (W:World) (base:Nat) (gb:Nat) (rows:List RowE) (es:List Edg):Prop:=rows.length=es.length∧∀ (j:Nat) (e:Edg),es[j]? = some e→∃ v,rows[j]? = some (e.1,e.2.1,v)∧(Kd.int .i64).R 3 W base (fun k=>k≠gb) v e.2.2
theorem EdgB.cons {W:World} {base gb:Nat} {r:RowE} {rows:List RowE} {e:Edg} {es:List Edg} (h:EdgB W base gb (r :: rows) (e :: es)):(∃ v,r=(e.1,e.2.1,v)∧(Kd.int .i64).R 3 W base (fun k=>k≠gb) v e.2.2)∧EdgB W base gb rows es:=by
 obtain ⟨h1,h2⟩:=h
 refine ⟨?_,by simpa using h1,fun j x hx=>?_⟩
 ·
  obtain ⟨v,hv,hR⟩:=h2 0 e rfl;exact ⟨v,by simpa using hv,hR⟩
 ·
  obtain ⟨v,hv,hR⟩:=h2 (j+1) x (by simpa using hx);exact ⟨v,by simpa using hv,hR⟩
theorem EdgB.filter {W:World} {base gb:Nat} (q:RowE→Bool) (q2:Edg→Bool) (hq:∀ (e:Edg) (v:Value),q (e.1,e.2.1,v)=q2 e):∀ (rows:List RowE) (es:List Edg),EdgB W base gb rows es→EdgB W base gb (rows.filter q) (es.filter q2):=by
 intro rows;induction rows with
 | nil =>
  intro es h;obtain rfl:es=[]:=List.length_eq_zero_iff.1 h.1.symm;exact h
 | cons r rows ih =>
  intro es h;cases es with
  | nil=>have:=h.1;simp at this
  | cons e es =>
   obtain ⟨⟨v,rfl,hR⟩,ht⟩:=h.cons;have hi:=ih es ht;simp only[List.filter_cons,hq];split
   ·
    refine ⟨by simp[hi.1],fun j x hx=>?_⟩;cases j with
    | zero =>
     obtain rfl:e=x:=by simpa using hx
     exact ⟨v,rfl,hR⟩
    | succ j =>
     obtain ⟨u,hu,hRu⟩:=hi.2 j x (by simpa using hx);exact ⟨u,by simpa using hu,hRu⟩
   ·
    exact hi
theorem EdgB.kept {W W1:World} {base gb:Nat} {rows:List RowE} {es:List Edg} (h:EdgB W base gb rows es) (hk:Kept W W1 (fun k=>k=gb)):EdgB W1 base gb rows es :=
 ⟨h.1,fun j e he=>by
  obtain ⟨v,hv,hR⟩:=h.2 j e he;exact ⟨v,hv,Kd.R_kept hR hk (fun k hk=>hk)⟩⟩
def EdgAf (f:Nat→Nat) (W:World) (base:Nat) (gb:Nat) (rows:List RowE) (js:List Nat) (es:List Edg):Prop:=rows.length=es.length∧js.length=es.length∧∀ (j:Nat) (e:Edg),es[j]? = some e→∃ v q,rows[j]? = some (e.1,e.2.1,v)∧js[j]? = some q∧(Kd.int .i64).R 3 W base (fun k=>k≠gb∧f k=q) v e.2.2
def EdgA (W:World) (base:Nat) (gb:Nat) (rows:List RowE) (es:List Edg):Prop:=∃ (f:Nat→Nat) (js:List Nat),js.Nodup∧EdgAf f W base gb rows js es
theorem EdgAf.filter_ {f:Nat→Nat} {W:World} {base gb:Nat} (q:RowE→Bool) (q2:Edg→Bool) (hq:∀ (e:Edg) (v:Value),q (e.1,e.2.1,v)=q2 e):∀ (rows:List RowE) (js:List Nat) (es:List Edg),EdgAf f W base gb rows js es→∃ js':List Nat,js'.Sublist js∧EdgAf f W base gb (rows.filter q) js' (es.filter q2):=by
 intro rows;induction rows with
 | nil =>
  intro js es h;obtain rfl:es=[]:=List.length_eq_zero_iff.1 h.1.symm;exact ⟨js,List.Sublist.refl _,h⟩
 | cons r rows ih =>
  intro js es h;obtain ⟨h1,h2,h3⟩:=h;cases es with
  | nil=>simp at h1
  | cons e es =>
   cases js with
   | nil=>simp at h2
   | cons i js =>
    obtain ⟨v,i0,hv,hi0,hR⟩:=h3 0 e rfl;obtain rfl:r=(e.1,e.2.1,v):=by simpa using hv
    obtain rfl:i=i0:=by simpa using hi0
    obtain ⟨js',hs,hi1,hi2,hi3⟩:=ih js es ⟨by simpa using h1,by simpa using h2,fun j x hx=>by
     obtain ⟨u,q',hu,hq',hRu⟩:=h3 (j+1) x (by simpa using hx);exact ⟨u,q',by simpa using hu,by simpa using hq',hRu⟩⟩
    simp only[List.filter_cons,hq];split
    ·
     refine ⟨i :: js',hs.cons_cons i,by simp[hi1],by simp[hi2],fun j x hx=>?_⟩;cases j with
     | zero =>
      obtain rfl:e=x:=by simpa using hx
      exact ⟨v,i,rfl,rfl,hR⟩
     | succ j =>
      obtain ⟨u,q',hu,hq',hRu⟩:=hi3 j x (by simpa using hx);exact ⟨u,q',by simpa using hu,by simpa using hq',hRu⟩
    ·
     exact ⟨js',hs.cons i,hi1,hi2,hi3⟩
def EdgR (W:World) (base:Nat) (gb:Nat) (rows:List RowE) (es:List Edg):Prop:=EdgB W base gb rows es∧EdgA W base gb rows es
theorem EdgR.filter {W:World} {base gb:Nat} (q:RowE→Bool) (q2:Edg→Bool) (hq:∀ (e:Edg) (v:Value),q (e.1,e.2.1,v)=q2 e) (rows:List RowE) (es:List Edg) (h:EdgR W base gb rows es):EdgR W base gb (rows.filter q) (es.filter q2):=by
 obtain ⟨h1,f,js,hn,h2⟩:=h
 obtain ⟨js',hs,h3⟩:=EdgAf.filter_ q q2 hq rows js es h2
 exact ⟨EdgB.filter q q2 hq rows es h1,f,js',hn.sublist hs,h3⟩
theorem EdgR.kept {W W1:World} {base gb:Nat} {rows:List RowE} {es:List Edg} (h:EdgR W base gb rows es) (hk:Kept W W1 (fun k=>k=gb)):EdgR W1 base gb rows es:=by
 obtain ⟨h1,f,js,hn,a1,a2,a3⟩:=h
 exact ⟨EdgB.kept h1 hk,f,js,hn,a1,a2,fun j e he=>by
  obtain ⟨v,q,hv,hq,hR⟩:=a3 j e he;exact ⟨v,q,hv,hq,Kd.R_kept hR hk (fun k hk=>hk.1)⟩⟩
theorem edges_of {W:World} {base n cap:Nat} {A:Option Addr} {es:List Edg} (h:Kd.S EdgK 81 W base (fun _=>True) (.slice A n cap) es):∃ (gb:Nat) (rows:List RowE),(0 < rows.length→A=some ⟨gb,0,none⟩)∧base≤gb∧(0 < rows.length→BlkE W gb rows.length)∧TC W gb rows∧EdgR W base gb rows es∧(∀ x ∈ rows,∃ A n c,x.2.2 = .slice A n c):=by
 by_cases he:0 < es.length
 ·
  obtain ⟨g,cap',hv,hb,hlt,cells,hc⟩:=Kd.S_form h he;injection hv with hA hn _
  subst hA;subst hn;obtain ⟨f,hf⟩:=h;have hzl:es.zipIdx.length=es.length:=List.length_zipIdx
  obtain ⟨rows,h1,h2⟩:=rows_choose (P:=fun j e v=>W.cell? ⟨g,j * 3,none⟩=some (.int .i64 e.1)∧W.cell? ⟨g,j * 3+1,none⟩=some (.int .i64 e.2.1)∧W.cell? ⟨g,j * 3+2,none⟩=some v∧(Kd.int .i64).R 3 W base (fun k=>k≠g∧f k=j) v e.2.2∧(∀ k,k < 3→(W.cell? ⟨g,j * 3+k,none⟩).isSome=true)) es 0 (fun j e hj=>by
   have hl:=(List.getElem?_eq_some_iff.1 hj).1;obtain ⟨c,hcl,hM,hcc,_⟩:=Kd.R_elem hf ((0,0,[]),0) (j:Int) (by omega) (by omega);rw[Int.toNat_natCast,List.getD_eq_getElem?_getD,Kd.zip_at hj,Option.getD_some] at hM;obtain ⟨c0,c1,rfl,h0,c2,c3,rfl,h1,v,rfl,h2⟩:=hM;have h0:c0=[.int .i64 e.1]:=h0;have h1:c2=[.int .i64 e.2.1]:=h1;subst h0 h1;rw[Nat.zero_add];have q0:=hcc 0 _ rfl;have q1:=hcc 1 _ rfl;have q2:=hcc 2 _ rfl;rw[Int.toNat_natCast] at q0 q1 q2;refine ⟨v,q0,q1,q2,Kd.R_mono h2 (fun k hk=>⟨hk.1.2,hk.2⟩),fun k hk=>?_⟩;rcases (show k=0∨k=1∨k=2 by omega) with rfl|rfl|rfl
   ·
    exact Option.isSome_iff_exists.2 ⟨_,q0⟩
   ·
    exact Option.isSome_iff_exists.2 ⟨_,q1⟩
   ·
    exact Option.isSome_iff_exists.2 ⟨_,q2⟩)
  have hrow:∀ (j:Nat) (r:RowE),rows[j]? = some r→∃ e v,es[j]? = some e∧r=(e.1,e.2.1,v)∧W.cell? ⟨g,j * 3,none⟩=some (.int .i64 e.1)∧W.cell? ⟨g,j * 3+1,none⟩=some (.int .i64 e.2.1)∧W.cell? ⟨g,j * 3+2,none⟩=some v∧(Kd.int .i64).R 3 W base (fun k=>k≠g∧f k=j) v e.2.2:=fun j r hr=>by
   have hl:=(List.getElem?_eq_some_iff.1 hr).1;obtain ⟨v,hv,p1,p2,p3,p4,_⟩:=h2 j es[j] (List.getElem?_eq_getElem (by omega));rw[hr] at hv;rw[Nat.zero_add] at p1 p2 p3 p4;exact ⟨_,v,List.getElem?_eq_getElem (by omega),os' hv,p1,p2,p3,p4⟩
  refine ⟨g,rows,fun _=>rfl,hb,fun _=>⟨cells,hc,?_⟩,fun j r hr=>?_,⟨⟨h1,fun j e hj=>?_⟩,f,List.range es.length,List.nodup_range,h1,List.length_range,fun j e hj=>?_⟩,fun x hx=>?_⟩
  ·
   obtain ⟨_,_,_,_,_,_,hs⟩:=h2 (es.length - 1) es[es.length - 1] (List.getElem?_eq_getElem (by omega));have:=hs 2 (by omega);rw[Nat.zero_add] at this;rw[h1];by_cases q:es.length * 3≤cells.size
   ·
    exact q
   ·
    have hn:W.cell? ⟨g,(es.length - 1) * 3+2,none⟩=none:=by simp[World.cell?,hc];omega
    rw[hn] at this;cases this
  ·
   obtain ⟨e,v,_,rfl,p1,p2,p3,_⟩:=hrow j r hr;exact ⟨p1,p2,p3⟩
  ·
   obtain ⟨v,hv,_,_,_,p4,_⟩:=h2 j e hj;exact ⟨v,hv,Kd.R_mono p4 (fun k hk=>hk.1)⟩
  ·
   obtain ⟨v,hv,_,_,_,p4,_⟩:=h2 j e hj;rw[Nat.zero_add] at p4;exact ⟨v,j,hv,List.getElem?_range (List.getElem?_eq_some_iff.1 hj).1,p4⟩
  ·
   obtain ⟨j,hj,rfl⟩:=List.mem_iff_getElem.1 hx;obtain ⟨e,v,_,hr,_,_,_,p4⟩:=hrow j _ (List.getElem?_eq_getElem hj);obtain ⟨A1,c1,e1⟩:=Kd.R_slice p4;exact ⟨A1,_,c1,by rw[hr];exact e1⟩
 ·
  obtain rfl:es=[]:=List.length_eq_zero_iff.1 (by omega);exact ⟨base,[],fun h=>absurd h (by simp),Nat.le_refl _,fun h=>absurd h (by simp),fun j e h=>by simp at h,⟨⟨rfl,fun j e h=>by simp at h⟩,fun _=>0,[],List.nodup_nil,rfl,rfl,fun j e h=>by simp at h⟩,fun x hx=>by cases hx⟩
theorem EdgB.lower {W:World} {base b2 gb:Nat} {rows:List RowE} {es:List Edg} (h:EdgB W base gb rows es) (hb:b2≤base):EdgB W b2 gb rows es :=
 ⟨h.1,fun j e he=>by
  obtain ⟨v,hv,hR⟩:=h.2 j e he;exact ⟨v,hv,Kd.R_lower hR hb⟩⟩
theorem EdgB.mem {W:World} {base gb:Nat} {rows:List RowE} {es:List Edg} (h:EdgB W base gb rows es) {x:RowE} (hx:x ∈ rows):∃ e ∈ es,∃ v,x=(e.1,e.2.1,v):=by
 obtain ⟨j,hj,rfl⟩:=List.mem_iff_getElem.1 hx
 have hl:=h.1
 obtain ⟨v,hv,_⟩:=h.2 j es[j] (List.getElem?_eq_getElem (by omega))
 rw[List.getElem?_eq_getElem hj] at hv
 exact ⟨_,List.getElem_mem _,v,os' hv⟩
theorem EdgR.lower {W:World} {base b2 gb:Nat} {rows:List RowE} {es:List Edg} (h:EdgR W base gb rows es) (hb:b2≤base):EdgR W b2 gb rows es:=by
 obtain ⟨h1,f,js,hn,a1,a2,a3⟩:=h
 exact ⟨EdgB.lower h1 hb,f,js,hn,a1,a2,fun j e he=>by
  obtain ⟨v,q,hv,hq,hR⟩:=a3 j e he;exact ⟨v,q,hv,hq,Kd.R_lower hR hb⟩⟩
def delP (dist:List Int) (s:Int) (r:RowE):Bool := !(decide (0≤rd dist r.1) && decide (rd dist r.1+r.2.1=rd dist s))
theorem three_blocksB (w:World) (o0 o1 o2:Obj):(((w.alloc o0).alloc o1).alloc o2).heap[w.heap.size]? = some o0∧(((w.alloc o0).alloc o1).alloc o2).heap[w.heap.size+1]? = some o1∧(((w.alloc o0).alloc o1).alloc o2).heap[w.heap.size+1+1]? = some o2∧Below w.heap.size w (((w.alloc o0).alloc o1).alloc o2)∧(((w.alloc o0).alloc o1).alloc o2).heap.size=w.heap.size+1+1+1:=by
 have h1:(w.alloc o0).heap.size=w.heap.size+1:=World.size_alloc ..
 have h2:((w.alloc o0).alloc o1).heap.size=w.heap.size+1+1:=by rw[World.size_alloc,h1]
 have b1:=ba' (Below.refl (w.alloc o0).heap.size (w.alloc o0)) o1
 have b2:=ba' (Below.refl ((w.alloc o0).alloc o1).heap.size ((w.alloc o0).alloc o1)) o2
 refine ⟨bb' (bb' (heap_alloc_new w o0) b1) b2,?_,?_,bt' (bt' (ba' (Below.refl _ _) _) b1) b2,by rw[World.size_alloc,h2]⟩
 ·
  have:=bb' (heap_alloc_new (w.alloc o0) o1) b2;rwa [h1] at this
 ·
  have:=heap_alloc_new ((w.alloc o0).alloc o1) o2;rwa [h2] at this
set_option maxHeartbeats 4000000 in
set_option maxRecDepth 100000 in
theorem best_any (g:Nat) (lb:Array Value) (out:Int→Option (List Edg)) (n:Int) (dist:List Int) (es':List Edg) (s:Int) (W0 w:World) (eg:∀ args w,(callFunc g args).run Try.prog w = .ok (.enter g args) w) (hO:OutOk g lb out W0) (hB:Below W0.heap.size W0 w) (Ad:Option Addr) (cd:Nat) (hd:Kd.C (Kd.int .i64) w Ad dist.length dist) (hcd:dist.length≤cd) (h:bestF out dist s=some es') :
  Calls Try.prog 62 #[.agg #[.int .i64 n, .func (.func g) #[] lb], .int .i64 s, .slice Ad dist.length cd] w fun e w'=>∃ (gb:Nat) (A0:Option Addr) (c0:Nat) (rows:List RowE),e = .returned (.slice A0 rows.length c0)∧(0 < rows.length→A0=some ⟨gb,0,none⟩)∧w.heap.size≤gb∧TC w' gb rows∧EdgR w' w.heap.size gb rows es'∧Below w.heap.size w w':=by
 unfold bestF at h
 by_cases hs:0≤s∧s < (dist.length:Int)
 ·
  rw[if_pos hs] at h;obtain ⟨es,hes,h⟩:=Option.bind_eq_some_iff.mp h;by_cases hlim:es.length≤1048576∧es.all (edgOk dist)=true
  ·
   rw[if_pos hlim] at h;obtain rfl:=os' h;clear h;have hug:=Try.underlying49;have HS:=am' hs;have HE:=am' hes;have HLM:=am' hlim;have HO:=am' hO;have HB:=am' hB;have HD:=am' hd;have HCD:=am' hcd;clear hs hes hlim hO hB hd hcd;have HL3:=am' (three_blocksB w (.cells #[.int .i64 n, .func (.func g) #[] lb] 49) (.cells #[.int .i64 s] 3) (.cells #[.slice Ad dist.length cd] 28));go_enter Try.func62,Try.ntmps62;have y0:=(bc' HL3.out.1 1).trans (show _=some (.func (.func g) #[] lb) from rfl);have y1:=(bc' HL3.out.2.1 0).trans (show _=some (.int .i64 s) from rfl);go_wp2_with fail;generalize hW:((w.alloc (.cells #[.int .i64 n, .func (.func g) #[] lb] 49)).alloc (.cells #[.int .i64 s] 3)).alloc (.cells #[.slice Ad dist.length cd] 28)=W3 at HL3 y0 y1 ⊢
   clear hW y0 y1;refine (HO.out W3 (bt' HB.out HL3.out.2.2.2.1) s es HE.out).mono ?_
   rintro e w4 ⟨v,rfl,hS,hb4⟩
   obtain ⟨A0,c0,rfl⟩:=Kd.S_slice hS;obtain ⟨gb,rows,hA,hgb,hblk,htc,her,hsl⟩:=edges_of hS;have hlc:=(Kd.S_reads' hS).2.1;have hlen:=her.1.1;rw[← hlen] at hlc ⊢;have HS4:=am' hb4;have HGB:=am' (show w.heap.size+3≤gb from by have h1:=HL3.out.2.2.2.2;omega);have HTC:=am' htc;have HBLK:=am' hblk;have HER:=am' (her.lower (b2:=w.heap.size) (by have h1:=HL3.out.2.2.2.2;omega));have HAA:=am' hA;have HSL:=am' hsl;have HLC:=am' hlc;have HBW:=am' (bt' HL3.out.2.2.2.1 HS4.out);have HBX1:=am' (bb' HL3.out.2.1 HS4.out);have HBX2:=am' (bb' HL3.out.2.2.1 HS4.out);have HBIG:=am' (show rows.length≤1048576 by have:=HLM.out.1;omega)
   have HP:=am' (show PredE 82 #[.pointer (some ⟨w.heap.size+1+1,0,none⟩), .pointer (some ⟨w.heap.size+1,0,none⟩)] (delP dist s) rows w4 (fun k=>k=gb) from fun x hx W hk=>by
    have hg:=HGB.out;obtain ⟨e,he,v,rfl⟩:=HER.out.1.mem hx;have hok:=List.all_eq_true.1 HLM.out.2 e he;unfold edgOk at hok
    simp only[Bool.and_eq_true,decide_eq_true_eq] at hok;exact best1_calls Ad cd dist s e.1 e.2.1 v (w.heap.size+1+1) (w.heap.size+1) W (cell_kept ((bc' HBX2.out 0).trans rfl) hk (by dsimp only;omega)) (cell_kept ((bc' HBX1.out 0).trans rfl) hk (by dsimp only;omega)) (Kd.C_kept_came (Kd.heap_int .i64) HD.out HBW.out (fun k hk=>by omega) W hk) HCD.out hok.1.1.1 hok.1.1.2 HS.out.1 HS.out.2 (wr_id (by omega) (by omega)))
   clear hS hA hgb hblk htc her hsl hlc hlen hb4;go_wp2_with fail;go_at_call 81
   refine (DeleteE_any w.heap.size 82 #[.pointer (some ⟨w.heap.size+1+1,0,none⟩), .pointer (some ⟨w.heap.size+1,0,none⟩)] (delP dist s) (enters_of Try.func82 xk' rfl) gb A0 c0 rows w4 HAA.out HTC.out HBLK.out HLC.out HBIG.out HSL.out HP.out (by have:=HGB.out;omega) HBW.out.size).mono ?_
   rintro e w5 ⟨rfl,h1,h2,h3⟩
   have H1:=am' h1;have H2:=am' h2;have H3:=am' h3;clear h1 h2 h3;go_wp2;go_ret
   refine ⟨gb,A0,c0,rows.filter (fun x => !(delP dist s x)),rfl,fun hq=>HAA.out ?_,by have:=HGB.out;omega,H1.out,?_,HBW.out.trans (H3.out)⟩
   ·
    have:=List.length_filter_le (fun x => !(delP dist s x)) rows;omega
   ·
    exact EdgR.kept (EdgR.filter (fun x => !(delP dist s x)) (onB dist s) (fun e v=>by simp[delP,onB]) rows es HER.out) H2.out
  ·
   rw[if_neg hlim] at h;cases h
 ·
  rw[if_neg hs] at h;cases h
set_option maxHeartbeats 4000000 in
set_option maxRecDepth 100000 in
theorem first_any (g:Nat) (lb:Array Value) (out:Int→Option (List Edg)) (n:Int) (dist:List Int) (k:Nat) (r:List (List Int)) (s:Int) (W0 w:World) (eg:∀ args w,(callFunc g args).run Try.prog w = .ok (.enter g args) w) (hO:OutOk g lb out W0) (hB:Below W0.heap.size W0 w) (Ad:Option Addr) (cd:Nat) (hd:Kd.C (Kd.int .i64) w Ad dist.length dist) (hcd:dist.length≤cd) (h:firstF out dist k s []=some r) :
  Calls Try.prog 29 #[.agg #[.int .i64 n, .func (.func g) #[] lb], .int .i64 s, .slice Ad dist.length cd] w fun e w'=>∃ v,e = .returned v∧Kd.S RowsK 28 w' w.heap.size (fun _=>True) v r∧Below w.heap.size w w':=by
 have hug:=Try.underlying49
 have hue:=Try.underlying81
 have hinfo:=am' (show (Try.prog.info? 28).map (fun i=>(i.zero,i.size,i.bytes))=some (some (.slice none 0 0),1,24) by kernel_rfl)
 have HO:=am' hO
 have HB:=am' hB
 have HD:=am' hd
 have HCD:=am' hcd
 have HR:=am' h
 have HL2:=am' (two_blocks w (.cells #[.int .i64 n, .func (.func g) #[] lb] 49) (.cells #[] 28))
 clear hO hB hd hcd h;go_enter Try.func29,Try.ntmps29
 go_wp2_with fail
 generalize hW:(w.alloc (.cells #[.int .i64 n, .func (.func g) #[] lb] 49)).alloc (.cells #[] 28)=W3 at HL2 ⊢
 clear hW;go_loopg [1,7,8] k (fun gg v1 v7 _ wr=>∃ (u:Int) (acc:List (List Int)) (Ao:Option Addr) (co:Nat),v1 = .int .i64 u∧v7 = .slice Ao acc.length co∧Aside0 (firstF out dist gg u acc=some r)∧Aside0 (Kd.S RowsK 28 wr w.heap.size (fun k=>k≠w.heap.size) (.slice Ao acc.length co) acc)∧Aside0 (Below w.heap.size w wr)∧Aside0 (wr.heap[w.heap.size]? = some (.cells #[.int .i64 n, .func (.func g) #[] lb] 49 (0,0))))
 case atStart=>exact ⟨s,[],_,_,rfl,rfl,HR,⟨S_empty _ HL2.out.2.1 (by omega) (by omega)⟩,⟨HL2.out.2.2⟩,⟨HL2.out.1⟩⟩
 case round =>
  obtain ⟨u,acc,Ao,co,rfl,rfl,HF,HS,HBW,HBX⟩:=hrel;cases gk with
  | zero=>exact absurd HF.out (by simp[firstF])
  | succ g1 =>
  have hF:=HF.out;rw[firstF] at hF;clear HR HF;by_cases hu:0≤u∧u < (dist.length:Int)
  ·
   rw[if_pos hu] at hF;obtain ⟨ad,e0',hx0⟩:=Kd.at_int HD.out u hu.1 hu.2;subst e0';have hx:=(HBW.out.cell (bl' w _ hx0)).trans hx0;clear hx0;have hu0:=eq_true hu.1;have hu1:=eq_true hu.2;have HU:=am' hu;by_cases hp:0 < rd dist u
   ·
    rw[if_pos hp] at hF;obtain ⟨es,hes,hF⟩:=Option.bind_eq_some_iff.mp hF;have HES:=am' hes;cases es with
    | nil=>cases hF
    | cons ed rest =>
     obtain ⟨e0,e1,l⟩:=ed;dsimp only at hF
     by_cases hal:acc.length < 1048576
     ·
      rw[if_pos hal] at hF;have HF:=am' hF;have HAL:=am' hal;have hpz:=dt' hp;have y0:=(bc' HBX.out 0).trans (show _=some (.int .i64 n) from rfl);have y1:=(bc' HBX.out 1).trans (show _=some (.func (.func g) #[] lb) from rfl);generalize rd dist u=xu at hx hp hpz
      clear hF hal hes;go_wp2_with fail;go_at_call 62
      refine (best_any g lb out n dist _ u W0 wr eg HO.out (bt' HB.out HBW.out) (some ad) cd (cb' HD.out HBW.out) HCD.out HES.out).mono ?_
      rintro e w2 ⟨gb,A0,c0,rows,rfl,hA,hgb,htc,her,hb2⟩
      have hrl:0 < rows.length:=by rw[her.1.1];simp
      obtain rfl:=hA hrl;obtain ⟨v0,hv0,hR0⟩:=her.1.2 0 (e0,e1,l) rfl;obtain ⟨Al,cl,rfl⟩:=Kd.R_slice hR0;obtain ⟨z0,z1,z2⟩:=htc 0 _ hv0;have z0:w2.cell? ⟨gb,0,none⟩=some (.int .i64 e0):=z0;have z1:w2.cell? ⟨gb,1,none⟩=some (.int .i64 e1):=z1;have z2:w2.cell? ⟨gb,2,none⟩=some (.slice Al l.length cl):=z2;have hrz:(0:Int) < (rows.length:Int):=by omega
      have HB2:=am' (bt' HBW.out hb2);have HS2:=am' hb2.size;have HSW:=am' (blk_lt HBX.out);have HSO2:=am' (Kd.S_old HS.out hb2)
      have HVL:=am' (show ∀ k,(Value.slice Ao acc.length co).ownBlock=some k→k≠w.heap.size∧k < wr.heap.size from fun k hk=>by
       obtain ⟨f,h0,_⟩:=Kd.S_bound HS.out;have:=h0 k hk;exact ⟨this.1,this.2.2.1⟩)
      have HBX2:=am' (bb' HBX.out hb2);have HBA:=am' (ba' (Below.refl w2.heap.size w2) (.cells #[.int .i64 e0, .int .i64 e1, .slice Al l.length cl] 81));have HPE:=am' (heap_alloc_new w2 (.cells #[.int .i64 e0, .int .i64 e1, .slice Al l.length cl] 81));have HB5:=am' (bt' HB2.out HBA.out);have HS5:=am' HBA.out.size;have HRL:=am' (show (Kd.int .i64).R 3 (w2.alloc (.cells #[.int .i64 e0, .int .i64 e1, .slice Al l.length cl] 81)) w.heap.size (fun k=>wr.heap.size≤k∧k < w2.heap.size∧k≠gb) (.slice Al l.length cl) l from rb' (Kd.R_lower (Kd.R_mono (Kd.R_bound hR0) (fun k hk=>⟨hk.2.1,hk.2.2.1,hk.1⟩)) (by have:=HSW.out;omega)) HBA.out);have HSO:=am' (show Kd.S RowsK 28 (w2.alloc (.cells #[.int .i64 e0, .int .i64 e1, .slice Al l.length cl] 81)) w.heap.size (fun k=>k≠w.heap.size∧¬ (wr.heap.size≤k∧k < w2.heap.size∧k≠gb)) (.slice Ao acc.length co) acc from Kd.S_mono (Kd.S_old HSO2.out HBA.out) (fun k hk=>⟨hk.1.1,fun q=>by have:=hk.1.2;omega⟩));clear hrl hgb htc her hb2 hv0 hR0 y0 y1;go_wp2_with fail;have y3:(w2.alloc (.cells #[.int .i64 e0, .int .i64 e1, .slice Al l.length cl] 81)).cell? ⟨w2.heap.size,0,none⟩=some (.int .i64 e0):=(bc' HPE.out 0).trans rfl;have y4:(w2.alloc (.cells #[.int .i64 e0, .int .i64 e1, .slice Al l.length cl] 81)).cell? ⟨w2.heap.size,2,none⟩=some (.slice Al l.length cl):=(bc' HPE.out 2).trans rfl;have z3:=(cell_kept y3 ((Kept.drew (Kept.refl (w2.alloc (.cells #[.int .i64 e0, .int .i64 e1, .slice Al l.length cl] 81)) (fun _=>False))).alloc (.cells #[.slice Al l.length cl] 28)) (fun q=>q))
      have z4:=(cell_kept y4 ((Kept.drew (Kept.refl (w2.alloc (.cells #[.int .i64 e0, .int .i64 e1, .slice Al l.length cl] 81)) (fun _=>False))).alloc (.cells #[.slice Al l.length cl] 28)) (fun q=>q))
      refine start_ (n:=9) (S:=fun w'=>w'.cell? ⟨w2.heap.size,0,none⟩=some (.int .i64 e0)∧w'.cell? ⟨w2.heap.size,2,none⟩=some (.slice Al l.length cl)) (ds:=[]) #[false,false,false,false,false,false,false,false,false] xk' rfl rfl ⟨y3,y4⟩ (fun hHeld=>?_);refine pure_ (i:=0) (N:=some 21) (v:=?_) (a':=?_) #[true,false,false,false,false,false,false,false,false] rfl rfl xk' (fun _ _ _ h=>h) (Or.inl ⟨by rfl,?_⟩) ?_ ?_
      rotate_left
      ·
       intro w';go_simp;with_reducible rfl
      rotate_left
      ·
       simp only[Act.put,sa',sb',sc',i64_w,i32_w];rfl
      refine pure_ (i:=1) (N:=some 22) (v:=?_) (a':=?_) #[true,true,false,false,false,false,false,false,false] rfl rfl xk' (fun _ _ _ h=>h) (Or.inl ⟨by rfl,?_⟩) ?_ ?_
      rotate_left
      ·
       intro w';go_simp;with_reducible rfl
      rotate_left
      ·
       simp only[Act.put,sa',sb',sc',i64_w,i32_w];rfl
      refine take_ (i:=2) (N:=some 23) (v:=?_) (a':=?_) #[true,true,true,false,false,false,false,false,false] rfl rfl xk' (fun _ _ _ h=>h) (Or.inl ⟨by rfl,?_⟩) hHeld ?_ ?_
      rotate_left
      ·
       rintro w' ⟨s0_,s1_⟩
       go_simp;with_reducible rfl
      rotate_left
      ·
       simp only[Act.put,sa',sb',sc',i64_w,i32_w];rfl
      refine pure_ (i:=5) (N:=some 26) (v:=?_) (a':=?_) #[true,true,true,false,false,true,false,false,false] rfl rfl xk' (fun _ _ _ h=>h) (Or.inl ⟨by rfl,?_⟩) ?_ ?_
      rotate_left
      ·
       intro w';go_simp;with_reducible rfl
      rotate_left
      ·
       simp only[Act.put,sa',sb',sc',i64_w,i32_w];rfl
      refine take_ (i:=6) (N:=some 27) (v:=?_) (a':=?_) #[true,true,true,false,false,true,true,false,false] rfl rfl xk' (fun _ _ _ h=>h) (Or.inl ⟨by rfl,?_⟩) hHeld ?_ ?_
      rotate_left
      ·
       rintro w' ⟨s0_,s1_⟩
       go_simp;with_reducible rfl
      rotate_left
      ·
       simp only[Act.put,sa',sb',sc',i64_w,i32_w];rfl
      refine one_ (i:=3) (N:=some 24) #[true,true,true,true,false,true,true,false,false] rfl rfl xk' (by decide) (fun K hK=>?_);refine value_ (v := .slice (some ⟨(w2.alloc (.cells #[.int .i64 e0, .int .i64 e1, .slice Al l.length cl] 81)).heap.size,0,none⟩) 1 1) (w1:=(((w2.alloc (.cells #[.int .i64 e0, .int .i64 e1, .slice Al l.length cl] 81)).drew).alloc (.cells #[.slice Al l.length cl] 28))) (by rfl) rfl ?_ ?_
      ·
       go_simp
      refine hK.out _ _ ⟨z3,z4⟩ (fun hHeld=>?_);clear hK K;refine norm_ (a':=?_) ?_ ?_
      rotate_left
      ·
       show Act.put _ (some 24) _=_
       simp only[Act.put,sa',sb',sc',i64_w,i32_w];rfl
      refine one_ (i:=4) (N:=some 25) #[true,true,true,true,true,true,true,false,false] rfl rfl xk' (by decide) (fun K hK=>?_);refine Kd.S_append_step (Kd.slice 3 (Kd.int .i64)) (w0:=w) w.heap.size (by rfl) (.tmp 21) (.tmp 24) 22 28 (.slice none 0 0) 24 (by rfl) Try.underlying22 hinfo.out rfl (by decide) (by omega) (.slice Ao acc.length co) acc l [.slice Al l.length cl] (fun k=>k≠w.heap.size) (fun k=>wr.heap.size≤k∧k < w2.heap.size∧k≠gb) (by rfl) (by rfl) ?aP ?aK ?aF ?aO ?aB ?aS ?aL ?_
      (case aP=>exact ⟨_,rfl,HRL.out⟩)
      (case aK=>exact fun k hk=>⟨by have:=HSW.out;omega,fun q=>by have:=HVL.out k q.symm;omega⟩)
      (case aF=>exact fun k hk=>by have h1:=HSW.out;have h2:=HS2.out;have h3:=HS5.out;have h4:(w2.alloc (.cells #[.int .i64 e0, .int .i64 e1, .slice Al l.length cl] 81)).heap.size≤k:=hk;omega)
      (case aO=>exact HSO.out)
      (case aB=>exact be' HB5.out)
      (case aS=>exact HB5.out.size)
      (case aL=>have h1:=HAL.out;omega)
      intro v6 w6 ho hb hg hat;obtain ⟨A6,c6,e6⟩:=Kd.S_slice ho;subst e6;have HO6:=am' ho;have HB6:=am' hb;have HK6:=am' (show Kept (w2.alloc (.cells #[.int .i64 e0, .int .i64 e1, .slice Al l.length cl] 81)) w6 (fun k=>(Value.slice Ao acc.length co).ownBlock=some k) from Kept.of_grown hg (Kept.drew (Kept.refl _ _)) (fun k hk => .inl hk));clear ho hb hg hat;have q3:=cell_kept y3 HK6.out (fun q=>by have h1:=HVL.out _ q;have h2:=HS2.out;dsimp only at h1;omega);have q4:=cell_kept y4 HK6.out (fun q=>by have h1:=HVL.out _ q;have h2:=HS2.out;dsimp only at h1;omega);refine hK.out _ _ ⟨q3,q4⟩ (fun hHeld=>?_);clear hK K;refine norm_ (a':=?_) ?_ ?_
      rotate_left
      ·
       show Act.put _ (some 25) _=_
       simp only[Act.put,sa',sb',sc',i64_w,i32_w];rfl
      refine pure_ (i:=7) (N:=some 7) (v:=?_) (a':=?_) #[true,true,true,true,true,true,true,true,false] rfl rfl xk' (fun _ _ _ h=>h) (Or.inl ⟨by rfl,?_⟩) ?_ ?_
      rotate_left
      ·
       intro w';go_simp;with_reducible rfl
      rotate_left
      ·
       simp only[Act.put,sa',sb',sc',i64_w,i32_w];rfl
      refine pure_ (i:=8) (N:=some 1) (v:=?_) (a':=?_) #[true,true,true,true,true,true,true,true,true] rfl rfl xk' (fun _ _ _ h=>h) (Or.inl ⟨by rfl,?_⟩) ?_ ?_
      rotate_left
      ·
       intro w';go_simp;with_reducible rfl
      rotate_left
      ·
       simp only[Act.put,sa',sb',sc',i64_w,i32_w];rfl
      refine done_ xk' ?_
      go_wp2;go_roundg g1
      case measure=>omega
      case rel=>exact ⟨e0,acc ++ [l],A6,c6,rfl,by rw[List.length_append];rfl,HF,HO6,HB6,⟨blk_kept (bb' HBX2.out HBA.out) HK6.out (fun q=>(HVL.out _ q).1 rfl)⟩⟩
     ·
      rw[if_neg hal] at hF;cases hF
   ·
    rw[if_neg hp] at hF;obtain rfl:=os' hF;have hpz:=df' hp;generalize rd dist u=xu at hx hp hpz
    clear hF;go_wp2;go_ret
    exact ⟨_,rfl,Kd.S_mono HS.out (fun _ _=>trivial),HBW.out⟩
  ·
   rw[if_neg hu] at hF;cases hF
def impl_FirstForGuards.f (k:Nat) (a0 a1 a2:Int):Option (List (List Int) × Bool):=(impl_guarded_costs.f k a0 a1 a2).bind fun p=>if p.2=true then (if (0≤a0∧a0≤8)∧(0≤a1∧a1≤8)∧1≤a2∧a2≤4 then (firstF (gOut a0 a1 a2) p.1 k 0 []).bind fun r=>some (r,true) else none) else some ([],false)
theorem impl_FirstForGuards.mono:∀ a0 a1 a2 k,LeO (impl_FirstForGuards.f k a0 a1 a2) (impl_FirstForGuards.f (k+1) a0 a1 a2):=by
 intro a0 a1 a2 k;unfold impl_FirstForGuards.f
 exact LeO.bind (impl_guarded_costs.mono _ _ _ _) (fun _=>LeO.ite (LeO.ite (LeO.bind (fun r hr=>firstF_up (fun s es hs=>hs) _ _ _ _ _ hr) (fun _=>LeO.refl _)) (LeO.refl _)) (LeO.refl _))
set_option maxHeartbeats 2000000 in
set_option maxRecDepth 100000 in
theorem impl_FirstForGuards.calls (k:Nat) (a0:Int) (a1:Int) (a2:Int) (r1:List (List Int)) (r2:Bool) (w:World) (h:impl_FirstForGuards.f k a0 a1 a2=some (r1,r2)) :
  Calls Try.prog 5 #[.int .i64 a0, .int .i64 a1, .int .i64 a2] w fun e w'=>∃ v0_:Value,e = .returned (.tuple #[v0_, .bool r2])∧Kd.S (Kd.slice 3 (Kd.int .i64)) 28 w' w.heap.size (fun _=>True) v0_ r1∧Below w.heap.size w w':=by
 have hu:=Try.underlying52
 have hug:=Try.underlying49
 unfold impl_FirstForGuards.f at h
 obtain ⟨⟨r,ok⟩,hc,h⟩:=Option.bind_eq_some_iff.mp h
 have HC:=am' (impl_guarded_costs.calls k a0 a1 a2 r ok w hc)
 clear hc;cases ok with
 | false =>
  simp only[Bool.false_eq_true,if_false,Option.some.injEq,Prod.mk.injEq] at h;obtain ⟨rfl,rfl⟩:=h;go_enter Try.func5,Try.ntmps5;go_wp2_with (go_at_call 28;refine HC.out.mono ?_;rintro e w2 ⟨pg,v,rfl,hpg,hr,hl,hb⟩;obtain ⟨Av,cv,rfl⟩:=Kd.R_slice hr;have HB:=am' hb;clear hpg hr hl hb);go_ret2
  exact ⟨_,rfl,Kd.S_nil _ _ _ _ _,ba' HB.out _⟩
 | true =>
  simp only[if_true] at h;by_cases hg:(0≤a0∧a0≤8)∧(0≤a1∧a1≤8)∧1≤a2∧a2≤4
  case neg=>rw [if_neg hg] at h;cases h
  rw[if_pos hg] at h;obtain ⟨rr,hrr,h⟩:=Option.bind_eq_some_iff.mp h;simp only[Option.some.injEq,Prod.mk.injEq] at h;obtain ⟨rfl,rfl⟩:=h;obtain ⟨S,rfl⟩:∃ S:Nat,a2=(S:Int):=⟨a2.toNat,by omega⟩
  have HRR:=am' hrr;have HG:=am' hg;clear hrr hg;go_enter Try.func5,Try.ntmps5;go_wp2_with fail;refine HC.out.mono ?_
  rintro e w2 ⟨pg,v,rfl,hpg,hr,hl,hb⟩
  obtain ⟨Av,cv,rfl⟩:=Kd.R_slice hr;have HB:=am' hb;have hg:=HG.out;have HBA:=am' (ba' (Below.refl w2.heap.size w2) (.cells #[.int .i64 162, .func (.func 79) #[] #[.pointer (some ⟨pg,0,none⟩)]] 49));have HF:=am' (first_any 79 #[.pointer (some ⟨pg,0,none⟩)] _ 162 r k rr 0 w2 (w2.alloc (.cells #[.int .i64 162, .func (.func 79) #[] #[.pointer (some ⟨pg,0,none⟩)]] 49)) (enters_of Try.func79 xk' rfl) (guarded_out a0 a1 S hg.1 hg.2.1 (by omega) w2 pg hpg) HBA.out Av cv (cb' (Kd.R_reads' hr).2.2 HBA.out) (Kd.R_reads' hr).2.1 HRR.out);have HSA:=am' (bt' HB.out HBA.out);clear hpg hr hl hb hg;go_wp2_with fail;refine HF.out.mono ?_
  rintro e w5 ⟨v5,rfl,hS5,hb5⟩
  have HS5:=am' hS5;have HB5:=am' (bt' HSA.out hb5);clear hS5 hb5;go_wp2;go_ret2
  exact ⟨_,rfl,Kd.S_lower HS5.out HSA.out.size,HB5.out⟩
def spec_l1In.f (a0:Int) (a1:Int) (a2:Int):Option (Bool):=if a0 ≥ a1 then (some (decide (a0≤a2))) else (some false)
set_option maxHeartbeats 8000000 in
set_option maxRecDepth 100000 in
theorem spec_l1In.calls (a0:Int) (a1:Int) (a2:Int) (r:Bool) (w:World) (h:spec_l1In.f a0 a1 a2=some r) :
  Calls Try.prog 33 #[.int .i64 a0, .int .i64 a1, .int .i64 a2] w fun e w'=>e = .returned (.bool r)∧Drawn0 w w':=by
 have H:(if a0 ≥ a1 then (some (decide (a0≤a2))) else (some false))=some r:=h
 clear h;by_cases c4:a0 ≥ a1
 ·
  rw[if_pos c4] at H;have c4b0:decide (a1≤a0)=true:=dt' c4;clear c4;obtain rfl:=os' H;go_enter Try.func33,Try.ntmps33;go_wp2;go_ret
  exact ⟨xs',by repeat (first|exact Drawn0.refl _|apply Drawn0.step)⟩
 ·
  rw[if_neg c4] at H;have c4b0:decide (a1≤a0)=false:=df' c4;clear c4;obtain rfl:=os' H;go_enter Try.func33,Try.ntmps33;go_wp2;go_ret
  exact ⟨xs',by repeat (first|exact Drawn0.refl _|apply Drawn0.step)⟩
end Go.Proofs.Ytabhhkiipilghaa.C1
