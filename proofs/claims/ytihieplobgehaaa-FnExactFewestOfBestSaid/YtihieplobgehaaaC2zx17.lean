import Derived.Test.YtihieplobgehaaaC2zx0
import Derived.Test.YtihieplobgehaaaC2zx14
import Derived.Test.YtihieplobgehaaaC2zx16
import Derived.Test.YtihieplobgehaaaC2zAl
namespace Go.Proofs.Ytihieplobgehaaa.C2
open Go.RowKit Go.Proofs.YtihieplobgehaaaW.PrintWords Go.Proofs.YtihieplobgehaaaW.PrintLast Go.Proofs.YtihieplobgehaaaW.PrintMore Go.Proofs.Ytihieplobgehaaa.H
attribute [local go_sem] max2_int min2_int max_two min_two max_three min_three max_four min_four
set_option linter.unusedVariables false
set_option linter.unusedSimpArgs false
set_option maxHeartbeats 4000000 in
set_option maxRecDepth 100000 in
theorem best1_calls (A:Option Addr) (c:Nat) (dist:List Int) (s e0 e1:Int) (v2:Value) (pd ps:Nat) (w:World) (hd:w.cell? ⟨pd,0,none⟩=some (.slice A dist.length c)) (hs:w.cell? ⟨ps,0,none⟩=some (.int .i64 s)) (hr:Kd.C (Kd.int .i64) w A dist.length dist) (hc:dist.length≤c)
  (h0:0≤e0) (h1:e0 < (dist.length:Int)) (h2:0≤s) (h3:s < (dist.length:Int)) (h4:wrap64 (rd dist e0+e1)=rd dist e0+e1) :
  Calls Try.prog 75 #[.agg #[.int .i64 e0, .int .i64 e1,v2], .pointer (some ⟨pd,0,none⟩), .pointer (some ⟨ps,0,none⟩)] w fun e w'=>e = .returned (.bool (!(decide (0≤rd dist e0) && decide (rd dist e0+e1=rd dist s))))∧Below w.heap.size w w':=by
 have hue:=Try.underlying76
 obtain ⟨ad,ea,hx⟩:=Kd.at_int hr e0 h0 h1
 subst ea;obtain ⟨ads,eb,hy⟩:=Kd.at_int hr s h2 h3
 cases eb
 generalize rd dist e0=x at hx h4 ⊢
 generalize rd dist s=y at hy ⊢
 have HH:=am' (heap_alloc_new w (.cells #[.int .i64 e0, .int .i64 e1,v2] 76))
 have HBA:=am' (ba' (Below.refl w.heap.size w) (.cells #[.int .i64 e0, .int .i64 e1,v2] 76))
 have hp0:=eq_true h0
 have hp1:=eq_true h1
 have hp2:=eq_true h2
 have hp3:=eq_true h3
 go_enter Try.func75,Try.ntmps75
 have z0:(w.alloc (.cells #[.int .i64 e0, .int .i64 e1,v2] 76)).cell? ⟨w.heap.size,0,none⟩=some (.int .i64 e0):=(bc' HH.out 0).trans rfl
 have z1:(w.alloc (.cells #[.int .i64 e0, .int .i64 e1,v2] 76)).cell? ⟨w.heap.size,1,none⟩=some (.int .i64 e1):=(bc' HH.out 1).trans rfl
 have z2:=(HBA.out.cell (bl' w _ hd)).trans hd
 have z3:=(HBA.out.cell (bl' w _ hs)).trans hs
 have z4:=(HBA.out.cell (bl' w _ hx)).trans hx
 have z5:=(HBA.out.cell (bl' w _ hy)).trans hy
 clear hd hs hx hy hr hc;by_cases hl:x < 0
 ·
  have hlz:=dt' hl;rw[show (!(decide (0≤x) && decide (x+e1=y)))=true by rw[df' (show ¬ 0≤x by omega)];rfl];go_wp2_with fail;refine start_ (n:=22) (S:=fun w'=>w'.cell? ⟨w.heap.size,0,none⟩=some (.int .i64 e0)∧w'.cell? ⟨w.heap.size,1,none⟩=some (.int .i64 e1)∧w'.cell? ⟨pd,0,none⟩=some (.slice (some ad) dist.length c)∧w'.cell? ⟨ps,0,none⟩=some (.int .i64 s)∧w'.cell? (ad.add e0.toNat)=some (.int .i64 x)∧w'.cell? (ad.add s.toNat)=some (.int .i64 y)) (ds:=[]) #[false,false,false,false,false,false,false,false,false,false,false,false,false,false,false,false,false,false,false,false,false,false] xk' rfl rfl ⟨z0,z1,z2,z3,z4,z5⟩ (fun hHeld=>?_);refine take_ (i:=0) (N:=some 5) (v:=?_) (a':=?_) #[true,false,false,false,false,false,false,false,false,false,false,false,false,false,false,false,false,false,false,false,false,false] rfl rfl xk' (fun _ _ _ h=>h) (Or.inl ⟨by rfl,?_⟩) hHeld ?_ ?_
  rotate_left
  ·
   rintro w' ⟨s0_,s1_,s2_,s3_,s4_,s5_⟩
   go_simp;with_reducible rfl
  rotate_left
  ·
   simp only[Act.put,sa',sb',sc',i64_w,i32_w];rfl
  refine pure_ (i:=1) (N:=some 6) (v:=?_) (a':=?_) #[true,true,false,false,false,false,false,false,false,false,false,false,false,false,false,false,false,false,false,false,false,false] rfl rfl xk' (fun _ _ _ h=>h) (Or.inl ⟨by rfl,?_⟩) ?_ ?_
  rotate_left
  ·
   intro w';go_simp;with_reducible rfl
  rotate_left
  ·
   simp only[Act.put,sa',sb',sc',i64_w,i32_w];rfl
  refine take_ (i:=2) (N:=some 7) (v:=?_) (a':=?_) #[true,true,true,false,false,false,false,false,false,false,false,false,false,false,false,false,false,false,false,false,false,false] rfl rfl xk' (fun _ _ _ h=>h) (Or.inl ⟨by rfl,?_⟩) hHeld ?_ ?_
  rotate_left
  ·
   rintro w' ⟨s0_,s1_,s2_,s3_,s4_,s5_⟩
   go_simp;with_reducible rfl
  rotate_left
  ·
   simp only[Act.put,sa',sb',sc',i64_w,i32_w];rfl
  refine pure_ (i:=3) (N:=some 8) (v:=?_) (a':=?_) #[true,true,true,true,false,false,false,false,false,false,false,false,false,false,false,false,false,false,false,false,false,false] rfl rfl xk' (fun _ _ _ h=>h) (Or.inl ⟨by rfl,?_⟩) ?_ ?_
  rotate_left
  ·
   intro w';go_simp;with_reducible rfl
  rotate_left
  ·
   simp only[Act.put,sa',sb',sc',i64_w,i32_w];rfl
  refine take_ (i:=4) (N:=some 9) (v:=?_) (a':=?_) #[true,true,true,true,true,false,false,false,false,false,false,false,false,false,false,false,false,false,false,false,false,false] rfl rfl xk' (fun _ _ _ h=>h) (Or.inl ⟨by rfl,?_⟩) hHeld ?_ ?_
  rotate_left
  ·
   rintro w' ⟨s0_,s1_,s2_,s3_,s4_,s5_⟩
   go_simp;with_reducible rfl
  rotate_left
  ·
   simp only[Act.put,sa',sb',sc',i64_w,i32_w];rfl
  refine pure_ (i:=5) (N:=some 10) (v:=?_) (a':=?_) #[true,true,true,true,true,true,false,false,false,false,false,false,false,false,false,false,false,false,false,false,false,false] rfl rfl xk' (fun _ _ _ h=>h) (Or.inl ⟨by rfl,?_⟩) ?_ ?_
  rotate_left
  ·
   intro w';go_simp;with_reducible rfl
  rotate_left
  ·
   simp only[Act.put,sa',sb',sc',i64_w,i32_w];rfl
  refine pure_ (i:=6) (N:=some 11) (v:=?_) (a':=?_) #[true,true,true,true,true,true,true,false,false,false,false,false,false,false,false,false,false,false,false,false,false,false] rfl rfl xk' (fun _ _ _ h=>h) (Or.inl ⟨by rfl,?_⟩) ?_ ?_
  rotate_left
  ·
   intro w';go_simp;with_reducible rfl
  rotate_left
  ·
   simp only[Act.put,sa',sb',sc',i64_w,i32_w];rfl
  refine pure_ (i:=7) (N:=some 12) (v:=undef) (a':=?_) #[true,true,true,true,true,true,true,true,false,false,false,false,false,false,false,false,false,false,false,false,false,false] rfl rfl xk' (fun _ _ _ h=>h) (Or.inr ⟨by rfl,rfl⟩) ?_ ?_
  rotate_left
  ·
   simp only[Act.put,sa',sb',sc',i64_w,i32_w];rfl
  refine pure_ (i:=8) (N:=some 13) (v:=undef) (a':=?_) #[true,true,true,true,true,true,true,true,true,false,false,false,false,false,false,false,false,false,false,false,false,false] rfl rfl xk' (fun _ _ _ h=>h) (Or.inr ⟨by rfl,rfl⟩) ?_ ?_
  rotate_left
  ·
   simp only[Act.put,sa',sb',sc',i64_w,i32_w];rfl
  refine pure_ (i:=9) (N:=some 14) (v:=undef) (a':=?_) #[true,true,true,true,true,true,true,true,true,true,false,false,false,false,false,false,false,false,false,false,false,false] rfl rfl xk' (fun _ _ _ h=>h) (Or.inr ⟨by rfl,rfl⟩) ?_ ?_
  rotate_left
  ·
   simp only[Act.put,sa',sb',sc',i64_w,i32_w];rfl
  refine pure_ (i:=10) (N:=some 15) (v:=undef) (a':=?_) #[true,true,true,true,true,true,true,true,true,true,true,false,false,false,false,false,false,false,false,false,false,false] rfl rfl xk' (fun _ _ _ h=>h) (Or.inr ⟨by rfl,rfl⟩) ?_ ?_
  rotate_left
  ·
   simp only[Act.put,sa',sb',sc',i64_w,i32_w];rfl
  refine pure_ (i:=11) (N:=some 16) (v:=undef) (a':=?_) #[true,true,true,true,true,true,true,true,true,true,true,true,false,false,false,false,false,false,false,false,false,false] rfl rfl xk' (fun _ _ _ h=>h) (Or.inr ⟨by rfl,rfl⟩) ?_ ?_
  rotate_left
  ·
   simp only[Act.put,sa',sb',sc',i64_w,i32_w];rfl
  refine pure_ (i:=12) (N:=some 17) (v:=undef) (a':=?_) #[true,true,true,true,true,true,true,true,true,true,true,true,true,false,false,false,false,false,false,false,false,false] rfl rfl xk' (fun _ _ _ h=>h) (Or.inr ⟨by rfl,rfl⟩) ?_ ?_
  rotate_left
  ·
   simp only[Act.put,sa',sb',sc',i64_w,i32_w];rfl
  refine pure_ (i:=13) (N:=some 18) (v:=undef) (a':=?_) #[true,true,true,true,true,true,true,true,true,true,true,true,true,true,false,false,false,false,false,false,false,false] rfl rfl xk' (fun _ _ _ h=>h) (Or.inr ⟨by rfl,rfl⟩) ?_ ?_
  rotate_left
  ·
   simp only[Act.put,sa',sb',sc',i64_w,i32_w];rfl
  refine pure_ (i:=14) (N:=some 19) (v:=undef) (a':=?_) #[true,true,true,true,true,true,true,true,true,true,true,true,true,true,true,false,false,false,false,false,false,false] rfl rfl xk' (fun _ _ _ h=>h) (Or.inr ⟨by rfl,rfl⟩) ?_ ?_
  rotate_left
  ·
   simp only[Act.put,sa',sb',sc',i64_w,i32_w];rfl
  refine pure_ (i:=15) (N:=some 20) (v:=undef) (a':=?_) #[true,true,true,true,true,true,true,true,true,true,true,true,true,true,true,true,false,false,false,false,false,false] rfl rfl xk' (fun _ _ _ h=>h) (Or.inr ⟨by rfl,rfl⟩) ?_ ?_
  rotate_left
  ·
   simp only[Act.put,sa',sb',sc',i64_w,i32_w];rfl
  refine pure_ (i:=16) (N:=some 21) (v:=undef) (a':=?_) #[true,true,true,true,true,true,true,true,true,true,true,true,true,true,true,true,true,false,false,false,false,false] rfl rfl xk' (fun _ _ _ h=>h) (Or.inr ⟨by rfl,rfl⟩) ?_ ?_
  rotate_left
  ·
   simp only[Act.put,sa',sb',sc',i64_w,i32_w];rfl
  refine pure_ (i:=17) (N:=some 22) (v:=undef) (a':=?_) #[true,true,true,true,true,true,true,true,true,true,true,true,true,true,true,true,true,true,false,false,false,false] rfl rfl xk' (fun _ _ _ h=>h) (Or.inr ⟨by rfl,rfl⟩) ?_ ?_
  rotate_left
  ·
   simp only[Act.put,sa',sb',sc',i64_w,i32_w];rfl
  refine pure_ (i:=18) (N:=some 23) (v:=undef) (a':=?_) #[true,true,true,true,true,true,true,true,true,true,true,true,true,true,true,true,true,true,true,false,false,false] rfl rfl xk' (fun _ _ _ h=>h) (Or.inr ⟨by rfl,rfl⟩) ?_ ?_
  rotate_left
  ·
   simp only[Act.put,sa',sb',sc',i64_w,i32_w];rfl
  refine pure_ (i:=19) (N:=some 24) (v:=undef) (a':=?_) #[true,true,true,true,true,true,true,true,true,true,true,true,true,true,true,true,true,true,true,true,false,false] rfl rfl xk' (fun _ _ _ h=>h) (Or.inr ⟨by rfl,rfl⟩) ?_ ?_
  rotate_left
  ·
   simp only[Act.put,sa',sb',sc',i64_w,i32_w];rfl
  refine pure_ (i:=20) (N:=some 25) (v:=?_) (a':=?_) #[true,true,true,true,true,true,true,true,true,true,true,true,true,true,true,true,true,true,true,true,true,false] rfl rfl xk' (fun _ _ _ h=>h) (Or.inl ⟨by rfl,?_⟩) ?_ ?_
  rotate_left
  ·
   intro w';go_simp;with_reducible rfl
  rotate_left
  ·
   simp only[Act.put,sa',sb',sc',i64_w,i32_w];rfl
  refine pure_ (i:=21) (N:=some 4) (v:=?_) (a':=?_) #[true,true,true,true,true,true,true,true,true,true,true,true,true,true,true,true,true,true,true,true,true,true] rfl rfl xk' (fun _ _ _ h=>h) (Or.inl ⟨by rfl,?_⟩) ?_ ?_
  rotate_left
  ·
   intro w';go_simp;with_reducible rfl
  rotate_left
  ·
   simp only[Act.put,sa',sb',sc',i64_w,i32_w];rfl
  refine done_ xk' ?_
  go_wp2;go_ret
  exact ⟨rfl,be' HBA.out⟩
 ·
  have hlz:=df' hl;rw[show (!(decide (0≤x) && decide (x+e1=y))) = !(x+e1 == y) by rw[dt' (show 0≤x by omega),Bool.true_and];by_cases q:x+e1=y <;> simp [q]];go_wp2_with fail;refine start_ (n:=22) (S:=fun w'=>w'.cell? ⟨w.heap.size,0,none⟩=some (.int .i64 e0)∧w'.cell? ⟨w.heap.size,1,none⟩=some (.int .i64 e1)∧w'.cell? ⟨pd,0,none⟩=some (.slice (some ad) dist.length c)∧w'.cell? ⟨ps,0,none⟩=some (.int .i64 s)∧w'.cell? (ad.add e0.toNat)=some (.int .i64 x)∧w'.cell? (ad.add s.toNat)=some (.int .i64 y)) (ds:=[]) #[false,false,false,false,false,false,false,false,false,false,false,false,false,false,false,false,false,false,false,false,false,false] xk' rfl rfl ⟨z0,z1,z2,z3,z4,z5⟩ (fun hHeld=>?_);refine take_ (i:=0) (N:=some 5) (v:=?_) (a':=?_) #[true,false,false,false,false,false,false,false,false,false,false,false,false,false,false,false,false,false,false,false,false,false] rfl rfl xk' (fun _ _ _ h=>h) (Or.inl ⟨by rfl,?_⟩) hHeld ?_ ?_
  rotate_left
  ·
   rintro w' ⟨s0_,s1_,s2_,s3_,s4_,s5_⟩
   go_simp;with_reducible rfl
  rotate_left
  ·
   simp only[Act.put,sa',sb',sc',i64_w,i32_w];rfl
  refine pure_ (i:=1) (N:=some 6) (v:=?_) (a':=?_) #[true,true,false,false,false,false,false,false,false,false,false,false,false,false,false,false,false,false,false,false,false,false] rfl rfl xk' (fun _ _ _ h=>h) (Or.inl ⟨by rfl,?_⟩) ?_ ?_
  rotate_left
  ·
   intro w';go_simp;with_reducible rfl
  rotate_left
  ·
   simp only[Act.put,sa',sb',sc',i64_w,i32_w];rfl
  refine take_ (i:=2) (N:=some 7) (v:=?_) (a':=?_) #[true,true,true,false,false,false,false,false,false,false,false,false,false,false,false,false,false,false,false,false,false,false] rfl rfl xk' (fun _ _ _ h=>h) (Or.inl ⟨by rfl,?_⟩) hHeld ?_ ?_
  rotate_left
  ·
   rintro w' ⟨s0_,s1_,s2_,s3_,s4_,s5_⟩
   go_simp;with_reducible rfl
  rotate_left
  ·
   simp only[Act.put,sa',sb',sc',i64_w,i32_w];rfl
  refine pure_ (i:=3) (N:=some 8) (v:=?_) (a':=?_) #[true,true,true,true,false,false,false,false,false,false,false,false,false,false,false,false,false,false,false,false,false,false] rfl rfl xk' (fun _ _ _ h=>h) (Or.inl ⟨by rfl,?_⟩) ?_ ?_
  rotate_left
  ·
   intro w';go_simp;with_reducible rfl
  rotate_left
  ·
   simp only[Act.put,sa',sb',sc',i64_w,i32_w];rfl
  refine take_ (i:=4) (N:=some 9) (v:=?_) (a':=?_) #[true,true,true,true,true,false,false,false,false,false,false,false,false,false,false,false,false,false,false,false,false,false] rfl rfl xk' (fun _ _ _ h=>h) (Or.inl ⟨by rfl,?_⟩) hHeld ?_ ?_
  rotate_left
  ·
   rintro w' ⟨s0_,s1_,s2_,s3_,s4_,s5_⟩
   go_simp;with_reducible rfl
  rotate_left
  ·
   simp only[Act.put,sa',sb',sc',i64_w,i32_w];rfl
  refine pure_ (i:=5) (N:=some 10) (v:=?_) (a':=?_) #[true,true,true,true,true,true,false,false,false,false,false,false,false,false,false,false,false,false,false,false,false,false] rfl rfl xk' (fun _ _ _ h=>h) (Or.inl ⟨by rfl,?_⟩) ?_ ?_
  rotate_left
  ·
   intro w';go_simp;with_reducible rfl
  rotate_left
  ·
   simp only[Act.put,sa',sb',sc',i64_w,i32_w];rfl
  refine pure_ (i:=6) (N:=some 11) (v:=?_) (a':=?_) #[true,true,true,true,true,true,true,false,false,false,false,false,false,false,false,false,false,false,false,false,false,false] rfl rfl xk' (fun _ _ _ h=>h) (Or.inl ⟨by rfl,?_⟩) ?_ ?_
  rotate_left
  ·
   intro w';go_simp;with_reducible rfl
  rotate_left
  ·
   simp only[Act.put,sa',sb',sc',i64_w,i32_w];rfl
  refine take_ (i:=7) (N:=some 12) (v:=?_) (a':=?_) #[true,true,true,true,true,true,true,true,false,false,false,false,false,false,false,false,false,false,false,false,false,false] rfl rfl xk' (fun _ _ _ h=>h) (Or.inl ⟨by rfl,?_⟩) hHeld ?_ ?_
  rotate_left
  ·
   rintro w' ⟨s0_,s1_,s2_,s3_,s4_,s5_⟩
   go_simp;with_reducible rfl
  rotate_left
  ·
   simp only[Act.put,sa',sb',sc',i64_w,i32_w];rfl
  refine pure_ (i:=8) (N:=some 13) (v:=?_) (a':=?_) #[true,true,true,true,true,true,true,true,true,false,false,false,false,false,false,false,false,false,false,false,false,false] rfl rfl xk' (fun _ _ _ h=>h) (Or.inl ⟨by rfl,?_⟩) ?_ ?_
  rotate_left
  ·
   intro w';go_simp;with_reducible rfl
  rotate_left
  ·
   simp only[Act.put,sa',sb',sc',i64_w,i32_w];rfl
  refine take_ (i:=9) (N:=some 14) (v:=?_) (a':=?_) #[true,true,true,true,true,true,true,true,true,true,false,false,false,false,false,false,false,false,false,false,false,false] rfl rfl xk' (fun _ _ _ h=>h) (Or.inl ⟨by rfl,?_⟩) hHeld ?_ ?_
  rotate_left
  ·
   rintro w' ⟨s0_,s1_,s2_,s3_,s4_,s5_⟩
   go_simp;with_reducible rfl
  rotate_left
  ·
   simp only[Act.put,sa',sb',sc',i64_w,i32_w];rfl
  refine pure_ (i:=10) (N:=some 15) (v:=?_) (a':=?_) #[true,true,true,true,true,true,true,true,true,true,true,false,false,false,false,false,false,false,false,false,false,false] rfl rfl xk' (fun _ _ _ h=>h) (Or.inl ⟨by rfl,?_⟩) ?_ ?_
  rotate_left
  ·
   intro w';go_simp;with_reducible rfl
  rotate_left
  ·
   simp only[Act.put,sa',sb',sc',i64_w,i32_w];rfl
  refine take_ (i:=11) (N:=some 16) (v:=?_) (a':=?_) #[true,true,true,true,true,true,true,true,true,true,true,true,false,false,false,false,false,false,false,false,false,false] rfl rfl xk' (fun _ _ _ h=>h) (Or.inl ⟨by rfl,?_⟩) hHeld ?_ ?_
  rotate_left
  ·
   rintro w' ⟨s0_,s1_,s2_,s3_,s4_,s5_⟩
   go_simp;with_reducible rfl
  rotate_left
  ·
   simp only[Act.put,sa',sb',sc',i64_w,i32_w];rfl
  refine pure_ (i:=12) (N:=some 17) (v:=?_) (a':=?_) #[true,true,true,true,true,true,true,true,true,true,true,true,true,false,false,false,false,false,false,false,false,false] rfl rfl xk' (fun _ _ _ h=>h) (Or.inl ⟨by rfl,?_⟩) ?_ ?_
  rotate_left
  ·
   intro w';go_simp;with_reducible rfl
  rotate_left
  ·
   simp only[Act.put,sa',sb',sc',i64_w,i32_w];rfl
  refine take_ (i:=13) (N:=some 18) (v:=?_) (a':=?_) #[true,true,true,true,true,true,true,true,true,true,true,true,true,true,false,false,false,false,false,false,false,false] rfl rfl xk' (fun _ _ _ h=>h) (Or.inl ⟨by rfl,?_⟩) hHeld ?_ ?_
  rotate_left
  ·
   rintro w' ⟨s0_,s1_,s2_,s3_,s4_,s5_⟩
   go_simp;with_reducible rfl
  rotate_left
  ·
   simp only[Act.put,sa',sb',sc',i64_w,i32_w];rfl
  refine pure_ (i:=14) (N:=some 19) (v:=?_) (a':=?_) #[true,true,true,true,true,true,true,true,true,true,true,true,true,true,true,false,false,false,false,false,false,false] rfl rfl xk' (fun _ _ _ h=>h) (Or.inl ⟨by rfl,?_⟩) ?_ ?_
  rotate_left
  ·
   intro w';go_simp;with_reducible rfl
  rotate_left
  ·
   simp only[Act.put,sa',sb',sc',i64_w,i32_w];rfl
  refine take_ (i:=15) (N:=some 20) (v:=?_) (a':=?_) #[true,true,true,true,true,true,true,true,true,true,true,true,true,true,true,true,false,false,false,false,false,false] rfl rfl xk' (fun _ _ _ h=>h) (Or.inl ⟨by rfl,?_⟩) hHeld ?_ ?_
  rotate_left
  ·
   rintro w' ⟨s0_,s1_,s2_,s3_,s4_,s5_⟩
   go_simp;with_reducible rfl
  rotate_left
  ·
   simp only[Act.put,sa',sb',sc',i64_w,i32_w];rfl
  refine take_ (i:=16) (N:=some 21) (v:=?_) (a':=?_) #[true,true,true,true,true,true,true,true,true,true,true,true,true,true,true,true,true,false,false,false,false,false] rfl rfl xk' (fun _ _ _ h=>h) (Or.inl ⟨by rfl,?_⟩) hHeld ?_ ?_
  rotate_left
  ·
   rintro w' ⟨s0_,s1_,s2_,s3_,s4_,s5_⟩
   go_simp;with_reducible rfl
  rotate_left
  ·
   simp only[Act.put,sa',sb',sc',i64_w,i32_w];rfl
  refine pure_ (i:=17) (N:=some 22) (v:=?_) (a':=?_) #[true,true,true,true,true,true,true,true,true,true,true,true,true,true,true,true,true,true,false,false,false,false] rfl rfl xk' (fun _ _ _ h=>h) (Or.inl ⟨by rfl,?_⟩) ?_ ?_
  rotate_left
  ·
   intro w';go_simp;with_reducible rfl
  rotate_left
  ·
   simp only[Act.put,sa',sb',sc',i64_w,i32_w];rfl
  refine take_ (i:=18) (N:=some 23) (v:=?_) (a':=?_) #[true,true,true,true,true,true,true,true,true,true,true,true,true,true,true,true,true,true,true,false,false,false] rfl rfl xk' (fun _ _ _ h=>h) (Or.inl ⟨by rfl,?_⟩) hHeld ?_ ?_
  rotate_left
  ·
   rintro w' ⟨s0_,s1_,s2_,s3_,s4_,s5_⟩
   go_simp;with_reducible rfl
  rotate_left
  ·
   simp only[Act.put,sa',sb',sc',i64_w,i32_w];rfl
  refine pure_ (i:=19) (N:=some 24) (v:=?_) (a':=?_) #[true,true,true,true,true,true,true,true,true,true,true,true,true,true,true,true,true,true,true,true,false,false] rfl rfl xk' (fun _ _ _ h=>h) (Or.inl ⟨by rfl,?_⟩) ?_ ?_
  rotate_left
  ·
   intro w';go_simp;with_reducible rfl
  rotate_left
  ·
   simp only[Act.put,sa',sb',sc',i64_w,i32_w];rfl
  refine pure_ (i:=20) (N:=some 25) (v:=?_) (a':=?_) #[true,true,true,true,true,true,true,true,true,true,true,true,true,true,true,true,true,true,true,true,true,false] rfl rfl xk' (fun _ _ _ h=>h) (Or.inl ⟨by rfl,?_⟩) ?_ ?_
  rotate_left
  ·
   intro w';go_simp;with_reducible rfl
  rotate_left
  ·
   simp only[Act.put,sa',sb',sc',i64_w,i32_w];rfl
  refine pure_ (i:=21) (N:=some 4) (v:=?_) (a':=?_) #[true,true,true,true,true,true,true,true,true,true,true,true,true,true,true,true,true,true,true,true,true,true] rfl rfl xk' (fun _ _ _ h=>h) (Or.inl ⟨by rfl,?_⟩) ?_ ?_
  rotate_left
  ·
   intro w';go_simp;with_reducible rfl
  rotate_left
  ·
   simp only[Act.put,sa',sb',sc',i64_w,i32_w];rfl
  refine done_ xk' ?_
  go_wp2;go_ret
  exact ⟨rfl,be' HBA.out⟩
theorem rows_choose {P:Nat→Edg→Value→Prop}:∀ (es:List Edg) (s:Nat),(∀ (j:Nat) (e:Edg),es[j]? = some e→∃ v,P (s+j) e v)→∃ rows:List RowE,rows.length=es.length∧∀ (j:Nat) (e:Edg),es[j]? = some e→∃ v,rows[j]? = some (e.1,e.2.1,v)∧P (s+j) e v:=by
 intro es;induction es with
 | nil=>intro s _;exact ⟨[],rfl,fun j e h=>by simp at h⟩
 | cons x es ih =>
  intro s h;obtain ⟨v,hv⟩:=h 0 x rfl
  obtain ⟨rows,h1,h2⟩:=ih (s+1) (fun j e he=>by
   obtain ⟨u,hu⟩:=h (j+1) e (by simpa using he);exact ⟨u,by rw[show s+1+j=s+(j+1) by omega];exact hu⟩)
  refine ⟨(x.1,x.2.1,v) :: rows,by simp[h1],fun j e he=>?_⟩;cases j with
  | zero =>
   obtain rfl:x=e:=by simpa using he
   exact ⟨v,rfl,hv⟩
  | succ j =>
   obtain ⟨u,hu1,hu2⟩:=h2 j e (by simpa using he);exact ⟨u,by simpa using hu1,by rw[show s+(j+1)=s+1+j by omega];exact hu2⟩
def EdgB (W:World) (base:Nat) (gb:Nat) (rows:List RowE) (es:List Edg):Prop:=rows.length=es.length∧∀ (j:Nat) (e:Edg),es[j]? = some e→∃ v,rows[j]? = some (e.1,e.2.1,v)∧(Kd.int .i64).R 3 W base (fun k=>k≠gb) v e.2.2
theorem EdgB.cons {W:World} {base gb:Nat} {r:RowE} {rows:List RowE} {e:Edg} {es:List Edg} (h:EdgB W base gb (r :: rows) (e :: es)):(∃ v,r=(e.1,e.2.1,v)∧(Kd.int .i64).R 3 W base (fun k=>k≠gb) v e.2.2)∧EdgB W base gb rows es:=by
 obtain ⟨h1,h2⟩:=h
 refine ⟨?_,by simpa using h1,fun j x hx=>?_⟩
 ·
  obtain ⟨v,hv,hR⟩:=h2 0 e rfl;exact ⟨v,by simpa using hv,hR⟩
 ·
  obtain ⟨v,hv,hR⟩:=h2 (j+1) x (by simpa using hx);exact ⟨v,by simpa using hv,hR⟩
theorem EdgB.filter {W:World} {base gb:Nat} (q:RowE→Bool) (q2:Edg→Bool) (hq:∀ (e:Edg) (v:Value),q (e.1,e.2.1,v)=q2 e):∀ (rows:List RowE) (es:List Edg),EdgB W base gb rows es→EdgB W base gb (rows.filter q) (es.filter q2):=by
 intro rows;induction rows with
 | nil =>
  intro es h;obtain rfl:es=[]:=List.length_eq_zero_iff.1 h.1.symm;exact h
 | cons r rows ih =>
  intro es h;cases es with
  | nil=>have:=h.1;simp at this
  | cons e es =>
   obtain ⟨⟨v,rfl,hR⟩,ht⟩:=h.cons;have hi:=ih es ht;simp only[List.filter_cons,hq];split
   ·
    refine ⟨by simp[hi.1],fun j x hx=>?_⟩;cases j with
    | zero =>
     obtain rfl:e=x:=by simpa using hx
     exact ⟨v,rfl,hR⟩
    | succ j =>
     obtain ⟨u,hu,hRu⟩:=hi.2 j x (by simpa using hx);exact ⟨u,by simpa using hu,hRu⟩
   ·
    exact hi
theorem EdgB.kept {W W1:World} {base gb:Nat} {rows:List RowE} {es:List Edg} (h:EdgB W base gb rows es) (hk:Kept W W1 (fun k=>k=gb)):EdgB W1 base gb rows es :=
 ⟨h.1,fun j e he=>by
  obtain ⟨v,hv,hR⟩:=h.2 j e he;exact ⟨v,hv,Kd.R_kept hR hk (fun k hk=>hk)⟩⟩
def EdgAf (f:Nat→Nat) (W:World) (base:Nat) (gb:Nat) (rows:List RowE) (js:List Nat) (es:List Edg):Prop:=rows.length=es.length∧js.length=es.length∧∀ (j:Nat) (e:Edg),es[j]? = some e→∃ v q,rows[j]? = some (e.1,e.2.1,v)∧js[j]? = some q∧(Kd.int .i64).R 3 W base (fun k=>k≠gb∧f k=q) v e.2.2
def EdgA (W:World) (base:Nat) (gb:Nat) (rows:List RowE) (es:List Edg):Prop:=∃ (f:Nat→Nat) (js:List Nat),js.Nodup∧EdgAf f W base gb rows js es
theorem EdgAf.filter_ {f:Nat→Nat} {W:World} {base gb:Nat} (q:RowE→Bool) (q2:Edg→Bool) (hq:∀ (e:Edg) (v:Value),q (e.1,e.2.1,v)=q2 e):∀ (rows:List RowE) (js:List Nat) (es:List Edg),EdgAf f W base gb rows js es→∃ js':List Nat,js'.Sublist js∧EdgAf f W base gb (rows.filter q) js' (es.filter q2):=by
 intro rows;induction rows with
 | nil =>
  intro js es h;obtain rfl:es=[]:=List.length_eq_zero_iff.1 h.1.symm;exact ⟨js,List.Sublist.refl _,h⟩
 | cons r rows ih =>
  intro js es h;obtain ⟨h1,h2,h3⟩:=h;cases es with
  | nil=>simp at h1
  | cons e es =>
   cases js with
   | nil=>simp at h2
   | cons i js =>
    obtain ⟨v,i0,hv,hi0,hR⟩:=h3 0 e rfl;obtain rfl:r=(e.1,e.2.1,v):=by simpa using hv
    obtain rfl:i=i0:=by simpa using hi0
    obtain ⟨js',hs,hi1,hi2,hi3⟩:=ih js es ⟨by simpa using h1,by simpa using h2,fun j x hx=>by
     obtain ⟨u,q',hu,hq',hRu⟩:=h3 (j+1) x (by simpa using hx);exact ⟨u,q',by simpa using hu,by simpa using hq',hRu⟩⟩
    simp only[List.filter_cons,hq];split
    ·
     refine ⟨i :: js',hs.cons_cons i,by simp[hi1],by simp[hi2],fun j x hx=>?_⟩;cases j with
     | zero =>
      obtain rfl:e=x:=by simpa using hx
      exact ⟨v,i,rfl,rfl,hR⟩
     | succ j =>
      obtain ⟨u,q',hu,hq',hRu⟩:=hi3 j x (by simpa using hx);exact ⟨u,q',by simpa using hu,by simpa using hq',hRu⟩
    ·
     exact ⟨js',hs.cons i,hi1,hi2,hi3⟩
def EdgR (W:World) (base:Nat) (gb:Nat) (rows:List RowE) (es:List Edg):Prop:=EdgB W base gb rows es∧EdgA W base gb rows es
theorem EdgR.filter {W:World} {base gb:Nat} (q:RowE→Bool) (q2:Edg→Bool) (hq:∀ (e:Edg) (v:Value),q (e.1,e.2.1,v)=q2 e) (rows:List RowE) (es:List Edg) (h:EdgR W base gb rows es):EdgR W base gb (rows.filter q) (es.filter q2):=by
 obtain ⟨h1,f,js,hn,h2⟩:=h
 obtain ⟨js',hs,h3⟩:=EdgAf.filter_ q q2 hq rows js es h2
 exact ⟨EdgB.filter q q2 hq rows es h1,f,js',hn.sublist hs,h3⟩
theorem EdgR.kept {W W1:World} {base gb:Nat} {rows:List RowE} {es:List Edg} (h:EdgR W base gb rows es) (hk:Kept W W1 (fun k=>k=gb)):EdgR W1 base gb rows es:=by
 obtain ⟨h1,f,js,hn,a1,a2,a3⟩:=h
 exact ⟨EdgB.kept h1 hk,f,js,hn,a1,a2,fun j e he=>by
  obtain ⟨v,q,hv,hq,hR⟩:=a3 j e he;exact ⟨v,q,hv,hq,Kd.R_kept hR hk (fun k hk=>hk.1)⟩⟩
theorem edges_of {W:World} {base n cap:Nat} {A:Option Addr} {es:List Edg} (h:Kd.S EdgK 76 W base (fun _=>True) (.slice A n cap) es):∃ (gb:Nat) (rows:List RowE),(0 < rows.length→A=some ⟨gb,0,none⟩)∧base≤gb∧(0 < rows.length→BlkE W gb rows.length)∧TC W gb rows∧EdgR W base gb rows es∧(∀ x ∈ rows,∃ A n c,x.2.2 = .slice A n c):=by
 by_cases he:0 < es.length
 ·
  obtain ⟨g,cap',hv,hb,hlt,cells,hc⟩:=Kd.S_form h he;injection hv with hA hn _
  subst hA;subst hn;obtain ⟨f,hf⟩:=h;have hzl:es.zipIdx.length=es.length:=List.length_zipIdx
  obtain ⟨rows,h1,h2⟩:=rows_choose (P:=fun j e v=>W.cell? ⟨g,j * 3,none⟩=some (.int .i64 e.1)∧W.cell? ⟨g,j * 3+1,none⟩=some (.int .i64 e.2.1)∧W.cell? ⟨g,j * 3+2,none⟩=some v∧(Kd.int .i64).R 3 W base (fun k=>k≠g∧f k=j) v e.2.2∧(∀ k,k < 3→(W.cell? ⟨g,j * 3+k,none⟩).isSome=true)) es 0 (fun j e hj=>by
   have hl:=(List.getElem?_eq_some_iff.1 hj).1;obtain ⟨c,hcl,hM,hcc,_⟩:=Kd.R_elem hf ((0,0,[]),0) (j:Int) (by omega) (by omega);rw[Int.toNat_natCast,List.getD_eq_getElem?_getD,Kd.zip_at hj,Option.getD_some] at hM;obtain ⟨c0,c1,rfl,h0,c2,c3,rfl,h1,v,rfl,h2⟩:=hM;have h0:c0=[.int .i64 e.1]:=h0;have h1:c2=[.int .i64 e.2.1]:=h1;subst h0 h1;rw[Nat.zero_add];have q0:=hcc 0 _ rfl;have q1:=hcc 1 _ rfl;have q2:=hcc 2 _ rfl;rw[Int.toNat_natCast] at q0 q1 q2;refine ⟨v,q0,q1,q2,Kd.R_mono h2 (fun k hk=>⟨hk.1.2,hk.2⟩),fun k hk=>?_⟩;rcases (show k=0∨k=1∨k=2 by omega) with rfl|rfl|rfl
   ·
    exact Option.isSome_iff_exists.2 ⟨_,q0⟩
   ·
    exact Option.isSome_iff_exists.2 ⟨_,q1⟩
   ·
    exact Option.isSome_iff_exists.2 ⟨_,q2⟩)
  have hrow:∀ (j:Nat) (r:RowE),rows[j]? = some r→∃ e v,es[j]? = some e∧r=(e.1,e.2.1,v)∧W.cell? ⟨g,j * 3,none⟩=some (.int .i64 e.1)∧W.cell? ⟨g,j * 3+1,none⟩=some (.int .i64 e.2.1)∧W.cell? ⟨g,j * 3+2,none⟩=some v∧(Kd.int .i64).R 3 W base (fun k=>k≠g∧f k=j) v e.2.2:=fun j r hr=>by
   have hl:=(List.getElem?_eq_some_iff.1 hr).1;obtain ⟨v,hv,p1,p2,p3,p4,_⟩:=h2 j es[j] (List.getElem?_eq_getElem (by omega));rw[hr] at hv;rw[Nat.zero_add] at p1 p2 p3 p4;exact ⟨_,v,List.getElem?_eq_getElem (by omega),os' hv,p1,p2,p3,p4⟩
  refine ⟨g,rows,fun _=>rfl,hb,fun _=>⟨cells,hc,?_⟩,fun j r hr=>?_,⟨⟨h1,fun j e hj=>?_⟩,f,List.range es.length,List.nodup_range,h1,List.length_range,fun j e hj=>?_⟩,fun x hx=>?_⟩
  ·
   obtain ⟨_,_,_,_,_,_,hs⟩:=h2 (es.length - 1) es[es.length - 1] (List.getElem?_eq_getElem (by omega));have:=hs 2 (by omega);rw[Nat.zero_add] at this;rw[h1];by_cases q:es.length * 3≤cells.size
   ·
    exact q
   ·
    have hn:W.cell? ⟨g,(es.length - 1) * 3+2,none⟩=none:=by simp[World.cell?,hc];omega
    rw[hn] at this;cases this
  ·
   obtain ⟨e,v,_,rfl,p1,p2,p3,_⟩:=hrow j r hr;exact ⟨p1,p2,p3⟩
  ·
   obtain ⟨v,hv,_,_,_,p4,_⟩:=h2 j e hj;exact ⟨v,hv,Kd.R_mono p4 (fun k hk=>hk.1)⟩
  ·
   obtain ⟨v,hv,_,_,_,p4,_⟩:=h2 j e hj;rw[Nat.zero_add] at p4;exact ⟨v,j,hv,List.getElem?_range (List.getElem?_eq_some_iff.1 hj).1,p4⟩
  ·
   obtain ⟨j,hj,rfl⟩:=List.mem_iff_getElem.1 hx;obtain ⟨e,v,_,hr,_,_,_,p4⟩:=hrow j _ (List.getElem?_eq_getElem hj);obtain ⟨A1,c1,e1⟩:=Kd.R_slice p4;exact ⟨A1,_,c1,by rw[hr];exact e1⟩
 ·
  obtain rfl:es=[]:=List.length_eq_zero_iff.1 (by omega);exact ⟨base,[],fun h=>absurd h (by simp),Nat.le_refl _,fun h=>absurd h (by simp),fun j e h=>by simp at h,⟨⟨rfl,fun j e h=>by simp at h⟩,fun _=>0,[],List.nodup_nil,rfl,rfl,fun j e h=>by simp at h⟩,fun x hx=>by cases hx⟩
theorem EdgB.lower {W:World} {base b2 gb:Nat} {rows:List RowE} {es:List Edg} (h:EdgB W base gb rows es) (hb:b2≤base):EdgB W b2 gb rows es :=
 ⟨h.1,fun j e he=>by
  obtain ⟨v,hv,hR⟩:=h.2 j e he;exact ⟨v,hv,Kd.R_lower hR hb⟩⟩
theorem EdgB.mem {W:World} {base gb:Nat} {rows:List RowE} {es:List Edg} (h:EdgB W base gb rows es) {x:RowE} (hx:x ∈ rows):∃ e ∈ es,∃ v,x=(e.1,e.2.1,v):=by
 obtain ⟨j,hj,rfl⟩:=List.mem_iff_getElem.1 hx
 have hl:=h.1
 obtain ⟨v,hv,_⟩:=h.2 j es[j] (List.getElem?_eq_getElem (by omega))
 rw[List.getElem?_eq_getElem hj] at hv
 exact ⟨_,List.getElem_mem _,v,os' hv⟩
theorem EdgR.lower {W:World} {base b2 gb:Nat} {rows:List RowE} {es:List Edg} (h:EdgR W base gb rows es) (hb:b2≤base):EdgR W b2 gb rows es:=by
 obtain ⟨h1,f,js,hn,a1,a2,a3⟩:=h
 exact ⟨EdgB.lower h1 hb,f,js,hn,a1,a2,fun j e he=>by
  obtain ⟨v,q,hv,hq,hR⟩:=a3 j e he;exact ⟨v,q,hv,hq,Kd.R_lower hR hb⟩⟩
def delP (dist:List Int) (s:Int) (r:RowE):Bool := !(decide (0≤rd dist r.1) && decide (rd dist r.1+r.2.1=rd dist s))
theorem three_blocksB (w:World) (o0 o1 o2:Obj):(((w.alloc o0).alloc o1).alloc o2).heap[w.heap.size]? = some o0∧(((w.alloc o0).alloc o1).alloc o2).heap[w.heap.size+1]? = some o1∧(((w.alloc o0).alloc o1).alloc o2).heap[w.heap.size+1+1]? = some o2∧Below w.heap.size w (((w.alloc o0).alloc o1).alloc o2)∧(((w.alloc o0).alloc o1).alloc o2).heap.size=w.heap.size+1+1+1:=by
 have h1:(w.alloc o0).heap.size=w.heap.size+1:=World.size_alloc ..
 have h2:((w.alloc o0).alloc o1).heap.size=w.heap.size+1+1:=by rw[World.size_alloc,h1]
 have b1:=ba' (Below.refl (w.alloc o0).heap.size (w.alloc o0)) o1
 have b2:=ba' (Below.refl ((w.alloc o0).alloc o1).heap.size ((w.alloc o0).alloc o1)) o2
 refine ⟨bb' (bb' (heap_alloc_new w o0) b1) b2,?_,?_,bt' (bt' (ba' (Below.refl _ _) _) b1) b2,by rw[World.size_alloc,h2]⟩
 ·
  have:=bb' (heap_alloc_new (w.alloc o0) o1) b2;rwa [h1] at this
 ·
  have:=heap_alloc_new ((w.alloc o0).alloc o1) o2;rwa [h2] at this
set_option maxHeartbeats 4000000 in
set_option maxRecDepth 100000 in
theorem best_any (g:Nat) (lb:Array Value) (out:Int→Option (List Edg)) (n:Int) (dist:List Int) (es':List Edg) (s:Int) (W0 w:World) (eg:∀ args w,(callFunc g args).run Try.prog w = .ok (.enter g args) w) (hO:OutOk g lb out W0) (hB:Below W0.heap.size W0 w) (Ad:Option Addr) (cd:Nat) (hd:Kd.C (Kd.int .i64) w Ad dist.length dist) (hcd:dist.length≤cd) (h:bestF out dist s=some es') :
  Calls Try.prog 66 #[.agg #[.int .i64 n, .func (.func g) #[] lb], .int .i64 s, .slice Ad dist.length cd] w fun e w'=>∃ (gb:Nat) (A0:Option Addr) (c0:Nat) (rows:List RowE),e = .returned (.slice A0 rows.length c0)∧(0 < rows.length→A0=some ⟨gb,0,none⟩)∧w.heap.size≤gb∧TC w' gb rows∧EdgR w' w.heap.size gb rows es'∧Below w.heap.size w w':=by
 unfold bestF at h
 by_cases hs:0≤s∧s < (dist.length:Int)
 ·
  rw[if_pos hs] at h;obtain ⟨es,hes,h⟩:=Option.bind_eq_some_iff.mp h;by_cases hlim:es.length≤1048576∧es.all (edgOk dist)=true
  ·
   rw[if_pos hlim] at h;obtain rfl:=os' h;clear h;have hug:=Try.underlying46;have HS:=am' hs;have HE:=am' hes;have HLM:=am' hlim;have HO:=am' hO;have HB:=am' hB;have HD:=am' hd;have HCD:=am' hcd;clear hs hes hlim hO hB hd hcd;have HL3:=am' (three_blocksB w (.cells #[.int .i64 n, .func (.func g) #[] lb] 46) (.cells #[.int .i64 s] 3) (.cells #[.slice Ad dist.length cd] 22));go_enter Try.func66,Try.ntmps66;have y0:=(bc' HL3.out.1 1).trans (show _=some (.func (.func g) #[] lb) from rfl);have y1:=(bc' HL3.out.2.1 0).trans (show _=some (.int .i64 s) from rfl);go_wp2_with fail;generalize hW:((w.alloc (.cells #[.int .i64 n, .func (.func g) #[] lb] 46)).alloc (.cells #[.int .i64 s] 3)).alloc (.cells #[.slice Ad dist.length cd] 22)=W3 at HL3 y0 y1 ⊢
   clear hW y0 y1;refine (HO.out W3 (bt' HB.out HL3.out.2.2.2.1) s es HE.out).mono ?_
   rintro e w4 ⟨v,rfl,hS,hb4⟩
   obtain ⟨A0,c0,rfl⟩:=Kd.S_slice hS;obtain ⟨gb,rows,hA,hgb,hblk,htc,her,hsl⟩:=edges_of hS;have hlc:=(Kd.S_reads' hS).2.1;have hlen:=her.1.1;rw[← hlen] at hlc ⊢;have HS4:=am' hb4;have HGB:=am' (show w.heap.size+3≤gb from by have h1:=HL3.out.2.2.2.2;omega);have HTC:=am' htc;have HBLK:=am' hblk;have HER:=am' (her.lower (b2:=w.heap.size) (by have h1:=HL3.out.2.2.2.2;omega));have HAA:=am' hA;have HSL:=am' hsl;have HLC:=am' hlc;have HBW:=am' (bt' HL3.out.2.2.2.1 HS4.out);have HBX1:=am' (bb' HL3.out.2.1 HS4.out);have HBX2:=am' (bb' HL3.out.2.2.1 HS4.out);have HBIG:=am' (show rows.length≤1048576 by have:=HLM.out.1;omega)
   have HP:=am' (show PredE 75 #[.pointer (some ⟨w.heap.size+1+1,0,none⟩), .pointer (some ⟨w.heap.size+1,0,none⟩)] (delP dist s) rows w4 (fun k=>k=gb) from fun x hx W hk=>by
    have hg:=HGB.out;obtain ⟨e,he,v,rfl⟩:=HER.out.1.mem hx;have hok:=List.all_eq_true.1 HLM.out.2 e he;unfold edgOk at hok
    simp only[Bool.and_eq_true,decide_eq_true_eq] at hok;exact best1_calls Ad cd dist s e.1 e.2.1 v (w.heap.size+1+1) (w.heap.size+1) W (cell_kept ((bc' HBX2.out 0).trans rfl) hk (by dsimp only;omega)) (cell_kept ((bc' HBX1.out 0).trans rfl) hk (by dsimp only;omega)) (Kd.C_kept_came (Kd.heap_int .i64) HD.out HBW.out (fun k hk=>by omega) W hk) HCD.out hok.1.1.1 hok.1.1.2 HS.out.1 HS.out.2 (wr_id (by omega) (by omega)))
   clear hS hA hgb hblk htc her hsl hlc hlen hb4;go_wp2_with fail;go_at_call 74
   refine (DeleteE_any w.heap.size 75 #[.pointer (some ⟨w.heap.size+1+1,0,none⟩), .pointer (some ⟨w.heap.size+1,0,none⟩)] (delP dist s) (enters_of Try.func75 xk' rfl) gb A0 c0 rows w4 HAA.out HTC.out HBLK.out HLC.out HBIG.out HSL.out HP.out (by have:=HGB.out;omega) HBW.out.size).mono ?_
   rintro e w5 ⟨rfl,h1,h2,h3⟩
   have H1:=am' h1;have H2:=am' h2;have H3:=am' h3;clear h1 h2 h3;go_wp2;go_ret
   refine ⟨gb,A0,c0,rows.filter (fun x => !(delP dist s x)),rfl,fun hq=>HAA.out ?_,by have:=HGB.out;omega,H1.out,?_,HBW.out.trans (H3.out)⟩
   ·
    have:=List.length_filter_le (fun x => !(delP dist s x)) rows;omega
   ·
    exact EdgR.kept (EdgR.filter (fun x => !(delP dist s x)) (onB dist s) (fun e v=>by simp[delP,onB]) rows es HER.out) H2.out
  ·
   rw[if_neg hlim] at h;cases h
 ·
  rw[if_neg hs] at h;cases h
def fwL (f:Int→Option Int):List Edg→Int→Bool→Option Int
 | [],now,_=>some now
 | e :: es,now,first=>(f e.1).bind fun b=>fwL f es (if first=true then wrap64 (b+1) else min now (wrap64 (b+1))) false
def fwF (out:Int→Option (List Edg)) (dist:List Int):Nat→Int→Option Int
 | 0,_=>none
 | k+1,s=>if 0≤s∧s < (dist.length:Int) then (if rd dist s=0 then some 0 else (bestF out dist s).bind fun es=>fwL (fwF out dist k) es 0 true) else none
theorem fwL_up {f1 f2:Int→Option Int} (hf:∀ s r,f1 s=some r→f2 s=some r):∀ (es:List Edg) (now:Int) (b:Bool) (r:Int),fwL f1 es now b=some r→fwL f2 es now b=some r
 | [],now,b,r,h=>h
 | e :: es,now,b,r,h=>by
  rw[fwL] at h ⊢;obtain ⟨x,h1,h2⟩:=Option.bind_eq_some_iff.mp h;rw[hf _ _ h1,Option.bind_some];exact fwL_up hf es _ _ _ h2
theorem fwF_up {o1 o2:Int→Option (List Edg)} (ho:∀ s r,o1 s=some r→o2 s=some r) (dist:List Int):∀ k s r,fwF o1 dist k s=some r→fwF o2 dist (k+1) s=some r:=by
 intro k;induction k with
 | zero=>intro s r h;simp[fwF] at h
 | succ k ih =>
  intro s r h;rw[fwF] at h ⊢;split at h
  ·
   rename_i hs
   rw[if_pos hs];split at h
   ·
    rename_i hp
    rw[if_pos hp];exact h
   ·
    rename_i hp
    rw[if_neg hp];obtain ⟨es,h1,h2⟩:=Option.bind_eq_some_iff.mp h;rw[bestF_up ho dist s es h1,Option.bind_some];exact fwL_up ih _ _ _ _ h2
  ·
   cases h
theorem fwF_le {out:Int→Option (List Edg)} {dist:List Int} {s r:Int}:∀ {d k:Nat},fwF out dist k s=some r→fwF out dist (k+d) s=some r
 | 0,_,h=>h
 | d+1,_,h=>fwF_up (fun _ _ h=>h) dist _ s r (fwF_le (d:=d) h)
theorem fwF_det {out:Int→Option (List Edg)} {dist:List Int} {s a b:Int} {k j:Nat} (h:fwF out dist k s=some a) (h':fwF out dist j s=some b):a=b:=by
 have h1:=fwF_le (d:=j) h
 have h2:=fwF_le (d:=k) h'
 rw[Nat.add_comm] at h2
 exact os' (h1.symm.trans h2)
theorem tl_law:Go.Maps.Keyed Try.prog 3:=Go.Maps.int_keyed Try.underlying3
theorem tl_zero (w:World):(zeroValue 3).run Try.prog w = .ok (.int .i64 0) w:=by kernel_rfl
def MpI (W:World) (b:Nat) (D:DataW Unit):Prop:=W.ownsMap Try.prog 3 (plainElem Try.prog 3) b (Go.Maps.size D) D
theorem MpI.of {W:World} {b n:Nat} {D:DataW Unit} (h:W.ownsMap Try.prog 3 (plainElem Try.prog 3) b n D):MpI W b D:=by
 obtain ⟨es,clock,hb,F,hs,rfl⟩:=h
 exact ⟨es,clock,hb,F,Nat.le_of_eq (by simp[Go.Maps.size,length_sorted]),rfl⟩
theorem MpI.moved {W W':World} {b:Nat} {D:DataW Unit} (h:MpI W b D) (e:W'.heap[b]? = W.heap[b]?):MpI W' b D:=by
 obtain ⟨es,clock,hb,r⟩:=h
 exact ⟨es,clock,e.trans hb,r⟩
theorem MpI.lt {W:World} {b:Nat} {D:DataW Unit} (h:MpI W b D):b < W.heap.size:=World.ownsMap.lt h
theorem MpI.below {W W':World} {b:Nat} {D:DataW Unit} (h:MpI W b D) (hb:Below W.heap.size W W'):MpI W' b D:=h.moved (hb.block b h.lt)
def KnOk (out:Int→Option (List Edg)) (dist:List Int) (D:DataW Unit):Prop :=
 (∀ s,Go.Maps.has D (.int .i64 s)=true→∃ v k,D.atKey (.int .i64 s) (.lit (.int .i64 0)) = .lit (.int .i64 v)∧fwF out dist k s=some v)∧Go.Maps.size D≤(List.range dist.length).countP (fun i:Nat=>Go.Maps.has D (.int .i64 (i:Int)))
theorem cntP_mono {p q:Nat→Bool} (h:∀ i,p i=true→q i=true):∀ l:List Nat,l.countP p≤l.countP q
 | []=>by simp
 | x :: l=>by
  have:=cntP_mono h l;have hx:=h x;rw[List.countP_cons,List.countP_cons];cases hp:p x with
  | false=>simp only[Bool.false_eq_true,if_false];split <;> omega
  | true=>simp only[hx hp,if_true];omega
theorem cntP_more {p q:Nat→Bool} (h:∀ i,p i=true→q i=true) (s:Nat) (hp:p s=false) (hq:q s=true):∀ l:List Nat,s ∈ l→l.countP p+1≤l.countP q
 | [],hm=>by cases hm
 | x :: l,hm=>by
  have h1:=cntP_mono h l;have hx:=h x;rw[List.countP_cons,List.countP_cons];rcases List.mem_cons.1 hm with rfl|hm
  ·
   rw[hp,hq];simp only[Bool.false_eq_true,if_false,if_true];omega
  ·
   have:=cntP_more h s hp hq l hm;cases hpx:p x with
   | false=>simp only[Bool.false_eq_true,if_false];split <;> omega
   | true=>simp only[hx hpx,if_true];omega
theorem KnOk.put {out:Int→Option (List Edg)} {dist:List Int} {D:DataW Unit} (h:KnOk out dist D) (ht:Go.Maps.Tidy D) {s v:Int} {k:Nat} (h0:0≤s) (h1:s < (dist.length:Int)) (hv:fwF out dist k s=some v):KnOk out dist (D.put (.int .i64 s) (.lit (.int .i64 v))):=by
 have hkl:WideAt.IsKeyLit (.int .i64 s):=trivial
 have hsame:=Go.Maps.has_put_same ht.isMap hkl (.lit (.int .i64 v))
 refine ⟨fun s' hs'=>?_,?_⟩
 ·
  by_cases e:s'=s
  ·
   subst e;exact ⟨v,k,Go.Maps.atKey_put_same ht.isMap hkl _ _,hv⟩
  ·
   have ne:(Lit.int .i64 s') ≠ .int .i64 s:=fun q=>e (by injection q)
   rw[Go.Maps.has_put_other ne] at hs';obtain ⟨v',k',h2,h3⟩:=h.1 s' hs';exact ⟨v',k',by rw[Go.Maps.atKey_put_other ne];exact h2,h3⟩
 ·
  have hmono:∀ i:Nat,Go.Maps.has D (.int .i64 (i:Int))=true→Go.Maps.has (D.put (.int .i64 s) (.lit (.int .i64 v))) (.int .i64 (i:Int))=true:=by
   intro i hi;by_cases e:(i:Int)=s
   ·
    rw[e];exact hsame
   ·
    rw[Go.Maps.has_put_other (fun q=>e (by injection q))];exact hi
  rw[Go.Maps.size_put ht];cases hh:Go.Maps.has D (.int .i64 s) with
  | true=>simp only[if_true];exact Nat.le_trans h.2 (cntP_mono hmono _)
  | false =>
   simp only[Bool.false_eq_true,if_false];have e:((s.toNat:Nat):Int)=s:=Int.toNat_of_nonneg h0;exact Nat.le_trans (Nat.succ_le_succ h.2) (cntP_more hmono s.toNat (by simp only[e];exact hh) (by simp only[e];exact hsame) _ (List.mem_range.2 (by omega)))
theorem KnOk.size {out:Int→Option (List Edg)} {dist:List Int} {D:DataW Unit} (h:KnOk out dist D):Go.Maps.size D≤dist.length:=by
 have:=List.countP_le_length (p:=fun i:Nat=>Go.Maps.has D (.int .i64 (i:Int))) (l:=List.range dist.length)
 rw[List.length_range] at this
 exact Nat.le_trans h.2 this
theorem tl_look {P:Program} (w:World) {ops:Array Oper} {rest:List Oper} {o:Oper} {a:Act} {Q:Exit→Act→World→Prop} (hg:o.guard=none) (m x:Operand) (t:TypeId) (hop:o.op=Op.lookup t m x true)
  (k e:TypeId) (q:IntKind) (K:Go.Maps.Keyed P k) (ht:P.underlying t=some (.map k e)) (he:P.underlying e=some (.int q)) (hz:(zeroValue e).run P w = .ok (.int q 0) w) (b n:Nat) (D:DataW Unit)
  (hm:a.eval m = .map (some b)) (hown:w.ownsMap P k (plainElem P e) b n D) (key:Value) (kl:Lit) (hx:a.eval x=key) (hkey:keyOf P k key=some kl) (c:Int) (ok:Bool) (hc:D.atKey kl (.lit (.int q 0)) = .lit (.int q c)) (hok:Go.Maps.has D kl=ok)
  (hK:wpList P ops Q rest (a.put o.dst (.tuple #[.int q c, .bool ok])) w):wpList P ops Q (o :: rest) a w :=
 wpList_lookup_own_ok_int w hg m x t hop k e q K ht he hz b n D hm hown key kl hx hkey (fun c' h' _=>by
  rw[hc] at h';injection h' with h'
  injection h' with _ h'
  subst h';rw[hok];exact hK)
theorem TC.kept {W W1:World} {g:Nat} {rows:List RowE} {S:Nat→Prop} (h:TC W g rows) (hk:Kept W W1 S) (hg:¬ S g):TC W1 g rows:=fun j e hj=>by
 obtain ⟨h0,h1,h2⟩:=h j e hj
 exact ⟨cell_kept h0 hk hg,cell_kept h1 hk hg,cell_kept h2 hk hg⟩
theorem wf_min {a b:Int} (ha:(Lit.int .i64 a).wf=true) (hb:(Lit.int .i64 b).wf=true):(Lit.int .i64 (min a b)).wf=true:=by
 rcases (show min a b=a∨min a b=b by omega) with e|e <;> rw [e] <;> assumption
set_option maxHeartbeats 1000000 in
set_option maxRecDepth 100000 in
theorem fewest1_calls (e0 e1:Int) (Ae:Option Addr) (ne ce:Nat) (a c:Int) (b:Bool) (r:Int) (hr:r=if b=true then wrap64 (c+1) else min a (wrap64 (c+1))) (w:World) :
  Calls Try.prog 49 #[.agg #[.int .i64 e0, .int .i64 e1, .slice Ae ne ce], .int .i64 a, .int .i64 c, .bool b] w fun e w'=>e = .returned (.int .i64 r)∧Below w.heap.size w w':=by
 subst hr;have hue:=Try.underlying76
 have HBA:=am' (ba' (Below.refl w.heap.size w) (.cells #[.int .i64 e0, .int .i64 e1, .slice Ae ne ce] 76))
 cases b with
 | true =>
  go_enter Try.func49,Try.ntmps49;go_wp2;go_ret
  exact ⟨rfl,HBA.out⟩
 | false =>
  go_enter Try.func49,Try.ntmps49;go_wp2
  all_goals go_ret
  all_goals refine ⟨?_,HBA.out⟩
  all_goals first|(rw[Int.min_eq_right (by omega)];rfl)|(rw[Int.min_eq_left (by omega)];rfl)
theorem bestF_len {out:Int→Option (List Edg)} {dist:List Int} {s:Int} {es:List Edg} (h:bestF out dist s=some es):es.length≤1048576:=by
 unfold bestF at h
 split at h
 ·
  obtain ⟨es0,_,h⟩:=Option.bind_eq_some_iff.mp h;split at h
  ·
   rename_i hl
   obtain rfl:=os' h;exact Nat.le_trans (List.length_filter_le _ _) hl.1
  ·
   cases h
 ·
  cases h
set_option maxHeartbeats 8000000 in
set_option maxRecDepth 100000 in
theorem tally_any (g:Nat) (lb:Array Value) (out:Int→Option (List Edg)) (n:Int) (dist:List Int) (W0:World) (eg:∀ args w,(callFunc g args).run Try.prog w = .ok (.enter g args) w) (hO:OutOk g lb out W0) (Ad:Option Addr) (cd:Nat) (hcd:dist.length≤cd) (hdl:dist.length≤1000000) (b:Nat) (hb0:W0.heap.size≤b) :
  ∀ (k:Nat) (s v:Int) (D:DataW Unit) (w:World),Below W0.heap.size W0 w→(∀ W',Kept w W' (fun q=>q=b)→Kd.C (Kd.int .i64) W' Ad dist.length dist)→MpI w b D→KnOk out dist D→fwF out dist k s=some v →
  Calls Try.prog 48 #[.agg #[.int .i64 n, .func (.func g) #[] lb], .int .i64 s, .slice Ad dist.length cd, .map (some b), .func (.func 49) #[] #[], .int .i64 0] w fun e w'=>e = .returned (.int .i64 v)∧∃ D',MpI w' b D'∧KnOk out dist D'∧Kept w w' (fun q=>q=b)∧Below b w w':=by
 have hug:=Try.underlying46
 have hue:=Try.underlying76
 have e49:=enters_of Try.func49 xk' rfl
 intro k;induction k with
 | zero=>intro s v D w _ _ _ _ h;simp[fwF] at h
 | succ k ih =>
 intro s v D w hB hd hM hK hF;have h:=hF;rw[fwF] at h
 by_cases hs:0≤s∧s < (dist.length:Int)
 ·
  rw[if_pos hs] at h;obtain ⟨ad,ea,hx0⟩:=Kd.at_int (hd w (Kept.refl _ _)) s hs.1 hs.2;subst ea;have hs0:=eq_true hs.1;have hs1:=eq_true hs.2;have HBX:=am' (heap_alloc_new w (.cells #[.int .i64 n, .func (.func g) #[] lb] 46));have HBA:=am' (ba' (Below.refl w.heap.size w) (.cells #[.int .i64 n, .func (.func g) #[] lb] 46));have hx:=(HBA.out.cell (bl' w _ hx0)).trans hx0;clear hx0;have HM:=am' hM;have HK:=am' hK;have HD:=am' hd;have HB:=am' hB;have HF:=am' hF;have HLT:=am' hM.lt;have HS:=am' hs;have IH:=am' ih;clear hM hK hd hB hF ih;by_cases hz:rd dist s=0
  ·
   rw[if_pos hz] at h;obtain rfl:=os' h;rw[hz] at hx;go_enter Try.func48,Try.ntmps48;go_wp2;go_ret
   exact ⟨rfl,D,HM.out.below HBA.out,HK.out,Kept.of_below HBA.out _,HBA.out.mono (Nat.le_of_lt HLT.out)⟩
  ·
   rw[if_neg hz] at h;have hxz:(rd dist s == 0)=false:=by simpa using hz
   generalize rd dist s=xs at hx hxz
   clear hz;have hkey:keyOf Try.prog 3 (.int .i64 s)=some (.int .i64 s):=Go.Maps.keyOf_int_mk Try.underlying3 (WalkArith.wf_i64 (by omega));have HM1:=am' (HM.out.below HBA.out);cases hhas:Go.Maps.has D (.int .i64 s) with
   | true =>
    obtain ⟨v',k',hat,hv'⟩:=HK.out.1 s hhas;obtain rfl:=fwF_det HF.out hv';clear h;go_enter Try.func48,Try.ntmps48;go_wp2_with (first|(at_lookup;refine tl_look _ rfl _ _ 74 rfl 3 3 .i64 tl_law Try.underlying74 Try.underlying3 (tl_zero _) b _ D rfl HM1.out _ _ rfl hkey v true hat hhas ?_));go_ret
    exact ⟨rfl,D,HM.out.below HBA.out,HK.out,Kept.of_below HBA.out _,HBA.out.mono (Nat.le_of_lt HLT.out)⟩
   | false =>
    obtain ⟨es,hes,h⟩:=Option.bind_eq_some_iff.mp h;have HES:=am' hes;have HV:=am' h;have hat:=Go.Maps.atKey_of_not_has hhas (.lit (.int .i64 0));have y0:=(bc' HBX.out 0).trans (show _=some (.int .i64 n) from rfl);have y1:=(bc' HBX.out 1).trans (show _=some (.func (.func g) #[] lb) from rfl);clear hes h;go_enter Try.func48,Try.ntmps48;go_wp2_with (first|(at_lookup;refine tl_look _ rfl _ _ 74 rfl 3 3 .i64 tl_law Try.underlying74 Try.underlying3 (tl_zero _) b _ D rfl HM1.out _ _ rfl hkey 0 false hat hhas ?_));go_at_call 66
    refine (best_any g lb out n dist es s W0 _ eg hO (bt' HB.out HBA.out) _ cd (HD.out _ (Kept.of_below HBA.out _)) hcd HES.out).mono ?_
    rintro e w2 ⟨gb,A0,c0,rows,rfl,hA,hgb,htc,her,hb2⟩
    have HRW:=am' her.1.2;have HLEN:=am' (show rows.length=es.length from her.1.1);have HAA:=am' hA;have HGB:=am' (show b < gb from by have h1:=HLT.out;have h2:=HBA.out.size;omega);have HB2:=am' (bt' HBA.out hb2);have HT2:=am' htc;have HX2:=am' (bb' HBX.out hb2);have HM2:=am' (HM1.out.below hb2);have HBIG:=am' (bestF_len HES.out);clear her hA hgb htc hb2 y0 y1 hx hxz hs0 hs1 hat hhas HBX HBA HM1;go_wp2_with fail;go_loopg [15,16,17,37] es.length (fun gg v15 _ _ v37 wr=>∃ (j:Nat) (now:Int) (D1:DataW Unit),v15 = .int .i64 now∧v37 = .int .i64 (j:Int)∧Aside0 (es.length - j≤gg∧j≤es.length)∧Aside0 (fwL (fwF out dist k) (es.drop j) now ((j:Int) == 0)=some v)∧Aside0 ((Lit.int .i64 now).wf=true)∧Aside0 (MpI wr b D1)∧Aside0 (KnOk out dist D1)∧Aside0 (Kept w wr (fun q=>q=b))∧Aside0 (Below b w wr)∧Aside0 (TC wr gb rows)∧Aside0 (wr.heap[w.heap.size]? = some (.cells #[.int .i64 n, .func (.func g) #[] lb] 46 (0,0))))
    case atStart=>exact ⟨0,0,D,rfl,rfl,⟨by omega,by omega⟩,⟨HV.out⟩,⟨by decide⟩,HM2,HK,⟨Kept.of_below HB2.out _⟩,⟨HB2.out.mono (Nat.le_of_lt HLT.out)⟩,HT2,HX2⟩
    case round =>
     obtain ⟨j,now,D1,rfl,rfl,HJ,HV1,HWF,HM3,HK3,HKP,HBB,HT,HX⟩:=hrel;clear HV HM2 HB2 HT2 HX2;by_cases hj:j < es.length
     ·
      have hjz:(j:Int) < (rows.length:Int):=by have:=HLEN.out;omega
      obtain rfl:=HAA.out (by have:=HLEN.out;omega);obtain ⟨ed,hed⟩:∃ ed,es[j]? = some ed:=⟨_,List.getElem?_eq_getElem hj⟩
      obtain ⟨e0,e1,el⟩:=ed;obtain ⟨ve,hve,hRe⟩:=HRW.out j _ hed;obtain ⟨Ae,ce,rfl⟩:=Kd.R_slice hRe;obtain ⟨z0,z1,z2⟩:=HT.out j _ hve;dsimp only at z0 z1 z2
      have hv2:=HV1.out;rw[List.drop_eq_getElem_cons hj,(List.getElem?_eq_some_iff.1 hed).2,fwL] at hv2;obtain ⟨bv,hbv,hv2⟩:=Option.bind_eq_some_iff.mp hv2;have HBV:=am' hbv;obtain ⟨nx,hnx⟩:∃ x,x=(if ((j:Int) == 0)=true then wrap64 (bv+1) else min now (wrap64 (bv+1))):=⟨_,rfl⟩
      rw[← hnx] at hv2;have HNX:=am' hnx;have HV2:=am' hv2;have HJL:=am' hj;have HBA:=am' (ba' (Below.refl wr.heap.size wr) (.cells #[.int .i64 e0, .int .i64 e1, .slice Ae el.length ce] 76));have HE:=am' (heap_alloc_new wr (.cells #[.int .i64 e0, .int .i64 e1, .slice Ae el.length ce] 76));have HM4:=am' (HM3.out.below HBA.out);have HLT4:=am' HM3.out.lt;have HX4:=am' (bb' HX.out HBA.out);have HXL:=am' (blk_lt HX.out);have HKP4:=am' (HKP.out.below HBA.out);have HBB4:=am' (HBB.out.trans (HBA.out.mono (Nat.le_of_lt HLT4.out)));have HT4:=am' (HT.out.cell HBA.out);have HBW:=am' (HB.out.trans (HBB4.out.mono hb0));clear hnx hbv hv2 hRe hve HM3 HKP HBB HT HX HV1;go_wp2_with fail;generalize hW4:wr.alloc (.cells #[.int .i64 e0, .int .i64 e1, .slice Ae el.length ce] 76)=W4 at *
      go_region_held3 (fun w'=>w'.cell? ⟨wr.heap.size,0,none⟩=some (.int .i64 e0)∧w'.cell? ⟨wr.heap.size,1,none⟩=some (.int .i64 e1)∧w'.cell? ⟨wr.heap.size,2,none⟩=some (.slice Ae el.length ce)∧w'.cell? ⟨w.heap.size,0,none⟩=some (.int .i64 n)∧w'.cell? ⟨w.heap.size,1,none⟩=some (.func (.func g) #[] lb)) (first|(exact ⟨(bc' (by repeat (first|(with_reducible exact HE.out)|(with_reducible refine kn' ?_ _)|(with_reducible refine kd' ?_)|(with_reducible refine ka' ?_ _))) 0).trans rfl,(bc' (by repeat (first|(with_reducible exact HE.out)|(with_reducible refine kn' ?_ _)|(with_reducible refine kd' ?_)|(with_reducible refine ka' ?_ _))) 1).trans rfl,(bc' (by repeat (first|(with_reducible exact HE.out)|(with_reducible refine kn' ?_ _)|(with_reducible refine kd' ?_)|(with_reducible refine ka' ?_ _))) 2).trans rfl,(bc' (by repeat (first|(with_reducible exact HX4.out)|(with_reducible refine kn' ?_ _)|(with_reducible refine kd' ?_)|(with_reducible refine ka' ?_ _))) 0).trans rfl,(bc' (by repeat (first|(with_reducible exact HX4.out)|(with_reducible refine kn' ?_ _)|(with_reducible refine kd' ?_)|(with_reducible refine ka' ?_ _))) 1).trans rfl⟩)|go_keep)
       (first|((go_at_call 48;refine (IH.out e0 bv D1 _ ?qb ?qd ?qm HK3.out HBV.out).mono ?_;(case qb=>exact (by repeat (first|(with_reducible exact HBW.out)|(with_reducible apply ba')|(with_reducible apply bd')|(with_reducible apply be'))));(case qd=>exact fun W' hk'=>HD.out W' (Kept.then_ (w:=w) (S:=fun q=>q=b) (by exact HKP4.out) hk' (fun _ h_ => .inl h_)));(case qm=>exact HM4.out);rintro e w5 ⟨rfl,D5,hm5,hk5,hp5,hb5⟩;have HM5:=am' hm5;have HK5:=am' hk5;have HP5:=am' hp5;have HB5:=am' hb5;have n1_:=am' (show w5.heap[wr.heap.size]? = some (.cells #[.int .i64 e0, .int .i64 e1, .slice Ae el.length ce] 76 (0,0)) from (hp5.2 wr.heap.size (blk_lt HE.out) (fun q_=>Nat.ne_of_gt HLT4.out q_)).trans HE.out);have n2_:=am' (show w5.heap[w.heap.size]? = some (.cells #[.int .i64 n, .func (.func g) #[] lb] 46 (0,0)) from (hp5.2 w.heap.size (blk_lt HX4.out) (fun q_=>Nat.ne_of_gt HLT.out q_)).trans HX4.out);clear hm5 hk5 hp5 hb5 HE HX4;have HE:=n1_;have HX4:=n2_;clear n1_ n2_))|((go_at_call 49;refine (fewest1_calls e0 e1 Ae el.length ce now bv _ nx HNX.out _).mono ?_;rintro e w6 ⟨rfl,hb6⟩;have HB6:=am' hb6;have n1_:=am' (bb' (by repeat (first|(with_reducible exact HE.out)|(with_reducible refine kn' ?_ _)|(with_reducible refine kd' ?_))) hb6);have n2_:=am' (bb' (by repeat (first|(with_reducible exact HX4.out)|(with_reducible refine kn' ?_ _)|(with_reducible refine kd' ?_))) hb6);clear hb6 HE HX4;have HE:=n1_;have HX4:=n2_;clear n1_ n2_)))
      go_wp2;go_roundg (es.length - (j+1))
      case measure=>have h1:=HJ.out;have h2:=HJL.out;omega
      case rel =>
       have hz:((((j+1:Nat):Int)) == 0)=false:=beq_eq_false_iff_ne.2 (by omega);refine ⟨j+1,nx,D5,rfl,by first|rfl|exact congrArg _ (by have h1:=HBIG.out;have h2:=HJL.out;rw[wr_id (by omega) (by omega)];rfl),⟨Nat.le_refl _,HJL.out⟩,⟨by rw[hz];exact HV2.out⟩,⟨?_⟩,⟨HM5.out.moved (HB6.out.block b HM5.out.lt)⟩,HK5,⟨(Kept.then_ (w:=w) (S:=fun q=>q=b) (by exact HKP4.out) HP5.out (fun _ h_ => .inl h_)).below HB6.out⟩,⟨((be' HBB4.out).trans HB5.out).trans (HB6.out.mono (Nat.le_of_lt HM5.out.lt))⟩,⟨?_⟩,HX4⟩
       ·
        rw[HNX.out];split
        ·
         exact wrap64_wf _
        ·
         exact wf_min HWF.out (wrap64_wf _)
       ·
        exact TC.cell (TC.kept (W:=W4.drew) (by exact HT4.out) HP5.out (fun q_=>Nat.ne_of_gt HGB.out q_)) HB6.out
     ·
      have hjn:¬ (j:Int) < (rows.length:Int):=by have h1:=HLEN.out;omega
      have hv:=HV1.out;rw[List.drop_eq_nil_of_le (by omega),fwL] at hv;have hv:=os' hv;subst hv;go_wp2_with (first|(at_mapUpdate;refine wpList_mapUpdate_own _ rfl _ _ _ 74 rfl 3 3 tl_law Try.underlying74 (plainElem Try.prog 3) b _ D1 rfl HM3.out (by have h1:=HK3.out.size;unfold maxLen;omega) _ _ (.int .i64 s) rfl rfl hkey _ [] (plainElem_int Try.underlying3 HWF.out) ?_;intro w9 hown9 hg9));go_ret
      exact ⟨rfl,_,MpI.of hown9,HK3.out.put (World.ownsMap.tidy HM3.out tl_law) HS.out.1 HS.out.2 HF.out,Kept.of_grown hg9 HKP.out (fun k hk => .inl (by injection hk with e;exact e.symm)),HBB.out.grown hg9 (Nat.le_of_lt HM3.out.lt) (fun k hk=>by injection hk with e;omega)⟩
 ·
  rw[if_neg hs] at h;cases h
end Go.Proofs.Ytihieplobgehaaa.C2
