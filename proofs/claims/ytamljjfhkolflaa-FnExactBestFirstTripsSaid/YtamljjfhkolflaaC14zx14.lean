import Derived.Test.YtamljjfhkolflaaC14zx0
import Derived.Test.YtamljjfhkolflaaC14zx8
import Derived.Test.YtamljjfhkolflaaC14zx11
import Derived.Test.YtamljjfhkolflaaC14zx12
import Derived.Test.YtamljjfhkolflaaC14zx13
import Derived.Test.YtamljjfhkolflaaC14zAl
namespace Go.Proofs.Ytamljjfhkolflaa.C14
open Go.RowKit Go.Proofs.YtamljjfhkolflaaW.PrintWords Go.Proofs.YtamljjfhkolflaaW.PrintLast Go.Proofs.YtamljjfhkolflaaW.PrintMore Go.Proofs.Ytamljjfhkolflaa.H
attribute [local go_sem] max2_int min2_int max_two min_two max_three min_three max_four min_four
set_option linter.unusedVariables false
set_option linter.unusedSimpArgs false
set_option maxHeartbeats 4000000 in
set_option maxRecDepth 100000 in
theorem best1_calls (A:Option Addr) (c:Nat) (dist:List Int) (s e0 e1:Int) (v2:Value) (pd ps:Nat) (w:World) (hd:w.cell? ⟨pd,0,none⟩=some (.slice A dist.length c)) (hs:w.cell? ⟨ps,0,none⟩=some (.int .i64 s)) (hr:Kd.C (Kd.int .i64) w A dist.length dist) (hc:dist.length≤c)
  (h0:0≤e0) (h1:e0 < (dist.length:Int)) (h2:0≤s) (h3:s < (dist.length:Int)) (h4:wrap64 (rd dist e0+e1)=rd dist e0+e1) :
  Calls Try.prog 117 #[.agg #[.int .i64 e0, .int .i64 e1,v2], .pointer (some ⟨pd,0,none⟩), .pointer (some ⟨ps,0,none⟩)] w fun e w'=>e = .returned (.bool (!(decide (0≤rd dist e0) && decide (rd dist e0+e1=rd dist s))))∧Below w.heap.size w w':=by
 have hue:=Try.underlying92
 obtain ⟨ad,ea,hx⟩:=Kd.at_int hr e0 h0 h1
 subst ea;obtain ⟨ads,eb,hy⟩:=Kd.at_int hr s h2 h3
 cases eb
 generalize rd dist e0=x at hx h4 ⊢
 generalize rd dist s=y at hy ⊢
 have HH:=am' (heap_alloc_new w (.cells #[.int .i64 e0, .int .i64 e1,v2] 92))
 have HBA:=am' (ba' (Below.refl w.heap.size w) (.cells #[.int .i64 e0, .int .i64 e1,v2] 92))
 have hp0:=eq_true h0
 have hp1:=eq_true h1
 have hp2:=eq_true h2
 have hp3:=eq_true h3
 go_enter Try.func117,Try.ntmps117
 have z0:(w.alloc (.cells #[.int .i64 e0, .int .i64 e1,v2] 92)).cell? ⟨w.heap.size,0,none⟩=some (.int .i64 e0):=(blk_cell HH.out 0).trans rfl
 have z1:(w.alloc (.cells #[.int .i64 e0, .int .i64 e1,v2] 92)).cell? ⟨w.heap.size,1,none⟩=some (.int .i64 e1):=(blk_cell HH.out 1).trans rfl
 have z2:=(HBA.out.cell (bl' w _ hd)).trans hd
 have z3:=(HBA.out.cell (bl' w _ hs)).trans hs
 have z4:=(HBA.out.cell (bl' w _ hx)).trans hx
 have z5:=(HBA.out.cell (bl' w _ hy)).trans hy
 clear hd hs hx hy hr hc;by_cases hl:x < 0
 ·
  have hlz:=decide_eq_true hl;rw[show (!(decide (0≤x) && decide (x+e1=y)))=true by rw[decide_eq_false (show ¬ 0≤x by omega)];rfl];go_wp2_with fail;refine start_ (n:=22) (S:=fun w'=>w'.cell? ⟨w.heap.size,0,none⟩=some (.int .i64 e0)∧w'.cell? ⟨w.heap.size,1,none⟩=some (.int .i64 e1)∧w'.cell? ⟨pd,0,none⟩=some (.slice (some ad) dist.length c)∧w'.cell? ⟨ps,0,none⟩=some (.int .i64 s)∧w'.cell? (ad.add e0.toNat)=some (.int .i64 x)∧w'.cell? (ad.add s.toNat)=some (.int .i64 y)) (ds:=[]) #[false,false,false,false,false,false,false,false,false,false,false,false,false,false,false,false,false,false,false,false,false,false] (by kernel_rfl) rfl rfl ⟨z0,z1,z2,z3,z4,z5⟩ (fun hHeld=>?_);refine take_ (i:=0) (N:=some 5) (v:=?_) (a':=?_) #[true,false,false,false,false,false,false,false,false,false,false,false,false,false,false,false,false,false,false,false,false,false] rfl rfl (by kernel_rfl) (fun _ _ _ h=>h) (Or.inl ⟨by rfl,?_⟩) hHeld ?_ ?_
  rotate_left
  ·
   rintro w' ⟨s0_,s1_,s2_,s3_,s4_,s5_⟩
   go_simp;with_reducible rfl
  rotate_left
  ·
   simp only[Act.put,sa',sb',sc',i64_w,i32_w];rfl
  refine pure_ (i:=1) (N:=some 6) (v:=?_) (a':=?_) #[true,true,false,false,false,false,false,false,false,false,false,false,false,false,false,false,false,false,false,false,false,false] rfl rfl (by kernel_rfl) (fun _ _ _ h=>h) (Or.inl ⟨by rfl,?_⟩) ?_ ?_
  rotate_left
  ·
   intro w';go_simp;with_reducible rfl
  rotate_left
  ·
   simp only[Act.put,sa',sb',sc',i64_w,i32_w];rfl
  refine take_ (i:=2) (N:=some 7) (v:=?_) (a':=?_) #[true,true,true,false,false,false,false,false,false,false,false,false,false,false,false,false,false,false,false,false,false,false] rfl rfl (by kernel_rfl) (fun _ _ _ h=>h) (Or.inl ⟨by rfl,?_⟩) hHeld ?_ ?_
  rotate_left
  ·
   rintro w' ⟨s0_,s1_,s2_,s3_,s4_,s5_⟩
   go_simp;with_reducible rfl
  rotate_left
  ·
   simp only[Act.put,sa',sb',sc',i64_w,i32_w];rfl
  refine pure_ (i:=3) (N:=some 8) (v:=?_) (a':=?_) #[true,true,true,true,false,false,false,false,false,false,false,false,false,false,false,false,false,false,false,false,false,false] rfl rfl (by kernel_rfl) (fun _ _ _ h=>h) (Or.inl ⟨by rfl,?_⟩) ?_ ?_
  rotate_left
  ·
   intro w';go_simp;with_reducible rfl
  rotate_left
  ·
   simp only[Act.put,sa',sb',sc',i64_w,i32_w];rfl
  refine take_ (i:=4) (N:=some 9) (v:=?_) (a':=?_) #[true,true,true,true,true,false,false,false,false,false,false,false,false,false,false,false,false,false,false,false,false,false] rfl rfl (by kernel_rfl) (fun _ _ _ h=>h) (Or.inl ⟨by rfl,?_⟩) hHeld ?_ ?_
  rotate_left
  ·
   rintro w' ⟨s0_,s1_,s2_,s3_,s4_,s5_⟩
   go_simp;with_reducible rfl
  rotate_left
  ·
   simp only[Act.put,sa',sb',sc',i64_w,i32_w];rfl
  refine pure_ (i:=5) (N:=some 10) (v:=?_) (a':=?_) #[true,true,true,true,true,true,false,false,false,false,false,false,false,false,false,false,false,false,false,false,false,false] rfl rfl (by kernel_rfl) (fun _ _ _ h=>h) (Or.inl ⟨by rfl,?_⟩) ?_ ?_
  rotate_left
  ·
   intro w';go_simp;with_reducible rfl
  rotate_left
  ·
   simp only[Act.put,sa',sb',sc',i64_w,i32_w];rfl
  refine pure_ (i:=6) (N:=some 11) (v:=?_) (a':=?_) #[true,true,true,true,true,true,true,false,false,false,false,false,false,false,false,false,false,false,false,false,false,false] rfl rfl (by kernel_rfl) (fun _ _ _ h=>h) (Or.inl ⟨by rfl,?_⟩) ?_ ?_
  rotate_left
  ·
   intro w';go_simp;with_reducible rfl
  rotate_left
  ·
   simp only[Act.put,sa',sb',sc',i64_w,i32_w];rfl
  refine pure_ (i:=7) (N:=some 12) (v:=undef) (a':=?_) #[true,true,true,true,true,true,true,true,false,false,false,false,false,false,false,false,false,false,false,false,false,false] rfl rfl (by kernel_rfl) (fun _ _ _ h=>h) (Or.inr ⟨by rfl,rfl⟩) ?_ ?_
  rotate_left
  ·
   simp only[Act.put,sa',sb',sc',i64_w,i32_w];rfl
  refine pure_ (i:=8) (N:=some 13) (v:=undef) (a':=?_) #[true,true,true,true,true,true,true,true,true,false,false,false,false,false,false,false,false,false,false,false,false,false] rfl rfl (by kernel_rfl) (fun _ _ _ h=>h) (Or.inr ⟨by rfl,rfl⟩) ?_ ?_
  rotate_left
  ·
   simp only[Act.put,sa',sb',sc',i64_w,i32_w];rfl
  refine pure_ (i:=9) (N:=some 14) (v:=undef) (a':=?_) #[true,true,true,true,true,true,true,true,true,true,false,false,false,false,false,false,false,false,false,false,false,false] rfl rfl (by kernel_rfl) (fun _ _ _ h=>h) (Or.inr ⟨by rfl,rfl⟩) ?_ ?_
  rotate_left
  ·
   simp only[Act.put,sa',sb',sc',i64_w,i32_w];rfl
  refine pure_ (i:=10) (N:=some 15) (v:=undef) (a':=?_) #[true,true,true,true,true,true,true,true,true,true,true,false,false,false,false,false,false,false,false,false,false,false] rfl rfl (by kernel_rfl) (fun _ _ _ h=>h) (Or.inr ⟨by rfl,rfl⟩) ?_ ?_
  rotate_left
  ·
   simp only[Act.put,sa',sb',sc',i64_w,i32_w];rfl
  refine pure_ (i:=11) (N:=some 16) (v:=undef) (a':=?_) #[true,true,true,true,true,true,true,true,true,true,true,true,false,false,false,false,false,false,false,false,false,false] rfl rfl (by kernel_rfl) (fun _ _ _ h=>h) (Or.inr ⟨by rfl,rfl⟩) ?_ ?_
  rotate_left
  ·
   simp only[Act.put,sa',sb',sc',i64_w,i32_w];rfl
  refine pure_ (i:=12) (N:=some 17) (v:=undef) (a':=?_) #[true,true,true,true,true,true,true,true,true,true,true,true,true,false,false,false,false,false,false,false,false,false] rfl rfl (by kernel_rfl) (fun _ _ _ h=>h) (Or.inr ⟨by rfl,rfl⟩) ?_ ?_
  rotate_left
  ·
   simp only[Act.put,sa',sb',sc',i64_w,i32_w];rfl
  refine pure_ (i:=13) (N:=some 18) (v:=undef) (a':=?_) #[true,true,true,true,true,true,true,true,true,true,true,true,true,true,false,false,false,false,false,false,false,false] rfl rfl (by kernel_rfl) (fun _ _ _ h=>h) (Or.inr ⟨by rfl,rfl⟩) ?_ ?_
  rotate_left
  ·
   simp only[Act.put,sa',sb',sc',i64_w,i32_w];rfl
  refine pure_ (i:=14) (N:=some 19) (v:=undef) (a':=?_) #[true,true,true,true,true,true,true,true,true,true,true,true,true,true,true,false,false,false,false,false,false,false] rfl rfl (by kernel_rfl) (fun _ _ _ h=>h) (Or.inr ⟨by rfl,rfl⟩) ?_ ?_
  rotate_left
  ·
   simp only[Act.put,sa',sb',sc',i64_w,i32_w];rfl
  refine pure_ (i:=15) (N:=some 20) (v:=undef) (a':=?_) #[true,true,true,true,true,true,true,true,true,true,true,true,true,true,true,true,false,false,false,false,false,false] rfl rfl (by kernel_rfl) (fun _ _ _ h=>h) (Or.inr ⟨by rfl,rfl⟩) ?_ ?_
  rotate_left
  ·
   simp only[Act.put,sa',sb',sc',i64_w,i32_w];rfl
  refine pure_ (i:=16) (N:=some 21) (v:=undef) (a':=?_) #[true,true,true,true,true,true,true,true,true,true,true,true,true,true,true,true,true,false,false,false,false,false] rfl rfl (by kernel_rfl) (fun _ _ _ h=>h) (Or.inr ⟨by rfl,rfl⟩) ?_ ?_
  rotate_left
  ·
   simp only[Act.put,sa',sb',sc',i64_w,i32_w];rfl
  refine pure_ (i:=17) (N:=some 22) (v:=undef) (a':=?_) #[true,true,true,true,true,true,true,true,true,true,true,true,true,true,true,true,true,true,false,false,false,false] rfl rfl (by kernel_rfl) (fun _ _ _ h=>h) (Or.inr ⟨by rfl,rfl⟩) ?_ ?_
  rotate_left
  ·
   simp only[Act.put,sa',sb',sc',i64_w,i32_w];rfl
  refine pure_ (i:=18) (N:=some 23) (v:=undef) (a':=?_) #[true,true,true,true,true,true,true,true,true,true,true,true,true,true,true,true,true,true,true,false,false,false] rfl rfl (by kernel_rfl) (fun _ _ _ h=>h) (Or.inr ⟨by rfl,rfl⟩) ?_ ?_
  rotate_left
  ·
   simp only[Act.put,sa',sb',sc',i64_w,i32_w];rfl
  refine pure_ (i:=19) (N:=some 24) (v:=undef) (a':=?_) #[true,true,true,true,true,true,true,true,true,true,true,true,true,true,true,true,true,true,true,true,false,false] rfl rfl (by kernel_rfl) (fun _ _ _ h=>h) (Or.inr ⟨by rfl,rfl⟩) ?_ ?_
  rotate_left
  ·
   simp only[Act.put,sa',sb',sc',i64_w,i32_w];rfl
  refine pure_ (i:=20) (N:=some 25) (v:=?_) (a':=?_) #[true,true,true,true,true,true,true,true,true,true,true,true,true,true,true,true,true,true,true,true,true,false] rfl rfl (by kernel_rfl) (fun _ _ _ h=>h) (Or.inl ⟨by rfl,?_⟩) ?_ ?_
  rotate_left
  ·
   intro w';go_simp;with_reducible rfl
  rotate_left
  ·
   simp only[Act.put,sa',sb',sc',i64_w,i32_w];rfl
  refine pure_ (i:=21) (N:=some 4) (v:=?_) (a':=?_) #[true,true,true,true,true,true,true,true,true,true,true,true,true,true,true,true,true,true,true,true,true,true] rfl rfl (by kernel_rfl) (fun _ _ _ h=>h) (Or.inl ⟨by rfl,?_⟩) ?_ ?_
  rotate_left
  ·
   intro w';go_simp;with_reducible rfl
  rotate_left
  ·
   simp only[Act.put,sa',sb',sc',i64_w,i32_w];rfl
  refine done_ (by kernel_rfl) ?_
  go_wp2;go_ret
  exact ⟨rfl,be' HBA.out⟩
 ·
  have hlz:=decide_eq_false hl;rw[show (!(decide (0≤x) && decide (x+e1=y))) = !(x+e1 == y) by rw[decide_eq_true (show 0≤x by omega),Bool.true_and];by_cases q:x+e1=y <;> simp [q]];go_wp2_with fail;refine start_ (n:=22) (S:=fun w'=>w'.cell? ⟨w.heap.size,0,none⟩=some (.int .i64 e0)∧w'.cell? ⟨w.heap.size,1,none⟩=some (.int .i64 e1)∧w'.cell? ⟨pd,0,none⟩=some (.slice (some ad) dist.length c)∧w'.cell? ⟨ps,0,none⟩=some (.int .i64 s)∧w'.cell? (ad.add e0.toNat)=some (.int .i64 x)∧w'.cell? (ad.add s.toNat)=some (.int .i64 y)) (ds:=[]) #[false,false,false,false,false,false,false,false,false,false,false,false,false,false,false,false,false,false,false,false,false,false] (by kernel_rfl) rfl rfl ⟨z0,z1,z2,z3,z4,z5⟩ (fun hHeld=>?_);refine take_ (i:=0) (N:=some 5) (v:=?_) (a':=?_) #[true,false,false,false,false,false,false,false,false,false,false,false,false,false,false,false,false,false,false,false,false,false] rfl rfl (by kernel_rfl) (fun _ _ _ h=>h) (Or.inl ⟨by rfl,?_⟩) hHeld ?_ ?_
  rotate_left
  ·
   rintro w' ⟨s0_,s1_,s2_,s3_,s4_,s5_⟩
   go_simp;with_reducible rfl
  rotate_left
  ·
   simp only[Act.put,sa',sb',sc',i64_w,i32_w];rfl
  refine pure_ (i:=1) (N:=some 6) (v:=?_) (a':=?_) #[true,true,false,false,false,false,false,false,false,false,false,false,false,false,false,false,false,false,false,false,false,false] rfl rfl (by kernel_rfl) (fun _ _ _ h=>h) (Or.inl ⟨by rfl,?_⟩) ?_ ?_
  rotate_left
  ·
   intro w';go_simp;with_reducible rfl
  rotate_left
  ·
   simp only[Act.put,sa',sb',sc',i64_w,i32_w];rfl
  refine take_ (i:=2) (N:=some 7) (v:=?_) (a':=?_) #[true,true,true,false,false,false,false,false,false,false,false,false,false,false,false,false,false,false,false,false,false,false] rfl rfl (by kernel_rfl) (fun _ _ _ h=>h) (Or.inl ⟨by rfl,?_⟩) hHeld ?_ ?_
  rotate_left
  ·
   rintro w' ⟨s0_,s1_,s2_,s3_,s4_,s5_⟩
   go_simp;with_reducible rfl
  rotate_left
  ·
   simp only[Act.put,sa',sb',sc',i64_w,i32_w];rfl
  refine pure_ (i:=3) (N:=some 8) (v:=?_) (a':=?_) #[true,true,true,true,false,false,false,false,false,false,false,false,false,false,false,false,false,false,false,false,false,false] rfl rfl (by kernel_rfl) (fun _ _ _ h=>h) (Or.inl ⟨by rfl,?_⟩) ?_ ?_
  rotate_left
  ·
   intro w';go_simp;with_reducible rfl
  rotate_left
  ·
   simp only[Act.put,sa',sb',sc',i64_w,i32_w];rfl
  refine take_ (i:=4) (N:=some 9) (v:=?_) (a':=?_) #[true,true,true,true,true,false,false,false,false,false,false,false,false,false,false,false,false,false,false,false,false,false] rfl rfl (by kernel_rfl) (fun _ _ _ h=>h) (Or.inl ⟨by rfl,?_⟩) hHeld ?_ ?_
  rotate_left
  ·
   rintro w' ⟨s0_,s1_,s2_,s3_,s4_,s5_⟩
   go_simp;with_reducible rfl
  rotate_left
  ·
   simp only[Act.put,sa',sb',sc',i64_w,i32_w];rfl
  refine pure_ (i:=5) (N:=some 10) (v:=?_) (a':=?_) #[true,true,true,true,true,true,false,false,false,false,false,false,false,false,false,false,false,false,false,false,false,false] rfl rfl (by kernel_rfl) (fun _ _ _ h=>h) (Or.inl ⟨by rfl,?_⟩) ?_ ?_
  rotate_left
  ·
   intro w';go_simp;with_reducible rfl
  rotate_left
  ·
   simp only[Act.put,sa',sb',sc',i64_w,i32_w];rfl
  refine pure_ (i:=6) (N:=some 11) (v:=?_) (a':=?_) #[true,true,true,true,true,true,true,false,false,false,false,false,false,false,false,false,false,false,false,false,false,false] rfl rfl (by kernel_rfl) (fun _ _ _ h=>h) (Or.inl ⟨by rfl,?_⟩) ?_ ?_
  rotate_left
  ·
   intro w';go_simp;with_reducible rfl
  rotate_left
  ·
   simp only[Act.put,sa',sb',sc',i64_w,i32_w];rfl
  refine take_ (i:=7) (N:=some 12) (v:=?_) (a':=?_) #[true,true,true,true,true,true,true,true,false,false,false,false,false,false,false,false,false,false,false,false,false,false] rfl rfl (by kernel_rfl) (fun _ _ _ h=>h) (Or.inl ⟨by rfl,?_⟩) hHeld ?_ ?_
  rotate_left
  ·
   rintro w' ⟨s0_,s1_,s2_,s3_,s4_,s5_⟩
   go_simp;with_reducible rfl
  rotate_left
  ·
   simp only[Act.put,sa',sb',sc',i64_w,i32_w];rfl
  refine pure_ (i:=8) (N:=some 13) (v:=?_) (a':=?_) #[true,true,true,true,true,true,true,true,true,false,false,false,false,false,false,false,false,false,false,false,false,false] rfl rfl (by kernel_rfl) (fun _ _ _ h=>h) (Or.inl ⟨by rfl,?_⟩) ?_ ?_
  rotate_left
  ·
   intro w';go_simp;with_reducible rfl
  rotate_left
  ·
   simp only[Act.put,sa',sb',sc',i64_w,i32_w];rfl
  refine take_ (i:=9) (N:=some 14) (v:=?_) (a':=?_) #[true,true,true,true,true,true,true,true,true,true,false,false,false,false,false,false,false,false,false,false,false,false] rfl rfl (by kernel_rfl) (fun _ _ _ h=>h) (Or.inl ⟨by rfl,?_⟩) hHeld ?_ ?_
  rotate_left
  ·
   rintro w' ⟨s0_,s1_,s2_,s3_,s4_,s5_⟩
   go_simp;with_reducible rfl
  rotate_left
  ·
   simp only[Act.put,sa',sb',sc',i64_w,i32_w];rfl
  refine pure_ (i:=10) (N:=some 15) (v:=?_) (a':=?_) #[true,true,true,true,true,true,true,true,true,true,true,false,false,false,false,false,false,false,false,false,false,false] rfl rfl (by kernel_rfl) (fun _ _ _ h=>h) (Or.inl ⟨by rfl,?_⟩) ?_ ?_
  rotate_left
  ·
   intro w';go_simp;with_reducible rfl
  rotate_left
  ·
   simp only[Act.put,sa',sb',sc',i64_w,i32_w];rfl
  refine take_ (i:=11) (N:=some 16) (v:=?_) (a':=?_) #[true,true,true,true,true,true,true,true,true,true,true,true,false,false,false,false,false,false,false,false,false,false] rfl rfl (by kernel_rfl) (fun _ _ _ h=>h) (Or.inl ⟨by rfl,?_⟩) hHeld ?_ ?_
  rotate_left
  ·
   rintro w' ⟨s0_,s1_,s2_,s3_,s4_,s5_⟩
   go_simp;with_reducible rfl
  rotate_left
  ·
   simp only[Act.put,sa',sb',sc',i64_w,i32_w];rfl
  refine pure_ (i:=12) (N:=some 17) (v:=?_) (a':=?_) #[true,true,true,true,true,true,true,true,true,true,true,true,true,false,false,false,false,false,false,false,false,false] rfl rfl (by kernel_rfl) (fun _ _ _ h=>h) (Or.inl ⟨by rfl,?_⟩) ?_ ?_
  rotate_left
  ·
   intro w';go_simp;with_reducible rfl
  rotate_left
  ·
   simp only[Act.put,sa',sb',sc',i64_w,i32_w];rfl
  refine take_ (i:=13) (N:=some 18) (v:=?_) (a':=?_) #[true,true,true,true,true,true,true,true,true,true,true,true,true,true,false,false,false,false,false,false,false,false] rfl rfl (by kernel_rfl) (fun _ _ _ h=>h) (Or.inl ⟨by rfl,?_⟩) hHeld ?_ ?_
  rotate_left
  ·
   rintro w' ⟨s0_,s1_,s2_,s3_,s4_,s5_⟩
   go_simp;with_reducible rfl
  rotate_left
  ·
   simp only[Act.put,sa',sb',sc',i64_w,i32_w];rfl
  refine pure_ (i:=14) (N:=some 19) (v:=?_) (a':=?_) #[true,true,true,true,true,true,true,true,true,true,true,true,true,true,true,false,false,false,false,false,false,false] rfl rfl (by kernel_rfl) (fun _ _ _ h=>h) (Or.inl ⟨by rfl,?_⟩) ?_ ?_
  rotate_left
  ·
   intro w';go_simp;with_reducible rfl
  rotate_left
  ·
   simp only[Act.put,sa',sb',sc',i64_w,i32_w];rfl
  refine take_ (i:=15) (N:=some 20) (v:=?_) (a':=?_) #[true,true,true,true,true,true,true,true,true,true,true,true,true,true,true,true,false,false,false,false,false,false] rfl rfl (by kernel_rfl) (fun _ _ _ h=>h) (Or.inl ⟨by rfl,?_⟩) hHeld ?_ ?_
  rotate_left
  ·
   rintro w' ⟨s0_,s1_,s2_,s3_,s4_,s5_⟩
   go_simp;with_reducible rfl
  rotate_left
  ·
   simp only[Act.put,sa',sb',sc',i64_w,i32_w];rfl
  refine take_ (i:=16) (N:=some 21) (v:=?_) (a':=?_) #[true,true,true,true,true,true,true,true,true,true,true,true,true,true,true,true,true,false,false,false,false,false] rfl rfl (by kernel_rfl) (fun _ _ _ h=>h) (Or.inl ⟨by rfl,?_⟩) hHeld ?_ ?_
  rotate_left
  ·
   rintro w' ⟨s0_,s1_,s2_,s3_,s4_,s5_⟩
   go_simp;with_reducible rfl
  rotate_left
  ·
   simp only[Act.put,sa',sb',sc',i64_w,i32_w];rfl
  refine pure_ (i:=17) (N:=some 22) (v:=?_) (a':=?_) #[true,true,true,true,true,true,true,true,true,true,true,true,true,true,true,true,true,true,false,false,false,false] rfl rfl (by kernel_rfl) (fun _ _ _ h=>h) (Or.inl ⟨by rfl,?_⟩) ?_ ?_
  rotate_left
  ·
   intro w';go_simp;with_reducible rfl
  rotate_left
  ·
   simp only[Act.put,sa',sb',sc',i64_w,i32_w];rfl
  refine take_ (i:=18) (N:=some 23) (v:=?_) (a':=?_) #[true,true,true,true,true,true,true,true,true,true,true,true,true,true,true,true,true,true,true,false,false,false] rfl rfl (by kernel_rfl) (fun _ _ _ h=>h) (Or.inl ⟨by rfl,?_⟩) hHeld ?_ ?_
  rotate_left
  ·
   rintro w' ⟨s0_,s1_,s2_,s3_,s4_,s5_⟩
   go_simp;with_reducible rfl
  rotate_left
  ·
   simp only[Act.put,sa',sb',sc',i64_w,i32_w];rfl
  refine pure_ (i:=19) (N:=some 24) (v:=?_) (a':=?_) #[true,true,true,true,true,true,true,true,true,true,true,true,true,true,true,true,true,true,true,true,false,false] rfl rfl (by kernel_rfl) (fun _ _ _ h=>h) (Or.inl ⟨by rfl,?_⟩) ?_ ?_
  rotate_left
  ·
   intro w';go_simp;with_reducible rfl
  rotate_left
  ·
   simp only[Act.put,sa',sb',sc',i64_w,i32_w];rfl
  refine pure_ (i:=20) (N:=some 25) (v:=?_) (a':=?_) #[true,true,true,true,true,true,true,true,true,true,true,true,true,true,true,true,true,true,true,true,true,false] rfl rfl (by kernel_rfl) (fun _ _ _ h=>h) (Or.inl ⟨by rfl,?_⟩) ?_ ?_
  rotate_left
  ·
   intro w';go_simp;with_reducible rfl
  rotate_left
  ·
   simp only[Act.put,sa',sb',sc',i64_w,i32_w];rfl
  refine pure_ (i:=21) (N:=some 4) (v:=?_) (a':=?_) #[true,true,true,true,true,true,true,true,true,true,true,true,true,true,true,true,true,true,true,true,true,true] rfl rfl (by kernel_rfl) (fun _ _ _ h=>h) (Or.inl ⟨by rfl,?_⟩) ?_ ?_
  rotate_left
  ·
   intro w';go_simp;with_reducible rfl
  rotate_left
  ·
   simp only[Act.put,sa',sb',sc',i64_w,i32_w];rfl
  refine done_ (by kernel_rfl) ?_
  go_wp2;go_ret
  exact ⟨rfl,be' HBA.out⟩
theorem rows_choose {P:Nat→Edg→Value→Prop}:∀ (es:List Edg) (s:Nat),(∀ (j:Nat) (e:Edg),es[j]? = some e→∃ v,P (s+j) e v)→∃ rows:List RowE,rows.length=es.length∧∀ (j:Nat) (e:Edg),es[j]? = some e→∃ v,rows[j]? = some (e.1,e.2.1,v)∧P (s+j) e v:=by
 intro es;induction es with
 | nil=>intro s _;exact ⟨[],rfl,fun j e h=>by simp at h⟩
 | cons x es ih =>
  intro s h;obtain ⟨v,hv⟩:=h 0 x rfl
  obtain ⟨rows,h1,h2⟩:=ih (s+1) (fun j e he=>by
   obtain ⟨u,hu⟩:=h (j+1) e (by simpa using he);exact ⟨u,by rw[show s+1+j=s+(j+1) by omega];exact hu⟩)
  refine ⟨(x.1,x.2.1,v) :: rows,by simp[h1],fun j e he=>?_⟩;cases j with
  | zero =>
   obtain rfl:x=e:=by simpa using he
   exact ⟨v,rfl,hv⟩
  | succ j =>
   obtain ⟨u,hu1,hu2⟩:=h2 j e (by simpa using he);exact ⟨u,by simpa using hu1,by rw[show s+(j+1)=s+1+j by omega];exact hu2⟩
def EdgB (W:World) (base:Nat) (gb:Nat) (rows:List RowE) (es:List Edg):Prop:=rows.length=es.length∧∀ (j:Nat) (e:Edg),es[j]? = some e→∃ v,rows[j]? = some (e.1,e.2.1,v)∧(Kd.int .i64).R 3 W base (fun k=>k≠gb) v e.2.2
theorem EdgB.cons {W:World} {base gb:Nat} {r:RowE} {rows:List RowE} {e:Edg} {es:List Edg} (h:EdgB W base gb (r :: rows) (e :: es)):(∃ v,r=(e.1,e.2.1,v)∧(Kd.int .i64).R 3 W base (fun k=>k≠gb) v e.2.2)∧EdgB W base gb rows es:=by
 obtain ⟨h1,h2⟩:=h
 refine ⟨?_,by simpa using h1,fun j x hx=>?_⟩
 ·
  obtain ⟨v,hv,hR⟩:=h2 0 e rfl;exact ⟨v,by simpa using hv,hR⟩
 ·
  obtain ⟨v,hv,hR⟩:=h2 (j+1) x (by simpa using hx);exact ⟨v,by simpa using hv,hR⟩
theorem EdgB.filter {W:World} {base gb:Nat} (q:RowE→Bool) (q2:Edg→Bool) (hq:∀ (e:Edg) (v:Value),q (e.1,e.2.1,v)=q2 e):∀ (rows:List RowE) (es:List Edg),EdgB W base gb rows es→EdgB W base gb (rows.filter q) (es.filter q2):=by
 intro rows;induction rows with
 | nil =>
  intro es h;obtain rfl:es=[]:=List.length_eq_zero_iff.1 h.1.symm;exact h
 | cons r rows ih =>
  intro es h;cases es with
  | nil=>have:=h.1;simp at this
  | cons e es =>
   obtain ⟨⟨v,rfl,hR⟩,ht⟩:=h.cons;have hi:=ih es ht;simp only[List.filter_cons,hq];split
   ·
    refine ⟨by simp[hi.1],fun j x hx=>?_⟩;cases j with
    | zero =>
     obtain rfl:e=x:=by simpa using hx
     exact ⟨v,rfl,hR⟩
    | succ j =>
     obtain ⟨u,hu,hRu⟩:=hi.2 j x (by simpa using hx);exact ⟨u,by simpa using hu,hRu⟩
   ·
    exact hi
theorem EdgB.kept {W W1:World} {base gb:Nat} {rows:List RowE} {es:List Edg} (h:EdgB W base gb rows es) (hk:Kept W W1 (fun k=>k=gb)):EdgB W1 base gb rows es :=
 ⟨h.1,fun j e he=>by
  obtain ⟨v,hv,hR⟩:=h.2 j e he;exact ⟨v,hv,Kd.R_kept hR hk (fun k hk=>hk)⟩⟩
def EdgAf (f:Nat→Nat) (W:World) (base:Nat) (gb:Nat) (rows:List RowE) (js:List Nat) (es:List Edg):Prop:=rows.length=es.length∧js.length=es.length∧∀ (j:Nat) (e:Edg),es[j]? = some e→∃ v q,rows[j]? = some (e.1,e.2.1,v)∧js[j]? = some q∧(Kd.int .i64).R 3 W base (fun k=>k≠gb∧f k=q) v e.2.2
def EdgA (W:World) (base:Nat) (gb:Nat) (rows:List RowE) (es:List Edg):Prop:=∃ (f:Nat→Nat) (js:List Nat),js.Nodup∧EdgAf f W base gb rows js es
theorem EdgAf.filter_ {f:Nat→Nat} {W:World} {base gb:Nat} (q:RowE→Bool) (q2:Edg→Bool) (hq:∀ (e:Edg) (v:Value),q (e.1,e.2.1,v)=q2 e):∀ (rows:List RowE) (js:List Nat) (es:List Edg),EdgAf f W base gb rows js es→∃ js':List Nat,js'.Sublist js∧EdgAf f W base gb (rows.filter q) js' (es.filter q2):=by
 intro rows;induction rows with
 | nil =>
  intro js es h;obtain rfl:es=[]:=List.length_eq_zero_iff.1 h.1.symm;exact ⟨js,List.Sublist.refl _,h⟩
 | cons r rows ih =>
  intro js es h;obtain ⟨h1,h2,h3⟩:=h;cases es with
  | nil=>simp at h1
  | cons e es =>
   cases js with
   | nil=>simp at h2
   | cons i js =>
    obtain ⟨v,i0,hv,hi0,hR⟩:=h3 0 e rfl;obtain rfl:r=(e.1,e.2.1,v):=by simpa using hv
    obtain rfl:i=i0:=by simpa using hi0
    obtain ⟨js',hs,hi1,hi2,hi3⟩:=ih js es ⟨by simpa using h1,by simpa using h2,fun j x hx=>by
     obtain ⟨u,q',hu,hq',hRu⟩:=h3 (j+1) x (by simpa using hx);exact ⟨u,q',by simpa using hu,by simpa using hq',hRu⟩⟩
    simp only[List.filter_cons,hq];split
    ·
     refine ⟨i :: js',hs.cons_cons i,by simp[hi1],by simp[hi2],fun j x hx=>?_⟩;cases j with
     | zero =>
      obtain rfl:e=x:=by simpa using hx
      exact ⟨v,i,rfl,rfl,hR⟩
     | succ j =>
      obtain ⟨u,q',hu,hq',hRu⟩:=hi3 j x (by simpa using hx);exact ⟨u,q',by simpa using hu,by simpa using hq',hRu⟩
    ·
     exact ⟨js',hs.cons i,hi1,hi2,hi3⟩
def EdgR (W:World) (base:Nat) (gb:Nat) (rows:List RowE) (es:List Edg):Prop:=EdgB W base gb rows es∧EdgA W base gb rows es
theorem EdgR.filter {W:World} {base gb:Nat} (q:RowE→Bool) (q2:Edg→Bool) (hq:∀ (e:Edg) (v:Value),q (e.1,e.2.1,v)=q2 e) (rows:List RowE) (es:List Edg) (h:EdgR W base gb rows es):EdgR W base gb (rows.filter q) (es.filter q2):=by
 obtain ⟨h1,f,js,hn,h2⟩:=h
 obtain ⟨js',hs,h3⟩:=EdgAf.filter_ q q2 hq rows js es h2
 exact ⟨EdgB.filter q q2 hq rows es h1,f,js',hn.sublist hs,h3⟩
theorem EdgR.kept {W W1:World} {base gb:Nat} {rows:List RowE} {es:List Edg} (h:EdgR W base gb rows es) (hk:Kept W W1 (fun k=>k=gb)):EdgR W1 base gb rows es:=by
 obtain ⟨h1,f,js,hn,a1,a2,a3⟩:=h
 exact ⟨EdgB.kept h1 hk,f,js,hn,a1,a2,fun j e he=>by
  obtain ⟨v,q,hv,hq,hR⟩:=a3 j e he;exact ⟨v,q,hv,hq,Kd.R_kept hR hk (fun k hk=>hk.1)⟩⟩
theorem edges_of {W:World} {base n cap:Nat} {A:Option Addr} {es:List Edg} (h:Kd.S EdgK 92 W base (fun _=>True) (.slice A n cap) es):∃ (gb:Nat) (rows:List RowE),(0 < rows.length→A=some ⟨gb,0,none⟩)∧base≤gb∧(0 < rows.length→BlkE W gb rows.length)∧TC W gb rows∧EdgR W base gb rows es∧(∀ x ∈ rows,∃ A n c,x.2.2 = .slice A n c):=by
 by_cases he:0 < es.length
 ·
  obtain ⟨g,cap',hv,hb,hlt,cells,hc⟩:=Kd.S_form h he;injection hv with hA hn _
  subst hA;subst hn;obtain ⟨f,hf⟩:=h;have hzl:es.zipIdx.length=es.length:=List.length_zipIdx
  obtain ⟨rows,h1,h2⟩:=rows_choose (P:=fun j e v=>W.cell? ⟨g,j * 3,none⟩=some (.int .i64 e.1)∧W.cell? ⟨g,j * 3+1,none⟩=some (.int .i64 e.2.1)∧W.cell? ⟨g,j * 3+2,none⟩=some v∧(Kd.int .i64).R 3 W base (fun k=>k≠g∧f k=j) v e.2.2∧(∀ k,k < 3→(W.cell? ⟨g,j * 3+k,none⟩).isSome=true)) es 0 (fun j e hj=>by
   have hl:=(List.getElem?_eq_some_iff.1 hj).1;obtain ⟨c,hcl,hM,hcc,_⟩:=Kd.R_elem hf ((0,0,[]),0) (j:Int) (by omega) (by omega);rw[Int.toNat_natCast,List.getD_eq_getElem?_getD,Kd.zip_at hj,Option.getD_some] at hM;obtain ⟨c0,c1,rfl,h0,c2,c3,rfl,h1,v,rfl,h2⟩:=hM;have h0:c0=[.int .i64 e.1]:=h0;have h1:c2=[.int .i64 e.2.1]:=h1;subst h0 h1;rw[Nat.zero_add];have q0:=hcc 0 _ rfl;have q1:=hcc 1 _ rfl;have q2:=hcc 2 _ rfl;rw[Int.toNat_natCast] at q0 q1 q2;refine ⟨v,q0,q1,q2,Kd.R_mono h2 (fun k hk=>⟨hk.1.2,hk.2⟩),fun k hk=>?_⟩;rcases (show k=0∨k=1∨k=2 by omega) with rfl|rfl|rfl
   ·
    exact Option.isSome_iff_exists.2 ⟨_,q0⟩
   ·
    exact Option.isSome_iff_exists.2 ⟨_,q1⟩
   ·
    exact Option.isSome_iff_exists.2 ⟨_,q2⟩)
  have hrow:∀ (j:Nat) (r:RowE),rows[j]? = some r→∃ e v,es[j]? = some e∧r=(e.1,e.2.1,v)∧W.cell? ⟨g,j * 3,none⟩=some (.int .i64 e.1)∧W.cell? ⟨g,j * 3+1,none⟩=some (.int .i64 e.2.1)∧W.cell? ⟨g,j * 3+2,none⟩=some v∧(Kd.int .i64).R 3 W base (fun k=>k≠g∧f k=j) v e.2.2:=fun j r hr=>by
   have hl:=(List.getElem?_eq_some_iff.1 hr).1;obtain ⟨v,hv,p1,p2,p3,p4,_⟩:=h2 j es[j] (List.getElem?_eq_getElem (by omega));rw[hr] at hv;rw[Nat.zero_add] at p1 p2 p3 p4;exact ⟨_,v,List.getElem?_eq_getElem (by omega),Option.some.inj hv,p1,p2,p3,p4⟩
  refine ⟨g,rows,fun _=>rfl,hb,fun _=>⟨cells,hc,?_⟩,fun j r hr=>?_,⟨⟨h1,fun j e hj=>?_⟩,f,List.range es.length,List.nodup_range,h1,List.length_range,fun j e hj=>?_⟩,fun x hx=>?_⟩
  ·
   obtain ⟨_,_,_,_,_,_,hs⟩:=h2 (es.length - 1) es[es.length - 1] (List.getElem?_eq_getElem (by omega));have:=hs 2 (by omega);rw[Nat.zero_add] at this;rw[h1];by_cases q:es.length * 3≤cells.size
   ·
    exact q
   ·
    have hn:W.cell? ⟨g,(es.length - 1) * 3+2,none⟩=none:=by simp[World.cell?,hc];omega
    rw[hn] at this;cases this
  ·
   obtain ⟨e,v,_,rfl,p1,p2,p3,_⟩:=hrow j r hr;exact ⟨p1,p2,p3⟩
  ·
   obtain ⟨v,hv,_,_,_,p4,_⟩:=h2 j e hj;exact ⟨v,hv,Kd.R_mono p4 (fun k hk=>hk.1)⟩
  ·
   obtain ⟨v,hv,_,_,_,p4,_⟩:=h2 j e hj;rw[Nat.zero_add] at p4;exact ⟨v,j,hv,List.getElem?_range (List.getElem?_eq_some_iff.1 hj).1,p4⟩
  ·
   obtain ⟨j,hj,rfl⟩:=List.mem_iff_getElem.1 hx;obtain ⟨e,v,_,hr,_,_,_,p4⟩:=hrow j _ (List.getElem?_eq_getElem hj);obtain ⟨A1,c1,e1⟩:=Kd.R_slice p4;exact ⟨A1,_,c1,by rw[hr];exact e1⟩
 ·
  obtain rfl:es=[]:=List.length_eq_zero_iff.1 (by omega);exact ⟨base,[],fun h=>absurd h (by simp),Nat.le_refl _,fun h=>absurd h (by simp),fun j e h=>by simp at h,⟨⟨rfl,fun j e h=>by simp at h⟩,fun _=>0,[],List.nodup_nil,rfl,rfl,fun j e h=>by simp at h⟩,fun x hx=>by cases hx⟩
theorem EdgB.lower {W:World} {base b2 gb:Nat} {rows:List RowE} {es:List Edg} (h:EdgB W base gb rows es) (hb:b2≤base):EdgB W b2 gb rows es :=
 ⟨h.1,fun j e he=>by
  obtain ⟨v,hv,hR⟩:=h.2 j e he;exact ⟨v,hv,Kd.R_lower hR hb⟩⟩
theorem EdgB.mem {W:World} {base gb:Nat} {rows:List RowE} {es:List Edg} (h:EdgB W base gb rows es) {x:RowE} (hx:x ∈ rows):∃ e ∈ es,∃ v,x=(e.1,e.2.1,v):=by
 obtain ⟨j,hj,rfl⟩:=List.mem_iff_getElem.1 hx
 have hl:=h.1
 obtain ⟨v,hv,_⟩:=h.2 j es[j] (List.getElem?_eq_getElem (by omega))
 rw[List.getElem?_eq_getElem hj] at hv
 exact ⟨_,List.getElem_mem _,v,Option.some.inj hv⟩
theorem EdgR.lower {W:World} {base b2 gb:Nat} {rows:List RowE} {es:List Edg} (h:EdgR W base gb rows es) (hb:b2≤base):EdgR W b2 gb rows es:=by
 obtain ⟨h1,f,js,hn,a1,a2,a3⟩:=h
 exact ⟨EdgB.lower h1 hb,f,js,hn,a1,a2,fun j e he=>by
  obtain ⟨v,q,hv,hq,hR⟩:=a3 j e he;exact ⟨v,q,hv,hq,Kd.R_lower hR hb⟩⟩
def delP (dist:List Int) (s:Int) (r:RowE):Bool := !(decide (0≤rd dist r.1) && decide (rd dist r.1+r.2.1=rd dist s))
theorem three_blocksB (w:World) (o0 o1 o2:Obj):(((w.alloc o0).alloc o1).alloc o2).heap[w.heap.size]? = some o0∧(((w.alloc o0).alloc o1).alloc o2).heap[w.heap.size+1]? = some o1∧(((w.alloc o0).alloc o1).alloc o2).heap[w.heap.size+1+1]? = some o2∧Below w.heap.size w (((w.alloc o0).alloc o1).alloc o2)∧(((w.alloc o0).alloc o1).alloc o2).heap.size=w.heap.size+1+1+1:=by
 have h1:(w.alloc o0).heap.size=w.heap.size+1:=World.size_alloc ..
 have h2:((w.alloc o0).alloc o1).heap.size=w.heap.size+1+1:=by rw[World.size_alloc,h1]
 have b1:=ba' (Below.refl (w.alloc o0).heap.size (w.alloc o0)) o1
 have b2:=ba' (Below.refl ((w.alloc o0).alloc o1).heap.size ((w.alloc o0).alloc o1)) o2
 refine ⟨blk_below (blk_below (heap_alloc_new w o0) b1) b2,?_,?_,below_step (below_step (ba' (Below.refl _ _) _) b1) b2,by rw[World.size_alloc,h2]⟩
 ·
  have:=blk_below (heap_alloc_new (w.alloc o0) o1) b2;rwa [h1] at this
 ·
  have:=heap_alloc_new ((w.alloc o0).alloc o1) o2;rwa [h2] at this
set_option maxHeartbeats 4000000 in
set_option maxRecDepth 100000 in
theorem best_any (g:Nat) (lb:Array Value) (out:Int→Option (List Edg)) (n:Int) (dist:List Int) (es':List Edg) (s:Int) (W0 w:World) (eg:∀ args w,(callFunc g args).run Try.prog w = .ok (.enter g args) w) (hO:OutOk g lb out W0) (hB:Below W0.heap.size W0 w) (Ad:Option Addr) (cd:Nat) (hd:Kd.C (Kd.int .i64) w Ad dist.length dist) (hcd:dist.length≤cd) (h:bestF out dist s=some es') :
  Calls Try.prog 86 #[.agg #[.int .i64 n, .func (.func g) #[] lb], .int .i64 s, .slice Ad dist.length cd] w fun e w'=>∃ (gb:Nat) (A0:Option Addr) (c0:Nat) (rows:List RowE),e = .returned (.slice A0 rows.length c0)∧(0 < rows.length→A0=some ⟨gb,0,none⟩)∧w.heap.size≤gb∧TC w' gb rows∧EdgR w' w.heap.size gb rows es'∧Below w.heap.size w w':=by
 unfold bestF at h
 by_cases hs:0≤s∧s < (dist.length:Int)
 ·
  rw[if_pos hs] at h;obtain ⟨es,hes,h⟩:=Option.bind_eq_some_iff.mp h;by_cases hlim:es.length≤1048576∧es.all (edgOk dist)=true
  ·
   rw[if_pos hlim] at h;obtain rfl:=Option.some.inj h;clear h;have hug:=Try.underlying67;have HS:=am' hs;have HE:=am' hes;have HLM:=am' hlim;have HO:=am' hO;have HB:=am' hB;have HD:=am' hd;have HCD:=am' hcd;clear hs hes hlim hO hB hd hcd;have HL3:=am' (three_blocksB w (.cells #[.int .i64 n, .func (.func g) #[] lb] 67) (.cells #[.int .i64 s] 3) (.cells #[.slice Ad dist.length cd] 22));go_enter Try.func86,Try.ntmps86;have y0:=(blk_cell HL3.out.1 1).trans (show _=some (.func (.func g) #[] lb) from rfl);have y1:=(blk_cell HL3.out.2.1 0).trans (show _=some (.int .i64 s) from rfl);go_wp2_with fail;generalize hW:((w.alloc (.cells #[.int .i64 n, .func (.func g) #[] lb] 67)).alloc (.cells #[.int .i64 s] 3)).alloc (.cells #[.slice Ad dist.length cd] 22)=W3 at HL3 y0 y1 ⊢
   clear hW y0 y1;refine (HO.out W3 (below_step HB.out HL3.out.2.2.2.1) s es HE.out).mono ?_
   rintro e w4 ⟨v,rfl,hS,hb4⟩
   obtain ⟨A0,c0,rfl⟩:=Kd.S_slice hS;obtain ⟨gb,rows,hA,hgb,hblk,htc,her,hsl⟩:=edges_of hS;have hlc:=(Kd.S_reads' hS).2.1;have hlen:=her.1.1;rw[← hlen] at hlc ⊢;have HS4:=am' hb4;have HGB:=am' (show w.heap.size+3≤gb from by have h1:=HL3.out.2.2.2.2;omega);have HTC:=am' htc;have HBLK:=am' hblk;have HER:=am' (her.lower (b2:=w.heap.size) (by have h1:=HL3.out.2.2.2.2;omega));have HAA:=am' hA;have HSL:=am' hsl;have HLC:=am' hlc;have HBW:=am' (below_step HL3.out.2.2.2.1 HS4.out);have HBX1:=am' (blk_below HL3.out.2.1 HS4.out);have HBX2:=am' (blk_below HL3.out.2.2.1 HS4.out);have HBIG:=am' (show rows.length≤1048576 by have:=HLM.out.1;omega)
   have HP:=am' (show PredE 117 #[.pointer (some ⟨w.heap.size+1+1,0,none⟩), .pointer (some ⟨w.heap.size+1,0,none⟩)] (delP dist s) rows w4 (fun k=>k=gb) from fun x hx W hk=>by
    have hg:=HGB.out;obtain ⟨e,he,v,rfl⟩:=HER.out.1.mem hx;have hok:=List.all_eq_true.1 HLM.out.2 e he;unfold edgOk at hok
    simp only[Bool.and_eq_true,decide_eq_true_eq] at hok;exact best1_calls Ad cd dist s e.1 e.2.1 v (w.heap.size+1+1) (w.heap.size+1) W (cell_kept ((blk_cell HBX2.out 0).trans rfl) hk (by dsimp only;omega)) (cell_kept ((blk_cell HBX1.out 0).trans rfl) hk (by dsimp only;omega)) (Kd.C_kept_came (Kd.heap_int .i64) HD.out HBW.out (fun k hk=>by omega) W hk) HCD.out hok.1.1.1 hok.1.1.2 HS.out.1 HS.out.2 (wr_id (by omega) (by omega)))
   clear hS hA hgb hblk htc her hsl hlc hlen hb4;go_wp2_with fail;go_at_call 116
   refine (DeleteE_any w.heap.size 117 #[.pointer (some ⟨w.heap.size+1+1,0,none⟩), .pointer (some ⟨w.heap.size+1,0,none⟩)] (delP dist s) (enters_of Try.func117 (by kernel_rfl) rfl) gb A0 c0 rows w4 HAA.out HTC.out HBLK.out HLC.out HBIG.out HSL.out HP.out (by have:=HGB.out;omega) HBW.out.size).mono ?_
   rintro e w5 ⟨rfl,h1,h2,h3⟩
   have H1:=am' h1;have H2:=am' h2;have H3:=am' h3;clear h1 h2 h3;go_wp2;go_ret
   refine ⟨gb,A0,c0,rows.filter (fun x => !(delP dist s x)),rfl,fun hq=>HAA.out ?_,by have:=HGB.out;omega,H1.out,?_,HBW.out.trans (H3.out)⟩
   ·
    have:=List.length_filter_le (fun x => !(delP dist s x)) rows;omega
   ·
    exact EdgR.kept (EdgR.filter (fun x => !(delP dist s x)) (onB dist s) (fun e v=>by simp[delP,onB]) rows es HER.out) H2.out
  ·
   rw[if_neg hlim] at h;cases h
 ·
  rw[if_neg hs] at h;cases h
def impl_BestFirstTrips.f (k:Nat) (l0_0:List Int) (a0_1:Int):Option (List (List Int) × Bool):=(impl_IsParty.f l0_0 a0_1).bind fun t=>if t=true then ((impl_Party_costs.f k l0_0 a0_1 true).bind fun p=>if p.2=true then (bestF (ptyOut k true l0_0 a0_1) p.1 0).bind fun es=>some (es.map (fun e=>e.2.2),true) else some ([],false)) else some ([],false)
set_option maxHeartbeats 2000000 in
set_option maxRecDepth 100000 in
theorem impl_BestFirstTrips.calls (k:Nat) (A0_0:Option Addr) (c0_0:Nat) (l0_0:List Int) (a0_1:Int) (r1:List (List Int)) (r2:Bool) (w:World) (hr0_0:Kd.C (Kd.int .i64) w A0_0 l0_0.length l0_0) (hc0_0:l0_0.length≤c0_0) (h:impl_BestFirstTrips.f k l0_0 a0_1=some (r1,r2)) :
  Calls Try.prog 43 #[.agg #[.slice A0_0 l0_0.length c0_0, .int .i64 a0_1]] w fun e w'=>∃ v0_:Value,e = .returned (.tuple #[v0_, .bool r2])∧Kd.S (Kd.slice 3 (Kd.int .i64)) 22 w' w.heap.size (fun _=>True) v0_ r1∧Below w.heap.size w w':=by
 have hu:=Try.underlying28
 have hug:=Try.underlying67
 unfold impl_BestFirstTrips.f at h
 obtain ⟨t,ht,h⟩:=Option.bind_eq_some_iff.mp h
 have HT:=am' (fun (W:World) (hb:Below w.heap.size w W)=>impl_IsParty.calls A0_0 c0_0 l0_0 a0_1 t W (Kd.C_below hr0_0 hb) hc0_0 ht)
 have HX:=am' (heap_alloc_new w (.cells #[.slice A0_0 l0_0.length c0_0, .int .i64 a0_1] 28))
 clear ht;have HBX:=am' (ba' (Below.refl w.heap.size w) (.cells #[.slice A0_0 l0_0.length c0_0, .int .i64 a0_1] 28))
 cases t with
 | false =>
  simp only[Bool.false_eq_true,if_false,Option.some.injEq,Prod.mk.injEq] at h;obtain ⟨rfl,rfl⟩:=h;clear hr0_0;go_enter Try.func43,Try.ntmps43;go_wp2_with fail;refine (HT.out _ HBX.out).mono ?_
  rintro e w2 ⟨rfl,hb⟩
  have HB:=am' (below_step HBX.out hb);clear hb;go_wp2;go_ret2
  exact ⟨_,rfl,Kd.S_nil _ _ _ _ _,HB.out⟩
 | true =>
  simp only[if_true] at h;obtain ⟨⟨r,ok⟩,hc,h⟩:=Option.bind_eq_some_iff.mp h;have HC:=am' (fun (W:World) (hb:Below w.heap.size w W)=>impl_Party_costs.calls k A0_0 c0_0 l0_0 a0_1 true r ok W (Kd.C_below hr0_0 hb) hc0_0 hc);have HR0:=am' hr0_0;have HC0:=am' hc0_0;clear hc hr0_0;cases ok with
  | false =>
   simp only[Bool.false_eq_true,if_false,Option.some.injEq,Prod.mk.injEq] at h;obtain ⟨rfl,rfl⟩:=h;go_enter Try.func43,Try.ntmps43;go_wp2_with fail;refine (HT.out _ HBX.out).mono ?_
   rintro e w1 ⟨rfl,hb0⟩
   have HX2:=am' (blk_below HX.out hb0);have HBX:=am' (below_step HBX.out hb0);clear hb0;have x10:w1.cell? ⟨w.heap.size,0,none⟩=some (.slice A0_0 l0_0.length c0_0):=(blk_cell HX2.out 0).trans rfl;have x11:w1.cell? ⟨w.heap.size,1,none⟩=some (.int .i64 a0_1):=(blk_cell HX2.out 1).trans rfl;go_wp2_with fail;refine (HC.out _ HBX.out).mono ?_
   rintro e w2 ⟨pn,pp,pt,v,rfl,hpn,hpp,hpt,hr,hl,hb⟩
   obtain ⟨Av,cv,rfl⟩:=Kd.R_slice hr;have HB:=am' (below_step HBX.out hb);clear hpn hpp hpt hr hl hb;go_wp2;go_ret2
   exact ⟨_,rfl,Kd.S_nil _ _ _ _ _,ba' HB.out _⟩
  | true =>
   simp only[if_true] at h;obtain ⟨es,hrr,h⟩:=Option.bind_eq_some_iff.mp h;simp only[Option.some.injEq,Prod.mk.injEq] at h;obtain ⟨rfl,rfl⟩:=h;have HRR:=am' hrr;clear hrr;go_enter Try.func43,Try.ntmps43;go_wp2_with fail;refine (HT.out _ HBX.out).mono ?_
   rintro e w1 ⟨rfl,hb0⟩
   have HX2:=am' (blk_below HX.out hb0);have HBX:=am' (below_step HBX.out hb0);clear hb0;have x10:w1.cell? ⟨w.heap.size,0,none⟩=some (.slice A0_0 l0_0.length c0_0):=(blk_cell HX2.out 0).trans rfl;have x11:w1.cell? ⟨w.heap.size,1,none⟩=some (.int .i64 a0_1):=(blk_cell HX2.out 1).trans rfl;go_wp2_with fail;refine (HC.out _ HBX.out).mono ?_
   rintro e w2 ⟨pn,pp,pt,v,rfl,hpn,hpp,hpt,hr,hq,hb⟩
   obtain ⟨Av,cv,rfl⟩:=Kd.R_slice hr;have HB:=am' (below_step HBX.out hb);obtain ⟨gv,hgv⟩:∃ gv,gv=wrap64 (2 * 2 ^ min l0_0.length 64):=⟨_,rfl⟩
   rw[← hgv];have HB2:=am' (two_blocks w2 (.cells #[.int .i64 gv, .func (.func 104) #[] #[.pointer (some ⟨pn,0,none⟩), .pointer (some ⟨pp,0,none⟩), .pointer (some ⟨pt,0,none⟩)]] 67) (.cells #[] 22));have HF:=am' (best_any 104 #[.pointer (some ⟨pn,0,none⟩), .pointer (some ⟨pp,0,none⟩), .pointer (some ⟨pt,0,none⟩)] _ gv r es 0 w2 ((w2.alloc (.cells #[.int .i64 gv, .func (.func 104) #[] #[.pointer (some ⟨pn,0,none⟩), .pointer (some ⟨pp,0,none⟩), .pointer (some ⟨pt,0,none⟩)]] 67)).alloc (.cells #[] 22)) (enters_of Try.func104 (by kernel_rfl) rfl) (party_out k true A0_0 c0_0 l0_0 a0_1 pn pp pt w2 hpn hpp hpt (Kd.C_below HR0.out HB.out) HC0.out) HB2.out.2.2 Av cv (Kd.C_below (Kd.R_reads' hr).2.2 HB2.out.2.2) (Kd.R_reads' hr).2.1 HRR.out);have HSA:=am' (below_step HB.out HB2.out.2.2)
   have hlim:es.length≤1048576:=by
    have h1:=HRR.out;unfold bestF at h1
    split at h1
    ·
     obtain ⟨es0,_,h2⟩:=Option.bind_eq_some_iff.mp h1;split at h2
     ·
      rename_i h3
      obtain rfl:=Option.some.inj h2;exact Nat.le_trans (List.length_filter_le _ _) h3.1
     ·
      cases h2
    ·
     cases h1
   have HLIM:=am' hlim;clear hpn hpp hpt hr hq hb hgv hlim;go_wp2_with fail;have hinfo:=am' (show (Try.prog.info? 22).map (fun i=>(i.zero,i.size,i.bytes))=some (some (.slice none 0 0),1,24) by kernel_rfl);have hue:=Try.underlying92;refine HF.out.mono ?_
   rintro e w5 ⟨gb,A0,c0,rows,rfl,hA,hgb,htc,her,hb5⟩
   have HBK:=am' (blk_below HB2.out.2.1 hb5);have HB5:=am' (below_step HSA.out hb5);have HSZ:=am' (show w.heap.size≤w2.heap.size∧w2.heap.size+1 < ((w2.alloc (.cells #[.int .i64 gv, .func (.func 104) #[] #[.pointer (some ⟨pn,0,none⟩), .pointer (some ⟨pp,0,none⟩), .pointer (some ⟨pt,0,none⟩)]] 67)).alloc (.cells #[] 22)).heap.size∧((w2.alloc (.cells #[.int .i64 gv, .func (.func 104) #[] #[.pointer (some ⟨pn,0,none⟩), .pointer (some ⟨pp,0,none⟩), .pointer (some ⟨pt,0,none⟩)]] 67)).alloc (.cells #[] 22)).heap.size≤w5.heap.size from ⟨HB.out.size,blk_lt HB2.out.2.1,hb5.size⟩);generalize ((w2.alloc (.cells #[.int .i64 gv, .func (.func 104) #[] #[.pointer (some ⟨pn,0,none⟩), .pointer (some ⟨pp,0,none⟩), .pointer (some ⟨pt,0,none⟩)]] 67)).alloc (.cells #[] 22)).heap.size=g3 at hgb htc her HSZ
   have HA:=am' hA;have HGB:=am' hgb;have HTC:=am' htc;have HER:=am' her;have HLN:=am' her.1.1;have HRL:=am' (show ((rows.length:Nat):Int)≤1048576 by have h1:=HLIM.out;have h2:=her.1.1;omega);obtain ⟨f,js,hnd,ha1,ha2,ha3⟩:=her.2;have HND:=am' hnd;have HJS:=am' ha3;have HJL:=am' ha2;clear hA hgb htc her hb5 hnd ha1 ha2 ha3;go_wp2_with fail;go_loopg [7,26] es.length (fun gg v7 v26 wr=>∃ (j:Nat) (Ao:Option Addr) (co:Nat),v7 = .slice Ao j co∧v26 = .int .i64 (j:Int)∧Aside0 (j≤es.length)∧Aside0 (es.length - j≤gg)∧Aside0 ((Kd.tag (fun k=>js.idxOf (f k)) RowsK).R 22 wr w.heap.size (fun _=>True) (.slice Ao j co) ((es.take j).map (fun e=>e.2.2)).zipIdx)∧Aside0 (∀ k,(Value.slice Ao j co).ownBlock=some k→k=w2.heap.size+1∨w5.heap.size≤k)∧Aside0 (Kept w5 wr (fun k=>k=w2.heap.size+1))∧Aside0 (Below w.heap.size w wr))
   case atStart =>
    have hRE:(Kd.tag (fun k=>js.idxOf (f k)) RowsK).R 22 w5 w.heap.size (fun _=>True) (.slice (some ⟨w2.heap.size+1,0,none⟩) 0 0) []:=⟨fun _ _=>trivial,[],⟨by simp, .inr ⟨w2.heap.size+1,0,#[],rfl,by have h1:=HSZ.out;omega,HBK.out,Nat.le_refl _,by decide,by simp,by simp⟩⟩,Reps.none _ _⟩
    exact ⟨0,_,_,rfl,rfl,⟨Nat.zero_le _⟩,⟨by omega⟩,⟨hRE⟩,⟨fun k hk => .inl (Option.some.inj (show some _=some _ from hk)).symm⟩,⟨Kept.refl _ _⟩,HB5⟩
   case round =>
    obtain ⟨j,Ao,co,rfl,rfl,HX,HGG,HSA2,HOW,HKP,HWR⟩:=hrel;by_cases hj:j < es.length
    ·
     have hjz:((j:Nat):Int) < ((rows.length:Nat):Int):=by have h1:=HLN.out;omega
     have hjd:=decide_eq_true hjz;have HJ:=am' hj;obtain ⟨e,hex⟩:∃ x,x=es[j]:=⟨_,rfl⟩
     have hej:es[j]? = some e:=by rw[List.getElem?_eq_getElem hj,hex]
     obtain ⟨v0,q,hrv,hjq,hR0⟩:=HJS.out j e hej;obtain ⟨e0,e1,l⟩:=e;obtain ⟨Al,cl,rfl⟩:=Kd.R_slice hR0;obtain rfl:=HA.out (by have h1:=HLN.out;omega);obtain ⟨z0,z1,z2⟩:=HTC.out j _ hrv;have hgne:gb≠w2.heap.size+1:=by have h1:=HGB.out;have h2:=HSZ.out;omega
     have y0:wr.cell? ⟨gb,j * 3,none⟩=some (.int .i64 e0):=cell_kept z0 HKP.out (fun q=>hgne q);have y1:wr.cell? ⟨gb,j * 3+1,none⟩=some (.int .i64 e1):=cell_kept z1 HKP.out (fun q=>hgne q);have y2:wr.cell? ⟨gb,j * 3+2,none⟩=some (.slice Al l.length cl):=cell_kept z2 HKP.out (fun q=>hgne q)
     have hidx:js.idxOf q=j:=by
      obtain ⟨hjl,hjx⟩:=List.getElem?_eq_some_iff.1 hjq
      rw[← hjx];exact List.Nodup.idxOf_getElem HND.out j hjl
     have HRW:=am' (show (Kd.int .i64).R 3 wr w.heap.size (fun k=>js.idxOf (f k)=j∧g3≤k∧k < w5.heap.size) (.slice Al l.length cl) l from Kd.R_lower (Kd.R_mono (Kd.R_kept (Kd.R_bound hR0) HKP.out (fun k hk q=>by have h1:=hk.2.1;have h2:=HSZ.out;omega)) (fun k hk=>⟨by rw[hk.1.2];exact hidx,hk.2.1,hk.2.2.1⟩)) (by have h1:=HSZ.out;omega));have HAB:=am' (ba' (Below.refl wr.heap.size wr) (.cells #[.int .i64 e0, .int .i64 e1, .slice Al l.length cl] 92));have HTK:=am' (show (es.take (j+1)).map (fun e=>e.2.2)=(es.take j).map (fun e=>e.2.2) ++ [l] by rw[List.take_add_one,hej];simp);have hlj:((es.take j).map (fun e=>e.2.2)).length=j:=by rw[List.length_map,List.length_take];omega
     have HLJ:=am' hlj;clear hrv hjq hR0 z0 z1 z2 hgne hidx hlj hej hex;go_wp2_with ((with_reducible refine gate_builtin (b := .append) (xs:=#[.tmp 30, .tmp 33]) rfl ?_);at_builtin;refine Kd.R_append (Kd.tag (fun k=>js.idxOf (f k)) RowsK) (w0:=w) w.heap.size rfl (.tmp 30) (.tmp 33) 48 22 (.slice none 0 0) 24 rfl Try.underlying48 hinfo.out rfl (show 0 < RowsK.sz by decide) (by omega) (.slice Ao j co) ((es.take j).map (fun e=>e.2.2)).zipIdx (l,j) [.slice Al l.length cl] (fun _=>True) (fun k=>js.idxOf (f k)=j∧g3≤k∧k < w5.heap.size) rfl (by first|rfl|(rw[World.size_alloc];rfl)) ?aP ?aK (fun _ _=>trivial) ?aO ?aB ?aS ?aL ?_;(case aP=>exact ⟨_,rfl,Kd.R_mono (Kd.R_below HRW.out HAB.out) (fun k hk=>⟨hk,hk.1⟩)⟩);(case aK=>exact fun k hk=>⟨trivial,fun q=>by have h1:=HOW.out k q.symm;have h2:=hk.2;have h3:=HSZ.out;omega⟩);(case aO=>exact Kd.R_below HSA2.out HAB.out);(case aB=>exact below_step HWR.out HAB.out);(case aS=>exact Nat.le_trans HWR.out.size HAB.out.size);(case aL=>have h1:=HLJ.out;have h2:=HLIM.out;have h3:=HJ.out;rw[List.length_zipIdx];omega);intro v1 w7 ho hb hg hat;obtain ⟨A7,c7,e7⟩:=Kd.R_slice ho;rw[List.length_append,List.length_zipIdx,HLJ.out,List.length_singleton] at e7;subst e7;have HO7:=am' ho;have HB7:=am' hb;have HK7:=am' (Kept.of_grown hg (Kept.below HKP.out HAB.out) (fun k hk=>HOW.out k hk));have HOW7:=am' (show ∀ k,(Value.slice A7 (j+1) c7).ownBlock=some k→k=w2.heap.size+1∨w5.heap.size≤k from fun k hk=>by rcases hat with q|⟨b,q,hbb⟩;exact HOW.out k (q.symm.trans hk);have q2:=Option.some.inj (q.symm.trans hk);have h3:=HKP.out.1;have h4:=HAB.out.size;omega);clear ho hb hg hat);go_roundg (es.length - (j+1))
     case measure=>have h1:=HGG.out;have h2:=HJ.out;omega
     case rel =>
      have hO:=HO7.out;rw[show ((es.take j).map (fun e=>e.2.2)).zipIdx ++ [(l,j)]=((es.take j).map (fun e=>e.2.2) ++ [l]).zipIdx by rw[List.zipIdx_append,HLJ.out];simp,← HTK.out] at hO;exact ⟨j+1,A7,c7,by first|rfl|simp,by have h1:=HJ.out;have h2:=HLIM.out;first|exact rfl|(rw[wr_id (by omega) (by omega)];rfl)|(rw[i64_w,wr_id (by omega) (by omega)];rfl),⟨by have h1:=HJ.out;omega⟩,⟨Nat.le_refl _⟩,⟨hO⟩,HOW7,HK7,HB7⟩
    ·
     have hjz:¬ ((j:Nat):Int) < ((rows.length:Nat):Int):=by have h1:=HLN.out;omega
     have hjd:=decide_eq_false hjz;have hje:j=es.length:=by have h1:=HX.out;omega
     subst hje;have HSF:=am' (show Kd.S RowsK 22 wr w.heap.size (fun _=>True) (.slice Ao es.length co) (es.map (fun e=>e.2.2)) from ⟨_,by have:=HSA2.out;rwa [List.take_length] at this⟩);go_wp2;go_ret2
     exact ⟨_,rfl,HSF.out,HWR.out⟩
end Go.Proofs.Ytamljjfhkolflaa.C14
