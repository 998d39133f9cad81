/- Sums and differences of words with a carry: the model's own entries, as laws; and the difference of two numbers of four words. -/
import Derived.Test.YtjceofmhodcefaaGreatDv
import Derived.Test.YtjceofmhodcefaaGreatBase
import Derived.LoopN
import Derived.Shelf.Spec.BitsCarry
import Derived.BigRegion
namespace Go.Proofs.YtjceofmhodcefaaGreat
open Go.RowKit

theorem add64_run (x y c : Int) (x0 : 0 ≤ x) (y0 : 0 ≤ y) (c0 : 0 ≤ c) (c1 : c ≤ 1) (w : World) :
    (callFunc 110 #[.int .u64 x, .int .u64 y, .int .u64 c]).run Tryz.prog w = .ok (.value (.tuple #[.int .u64 ((x + y + c) % 18446744073709551616), .int .u64 ((x + y + c) / 18446744073709551616)])) w := by
  obtain ⟨X, rfl⟩ := Int.eq_ofNat_of_zero_le x0
  obtain ⟨Y, rfl⟩ := Int.eq_ofNat_of_zero_le y0
  obtain ⟨C, rfl⟩ := Int.eq_ofNat_of_zero_le c0
  have h := Any7.bits_Add64 Tryz.lays7_25 X Y C (by omega) w
  have e1 : (((X + Y + C) % 18446744073709551616 : Nat) : Int) = ((X : Int) + Y + C) % 18446744073709551616 := by omega
  have e2 : (((X + Y + C) / 18446744073709551616 : Nat) : Int) = ((X : Int) + Y + C) / 18446744073709551616 := by omega
  rw [e1, e2] at h
  exact h

theorem sub64_run (x y b : Int) (x0 : 0 ≤ x) (y0 : 0 ≤ y) (y1 : y ≤ 18446744073709551615) (b0 : 0 ≤ b) (b1 : b ≤ 1) (w : World) :
    (callFunc 112 #[.int .u64 x, .int .u64 y, .int .u64 b]).run Tryz.prog w = .ok (.value (.tuple #[.int .u64 ((x - y - b) % 18446744073709551616), .int .u64 (if x < y + b then 1 else 0)])) w := by
  obtain ⟨X, rfl⟩ := Int.eq_ofNat_of_zero_le x0
  obtain ⟨Y, rfl⟩ := Int.eq_ofNat_of_zero_le y0
  obtain ⟨B, rfl⟩ := Int.eq_ofNat_of_zero_le b0
  have h := Any7.bits_Sub64 Tryz.lays7_26 X Y B (by omega) w
  have e1 : (((X + 18446744073709551616 - Y - B) % 18446744073709551616 : Nat) : Int) = ((X : Int) - Y - B) % 18446744073709551616 := by omega
  have e2 : ((if X < Y + B then 1 else 0 : Nat) : Int) = if (X : Int) < Y + B then 1 else 0 := by
    by_cases g : X < Y + B
    · rw [if_pos g, if_pos (by omega)]; rfl
    · rw [if_neg g, if_neg (by omega)]; rfl
  rw [e1, e2] at h
  exact h

set_option maxHeartbeats 2000000 in
theorem nsub_walk (a0 a1 a2 a3 b0 b1 b2 b3 d0 d1 d2 d3 o0 o1 o2 o3 : Int) (w : World)
    (h3 : ∀ w, (callFunc 112 #[.int .u64 a3, .int .u64 b3, .int .u64 0]).run Tryz.prog w = .ok (.value (.tuple #[.int .u64 d3, .int .u64 o3])) w)
    (h2 : ∀ w, (callFunc 112 #[.int .u64 a2, .int .u64 b2, .int .u64 o3]).run Tryz.prog w = .ok (.value (.tuple #[.int .u64 d2, .int .u64 o2])) w)
    (h1 : ∀ w, (callFunc 112 #[.int .u64 a1, .int .u64 b1, .int .u64 o2]).run Tryz.prog w = .ok (.value (.tuple #[.int .u64 d1, .int .u64 o1])) w)
    (h0 : ∀ w, (callFunc 112 #[.int .u64 a0, .int .u64 b0, .int .u64 o1]).run Tryz.prog w = .ok (.value (.tuple #[.int .u64 d0, .int .u64 o0])) w) :
    Calls Tryz.prog 104 #[.agg #[.int .u64 a0, .int .u64 a1, .int .u64 a2, .int .u64 a3], .agg #[.int .u64 b0, .int .u64 b1, .int .u64 b2, .int .u64 b3]] w fun e w' => e = .returned (.agg #[.int .u64 d0, .int .u64 d1, .int .u64 d2, .int .u64 d3]) ∧ Below w.heap.size w w' := by
  go_enter Tryz.func104, Tryz.ntmps104
  go_wp2
  refine wp_loop_rounds 5 ?_
  rw [rounds_succ]
  go_wp2
  go_region
  go_wp2
  rw [rounds_succ]
  go_wp2
  go_region
  go_wp2
  rw [rounds_succ]
  go_wp2
  go_region
  go_wp2
  rw [rounds_succ]
  go_wp2
  go_region
  go_wp2
  rw [rounds_succ]
  go_wp2
  exact bodyPost_ret (v := .agg #[.int .u64 d0, .int .u64 d1, .int .u64 d2, .int .u64 d3]) (by first | (simp only [results, Tryz.results104]; go_simp; done) | simp [results, Tryz.results104, go_sem, *]) rfl ⟨rfl, by (repeat (first | exact Below.refl _ _ | refine bl_drewN ?_ | refine bl_drew ?_ | refine bl_alloc ?_ _ | refine Below.setCell ?_ (by (first | (simp; done) | (simp; omega) | omega)) _ | refine bl_step (by assumption) ?_))⟩

end Go.Proofs.YtjceofmhodcefaaGreat
