/- The example of the chapter on lines: its numbers, as contracts. -/
import Derived.Test.YtjceofmhodcefaaGreatLin5
import Derived.Test.YtjceofmhodcefaaGreatLb
namespace Go.Proofs.YtjceofmhodcefaaGreat
open Go.RowKit

def withEB (a b : Int) : Bool := decide (-2000000 ≤ a) && (decide (b ≤ 2000000))
set_option maxHeartbeats 1000000 in
theorem withinE_any (a b : Int) (w : World) :
    Calls Tryz.prog 18 #[.agg #[.int .i64 (a), .int .i64 (b)], .int .i64 2000000] w fun e w' => e = .returned (.bool (withEB a b)) ∧ Below w.heap.size w w' := by
  obtain ⟨v, hv⟩ : ∃ v, withEB a b = v := ⟨_, rfl⟩
  rw [hv]
  by_cases h0 : -2000000 ≤ a
  · have H : Hid (decide (b ≤ 2000000) = v) := by rw [← hv]; unfold Hid withEB; simp [h0]
    clear hv
    go_enter Tryz.func18, Tryz.ntmps18
    go_wp2
    all_goals go_ret
    all_goals exact ⟨by rw [← H.out]; first | rfl | (simp [*]; done) | (simp [*]; omega), by (repeat (first | exact Below.refl _ _ | refine bl_drewN ?_ | refine bl_drew ?_ | refine bl_alloc ?_ _ | refine Below.setCell ?_ (by (first | (simp; done) | (simp; omega) | omega)) _ | refine bl_step (by assumption) ?_))⟩
  · have H : Hid (false = v) := by rw [← hv]; unfold Hid withEB; simp [h0]
    clear hv
    go_enter Tryz.func18, Tryz.ntmps18
    go_wp2
    all_goals go_ret
    all_goals exact ⟨by rw [← H.out]; first | rfl | (simp [*]; done) | (simp [*]; omega), by (repeat (first | exact Below.refl _ _ | refine bl_drewN ?_ | refine bl_drew ?_ | refine bl_alloc ?_ _ | refine Below.setCell ?_ (by (first | (simp; done) | (simp; omega) | omega)) _ | refine bl_step (by assumption) ?_))⟩

theorem over_is (n f g x : Int) (B1 : Nat) (w : World) (h : okAt w B1) (hf : fixB f g = true) (hn : reachB n = true) (hz : zeroB f g = false) (hq : quoV (qLo 1073741824 1073741824 f g n) (qHi 1073741824 1073741824 f g n) = .tuple #[.int .i64 x, .int .i64 x, .int .i64 0]) :
    Calls Tryz.prog 31 #[.pointer (some ⟨B1, 0, none⟩), .agg #[.int .i64 (n), .int .i64 (n)], .agg #[.int .i64 (f), .int .i64 (g)]] w fun e w' => e = .returned (.agg #[.int .i64 (x), .int .i64 (x)]) ∧ Below w.heap.size w w' := by
  have S := hidden fun w => (by have k := quot_any 1073741824 1073741824 f g n w (by decide) hf hn hz; rw [hq] at k; exact k : Calls Tryz.prog 60 #[.agg #[.int .i64 (1073741824), .int .i64 (1073741824)], .agg #[.int .i64 (f), .int .i64 (g)], .int .i64 n] w fun e w' => e = .returned (.tuple #[.int .i64 x, .int .i64 x, .int .i64 0]) ∧ Below w.heap.size w w')
  have k := pover_walk n n f g x x x x B1 w h S S
  rw [Int.min_self, Int.max_self] at k
  exact k
theorem sin_0 (B1 : Nat) (w : World) (h : okAt w B1) : Calls Tryz.prog 15 #[.pointer (some ⟨B1, 0, none⟩), .agg #[.int .i64 (0), .int .i64 (0)]] w fun e w' => e = .returned (.agg #[.int .i64 (0), .int .i64 (0)]) ∧ Below w.heap.size w w' := by
  have k := psin_any (0) (0) B1 w h (by decide)
  rw [show encLo (0) (0) = 0 by kernel_rfl, show encHi (0) (0) = 0 by kernel_rfl] at k
  exact k
theorem sin_q (B1 : Nat) (w : World) (h : okAt w B1) : Calls Tryz.prog 15 #[.pointer (some ⟨B1, 0, none⟩), .agg #[.int .i64 (5400000), .int .i64 (5400000)]] w fun e w' => e = .returned (.agg #[.int .i64 (1073741824), .int .i64 (1073741824)]) ∧ Below w.heap.size w w' := by
  have k := psin_any (5400000) (5400000) B1 w h (by decide)
  rw [show encLo (5400000) (5400000) = 1073741824 by kernel_rfl, show encHi (5400000) (5400000) = 1073741824 by kernel_rfl] at k
  exact k
theorem sin_nq (B1 : Nat) (w : World) (h : okAt w B1) : Calls Tryz.prog 15 #[.pointer (some ⟨B1, 0, none⟩), .agg #[.int .i64 (-5400000), .int .i64 (-5400000)]] w fun e w' => e = .returned (.agg #[.int .i64 (-1073741824), .int .i64 (-1073741824)]) ∧ Below w.heap.size w w' := by
  have k := psin_any (-5400000) (-5400000) B1 w h (by decide)
  rw [show encLo (-5400000) (-5400000) = -1073741824 by kernel_rfl, show encHi (-5400000) (-5400000) = -1073741824 by kernel_rfl] at k
  exact k
theorem cos_0 (B1 : Nat) (w : World) (h : okAt w B1) : Calls Tryz.prog 16 #[.pointer (some ⟨B1, 0, none⟩), .agg #[.int .i64 (0), .int .i64 (0)]] w fun e w' => e = .returned (.agg #[.int .i64 (1073741824), .int .i64 (1073741824)]) ∧ Below w.heap.size w w' := by
  have k := pcos_any (0) (0) B1 w h (by decide)
  rw [show encLo (0 + 5400000) (0 + 5400000) = 1073741824 by kernel_rfl, show encHi (0 + 5400000) (0 + 5400000) = 1073741824 by kernel_rfl] at k
  exact k
theorem cos_q (B1 : Nat) (w : World) (h : okAt w B1) : Calls Tryz.prog 16 #[.pointer (some ⟨B1, 0, none⟩), .agg #[.int .i64 (5400000), .int .i64 (5400000)]] w fun e w' => e = .returned (.agg #[.int .i64 (0), .int .i64 (0)]) ∧ Below w.heap.size w w' := by
  have k := pcos_any (5400000) (5400000) B1 w h (by decide)
  rw [show encLo (5400000 + 5400000) (5400000 + 5400000) = 0 by kernel_rfl, show encHi (5400000 + 5400000) (5400000 + 5400000) = 0 by kernel_rfl] at k
  exact k
theorem tm_a (B1 : Nat) (w : World) (h : okAt w B1) : Calls Tryz.prog 33 #[.pointer (some ⟨B1, 0, none⟩), .agg #[.int .i64 (5000), .int .i64 (5000)], .agg #[.int .i64 (0), .int .i64 (0)]] w fun e w' => e = .returned (.agg #[.int .i64 (0), .int .i64 (0)]) ∧ Below w.heap.size w w' := by
  have k := ptimes_any 5000 5000 0 0 B1 w h (by decide) (by decide) (by decide)
  rw [show tmLo 5000 5000 0 0 = 0 by kernel_rfl, show tmHi 5000 5000 0 0 = 0 by kernel_rfl] at k
  exact k
theorem tm_b (B1 : Nat) (w : World) (h : okAt w B1) : Calls Tryz.prog 33 #[.pointer (some ⟨B1, 0, none⟩), .agg #[.int .i64 (3000), .int .i64 (3000)], .agg #[.int .i64 (1073741824), .int .i64 (1073741824)]] w fun e w' => e = .returned (.agg #[.int .i64 (3000), .int .i64 (3000)]) ∧ Below w.heap.size w w' := by
  have k := ptimes_any 3000 3000 1073741824 1073741824 B1 w h (by decide) (by decide) (by decide)
  rw [show tmLo 3000 3000 1073741824 1073741824 = 3000 by kernel_rfl, show tmHi 3000 3000 1073741824 1073741824 = 3000 by kernel_rfl] at k
  exact k
theorem tm_c (B1 : Nat) (w : World) (h : okAt w B1) : Calls Tryz.prog 33 #[.pointer (some ⟨B1, 0, none⟩), .agg #[.int .i64 (3000), .int .i64 (3000)], .agg #[.int .i64 (0), .int .i64 (0)]] w fun e w' => e = .returned (.agg #[.int .i64 (0), .int .i64 (0)]) ∧ Below w.heap.size w w' := by
  have k := ptimes_any 3000 3000 0 0 B1 w h (by decide) (by decide) (by decide)
  rw [show tmLo 3000 3000 0 0 = 0 by kernel_rfl, show tmHi 3000 3000 0 0 = 0 by kernel_rfl] at k
  exact k
theorem tm_d (B1 : Nat) (w : World) (h : okAt w B1) : Calls Tryz.prog 33 #[.pointer (some ⟨B1, 0, none⟩), .agg #[.int .i64 (5000), .int .i64 (5000)], .agg #[.int .i64 (1073741824), .int .i64 (1073741824)]] w fun e w' => e = .returned (.agg #[.int .i64 (5000), .int .i64 (5000)]) ∧ Below w.heap.size w w' := by
  have k := ptimes_any 5000 5000 1073741824 1073741824 B1 w h (by decide) (by decide) (by decide)
  rw [show tmLo 5000 5000 1073741824 1073741824 = 5000 by kernel_rfl, show tmHi 5000 5000 1073741824 1073741824 = 5000 by kernel_rfl] at k
  exact k
theorem ex_sub (w : World) : Calls Tryz.prog 29 #[.agg #[.int .i64 (0), .int .i64 (0)], .agg #[.int .i64 (5400000), .int .i64 (5400000)]] w fun e w' => e = .returned (.tuple #[.agg #[.int .i64 (-5400000), .int .i64 (-5400000)], .int .i64 (0)]) ∧ Below w.heap.size w w' :=
  sub_ok 0 0 5400000 5400000 w (by decide) (by decide) (by decide) (by decide)
theorem ex_cross (w : World) : Calls Tryz.prog 9 #[.agg #[.int .i64 0, .int .i64 0, .int .i64 0, .int .i64 0, .int .i64 5000, .int .i64 5000], .agg #[.int .i64 0, .int .i64 0, .int .i64 5400000, .int .i64 5400000, .int .i64 3000, .int .i64 3000]] w
    fun e w' => e = .returned (.tuple #[.agg #[.int .i64 5000, .int .i64 5000, .int .i64 3000, .int .i64 3000], .int .i64 0]) ∧ Below w.heap.size w w' := by
  have AL : Hid (∀ w, Calls Tryz.prog 35 #[.agg #[.int .i64 (5000), .int .i64 (5000)]] w fun e w' => e = .returned (.bool true) ∧ Below w.heap.size w w') := hidden fun w => altitude_any 5000 5000 w
  exact cross_walk 0 0 0 0 5000 5000 5400000 5400000 3000 3000 (-5400000) (-5400000) (-1073741824) (-1073741824) 0 0 1073741824 1073741824 1073741824 1073741824 0 0 3000 3000 0 0 5000 5000 (-3000) (-3000) (-5000) (-5000) 0 0 1073741824 1073741824 3000 3000 5000 5000 5000 5000 3000 3000 3000 3000 3000 3000 w (by decide) (by decide) (by decide) (by decide)
    (hidden ex_sub) (hidden sin_nq) (hidden cos_q) (hidden tm_a) (hidden cos_0) (hidden tm_b) (hidden fun w => lsub_any 0 0 3000 3000 w (by decide) (by decide) (by decide) (by decide)) (hidden fun B w ok => over_is (-3000) (-1073741824) (-1073741824) 3000 B w ok (by decide) (by decide) (by decide) (by kernel_rfl))
    (hidden sin_0) (hidden tm_c) (hidden sin_q) (hidden tm_d) (hidden fun w => lsub_any 0 0 5000 5000 w (by decide) (by decide) (by decide) (by decide)) (hidden fun B w ok => over_is (-5000) (-1073741824) (-1073741824) 5000 B w ok (by decide) (by decide) (by decide) (by kernel_rfl))
    (hidden fun w => withinE_any 3000 3000 w) (hidden fun w => withinE_any 5000 5000 w) (hidden fun w => lat_any 0 w) (hidden fun w => ladd_any 0 0 5000 5000 w (by decide) (by decide) (by decide) (by decide)) AL
    (hidden fun w => lat_any 0 w) (hidden cos_0) (hidden fun B w ok => over_is 3000 1073741824 1073741824 3000 B w ok (by decide) (by decide) (by decide) (by kernel_rfl)) (hidden fun w => ladd_any 0 0 3000 3000 w (by decide) (by decide) (by decide) (by decide)) (hidden fun w => long_any 3000 3000 3000 w (by decide) (by decide) (by decide) (by decide) (by decide) (by decide) (by decide))

end Go.Proofs.YtjceofmhodcefaaGreat
