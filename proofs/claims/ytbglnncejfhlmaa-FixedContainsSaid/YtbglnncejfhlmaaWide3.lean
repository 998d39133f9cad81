/- The product of two integers as a wide one, as a contract. -/
import Derived.Test.YtbglnncejfhlmaaWide2
import Derived.Deep.RegionWith
namespace Go.Proofs.Ytbglnncejfhlmaa
open Go.RowKit

theorem abs_mul (a b : Int) : (absI a * absI b = a * b ∧ 0 ≤ a * b) ∨ (absI a * absI b = -(a * b) ∧ a * b < 0) := by
  unfold absI
  split <;> split
  · left; rw [Int.neg_mul_neg]; exact ⟨rfl, Int.mul_nonneg_of_nonpos_of_nonpos (by omega) (by omega)⟩
  · rename_i h1 h2
    by_cases hz : b = 0
    · left; subst hz; simp
    · right; rw [Int.neg_mul]; exact ⟨rfl, Int.mul_neg_of_neg_of_pos h1 (by omega)⟩
  · rename_i h1 h2
    by_cases hz : a = 0
    · left; subst hz; simp
    · right; rw [Int.mul_neg]; exact ⟨rfl, Int.mul_neg_of_pos_of_neg (by omega) h2⟩
  · left; exact ⟨rfl, Int.mul_nonneg (by omega) (by omega)⟩

/-- the sign of a product, as the code works it out -/
theorem sign_cases (a b : Int) : (a < 0 ∧ b < 0 ∧ 0 ≤ a * b) ∨ (a < 0 ∧ 0 < b ∧ a * b < 0) ∨ (a < 0 ∧ b = 0 ∧ 0 ≤ a * b) ∨ (0 ≤ a ∧ 0 ≤ b ∧ 0 ≤ a * b) ∨ (0 < a ∧ b < 0 ∧ a * b < 0) ∨ (a = 0 ∧ b < 0 ∧ 0 ≤ a * b) := by
  rcases Int.lt_trichotomy a 0 with ha | ha | ha
  · rcases Int.lt_trichotomy b 0 with hb | hb | hb
    · left; exact ⟨ha, hb, Int.mul_nonneg_of_nonpos_of_nonpos (by omega) (by omega)⟩
    · right; right; left; subst hb; simp; exact ha
    · right; left; exact ⟨ha, hb, Int.mul_neg_of_neg_of_pos ha hb⟩
  · by_cases hb : b < 0
    · right; right; right; right; right; subst ha; simp; exact hb
    · right; right; right; left; exact ⟨by omega, by omega, Int.mul_nonneg (by omega) (by omega)⟩
  · by_cases hb : b < 0
    · right; right; right; right; left; exact ⟨ha, hb, Int.mul_neg_of_pos_of_neg ha hb⟩
    · right; right; right; left; exact ⟨by omega, by omega, Int.mul_nonneg (by omega) (by omega)⟩

theorem absI_le (n : Int) (h0 : -9223372036854775808 ≤ n) (h1 : n ≤ 9223372036854775807) : absI n ≤ 18446744073709551615 := by unfold absI; split <;> omega
theorem absI_nn (n : Int) : 0 ≤ absI n := by unfold absI; split <;> omega

theorem val_mul (a b : Int) (n : Bool) (h : n = decide (a * b < 0)) : valW (absI a * absI b / 18446744073709551616) (absI a * absI b % 18446744073709551616) n = a * b := by
  have e : absI a * absI b / 18446744073709551616 * 18446744073709551616 + absI a * absI b % 18446744073709551616 = absI a * absI b := by
    generalize absI a * absI b = m; omega
  unfold valW
  rw [e]
  rcases abs_mul a b with ⟨h1, h2⟩ | ⟨h1, h2⟩
  · have : n = false := by rw [h]; exact decide_eq_false (by omega)
    rw [this, h1]; simp
  · have : n = true := by rw [h]; exact decide_eq_true h2
    rw [this, h1]; simp

theorem abs_prod (a b : Int) (_ha0 : -9223372036854775808 ≤ a) (_ha1 : a ≤ 9223372036854775807) (_hb0 : -9223372036854775808 ≤ b) (_hb1 : b ≤ 9223372036854775807) :
    0 ≤ absI a * absI b / 18446744073709551616 ∧ 0 ≤ absI a * absI b % 18446744073709551616 ∧ absI a * absI b % 18446744073709551616 ≤ 18446744073709551615 := by
  have := Int.mul_nonneg (absI_nn a) (absI_nn b)
  generalize absI a * absI b = m at *
  omega

set_option maxHeartbeats 1000000 in
theorem product_walk (a b x y e : Int) (w : World) (ha0 : -9223372036854775808 ≤ a) (ha1 : a ≤ 9223372036854775807) (hb0 : -9223372036854775808 ≤ b) (hb1 : b ≤ 9223372036854775807)
    (S : ∀ n w, n = decide (a * b < 0) → Calls Try.prog 71 #[.agg #[.int .u64 (absI a * absI b / 18446744073709551616), .int .u64 (absI a * absI b % 18446744073709551616), .bool n]] w fun r w' => r = .returned (.tuple #[.agg #[.int .i64 (x), .int .i64 (y)], .int .i64 (e)]) ∧ Below w.heap.size w w') :
    Calls Try.prog 65 #[.int .i64 a, .int .i64 b] w fun r w' => r = .returned (.tuple #[.agg #[.int .i64 (x), .int .i64 (y)], .int .i64 (e)]) ∧ Below w.heap.size w w' := by
  have q1 := absI_nn a
  have q2 := absI_nn b
  have q3 := absI_le a ha0 ha1
  have q4 := absI_le b hb0 hb1
  have M := fun w => mul64_any (absI a) (absI b) w q1 q3 q2 q4
  generalize absI a * absI b / 18446744073709551616 = h at *
  generalize absI a * absI b % 18446744073709551616 = l at *
  replace M := hidden M
  rcases sign_cases a b with ⟨c1, c2, c3⟩ | ⟨c1, c2, c3⟩ | ⟨c1, c2, c3⟩ | ⟨c1, c2, c3⟩ | ⟨c1, c2, c3⟩ | ⟨c1, c2, c3⟩
  case' inl => replace S := fun w => S false w (decide_eq_false (by omega)).symm
  case' inr.inl => replace S := fun w => S true w (decide_eq_true c3).symm
  case' inr.inr.inl => replace S := fun w => S false w (decide_eq_false (by omega)).symm
  case' inr.inr.inr.inl => replace S := fun w => S false w (decide_eq_false (by omega)).symm
  case' inr.inr.inr.inr.inl => replace S := fun w => S true w (decide_eq_true c3).symm
  case' inr.inr.inr.inr.inr => replace S := fun w => S false w (decide_eq_false (by omega)).symm
  case' inr.inr.inl => have c4 : b ≤ 0 := by omega
  case' inr.inr.inl => have c5 : 0 ≤ b := by omega
  case' inr.inr.inl => have c6 : (b != 0) = false := by simp; omega
  case' inr.inr.inl => clear c2
  case' inr.inr.inr.inr.inr => have c4 : a ≤ 0 := by omega
  case' inr.inr.inr.inr.inr => have c5 : 0 ≤ a := by omega
  case' inr.inr.inr.inr.inr => have c6 : (a != 0) = false := by simp; omega
  case' inr.inr.inr.inr.inr => clear c1
  case' inr.inl => have d1 : decide (b < 0) = false := decide_eq_false (by omega)
  case' inr.inl => have d2 : (a != 0) = true := by simp; omega
  case' inr.inl => have d3 : (b != 0) = true := by simp; omega
  case' inr.inr.inr.inr.inl => have d1 : decide (a < 0) = false := decide_eq_false (by omega)
  case' inr.inr.inr.inr.inl => have d2 : (a != 0) = true := by simp; omega
  case' inr.inr.inr.inr.inl => have d3 : (b != 0) = true := by simp; omega
  all_goals
    clear c3
    replace S := hidden S
    go_enter Try.func65, Try.ntmps65
    go_wp2_with (first | (go_at_call 70; refine (abs_any _ _ (by omega) (by omega)).mono ?_; rintro e w' ⟨rfl, rfl⟩) | (go_at_call 69; refine (M.out _).mono ?_; rintro e w' ⟨rfl, rfl⟩) | (go_at_call 71; refine (S.out _).mono ?_; rintro e w' ⟨rfl, hb⟩; (try replace hb := below_undrew hb); (try replace hb := below_undrewN hb); obtain ⟨hcell, hfroz⟩ := bcell hb; have hz := hb.size; (try simp at hz); (try (have z6 := Nat.lt_of_lt_of_le z7 hz)); (try (have z7 := Nat.lt_of_lt_of_le z8 hz)); (try (have z8 := Nat.lt_of_lt_of_le z9 hz)); (try (have z9 := Nat.lt_of_lt_of_le (Nat.lt_succ_self _) hz)); (try (have z0 : w.heap.size < w'.heap.size := by omega)); (try (have z1 : w.heap.size + 1 < w'.heap.size := by omega)); (try (have z2 : w.heap.size + 1 + 1 < w'.heap.size := by omega)); (try (have z3 : w.heap.size + 1 + 1 + 1 < w'.heap.size := by omega)); (try (have y1 : w1.heap.size < w'.heap.size := by omega)); (try (have y2 : w2.heap.size < w'.heap.size := by omega)); (try (have y3 : w3.heap.size < w'.heap.size := by omega)); (try (have y4 : w4.heap.size < w'.heap.size := by omega)); (try (have y5 : w5.heap.size < w'.heap.size := by omega)); (try (have y6 : w6.heap.size < w'.heap.size := by omega))))
    exact bodyPost_ret (v := .tuple #[.agg #[.int .i64 (x), .int .i64 (y)], .int .i64 (e)]) (by first | (simp only [results, Try.results65]; go_simp; done) | simp [results, Try.results65, go_sem, *]) rfl ⟨rfl, by (repeat (first | exact Below.refl _ _ | refine bl_drewN ?_ | refine bl_drew ?_ | refine bl_alloc ?_ _ | refine Below.setCell ?_ (by (first | (simp; done) | (simp; omega) | omega)) _ | refine bl_step (by assumption) ?_))⟩

theorem product_ok (a b : Int) (w : World) (ha0 : -9223372036854775808 ≤ a) (ha1 : a ≤ 9223372036854775807) (hb0 : -9223372036854775808 ≤ b) (hb1 : b ≤ 9223372036854775807) (hv : fitsW (a * b) = true) :
    Calls Try.prog 65 #[.int .i64 a, .int .i64 b] w fun r w' => r = .returned (.tuple #[.agg #[.int .i64 (a * b / 1152921504606846976), .int .i64 (a * b % 1152921504606846976)], .int .i64 (0)]) ∧ Below w.heap.size w w' := by
  obtain ⟨p1, p2, p3⟩ := abs_prod a b ha0 ha1 hb0 hb1
  refine product_walk a b _ _ _ w ha0 ha1 hb0 hb1 fun n w hn => ?_
  have v := val_mul a b n hn
  have s := sizew_ok _ _ n w p1 p2 p3 (by rw [v]; exact hv)
  rw [v] at s
  exact s

theorem product_no (a b : Int) (w : World) (ha0 : -9223372036854775808 ≤ a) (ha1 : a ≤ 9223372036854775807) (hb0 : -9223372036854775808 ≤ b) (hb1 : b ≤ 9223372036854775807) (hv : fitsW (a * b) = false) :
    Calls Try.prog 65 #[.int .i64 a, .int .i64 b] w fun r w' => r = .returned (.tuple #[.agg #[.int .i64 (0), .int .i64 (0)], .int .i64 (5)]) ∧ Below w.heap.size w w' := by
  obtain ⟨p1, p2, p3⟩ := abs_prod a b ha0 ha1 hb0 hb1
  refine product_walk a b _ _ _ w ha0 ha1 hb0 hb1 fun n w hn => ?_
  have v := val_mul a b n hn
  exact sizew_no _ _ n w p1 p2 p3 (by rw [v]; exact hv)

end Go.Proofs.Ytbglnncejfhlmaa
