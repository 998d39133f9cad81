/- What the functions of the reference of layer 5 compute, each as a contract. -/
import Derived.Test.YtcpghihgppgpmaaGreatAng2
namespace Go.Proofs.YtcpghihgppgpmaaGreat
open Go.RowKit

theorem tdiv_neg_cases (n d : Int) (hd : 1 ≤ d) (hn : n < 0) (hn2 : -9223372036854775808 ≤ n) :
    (n.tmod d = 0 ∧ n.tdiv d = n / d ∧ n / d ≤ 0 ∧ -9223372036854775808 ≤ n / d) ∨ (n.tmod d < 0 ∧ n.tdiv d = n / d + 1 ∧ n / d + 1 ≤ 0 ∧ -9223372036854775808 ≤ n / d) := by
  have e1 := Int.tmod_eq_emod (a := n) (b := d)
  have e2 := Int.tdiv_eq_ediv (a := n) (b := d)
  have m0 := Int.emod_nonneg n (show d ≠ 0 by omega)
  have m1 := Int.emod_lt_of_pos n (show 0 < d by omega)
  have s : d.sign = 1 := Int.sign_eq_one_of_pos (by omega)
  have na : (d.natAbs : Int) = d := by omega
  have l1 : n ≤ n / d := by
    have : n * d ≤ n := by
      have := Int.mul_le_mul_of_nonpos_left (show n ≤ 0 by omega) (show (1 : Int) ≤ d by omega)
      omega
    exact (Int.le_ediv_iff_mul_le (by omega)).2 this
  have l2 : n / d < 0 := Int.ediv_neg_of_neg_of_pos hn (by omega)
  by_cases h : d ∣ n
  · left
    rw [if_pos (Or.inr h)] at e1 e2
    have : n % d = 0 := Int.emod_eq_zero_of_dvd h
    omega
  · right
    have c : ¬ (0 ≤ n ∨ d ∣ n) := by
      rintro (h1 | h1)
      · omega
      · exact h h1
    rw [if_neg c] at e1 e2
    rw [s] at e2
    rw [na] at e1
    omega

set_option maxHeartbeats 400000 in
theorem floor5_any (n d : Int) (w : World) (h0 : -9223372036854775808 ≤ n) (h1 : n ≤ 9223372036854775807) (h2 : 1 ≤ d) (h3 : d ≤ 9223372036854775807) :
    Calls Tryz.prog 62 #[.int .i64 n, .int .i64 d] w fun e w' => e = .returned (.int .i64 (n / d)) ∧ w = w' := by
  by_cases hn : 0 ≤ n
  · have m0 := Int.emod_nonneg n (show d ≠ 0 by omega)
    have q0 : 0 ≤ n / d := Int.ediv_nonneg hn (by omega)
    have q1 : n / d ≤ n := Int.ediv_le_self d hn
    go_enter Tryz.func62, Tryz.ntmps62
    go_wp2
    go_ret
    exact ⟨rfl, rfl⟩
  · rcases tdiv_neg_cases n d h2 (by omega) h0 with ⟨a, b, c, f⟩ | ⟨a, b, c, f⟩
    · go_enter Tryz.func62, Tryz.ntmps62
      go_wp2
      go_ret
      exact ⟨rfl, rfl⟩
    · have e : Hid (n / d + 1 - 1 = n / d) := by unfold Hid; omega
      go_enter Tryz.func62, Tryz.ntmps62
      go_wp2
      go_ret
      exact ⟨by first | rfl | exact ret_one (by omega), rfl⟩

set_option maxHeartbeats 400000 in
theorem add5_any (a b c d : Int) (w : World) (h1 : -9223372036854775808 ≤ a + c) (h2 : a + c ≤ 9223372036854775807) (h3 : -9223372036854775808 ≤ b + d) (h4 : b + d ≤ 9223372036854775807) :
    Calls Tryz.prog 36 #[.agg #[.int .i64 (a), .int .i64 (b)], .agg #[.int .i64 (c), .int .i64 (d)]] w fun e w' => e = .returned (.agg #[.int .i64 (a + c), .int .i64 (b + d)]) ∧ Below w.heap.size w w' := by
  go_enter Tryz.func36, Tryz.ntmps36
  go_wp2
  exact bodyPost_ret (v := .agg #[.int .i64 (a + c), .int .i64 (b + d)]) (by first | (simp only [results, Tryz.results36]; go_simp; done) | simp [results, Tryz.results36, go_sem, *]) rfl ⟨rfl, by (repeat (first | exact Below.refl _ _ | refine bl_drewN ?_ | refine bl_drew ?_ | refine bl_alloc ?_ _ | refine Below.setCell ?_ (by (first | (simp; done) | (simp; omega) | omega)) _ | refine bl_step (by assumption) ?_))⟩

end Go.Proofs.YtcpghihgppgpmaaGreat
