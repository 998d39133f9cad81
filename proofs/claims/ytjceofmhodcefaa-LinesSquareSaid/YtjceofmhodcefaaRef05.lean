/- What the functions of the reference of layer 5 compute, each as a contract. -/
import Derived.Test.YtjceofmhodcefaaAng2
namespace Go.Proofs.Ytjceofmhodcefaa
open Go.RowKit

theorem tdiv_neg_cases (n d : Int) (hd : 1 ≤ d) (hn : n < 0) (hn2 : -9223372036854775808 ≤ n) :
    (n.tmod d = 0 ∧ n.tdiv d = n / d ∧ n / d ≤ 0 ∧ -9223372036854775808 ≤ n / d) ∨ (n.tmod d < 0 ∧ n.tdiv d = n / d + 1 ∧ n / d + 1 ≤ 0 ∧ -9223372036854775808 ≤ n / d) := by
  have e1 := Int.tmod_eq_emod (a := n) (b := d)
  have e2 := Int.tdiv_eq_ediv (a := n) (b := d)
  have m0 := Int.emod_nonneg n (show d ≠ 0 by omega)
  have m1 := Int.emod_lt_of_pos n (show 0 < d by omega)
  have s : d.sign = 1 := Int.sign_eq_one_of_pos (by omega)
  have na : (d.natAbs : Int) = d := by omega
  have l1 : n ≤ n / d := by
    have : n * d ≤ n := by
      have := Int.mul_le_mul_of_nonpos_left (show n ≤ 0 by omega) (show (1 : Int) ≤ d by omega)
      omega
    exact (Int.le_ediv_iff_mul_le (by omega)).2 this
  have l2 : n / d < 0 := Int.ediv_neg_of_neg_of_pos hn (by omega)
  by_cases h : d ∣ n
  · left
    rw [if_pos (Or.inr h)] at e1 e2
    have : n % d = 0 := Int.emod_eq_zero_of_dvd h
    omega
  · right
    have c : ¬ (0 ≤ n ∨ d ∣ n) := by
      rintro (h1 | h1)
      · omega
      · exact h h1
    rw [if_neg c] at e1 e2
    rw [s] at e2
    rw [na] at e1
    omega

set_option maxHeartbeats 400000 in
theorem wrap5_any (n : Int) (w : World) (_h0 : -9223372036854775808 ≤ n) (_h1 : n ≤ 9223372036854775807) :
    Calls Try.prog 16 #[.int .i64 n] w fun e w' => e = .returned (.int .i64 (n % 21600000)) ∧ w = w' := by
  have e : n.tmod 21600000 = if 0 ≤ n ∨ n % 21600000 = 0 then n % 21600000 else n % 21600000 - 21600000 := by
    have := Int.tmod_eq_emod (a := n) (b := 21600000)
    simp only [Int.natAbs] at this
    rw [this]; split <;> split <;> omega
  by_cases hc : 0 ≤ n ∨ n % 21600000 = 0
  · rw [if_pos hc] at e
    have m0 : 0 ≤ n % 21600000 := by omega
    have m1 : n % 21600000 < 21600000 := by omega
    clear hc
    go_enter Try.func16, Try.ntmps16
    go_wp2
    go_ret
    exact ⟨rfl, rfl⟩
  · rw [if_neg hc] at e
    have m0 : 0 < n % 21600000 := by omega
    have m1 : n % 21600000 < 21600000 := by omega
    have H : Hid (n % 21600000 - 21600000 + 21600000 = n % 21600000) := by unfold Hid; omega
    have hn : n < 0 := by omega
    clear hc
    go_enter Try.func16, Try.ntmps16
    go_wp2
    go_ret
    exact ⟨by simp, rfl⟩

end Go.Proofs.Ytjceofmhodcefaa
