/- What the functions of the reference of layer 5 compute, each as a contract. -/
import Derived.Test.YtjceofmhodcefaaGreatAg
namespace Go.Proofs.YtjceofmhodcefaaGreat
open Go.RowKit

theorem tdiv_neg_cases (n d : Int) (hd : 1 ≤ d) (hn : n < 0) (hn2 : -9223372036854775808 ≤ n) :
    (n.tmod d = 0 ∧ n.tdiv d = n / d ∧ n / d ≤ 0 ∧ -9223372036854775808 ≤ n / d) ∨ (n.tmod d < 0 ∧ n.tdiv d = n / d + 1 ∧ n / d + 1 ≤ 0 ∧ -9223372036854775808 ≤ n / d) := by
  have e1 := Int.tmod_eq_emod (a := n) (b := d)
  have e2 := Int.tdiv_eq_ediv (a := n) (b := d)
  have m0 := Int.emod_nonneg n (show d ≠ 0 by omega)
  have m1 := Int.emod_lt_of_pos n (show 0 < d by omega)
  have s : d.sign = 1 := Int.sign_eq_one_of_pos (by omega)
  have na : (d.natAbs : Int) = d := by omega
  have l1 : n ≤ n / d := by
    have : n * d ≤ n := by
      have := Int.mul_le_mul_of_nonpos_left (show n ≤ 0 by omega) (show (1 : Int) ≤ d by omega)
      omega
    exact (Int.le_ediv_iff_mul_le (by omega)).2 this
  have l2 : n / d < 0 := Int.ediv_neg_of_neg_of_pos hn (by omega)
  by_cases h : d ∣ n
  · left
    rw [if_pos (Or.inr h)] at e1 e2
    have : n % d = 0 := Int.emod_eq_zero_of_dvd h
    omega
  · right
    have c : ¬ (0 ≤ n ∨ d ∣ n) := by
      rintro (h1 | h1)
      · omega
      · exact h h1
    rw [if_neg c] at e1 e2
    rw [s] at e2
    rw [na] at e1
    omega

set_option maxHeartbeats 400000 in
theorem floor5_any (n d : Int) (w : World) (h0 : -9223372036854775808 ≤ n) (h1 : n ≤ 9223372036854775807) (h2 : 1 ≤ d) (h3 : d ≤ 9223372036854775807) :
    Calls Tryz.prog 27 #[.int .i64 n, .int .i64 d] w fun e w' => e = .returned (.int .i64 (n / d)) ∧ w = w' := by
  by_cases hn : 0 ≤ n
  · have m0 := Int.emod_nonneg n (show d ≠ 0 by omega)
    have q0 : 0 ≤ n / d := Int.ediv_nonneg hn (by omega)
    have q1 : n / d ≤ n := Int.ediv_le_self d hn
    go_enter Tryz.func27, Tryz.ntmps27
    go_wp2
    go_ret
    exact ⟨rfl, rfl⟩
  · rcases tdiv_neg_cases n d h2 (by omega) h0 with ⟨a, b, c, f⟩ | ⟨a, b, c, f⟩
    · go_enter Tryz.func27, Tryz.ntmps27
      go_wp2
      go_ret
      exact ⟨rfl, rfl⟩
    · have e : Hid (n / d + 1 - 1 = n / d) := by unfold Hid; omega
      go_enter Tryz.func27, Tryz.ntmps27
      go_wp2
      go_ret
      exact ⟨by first | rfl | exact ret_one (by omega), rfl⟩

set_option maxHeartbeats 400000 in
theorem wrap5_any (n : Int) (w : World) (_h0 : -9223372036854775808 ≤ n) (_h1 : n ≤ 9223372036854775807) :
    Calls Tryz.prog 57 #[.int .i64 n] w fun e w' => e = .returned (.int .i64 (n % 21600000)) ∧ w = w' := by
  have e : n.tmod 21600000 = if 0 ≤ n ∨ n % 21600000 = 0 then n % 21600000 else n % 21600000 - 21600000 := by
    have := Int.tmod_eq_emod (a := n) (b := 21600000)
    simp only [Int.natAbs] at this
    rw [this]; split <;> split <;> omega
  by_cases hc : 0 ≤ n ∨ n % 21600000 = 0
  · rw [if_pos hc] at e
    have m0 : 0 ≤ n % 21600000 := by omega
    have m1 : n % 21600000 < 21600000 := by omega
    clear hc
    go_enter Tryz.func57, Tryz.ntmps57
    go_wp2
    go_ret
    exact ⟨rfl, rfl⟩
  · rw [if_neg hc] at e
    have m0 : 0 < n % 21600000 := by omega
    have m1 : n % 21600000 < 21600000 := by omega
    have H : Hid (n % 21600000 - 21600000 + 21600000 = n % 21600000) := by unfold Hid; omega
    have hn : n < 0 := by omega
    clear hc
    go_enter Tryz.func57, Tryz.ntmps57
    go_wp2
    go_ret
    exact ⟨by simp, rfl⟩

set_option maxHeartbeats 400000 in
theorem valid5_any (a b : Int) (w : World) :
    Calls Tryz.prog 47 #[.agg #[.int .i64 (a), .int .i64 (b)]] w fun e w' => e = .returned (.bool (arcB a b)) ∧ Below w.heap.size w w' := by
  by_cases h1 : a ≤ b
  · by_cases h2 : -1099511627776 ≤ a
    · by_cases h3 : b ≤ 1099511627776
      · have H := hidden (arcB_mk (a := a) (b := b) ⟨h1, h2, h3⟩)
        go_enter Tryz.func47, Tryz.ntmps47
        go_wp2
        go_ret
        exact ⟨by rw [H.out]; rfl, by (repeat (first | exact Below.refl _ _ | refine bl_drewN ?_ | refine bl_drew ?_ | refine bl_alloc ?_ _ | refine Below.setCell ?_ (by (first | (simp; done) | (simp; omega) | omega)) _ | refine bl_step (by assumption) ?_))⟩
      · have H := hidden (arcB_not (a := a) (b := b) (by omega))
        go_enter Tryz.func47, Tryz.ntmps47
        go_wp2
        go_ret
        exact ⟨by rw [H.out]; rfl, by (repeat (first | exact Below.refl _ _ | refine bl_drewN ?_ | refine bl_drew ?_ | refine bl_alloc ?_ _ | refine Below.setCell ?_ (by (first | (simp; done) | (simp; omega) | omega)) _ | refine bl_step (by assumption) ?_))⟩
    · have H := hidden (arcB_not (a := a) (b := b) (by omega))
      go_enter Tryz.func47, Tryz.ntmps47
      go_wp2
      go_ret
      exact ⟨by rw [H.out]; rfl, by (repeat (first | exact Below.refl _ _ | refine bl_drewN ?_ | refine bl_drew ?_ | refine bl_alloc ?_ _ | refine Below.setCell ?_ (by (first | (simp; done) | (simp; omega) | omega)) _ | refine bl_step (by assumption) ?_))⟩
  · have H := hidden (arcB_not (a := a) (b := b) (by omega))
    go_enter Tryz.func47, Tryz.ntmps47
    go_wp2
    go_ret
    exact ⟨by rw [H.out]; rfl, by (repeat (first | exact Below.refl _ _ | refine bl_drewN ?_ | refine bl_drew ?_ | refine bl_alloc ?_ _ | refine Below.setCell ?_ (by (first | (simp; done) | (simp; omega) | omega)) _ | refine bl_step (by assumption) ?_))⟩

set_option maxHeartbeats 400000 in
theorem turn5_any (a b : Int) (w : World) (h1 : -1125899906842624 ≤ a) (h2 : a ≤ b) (h3 : b ≤ 1125899906842624) :
    Calls Tryz.prog 48 #[.agg #[.int .i64 (a), .int .i64 (b)]] w fun e w' => e = .returned (.agg #[.int .i64 (arcLo a b), .int .i64 (arcHi a b)]) ∧ Below w.heap.size w w' := by
  by_cases hc : 21600000 ≤ b - a
  · have H : Hid (arcLo a b = 0 ∧ arcHi a b = 21600000) := by simp [arcLo, arcHi, hc, Hid]
    go_enter Tryz.func48, Tryz.ntmps48
    go_wp2
    exact bodyPost_ret (v := .agg #[.int .i64 (0), .int .i64 (21600000)]) (by first | (simp only [results, Tryz.results48]; go_simp; done) | simp [results, Tryz.results48, go_sem, *]) rfl ⟨by rw [H.out.1, H.out.2], by (repeat (first | exact Below.refl _ _ | refine bl_drewN ?_ | refine bl_drew ?_ | refine bl_alloc ?_ _ | refine Below.setCell ?_ (by (first | (simp; done) | (simp; omega) | omega)) _ | refine bl_step (by assumption) ?_))⟩
  · have H : Hid (arcLo a b = a % 21600000 ∧ arcHi a b = a % 21600000 + (b - a)) := by simp [arcLo, arcHi, hc, Hid]
    have m0 : 0 ≤ a % 21600000 := by omega
    have m1 : a % 21600000 < 21600000 := by omega
    go_enter Tryz.func48, Tryz.ntmps48
    go_wp2_with (go_at_call 57; refine (wrap5_any _ _ (by omega) (by omega)).mono ?_; rintro e w' ⟨rfl, rfl⟩)
    exact bodyPost_ret (v := .agg #[.int .i64 (a % 21600000), .int .i64 (a % 21600000 + (b - a))]) (by first | (simp only [results, Tryz.results48]; go_simp; done) | simp [results, Tryz.results48, go_sem, *]) rfl ⟨by rw [H.out.1, H.out.2], by (repeat (first | exact Below.refl _ _ | refine bl_drewN ?_ | refine bl_drew ?_ | refine bl_alloc ?_ _ | refine Below.setCell ?_ (by (first | (simp; done) | (simp; omega) | omega)) _ | refine bl_step (by assumption) ?_))⟩

end Go.Proofs.YtjceofmhodcefaaGreat
