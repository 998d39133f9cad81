/- Quotients rounded down and up, by the machine's division, of package fixed and of its reference. -/
import Derived.Test.YtbglnncejfhlmaaFix
namespace Go.Proofs.Ytbglnncejfhlmaa
open Go.RowKit

theorem tdiv_abs (n d : Int) : n.tdiv d = if (decide (n < 0) != decide (d < 0)) = true then -(absI n / absI d) else absI n / absI d := by
  unfold absI
  by_cases hn : n < 0 <;> by_cases hd : d < 0
  · have h : n.tdiv d = (-n).tdiv (-d) := by rw [Int.neg_tdiv, Int.tdiv_neg, Int.neg_neg]
    simp only [hn, hd, h, if_true, decide_true, bne_self_eq_false, Bool.false_eq_true, if_false]
    exact Int.tdiv_eq_ediv_of_nonneg (by omega)
  · have h : n.tdiv d = -((-n).tdiv d) := by rw [Int.neg_tdiv, Int.neg_neg]
    simp only [hn, hd, h, if_true, decide_true, decide_false, Bool.true_bne, Bool.not_false, if_false]
    rw [Int.tdiv_eq_ediv_of_nonneg (by omega)]
  · have h : n.tdiv d = -(n.tdiv (-d)) := by rw [Int.tdiv_neg, Int.neg_neg]
    simp only [hn, hd, h, if_true, decide_true, decide_false, Bool.false_bne, if_false]
    rw [Int.tdiv_eq_ediv_of_nonneg (by omega)]
  · simp only [hn, hd, decide_false, bne_self_eq_false, Bool.false_eq_true, if_false]
    exact Int.tdiv_eq_ediv_of_nonneg (by omega)

theorem tmod_abs (n d : Int) : n.tmod d = if n < 0 then -(absI n % absI d) else absI n % absI d := by
  have e : n.tmod d = n.tmod (absI d) := by unfold absI; split; · rw [Int.tmod_neg]
                                            · rfl
  rw [e]
  by_cases hn : n < 0
  · have e2 : absI n = -n := by unfold absI; rw [if_pos hn]
    have h : n.tmod (absI d) = -((-n).tmod (absI d)) := by rw [Int.neg_tmod, Int.neg_neg]
    rw [if_pos hn, h, e2, Int.tmod_eq_emod_of_nonneg (by omega)]
  · have e2 : absI n = n := by unfold absI; rw [if_neg hn]
    rw [if_neg hn, e2, Int.tmod_eq_emod_of_nonneg (by omega)]

theorem fl_ways (n d : Int) (hd : d ≠ 0) (h0 : -4611686018427387904 ≤ n) (h1 : n ≤ 4611686018427387904) :
    -4611686018427387905 ≤ fl n d ∧ fl n d ≤ 4611686018427387904 ∧ ((n.tmod d = 0 ∧ n.tdiv d = fl n d) ∨ (n.tmod d ≠ 0 ∧ decide (n < 0) = decide (d < 0) ∧ n.tdiv d = fl n d) ∨ (n.tmod d ≠ 0 ∧ decide (n < 0) = !decide (d < 0) ∧ n.tdiv d = fl n d + 1)) := by
  have t := tdiv_abs n d
  have m := tmod_abs n d
  have f := fl_abs n d hd
  have a0 := absI_nn n
  have a1 : absI n ≤ 4611686018427387904 := by unfold absI; split <;> omega
  have D0 : 0 < absI d := by unfold absI; split <;> omega
  have r0 := Int.emod_nonneg (absI n) (Int.ne_of_gt D0)
  have q0 : 0 ≤ absI n / absI d := Int.ediv_nonneg a0 (by omega)
  have q1 : absI n / absI d ≤ absI n := Int.ediv_le_self _ a0
  generalize absI n / absI d = Q at *
  generalize absI n % absI d = R at *
  generalize fl n d = f0 at *
  generalize n.tdiv d = t0 at *
  generalize n.tmod d = m0 at *
  cases hn : decide (n < 0) <;> cases hd2 : decide (d < 0) <;> simp only [hn, hd2, Bool.true_bne, Bool.false_bne, Bool.not_true, Bool.not_false, Bool.false_eq_true, if_false, if_true, and_false, false_or, or_false, reduceCtorEq, true_and, false_and] at t f ⊢ <;> (first | have hn := of_decide_eq_true hn | have hn := of_decide_eq_false hn) <;> (first | rw [if_pos hn] at m | rw [if_neg hn] at m) <;> (try split at f) <;> omega

set_option maxHeartbeats 400000 in
theorem ffloor_any (n d : Int) (w : World) (hd : d ≠ 0) (h0 : -4611686018427387904 ≤ n) (h1 : n ≤ 4611686018427387904) (_d0 : -9223372036854775808 ≤ d) (_d1 : d ≤ 9223372036854775807) :
    Calls Try.prog 47 #[.int .i64 n, .int .i64 d] w fun e w' => e = .returned (.int .i64 (fl n d)) ∧ w = w' := by
  obtain ⟨k0, k1, ⟨a, b⟩ | ⟨a, b, c⟩ | ⟨a, b, c⟩⟩ := fl_ways n d hd h0 h1
  · go_enter Try.func47, Try.ntmps47
    go_wp2
    go_ret
    exact ⟨rfl, rfl⟩
  · obtain ⟨sd, hsd⟩ : ∃ sd, decide (d < 0) = sd := ⟨_, rfl⟩
    rw [hsd] at b
    cases sd
    all_goals
     go_enter Try.func47, Try.ntmps47
     go_wp2
     go_ret
     exact ⟨rfl, rfl⟩
  · obtain ⟨sd, hsd⟩ : ∃ sd, decide (d < 0) = sd := ⟨_, rfl⟩
    rw [hsd] at b
    have e : Hid (fl n d + 1 - 1 = fl n d) := by unfold Hid; omega
    cases sd
    all_goals
     go_enter Try.func47, Try.ntmps47
     go_wp2
     go_ret
     exact ⟨by first | rfl | exact ret_one (by omega), rfl⟩

end Go.Proofs.Ytbglnncejfhlmaa
