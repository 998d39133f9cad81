/- The reference of layer 4: the quotient of two numbers by binary long division, meets, and what is inside, each as a contract. -/
import Derived.Test.YtbglnncejfhlmaaRef4a
namespace Go.Proofs.Ytbglnncejfhlmaa
open Go.RowKit

set_option maxHeartbeats 1000000 in
theorem meet4_ok (a b c d : Int) (w : World) (hm : max a c ≤ min b d) :
    Calls Try.prog 27 #[.agg #[.int .i64 (a), .int .i64 (b)], .agg #[.int .i64 (c), .int .i64 (d)]] w fun e w' => e = .returned (.tuple #[.agg #[.int .i64 (max a c), .int .i64 (min b d)], .int .i64 (0)]) ∧ Below w.heap.size w w' := by
  go_enter Try.func27, Try.ntmps27
  go_wp2
  (refine name_below ?_; intro w' hb; (try replace hb := below_undrew hb); (try replace hb := below_undrewN hb); obtain ⟨hcell, hfroz⟩ := bcell hb; have hz := hb.size; (try simp at hz); (try (have z6 := Nat.lt_of_lt_of_le z7 hz)); (try (have z7 := Nat.lt_of_lt_of_le z8 hz)); (try (have z8 := Nat.lt_of_lt_of_le z9 hz)); (try (have z9 := Nat.lt_of_lt_of_le (Nat.lt_succ_self _) hz)); (try (have z0 : w.heap.size < w'.heap.size := by omega)); (try (have z1 : w.heap.size + 1 < w'.heap.size := by omega)); (try (have z2 : w.heap.size + 1 + 1 < w'.heap.size := by omega)); (try (have z3 : w.heap.size + 1 + 1 + 1 < w'.heap.size := by omega)); (try (have y1 : w1.heap.size < w'.heap.size := by omega)); (try (have y2 : w2.heap.size < w'.heap.size := by omega)); (try (have y3 : w3.heap.size < w'.heap.size := by omega)); (try (have y4 : w4.heap.size < w'.heap.size := by omega)); (try (have y5 : w5.heap.size < w'.heap.size := by omega)); (try (have y6 : w6.heap.size < w'.heap.size := by omega)))
  go_region_held3 (fun v => Below w'.heap.size w' v ∧ (∀ b o, b < w'.heap.size → v.cell? ⟨b, o, none⟩ = w'.cell? ⟨b, o, none⟩) ∧ (∀ b o, b < w'.heap.size → v.frozen? ⟨b, o, none⟩ = w'.frozen? ⟨b, o, none⟩)) (first | exact held_start _ | (refine held_of ?_; (repeat (first | exact Below.refl _ _ | refine bl_drewN ?_ | refine bl_drew ?_ | refine bl_alloc ?_ _ | refine Below.setCell ?_ (by (first | (simp; done) | (simp; omega) | omega)) _ | refine bl_step (by assumption) ?_)); done)) (first | (go_at_call 50; refine (least_any _ _ _).mono ?_; rintro e w' ⟨rfl, rfl⟩) | (go_at_call 54; refine (most_any _ _ _).mono ?_; rintro e w' ⟨rfl, rfl⟩))
  all_goals go_wp2
  all_goals exact bodyPost_ret (v := .tuple #[.agg #[.int .i64 (max a c), .int .i64 (min b d)], .int .i64 (0)]) (by first | (simp only [results, Try.results27]; go_simp; done) | simp [results, Try.results27, go_sem, *]) rfl ⟨rfl, by (repeat (first | exact Below.refl _ _ | refine bl_drewN ?_ | refine bl_drew ?_ | refine bl_alloc ?_ _ | refine Below.setCell ?_ (by (first | (simp; done) | (simp; omega) | omega)) _ | refine bl_step (by assumption) ?_))⟩

set_option maxHeartbeats 1000000 in
theorem meet4_no (a b c d : Int) (w : World) (hm : min b d < max a c) :
    Calls Try.prog 27 #[.agg #[.int .i64 (a), .int .i64 (b)], .agg #[.int .i64 (c), .int .i64 (d)]] w fun e w' => e = .returned (.tuple #[.agg #[.int .i64 (0), .int .i64 (0)], .int .i64 (23)]) ∧ Below w.heap.size w w' := by
  go_enter Try.func27, Try.ntmps27
  go_wp2
  (refine name_below ?_; intro w' hb; (try replace hb := below_undrew hb); (try replace hb := below_undrewN hb); obtain ⟨hcell, hfroz⟩ := bcell hb; have hz := hb.size; (try simp at hz); (try (have z6 := Nat.lt_of_lt_of_le z7 hz)); (try (have z7 := Nat.lt_of_lt_of_le z8 hz)); (try (have z8 := Nat.lt_of_lt_of_le z9 hz)); (try (have z9 := Nat.lt_of_lt_of_le (Nat.lt_succ_self _) hz)); (try (have z0 : w.heap.size < w'.heap.size := by omega)); (try (have z1 : w.heap.size + 1 < w'.heap.size := by omega)); (try (have z2 : w.heap.size + 1 + 1 < w'.heap.size := by omega)); (try (have z3 : w.heap.size + 1 + 1 + 1 < w'.heap.size := by omega)); (try (have y1 : w1.heap.size < w'.heap.size := by omega)); (try (have y2 : w2.heap.size < w'.heap.size := by omega)); (try (have y3 : w3.heap.size < w'.heap.size := by omega)); (try (have y4 : w4.heap.size < w'.heap.size := by omega)); (try (have y5 : w5.heap.size < w'.heap.size := by omega)); (try (have y6 : w6.heap.size < w'.heap.size := by omega)))
  go_region_held3 (fun v => Below w'.heap.size w' v ∧ (∀ b o, b < w'.heap.size → v.cell? ⟨b, o, none⟩ = w'.cell? ⟨b, o, none⟩) ∧ (∀ b o, b < w'.heap.size → v.frozen? ⟨b, o, none⟩ = w'.frozen? ⟨b, o, none⟩)) (first | exact held_start _ | (refine held_of ?_; (repeat (first | exact Below.refl _ _ | refine bl_drewN ?_ | refine bl_drew ?_ | refine bl_alloc ?_ _ | refine Below.setCell ?_ (by (first | (simp; done) | (simp; omega) | omega)) _ | refine bl_step (by assumption) ?_)); done)) (first | (go_at_call 50; refine (least_any _ _ _).mono ?_; rintro e w' ⟨rfl, rfl⟩) | (go_at_call 54; refine (most_any _ _ _).mono ?_; rintro e w' ⟨rfl, rfl⟩))
  all_goals go_wp2
  all_goals exact bodyPost_ret (v := .tuple #[.agg #[.int .i64 (0), .int .i64 (0)], .int .i64 (23)]) (by first | (simp only [results, Try.results27]; go_simp; done) | simp [results, Try.results27, go_sem, *]) rfl ⟨rfl, by (repeat (first | exact Below.refl _ _ | refine bl_drewN ?_ | refine bl_drew ?_ | refine bl_alloc ?_ _ | refine Below.setCell ?_ (by (first | (simp; done) | (simp; omega) | omega)) _ | refine bl_step (by assumption) ?_))⟩

set_option maxHeartbeats 400000 in
theorem inside4_any (a b c d : Int) (w : World) :
    Calls Try.prog 24 #[.agg #[.int .i64 (a), .int .i64 (b)], .agg #[.int .i64 (c), .int .i64 (d)]] w fun e w' => e = .returned (.bool (insB a b c d)) ∧ Below w.heap.size w w' := by
  obtain ⟨v, hv⟩ : ∃ v, insB a b c d = v := ⟨_, rfl⟩
  rw [hv]
  unfold insB at hv
  cases h1 : fixB a b
  · have H : Hid (false = v) := by rw [← hv, h1]; rfl
    clear hv
    go_enter Try.func24, Try.ntmps24
    go_wp2_with (go_at_call 15; refine (fvalid4_any _ _ _).mono ?_; rintro e w' ⟨rfl, hb⟩; (try replace hb := below_undrew hb); (try replace hb := below_undrewN hb); obtain ⟨hcell, hfroz⟩ := bcell hb; have hz := hb.size; (try simp at hz); (try (have z6 := Nat.lt_of_lt_of_le z7 hz)); (try (have z7 := Nat.lt_of_lt_of_le z8 hz)); (try (have z8 := Nat.lt_of_lt_of_le z9 hz)); (try (have z9 := Nat.lt_of_lt_of_le (Nat.lt_succ_self _) hz)); (try (have z0 : w.heap.size < w'.heap.size := by omega)); (try (have z1 : w.heap.size + 1 < w'.heap.size := by omega)); (try (have z2 : w.heap.size + 1 + 1 < w'.heap.size := by omega)); (try (have z3 : w.heap.size + 1 + 1 + 1 < w'.heap.size := by omega)); (try (have y1 : w1.heap.size < w'.heap.size := by omega)); (try (have y2 : w2.heap.size < w'.heap.size := by omega)); (try (have y3 : w3.heap.size < w'.heap.size := by omega)); (try (have y4 : w4.heap.size < w'.heap.size := by omega)); (try (have y5 : w5.heap.size < w'.heap.size := by omega)); (try (have y6 : w6.heap.size < w'.heap.size := by omega)))
    go_ret
    exact ⟨by rw [← H.out]; rfl, by (repeat (first | exact Below.refl _ _ | refine bl_drewN ?_ | refine bl_drew ?_ | refine bl_alloc ?_ _ | refine Below.setCell ?_ (by (first | (simp; done) | (simp; omega) | omega)) _ | refine bl_step (by assumption) ?_))⟩
  · cases h2 : fixB c d
    · have H : Hid (false = v) := by rw [← hv, h1, h2]; rfl
      clear hv
      go_enter Try.func24, Try.ntmps24
      go_wp2_with (go_at_call 15; refine (fvalid4_any _ _ _).mono ?_; rintro e w' ⟨rfl, hb⟩; (try replace hb := below_undrew hb); (try replace hb := below_undrewN hb); obtain ⟨hcell, hfroz⟩ := bcell hb; have hz := hb.size; (try simp at hz); (try (have z6 := Nat.lt_of_lt_of_le z7 hz)); (try (have z7 := Nat.lt_of_lt_of_le z8 hz)); (try (have z8 := Nat.lt_of_lt_of_le z9 hz)); (try (have z9 := Nat.lt_of_lt_of_le (Nat.lt_succ_self _) hz)); (try (have z0 : w.heap.size < w'.heap.size := by omega)); (try (have z1 : w.heap.size + 1 < w'.heap.size := by omega)); (try (have z2 : w.heap.size + 1 + 1 < w'.heap.size := by omega)); (try (have z3 : w.heap.size + 1 + 1 + 1 < w'.heap.size := by omega)); (try (have y1 : w1.heap.size < w'.heap.size := by omega)); (try (have y2 : w2.heap.size < w'.heap.size := by omega)); (try (have y3 : w3.heap.size < w'.heap.size := by omega)); (try (have y4 : w4.heap.size < w'.heap.size := by omega)); (try (have y5 : w5.heap.size < w'.heap.size := by omega)); (try (have y6 : w6.heap.size < w'.heap.size := by omega)))
      go_ret
      exact ⟨by rw [← H.out]; rfl, by (repeat (first | exact Below.refl _ _ | refine bl_drewN ?_ | refine bl_drew ?_ | refine bl_alloc ?_ _ | refine Below.setCell ?_ (by (first | (simp; done) | (simp; omega) | omega)) _ | refine bl_step (by assumption) ?_))⟩
    · by_cases h3 : c ≤ a
      · have H : Hid (decide (b ≤ d) = v) := by rw [← hv, h1, h2]; unfold Hid; simp [h3]
        clear hv
        go_enter Try.func24, Try.ntmps24
        go_wp2_with (go_at_call 15; refine (fvalid4_any _ _ _).mono ?_; rintro e w' ⟨rfl, hb⟩; (try replace hb := below_undrew hb); (try replace hb := below_undrewN hb); obtain ⟨hcell, hfroz⟩ := bcell hb; have hz := hb.size; (try simp at hz); (try (have z6 := Nat.lt_of_lt_of_le z7 hz)); (try (have z7 := Nat.lt_of_lt_of_le z8 hz)); (try (have z8 := Nat.lt_of_lt_of_le z9 hz)); (try (have z9 := Nat.lt_of_lt_of_le (Nat.lt_succ_self _) hz)); (try (have z0 : w.heap.size < w'.heap.size := by omega)); (try (have z1 : w.heap.size + 1 < w'.heap.size := by omega)); (try (have z2 : w.heap.size + 1 + 1 < w'.heap.size := by omega)); (try (have z3 : w.heap.size + 1 + 1 + 1 < w'.heap.size := by omega)); (try (have y1 : w1.heap.size < w'.heap.size := by omega)); (try (have y2 : w2.heap.size < w'.heap.size := by omega)); (try (have y3 : w3.heap.size < w'.heap.size := by omega)); (try (have y4 : w4.heap.size < w'.heap.size := by omega)); (try (have y5 : w5.heap.size < w'.heap.size := by omega)); (try (have y6 : w6.heap.size < w'.heap.size := by omega)))
        go_ret
        exact ⟨by rw [← H.out]; rfl, by (repeat (first | exact Below.refl _ _ | refine bl_drewN ?_ | refine bl_drew ?_ | refine bl_alloc ?_ _ | refine Below.setCell ?_ (by (first | (simp; done) | (simp; omega) | omega)) _ | refine bl_step (by assumption) ?_))⟩
      · have H : Hid (false = v) := by rw [← hv, h1, h2]; unfold Hid; simp [h3]
        clear hv
        go_enter Try.func24, Try.ntmps24
        go_wp2_with (go_at_call 15; refine (fvalid4_any _ _ _).mono ?_; rintro e w' ⟨rfl, hb⟩; (try replace hb := below_undrew hb); (try replace hb := below_undrewN hb); obtain ⟨hcell, hfroz⟩ := bcell hb; have hz := hb.size; (try simp at hz); (try (have z6 := Nat.lt_of_lt_of_le z7 hz)); (try (have z7 := Nat.lt_of_lt_of_le z8 hz)); (try (have z8 := Nat.lt_of_lt_of_le z9 hz)); (try (have z9 := Nat.lt_of_lt_of_le (Nat.lt_succ_self _) hz)); (try (have z0 : w.heap.size < w'.heap.size := by omega)); (try (have z1 : w.heap.size + 1 < w'.heap.size := by omega)); (try (have z2 : w.heap.size + 1 + 1 < w'.heap.size := by omega)); (try (have z3 : w.heap.size + 1 + 1 + 1 < w'.heap.size := by omega)); (try (have y1 : w1.heap.size < w'.heap.size := by omega)); (try (have y2 : w2.heap.size < w'.heap.size := by omega)); (try (have y3 : w3.heap.size < w'.heap.size := by omega)); (try (have y4 : w4.heap.size < w'.heap.size := by omega)); (try (have y5 : w5.heap.size < w'.heap.size := by omega)); (try (have y6 : w6.heap.size < w'.heap.size := by omega)))
        go_ret
        exact ⟨by rw [← H.out]; rfl, by (repeat (first | exact Below.refl _ _ | refine bl_drewN ?_ | refine bl_drew ?_ | refine bl_alloc ?_ _ | refine Below.setCell ?_ (by (first | (simp; done) | (simp; omega) | omega)) _ | refine bl_step (by assumption) ?_))⟩

theorem size4_any (n : Int) (w : World) (h0 : -9223372036854775808 ≤ n) (h1 : n ≤ 9223372036854775807) :
    Calls Try.prog 58 #[.int .i64 n] w fun e w' => e = .returned (.int .u64 (absI n)) ∧ w = w' := by
  by_cases hn : n < 0
  · have e : Hid (-n = absI n) := by unfold Hid absI; rw [if_pos hn]
    have w1 : IntKind.u64.wrap n = n + 18446744073709551616 := by rw [IntKind.wrap_u64]; omega
    have w2 : IntKind.u64.wrap (0 - (n + 18446744073709551616)) = -n := by rw [IntKind.wrap_u64]; omega
    have w3 : IntKind.u64.wrap (-(n + 18446744073709551616)) = -n := by rw [IntKind.wrap_u64]; omega
    go_enter Try.func58, Try.ntmps58
    go_wp2
    go_ret
    exact ⟨by rw [← e.out]; first | rfl | (refine ret_one ?_; omega), rfl⟩
  · have e : Hid (n = absI n) := by unfold Hid absI; rw [if_neg hn]
    have w1 : IntKind.u64.wrap n = n := by rw [IntKind.wrap_u64]; omega
    go_enter Try.func58, Try.ntmps58
    go_wp2
    go_ret
    exact ⟨by rw [← e.out]; first | rfl | (refine ret_one ?_; omega), rfl⟩

/-- k digits of a binary quotient: m, and the rest r -/
def makI (A B : Int) (k : Nat) (m r : Int) : Prop := m * B + r = A * 2 ^ k ∧ 0 ≤ r ∧ r < B ∧ 0 ≤ m ∧ m ≤ 2 * 2 ^ k + (2 ^ k - 1)
theorem makI_start (A B : Int) (hA : 0 ≤ A) (hB : 0 < B) (hq : A / B ≤ 2) : makI A B 0 (A / B) (A % B) := by
  have e := Int.mul_ediv_add_emod A B
  have r0 := Int.emod_nonneg A (Int.ne_of_gt hB)
  have r1 := Int.emod_lt_of_pos A hB
  have q0 := Int.ediv_nonneg hA (Int.le_of_lt hB)
  rw [Int.mul_comm] at e
  exact ⟨by simp [e], r0, r1, q0, by simp; omega⟩
theorem makI_bd {A B m r : Int} {k : Nat} (hk : k ≤ 30) (h : makI A B k m r) : 0 ≤ m ∧ m ≤ 3221225471 ∧ 0 ≤ r ∧ r < B := by
  obtain ⟨_, h1, h2, h3, h4⟩ := h
  have := pow_le_i hk
  omega
theorem makI_more {A B m r : Int} {k : Nat} (h : makI A B k m r) (hr : B - r ≤ r) : makI A B (k + 1) (2 * m + 1) (r - (B - r)) := by
  obtain ⟨h0, h1, h2, h3, h4⟩ := h
  have e : (2 : Int) ^ (k + 1) = 2 * 2 ^ k := by rw [Int.pow_succ]; omega
  have e2 : A * (2 * 2 ^ k) = 2 * (A * 2 ^ k) := by grind
  have e3 : (2 * m + 1) * B = 2 * (m * B) + B := by grind
  refine ⟨?_, by omega, by omega, by omega, ?_⟩
  · rw [e, e2, ← h0, e3]; omega
  · rw [e]; omega
theorem makI_less {A B m r : Int} {k : Nat} (h : makI A B k m r) (hr : ¬ B - r ≤ r) : makI A B (k + 1) (2 * m) (2 * r) := by
  obtain ⟨h0, h1, h2, h3, h4⟩ := h
  have e : (2 : Int) ^ (k + 1) = 2 * 2 ^ k := by rw [Int.pow_succ]; omega
  have e2 : A * (2 * 2 ^ k) = 2 * (A * 2 ^ k) := by grind
  have e3 : (2 * m) * B = 2 * (m * B) := by grind
  refine ⟨?_, by omega, by omega, by omega, ?_⟩
  · rw [e, e2, ← h0, e3]; omega
  · rw [e]; omega
theorem makI_end {A B m r : Int} (h : makI A B 30 m r) : A * 1073741824 / B = m ∧ A * 1073741824 % B = r := by
  obtain ⟨h0, h1, h2, h3, h4⟩ := h
  have e : A * 1073741824 = m * B + r := by rw [h0]; rfl
  have hB : B ≠ 0 := by omega
  rw [e]
  constructor
  · rw [Int.add_comm, Int.add_mul_ediv_right _ _ hB, Int.ediv_eq_zero_of_lt h1 h2]; omega
  · rw [Int.add_comm, Int.add_mul_emod_self_right]; exact Int.emod_eq_of_lt h1 h2

theorem absI_scale (n : Int) : absI (n * 1073741824) = absI n * 1073741824 := by unfold absI; split <;> split <;> omega
theorem make_ends {n d m r : Int} (hd : d ≠ 0) (h : makI (absI n) (absI d) 30 m r) (S : Bool) (hS : (decide (n < 0) != decide (d < 0)) = S) :
    fl (n * 1073741824) d = (if S then (if 0 < r then -m - 1 else -m) else m) ∧ ce (n * 1073741824) d = (if S then -m else (if 0 < r then m + 1 else m)) := by
  obtain ⟨e1, e2⟩ := makI_end h
  have e3 : decide (n * 1073741824 < 0) = decide (n < 0) := by rw [decide_eq_decide]; omega
  rw [fl_abs _ _ hd, ce_abs _ _ hd, absI_scale, e1, e2, e3, hS]
  exact ⟨rfl, rfl⟩
theorem make_big {n d : Int} (hd : d ≠ 0) (h : 2 < absI n / absI d ∨ (absI n / absI d = 2 ∧ 0 < absI n % absI d)) : fixB (fl (n * 1073741824) d) (ce (n * 1073741824) d) = false := by
  have hB : 0 < absI d := by unfold absI; split <;> omega
  have hA : 0 ≤ absI n := by unfold absI; split <;> omega
  have e3 : decide (n * 1073741824 < 0) = decide (n < 0) := by rw [decide_eq_decide]; omega
  have e := Int.mul_ediv_add_emod (absI n) (absI d)
  have r0 := Int.emod_nonneg (absI n) (Int.ne_of_gt hB)
  have r1 := Int.emod_lt_of_pos (absI n) hB
  rw [fl_abs _ _ hd, ce_abs _ _ hd, absI_scale, e3]
  generalize (decide (n < 0) != decide (d < 0)) = S
  generalize absI n = A at *
  generalize absI d = B at *
  have g : 2147483648 < A * 1073741824 / B ∨ (2147483648 ≤ A * 1073741824 / B ∧ 0 < A * 1073741824 % B) := by
    rcases h with h | ⟨h, k⟩
    · left
      have : 3 * 1073741824 ≤ A * 1073741824 / B := by
        apply (Int.le_ediv_iff_mul_le hB).2
        have h3 : B * 3 ≤ B * (A / B) := Int.mul_le_mul_of_nonneg_left (by omega) (by omega)
        omega
      omega
    · have h3 : B * 2 = B * (A / B) := by rw [h]
      have e5 := Int.mul_ediv_add_emod (A * 1073741824) B
      have r5 := Int.emod_nonneg (A * 1073741824) (Int.ne_of_gt hB)
      have q5 : 2147483648 ≤ A * 1073741824 / B := by
        apply (Int.le_ediv_iff_mul_le hB).2
        omega
      by_cases z : A * 1073741824 / B = 2147483648
      · right; rw [z] at e5; omega
      · left; omega
  generalize A * 1073741824 / B = M at *
  generalize A * 1073741824 % B = R at *
  apply fixB_not
  cases S <;> simp <;> split <;> omega

theorem make4_zero (n : Int) (w : World) :
    Calls Try.prog 21 #[.int .i64 n, .int .i64 0] w fun e w' => e = .returned (.tuple #[.agg #[.int .i64 (0), .int .i64 (0)], .int .i64 (16)]) ∧ Below w.heap.size w w' := by
  go_enter Try.func21, Try.ntmps21
  go_wp2
  exact bodyPost_ret (v := .tuple #[.agg #[.int .i64 (0), .int .i64 (0)], .int .i64 (16)]) (by first | (simp only [results, Try.results21]; go_simp; done) | simp [results, Try.results21, go_sem, *]) rfl ⟨rfl, by (repeat (first | exact Below.refl _ _ | refine bl_drewN ?_ | refine bl_drew ?_ | refine bl_alloc ?_ _ | refine Below.setCell ?_ (by (first | (simp; done) | (simp; omega) | omega)) _ | refine bl_step (by assumption) ?_))⟩

set_option maxHeartbeats 1000000 in
theorem make4_big1 (n d : Int) (w : World) (n0 : -9223372036854775808 ≤ n) (n1 : n ≤ 9223372036854775807) (hd : d ≠ 0) (d0 : -9223372036854775808 ≤ d) (d1 : d ≤ 9223372036854775807) (h : 2 < absI n / absI d) :
    Calls Try.prog 21 #[.int .i64 n, .int .i64 d] w fun e w' => e = .returned (.tuple #[.agg #[.int .i64 (0), .int .i64 (0)], .int .i64 (5)]) ∧ Below w.heap.size w w' := by
  have hB : 0 < absI d := by unfold absI; split <;> omega
  have hB2 : absI d ≤ 9223372036854775808 := by unfold absI; split <;> omega
  have hA : 0 ≤ absI n := by unfold absI; split <;> omega
  have hA2 : absI n ≤ 9223372036854775808 := by unfold absI; split <;> omega
  have q0 := Int.ediv_nonneg hA (Int.le_of_lt hB)
  have q2 := Int.emod_nonneg (absI n) (Int.ne_of_gt hB)
  have q3 := Int.emod_lt_of_pos (absI n) hB
  go_enter Try.func21, Try.ntmps21
  go_wp2_with (go_at_call 58; refine (size4_any _ _ (by assumption) (by assumption)).mono ?_; rintro e w' ⟨rfl, rfl⟩)
  exact bodyPost_ret (v := .tuple #[.agg #[.int .i64 (0), .int .i64 (0)], .int .i64 (5)]) (by first | (simp only [results, Try.results21]; go_simp; done) | simp [results, Try.results21, go_sem, *]) rfl ⟨rfl, by (repeat (first | exact Below.refl _ _ | refine bl_drewN ?_ | refine bl_drew ?_ | refine bl_alloc ?_ _ | refine Below.setCell ?_ (by (first | (simp; done) | (simp; omega) | omega)) _ | refine bl_step (by assumption) ?_))⟩

set_option maxHeartbeats 1000000 in
theorem make4_big2 (n d : Int) (w : World) (n0 : -9223372036854775808 ≤ n) (n1 : n ≤ 9223372036854775807) (hd : d ≠ 0) (d0 : -9223372036854775808 ≤ d) (d1 : d ≤ 9223372036854775807) (h : absI n / absI d = 2) (h2 : 0 < absI n % absI d) :
    Calls Try.prog 21 #[.int .i64 n, .int .i64 d] w fun e w' => e = .returned (.tuple #[.agg #[.int .i64 (0), .int .i64 (0)], .int .i64 (5)]) ∧ Below w.heap.size w w' := by
  have hB : 0 < absI d := by unfold absI; split <;> omega
  have hB2 : absI d ≤ 9223372036854775808 := by unfold absI; split <;> omega
  have hA : 0 ≤ absI n := by unfold absI; split <;> omega
  have hA2 : absI n ≤ 9223372036854775808 := by unfold absI; split <;> omega
  have q0 := Int.ediv_nonneg hA (Int.le_of_lt hB)
  have q2 := Int.emod_nonneg (absI n) (Int.ne_of_gt hB)
  have q3 := Int.emod_lt_of_pos (absI n) hB
  go_enter Try.func21, Try.ntmps21
  go_wp2_with (go_at_call 58; refine (size4_any _ _ (by assumption) (by assumption)).mono ?_; rintro e w' ⟨rfl, rfl⟩)
  exact bodyPost_ret (v := .tuple #[.agg #[.int .i64 (0), .int .i64 (0)], .int .i64 (5)]) (by first | (simp only [results, Try.results21]; go_simp; done) | simp [results, Try.results21, go_sem, *]) rfl ⟨rfl, by (repeat (first | exact Below.refl _ _ | refine bl_drewN ?_ | refine bl_drew ?_ | refine bl_alloc ?_ _ | refine Below.setCell ?_ (by (first | (simp; done) | (simp; omega) | omega)) _ | refine bl_step (by assumption) ?_))⟩

set_option maxHeartbeats 1000000 in
theorem make4_two (n d : Int) (v : Value) (w : World) (hv : fitF (fl (n * 1073741824) d) (ce (n * 1073741824) d) = v) (n0 : -9223372036854775808 ≤ n) (n1 : n ≤ 9223372036854775807) (hd : d ≠ 0) (d0 : -9223372036854775808 ≤ d) (d1 : d ≤ 9223372036854775807) (h : absI n / absI d = 2) (h2 : absI n % absI d = 0) :
    Calls Try.prog 21 #[.int .i64 n, .int .i64 d] w fun e w' => e = .returned v ∧ Below w.heap.size w w' := by
  have hB : 0 < absI d := by unfold absI; split <;> omega
  have hB2 : absI d ≤ 9223372036854775808 := by unfold absI; split <;> omega
  have hA : 0 ≤ absI n := by unfold absI; split <;> omega
  have hA2 : absI n ≤ 9223372036854775808 := by unfold absI; split <;> omega
  have q0 := Int.ediv_nonneg hA (Int.le_of_lt hB)
  have q2 := Int.emod_nonneg (absI n) (Int.ne_of_gt hB)
  have q3 := Int.emod_lt_of_pos (absI n) hB
  have HI0 := makI_start (absI n) (absI d) hA hB (by omega)
  rw [h] at HI0
  have HI := hidden HI0
  clear HI0
  have wq : IntKind.i64.wrap (absI n / absI d) = absI n / absI d := wrap_id (by omega) (by omega)
  replace hv := hidden hv
  go_enter Try.func21, Try.ntmps21
  go_wp2_with (go_at_call 58; refine (size4_any _ _ (by assumption) (by assumption)).mono ?_; rintro e w' ⟨rfl, rfl⟩)
  go_loop [8, 9, 10] (fun M R K => ∃ m r : Int, ∃ k : Nat, k ≤ 30 ∧ makI (absI n) (absI d) k m r ∧ M = .int .i64 m ∧ R = .int .u64 r ∧ K = .int .i64 k) (fun _ _ K => 30 - (intOf K).toNat)
  case atStart => exact ⟨_, _, 0, by omega, HI.out, rfl, rfl, rfl⟩
  case round =>
    obtain ⟨m, r, k, hk, hI, rfl, rfl, rfl⟩ := hrel
    have bd := makI_bd hk hI
    obtain ⟨b1, b2, b3, b4⟩ := bd
    clear HI q0 q2 q3 wq
    by_cases hlt : k < 30
    · by_cases hr : absI d - r ≤ r
      · have N := hidden (makI_more hI hr)
        clear hI
        go_wp2
        go_round
        case rel => exact ⟨_, _, k + 1, by omega, N.out, rfl, rfl, by go_num⟩
        case measure => simp [intOf]; omega
      · have N := hidden (makI_less hI hr)
        clear hI
        go_wp2
        go_round
        case rel => exact ⟨_, _, k + 1, by omega, N.out, rfl, rfl, by go_num⟩
        case measure => simp [intOf]; omega
    · obtain rfl : 30 = k := by omega
      replace hI := hidden hI
      by_cases hr : 0 < r
      · by_cases hn : n < 0
        · by_cases hs : d < 0
          · obtain ⟨E1, E2⟩ := make_ends hd hI.out false (by simp [hn, hs])
            have E : fitF (fl (n * 1073741824) d) (ce (n * 1073741824) d) = fitF (m) (m + 1) := by rw [E1, E2]; simp [hr] <;> (congr 1; omega)
            have FI := fun w => fit4_any (m) (m + 1) w (by omega)
            obtain ⟨p, q, k, e⟩ := fitF_form (m) (m + 1)
            rw [e] at FI E
            replace FI := hidden FI
            replace E := hidden E
            clear e E1 E2
            go_wp2_with (go_at_call 51; refine (FI.out _).mono ?_; rintro e w' ⟨rfl, hb⟩; (try replace hb := below_undrew hb); (try replace hb := below_undrewN hb); obtain ⟨hcell, hfroz⟩ := bcell hb; have hz := hb.size; (try simp at hz); (try (have z6 := Nat.lt_of_lt_of_le z7 hz)); (try (have z7 := Nat.lt_of_lt_of_le z8 hz)); (try (have z8 := Nat.lt_of_lt_of_le z9 hz)); (try (have z9 := Nat.lt_of_lt_of_le (Nat.lt_succ_self _) hz)); (try (have z0 : w.heap.size < w'.heap.size := by omega)); (try (have z1 : w.heap.size + 1 < w'.heap.size := by omega)); (try (have z2 : w.heap.size + 1 + 1 < w'.heap.size := by omega)); (try (have z3 : w.heap.size + 1 + 1 + 1 < w'.heap.size := by omega)); (try (have y1 : w1.heap.size < w'.heap.size := by omega)); (try (have y2 : w2.heap.size < w'.heap.size := by omega)); (try (have y3 : w3.heap.size < w'.heap.size := by omega)); (try (have y4 : w4.heap.size < w'.heap.size := by omega)); (try (have y5 : w5.heap.size < w'.heap.size := by omega)); (try (have y6 : w6.heap.size < w'.heap.size := by omega)))
            exact bodyPost_ret (v := .tuple #[.agg #[.int .i64 (p), .int .i64 (q)], .int .i64 (k)]) (by first | (simp only [results, Try.results21]; go_simp; done) | simp [results, Try.results21, go_sem, *]) rfl ⟨by rw [← hv.out, E.out], by (repeat (first | exact Below.refl _ _ | refine bl_drewN ?_ | refine bl_drew ?_ | refine bl_alloc ?_ _ | refine Below.setCell ?_ (by (first | (simp; done) | (simp; omega) | omega)) _ | refine bl_step (by assumption) ?_))⟩
          · obtain ⟨E1, E2⟩ := make_ends hd hI.out true (by simp [hn, hs])
            have E : fitF (fl (n * 1073741824) d) (ce (n * 1073741824) d) = fitF (-(m + 1)) (-m) := by rw [E1, E2]; simp [hr] <;> (congr 1; omega)
            have FI := fun w => fit4_any (-(m + 1)) (-m) w (by omega)
            obtain ⟨p, q, k, e⟩ := fitF_form (-(m + 1)) (-m)
            rw [e] at FI E
            replace FI := hidden FI
            replace E := hidden E
            clear e E1 E2
            go_wp2_with (go_at_call 51; refine (FI.out _).mono ?_; rintro e w' ⟨rfl, hb⟩; (try replace hb := below_undrew hb); (try replace hb := below_undrewN hb); obtain ⟨hcell, hfroz⟩ := bcell hb; have hz := hb.size; (try simp at hz); (try (have z6 := Nat.lt_of_lt_of_le z7 hz)); (try (have z7 := Nat.lt_of_lt_of_le z8 hz)); (try (have z8 := Nat.lt_of_lt_of_le z9 hz)); (try (have z9 := Nat.lt_of_lt_of_le (Nat.lt_succ_self _) hz)); (try (have z0 : w.heap.size < w'.heap.size := by omega)); (try (have z1 : w.heap.size + 1 < w'.heap.size := by omega)); (try (have z2 : w.heap.size + 1 + 1 < w'.heap.size := by omega)); (try (have z3 : w.heap.size + 1 + 1 + 1 < w'.heap.size := by omega)); (try (have y1 : w1.heap.size < w'.heap.size := by omega)); (try (have y2 : w2.heap.size < w'.heap.size := by omega)); (try (have y3 : w3.heap.size < w'.heap.size := by omega)); (try (have y4 : w4.heap.size < w'.heap.size := by omega)); (try (have y5 : w5.heap.size < w'.heap.size := by omega)); (try (have y6 : w6.heap.size < w'.heap.size := by omega)))
            exact bodyPost_ret (v := .tuple #[.agg #[.int .i64 (p), .int .i64 (q)], .int .i64 (k)]) (by first | (simp only [results, Try.results21]; go_simp; done) | simp [results, Try.results21, go_sem, *]) rfl ⟨by rw [← hv.out, E.out], by (repeat (first | exact Below.refl _ _ | refine bl_drewN ?_ | refine bl_drew ?_ | refine bl_alloc ?_ _ | refine Below.setCell ?_ (by (first | (simp; done) | (simp; omega) | omega)) _ | refine bl_step (by assumption) ?_))⟩
        · by_cases hs : d < 0
          · obtain ⟨E1, E2⟩ := make_ends hd hI.out true (by simp [hn, hs])
            have E : fitF (fl (n * 1073741824) d) (ce (n * 1073741824) d) = fitF (-(m + 1)) (-m) := by rw [E1, E2]; simp [hr] <;> (congr 1; omega)
            have FI := fun w => fit4_any (-(m + 1)) (-m) w (by omega)
            obtain ⟨p, q, k, e⟩ := fitF_form (-(m + 1)) (-m)
            rw [e] at FI E
            replace FI := hidden FI
            replace E := hidden E
            clear e E1 E2
            go_wp2_with (go_at_call 51; refine (FI.out _).mono ?_; rintro e w' ⟨rfl, hb⟩; (try replace hb := below_undrew hb); (try replace hb := below_undrewN hb); obtain ⟨hcell, hfroz⟩ := bcell hb; have hz := hb.size; (try simp at hz); (try (have z6 := Nat.lt_of_lt_of_le z7 hz)); (try (have z7 := Nat.lt_of_lt_of_le z8 hz)); (try (have z8 := Nat.lt_of_lt_of_le z9 hz)); (try (have z9 := Nat.lt_of_lt_of_le (Nat.lt_succ_self _) hz)); (try (have z0 : w.heap.size < w'.heap.size := by omega)); (try (have z1 : w.heap.size + 1 < w'.heap.size := by omega)); (try (have z2 : w.heap.size + 1 + 1 < w'.heap.size := by omega)); (try (have z3 : w.heap.size + 1 + 1 + 1 < w'.heap.size := by omega)); (try (have y1 : w1.heap.size < w'.heap.size := by omega)); (try (have y2 : w2.heap.size < w'.heap.size := by omega)); (try (have y3 : w3.heap.size < w'.heap.size := by omega)); (try (have y4 : w4.heap.size < w'.heap.size := by omega)); (try (have y5 : w5.heap.size < w'.heap.size := by omega)); (try (have y6 : w6.heap.size < w'.heap.size := by omega)))
            exact bodyPost_ret (v := .tuple #[.agg #[.int .i64 (p), .int .i64 (q)], .int .i64 (k)]) (by first | (simp only [results, Try.results21]; go_simp; done) | simp [results, Try.results21, go_sem, *]) rfl ⟨by rw [← hv.out, E.out], by (repeat (first | exact Below.refl _ _ | refine bl_drewN ?_ | refine bl_drew ?_ | refine bl_alloc ?_ _ | refine Below.setCell ?_ (by (first | (simp; done) | (simp; omega) | omega)) _ | refine bl_step (by assumption) ?_))⟩
          · obtain ⟨E1, E2⟩ := make_ends hd hI.out false (by simp [hn, hs])
            have E : fitF (fl (n * 1073741824) d) (ce (n * 1073741824) d) = fitF (m) (m + 1) := by rw [E1, E2]; simp [hr] <;> (congr 1; omega)
            have FI := fun w => fit4_any (m) (m + 1) w (by omega)
            obtain ⟨p, q, k, e⟩ := fitF_form (m) (m + 1)
            rw [e] at FI E
            replace FI := hidden FI
            replace E := hidden E
            clear e E1 E2
            go_wp2_with (go_at_call 51; refine (FI.out _).mono ?_; rintro e w' ⟨rfl, hb⟩; (try replace hb := below_undrew hb); (try replace hb := below_undrewN hb); obtain ⟨hcell, hfroz⟩ := bcell hb; have hz := hb.size; (try simp at hz); (try (have z6 := Nat.lt_of_lt_of_le z7 hz)); (try (have z7 := Nat.lt_of_lt_of_le z8 hz)); (try (have z8 := Nat.lt_of_lt_of_le z9 hz)); (try (have z9 := Nat.lt_of_lt_of_le (Nat.lt_succ_self _) hz)); (try (have z0 : w.heap.size < w'.heap.size := by omega)); (try (have z1 : w.heap.size + 1 < w'.heap.size := by omega)); (try (have z2 : w.heap.size + 1 + 1 < w'.heap.size := by omega)); (try (have z3 : w.heap.size + 1 + 1 + 1 < w'.heap.size := by omega)); (try (have y1 : w1.heap.size < w'.heap.size := by omega)); (try (have y2 : w2.heap.size < w'.heap.size := by omega)); (try (have y3 : w3.heap.size < w'.heap.size := by omega)); (try (have y4 : w4.heap.size < w'.heap.size := by omega)); (try (have y5 : w5.heap.size < w'.heap.size := by omega)); (try (have y6 : w6.heap.size < w'.heap.size := by omega)))
            exact bodyPost_ret (v := .tuple #[.agg #[.int .i64 (p), .int .i64 (q)], .int .i64 (k)]) (by first | (simp only [results, Try.results21]; go_simp; done) | simp [results, Try.results21, go_sem, *]) rfl ⟨by rw [← hv.out, E.out], by (repeat (first | exact Below.refl _ _ | refine bl_drewN ?_ | refine bl_drew ?_ | refine bl_alloc ?_ _ | refine Below.setCell ?_ (by (first | (simp; done) | (simp; omega) | omega)) _ | refine bl_step (by assumption) ?_))⟩
      · by_cases hn : n < 0
        · by_cases hs : d < 0
          · obtain ⟨E1, E2⟩ := make_ends hd hI.out false (by simp [hn, hs])
            have E : fitF (fl (n * 1073741824) d) (ce (n * 1073741824) d) = fitF (m) (m) := by rw [E1, E2]; simp [hr] <;> (congr 1; omega)
            have FI := fun w => fit4_any (m) (m) w (by omega)
            obtain ⟨p, q, k, e⟩ := fitF_form (m) (m)
            rw [e] at FI E
            replace FI := hidden FI
            replace E := hidden E
            clear e E1 E2
            go_wp2_with (go_at_call 51; refine (FI.out _).mono ?_; rintro e w' ⟨rfl, hb⟩; (try replace hb := below_undrew hb); (try replace hb := below_undrewN hb); obtain ⟨hcell, hfroz⟩ := bcell hb; have hz := hb.size; (try simp at hz); (try (have z6 := Nat.lt_of_lt_of_le z7 hz)); (try (have z7 := Nat.lt_of_lt_of_le z8 hz)); (try (have z8 := Nat.lt_of_lt_of_le z9 hz)); (try (have z9 := Nat.lt_of_lt_of_le (Nat.lt_succ_self _) hz)); (try (have z0 : w.heap.size < w'.heap.size := by omega)); (try (have z1 : w.heap.size + 1 < w'.heap.size := by omega)); (try (have z2 : w.heap.size + 1 + 1 < w'.heap.size := by omega)); (try (have z3 : w.heap.size + 1 + 1 + 1 < w'.heap.size := by omega)); (try (have y1 : w1.heap.size < w'.heap.size := by omega)); (try (have y2 : w2.heap.size < w'.heap.size := by omega)); (try (have y3 : w3.heap.size < w'.heap.size := by omega)); (try (have y4 : w4.heap.size < w'.heap.size := by omega)); (try (have y5 : w5.heap.size < w'.heap.size := by omega)); (try (have y6 : w6.heap.size < w'.heap.size := by omega)))
            exact bodyPost_ret (v := .tuple #[.agg #[.int .i64 (p), .int .i64 (q)], .int .i64 (k)]) (by first | (simp only [results, Try.results21]; go_simp; done) | simp [results, Try.results21, go_sem, *]) rfl ⟨by rw [← hv.out, E.out], by (repeat (first | exact Below.refl _ _ | refine bl_drewN ?_ | refine bl_drew ?_ | refine bl_alloc ?_ _ | refine Below.setCell ?_ (by (first | (simp; done) | (simp; omega) | omega)) _ | refine bl_step (by assumption) ?_))⟩
          · obtain ⟨E1, E2⟩ := make_ends hd hI.out true (by simp [hn, hs])
            have E : fitF (fl (n * 1073741824) d) (ce (n * 1073741824) d) = fitF (-m) (-m) := by rw [E1, E2]; simp [hr] <;> (congr 1; omega)
            have FI := fun w => fit4_any (-m) (-m) w (by omega)
            obtain ⟨p, q, k, e⟩ := fitF_form (-m) (-m)
            rw [e] at FI E
            replace FI := hidden FI
            replace E := hidden E
            clear e E1 E2
            go_wp2_with (go_at_call 51; refine (FI.out _).mono ?_; rintro e w' ⟨rfl, hb⟩; (try replace hb := below_undrew hb); (try replace hb := below_undrewN hb); obtain ⟨hcell, hfroz⟩ := bcell hb; have hz := hb.size; (try simp at hz); (try (have z6 := Nat.lt_of_lt_of_le z7 hz)); (try (have z7 := Nat.lt_of_lt_of_le z8 hz)); (try (have z8 := Nat.lt_of_lt_of_le z9 hz)); (try (have z9 := Nat.lt_of_lt_of_le (Nat.lt_succ_self _) hz)); (try (have z0 : w.heap.size < w'.heap.size := by omega)); (try (have z1 : w.heap.size + 1 < w'.heap.size := by omega)); (try (have z2 : w.heap.size + 1 + 1 < w'.heap.size := by omega)); (try (have z3 : w.heap.size + 1 + 1 + 1 < w'.heap.size := by omega)); (try (have y1 : w1.heap.size < w'.heap.size := by omega)); (try (have y2 : w2.heap.size < w'.heap.size := by omega)); (try (have y3 : w3.heap.size < w'.heap.size := by omega)); (try (have y4 : w4.heap.size < w'.heap.size := by omega)); (try (have y5 : w5.heap.size < w'.heap.size := by omega)); (try (have y6 : w6.heap.size < w'.heap.size := by omega)))
            exact bodyPost_ret (v := .tuple #[.agg #[.int .i64 (p), .int .i64 (q)], .int .i64 (k)]) (by first | (simp only [results, Try.results21]; go_simp; done) | simp [results, Try.results21, go_sem, *]) rfl ⟨by rw [← hv.out, E.out], by (repeat (first | exact Below.refl _ _ | refine bl_drewN ?_ | refine bl_drew ?_ | refine bl_alloc ?_ _ | refine Below.setCell ?_ (by (first | (simp; done) | (simp; omega) | omega)) _ | refine bl_step (by assumption) ?_))⟩
        · by_cases hs : d < 0
          · obtain ⟨E1, E2⟩ := make_ends hd hI.out true (by simp [hn, hs])
            have E : fitF (fl (n * 1073741824) d) (ce (n * 1073741824) d) = fitF (-m) (-m) := by rw [E1, E2]; simp [hr] <;> (congr 1; omega)
            have FI := fun w => fit4_any (-m) (-m) w (by omega)
            obtain ⟨p, q, k, e⟩ := fitF_form (-m) (-m)
            rw [e] at FI E
            replace FI := hidden FI
            replace E := hidden E
            clear e E1 E2
            go_wp2_with (go_at_call 51; refine (FI.out _).mono ?_; rintro e w' ⟨rfl, hb⟩; (try replace hb := below_undrew hb); (try replace hb := below_undrewN hb); obtain ⟨hcell, hfroz⟩ := bcell hb; have hz := hb.size; (try simp at hz); (try (have z6 := Nat.lt_of_lt_of_le z7 hz)); (try (have z7 := Nat.lt_of_lt_of_le z8 hz)); (try (have z8 := Nat.lt_of_lt_of_le z9 hz)); (try (have z9 := Nat.lt_of_lt_of_le (Nat.lt_succ_self _) hz)); (try (have z0 : w.heap.size < w'.heap.size := by omega)); (try (have z1 : w.heap.size + 1 < w'.heap.size := by omega)); (try (have z2 : w.heap.size + 1 + 1 < w'.heap.size := by omega)); (try (have z3 : w.heap.size + 1 + 1 + 1 < w'.heap.size := by omega)); (try (have y1 : w1.heap.size < w'.heap.size := by omega)); (try (have y2 : w2.heap.size < w'.heap.size := by omega)); (try (have y3 : w3.heap.size < w'.heap.size := by omega)); (try (have y4 : w4.heap.size < w'.heap.size := by omega)); (try (have y5 : w5.heap.size < w'.heap.size := by omega)); (try (have y6 : w6.heap.size < w'.heap.size := by omega)))
            exact bodyPost_ret (v := .tuple #[.agg #[.int .i64 (p), .int .i64 (q)], .int .i64 (k)]) (by first | (simp only [results, Try.results21]; go_simp; done) | simp [results, Try.results21, go_sem, *]) rfl ⟨by rw [← hv.out, E.out], by (repeat (first | exact Below.refl _ _ | refine bl_drewN ?_ | refine bl_drew ?_ | refine bl_alloc ?_ _ | refine Below.setCell ?_ (by (first | (simp; done) | (simp; omega) | omega)) _ | refine bl_step (by assumption) ?_))⟩
          · obtain ⟨E1, E2⟩ := make_ends hd hI.out false (by simp [hn, hs])
            have E : fitF (fl (n * 1073741824) d) (ce (n * 1073741824) d) = fitF (m) (m) := by rw [E1, E2]; simp [hr] <;> (congr 1; omega)
            have FI := fun w => fit4_any (m) (m) w (by omega)
            obtain ⟨p, q, k, e⟩ := fitF_form (m) (m)
            rw [e] at FI E
            replace FI := hidden FI
            replace E := hidden E
            clear e E1 E2
            go_wp2_with (go_at_call 51; refine (FI.out _).mono ?_; rintro e w' ⟨rfl, hb⟩; (try replace hb := below_undrew hb); (try replace hb := below_undrewN hb); obtain ⟨hcell, hfroz⟩ := bcell hb; have hz := hb.size; (try simp at hz); (try (have z6 := Nat.lt_of_lt_of_le z7 hz)); (try (have z7 := Nat.lt_of_lt_of_le z8 hz)); (try (have z8 := Nat.lt_of_lt_of_le z9 hz)); (try (have z9 := Nat.lt_of_lt_of_le (Nat.lt_succ_self _) hz)); (try (have z0 : w.heap.size < w'.heap.size := by omega)); (try (have z1 : w.heap.size + 1 < w'.heap.size := by omega)); (try (have z2 : w.heap.size + 1 + 1 < w'.heap.size := by omega)); (try (have z3 : w.heap.size + 1 + 1 + 1 < w'.heap.size := by omega)); (try (have y1 : w1.heap.size < w'.heap.size := by omega)); (try (have y2 : w2.heap.size < w'.heap.size := by omega)); (try (have y3 : w3.heap.size < w'.heap.size := by omega)); (try (have y4 : w4.heap.size < w'.heap.size := by omega)); (try (have y5 : w5.heap.size < w'.heap.size := by omega)); (try (have y6 : w6.heap.size < w'.heap.size := by omega)))
            exact bodyPost_ret (v := .tuple #[.agg #[.int .i64 (p), .int .i64 (q)], .int .i64 (k)]) (by first | (simp only [results, Try.results21]; go_simp; done) | simp [results, Try.results21, go_sem, *]) rfl ⟨by rw [← hv.out, E.out], by (repeat (first | exact Below.refl _ _ | refine bl_drewN ?_ | refine bl_drew ?_ | refine bl_alloc ?_ _ | refine Below.setCell ?_ (by (first | (simp; done) | (simp; omega) | omega)) _ | refine bl_step (by assumption) ?_))⟩

set_option maxHeartbeats 1000000 in
theorem make4_less (n d : Int) (v : Value) (w : World) (hv : fitF (fl (n * 1073741824) d) (ce (n * 1073741824) d) = v) (n0 : -9223372036854775808 ≤ n) (n1 : n ≤ 9223372036854775807) (hd : d ≠ 0) (d0 : -9223372036854775808 ≤ d) (d1 : d ≤ 9223372036854775807) (h : absI n / absI d < 2) :
    Calls Try.prog 21 #[.int .i64 n, .int .i64 d] w fun e w' => e = .returned v ∧ Below w.heap.size w w' := by
  have hB : 0 < absI d := by unfold absI; split <;> omega
  have hB2 : absI d ≤ 9223372036854775808 := by unfold absI; split <;> omega
  have hA : 0 ≤ absI n := by unfold absI; split <;> omega
  have hA2 : absI n ≤ 9223372036854775808 := by unfold absI; split <;> omega
  have q0 := Int.ediv_nonneg hA (Int.le_of_lt hB)
  have q2 := Int.emod_nonneg (absI n) (Int.ne_of_gt hB)
  have q3 := Int.emod_lt_of_pos (absI n) hB
  have HI := hidden (makI_start (absI n) (absI d) hA hB (by omega))
  have wq : IntKind.i64.wrap (absI n / absI d) = absI n / absI d := wrap_id (by omega) (by omega)
  replace hv := hidden hv
  go_enter Try.func21, Try.ntmps21
  go_wp2_with (go_at_call 58; refine (size4_any _ _ (by assumption) (by assumption)).mono ?_; rintro e w' ⟨rfl, rfl⟩)
  go_loop [8, 9, 10] (fun M R K => ∃ m r : Int, ∃ k : Nat, k ≤ 30 ∧ makI (absI n) (absI d) k m r ∧ M = .int .i64 m ∧ R = .int .u64 r ∧ K = .int .i64 k) (fun _ _ K => 30 - (intOf K).toNat)
  case atStart => exact ⟨_, _, 0, by omega, HI.out, rfl, rfl, rfl⟩
  case round =>
    obtain ⟨m, r, k, hk, hI, rfl, rfl, rfl⟩ := hrel
    have bd := makI_bd hk hI
    obtain ⟨b1, b2, b3, b4⟩ := bd
    clear HI q0 q2 q3 wq
    by_cases hlt : k < 30
    · by_cases hr : absI d - r ≤ r
      · have N := hidden (makI_more hI hr)
        clear hI
        go_wp2
        go_round
        case rel => exact ⟨_, _, k + 1, by omega, N.out, rfl, rfl, by go_num⟩
        case measure => simp [intOf]; omega
      · have N := hidden (makI_less hI hr)
        clear hI
        go_wp2
        go_round
        case rel => exact ⟨_, _, k + 1, by omega, N.out, rfl, rfl, by go_num⟩
        case measure => simp [intOf]; omega
    · obtain rfl : 30 = k := by omega
      replace hI := hidden hI
      by_cases hr : 0 < r
      · by_cases hn : n < 0
        · by_cases hs : d < 0
          · obtain ⟨E1, E2⟩ := make_ends hd hI.out false (by simp [hn, hs])
            have E : fitF (fl (n * 1073741824) d) (ce (n * 1073741824) d) = fitF (m) (m + 1) := by rw [E1, E2]; simp [hr] <;> (congr 1; omega)
            have FI := fun w => fit4_any (m) (m + 1) w (by omega)
            obtain ⟨p, q, k, e⟩ := fitF_form (m) (m + 1)
            rw [e] at FI E
            replace FI := hidden FI
            replace E := hidden E
            clear e E1 E2
            go_wp2_with (go_at_call 51; refine (FI.out _).mono ?_; rintro e w' ⟨rfl, hb⟩; (try replace hb := below_undrew hb); (try replace hb := below_undrewN hb); obtain ⟨hcell, hfroz⟩ := bcell hb; have hz := hb.size; (try simp at hz); (try (have z6 := Nat.lt_of_lt_of_le z7 hz)); (try (have z7 := Nat.lt_of_lt_of_le z8 hz)); (try (have z8 := Nat.lt_of_lt_of_le z9 hz)); (try (have z9 := Nat.lt_of_lt_of_le (Nat.lt_succ_self _) hz)); (try (have z0 : w.heap.size < w'.heap.size := by omega)); (try (have z1 : w.heap.size + 1 < w'.heap.size := by omega)); (try (have z2 : w.heap.size + 1 + 1 < w'.heap.size := by omega)); (try (have z3 : w.heap.size + 1 + 1 + 1 < w'.heap.size := by omega)); (try (have y1 : w1.heap.size < w'.heap.size := by omega)); (try (have y2 : w2.heap.size < w'.heap.size := by omega)); (try (have y3 : w3.heap.size < w'.heap.size := by omega)); (try (have y4 : w4.heap.size < w'.heap.size := by omega)); (try (have y5 : w5.heap.size < w'.heap.size := by omega)); (try (have y6 : w6.heap.size < w'.heap.size := by omega)))
            exact bodyPost_ret (v := .tuple #[.agg #[.int .i64 (p), .int .i64 (q)], .int .i64 (k)]) (by first | (simp only [results, Try.results21]; go_simp; done) | simp [results, Try.results21, go_sem, *]) rfl ⟨by rw [← hv.out, E.out], by (repeat (first | exact Below.refl _ _ | refine bl_drewN ?_ | refine bl_drew ?_ | refine bl_alloc ?_ _ | refine Below.setCell ?_ (by (first | (simp; done) | (simp; omega) | omega)) _ | refine bl_step (by assumption) ?_))⟩
          · obtain ⟨E1, E2⟩ := make_ends hd hI.out true (by simp [hn, hs])
            have E : fitF (fl (n * 1073741824) d) (ce (n * 1073741824) d) = fitF (-(m + 1)) (-m) := by rw [E1, E2]; simp [hr] <;> (congr 1; omega)
            have FI := fun w => fit4_any (-(m + 1)) (-m) w (by omega)
            obtain ⟨p, q, k, e⟩ := fitF_form (-(m + 1)) (-m)
            rw [e] at FI E
            replace FI := hidden FI
            replace E := hidden E
            clear e E1 E2
            go_wp2_with (go_at_call 51; refine (FI.out _).mono ?_; rintro e w' ⟨rfl, hb⟩; (try replace hb := below_undrew hb); (try replace hb := below_undrewN hb); obtain ⟨hcell, hfroz⟩ := bcell hb; have hz := hb.size; (try simp at hz); (try (have z6 := Nat.lt_of_lt_of_le z7 hz)); (try (have z7 := Nat.lt_of_lt_of_le z8 hz)); (try (have z8 := Nat.lt_of_lt_of_le z9 hz)); (try (have z9 := Nat.lt_of_lt_of_le (Nat.lt_succ_self _) hz)); (try (have z0 : w.heap.size < w'.heap.size := by omega)); (try (have z1 : w.heap.size + 1 < w'.heap.size := by omega)); (try (have z2 : w.heap.size + 1 + 1 < w'.heap.size := by omega)); (try (have z3 : w.heap.size + 1 + 1 + 1 < w'.heap.size := by omega)); (try (have y1 : w1.heap.size < w'.heap.size := by omega)); (try (have y2 : w2.heap.size < w'.heap.size := by omega)); (try (have y3 : w3.heap.size < w'.heap.size := by omega)); (try (have y4 : w4.heap.size < w'.heap.size := by omega)); (try (have y5 : w5.heap.size < w'.heap.size := by omega)); (try (have y6 : w6.heap.size < w'.heap.size := by omega)))
            exact bodyPost_ret (v := .tuple #[.agg #[.int .i64 (p), .int .i64 (q)], .int .i64 (k)]) (by first | (simp only [results, Try.results21]; go_simp; done) | simp [results, Try.results21, go_sem, *]) rfl ⟨by rw [← hv.out, E.out], by (repeat (first | exact Below.refl _ _ | refine bl_drewN ?_ | refine bl_drew ?_ | refine bl_alloc ?_ _ | refine Below.setCell ?_ (by (first | (simp; done) | (simp; omega) | omega)) _ | refine bl_step (by assumption) ?_))⟩
        · by_cases hs : d < 0
          · obtain ⟨E1, E2⟩ := make_ends hd hI.out true (by simp [hn, hs])
            have E : fitF (fl (n * 1073741824) d) (ce (n * 1073741824) d) = fitF (-(m + 1)) (-m) := by rw [E1, E2]; simp [hr] <;> (congr 1; omega)
            have FI := fun w => fit4_any (-(m + 1)) (-m) w (by omega)
            obtain ⟨p, q, k, e⟩ := fitF_form (-(m + 1)) (-m)
            rw [e] at FI E
            replace FI := hidden FI
            replace E := hidden E
            clear e E1 E2
            go_wp2_with (go_at_call 51; refine (FI.out _).mono ?_; rintro e w' ⟨rfl, hb⟩; (try replace hb := below_undrew hb); (try replace hb := below_undrewN hb); obtain ⟨hcell, hfroz⟩ := bcell hb; have hz := hb.size; (try simp at hz); (try (have z6 := Nat.lt_of_lt_of_le z7 hz)); (try (have z7 := Nat.lt_of_lt_of_le z8 hz)); (try (have z8 := Nat.lt_of_lt_of_le z9 hz)); (try (have z9 := Nat.lt_of_lt_of_le (Nat.lt_succ_self _) hz)); (try (have z0 : w.heap.size < w'.heap.size := by omega)); (try (have z1 : w.heap.size + 1 < w'.heap.size := by omega)); (try (have z2 : w.heap.size + 1 + 1 < w'.heap.size := by omega)); (try (have z3 : w.heap.size + 1 + 1 + 1 < w'.heap.size := by omega)); (try (have y1 : w1.heap.size < w'.heap.size := by omega)); (try (have y2 : w2.heap.size < w'.heap.size := by omega)); (try (have y3 : w3.heap.size < w'.heap.size := by omega)); (try (have y4 : w4.heap.size < w'.heap.size := by omega)); (try (have y5 : w5.heap.size < w'.heap.size := by omega)); (try (have y6 : w6.heap.size < w'.heap.size := by omega)))
            exact bodyPost_ret (v := .tuple #[.agg #[.int .i64 (p), .int .i64 (q)], .int .i64 (k)]) (by first | (simp only [results, Try.results21]; go_simp; done) | simp [results, Try.results21, go_sem, *]) rfl ⟨by rw [← hv.out, E.out], by (repeat (first | exact Below.refl _ _ | refine bl_drewN ?_ | refine bl_drew ?_ | refine bl_alloc ?_ _ | refine Below.setCell ?_ (by (first | (simp; done) | (simp; omega) | omega)) _ | refine bl_step (by assumption) ?_))⟩
          · obtain ⟨E1, E2⟩ := make_ends hd hI.out false (by simp [hn, hs])
            have E : fitF (fl (n * 1073741824) d) (ce (n * 1073741824) d) = fitF (m) (m + 1) := by rw [E1, E2]; simp [hr] <;> (congr 1; omega)
            have FI := fun w => fit4_any (m) (m + 1) w (by omega)
            obtain ⟨p, q, k, e⟩ := fitF_form (m) (m + 1)
            rw [e] at FI E
            replace FI := hidden FI
            replace E := hidden E
            clear e E1 E2
            go_wp2_with (go_at_call 51; refine (FI.out _).mono ?_; rintro e w' ⟨rfl, hb⟩; (try replace hb := below_undrew hb); (try replace hb := below_undrewN hb); obtain ⟨hcell, hfroz⟩ := bcell hb; have hz := hb.size; (try simp at hz); (try (have z6 := Nat.lt_of_lt_of_le z7 hz)); (try (have z7 := Nat.lt_of_lt_of_le z8 hz)); (try (have z8 := Nat.lt_of_lt_of_le z9 hz)); (try (have z9 := Nat.lt_of_lt_of_le (Nat.lt_succ_self _) hz)); (try (have z0 : w.heap.size < w'.heap.size := by omega)); (try (have z1 : w.heap.size + 1 < w'.heap.size := by omega)); (try (have z2 : w.heap.size + 1 + 1 < w'.heap.size := by omega)); (try (have z3 : w.heap.size + 1 + 1 + 1 < w'.heap.size := by omega)); (try (have y1 : w1.heap.size < w'.heap.size := by omega)); (try (have y2 : w2.heap.size < w'.heap.size := by omega)); (try (have y3 : w3.heap.size < w'.heap.size := by omega)); (try (have y4 : w4.heap.size < w'.heap.size := by omega)); (try (have y5 : w5.heap.size < w'.heap.size := by omega)); (try (have y6 : w6.heap.size < w'.heap.size := by omega)))
            exact bodyPost_ret (v := .tuple #[.agg #[.int .i64 (p), .int .i64 (q)], .int .i64 (k)]) (by first | (simp only [results, Try.results21]; go_simp; done) | simp [results, Try.results21, go_sem, *]) rfl ⟨by rw [← hv.out, E.out], by (repeat (first | exact Below.refl _ _ | refine bl_drewN ?_ | refine bl_drew ?_ | refine bl_alloc ?_ _ | refine Below.setCell ?_ (by (first | (simp; done) | (simp; omega) | omega)) _ | refine bl_step (by assumption) ?_))⟩
      · by_cases hn : n < 0
        · by_cases hs : d < 0
          · obtain ⟨E1, E2⟩ := make_ends hd hI.out false (by simp [hn, hs])
            have E : fitF (fl (n * 1073741824) d) (ce (n * 1073741824) d) = fitF (m) (m) := by rw [E1, E2]; simp [hr] <;> (congr 1; omega)
            have FI := fun w => fit4_any (m) (m) w (by omega)
            obtain ⟨p, q, k, e⟩ := fitF_form (m) (m)
            rw [e] at FI E
            replace FI := hidden FI
            replace E := hidden E
            clear e E1 E2
            go_wp2_with (go_at_call 51; refine (FI.out _).mono ?_; rintro e w' ⟨rfl, hb⟩; (try replace hb := below_undrew hb); (try replace hb := below_undrewN hb); obtain ⟨hcell, hfroz⟩ := bcell hb; have hz := hb.size; (try simp at hz); (try (have z6 := Nat.lt_of_lt_of_le z7 hz)); (try (have z7 := Nat.lt_of_lt_of_le z8 hz)); (try (have z8 := Nat.lt_of_lt_of_le z9 hz)); (try (have z9 := Nat.lt_of_lt_of_le (Nat.lt_succ_self _) hz)); (try (have z0 : w.heap.size < w'.heap.size := by omega)); (try (have z1 : w.heap.size + 1 < w'.heap.size := by omega)); (try (have z2 : w.heap.size + 1 + 1 < w'.heap.size := by omega)); (try (have z3 : w.heap.size + 1 + 1 + 1 < w'.heap.size := by omega)); (try (have y1 : w1.heap.size < w'.heap.size := by omega)); (try (have y2 : w2.heap.size < w'.heap.size := by omega)); (try (have y3 : w3.heap.size < w'.heap.size := by omega)); (try (have y4 : w4.heap.size < w'.heap.size := by omega)); (try (have y5 : w5.heap.size < w'.heap.size := by omega)); (try (have y6 : w6.heap.size < w'.heap.size := by omega)))
            exact bodyPost_ret (v := .tuple #[.agg #[.int .i64 (p), .int .i64 (q)], .int .i64 (k)]) (by first | (simp only [results, Try.results21]; go_simp; done) | simp [results, Try.results21, go_sem, *]) rfl ⟨by rw [← hv.out, E.out], by (repeat (first | exact Below.refl _ _ | refine bl_drewN ?_ | refine bl_drew ?_ | refine bl_alloc ?_ _ | refine Below.setCell ?_ (by (first | (simp; done) | (simp; omega) | omega)) _ | refine bl_step (by assumption) ?_))⟩
          · obtain ⟨E1, E2⟩ := make_ends hd hI.out true (by simp [hn, hs])
            have E : fitF (fl (n * 1073741824) d) (ce (n * 1073741824) d) = fitF (-m) (-m) := by rw [E1, E2]; simp [hr] <;> (congr 1; omega)
            have FI := fun w => fit4_any (-m) (-m) w (by omega)
            obtain ⟨p, q, k, e⟩ := fitF_form (-m) (-m)
            rw [e] at FI E
            replace FI := hidden FI
            replace E := hidden E
            clear e E1 E2
            go_wp2_with (go_at_call 51; refine (FI.out _).mono ?_; rintro e w' ⟨rfl, hb⟩; (try replace hb := below_undrew hb); (try replace hb := below_undrewN hb); obtain ⟨hcell, hfroz⟩ := bcell hb; have hz := hb.size; (try simp at hz); (try (have z6 := Nat.lt_of_lt_of_le z7 hz)); (try (have z7 := Nat.lt_of_lt_of_le z8 hz)); (try (have z8 := Nat.lt_of_lt_of_le z9 hz)); (try (have z9 := Nat.lt_of_lt_of_le (Nat.lt_succ_self _) hz)); (try (have z0 : w.heap.size < w'.heap.size := by omega)); (try (have z1 : w.heap.size + 1 < w'.heap.size := by omega)); (try (have z2 : w.heap.size + 1 + 1 < w'.heap.size := by omega)); (try (have z3 : w.heap.size + 1 + 1 + 1 < w'.heap.size := by omega)); (try (have y1 : w1.heap.size < w'.heap.size := by omega)); (try (have y2 : w2.heap.size < w'.heap.size := by omega)); (try (have y3 : w3.heap.size < w'.heap.size := by omega)); (try (have y4 : w4.heap.size < w'.heap.size := by omega)); (try (have y5 : w5.heap.size < w'.heap.size := by omega)); (try (have y6 : w6.heap.size < w'.heap.size := by omega)))
            exact bodyPost_ret (v := .tuple #[.agg #[.int .i64 (p), .int .i64 (q)], .int .i64 (k)]) (by first | (simp only [results, Try.results21]; go_simp; done) | simp [results, Try.results21, go_sem, *]) rfl ⟨by rw [← hv.out, E.out], by (repeat (first | exact Below.refl _ _ | refine bl_drewN ?_ | refine bl_drew ?_ | refine bl_alloc ?_ _ | refine Below.setCell ?_ (by (first | (simp; done) | (simp; omega) | omega)) _ | refine bl_step (by assumption) ?_))⟩
        · by_cases hs : d < 0
          · obtain ⟨E1, E2⟩ := make_ends hd hI.out true (by simp [hn, hs])
            have E : fitF (fl (n * 1073741824) d) (ce (n * 1073741824) d) = fitF (-m) (-m) := by rw [E1, E2]; simp [hr] <;> (congr 1; omega)
            have FI := fun w => fit4_any (-m) (-m) w (by omega)
            obtain ⟨p, q, k, e⟩ := fitF_form (-m) (-m)
            rw [e] at FI E
            replace FI := hidden FI
            replace E := hidden E
            clear e E1 E2
            go_wp2_with (go_at_call 51; refine (FI.out _).mono ?_; rintro e w' ⟨rfl, hb⟩; (try replace hb := below_undrew hb); (try replace hb := below_undrewN hb); obtain ⟨hcell, hfroz⟩ := bcell hb; have hz := hb.size; (try simp at hz); (try (have z6 := Nat.lt_of_lt_of_le z7 hz)); (try (have z7 := Nat.lt_of_lt_of_le z8 hz)); (try (have z8 := Nat.lt_of_lt_of_le z9 hz)); (try (have z9 := Nat.lt_of_lt_of_le (Nat.lt_succ_self _) hz)); (try (have z0 : w.heap.size < w'.heap.size := by omega)); (try (have z1 : w.heap.size + 1 < w'.heap.size := by omega)); (try (have z2 : w.heap.size + 1 + 1 < w'.heap.size := by omega)); (try (have z3 : w.heap.size + 1 + 1 + 1 < w'.heap.size := by omega)); (try (have y1 : w1.heap.size < w'.heap.size := by omega)); (try (have y2 : w2.heap.size < w'.heap.size := by omega)); (try (have y3 : w3.heap.size < w'.heap.size := by omega)); (try (have y4 : w4.heap.size < w'.heap.size := by omega)); (try (have y5 : w5.heap.size < w'.heap.size := by omega)); (try (have y6 : w6.heap.size < w'.heap.size := by omega)))
            exact bodyPost_ret (v := .tuple #[.agg #[.int .i64 (p), .int .i64 (q)], .int .i64 (k)]) (by first | (simp only [results, Try.results21]; go_simp; done) | simp [results, Try.results21, go_sem, *]) rfl ⟨by rw [← hv.out, E.out], by (repeat (first | exact Below.refl _ _ | refine bl_drewN ?_ | refine bl_drew ?_ | refine bl_alloc ?_ _ | refine Below.setCell ?_ (by (first | (simp; done) | (simp; omega) | omega)) _ | refine bl_step (by assumption) ?_))⟩
          · obtain ⟨E1, E2⟩ := make_ends hd hI.out false (by simp [hn, hs])
            have E : fitF (fl (n * 1073741824) d) (ce (n * 1073741824) d) = fitF (m) (m) := by rw [E1, E2]; simp [hr] <;> (congr 1; omega)
            have FI := fun w => fit4_any (m) (m) w (by omega)
            obtain ⟨p, q, k, e⟩ := fitF_form (m) (m)
            rw [e] at FI E
            replace FI := hidden FI
            replace E := hidden E
            clear e E1 E2
            go_wp2_with (go_at_call 51; refine (FI.out _).mono ?_; rintro e w' ⟨rfl, hb⟩; (try replace hb := below_undrew hb); (try replace hb := below_undrewN hb); obtain ⟨hcell, hfroz⟩ := bcell hb; have hz := hb.size; (try simp at hz); (try (have z6 := Nat.lt_of_lt_of_le z7 hz)); (try (have z7 := Nat.lt_of_lt_of_le z8 hz)); (try (have z8 := Nat.lt_of_lt_of_le z9 hz)); (try (have z9 := Nat.lt_of_lt_of_le (Nat.lt_succ_self _) hz)); (try (have z0 : w.heap.size < w'.heap.size := by omega)); (try (have z1 : w.heap.size + 1 < w'.heap.size := by omega)); (try (have z2 : w.heap.size + 1 + 1 < w'.heap.size := by omega)); (try (have z3 : w.heap.size + 1 + 1 + 1 < w'.heap.size := by omega)); (try (have y1 : w1.heap.size < w'.heap.size := by omega)); (try (have y2 : w2.heap.size < w'.heap.size := by omega)); (try (have y3 : w3.heap.size < w'.heap.size := by omega)); (try (have y4 : w4.heap.size < w'.heap.size := by omega)); (try (have y5 : w5.heap.size < w'.heap.size := by omega)); (try (have y6 : w6.heap.size < w'.heap.size := by omega)))
            exact bodyPost_ret (v := .tuple #[.agg #[.int .i64 (p), .int .i64 (q)], .int .i64 (k)]) (by first | (simp only [results, Try.results21]; go_simp; done) | simp [results, Try.results21, go_sem, *]) rfl ⟨by rw [← hv.out, E.out], by (repeat (first | exact Below.refl _ _ | refine bl_drewN ?_ | refine bl_drew ?_ | refine bl_alloc ?_ _ | refine Below.setCell ?_ (by (first | (simp; done) | (simp; omega) | omega)) _ | refine bl_step (by assumption) ?_))⟩

theorem make4_any (n d : Int) (w : World) (n0 : -9223372036854775808 ≤ n) (n1 : n ≤ 9223372036854775807) (hd : d ≠ 0) (d0 : -9223372036854775808 ≤ d) (d1 : d ≤ 9223372036854775807) :
    Calls Try.prog 21 #[.int .i64 n, .int .i64 d] w fun e w' => e = .returned (fitF (fl (n * 1073741824) d) (ce (n * 1073741824) d)) ∧ Below w.heap.size w w' := by
  have hB : 0 < absI d := by unfold absI; split <;> omega
  have r0 := Int.emod_nonneg (absI n) (Int.ne_of_gt hB)
  rcases Int.lt_trichotomy (absI n / absI d) 2 with h | h | h
  · exact make4_less n d _ w rfl n0 n1 hd d0 d1 h
  · by_cases h2 : absI n % absI d = 0
    · exact make4_two n d _ w rfl n0 n1 hd d0 d1 h h2
    · rw [fitF_no (make_big hd (Or.inr ⟨h, by omega⟩))]; exact make4_big2 n d w n0 n1 hd d0 d1 h (by omega)
  · rw [fitF_no (make_big hd (Or.inl h))]; exact make4_big1 n d w n0 n1 hd d0 d1 h

end Go.Proofs.Ytbglnncejfhlmaa
