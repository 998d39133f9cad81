/- The quotient of a wide integer by an integer, as the code works it out. -/
import Derived.Test.YtjceofmhodcefaaGa
namespace Go.Proofs.Ytjceofmhodcefaa
open Go.RowKit

set_option maxHeartbeats 1000000 in
theorem quo_big0 (a b d p q D : Int) (up n : Bool) (w : World) (h : wideB a b = true) (hd : d ≠ 0) (d1 : -9223372036854775808 ≤ d) (d2 : d ≤ 9223372036854775807)
    (hn : n = decide (a < 0)) (hp : absI (a * 1152921504606846976 + b) / 18446744073709551616 = p) (hq : absI (a * 1152921504606846976 + b) % 18446744073709551616 = q) (hD : absI d = D) (hc : D ≤ p) :
    Calls Try.prog 73 #[.agg #[.int .i64 (a), .int .i64 (b)], .int .i64 d, .bool up] w fun e w' => e = .returned (.tuple #[.int .i64 0, .int .i64 5]) ∧ Below w.heap.size w w' := by
  have S := fun w => sizeof_walk a b p q n w h hn hp hq
  have A := fun w => abs_any d w d1 d2
  rw [hD] at A
  have hz : (d == 0) = false := by simpa using hd
  replace S := hidden S
  replace A := hidden A
  clear hn hp hq hD hd
  go_enter Try.func73, Try.ntmps73
  go_wp2_with (first | (go_at_call 71; refine (wvalid_any _ _ _).mono ?_; rintro e w' ⟨rfl, hb⟩; (try replace hb := below_undrew hb); (try replace hb := below_undrewN hb); obtain ⟨hcell, hfroz⟩ := bcell hb; have hz := hb.size; (try simp at hz); (try (have z6 := Nat.lt_of_lt_of_le z7 hz)); (try (have z7 := Nat.lt_of_lt_of_le z8 hz)); (try (have z8 := Nat.lt_of_lt_of_le z9 hz)); (try (have z9 := Nat.lt_of_lt_of_le (Nat.lt_succ_self _) hz)); (try (have z0 : w.heap.size < w'.heap.size := by omega)); (try (have z1 : w.heap.size + 1 < w'.heap.size := by omega)); (try (have z2 : w.heap.size + 1 + 1 < w'.heap.size := by omega)); (try (have z3 : w.heap.size + 1 + 1 + 1 < w'.heap.size := by omega)); (try (have y1 : w1.heap.size < w'.heap.size := by omega)); (try (have y2 : w2.heap.size < w'.heap.size := by omega)); (try (have y3 : w3.heap.size < w'.heap.size := by omega)); (try (have y4 : w4.heap.size < w'.heap.size := by omega)); (try (have y5 : w5.heap.size < w'.heap.size := by omega)); (try (have y6 : w6.heap.size < w'.heap.size := by omega))) | (go_at_call 77; refine (S.out _).mono ?_; rintro e w' ⟨rfl, hb⟩; (try replace hb := below_undrew hb); (try replace hb := below_undrewN hb); obtain ⟨hcell, hfroz⟩ := bcell hb; have hz := hb.size; (try simp at hz); (try (have z6 := Nat.lt_of_lt_of_le z7 hz)); (try (have z7 := Nat.lt_of_lt_of_le z8 hz)); (try (have z8 := Nat.lt_of_lt_of_le z9 hz)); (try (have z9 := Nat.lt_of_lt_of_le (Nat.lt_succ_self _) hz)); (try (have z0 : w.heap.size < w'.heap.size := by omega)); (try (have z1 : w.heap.size + 1 < w'.heap.size := by omega)); (try (have z2 : w.heap.size + 1 + 1 < w'.heap.size := by omega)); (try (have z3 : w.heap.size + 1 + 1 + 1 < w'.heap.size := by omega)); (try (have y1 : w1.heap.size < w'.heap.size := by omega)); (try (have y2 : w2.heap.size < w'.heap.size := by omega)); (try (have y3 : w3.heap.size < w'.heap.size := by omega)); (try (have y4 : w4.heap.size < w'.heap.size := by omega)); (try (have y5 : w5.heap.size < w'.heap.size := by omega)); (try (have y6 : w6.heap.size < w'.heap.size := by omega))) | (go_at_call 69; refine (A.out _).mono ?_; rintro e w' ⟨rfl, rfl⟩))
  go_ret2
  exact ⟨rfl, by (repeat (first | exact Below.refl _ _ | refine bl_drewN ?_ | refine bl_drew ?_ | refine bl_alloc ?_ _ | refine Below.setCell ?_ (by (first | (simp; done) | (simp; omega) | omega)) _ | refine bl_step (by assumption) ?_))⟩

set_option maxHeartbeats 1000000 in
theorem quo_dpzf (a b d p q D Q R : Int) (n : Bool) (w : World) (h : wideB a b = true) (hd : d ≠ 0) (d1 : -9223372036854775808 ≤ d) (d2 : d ≤ 9223372036854775807)
    (hn : n = decide (a < 0)) (hp : absI (a * 1152921504606846976 + b) / 18446744073709551616 = p) (hq : absI (a * 1152921504606846976 + b) % 18446744073709551616 = q) (hD : absI d = D) (hc : p < D)
    (hneg : (n != decide (d < 0)) = false) (hQ : (p * 18446744073709551616 + q) / D = Q) (hR : (p * 18446744073709551616 + q) % D = R) (hr : R ≤ 0) (hf : Q < 9223372036854775808) (_hm : Q ≤ 18446744073709551615) :
    Calls Try.prog 73 #[.agg #[.int .i64 (a), .int .i64 (b)], .int .i64 d, .bool false] w fun e w' => e = .returned (.tuple #[.int .i64 (Q), .int .i64 0]) ∧ Below w.heap.size w w' := by
  have S := fun w => sizeof_walk a b p q n w h hn hp hq
  have A := fun w => abs_any d w d1 d2
  rw [hD] at A
  have D0 : D ≤ 9223372036854775808 := by rw [← hD]; exact (absI_bd d d1 d2).2
  have p0 : 0 ≤ p := by rw [← hp]; exact Int.ediv_nonneg (absI_nn _) (by omega)
  have q0 : 0 ≤ q := by rw [← hq]; exact Int.emod_nonneg _ (by omega)
  have q1 : q ≤ 18446744073709551615 := by
    have := Int.emod_lt_of_pos (absI (a * 1152921504606846976 + b)) (show (0 : Int) < 18446744073709551616 by omega)
    omega
  have V := fun w => div64_any p q D w p0 hc (by omega) q0 q1
  rw [hQ, hR] at V
  have Q0 : 0 ≤ Q := by rw [← hQ]; exact Int.ediv_nonneg (by omega) (by omega)
  have hz : (d == 0) = false := by simpa using hd
  replace S := hidden S
  replace A := hidden A
  replace V := hidden V
  clear hn hp hq hD hd hQ hR
  obtain ⟨sd, hsd⟩ : ∃ sd, decide (d < 0) = sd := ⟨_, rfl⟩
  rw [hsd] at hneg
  cases n <;> cases sd <;> simp only [Bool.true_bne, Bool.false_bne, Bool.not_true, Bool.not_false, Bool.true_eq_false] at hneg
  all_goals
   go_enter Try.func73, Try.ntmps73
   go_wp2_with (first | (go_at_call 71; refine (wvalid_any _ _ _).mono ?_; rintro e w' ⟨rfl, hb⟩; (try replace hb := below_undrew hb); (try replace hb := below_undrewN hb); obtain ⟨hcell, hfroz⟩ := bcell hb; have hz := hb.size; (try simp at hz); (try (have z6 := Nat.lt_of_lt_of_le z7 hz)); (try (have z7 := Nat.lt_of_lt_of_le z8 hz)); (try (have z8 := Nat.lt_of_lt_of_le z9 hz)); (try (have z9 := Nat.lt_of_lt_of_le (Nat.lt_succ_self _) hz)); (try (have z0 : w.heap.size < w'.heap.size := by omega)); (try (have z1 : w.heap.size + 1 < w'.heap.size := by omega)); (try (have z2 : w.heap.size + 1 + 1 < w'.heap.size := by omega)); (try (have z3 : w.heap.size + 1 + 1 + 1 < w'.heap.size := by omega)); (try (have y1 : w1.heap.size < w'.heap.size := by omega)); (try (have y2 : w2.heap.size < w'.heap.size := by omega)); (try (have y3 : w3.heap.size < w'.heap.size := by omega)); (try (have y4 : w4.heap.size < w'.heap.size := by omega)); (try (have y5 : w5.heap.size < w'.heap.size := by omega)); (try (have y6 : w6.heap.size < w'.heap.size := by omega))) | (go_at_call 77; refine (S.out _).mono ?_; rintro e w' ⟨rfl, hb⟩; (try replace hb := below_undrew hb); (try replace hb := below_undrewN hb); obtain ⟨hcell, hfroz⟩ := bcell hb; have hz := hb.size; (try simp at hz); (try (have z6 := Nat.lt_of_lt_of_le z7 hz)); (try (have z7 := Nat.lt_of_lt_of_le z8 hz)); (try (have z8 := Nat.lt_of_lt_of_le z9 hz)); (try (have z9 := Nat.lt_of_lt_of_le (Nat.lt_succ_self _) hz)); (try (have z0 : w.heap.size < w'.heap.size := by omega)); (try (have z1 : w.heap.size + 1 < w'.heap.size := by omega)); (try (have z2 : w.heap.size + 1 + 1 < w'.heap.size := by omega)); (try (have z3 : w.heap.size + 1 + 1 + 1 < w'.heap.size := by omega)); (try (have y1 : w1.heap.size < w'.heap.size := by omega)); (try (have y2 : w2.heap.size < w'.heap.size := by omega)); (try (have y3 : w3.heap.size < w'.heap.size := by omega)); (try (have y4 : w4.heap.size < w'.heap.size := by omega)); (try (have y5 : w5.heap.size < w'.heap.size := by omega)); (try (have y6 : w6.heap.size < w'.heap.size := by omega)); obtain ⟨w1, rfl⟩ : ∃ v, v = w' := ⟨_, rfl⟩) | (go_at_call 69; refine (A.out _).mono ?_; rintro e w' ⟨rfl, rfl⟩) | (go_at_call 78; refine (V.out _).mono ?_; rintro e w' ⟨rfl, nd, rfl⟩))
   go_ret2
   first | exact ⟨rfl, by (repeat (first | exact Below.refl _ _ | refine bl_drewN ?_ | refine bl_drew ?_ | refine bl_alloc ?_ _ | refine Below.setCell ?_ (by (first | (simp; done) | (simp; omega) | omega)) _ | refine bl_step (by assumption) ?_))⟩ | exact ⟨ret_two ⟨by (simp only [wrap64, IntKind.wrap_u64]; omega), rfl⟩, by (repeat (first | exact Below.refl _ _ | refine bl_drewN ?_ | refine bl_drew ?_ | refine bl_alloc ?_ _ | refine Below.setCell ?_ (by (first | (simp; done) | (simp; omega) | omega)) _ | refine bl_step (by assumption) ?_))⟩

set_option maxHeartbeats 1000000 in
theorem quo_dpzx (a b d p q D Q R : Int) (n : Bool) (w : World) (h : wideB a b = true) (hd : d ≠ 0) (d1 : -9223372036854775808 ≤ d) (d2 : d ≤ 9223372036854775807)
    (hn : n = decide (a < 0)) (hp : absI (a * 1152921504606846976 + b) / 18446744073709551616 = p) (hq : absI (a * 1152921504606846976 + b) % 18446744073709551616 = q) (hD : absI d = D) (hc : p < D)
    (hneg : (n != decide (d < 0)) = false) (hQ : (p * 18446744073709551616 + q) / D = Q) (hR : (p * 18446744073709551616 + q) % D = R) (hr : R ≤ 0) (hf : 9223372036854775808 ≤ Q) (hm : Q ≤ 18446744073709551615) :
    Calls Try.prog 73 #[.agg #[.int .i64 (a), .int .i64 (b)], .int .i64 d, .bool false] w fun e w' => e = .returned (.tuple #[.int .i64 (0), .int .i64 5]) ∧ Below w.heap.size w w' := by
  have S := fun w => sizeof_walk a b p q n w h hn hp hq
  have A := fun w => abs_any d w d1 d2
  rw [hD] at A
  have D0 : D ≤ 9223372036854775808 := by rw [← hD]; exact (absI_bd d d1 d2).2
  have p0 : 0 ≤ p := by rw [← hp]; exact Int.ediv_nonneg (absI_nn _) (by omega)
  have q0 : 0 ≤ q := by rw [← hq]; exact Int.emod_nonneg _ (by omega)
  have q1 : q ≤ 18446744073709551615 := by
    have := Int.emod_lt_of_pos (absI (a * 1152921504606846976 + b)) (show (0 : Int) < 18446744073709551616 by omega)
    omega
  have V := fun w => div64_any p q D w p0 hc (by omega) q0 q1
  rw [hQ, hR] at V
  have Q0 : 0 ≤ Q := by rw [← hQ]; exact Int.ediv_nonneg (by omega) (by omega)
  have hz : (d == 0) = false := by simpa using hd
  replace S := hidden S
  replace A := hidden A
  replace V := hidden V
  clear hn hp hq hD hd hQ hR
  obtain ⟨sd, hsd⟩ : ∃ sd, decide (d < 0) = sd := ⟨_, rfl⟩
  rw [hsd] at hneg
  cases n <;> cases sd <;> simp only [Bool.true_bne, Bool.false_bne, Bool.not_true, Bool.not_false, Bool.true_eq_false] at hneg
  all_goals
   go_enter Try.func73, Try.ntmps73
   go_wp2_with (first | (go_at_call 71; refine (wvalid_any _ _ _).mono ?_; rintro e w' ⟨rfl, hb⟩; (try replace hb := below_undrew hb); (try replace hb := below_undrewN hb); obtain ⟨hcell, hfroz⟩ := bcell hb; have hz := hb.size; (try simp at hz); (try (have z6 := Nat.lt_of_lt_of_le z7 hz)); (try (have z7 := Nat.lt_of_lt_of_le z8 hz)); (try (have z8 := Nat.lt_of_lt_of_le z9 hz)); (try (have z9 := Nat.lt_of_lt_of_le (Nat.lt_succ_self _) hz)); (try (have z0 : w.heap.size < w'.heap.size := by omega)); (try (have z1 : w.heap.size + 1 < w'.heap.size := by omega)); (try (have z2 : w.heap.size + 1 + 1 < w'.heap.size := by omega)); (try (have z3 : w.heap.size + 1 + 1 + 1 < w'.heap.size := by omega)); (try (have y1 : w1.heap.size < w'.heap.size := by omega)); (try (have y2 : w2.heap.size < w'.heap.size := by omega)); (try (have y3 : w3.heap.size < w'.heap.size := by omega)); (try (have y4 : w4.heap.size < w'.heap.size := by omega)); (try (have y5 : w5.heap.size < w'.heap.size := by omega)); (try (have y6 : w6.heap.size < w'.heap.size := by omega))) | (go_at_call 77; refine (S.out _).mono ?_; rintro e w' ⟨rfl, hb⟩; (try replace hb := below_undrew hb); (try replace hb := below_undrewN hb); obtain ⟨hcell, hfroz⟩ := bcell hb; have hz := hb.size; (try simp at hz); (try (have z6 := Nat.lt_of_lt_of_le z7 hz)); (try (have z7 := Nat.lt_of_lt_of_le z8 hz)); (try (have z8 := Nat.lt_of_lt_of_le z9 hz)); (try (have z9 := Nat.lt_of_lt_of_le (Nat.lt_succ_self _) hz)); (try (have z0 : w.heap.size < w'.heap.size := by omega)); (try (have z1 : w.heap.size + 1 < w'.heap.size := by omega)); (try (have z2 : w.heap.size + 1 + 1 < w'.heap.size := by omega)); (try (have z3 : w.heap.size + 1 + 1 + 1 < w'.heap.size := by omega)); (try (have y1 : w1.heap.size < w'.heap.size := by omega)); (try (have y2 : w2.heap.size < w'.heap.size := by omega)); (try (have y3 : w3.heap.size < w'.heap.size := by omega)); (try (have y4 : w4.heap.size < w'.heap.size := by omega)); (try (have y5 : w5.heap.size < w'.heap.size := by omega)); (try (have y6 : w6.heap.size < w'.heap.size := by omega)); obtain ⟨w1, rfl⟩ : ∃ v, v = w' := ⟨_, rfl⟩) | (go_at_call 69; refine (A.out _).mono ?_; rintro e w' ⟨rfl, rfl⟩) | (go_at_call 78; refine (V.out _).mono ?_; rintro e w' ⟨rfl, nd, rfl⟩))
   go_ret2
   first | exact ⟨rfl, by (repeat (first | exact Below.refl _ _ | refine bl_drewN ?_ | refine bl_drew ?_ | refine bl_alloc ?_ _ | refine Below.setCell ?_ (by (first | (simp; done) | (simp; omega) | omega)) _ | refine bl_step (by assumption) ?_))⟩ | exact ⟨ret_two ⟨by (simp only [wrap64, IntKind.wrap_u64]; omega), rfl⟩, by (repeat (first | exact Below.refl _ _ | refine bl_drewN ?_ | refine bl_drew ?_ | refine bl_alloc ?_ _ | refine Below.setCell ?_ (by (first | (simp; done) | (simp; omega) | omega)) _ | refine bl_step (by assumption) ?_))⟩

set_option maxHeartbeats 1000000 in
theorem quo_dprf (a b d p q D Q R : Int) (n : Bool) (w : World) (h : wideB a b = true) (hd : d ≠ 0) (d1 : -9223372036854775808 ≤ d) (d2 : d ≤ 9223372036854775807)
    (hn : n = decide (a < 0)) (hp : absI (a * 1152921504606846976 + b) / 18446744073709551616 = p) (hq : absI (a * 1152921504606846976 + b) % 18446744073709551616 = q) (hD : absI d = D) (hc : p < D)
    (hneg : (n != decide (d < 0)) = false) (hQ : (p * 18446744073709551616 + q) / D = Q) (hR : (p * 18446744073709551616 + q) % D = R) (hr : 0 < R) (hf : Q < 9223372036854775808) (_hm : Q ≤ 18446744073709551615) :
    Calls Try.prog 73 #[.agg #[.int .i64 (a), .int .i64 (b)], .int .i64 d, .bool false] w fun e w' => e = .returned (.tuple #[.int .i64 (Q), .int .i64 0]) ∧ Below w.heap.size w w' := by
  have S := fun w => sizeof_walk a b p q n w h hn hp hq
  have A := fun w => abs_any d w d1 d2
  rw [hD] at A
  have D0 : D ≤ 9223372036854775808 := by rw [← hD]; exact (absI_bd d d1 d2).2
  have p0 : 0 ≤ p := by rw [← hp]; exact Int.ediv_nonneg (absI_nn _) (by omega)
  have q0 : 0 ≤ q := by rw [← hq]; exact Int.emod_nonneg _ (by omega)
  have q1 : q ≤ 18446744073709551615 := by
    have := Int.emod_lt_of_pos (absI (a * 1152921504606846976 + b)) (show (0 : Int) < 18446744073709551616 by omega)
    omega
  have V := fun w => div64_any p q D w p0 hc (by omega) q0 q1
  rw [hQ, hR] at V
  have Q0 : 0 ≤ Q := by rw [← hQ]; exact Int.ediv_nonneg (by omega) (by omega)
  have hz : (d == 0) = false := by simpa using hd
  replace S := hidden S
  replace A := hidden A
  replace V := hidden V
  clear hn hp hq hD hd hQ hR
  obtain ⟨sd, hsd⟩ : ∃ sd, decide (d < 0) = sd := ⟨_, rfl⟩
  rw [hsd] at hneg
  cases n <;> cases sd <;> simp only [Bool.true_bne, Bool.false_bne, Bool.not_true, Bool.not_false, Bool.true_eq_false] at hneg
  all_goals
   go_enter Try.func73, Try.ntmps73
   go_wp2_with (first | (go_at_call 71; refine (wvalid_any _ _ _).mono ?_; rintro e w' ⟨rfl, hb⟩; (try replace hb := below_undrew hb); (try replace hb := below_undrewN hb); obtain ⟨hcell, hfroz⟩ := bcell hb; have hz := hb.size; (try simp at hz); (try (have z6 := Nat.lt_of_lt_of_le z7 hz)); (try (have z7 := Nat.lt_of_lt_of_le z8 hz)); (try (have z8 := Nat.lt_of_lt_of_le z9 hz)); (try (have z9 := Nat.lt_of_lt_of_le (Nat.lt_succ_self _) hz)); (try (have z0 : w.heap.size < w'.heap.size := by omega)); (try (have z1 : w.heap.size + 1 < w'.heap.size := by omega)); (try (have z2 : w.heap.size + 1 + 1 < w'.heap.size := by omega)); (try (have z3 : w.heap.size + 1 + 1 + 1 < w'.heap.size := by omega)); (try (have y1 : w1.heap.size < w'.heap.size := by omega)); (try (have y2 : w2.heap.size < w'.heap.size := by omega)); (try (have y3 : w3.heap.size < w'.heap.size := by omega)); (try (have y4 : w4.heap.size < w'.heap.size := by omega)); (try (have y5 : w5.heap.size < w'.heap.size := by omega)); (try (have y6 : w6.heap.size < w'.heap.size := by omega))) | (go_at_call 77; refine (S.out _).mono ?_; rintro e w' ⟨rfl, hb⟩; (try replace hb := below_undrew hb); (try replace hb := below_undrewN hb); obtain ⟨hcell, hfroz⟩ := bcell hb; have hz := hb.size; (try simp at hz); (try (have z6 := Nat.lt_of_lt_of_le z7 hz)); (try (have z7 := Nat.lt_of_lt_of_le z8 hz)); (try (have z8 := Nat.lt_of_lt_of_le z9 hz)); (try (have z9 := Nat.lt_of_lt_of_le (Nat.lt_succ_self _) hz)); (try (have z0 : w.heap.size < w'.heap.size := by omega)); (try (have z1 : w.heap.size + 1 < w'.heap.size := by omega)); (try (have z2 : w.heap.size + 1 + 1 < w'.heap.size := by omega)); (try (have z3 : w.heap.size + 1 + 1 + 1 < w'.heap.size := by omega)); (try (have y1 : w1.heap.size < w'.heap.size := by omega)); (try (have y2 : w2.heap.size < w'.heap.size := by omega)); (try (have y3 : w3.heap.size < w'.heap.size := by omega)); (try (have y4 : w4.heap.size < w'.heap.size := by omega)); (try (have y5 : w5.heap.size < w'.heap.size := by omega)); (try (have y6 : w6.heap.size < w'.heap.size := by omega)); obtain ⟨w1, rfl⟩ : ∃ v, v = w' := ⟨_, rfl⟩) | (go_at_call 69; refine (A.out _).mono ?_; rintro e w' ⟨rfl, rfl⟩) | (go_at_call 78; refine (V.out _).mono ?_; rintro e w' ⟨rfl, nd, rfl⟩))
   go_ret2
   first | exact ⟨rfl, by (repeat (first | exact Below.refl _ _ | refine bl_drewN ?_ | refine bl_drew ?_ | refine bl_alloc ?_ _ | refine Below.setCell ?_ (by (first | (simp; done) | (simp; omega) | omega)) _ | refine bl_step (by assumption) ?_))⟩ | exact ⟨ret_two ⟨by (simp only [wrap64, IntKind.wrap_u64]; omega), rfl⟩, by (repeat (first | exact Below.refl _ _ | refine bl_drewN ?_ | refine bl_drew ?_ | refine bl_alloc ?_ _ | refine Below.setCell ?_ (by (first | (simp; done) | (simp; omega) | omega)) _ | refine bl_step (by assumption) ?_))⟩

set_option maxHeartbeats 1000000 in
theorem quo_dprx (a b d p q D Q R : Int) (n : Bool) (w : World) (h : wideB a b = true) (hd : d ≠ 0) (d1 : -9223372036854775808 ≤ d) (d2 : d ≤ 9223372036854775807)
    (hn : n = decide (a < 0)) (hp : absI (a * 1152921504606846976 + b) / 18446744073709551616 = p) (hq : absI (a * 1152921504606846976 + b) % 18446744073709551616 = q) (hD : absI d = D) (hc : p < D)
    (hneg : (n != decide (d < 0)) = false) (hQ : (p * 18446744073709551616 + q) / D = Q) (hR : (p * 18446744073709551616 + q) % D = R) (hr : 0 < R) (hf : 9223372036854775808 ≤ Q) (hm : Q ≤ 18446744073709551615) :
    Calls Try.prog 73 #[.agg #[.int .i64 (a), .int .i64 (b)], .int .i64 d, .bool false] w fun e w' => e = .returned (.tuple #[.int .i64 (0), .int .i64 5]) ∧ Below w.heap.size w w' := by
  have S := fun w => sizeof_walk a b p q n w h hn hp hq
  have A := fun w => abs_any d w d1 d2
  rw [hD] at A
  have D0 : D ≤ 9223372036854775808 := by rw [← hD]; exact (absI_bd d d1 d2).2
  have p0 : 0 ≤ p := by rw [← hp]; exact Int.ediv_nonneg (absI_nn _) (by omega)
  have q0 : 0 ≤ q := by rw [← hq]; exact Int.emod_nonneg _ (by omega)
  have q1 : q ≤ 18446744073709551615 := by
    have := Int.emod_lt_of_pos (absI (a * 1152921504606846976 + b)) (show (0 : Int) < 18446744073709551616 by omega)
    omega
  have V := fun w => div64_any p q D w p0 hc (by omega) q0 q1
  rw [hQ, hR] at V
  have Q0 : 0 ≤ Q := by rw [← hQ]; exact Int.ediv_nonneg (by omega) (by omega)
  have hz : (d == 0) = false := by simpa using hd
  replace S := hidden S
  replace A := hidden A
  replace V := hidden V
  clear hn hp hq hD hd hQ hR
  obtain ⟨sd, hsd⟩ : ∃ sd, decide (d < 0) = sd := ⟨_, rfl⟩
  rw [hsd] at hneg
  cases n <;> cases sd <;> simp only [Bool.true_bne, Bool.false_bne, Bool.not_true, Bool.not_false, Bool.true_eq_false] at hneg
  all_goals
   go_enter Try.func73, Try.ntmps73
   go_wp2_with (first | (go_at_call 71; refine (wvalid_any _ _ _).mono ?_; rintro e w' ⟨rfl, hb⟩; (try replace hb := below_undrew hb); (try replace hb := below_undrewN hb); obtain ⟨hcell, hfroz⟩ := bcell hb; have hz := hb.size; (try simp at hz); (try (have z6 := Nat.lt_of_lt_of_le z7 hz)); (try (have z7 := Nat.lt_of_lt_of_le z8 hz)); (try (have z8 := Nat.lt_of_lt_of_le z9 hz)); (try (have z9 := Nat.lt_of_lt_of_le (Nat.lt_succ_self _) hz)); (try (have z0 : w.heap.size < w'.heap.size := by omega)); (try (have z1 : w.heap.size + 1 < w'.heap.size := by omega)); (try (have z2 : w.heap.size + 1 + 1 < w'.heap.size := by omega)); (try (have z3 : w.heap.size + 1 + 1 + 1 < w'.heap.size := by omega)); (try (have y1 : w1.heap.size < w'.heap.size := by omega)); (try (have y2 : w2.heap.size < w'.heap.size := by omega)); (try (have y3 : w3.heap.size < w'.heap.size := by omega)); (try (have y4 : w4.heap.size < w'.heap.size := by omega)); (try (have y5 : w5.heap.size < w'.heap.size := by omega)); (try (have y6 : w6.heap.size < w'.heap.size := by omega))) | (go_at_call 77; refine (S.out _).mono ?_; rintro e w' ⟨rfl, hb⟩; (try replace hb := below_undrew hb); (try replace hb := below_undrewN hb); obtain ⟨hcell, hfroz⟩ := bcell hb; have hz := hb.size; (try simp at hz); (try (have z6 := Nat.lt_of_lt_of_le z7 hz)); (try (have z7 := Nat.lt_of_lt_of_le z8 hz)); (try (have z8 := Nat.lt_of_lt_of_le z9 hz)); (try (have z9 := Nat.lt_of_lt_of_le (Nat.lt_succ_self _) hz)); (try (have z0 : w.heap.size < w'.heap.size := by omega)); (try (have z1 : w.heap.size + 1 < w'.heap.size := by omega)); (try (have z2 : w.heap.size + 1 + 1 < w'.heap.size := by omega)); (try (have z3 : w.heap.size + 1 + 1 + 1 < w'.heap.size := by omega)); (try (have y1 : w1.heap.size < w'.heap.size := by omega)); (try (have y2 : w2.heap.size < w'.heap.size := by omega)); (try (have y3 : w3.heap.size < w'.heap.size := by omega)); (try (have y4 : w4.heap.size < w'.heap.size := by omega)); (try (have y5 : w5.heap.size < w'.heap.size := by omega)); (try (have y6 : w6.heap.size < w'.heap.size := by omega)); obtain ⟨w1, rfl⟩ : ∃ v, v = w' := ⟨_, rfl⟩) | (go_at_call 69; refine (A.out _).mono ?_; rintro e w' ⟨rfl, rfl⟩) | (go_at_call 78; refine (V.out _).mono ?_; rintro e w' ⟨rfl, nd, rfl⟩))
   go_ret2
   first | exact ⟨rfl, by (repeat (first | exact Below.refl _ _ | refine bl_drewN ?_ | refine bl_drew ?_ | refine bl_alloc ?_ _ | refine Below.setCell ?_ (by (first | (simp; done) | (simp; omega) | omega)) _ | refine bl_step (by assumption) ?_))⟩ | exact ⟨ret_two ⟨by (simp only [wrap64, IntKind.wrap_u64]; omega), rfl⟩, by (repeat (first | exact Below.refl _ _ | refine bl_drewN ?_ | refine bl_drew ?_ | refine bl_alloc ?_ _ | refine Below.setCell ?_ (by (first | (simp; done) | (simp; omega) | omega)) _ | refine bl_step (by assumption) ?_))⟩

set_option maxHeartbeats 1000000 in
theorem quo_dnzf (a b d p q D Q R : Int) (n : Bool) (w : World) (h : wideB a b = true) (hd : d ≠ 0) (d1 : -9223372036854775808 ≤ d) (d2 : d ≤ 9223372036854775807)
    (hn : n = decide (a < 0)) (hp : absI (a * 1152921504606846976 + b) / 18446744073709551616 = p) (hq : absI (a * 1152921504606846976 + b) % 18446744073709551616 = q) (hD : absI d = D) (hc : p < D)
    (hneg : (n != decide (d < 0)) = true) (hQ : (p * 18446744073709551616 + q) / D = Q) (hR : (p * 18446744073709551616 + q) % D = R) (hr : R ≤ 0) (hf : Q ≤ 9223372036854775808) (_hm : Q ≤ 18446744073709551615) :
    Calls Try.prog 73 #[.agg #[.int .i64 (a), .int .i64 (b)], .int .i64 d, .bool false] w fun e w' => e = .returned (.tuple #[.int .i64 (-(Q)), .int .i64 0]) ∧ Below w.heap.size w w' := by
  have S := fun w => sizeof_walk a b p q n w h hn hp hq
  have A := fun w => abs_any d w d1 d2
  rw [hD] at A
  have D0 : D ≤ 9223372036854775808 := by rw [← hD]; exact (absI_bd d d1 d2).2
  have p0 : 0 ≤ p := by rw [← hp]; exact Int.ediv_nonneg (absI_nn _) (by omega)
  have q0 : 0 ≤ q := by rw [← hq]; exact Int.emod_nonneg _ (by omega)
  have q1 : q ≤ 18446744073709551615 := by
    have := Int.emod_lt_of_pos (absI (a * 1152921504606846976 + b)) (show (0 : Int) < 18446744073709551616 by omega)
    omega
  have V := fun w => div64_any p q D w p0 hc (by omega) q0 q1
  rw [hQ, hR] at V
  have Q0 : 0 ≤ Q := by rw [← hQ]; exact Int.ediv_nonneg (by omega) (by omega)
  have hz : (d == 0) = false := by simpa using hd
  replace S := hidden S
  replace A := hidden A
  replace V := hidden V
  clear hn hp hq hD hd hQ hR
  obtain ⟨sd, hsd⟩ : ∃ sd, decide (d < 0) = sd := ⟨_, rfl⟩
  rw [hsd] at hneg
  cases n <;> cases sd <;> simp only [Bool.true_bne, Bool.false_bne, Bool.not_true, Bool.not_false, Bool.false_eq_true] at hneg
  all_goals
   go_enter Try.func73, Try.ntmps73
   go_wp2_with (first | (go_at_call 71; refine (wvalid_any _ _ _).mono ?_; rintro e w' ⟨rfl, hb⟩; (try replace hb := below_undrew hb); (try replace hb := below_undrewN hb); obtain ⟨hcell, hfroz⟩ := bcell hb; have hz := hb.size; (try simp at hz); (try (have z6 := Nat.lt_of_lt_of_le z7 hz)); (try (have z7 := Nat.lt_of_lt_of_le z8 hz)); (try (have z8 := Nat.lt_of_lt_of_le z9 hz)); (try (have z9 := Nat.lt_of_lt_of_le (Nat.lt_succ_self _) hz)); (try (have z0 : w.heap.size < w'.heap.size := by omega)); (try (have z1 : w.heap.size + 1 < w'.heap.size := by omega)); (try (have z2 : w.heap.size + 1 + 1 < w'.heap.size := by omega)); (try (have z3 : w.heap.size + 1 + 1 + 1 < w'.heap.size := by omega)); (try (have y1 : w1.heap.size < w'.heap.size := by omega)); (try (have y2 : w2.heap.size < w'.heap.size := by omega)); (try (have y3 : w3.heap.size < w'.heap.size := by omega)); (try (have y4 : w4.heap.size < w'.heap.size := by omega)); (try (have y5 : w5.heap.size < w'.heap.size := by omega)); (try (have y6 : w6.heap.size < w'.heap.size := by omega))) | (go_at_call 77; refine (S.out _).mono ?_; rintro e w' ⟨rfl, hb⟩; (try replace hb := below_undrew hb); (try replace hb := below_undrewN hb); obtain ⟨hcell, hfroz⟩ := bcell hb; have hz := hb.size; (try simp at hz); (try (have z6 := Nat.lt_of_lt_of_le z7 hz)); (try (have z7 := Nat.lt_of_lt_of_le z8 hz)); (try (have z8 := Nat.lt_of_lt_of_le z9 hz)); (try (have z9 := Nat.lt_of_lt_of_le (Nat.lt_succ_self _) hz)); (try (have z0 : w.heap.size < w'.heap.size := by omega)); (try (have z1 : w.heap.size + 1 < w'.heap.size := by omega)); (try (have z2 : w.heap.size + 1 + 1 < w'.heap.size := by omega)); (try (have z3 : w.heap.size + 1 + 1 + 1 < w'.heap.size := by omega)); (try (have y1 : w1.heap.size < w'.heap.size := by omega)); (try (have y2 : w2.heap.size < w'.heap.size := by omega)); (try (have y3 : w3.heap.size < w'.heap.size := by omega)); (try (have y4 : w4.heap.size < w'.heap.size := by omega)); (try (have y5 : w5.heap.size < w'.heap.size := by omega)); (try (have y6 : w6.heap.size < w'.heap.size := by omega)); obtain ⟨w1, rfl⟩ : ∃ v, v = w' := ⟨_, rfl⟩) | (go_at_call 69; refine (A.out _).mono ?_; rintro e w' ⟨rfl, rfl⟩) | (go_at_call 78; refine (V.out _).mono ?_; rintro e w' ⟨rfl, nd, rfl⟩))
   go_ret2
   first | exact ⟨rfl, by (repeat (first | exact Below.refl _ _ | refine bl_drewN ?_ | refine bl_drew ?_ | refine bl_alloc ?_ _ | refine Below.setCell ?_ (by (first | (simp; done) | (simp; omega) | omega)) _ | refine bl_step (by assumption) ?_))⟩ | exact ⟨ret_two ⟨by (simp only [wrap64, IntKind.wrap_u64]; omega), rfl⟩, by (repeat (first | exact Below.refl _ _ | refine bl_drewN ?_ | refine bl_drew ?_ | refine bl_alloc ?_ _ | refine Below.setCell ?_ (by (first | (simp; done) | (simp; omega) | omega)) _ | refine bl_step (by assumption) ?_))⟩

set_option maxHeartbeats 1000000 in
theorem quo_dnzx (a b d p q D Q R : Int) (n : Bool) (w : World) (h : wideB a b = true) (hd : d ≠ 0) (d1 : -9223372036854775808 ≤ d) (d2 : d ≤ 9223372036854775807)
    (hn : n = decide (a < 0)) (hp : absI (a * 1152921504606846976 + b) / 18446744073709551616 = p) (hq : absI (a * 1152921504606846976 + b) % 18446744073709551616 = q) (hD : absI d = D) (hc : p < D)
    (hneg : (n != decide (d < 0)) = true) (hQ : (p * 18446744073709551616 + q) / D = Q) (hR : (p * 18446744073709551616 + q) % D = R) (hr : R ≤ 0) (hf : 9223372036854775808 < Q) (hm : Q ≤ 18446744073709551615) :
    Calls Try.prog 73 #[.agg #[.int .i64 (a), .int .i64 (b)], .int .i64 d, .bool false] w fun e w' => e = .returned (.tuple #[.int .i64 (0), .int .i64 5]) ∧ Below w.heap.size w w' := by
  have S := fun w => sizeof_walk a b p q n w h hn hp hq
  have A := fun w => abs_any d w d1 d2
  rw [hD] at A
  have D0 : D ≤ 9223372036854775808 := by rw [← hD]; exact (absI_bd d d1 d2).2
  have p0 : 0 ≤ p := by rw [← hp]; exact Int.ediv_nonneg (absI_nn _) (by omega)
  have q0 : 0 ≤ q := by rw [← hq]; exact Int.emod_nonneg _ (by omega)
  have q1 : q ≤ 18446744073709551615 := by
    have := Int.emod_lt_of_pos (absI (a * 1152921504606846976 + b)) (show (0 : Int) < 18446744073709551616 by omega)
    omega
  have V := fun w => div64_any p q D w p0 hc (by omega) q0 q1
  rw [hQ, hR] at V
  have Q0 : 0 ≤ Q := by rw [← hQ]; exact Int.ediv_nonneg (by omega) (by omega)
  have hz : (d == 0) = false := by simpa using hd
  replace S := hidden S
  replace A := hidden A
  replace V := hidden V
  clear hn hp hq hD hd hQ hR
  obtain ⟨sd, hsd⟩ : ∃ sd, decide (d < 0) = sd := ⟨_, rfl⟩
  rw [hsd] at hneg
  cases n <;> cases sd <;> simp only [Bool.true_bne, Bool.false_bne, Bool.not_true, Bool.not_false, Bool.false_eq_true] at hneg
  all_goals
   go_enter Try.func73, Try.ntmps73
   go_wp2_with (first | (go_at_call 71; refine (wvalid_any _ _ _).mono ?_; rintro e w' ⟨rfl, hb⟩; (try replace hb := below_undrew hb); (try replace hb := below_undrewN hb); obtain ⟨hcell, hfroz⟩ := bcell hb; have hz := hb.size; (try simp at hz); (try (have z6 := Nat.lt_of_lt_of_le z7 hz)); (try (have z7 := Nat.lt_of_lt_of_le z8 hz)); (try (have z8 := Nat.lt_of_lt_of_le z9 hz)); (try (have z9 := Nat.lt_of_lt_of_le (Nat.lt_succ_self _) hz)); (try (have z0 : w.heap.size < w'.heap.size := by omega)); (try (have z1 : w.heap.size + 1 < w'.heap.size := by omega)); (try (have z2 : w.heap.size + 1 + 1 < w'.heap.size := by omega)); (try (have z3 : w.heap.size + 1 + 1 + 1 < w'.heap.size := by omega)); (try (have y1 : w1.heap.size < w'.heap.size := by omega)); (try (have y2 : w2.heap.size < w'.heap.size := by omega)); (try (have y3 : w3.heap.size < w'.heap.size := by omega)); (try (have y4 : w4.heap.size < w'.heap.size := by omega)); (try (have y5 : w5.heap.size < w'.heap.size := by omega)); (try (have y6 : w6.heap.size < w'.heap.size := by omega))) | (go_at_call 77; refine (S.out _).mono ?_; rintro e w' ⟨rfl, hb⟩; (try replace hb := below_undrew hb); (try replace hb := below_undrewN hb); obtain ⟨hcell, hfroz⟩ := bcell hb; have hz := hb.size; (try simp at hz); (try (have z6 := Nat.lt_of_lt_of_le z7 hz)); (try (have z7 := Nat.lt_of_lt_of_le z8 hz)); (try (have z8 := Nat.lt_of_lt_of_le z9 hz)); (try (have z9 := Nat.lt_of_lt_of_le (Nat.lt_succ_self _) hz)); (try (have z0 : w.heap.size < w'.heap.size := by omega)); (try (have z1 : w.heap.size + 1 < w'.heap.size := by omega)); (try (have z2 : w.heap.size + 1 + 1 < w'.heap.size := by omega)); (try (have z3 : w.heap.size + 1 + 1 + 1 < w'.heap.size := by omega)); (try (have y1 : w1.heap.size < w'.heap.size := by omega)); (try (have y2 : w2.heap.size < w'.heap.size := by omega)); (try (have y3 : w3.heap.size < w'.heap.size := by omega)); (try (have y4 : w4.heap.size < w'.heap.size := by omega)); (try (have y5 : w5.heap.size < w'.heap.size := by omega)); (try (have y6 : w6.heap.size < w'.heap.size := by omega)); obtain ⟨w1, rfl⟩ : ∃ v, v = w' := ⟨_, rfl⟩) | (go_at_call 69; refine (A.out _).mono ?_; rintro e w' ⟨rfl, rfl⟩) | (go_at_call 78; refine (V.out _).mono ?_; rintro e w' ⟨rfl, nd, rfl⟩))
   go_ret2
   first | exact ⟨rfl, by (repeat (first | exact Below.refl _ _ | refine bl_drewN ?_ | refine bl_drew ?_ | refine bl_alloc ?_ _ | refine Below.setCell ?_ (by (first | (simp; done) | (simp; omega) | omega)) _ | refine bl_step (by assumption) ?_))⟩ | exact ⟨ret_two ⟨by (simp only [wrap64, IntKind.wrap_u64]; omega), rfl⟩, by (repeat (first | exact Below.refl _ _ | refine bl_drewN ?_ | refine bl_drew ?_ | refine bl_alloc ?_ _ | refine Below.setCell ?_ (by (first | (simp; done) | (simp; omega) | omega)) _ | refine bl_step (by assumption) ?_))⟩

set_option maxHeartbeats 1000000 in
theorem quo_dnrf (a b d p q D Q R : Int) (n : Bool) (w : World) (h : wideB a b = true) (hd : d ≠ 0) (d1 : -9223372036854775808 ≤ d) (d2 : d ≤ 9223372036854775807)
    (hn : n = decide (a < 0)) (hp : absI (a * 1152921504606846976 + b) / 18446744073709551616 = p) (hq : absI (a * 1152921504606846976 + b) % 18446744073709551616 = q) (hD : absI d = D) (hc : p < D)
    (hneg : (n != decide (d < 0)) = true) (hQ : (p * 18446744073709551616 + q) / D = Q) (hR : (p * 18446744073709551616 + q) % D = R) (hr : 0 < R) (hf : Q + 1 ≤ 9223372036854775808) (_hm : Q + 1 ≤ 18446744073709551615) :
    Calls Try.prog 73 #[.agg #[.int .i64 (a), .int .i64 (b)], .int .i64 d, .bool false] w fun e w' => e = .returned (.tuple #[.int .i64 (-(Q + 1)), .int .i64 0]) ∧ Below w.heap.size w w' := by
  have S := fun w => sizeof_walk a b p q n w h hn hp hq
  have A := fun w => abs_any d w d1 d2
  rw [hD] at A
  have D0 : D ≤ 9223372036854775808 := by rw [← hD]; exact (absI_bd d d1 d2).2
  have p0 : 0 ≤ p := by rw [← hp]; exact Int.ediv_nonneg (absI_nn _) (by omega)
  have q0 : 0 ≤ q := by rw [← hq]; exact Int.emod_nonneg _ (by omega)
  have q1 : q ≤ 18446744073709551615 := by
    have := Int.emod_lt_of_pos (absI (a * 1152921504606846976 + b)) (show (0 : Int) < 18446744073709551616 by omega)
    omega
  have V := fun w => div64_any p q D w p0 hc (by omega) q0 q1
  rw [hQ, hR] at V
  have Q0 : 0 ≤ Q := by rw [← hQ]; exact Int.ediv_nonneg (by omega) (by omega)
  have hz : (d == 0) = false := by simpa using hd
  replace S := hidden S
  replace A := hidden A
  replace V := hidden V
  clear hn hp hq hD hd hQ hR
  obtain ⟨sd, hsd⟩ : ∃ sd, decide (d < 0) = sd := ⟨_, rfl⟩
  rw [hsd] at hneg
  cases n <;> cases sd <;> simp only [Bool.true_bne, Bool.false_bne, Bool.not_true, Bool.not_false, Bool.false_eq_true] at hneg
  have hz2 : (Q + 1 == 0) = false := by simp; omega
  all_goals
   go_enter Try.func73, Try.ntmps73
   go_wp2_with (first | (go_at_call 71; refine (wvalid_any _ _ _).mono ?_; rintro e w' ⟨rfl, hb⟩; (try replace hb := below_undrew hb); (try replace hb := below_undrewN hb); obtain ⟨hcell, hfroz⟩ := bcell hb; have hz := hb.size; (try simp at hz); (try (have z6 := Nat.lt_of_lt_of_le z7 hz)); (try (have z7 := Nat.lt_of_lt_of_le z8 hz)); (try (have z8 := Nat.lt_of_lt_of_le z9 hz)); (try (have z9 := Nat.lt_of_lt_of_le (Nat.lt_succ_self _) hz)); (try (have z0 : w.heap.size < w'.heap.size := by omega)); (try (have z1 : w.heap.size + 1 < w'.heap.size := by omega)); (try (have z2 : w.heap.size + 1 + 1 < w'.heap.size := by omega)); (try (have z3 : w.heap.size + 1 + 1 + 1 < w'.heap.size := by omega)); (try (have y1 : w1.heap.size < w'.heap.size := by omega)); (try (have y2 : w2.heap.size < w'.heap.size := by omega)); (try (have y3 : w3.heap.size < w'.heap.size := by omega)); (try (have y4 : w4.heap.size < w'.heap.size := by omega)); (try (have y5 : w5.heap.size < w'.heap.size := by omega)); (try (have y6 : w6.heap.size < w'.heap.size := by omega))) | (go_at_call 77; refine (S.out _).mono ?_; rintro e w' ⟨rfl, hb⟩; (try replace hb := below_undrew hb); (try replace hb := below_undrewN hb); obtain ⟨hcell, hfroz⟩ := bcell hb; have hz := hb.size; (try simp at hz); (try (have z6 := Nat.lt_of_lt_of_le z7 hz)); (try (have z7 := Nat.lt_of_lt_of_le z8 hz)); (try (have z8 := Nat.lt_of_lt_of_le z9 hz)); (try (have z9 := Nat.lt_of_lt_of_le (Nat.lt_succ_self _) hz)); (try (have z0 : w.heap.size < w'.heap.size := by omega)); (try (have z1 : w.heap.size + 1 < w'.heap.size := by omega)); (try (have z2 : w.heap.size + 1 + 1 < w'.heap.size := by omega)); (try (have z3 : w.heap.size + 1 + 1 + 1 < w'.heap.size := by omega)); (try (have y1 : w1.heap.size < w'.heap.size := by omega)); (try (have y2 : w2.heap.size < w'.heap.size := by omega)); (try (have y3 : w3.heap.size < w'.heap.size := by omega)); (try (have y4 : w4.heap.size < w'.heap.size := by omega)); (try (have y5 : w5.heap.size < w'.heap.size := by omega)); (try (have y6 : w6.heap.size < w'.heap.size := by omega)); obtain ⟨w1, rfl⟩ : ∃ v, v = w' := ⟨_, rfl⟩) | (go_at_call 69; refine (A.out _).mono ?_; rintro e w' ⟨rfl, rfl⟩) | (go_at_call 78; refine (V.out _).mono ?_; rintro e w' ⟨rfl, nd, rfl⟩))
   go_ret2
   first | exact ⟨rfl, by (repeat (first | exact Below.refl _ _ | refine bl_drewN ?_ | refine bl_drew ?_ | refine bl_alloc ?_ _ | refine Below.setCell ?_ (by (first | (simp; done) | (simp; omega) | omega)) _ | refine bl_step (by assumption) ?_))⟩ | exact ⟨ret_two ⟨by (simp only [wrap64, IntKind.wrap_u64]; omega), rfl⟩, by (repeat (first | exact Below.refl _ _ | refine bl_drewN ?_ | refine bl_drew ?_ | refine bl_alloc ?_ _ | refine Below.setCell ?_ (by (first | (simp; done) | (simp; omega) | omega)) _ | refine bl_step (by assumption) ?_))⟩

set_option maxHeartbeats 1000000 in
theorem quo_dnrx (a b d p q D Q R : Int) (n : Bool) (w : World) (h : wideB a b = true) (hd : d ≠ 0) (d1 : -9223372036854775808 ≤ d) (d2 : d ≤ 9223372036854775807)
    (hn : n = decide (a < 0)) (hp : absI (a * 1152921504606846976 + b) / 18446744073709551616 = p) (hq : absI (a * 1152921504606846976 + b) % 18446744073709551616 = q) (hD : absI d = D) (hc : p < D)
    (hneg : (n != decide (d < 0)) = true) (hQ : (p * 18446744073709551616 + q) / D = Q) (hR : (p * 18446744073709551616 + q) % D = R) (hr : 0 < R) (hf : 9223372036854775808 < Q + 1) (hm : Q + 1 ≤ 18446744073709551615) :
    Calls Try.prog 73 #[.agg #[.int .i64 (a), .int .i64 (b)], .int .i64 d, .bool false] w fun e w' => e = .returned (.tuple #[.int .i64 (0), .int .i64 5]) ∧ Below w.heap.size w w' := by
  have S := fun w => sizeof_walk a b p q n w h hn hp hq
  have A := fun w => abs_any d w d1 d2
  rw [hD] at A
  have D0 : D ≤ 9223372036854775808 := by rw [← hD]; exact (absI_bd d d1 d2).2
  have p0 : 0 ≤ p := by rw [← hp]; exact Int.ediv_nonneg (absI_nn _) (by omega)
  have q0 : 0 ≤ q := by rw [← hq]; exact Int.emod_nonneg _ (by omega)
  have q1 : q ≤ 18446744073709551615 := by
    have := Int.emod_lt_of_pos (absI (a * 1152921504606846976 + b)) (show (0 : Int) < 18446744073709551616 by omega)
    omega
  have V := fun w => div64_any p q D w p0 hc (by omega) q0 q1
  rw [hQ, hR] at V
  have Q0 : 0 ≤ Q := by rw [← hQ]; exact Int.ediv_nonneg (by omega) (by omega)
  have hz : (d == 0) = false := by simpa using hd
  replace S := hidden S
  replace A := hidden A
  replace V := hidden V
  clear hn hp hq hD hd hQ hR
  obtain ⟨sd, hsd⟩ : ∃ sd, decide (d < 0) = sd := ⟨_, rfl⟩
  rw [hsd] at hneg
  cases n <;> cases sd <;> simp only [Bool.true_bne, Bool.false_bne, Bool.not_true, Bool.not_false, Bool.false_eq_true] at hneg
  have hz2 : (Q + 1 == 0) = false := by simp; omega
  all_goals
   go_enter Try.func73, Try.ntmps73
   go_wp2_with (first | (go_at_call 71; refine (wvalid_any _ _ _).mono ?_; rintro e w' ⟨rfl, hb⟩; (try replace hb := below_undrew hb); (try replace hb := below_undrewN hb); obtain ⟨hcell, hfroz⟩ := bcell hb; have hz := hb.size; (try simp at hz); (try (have z6 := Nat.lt_of_lt_of_le z7 hz)); (try (have z7 := Nat.lt_of_lt_of_le z8 hz)); (try (have z8 := Nat.lt_of_lt_of_le z9 hz)); (try (have z9 := Nat.lt_of_lt_of_le (Nat.lt_succ_self _) hz)); (try (have z0 : w.heap.size < w'.heap.size := by omega)); (try (have z1 : w.heap.size + 1 < w'.heap.size := by omega)); (try (have z2 : w.heap.size + 1 + 1 < w'.heap.size := by omega)); (try (have z3 : w.heap.size + 1 + 1 + 1 < w'.heap.size := by omega)); (try (have y1 : w1.heap.size < w'.heap.size := by omega)); (try (have y2 : w2.heap.size < w'.heap.size := by omega)); (try (have y3 : w3.heap.size < w'.heap.size := by omega)); (try (have y4 : w4.heap.size < w'.heap.size := by omega)); (try (have y5 : w5.heap.size < w'.heap.size := by omega)); (try (have y6 : w6.heap.size < w'.heap.size := by omega))) | (go_at_call 77; refine (S.out _).mono ?_; rintro e w' ⟨rfl, hb⟩; (try replace hb := below_undrew hb); (try replace hb := below_undrewN hb); obtain ⟨hcell, hfroz⟩ := bcell hb; have hz := hb.size; (try simp at hz); (try (have z6 := Nat.lt_of_lt_of_le z7 hz)); (try (have z7 := Nat.lt_of_lt_of_le z8 hz)); (try (have z8 := Nat.lt_of_lt_of_le z9 hz)); (try (have z9 := Nat.lt_of_lt_of_le (Nat.lt_succ_self _) hz)); (try (have z0 : w.heap.size < w'.heap.size := by omega)); (try (have z1 : w.heap.size + 1 < w'.heap.size := by omega)); (try (have z2 : w.heap.size + 1 + 1 < w'.heap.size := by omega)); (try (have z3 : w.heap.size + 1 + 1 + 1 < w'.heap.size := by omega)); (try (have y1 : w1.heap.size < w'.heap.size := by omega)); (try (have y2 : w2.heap.size < w'.heap.size := by omega)); (try (have y3 : w3.heap.size < w'.heap.size := by omega)); (try (have y4 : w4.heap.size < w'.heap.size := by omega)); (try (have y5 : w5.heap.size < w'.heap.size := by omega)); (try (have y6 : w6.heap.size < w'.heap.size := by omega)); obtain ⟨w1, rfl⟩ : ∃ v, v = w' := ⟨_, rfl⟩) | (go_at_call 69; refine (A.out _).mono ?_; rintro e w' ⟨rfl, rfl⟩) | (go_at_call 78; refine (V.out _).mono ?_; rintro e w' ⟨rfl, nd, rfl⟩))
   go_ret2
   first | exact ⟨rfl, by (repeat (first | exact Below.refl _ _ | refine bl_drewN ?_ | refine bl_drew ?_ | refine bl_alloc ?_ _ | refine Below.setCell ?_ (by (first | (simp; done) | (simp; omega) | omega)) _ | refine bl_step (by assumption) ?_))⟩ | exact ⟨ret_two ⟨by (simp only [wrap64, IntKind.wrap_u64]; omega), rfl⟩, by (repeat (first | exact Below.refl _ _ | refine bl_drewN ?_ | refine bl_drew ?_ | refine bl_alloc ?_ _ | refine Below.setCell ?_ (by (first | (simp; done) | (simp; omega) | omega)) _ | refine bl_step (by assumption) ?_))⟩

set_option maxHeartbeats 1000000 in
theorem quo_upzf (a b d p q D Q R : Int) (n : Bool) (w : World) (h : wideB a b = true) (hd : d ≠ 0) (d1 : -9223372036854775808 ≤ d) (d2 : d ≤ 9223372036854775807)
    (hn : n = decide (a < 0)) (hp : absI (a * 1152921504606846976 + b) / 18446744073709551616 = p) (hq : absI (a * 1152921504606846976 + b) % 18446744073709551616 = q) (hD : absI d = D) (hc : p < D)
    (hneg : (n != decide (d < 0)) = false) (hQ : (p * 18446744073709551616 + q) / D = Q) (hR : (p * 18446744073709551616 + q) % D = R) (hr : R ≤ 0) (hf : Q < 9223372036854775808) (_hm : Q ≤ 18446744073709551615) :
    Calls Try.prog 73 #[.agg #[.int .i64 (a), .int .i64 (b)], .int .i64 d, .bool true] w fun e w' => e = .returned (.tuple #[.int .i64 (Q), .int .i64 0]) ∧ Below w.heap.size w w' := by
  have S := fun w => sizeof_walk a b p q n w h hn hp hq
  have A := fun w => abs_any d w d1 d2
  rw [hD] at A
  have D0 : D ≤ 9223372036854775808 := by rw [← hD]; exact (absI_bd d d1 d2).2
  have p0 : 0 ≤ p := by rw [← hp]; exact Int.ediv_nonneg (absI_nn _) (by omega)
  have q0 : 0 ≤ q := by rw [← hq]; exact Int.emod_nonneg _ (by omega)
  have q1 : q ≤ 18446744073709551615 := by
    have := Int.emod_lt_of_pos (absI (a * 1152921504606846976 + b)) (show (0 : Int) < 18446744073709551616 by omega)
    omega
  have V := fun w => div64_any p q D w p0 hc (by omega) q0 q1
  rw [hQ, hR] at V
  have Q0 : 0 ≤ Q := by rw [← hQ]; exact Int.ediv_nonneg (by omega) (by omega)
  have hz : (d == 0) = false := by simpa using hd
  replace S := hidden S
  replace A := hidden A
  replace V := hidden V
  clear hn hp hq hD hd hQ hR
  obtain ⟨sd, hsd⟩ : ∃ sd, decide (d < 0) = sd := ⟨_, rfl⟩
  rw [hsd] at hneg
  cases n <;> cases sd <;> simp only [Bool.true_bne, Bool.false_bne, Bool.not_true, Bool.not_false, Bool.true_eq_false] at hneg
  all_goals
   go_enter Try.func73, Try.ntmps73
   go_wp2_with (first | (go_at_call 71; refine (wvalid_any _ _ _).mono ?_; rintro e w' ⟨rfl, hb⟩; (try replace hb := below_undrew hb); (try replace hb := below_undrewN hb); obtain ⟨hcell, hfroz⟩ := bcell hb; have hz := hb.size; (try simp at hz); (try (have z6 := Nat.lt_of_lt_of_le z7 hz)); (try (have z7 := Nat.lt_of_lt_of_le z8 hz)); (try (have z8 := Nat.lt_of_lt_of_le z9 hz)); (try (have z9 := Nat.lt_of_lt_of_le (Nat.lt_succ_self _) hz)); (try (have z0 : w.heap.size < w'.heap.size := by omega)); (try (have z1 : w.heap.size + 1 < w'.heap.size := by omega)); (try (have z2 : w.heap.size + 1 + 1 < w'.heap.size := by omega)); (try (have z3 : w.heap.size + 1 + 1 + 1 < w'.heap.size := by omega)); (try (have y1 : w1.heap.size < w'.heap.size := by omega)); (try (have y2 : w2.heap.size < w'.heap.size := by omega)); (try (have y3 : w3.heap.size < w'.heap.size := by omega)); (try (have y4 : w4.heap.size < w'.heap.size := by omega)); (try (have y5 : w5.heap.size < w'.heap.size := by omega)); (try (have y6 : w6.heap.size < w'.heap.size := by omega))) | (go_at_call 77; refine (S.out _).mono ?_; rintro e w' ⟨rfl, hb⟩; (try replace hb := below_undrew hb); (try replace hb := below_undrewN hb); obtain ⟨hcell, hfroz⟩ := bcell hb; have hz := hb.size; (try simp at hz); (try (have z6 := Nat.lt_of_lt_of_le z7 hz)); (try (have z7 := Nat.lt_of_lt_of_le z8 hz)); (try (have z8 := Nat.lt_of_lt_of_le z9 hz)); (try (have z9 := Nat.lt_of_lt_of_le (Nat.lt_succ_self _) hz)); (try (have z0 : w.heap.size < w'.heap.size := by omega)); (try (have z1 : w.heap.size + 1 < w'.heap.size := by omega)); (try (have z2 : w.heap.size + 1 + 1 < w'.heap.size := by omega)); (try (have z3 : w.heap.size + 1 + 1 + 1 < w'.heap.size := by omega)); (try (have y1 : w1.heap.size < w'.heap.size := by omega)); (try (have y2 : w2.heap.size < w'.heap.size := by omega)); (try (have y3 : w3.heap.size < w'.heap.size := by omega)); (try (have y4 : w4.heap.size < w'.heap.size := by omega)); (try (have y5 : w5.heap.size < w'.heap.size := by omega)); (try (have y6 : w6.heap.size < w'.heap.size := by omega)); obtain ⟨w1, rfl⟩ : ∃ v, v = w' := ⟨_, rfl⟩) | (go_at_call 69; refine (A.out _).mono ?_; rintro e w' ⟨rfl, rfl⟩) | (go_at_call 78; refine (V.out _).mono ?_; rintro e w' ⟨rfl, nd, rfl⟩))
   go_ret2
   first | exact ⟨rfl, by (repeat (first | exact Below.refl _ _ | refine bl_drewN ?_ | refine bl_drew ?_ | refine bl_alloc ?_ _ | refine Below.setCell ?_ (by (first | (simp; done) | (simp; omega) | omega)) _ | refine bl_step (by assumption) ?_))⟩ | exact ⟨ret_two ⟨by (simp only [wrap64, IntKind.wrap_u64]; omega), rfl⟩, by (repeat (first | exact Below.refl _ _ | refine bl_drewN ?_ | refine bl_drew ?_ | refine bl_alloc ?_ _ | refine Below.setCell ?_ (by (first | (simp; done) | (simp; omega) | omega)) _ | refine bl_step (by assumption) ?_))⟩

set_option maxHeartbeats 1000000 in
theorem quo_upzx (a b d p q D Q R : Int) (n : Bool) (w : World) (h : wideB a b = true) (hd : d ≠ 0) (d1 : -9223372036854775808 ≤ d) (d2 : d ≤ 9223372036854775807)
    (hn : n = decide (a < 0)) (hp : absI (a * 1152921504606846976 + b) / 18446744073709551616 = p) (hq : absI (a * 1152921504606846976 + b) % 18446744073709551616 = q) (hD : absI d = D) (hc : p < D)
    (hneg : (n != decide (d < 0)) = false) (hQ : (p * 18446744073709551616 + q) / D = Q) (hR : (p * 18446744073709551616 + q) % D = R) (hr : R ≤ 0) (hf : 9223372036854775808 ≤ Q) (hm : Q ≤ 18446744073709551615) :
    Calls Try.prog 73 #[.agg #[.int .i64 (a), .int .i64 (b)], .int .i64 d, .bool true] w fun e w' => e = .returned (.tuple #[.int .i64 (0), .int .i64 5]) ∧ Below w.heap.size w w' := by
  have S := fun w => sizeof_walk a b p q n w h hn hp hq
  have A := fun w => abs_any d w d1 d2
  rw [hD] at A
  have D0 : D ≤ 9223372036854775808 := by rw [← hD]; exact (absI_bd d d1 d2).2
  have p0 : 0 ≤ p := by rw [← hp]; exact Int.ediv_nonneg (absI_nn _) (by omega)
  have q0 : 0 ≤ q := by rw [← hq]; exact Int.emod_nonneg _ (by omega)
  have q1 : q ≤ 18446744073709551615 := by
    have := Int.emod_lt_of_pos (absI (a * 1152921504606846976 + b)) (show (0 : Int) < 18446744073709551616 by omega)
    omega
  have V := fun w => div64_any p q D w p0 hc (by omega) q0 q1
  rw [hQ, hR] at V
  have Q0 : 0 ≤ Q := by rw [← hQ]; exact Int.ediv_nonneg (by omega) (by omega)
  have hz : (d == 0) = false := by simpa using hd
  replace S := hidden S
  replace A := hidden A
  replace V := hidden V
  clear hn hp hq hD hd hQ hR
  obtain ⟨sd, hsd⟩ : ∃ sd, decide (d < 0) = sd := ⟨_, rfl⟩
  rw [hsd] at hneg
  cases n <;> cases sd <;> simp only [Bool.true_bne, Bool.false_bne, Bool.not_true, Bool.not_false, Bool.true_eq_false] at hneg
  all_goals
   go_enter Try.func73, Try.ntmps73
   go_wp2_with (first | (go_at_call 71; refine (wvalid_any _ _ _).mono ?_; rintro e w' ⟨rfl, hb⟩; (try replace hb := below_undrew hb); (try replace hb := below_undrewN hb); obtain ⟨hcell, hfroz⟩ := bcell hb; have hz := hb.size; (try simp at hz); (try (have z6 := Nat.lt_of_lt_of_le z7 hz)); (try (have z7 := Nat.lt_of_lt_of_le z8 hz)); (try (have z8 := Nat.lt_of_lt_of_le z9 hz)); (try (have z9 := Nat.lt_of_lt_of_le (Nat.lt_succ_self _) hz)); (try (have z0 : w.heap.size < w'.heap.size := by omega)); (try (have z1 : w.heap.size + 1 < w'.heap.size := by omega)); (try (have z2 : w.heap.size + 1 + 1 < w'.heap.size := by omega)); (try (have z3 : w.heap.size + 1 + 1 + 1 < w'.heap.size := by omega)); (try (have y1 : w1.heap.size < w'.heap.size := by omega)); (try (have y2 : w2.heap.size < w'.heap.size := by omega)); (try (have y3 : w3.heap.size < w'.heap.size := by omega)); (try (have y4 : w4.heap.size < w'.heap.size := by omega)); (try (have y5 : w5.heap.size < w'.heap.size := by omega)); (try (have y6 : w6.heap.size < w'.heap.size := by omega))) | (go_at_call 77; refine (S.out _).mono ?_; rintro e w' ⟨rfl, hb⟩; (try replace hb := below_undrew hb); (try replace hb := below_undrewN hb); obtain ⟨hcell, hfroz⟩ := bcell hb; have hz := hb.size; (try simp at hz); (try (have z6 := Nat.lt_of_lt_of_le z7 hz)); (try (have z7 := Nat.lt_of_lt_of_le z8 hz)); (try (have z8 := Nat.lt_of_lt_of_le z9 hz)); (try (have z9 := Nat.lt_of_lt_of_le (Nat.lt_succ_self _) hz)); (try (have z0 : w.heap.size < w'.heap.size := by omega)); (try (have z1 : w.heap.size + 1 < w'.heap.size := by omega)); (try (have z2 : w.heap.size + 1 + 1 < w'.heap.size := by omega)); (try (have z3 : w.heap.size + 1 + 1 + 1 < w'.heap.size := by omega)); (try (have y1 : w1.heap.size < w'.heap.size := by omega)); (try (have y2 : w2.heap.size < w'.heap.size := by omega)); (try (have y3 : w3.heap.size < w'.heap.size := by omega)); (try (have y4 : w4.heap.size < w'.heap.size := by omega)); (try (have y5 : w5.heap.size < w'.heap.size := by omega)); (try (have y6 : w6.heap.size < w'.heap.size := by omega)); obtain ⟨w1, rfl⟩ : ∃ v, v = w' := ⟨_, rfl⟩) | (go_at_call 69; refine (A.out _).mono ?_; rintro e w' ⟨rfl, rfl⟩) | (go_at_call 78; refine (V.out _).mono ?_; rintro e w' ⟨rfl, nd, rfl⟩))
   go_ret2
   first | exact ⟨rfl, by (repeat (first | exact Below.refl _ _ | refine bl_drewN ?_ | refine bl_drew ?_ | refine bl_alloc ?_ _ | refine Below.setCell ?_ (by (first | (simp; done) | (simp; omega) | omega)) _ | refine bl_step (by assumption) ?_))⟩ | exact ⟨ret_two ⟨by (simp only [wrap64, IntKind.wrap_u64]; omega), rfl⟩, by (repeat (first | exact Below.refl _ _ | refine bl_drewN ?_ | refine bl_drew ?_ | refine bl_alloc ?_ _ | refine Below.setCell ?_ (by (first | (simp; done) | (simp; omega) | omega)) _ | refine bl_step (by assumption) ?_))⟩

set_option maxHeartbeats 1000000 in
theorem quo_uprf (a b d p q D Q R : Int) (n : Bool) (w : World) (h : wideB a b = true) (hd : d ≠ 0) (d1 : -9223372036854775808 ≤ d) (d2 : d ≤ 9223372036854775807)
    (hn : n = decide (a < 0)) (hp : absI (a * 1152921504606846976 + b) / 18446744073709551616 = p) (hq : absI (a * 1152921504606846976 + b) % 18446744073709551616 = q) (hD : absI d = D) (hc : p < D)
    (hneg : (n != decide (d < 0)) = false) (hQ : (p * 18446744073709551616 + q) / D = Q) (hR : (p * 18446744073709551616 + q) % D = R) (hr : 0 < R) (hf : Q + 1 < 9223372036854775808) (_hm : Q + 1 ≤ 18446744073709551615) :
    Calls Try.prog 73 #[.agg #[.int .i64 (a), .int .i64 (b)], .int .i64 d, .bool true] w fun e w' => e = .returned (.tuple #[.int .i64 (Q + 1), .int .i64 0]) ∧ Below w.heap.size w w' := by
  have S := fun w => sizeof_walk a b p q n w h hn hp hq
  have A := fun w => abs_any d w d1 d2
  rw [hD] at A
  have D0 : D ≤ 9223372036854775808 := by rw [← hD]; exact (absI_bd d d1 d2).2
  have p0 : 0 ≤ p := by rw [← hp]; exact Int.ediv_nonneg (absI_nn _) (by omega)
  have q0 : 0 ≤ q := by rw [← hq]; exact Int.emod_nonneg _ (by omega)
  have q1 : q ≤ 18446744073709551615 := by
    have := Int.emod_lt_of_pos (absI (a * 1152921504606846976 + b)) (show (0 : Int) < 18446744073709551616 by omega)
    omega
  have V := fun w => div64_any p q D w p0 hc (by omega) q0 q1
  rw [hQ, hR] at V
  have Q0 : 0 ≤ Q := by rw [← hQ]; exact Int.ediv_nonneg (by omega) (by omega)
  have hz : (d == 0) = false := by simpa using hd
  replace S := hidden S
  replace A := hidden A
  replace V := hidden V
  clear hn hp hq hD hd hQ hR
  obtain ⟨sd, hsd⟩ : ∃ sd, decide (d < 0) = sd := ⟨_, rfl⟩
  rw [hsd] at hneg
  cases n <;> cases sd <;> simp only [Bool.true_bne, Bool.false_bne, Bool.not_true, Bool.not_false, Bool.true_eq_false] at hneg
  have hz2 : (Q + 1 == 0) = false := by simp; omega
  all_goals
   go_enter Try.func73, Try.ntmps73
   go_wp2_with (first | (go_at_call 71; refine (wvalid_any _ _ _).mono ?_; rintro e w' ⟨rfl, hb⟩; (try replace hb := below_undrew hb); (try replace hb := below_undrewN hb); obtain ⟨hcell, hfroz⟩ := bcell hb; have hz := hb.size; (try simp at hz); (try (have z6 := Nat.lt_of_lt_of_le z7 hz)); (try (have z7 := Nat.lt_of_lt_of_le z8 hz)); (try (have z8 := Nat.lt_of_lt_of_le z9 hz)); (try (have z9 := Nat.lt_of_lt_of_le (Nat.lt_succ_self _) hz)); (try (have z0 : w.heap.size < w'.heap.size := by omega)); (try (have z1 : w.heap.size + 1 < w'.heap.size := by omega)); (try (have z2 : w.heap.size + 1 + 1 < w'.heap.size := by omega)); (try (have z3 : w.heap.size + 1 + 1 + 1 < w'.heap.size := by omega)); (try (have y1 : w1.heap.size < w'.heap.size := by omega)); (try (have y2 : w2.heap.size < w'.heap.size := by omega)); (try (have y3 : w3.heap.size < w'.heap.size := by omega)); (try (have y4 : w4.heap.size < w'.heap.size := by omega)); (try (have y5 : w5.heap.size < w'.heap.size := by omega)); (try (have y6 : w6.heap.size < w'.heap.size := by omega))) | (go_at_call 77; refine (S.out _).mono ?_; rintro e w' ⟨rfl, hb⟩; (try replace hb := below_undrew hb); (try replace hb := below_undrewN hb); obtain ⟨hcell, hfroz⟩ := bcell hb; have hz := hb.size; (try simp at hz); (try (have z6 := Nat.lt_of_lt_of_le z7 hz)); (try (have z7 := Nat.lt_of_lt_of_le z8 hz)); (try (have z8 := Nat.lt_of_lt_of_le z9 hz)); (try (have z9 := Nat.lt_of_lt_of_le (Nat.lt_succ_self _) hz)); (try (have z0 : w.heap.size < w'.heap.size := by omega)); (try (have z1 : w.heap.size + 1 < w'.heap.size := by omega)); (try (have z2 : w.heap.size + 1 + 1 < w'.heap.size := by omega)); (try (have z3 : w.heap.size + 1 + 1 + 1 < w'.heap.size := by omega)); (try (have y1 : w1.heap.size < w'.heap.size := by omega)); (try (have y2 : w2.heap.size < w'.heap.size := by omega)); (try (have y3 : w3.heap.size < w'.heap.size := by omega)); (try (have y4 : w4.heap.size < w'.heap.size := by omega)); (try (have y5 : w5.heap.size < w'.heap.size := by omega)); (try (have y6 : w6.heap.size < w'.heap.size := by omega)); obtain ⟨w1, rfl⟩ : ∃ v, v = w' := ⟨_, rfl⟩) | (go_at_call 69; refine (A.out _).mono ?_; rintro e w' ⟨rfl, rfl⟩) | (go_at_call 78; refine (V.out _).mono ?_; rintro e w' ⟨rfl, nd, rfl⟩))
   go_ret2
   first | exact ⟨rfl, by (repeat (first | exact Below.refl _ _ | refine bl_drewN ?_ | refine bl_drew ?_ | refine bl_alloc ?_ _ | refine Below.setCell ?_ (by (first | (simp; done) | (simp; omega) | omega)) _ | refine bl_step (by assumption) ?_))⟩ | exact ⟨ret_two ⟨by (simp only [wrap64, IntKind.wrap_u64]; omega), rfl⟩, by (repeat (first | exact Below.refl _ _ | refine bl_drewN ?_ | refine bl_drew ?_ | refine bl_alloc ?_ _ | refine Below.setCell ?_ (by (first | (simp; done) | (simp; omega) | omega)) _ | refine bl_step (by assumption) ?_))⟩

set_option maxHeartbeats 1000000 in
theorem quo_uprx (a b d p q D Q R : Int) (n : Bool) (w : World) (h : wideB a b = true) (hd : d ≠ 0) (d1 : -9223372036854775808 ≤ d) (d2 : d ≤ 9223372036854775807)
    (hn : n = decide (a < 0)) (hp : absI (a * 1152921504606846976 + b) / 18446744073709551616 = p) (hq : absI (a * 1152921504606846976 + b) % 18446744073709551616 = q) (hD : absI d = D) (hc : p < D)
    (hneg : (n != decide (d < 0)) = false) (hQ : (p * 18446744073709551616 + q) / D = Q) (hR : (p * 18446744073709551616 + q) % D = R) (hr : 0 < R) (hf : 9223372036854775808 ≤ Q + 1) (hm : Q + 1 ≤ 18446744073709551615) :
    Calls Try.prog 73 #[.agg #[.int .i64 (a), .int .i64 (b)], .int .i64 d, .bool true] w fun e w' => e = .returned (.tuple #[.int .i64 (0), .int .i64 5]) ∧ Below w.heap.size w w' := by
  have S := fun w => sizeof_walk a b p q n w h hn hp hq
  have A := fun w => abs_any d w d1 d2
  rw [hD] at A
  have D0 : D ≤ 9223372036854775808 := by rw [← hD]; exact (absI_bd d d1 d2).2
  have p0 : 0 ≤ p := by rw [← hp]; exact Int.ediv_nonneg (absI_nn _) (by omega)
  have q0 : 0 ≤ q := by rw [← hq]; exact Int.emod_nonneg _ (by omega)
  have q1 : q ≤ 18446744073709551615 := by
    have := Int.emod_lt_of_pos (absI (a * 1152921504606846976 + b)) (show (0 : Int) < 18446744073709551616 by omega)
    omega
  have V := fun w => div64_any p q D w p0 hc (by omega) q0 q1
  rw [hQ, hR] at V
  have Q0 : 0 ≤ Q := by rw [← hQ]; exact Int.ediv_nonneg (by omega) (by omega)
  have hz : (d == 0) = false := by simpa using hd
  replace S := hidden S
  replace A := hidden A
  replace V := hidden V
  clear hn hp hq hD hd hQ hR
  obtain ⟨sd, hsd⟩ : ∃ sd, decide (d < 0) = sd := ⟨_, rfl⟩
  rw [hsd] at hneg
  cases n <;> cases sd <;> simp only [Bool.true_bne, Bool.false_bne, Bool.not_true, Bool.not_false, Bool.true_eq_false] at hneg
  have hz2 : (Q + 1 == 0) = false := by simp; omega
  all_goals
   go_enter Try.func73, Try.ntmps73
   go_wp2_with (first | (go_at_call 71; refine (wvalid_any _ _ _).mono ?_; rintro e w' ⟨rfl, hb⟩; (try replace hb := below_undrew hb); (try replace hb := below_undrewN hb); obtain ⟨hcell, hfroz⟩ := bcell hb; have hz := hb.size; (try simp at hz); (try (have z6 := Nat.lt_of_lt_of_le z7 hz)); (try (have z7 := Nat.lt_of_lt_of_le z8 hz)); (try (have z8 := Nat.lt_of_lt_of_le z9 hz)); (try (have z9 := Nat.lt_of_lt_of_le (Nat.lt_succ_self _) hz)); (try (have z0 : w.heap.size < w'.heap.size := by omega)); (try (have z1 : w.heap.size + 1 < w'.heap.size := by omega)); (try (have z2 : w.heap.size + 1 + 1 < w'.heap.size := by omega)); (try (have z3 : w.heap.size + 1 + 1 + 1 < w'.heap.size := by omega)); (try (have y1 : w1.heap.size < w'.heap.size := by omega)); (try (have y2 : w2.heap.size < w'.heap.size := by omega)); (try (have y3 : w3.heap.size < w'.heap.size := by omega)); (try (have y4 : w4.heap.size < w'.heap.size := by omega)); (try (have y5 : w5.heap.size < w'.heap.size := by omega)); (try (have y6 : w6.heap.size < w'.heap.size := by omega))) | (go_at_call 77; refine (S.out _).mono ?_; rintro e w' ⟨rfl, hb⟩; (try replace hb := below_undrew hb); (try replace hb := below_undrewN hb); obtain ⟨hcell, hfroz⟩ := bcell hb; have hz := hb.size; (try simp at hz); (try (have z6 := Nat.lt_of_lt_of_le z7 hz)); (try (have z7 := Nat.lt_of_lt_of_le z8 hz)); (try (have z8 := Nat.lt_of_lt_of_le z9 hz)); (try (have z9 := Nat.lt_of_lt_of_le (Nat.lt_succ_self _) hz)); (try (have z0 : w.heap.size < w'.heap.size := by omega)); (try (have z1 : w.heap.size + 1 < w'.heap.size := by omega)); (try (have z2 : w.heap.size + 1 + 1 < w'.heap.size := by omega)); (try (have z3 : w.heap.size + 1 + 1 + 1 < w'.heap.size := by omega)); (try (have y1 : w1.heap.size < w'.heap.size := by omega)); (try (have y2 : w2.heap.size < w'.heap.size := by omega)); (try (have y3 : w3.heap.size < w'.heap.size := by omega)); (try (have y4 : w4.heap.size < w'.heap.size := by omega)); (try (have y5 : w5.heap.size < w'.heap.size := by omega)); (try (have y6 : w6.heap.size < w'.heap.size := by omega)); obtain ⟨w1, rfl⟩ : ∃ v, v = w' := ⟨_, rfl⟩) | (go_at_call 69; refine (A.out _).mono ?_; rintro e w' ⟨rfl, rfl⟩) | (go_at_call 78; refine (V.out _).mono ?_; rintro e w' ⟨rfl, nd, rfl⟩))
   go_ret2
   first | exact ⟨rfl, by (repeat (first | exact Below.refl _ _ | refine bl_drewN ?_ | refine bl_drew ?_ | refine bl_alloc ?_ _ | refine Below.setCell ?_ (by (first | (simp; done) | (simp; omega) | omega)) _ | refine bl_step (by assumption) ?_))⟩ | exact ⟨ret_two ⟨by (simp only [wrap64, IntKind.wrap_u64]; omega), rfl⟩, by (repeat (first | exact Below.refl _ _ | refine bl_drewN ?_ | refine bl_drew ?_ | refine bl_alloc ?_ _ | refine Below.setCell ?_ (by (first | (simp; done) | (simp; omega) | omega)) _ | refine bl_step (by assumption) ?_))⟩

set_option maxHeartbeats 1000000 in
theorem quo_unzf (a b d p q D Q R : Int) (n : Bool) (w : World) (h : wideB a b = true) (hd : d ≠ 0) (d1 : -9223372036854775808 ≤ d) (d2 : d ≤ 9223372036854775807)
    (hn : n = decide (a < 0)) (hp : absI (a * 1152921504606846976 + b) / 18446744073709551616 = p) (hq : absI (a * 1152921504606846976 + b) % 18446744073709551616 = q) (hD : absI d = D) (hc : p < D)
    (hneg : (n != decide (d < 0)) = true) (hQ : (p * 18446744073709551616 + q) / D = Q) (hR : (p * 18446744073709551616 + q) % D = R) (hr : R ≤ 0) (hf : Q ≤ 9223372036854775808) (_hm : Q ≤ 18446744073709551615) :
    Calls Try.prog 73 #[.agg #[.int .i64 (a), .int .i64 (b)], .int .i64 d, .bool true] w fun e w' => e = .returned (.tuple #[.int .i64 (-(Q)), .int .i64 0]) ∧ Below w.heap.size w w' := by
  have S := fun w => sizeof_walk a b p q n w h hn hp hq
  have A := fun w => abs_any d w d1 d2
  rw [hD] at A
  have D0 : D ≤ 9223372036854775808 := by rw [← hD]; exact (absI_bd d d1 d2).2
  have p0 : 0 ≤ p := by rw [← hp]; exact Int.ediv_nonneg (absI_nn _) (by omega)
  have q0 : 0 ≤ q := by rw [← hq]; exact Int.emod_nonneg _ (by omega)
  have q1 : q ≤ 18446744073709551615 := by
    have := Int.emod_lt_of_pos (absI (a * 1152921504606846976 + b)) (show (0 : Int) < 18446744073709551616 by omega)
    omega
  have V := fun w => div64_any p q D w p0 hc (by omega) q0 q1
  rw [hQ, hR] at V
  have Q0 : 0 ≤ Q := by rw [← hQ]; exact Int.ediv_nonneg (by omega) (by omega)
  have hz : (d == 0) = false := by simpa using hd
  replace S := hidden S
  replace A := hidden A
  replace V := hidden V
  clear hn hp hq hD hd hQ hR
  obtain ⟨sd, hsd⟩ : ∃ sd, decide (d < 0) = sd := ⟨_, rfl⟩
  rw [hsd] at hneg
  cases n <;> cases sd <;> simp only [Bool.true_bne, Bool.false_bne, Bool.not_true, Bool.not_false, Bool.false_eq_true] at hneg
  all_goals
   go_enter Try.func73, Try.ntmps73
   go_wp2_with (first | (go_at_call 71; refine (wvalid_any _ _ _).mono ?_; rintro e w' ⟨rfl, hb⟩; (try replace hb := below_undrew hb); (try replace hb := below_undrewN hb); obtain ⟨hcell, hfroz⟩ := bcell hb; have hz := hb.size; (try simp at hz); (try (have z6 := Nat.lt_of_lt_of_le z7 hz)); (try (have z7 := Nat.lt_of_lt_of_le z8 hz)); (try (have z8 := Nat.lt_of_lt_of_le z9 hz)); (try (have z9 := Nat.lt_of_lt_of_le (Nat.lt_succ_self _) hz)); (try (have z0 : w.heap.size < w'.heap.size := by omega)); (try (have z1 : w.heap.size + 1 < w'.heap.size := by omega)); (try (have z2 : w.heap.size + 1 + 1 < w'.heap.size := by omega)); (try (have z3 : w.heap.size + 1 + 1 + 1 < w'.heap.size := by omega)); (try (have y1 : w1.heap.size < w'.heap.size := by omega)); (try (have y2 : w2.heap.size < w'.heap.size := by omega)); (try (have y3 : w3.heap.size < w'.heap.size := by omega)); (try (have y4 : w4.heap.size < w'.heap.size := by omega)); (try (have y5 : w5.heap.size < w'.heap.size := by omega)); (try (have y6 : w6.heap.size < w'.heap.size := by omega))) | (go_at_call 77; refine (S.out _).mono ?_; rintro e w' ⟨rfl, hb⟩; (try replace hb := below_undrew hb); (try replace hb := below_undrewN hb); obtain ⟨hcell, hfroz⟩ := bcell hb; have hz := hb.size; (try simp at hz); (try (have z6 := Nat.lt_of_lt_of_le z7 hz)); (try (have z7 := Nat.lt_of_lt_of_le z8 hz)); (try (have z8 := Nat.lt_of_lt_of_le z9 hz)); (try (have z9 := Nat.lt_of_lt_of_le (Nat.lt_succ_self _) hz)); (try (have z0 : w.heap.size < w'.heap.size := by omega)); (try (have z1 : w.heap.size + 1 < w'.heap.size := by omega)); (try (have z2 : w.heap.size + 1 + 1 < w'.heap.size := by omega)); (try (have z3 : w.heap.size + 1 + 1 + 1 < w'.heap.size := by omega)); (try (have y1 : w1.heap.size < w'.heap.size := by omega)); (try (have y2 : w2.heap.size < w'.heap.size := by omega)); (try (have y3 : w3.heap.size < w'.heap.size := by omega)); (try (have y4 : w4.heap.size < w'.heap.size := by omega)); (try (have y5 : w5.heap.size < w'.heap.size := by omega)); (try (have y6 : w6.heap.size < w'.heap.size := by omega)); obtain ⟨w1, rfl⟩ : ∃ v, v = w' := ⟨_, rfl⟩) | (go_at_call 69; refine (A.out _).mono ?_; rintro e w' ⟨rfl, rfl⟩) | (go_at_call 78; refine (V.out _).mono ?_; rintro e w' ⟨rfl, nd, rfl⟩))
   go_ret2
   first | exact ⟨rfl, by (repeat (first | exact Below.refl _ _ | refine bl_drewN ?_ | refine bl_drew ?_ | refine bl_alloc ?_ _ | refine Below.setCell ?_ (by (first | (simp; done) | (simp; omega) | omega)) _ | refine bl_step (by assumption) ?_))⟩ | exact ⟨ret_two ⟨by (simp only [wrap64, IntKind.wrap_u64]; omega), rfl⟩, by (repeat (first | exact Below.refl _ _ | refine bl_drewN ?_ | refine bl_drew ?_ | refine bl_alloc ?_ _ | refine Below.setCell ?_ (by (first | (simp; done) | (simp; omega) | omega)) _ | refine bl_step (by assumption) ?_))⟩

set_option maxHeartbeats 1000000 in
theorem quo_unzx (a b d p q D Q R : Int) (n : Bool) (w : World) (h : wideB a b = true) (hd : d ≠ 0) (d1 : -9223372036854775808 ≤ d) (d2 : d ≤ 9223372036854775807)
    (hn : n = decide (a < 0)) (hp : absI (a * 1152921504606846976 + b) / 18446744073709551616 = p) (hq : absI (a * 1152921504606846976 + b) % 18446744073709551616 = q) (hD : absI d = D) (hc : p < D)
    (hneg : (n != decide (d < 0)) = true) (hQ : (p * 18446744073709551616 + q) / D = Q) (hR : (p * 18446744073709551616 + q) % D = R) (hr : R ≤ 0) (hf : 9223372036854775808 < Q) (hm : Q ≤ 18446744073709551615) :
    Calls Try.prog 73 #[.agg #[.int .i64 (a), .int .i64 (b)], .int .i64 d, .bool true] w fun e w' => e = .returned (.tuple #[.int .i64 (0), .int .i64 5]) ∧ Below w.heap.size w w' := by
  have S := fun w => sizeof_walk a b p q n w h hn hp hq
  have A := fun w => abs_any d w d1 d2
  rw [hD] at A
  have D0 : D ≤ 9223372036854775808 := by rw [← hD]; exact (absI_bd d d1 d2).2
  have p0 : 0 ≤ p := by rw [← hp]; exact Int.ediv_nonneg (absI_nn _) (by omega)
  have q0 : 0 ≤ q := by rw [← hq]; exact Int.emod_nonneg _ (by omega)
  have q1 : q ≤ 18446744073709551615 := by
    have := Int.emod_lt_of_pos (absI (a * 1152921504606846976 + b)) (show (0 : Int) < 18446744073709551616 by omega)
    omega
  have V := fun w => div64_any p q D w p0 hc (by omega) q0 q1
  rw [hQ, hR] at V
  have Q0 : 0 ≤ Q := by rw [← hQ]; exact Int.ediv_nonneg (by omega) (by omega)
  have hz : (d == 0) = false := by simpa using hd
  replace S := hidden S
  replace A := hidden A
  replace V := hidden V
  clear hn hp hq hD hd hQ hR
  obtain ⟨sd, hsd⟩ : ∃ sd, decide (d < 0) = sd := ⟨_, rfl⟩
  rw [hsd] at hneg
  cases n <;> cases sd <;> simp only [Bool.true_bne, Bool.false_bne, Bool.not_true, Bool.not_false, Bool.false_eq_true] at hneg
  all_goals
   go_enter Try.func73, Try.ntmps73
   go_wp2_with (first | (go_at_call 71; refine (wvalid_any _ _ _).mono ?_; rintro e w' ⟨rfl, hb⟩; (try replace hb := below_undrew hb); (try replace hb := below_undrewN hb); obtain ⟨hcell, hfroz⟩ := bcell hb; have hz := hb.size; (try simp at hz); (try (have z6 := Nat.lt_of_lt_of_le z7 hz)); (try (have z7 := Nat.lt_of_lt_of_le z8 hz)); (try (have z8 := Nat.lt_of_lt_of_le z9 hz)); (try (have z9 := Nat.lt_of_lt_of_le (Nat.lt_succ_self _) hz)); (try (have z0 : w.heap.size < w'.heap.size := by omega)); (try (have z1 : w.heap.size + 1 < w'.heap.size := by omega)); (try (have z2 : w.heap.size + 1 + 1 < w'.heap.size := by omega)); (try (have z3 : w.heap.size + 1 + 1 + 1 < w'.heap.size := by omega)); (try (have y1 : w1.heap.size < w'.heap.size := by omega)); (try (have y2 : w2.heap.size < w'.heap.size := by omega)); (try (have y3 : w3.heap.size < w'.heap.size := by omega)); (try (have y4 : w4.heap.size < w'.heap.size := by omega)); (try (have y5 : w5.heap.size < w'.heap.size := by omega)); (try (have y6 : w6.heap.size < w'.heap.size := by omega))) | (go_at_call 77; refine (S.out _).mono ?_; rintro e w' ⟨rfl, hb⟩; (try replace hb := below_undrew hb); (try replace hb := below_undrewN hb); obtain ⟨hcell, hfroz⟩ := bcell hb; have hz := hb.size; (try simp at hz); (try (have z6 := Nat.lt_of_lt_of_le z7 hz)); (try (have z7 := Nat.lt_of_lt_of_le z8 hz)); (try (have z8 := Nat.lt_of_lt_of_le z9 hz)); (try (have z9 := Nat.lt_of_lt_of_le (Nat.lt_succ_self _) hz)); (try (have z0 : w.heap.size < w'.heap.size := by omega)); (try (have z1 : w.heap.size + 1 < w'.heap.size := by omega)); (try (have z2 : w.heap.size + 1 + 1 < w'.heap.size := by omega)); (try (have z3 : w.heap.size + 1 + 1 + 1 < w'.heap.size := by omega)); (try (have y1 : w1.heap.size < w'.heap.size := by omega)); (try (have y2 : w2.heap.size < w'.heap.size := by omega)); (try (have y3 : w3.heap.size < w'.heap.size := by omega)); (try (have y4 : w4.heap.size < w'.heap.size := by omega)); (try (have y5 : w5.heap.size < w'.heap.size := by omega)); (try (have y6 : w6.heap.size < w'.heap.size := by omega)); obtain ⟨w1, rfl⟩ : ∃ v, v = w' := ⟨_, rfl⟩) | (go_at_call 69; refine (A.out _).mono ?_; rintro e w' ⟨rfl, rfl⟩) | (go_at_call 78; refine (V.out _).mono ?_; rintro e w' ⟨rfl, nd, rfl⟩))
   go_ret2
   first | exact ⟨rfl, by (repeat (first | exact Below.refl _ _ | refine bl_drewN ?_ | refine bl_drew ?_ | refine bl_alloc ?_ _ | refine Below.setCell ?_ (by (first | (simp; done) | (simp; omega) | omega)) _ | refine bl_step (by assumption) ?_))⟩ | exact ⟨ret_two ⟨by (simp only [wrap64, IntKind.wrap_u64]; omega), rfl⟩, by (repeat (first | exact Below.refl _ _ | refine bl_drewN ?_ | refine bl_drew ?_ | refine bl_alloc ?_ _ | refine Below.setCell ?_ (by (first | (simp; done) | (simp; omega) | omega)) _ | refine bl_step (by assumption) ?_))⟩

set_option maxHeartbeats 1000000 in
theorem quo_unrf (a b d p q D Q R : Int) (n : Bool) (w : World) (h : wideB a b = true) (hd : d ≠ 0) (d1 : -9223372036854775808 ≤ d) (d2 : d ≤ 9223372036854775807)
    (hn : n = decide (a < 0)) (hp : absI (a * 1152921504606846976 + b) / 18446744073709551616 = p) (hq : absI (a * 1152921504606846976 + b) % 18446744073709551616 = q) (hD : absI d = D) (hc : p < D)
    (hneg : (n != decide (d < 0)) = true) (hQ : (p * 18446744073709551616 + q) / D = Q) (hR : (p * 18446744073709551616 + q) % D = R) (hr : 0 < R) (hf : Q ≤ 9223372036854775808) (_hm : Q ≤ 18446744073709551615) :
    Calls Try.prog 73 #[.agg #[.int .i64 (a), .int .i64 (b)], .int .i64 d, .bool true] w fun e w' => e = .returned (.tuple #[.int .i64 (-(Q)), .int .i64 0]) ∧ Below w.heap.size w w' := by
  have S := fun w => sizeof_walk a b p q n w h hn hp hq
  have A := fun w => abs_any d w d1 d2
  rw [hD] at A
  have D0 : D ≤ 9223372036854775808 := by rw [← hD]; exact (absI_bd d d1 d2).2
  have p0 : 0 ≤ p := by rw [← hp]; exact Int.ediv_nonneg (absI_nn _) (by omega)
  have q0 : 0 ≤ q := by rw [← hq]; exact Int.emod_nonneg _ (by omega)
  have q1 : q ≤ 18446744073709551615 := by
    have := Int.emod_lt_of_pos (absI (a * 1152921504606846976 + b)) (show (0 : Int) < 18446744073709551616 by omega)
    omega
  have V := fun w => div64_any p q D w p0 hc (by omega) q0 q1
  rw [hQ, hR] at V
  have Q0 : 0 ≤ Q := by rw [← hQ]; exact Int.ediv_nonneg (by omega) (by omega)
  have hz : (d == 0) = false := by simpa using hd
  replace S := hidden S
  replace A := hidden A
  replace V := hidden V
  clear hn hp hq hD hd hQ hR
  obtain ⟨sd, hsd⟩ : ∃ sd, decide (d < 0) = sd := ⟨_, rfl⟩
  rw [hsd] at hneg
  cases n <;> cases sd <;> simp only [Bool.true_bne, Bool.false_bne, Bool.not_true, Bool.not_false, Bool.false_eq_true] at hneg
  all_goals
   go_enter Try.func73, Try.ntmps73
   go_wp2_with (first | (go_at_call 71; refine (wvalid_any _ _ _).mono ?_; rintro e w' ⟨rfl, hb⟩; (try replace hb := below_undrew hb); (try replace hb := below_undrewN hb); obtain ⟨hcell, hfroz⟩ := bcell hb; have hz := hb.size; (try simp at hz); (try (have z6 := Nat.lt_of_lt_of_le z7 hz)); (try (have z7 := Nat.lt_of_lt_of_le z8 hz)); (try (have z8 := Nat.lt_of_lt_of_le z9 hz)); (try (have z9 := Nat.lt_of_lt_of_le (Nat.lt_succ_self _) hz)); (try (have z0 : w.heap.size < w'.heap.size := by omega)); (try (have z1 : w.heap.size + 1 < w'.heap.size := by omega)); (try (have z2 : w.heap.size + 1 + 1 < w'.heap.size := by omega)); (try (have z3 : w.heap.size + 1 + 1 + 1 < w'.heap.size := by omega)); (try (have y1 : w1.heap.size < w'.heap.size := by omega)); (try (have y2 : w2.heap.size < w'.heap.size := by omega)); (try (have y3 : w3.heap.size < w'.heap.size := by omega)); (try (have y4 : w4.heap.size < w'.heap.size := by omega)); (try (have y5 : w5.heap.size < w'.heap.size := by omega)); (try (have y6 : w6.heap.size < w'.heap.size := by omega))) | (go_at_call 77; refine (S.out _).mono ?_; rintro e w' ⟨rfl, hb⟩; (try replace hb := below_undrew hb); (try replace hb := below_undrewN hb); obtain ⟨hcell, hfroz⟩ := bcell hb; have hz := hb.size; (try simp at hz); (try (have z6 := Nat.lt_of_lt_of_le z7 hz)); (try (have z7 := Nat.lt_of_lt_of_le z8 hz)); (try (have z8 := Nat.lt_of_lt_of_le z9 hz)); (try (have z9 := Nat.lt_of_lt_of_le (Nat.lt_succ_self _) hz)); (try (have z0 : w.heap.size < w'.heap.size := by omega)); (try (have z1 : w.heap.size + 1 < w'.heap.size := by omega)); (try (have z2 : w.heap.size + 1 + 1 < w'.heap.size := by omega)); (try (have z3 : w.heap.size + 1 + 1 + 1 < w'.heap.size := by omega)); (try (have y1 : w1.heap.size < w'.heap.size := by omega)); (try (have y2 : w2.heap.size < w'.heap.size := by omega)); (try (have y3 : w3.heap.size < w'.heap.size := by omega)); (try (have y4 : w4.heap.size < w'.heap.size := by omega)); (try (have y5 : w5.heap.size < w'.heap.size := by omega)); (try (have y6 : w6.heap.size < w'.heap.size := by omega)); obtain ⟨w1, rfl⟩ : ∃ v, v = w' := ⟨_, rfl⟩) | (go_at_call 69; refine (A.out _).mono ?_; rintro e w' ⟨rfl, rfl⟩) | (go_at_call 78; refine (V.out _).mono ?_; rintro e w' ⟨rfl, nd, rfl⟩))
   go_ret2
   first | exact ⟨rfl, by (repeat (first | exact Below.refl _ _ | refine bl_drewN ?_ | refine bl_drew ?_ | refine bl_alloc ?_ _ | refine Below.setCell ?_ (by (first | (simp; done) | (simp; omega) | omega)) _ | refine bl_step (by assumption) ?_))⟩ | exact ⟨ret_two ⟨by (simp only [wrap64, IntKind.wrap_u64]; omega), rfl⟩, by (repeat (first | exact Below.refl _ _ | refine bl_drewN ?_ | refine bl_drew ?_ | refine bl_alloc ?_ _ | refine Below.setCell ?_ (by (first | (simp; done) | (simp; omega) | omega)) _ | refine bl_step (by assumption) ?_))⟩

set_option maxHeartbeats 1000000 in
theorem quo_unrx (a b d p q D Q R : Int) (n : Bool) (w : World) (h : wideB a b = true) (hd : d ≠ 0) (d1 : -9223372036854775808 ≤ d) (d2 : d ≤ 9223372036854775807)
    (hn : n = decide (a < 0)) (hp : absI (a * 1152921504606846976 + b) / 18446744073709551616 = p) (hq : absI (a * 1152921504606846976 + b) % 18446744073709551616 = q) (hD : absI d = D) (hc : p < D)
    (hneg : (n != decide (d < 0)) = true) (hQ : (p * 18446744073709551616 + q) / D = Q) (hR : (p * 18446744073709551616 + q) % D = R) (hr : 0 < R) (hf : 9223372036854775808 < Q) (hm : Q ≤ 18446744073709551615) :
    Calls Try.prog 73 #[.agg #[.int .i64 (a), .int .i64 (b)], .int .i64 d, .bool true] w fun e w' => e = .returned (.tuple #[.int .i64 (0), .int .i64 5]) ∧ Below w.heap.size w w' := by
  have S := fun w => sizeof_walk a b p q n w h hn hp hq
  have A := fun w => abs_any d w d1 d2
  rw [hD] at A
  have D0 : D ≤ 9223372036854775808 := by rw [← hD]; exact (absI_bd d d1 d2).2
  have p0 : 0 ≤ p := by rw [← hp]; exact Int.ediv_nonneg (absI_nn _) (by omega)
  have q0 : 0 ≤ q := by rw [← hq]; exact Int.emod_nonneg _ (by omega)
  have q1 : q ≤ 18446744073709551615 := by
    have := Int.emod_lt_of_pos (absI (a * 1152921504606846976 + b)) (show (0 : Int) < 18446744073709551616 by omega)
    omega
  have V := fun w => div64_any p q D w p0 hc (by omega) q0 q1
  rw [hQ, hR] at V
  have Q0 : 0 ≤ Q := by rw [← hQ]; exact Int.ediv_nonneg (by omega) (by omega)
  have hz : (d == 0) = false := by simpa using hd
  replace S := hidden S
  replace A := hidden A
  replace V := hidden V
  clear hn hp hq hD hd hQ hR
  obtain ⟨sd, hsd⟩ : ∃ sd, decide (d < 0) = sd := ⟨_, rfl⟩
  rw [hsd] at hneg
  cases n <;> cases sd <;> simp only [Bool.true_bne, Bool.false_bne, Bool.not_true, Bool.not_false, Bool.false_eq_true] at hneg
  all_goals
   go_enter Try.func73, Try.ntmps73
   go_wp2_with (first | (go_at_call 71; refine (wvalid_any _ _ _).mono ?_; rintro e w' ⟨rfl, hb⟩; (try replace hb := below_undrew hb); (try replace hb := below_undrewN hb); obtain ⟨hcell, hfroz⟩ := bcell hb; have hz := hb.size; (try simp at hz); (try (have z6 := Nat.lt_of_lt_of_le z7 hz)); (try (have z7 := Nat.lt_of_lt_of_le z8 hz)); (try (have z8 := Nat.lt_of_lt_of_le z9 hz)); (try (have z9 := Nat.lt_of_lt_of_le (Nat.lt_succ_self _) hz)); (try (have z0 : w.heap.size < w'.heap.size := by omega)); (try (have z1 : w.heap.size + 1 < w'.heap.size := by omega)); (try (have z2 : w.heap.size + 1 + 1 < w'.heap.size := by omega)); (try (have z3 : w.heap.size + 1 + 1 + 1 < w'.heap.size := by omega)); (try (have y1 : w1.heap.size < w'.heap.size := by omega)); (try (have y2 : w2.heap.size < w'.heap.size := by omega)); (try (have y3 : w3.heap.size < w'.heap.size := by omega)); (try (have y4 : w4.heap.size < w'.heap.size := by omega)); (try (have y5 : w5.heap.size < w'.heap.size := by omega)); (try (have y6 : w6.heap.size < w'.heap.size := by omega))) | (go_at_call 77; refine (S.out _).mono ?_; rintro e w' ⟨rfl, hb⟩; (try replace hb := below_undrew hb); (try replace hb := below_undrewN hb); obtain ⟨hcell, hfroz⟩ := bcell hb; have hz := hb.size; (try simp at hz); (try (have z6 := Nat.lt_of_lt_of_le z7 hz)); (try (have z7 := Nat.lt_of_lt_of_le z8 hz)); (try (have z8 := Nat.lt_of_lt_of_le z9 hz)); (try (have z9 := Nat.lt_of_lt_of_le (Nat.lt_succ_self _) hz)); (try (have z0 : w.heap.size < w'.heap.size := by omega)); (try (have z1 : w.heap.size + 1 < w'.heap.size := by omega)); (try (have z2 : w.heap.size + 1 + 1 < w'.heap.size := by omega)); (try (have z3 : w.heap.size + 1 + 1 + 1 < w'.heap.size := by omega)); (try (have y1 : w1.heap.size < w'.heap.size := by omega)); (try (have y2 : w2.heap.size < w'.heap.size := by omega)); (try (have y3 : w3.heap.size < w'.heap.size := by omega)); (try (have y4 : w4.heap.size < w'.heap.size := by omega)); (try (have y5 : w5.heap.size < w'.heap.size := by omega)); (try (have y6 : w6.heap.size < w'.heap.size := by omega)); obtain ⟨w1, rfl⟩ : ∃ v, v = w' := ⟨_, rfl⟩) | (go_at_call 69; refine (A.out _).mono ?_; rintro e w' ⟨rfl, rfl⟩) | (go_at_call 78; refine (V.out _).mono ?_; rintro e w' ⟨rfl, nd, rfl⟩))
   go_ret2
   first | exact ⟨rfl, by (repeat (first | exact Below.refl _ _ | refine bl_drewN ?_ | refine bl_drew ?_ | refine bl_alloc ?_ _ | refine Below.setCell ?_ (by (first | (simp; done) | (simp; omega) | omega)) _ | refine bl_step (by assumption) ?_))⟩ | exact ⟨ret_two ⟨by (simp only [wrap64, IntKind.wrap_u64]; omega), rfl⟩, by (repeat (first | exact Below.refl _ _ | refine bl_drewN ?_ | refine bl_drew ?_ | refine bl_alloc ?_ _ | refine Below.setCell ?_ (by (first | (simp; done) | (simp; omega) | omega)) _ | refine bl_step (by assumption) ?_))⟩

end Go.Proofs.Ytjceofmhodcefaa
